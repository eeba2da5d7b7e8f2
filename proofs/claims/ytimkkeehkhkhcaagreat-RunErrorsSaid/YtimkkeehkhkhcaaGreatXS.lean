import Derived.Test.YtimkkeehkhkhcaaGreatPvAE
import Derived.Test.YtimkkeehkhkhcaaGreatPvAG
import Derived.Test.YtimkkeehkhkhcaaGreatPvAO
import Derived.Test.YtimkkeehkhkhcaaGreatT87
import Derived.Test.YtimkkeehkhkhcaaGreatT88
import Derived.Test.YtimkkeehkhkhcaaGreatPvAI
import Derived.Test.YtimkkeehkhkhcaaGreatPvAJ
import Derived.Test.YtimkkeehkhkhcaaGreatPvAM
import Derived.Test.YtimkkeehkhkhcaaGreatProg
set_option linter.unusedVariables false
set_option linter.unusedSimpArgs false
namespace Go.Pv
open Go.Proofs
set_option maxRecDepth 100000
set_option maxHeartbeats 4000000
structure dB where
  fT:Int
  iX:Int
  bC:List Int
  Methods:List (List Int)
  iF:List (List Int)
  deriving DecidableEq,Inhabited
@[reducible] def dB.av (x:dB):List AV:=[int x.fT,int x.iX,aG 1 fI x.bC,aG 1 (fL 1 fI) x.Methods,aG 1 (fL 1 fI) x.iF]
theorem dB.fZ (x:dB):∀ a∈x.av,PV a:=l6
structure aI where
  s:List UInt8
  bad:Bool
  deriving DecidableEq,Inhabited
@[reducible] def aI.av (x:aI):List AV:=[str x.s,aA x.bad]
theorem aI.fZ (x:aI):∀ a∈x.av,PV a:=l6
structure aP where
  Kind:Int
  E:Int
  Item:Int
  Loc:Int
  To:Int
  dJ:Int
  fM:Int
  Ref:Int
  gU:List Int
  deriving DecidableEq,Inhabited
@[reducible] def aP.av (x:aP):List AV:=[int x.Kind,int x.E,int x.Item,int x.Loc,int x.To,int x.dJ,int x.fM,int x.Ref,aG 1 fI x.gU]
theorem aP.fZ (x:aP):∀ a∈x.av,PV a:=l6
structure pG where
  a0:List UInt8
  a1:List UInt8
  a2:List UInt8
  a3:List UInt8
  a4:List UInt8
  a5:List UInt8
  a6:List UInt8
  a7:List UInt8
  a8:List UInt8
  a9:List UInt8
  nQ:List UInt8
  oK:List UInt8
  a12:List UInt8
  rZ:List UInt8
  J5:List UInt8
  KR:List UInt8
  a16:List UInt8
  deriving DecidableEq,Inhabited
@[reducible] def pG.av (x:pG):List AV:=[str x.a0,str x.a1,str x.a2,str x.a3,str x.a4,str x.a5,str x.a6,str x.a7,str x.a8,str x.a9,str x.nQ,str x.oK,str x.a12,str x.rZ,str x.J5,str x.KR,str x.a16]
theorem pG.fZ (x:pG):∀ a∈x.av,PV a:=l6
structure bQ where
  dJ:Int
  Value:Int
  gP:Int
  deriving DecidableEq,Inhabited
@[reducible] def bQ.av (x:bQ):List AV:=[int x.dJ,int x.Value,int x.gP]
theorem bQ.fZ (x:bQ):∀ a∈x.av,PV a:=l6
structure jN where
  a0:Int
  a1:Int
  a2:Int
  deriving DecidableEq,Inhabited
@[reducible] def jN.av (x:jN):List AV:=[int x.a0,int x.a1,int x.a2]
theorem jN.fZ (x:jN):∀ a∈x.av,PV a:=l6
theorem jN.eqv (x y:jN):(decide (x.a0=y.a0) && (decide (x.a1=y.a1) && (decide (x.a2=y.a2) && true)))=decide (x=y):=by
  cases x;cases y;rw [Bool.eq_iff_iff];simp only [Bool.and_eq_true,decide_eq_true_eq,jN.mk.injEq,and_true]
structure aT where
  jA:List bQ
  dU:jN
  deriving DecidableEq,Inhabited
@[reducible] def aT.av (x:aT):List AV:=[aG 3 bQ.av x.jA,int x.dU.a0,int x.dU.a1,int x.dU.a2]
theorem aT.fZ (x:aT):∀ a∈x.av,PV a:=l6
structure bA where
  Open:Int
  jL:Int
  jE:Int
  iR:Int
  iJ:Int
  iB:Int
  gW:Int
  gL:Int
  gH:Int
  gD:Int
  fU:Int
  deriving DecidableEq,Inhabited
@[reducible] def bA.av (x:bA):List AV:=[int x.Open,int x.jL,int x.jE,int x.iR,int x.iJ,int x.iB,int x.gW,int x.gL,int x.gH,int x.gD,int x.fU]
theorem bA.fZ (x:bA):∀ a∈x.av,PV a:=l6
structure aH where
  jR:Int
  Closed:Bool
  gY:List aT
  jB:List Int
  iI:List bA
  iL:List Int
  Down:List Int
  iQ:List aH
  deriving Inhabited
mutual
def aH.av:aH->List AV
  | ⟨jR,Closed,gY,jB,iI,iL,Down,iQ⟩=>[int jR,aA Closed,aG 4 aT.av gY,aG 1 fI jB,aG 11 bA.av iI,aG 1 fI iL,aG 1 fI Down,.list 8 (aH.uG iQ)]
def aH.uG:List aH->List (List AV)
  | []=>[]
  | x :: r=>aH.av x :: aH.uG r
end
theorem aH.aEW (l:List aH):aH.uG l=l.map aH.av:=by
  induction l with
  | nil=>unfold aH.uG;rfl
  | cons x r ih=>unfold aH.uG;rw [ih];rfl
@[reducible] def gE (x:aH):List AV:=[int x.jR,aA x.Closed,aG 4 aT.av x.gY,aG 1 fI x.jB,aG 11 bA.av x.iI,aG 1 fI x.iL,aG 1 fI x.Down,aG 8 aH.av x.iQ]
theorem aH.gI (x:aH):aH.av x=[int x.jR,aA x.Closed,aG 4 aT.av x.gY,aG 1 fI x.jB,aG 11 bA.av x.iI,aG 1 fI x.iL,aG 1 fI x.Down,aG 8 aH.av x.iQ]:=by
  cases x;unfold aH.av;rw [aH.aEW]
theorem aH.one (x:aH):jF (aH.av x)=true:=by rw [aH.gI];rfl
mutual
theorem aH.fZ:∀ (x:aH),∀ a∈x.av,PV a
  | ⟨jR,Closed,gY,jB,iI,iL,Down,iQ⟩=>by
    intro a ha;unfold aH.av at ha;simp only [List.mem_cons,List.not_mem_nil,or_false] at ha
    rcases ha with rfl | rfl | rfl | rfl | rfl | rfl | rfl | rfl
    · exact xC jR
    · exact yE Closed
    · exact (qC aT.fZ) gY
    · exact (qC wI) jB
    · exact (qC bA.fZ) iI
    · exact (qC wI) iL
    · exact (qC wI) Down
    · exact .list (λr hr=>aH.SX iQ r hr)
theorem aH.SX:∀ (l:List aH),∀ r∈aH.uG l,∀ a∈r,PV a
  | []=>by intro r hr;unfold aH.uG at hr;cases hr
  | x :: l=>by
    intro r hr;unfold aH.uG at hr
    rcases List.mem_cons.1 hr with e | h
    · rw [e];exact aH.fZ x
    · exact aH.SX l r h
end
structure fP where
  rO:Int
  Item:Int
  Loc:Int
  dJ:Int
  Value:Int
  Open:Int
  pX:Int
  lJ:Int
  deriving DecidableEq,Inhabited
@[reducible] def fP.av (x:fP):List AV:=[int x.rO,int x.Item,int x.Loc,int x.dJ,int x.Value,int x.Open,int x.pX,int x.lJ]
theorem fP.fZ (x:fP):∀ a∈x.av,PV a:=l6
structure gV where
  rO:Int
  Item:Int
  Loc:Int
  dJ:Int
  lJ:Int
  qU:Int
  gP:Int
  qE:Int
  qO:Bool
  deriving DecidableEq,Inhabited
@[reducible] def gV.av (x:gV):List AV:=[int x.rO,int x.Item,int x.Loc,int x.dJ,int x.lJ,int x.qU,int x.gP,int x.qE,aA x.qO]
theorem gV.fZ (x:gV):∀ a∈x.av,PV a:=l6
structure iD where
  DR:Int
  To:Int
  Item:Int
  dJ:Int
  Value:Int
  gP:Int
  deriving DecidableEq,Inhabited
@[reducible] def iD.av (x:iD):List AV:=[int x.DR,int x.To,int x.Item,int x.dJ,int x.Value,int x.gP]
theorem iD.fZ (x:iD):∀ a∈x.av,PV a:=l6
structure bF where
  fJ:dB
  fO:List aH
  jD:List fP
  jP:List gV
  jW:List iD
  Done:Int
  deriving Inhabited
@[reducible] def bF.av (x:bF):List AV:=[int x.fJ.fT,int x.fJ.iX,aG 1 fI x.fJ.bC,aG 1 (fL 1 fI) x.fJ.Methods,aG 1 (fL 1 fI) x.fJ.iF,aG 8 aH.av x.fO,aG 8 fP.av x.jD,aG 9 gV.av x.jP,aG 6 iD.av x.jW,int x.Done]
theorem bF.fZ (x:bF):∀ a∈x.av,PV a:=l6
structure dK where
  sJ:Int
  fM:Int
  deriving DecidableEq,Inhabited
@[reducible] def dK.av (x:dK):List AV:=[int x.sJ,int x.fM]
theorem dK.fZ (x:dK):∀ a∈x.av,PV a:=l6
structure xA where
  deriving DecidableEq,Inhabited
@[reducible] def xA.av (x:xA):List AV:=[]
theorem xA.fZ (x:xA):∀ a∈x.av,PV a:=l6
structure wJ where
  deriving DecidableEq,Inhabited
@[reducible] def wJ.av (x:wJ):List AV:=[]
theorem wJ.fZ (x:wJ):∀ a∈x.av,PV a:=l6
structure wY where
  deriving DecidableEq,Inhabited
@[reducible] def wY.av (x:wY):List AV:=[]
theorem wY.fZ (x:wY):∀ a∈x.av,PV a:=l6
structure uI where
  dJ:Int
  Value:Int
  gP:Int
  Down:Int
  deriving DecidableEq,Inhabited
@[reducible] def uI.av (x:uI):List AV:=[int x.dJ,int x.Value,int x.gP,int x.Down]
theorem uI.fZ (x:uI):∀ a∈x.av,PV a:=l6
structure qL where
  jR:Int
  Items:List uI
  ZN:List dK
  jB:List Int
  deriving DecidableEq,Inhabited
@[reducible] def qL.av (x:qL):List AV:=[int x.jR,aG 4 uI.av x.Items,aG 2 dK.av x.ZN,aG 1 fI x.jB]
theorem qL.fZ (x:qL):∀ a∈x.av,PV a:=l6
theorem zQ:gF Tryz.prog 1=some (1,false):=by kernel_rfl
theorem kV:gF Tryz.prog 23=some (1,false):=by kernel_rfl
theorem T7:gF Tryz.prog 24=some (1,false):=by kernel_rfl
theorem xY:gF Tryz.prog 26=some (5,true):=by kernel_rfl
theorem wT:gF Tryz.prog 30=some (9,true):=by kernel_rfl
theorem J4:gF Tryz.prog 32=some (1,false):=by kernel_rfl
theorem sP:gF Tryz.prog 55=some (1,false):=by kernel_rfl
theorem vX:gF Tryz.prog 60=some (10,true):=by kernel_rfl
theorem lQ:gF Tryz.prog 81=some (1,false):=by kernel_rfl
theorem dM:gF Tryz.prog 84=some (1,false):=by kernel_rfl
theorem xR:gF Tryz.prog 107=some (1,false):=by kernel_rfl
theorem y8:gF Tryz.prog 108=some (1,false):=by kernel_rfl
theorem sQ:gF Tryz.prog 110=some (8,true):=by kernel_rfl
theorem kH:gF Tryz.prog 120=some (2,true):=by kernel_rfl
theorem sW:gF Tryz.prog 187=some (1,false):=by kernel_rfl
theorem yM:gF Tryz.prog 190=some (4,true):=by kernel_rfl
theorem B5:gF Tryz.prog 193=some (11,true):=by kernel_rfl
theorem LG:gF Tryz.prog 322=some (2,true):=by kernel_rfl
theorem BL:jK Tryz.prog 110=some 160:=by kernel_rfl
theorem Q5:jK Tryz.prog 120=some 16:=by kernel_rfl
theorem KA:jK Tryz.prog 138=some 64:=by kernel_rfl
theorem aCJ:jK Tryz.prog 140=some 72:=by kernel_rfl
theorem WZ:jK Tryz.prog 142=some 48:=by kernel_rfl
theorem DW:jK Tryz.prog 170=some 24:=by kernel_rfl
theorem ZQ:jK Tryz.prog 190=some 48:=by kernel_rfl
theorem YS:jK Tryz.prog 193=some 88:=by kernel_rfl
theorem uO:jK Tryz.prog 23=some 24:=by kernel_rfl
theorem mV:jK Tryz.prog 30=some 88:=by kernel_rfl
theorem aDU:jK Tryz.prog 33=some 8:=by kernel_rfl
theorem bz1:iW Tryz.prog 1=some (1,[.nilFunc]):=by kernel_rfl
theorem wK:iW Tryz.prog 110=some (8,[.int .i64 0,.bool false,.slice none 0 0,.slice none 0 0,.slice none 0 0,.slice none 0 0,.slice none 0 0,.slice none 0 0]):=by kernel_rfl
theorem yH:iW Tryz.prog 120=some (2,[.int .i64 0,.int .i64 0]):=by kernel_rfl
theorem AX:iW Tryz.prog 138=some (8,[.int .i64 0,.int .i64 0,.int .i64 0,.int .i64 0,.int .i64 0,.int .i64 0,.int .i64 0,.int .i64 0]):=by kernel_rfl
theorem aIN:iW Tryz.prog 140=some (9,[.int .i64 0,.int .i64 0,.int .i64 0,.int .i64 0,.int .i64 0,.int .i64 0,.int .i64 0,.int .i64 0,.bool false]):=by kernel_rfl
theorem YP:iW Tryz.prog 142=some (6,[.int .i64 0,.int .i64 0,.int .i64 0,.int .i64 0,.int .i64 0,.int .i64 0]):=by kernel_rfl
theorem xV:iW Tryz.prog 170=some (3,[.int .i64 0,.int .i64 0,.int .i64 0]):=by kernel_rfl
theorem YD:iW Tryz.prog 190=some (4,[.slice none 0 0,.int .i64 0,.int .i64 0,.int .i64 0]):=by kernel_rfl
theorem aBT:iW Tryz.prog 193=some (11,[.int .i64 0,.int .i64 0,.int .i64 0,.int .i64 0,.int .i64 0,.int .i64 0,.int .i64 0,.int .i64 0,.int .i64 0,.int .i64 0,.int .i64 0]):=by kernel_rfl
theorem pP:iW Tryz.prog 23=some (1,[.slice none 0 0]):=by kernel_rfl
theorem aIL:iW Tryz.prog 24=some (1,[.slice none 0 0]):=by kernel_rfl
theorem iU:iW Tryz.prog 30=some (9,[.int .i64 0,.int .i64 0,.int .i64 0,.int .i64 0,.int .i64 0,.int .i64 0,.int .i64 0,.int .i64 0,.slice none 0 0]):=by kernel_rfl
theorem WC:iW Tryz.prog 322=some (2,[.pointer none,.slice none 0 0]):=by kernel_rfl
theorem V7:iW Tryz.prog 33=some (1,[.int .i64 0]):=by kernel_rfl
theorem iH:iW Tryz.prog 84=some (1,[.pointer none]):=by kernel_rfl
theorem c3:Tryz.prog.cellsOf 3=1:=by kernel_rfl
theorem aEO:bD Tryz.prog 10=true:=by kernel_rfl
theorem PI:bD Tryz.prog 102=true:=by kernel_rfl
theorem G6:bD Tryz.prog 104=true:=by kernel_rfl
theorem DD:bD Tryz.prog 105=true:=by kernel_rfl
theorem IV:bD Tryz.prog 106=true:=by kernel_rfl
theorem U3:bD Tryz.prog 107=true:=by kernel_rfl
theorem OM:bD Tryz.prog 108=true:=by kernel_rfl
theorem uN:bD Tryz.prog 109=true:=by kernel_rfl
theorem Z7:bD Tryz.prog 11=true:=by kernel_rfl
theorem aCC:bD Tryz.prog 110=true:=by kernel_rfl
theorem aCA:bD Tryz.prog 111=true:=by kernel_rfl
theorem R7:bD Tryz.prog 112=true:=by kernel_rfl
theorem aE1:bD Tryz.prog 114=true:=by kernel_rfl
theorem B7:bD Tryz.prog 116=true:=by kernel_rfl
theorem zG:bD Tryz.prog 117=true:=by kernel_rfl
theorem C5:bD Tryz.prog 118=true:=by kernel_rfl
theorem CX:bD Tryz.prog 119=true:=by kernel_rfl
theorem aAA:bD Tryz.prog 12=true:=by kernel_rfl
theorem o6:bD Tryz.prog 120=true:=by kernel_rfl
theorem pO:bD Tryz.prog 121=true:=by kernel_rfl
theorem DY:bD Tryz.prog 122=true:=by kernel_rfl
theorem CF:bD Tryz.prog 123=true:=by kernel_rfl
theorem tF:bD Tryz.prog 124=true:=by kernel_rfl
theorem BP:bD Tryz.prog 125=true:=by kernel_rfl
theorem PU:bD Tryz.prog 126=true:=by kernel_rfl
theorem TW:bD Tryz.prog 127=true:=by kernel_rfl
theorem QF:bD Tryz.prog 128=true:=by kernel_rfl
theorem aJU:bD Tryz.prog 129=true:=by kernel_rfl
theorem uS:bD Tryz.prog 13=true:=by kernel_rfl
theorem XU:bD Tryz.prog 131=true:=by kernel_rfl
theorem zM:bD Tryz.prog 132=true:=by kernel_rfl
theorem aG9:bD Tryz.prog 135=true:=by kernel_rfl
theorem aI8:bD Tryz.prog 137=true:=by kernel_rfl
theorem UH:bD Tryz.prog 138=true:=by kernel_rfl
theorem aEI:bD Tryz.prog 139=true:=by kernel_rfl
theorem FT:bD Tryz.prog 14=true:=by kernel_rfl
theorem O1:bD Tryz.prog 140=true:=by kernel_rfl
theorem QL:bD Tryz.prog 141=true:=by kernel_rfl
theorem RO:bD Tryz.prog 142=true:=by kernel_rfl
theorem YU:bD Tryz.prog 143=true:=by kernel_rfl
theorem L8:bD Tryz.prog 144=true:=by kernel_rfl
theorem aFF:bD Tryz.prog 145=true:=by kernel_rfl
theorem VD:bD Tryz.prog 146=true:=by kernel_rfl
theorem DO:bD Tryz.prog 147=true:=by kernel_rfl
theorem VG:bD Tryz.prog 148=true:=by kernel_rfl
theorem uQ:bD Tryz.prog 149=true:=by kernel_rfl
theorem XT:bD Tryz.prog 15=true:=by kernel_rfl
theorem MW:bD Tryz.prog 153=true:=by kernel_rfl
theorem AF:bD Tryz.prog 154=true:=by kernel_rfl
theorem FL:bD Tryz.prog 155=true:=by kernel_rfl
theorem KY:bD Tryz.prog 156=true:=by kernel_rfl
theorem SO:bD Tryz.prog 157=true:=by kernel_rfl
theorem D4:bD Tryz.prog 158=true:=by kernel_rfl
theorem OZ:bD Tryz.prog 16=true:=by kernel_rfl
theorem OB:bD Tryz.prog 160=true:=by kernel_rfl
theorem OF:bD Tryz.prog 161=true:=by kernel_rfl
theorem YB:bD Tryz.prog 162=true:=by kernel_rfl
theorem X4:bD Tryz.prog 166=true:=by kernel_rfl
theorem aCT:bD Tryz.prog 17=true:=by kernel_rfl
theorem C7:bD Tryz.prog 173=true:=by kernel_rfl
theorem TE:bD Tryz.prog 174=true:=by kernel_rfl
theorem GH:bD Tryz.prog 175=true:=by kernel_rfl
theorem aB8:bD Tryz.prog 176=true:=by kernel_rfl
theorem XL:bD Tryz.prog 177=true:=by kernel_rfl
theorem aD4:bD Tryz.prog 178=true:=by kernel_rfl
theorem ZV:bD Tryz.prog 179=true:=by kernel_rfl
theorem MH:bD Tryz.prog 18=true:=by kernel_rfl
theorem aMA:bD Tryz.prog 180=true:=by kernel_rfl
theorem aGV:bD Tryz.prog 181=true:=by kernel_rfl
theorem aF1:bD Tryz.prog 182=true:=by kernel_rfl
theorem zZ:bD Tryz.prog 183=true:=by kernel_rfl
theorem aLS:bD Tryz.prog 184=true:=by kernel_rfl
theorem aEH:bD Tryz.prog 188=true:=by kernel_rfl
theorem J2:bD Tryz.prog 189=true:=by kernel_rfl
theorem aLK:bD Tryz.prog 19=true:=by kernel_rfl
theorem II:bD Tryz.prog 190=true:=by kernel_rfl
theorem qB:bD Tryz.prog 191=true:=by kernel_rfl
theorem SL:bD Tryz.prog 192=true:=by kernel_rfl
theorem aJK:bD Tryz.prog 195=true:=by kernel_rfl
theorem aGJ:bD Tryz.prog 196=true:=by kernel_rfl
theorem aIB:bD Tryz.prog 197=true:=by kernel_rfl
theorem aJP:bD Tryz.prog 198=true:=by kernel_rfl
theorem aEM:bD Tryz.prog 199=true:=by kernel_rfl
theorem QK:bD Tryz.prog 20=true:=by kernel_rfl
theorem aAX:bD Tryz.prog 200=true:=by kernel_rfl
theorem aDP:bD Tryz.prog 201=true:=by kernel_rfl
theorem RU:bD Tryz.prog 202=true:=by kernel_rfl
theorem WU:bD Tryz.prog 21=true:=by kernel_rfl
theorem OD:bD Tryz.prog 215=true:=by kernel_rfl
theorem FD:bD Tryz.prog 216=true:=by kernel_rfl
theorem aHR:bD Tryz.prog 217=true:=by kernel_rfl
theorem U0:bD Tryz.prog 218=true:=by kernel_rfl
theorem OL:bD Tryz.prog 22=true:=by kernel_rfl
theorem aK6:bD Tryz.prog 220=true:=by kernel_rfl
theorem MP:bD Tryz.prog 221=true:=by kernel_rfl
theorem aH6:bD Tryz.prog 222=true:=by kernel_rfl
theorem aKD:bD Tryz.prog 223=true:=by kernel_rfl
theorem aDR:bD Tryz.prog 224=true:=by kernel_rfl
theorem aB3:bD Tryz.prog 23=true:=by kernel_rfl
theorem ZK:bD Tryz.prog 230=true:=by kernel_rfl
theorem aI7:bD Tryz.prog 231=true:=by kernel_rfl
theorem WM:bD Tryz.prog 232=true:=by kernel_rfl
theorem LA:bD Tryz.prog 25=true:=by kernel_rfl
theorem aKF:bD Tryz.prog 250=true:=by kernel_rfl
theorem N7:bD Tryz.prog 252=true:=by kernel_rfl
theorem aH7:bD Tryz.prog 254=true:=by kernel_rfl
theorem X6:bD Tryz.prog 255=true:=by kernel_rfl
theorem aJT:bD Tryz.prog 259=true:=by kernel_rfl
theorem X9:bD Tryz.prog 26=true:=by kernel_rfl
theorem aBA:bD Tryz.prog 27=true:=by kernel_rfl
theorem KJ:bD Tryz.prog 272=true:=by kernel_rfl
theorem IB:bD Tryz.prog 28=true:=by kernel_rfl
theorem zN:bD Tryz.prog 30=true:=by kernel_rfl
theorem aIV:bD Tryz.prog 301=true:=by kernel_rfl
theorem aCM:bD Tryz.prog 302=true:=by kernel_rfl
theorem aAB:bD Tryz.prog 304=true:=by kernel_rfl
theorem LM:bD Tryz.prog 306=true:=by kernel_rfl
theorem aGB:bD Tryz.prog 307=true:=by kernel_rfl
theorem WN:bD Tryz.prog 309=true:=by kernel_rfl
theorem MO:bD Tryz.prog 31=true:=by kernel_rfl
theorem lD:bD Tryz.prog 32=true:=by kernel_rfl
theorem GK:bD Tryz.prog 33=true:=by kernel_rfl
theorem AP:bD Tryz.prog 34=true:=by kernel_rfl
theorem mD:bD Tryz.prog 35=true:=by kernel_rfl
theorem gG:bD Tryz.prog 37=true:=by kernel_rfl
theorem lM:bD Tryz.prog 38=true:=by kernel_rfl
theorem Z9:bD Tryz.prog 39=true:=by kernel_rfl
theorem TA:bD Tryz.prog 4=true:=by kernel_rfl
theorem UO:bD Tryz.prog 40=true:=by kernel_rfl
theorem aD2:bD Tryz.prog 41=true:=by kernel_rfl
theorem EK:bD Tryz.prog 43=true:=by kernel_rfl
theorem TZ:bD Tryz.prog 44=true:=by kernel_rfl
theorem aEF:bD Tryz.prog 46=true:=by kernel_rfl
theorem aBO:bD Tryz.prog 47=true:=by kernel_rfl
theorem ON:bD Tryz.prog 5=true:=by kernel_rfl
theorem o5:bD Tryz.prog 52=true:=by kernel_rfl
theorem aBN:bD Tryz.prog 54=true:=by kernel_rfl
theorem aEZ:bD Tryz.prog 55=true:=by kernel_rfl
theorem UT:bD Tryz.prog 58=true:=by kernel_rfl
theorem zC:bD Tryz.prog 59=true:=by kernel_rfl
theorem OP:bD Tryz.prog 6=true:=by kernel_rfl
theorem XK:bD Tryz.prog 60=true:=by kernel_rfl
theorem GC:bD Tryz.prog 61=true:=by kernel_rfl
theorem aDJ:bD Tryz.prog 62=true:=by kernel_rfl
theorem aB2:bD Tryz.prog 63=true:=by kernel_rfl
theorem US:bD Tryz.prog 64=true:=by kernel_rfl
theorem uJ:bD Tryz.prog 65=true:=by kernel_rfl
theorem uM:bD Tryz.prog 66=true:=by kernel_rfl
theorem BR:bD Tryz.prog 68=true:=by kernel_rfl
theorem OK:bD Tryz.prog 69=true:=by kernel_rfl
theorem xE:bD Tryz.prog 7=true:=by kernel_rfl
theorem qV:bD Tryz.prog 70=true:=by kernel_rfl
theorem VW:bD Tryz.prog 71=true:=by kernel_rfl
theorem D5:bD Tryz.prog 72=true:=by kernel_rfl
theorem lN:bD Tryz.prog 73=true:=by kernel_rfl
theorem aK5:bD Tryz.prog 75=true:=by kernel_rfl
theorem vS:bD Tryz.prog 77=true:=by kernel_rfl
theorem wN:bD Tryz.prog 78=true:=by kernel_rfl
theorem Y1:bD Tryz.prog 79=true:=by kernel_rfl
theorem KS:bD Tryz.prog 8=true:=by kernel_rfl
theorem QO:bD Tryz.prog 80=true:=by kernel_rfl
theorem aBM:bD Tryz.prog 81=true:=by kernel_rfl
theorem PY:bD Tryz.prog 82=true:=by kernel_rfl
theorem aGP:bD Tryz.prog 83=true:=by kernel_rfl
theorem LX:bD Tryz.prog 84=true:=by kernel_rfl
theorem jG:bD Tryz.prog 85=true:=by kernel_rfl
theorem Y0:bD Tryz.prog 86=true:=by kernel_rfl
theorem aMG:bD Tryz.prog 87=true:=by kernel_rfl
theorem VU:bD Tryz.prog 9=true:=by kernel_rfl
theorem YM:bD Tryz.prog 90=true:=by kernel_rfl
theorem sO:bD Tryz.prog 97=true:=by kernel_rfl
theorem TJ:jC Tryz.prog 110 0=some 0:=by kernel_rfl
theorem E5:jC Tryz.prog 110 1=some 1:=by kernel_rfl
theorem xM:jC Tryz.prog 110 2=some 2:=by kernel_rfl
theorem F4:jC Tryz.prog 110 3=some 3:=by kernel_rfl
theorem xJ:jC Tryz.prog 110 4=some 4:=by kernel_rfl
theorem MQ:jC Tryz.prog 110 5=some 5:=by kernel_rfl
theorem V4:jC Tryz.prog 110 6=some 6:=by kernel_rfl
theorem G4:jC Tryz.prog 110 7=some 7:=by kernel_rfl
theorem aAV:jC Tryz.prog 120 0=some 0:=by kernel_rfl
theorem NU:jC Tryz.prog 190 0=some 0:=by kernel_rfl
theorem wM:jC Tryz.prog 190 1=some 1:=by kernel_rfl
theorem TM:jC Tryz.prog 193 0=some 0:=by kernel_rfl
theorem VM:jC Tryz.prog 193 1=some 1:=by kernel_rfl
theorem RN:jC Tryz.prog 193 10=some 10:=by kernel_rfl
theorem PN:jC Tryz.prog 193 2=some 2:=by kernel_rfl
theorem NA:jC Tryz.prog 193 3=some 3:=by kernel_rfl
theorem NI:jC Tryz.prog 193 4=some 4:=by kernel_rfl
theorem RF:jC Tryz.prog 193 5=some 5:=by kernel_rfl
theorem QI:jC Tryz.prog 193 6=some 6:=by kernel_rfl
theorem MI:jC Tryz.prog 193 7=some 7:=by kernel_rfl
theorem VK:jC Tryz.prog 193 8=some 8:=by kernel_rfl
theorem OG:jC Tryz.prog 193 9=some 9:=by kernel_rfl
theorem l9:jC Tryz.prog 30 0=some 0:=by kernel_rfl
theorem ibx:Extern.findNext Tryz.f219=none:=by kernel_rfl
theorem iby:Extern.find Tryz.f219=some Extern.BytealgIndexByte.indexByte:=by kernel_rfl
theorem aGX:sU Tryz.prog 269 "purveyor/apply.do"=some 301:=by kernel_rfl
theorem aK3:sU Tryz.prog 277 "purveyor/pool.in"=some 302:=by kernel_rfl
theorem XA:sU Tryz.prog 278 "purveyor/pool.in"=some 304:=by kernel_rfl
theorem aD5:sU Tryz.prog 279 "purveyor/pool.in"=some 307:=by kernel_rfl
theorem ZR:vZ Tryz.prog 26=some [(0,1),(1,1),(2,1),(3,1),(4,1)]:=by kernel_rfl
theorem aCU:vZ Tryz.prog 30=some [(0,1),(1,1),(2,1),(3,1),(4,1),(5,1),(6,1),(7,1),(8,1)]:=by kernel_rfl
theorem sz3:((Tryz.prog.info? 3).map (·.size))=some 1:=by kernel_rfl
theorem aAQ:zeroOf Tryz.prog 110=some [.int .i64 0,.bool false,.slice none 0 0,.slice none 0 0,.slice none 0 0,.slice none 0 0,.slice none 0 0,.slice none 0 0]:=by kernel_rfl
theorem aLQ:zeroOf Tryz.prog 120=some [.int .i64 0,.int .i64 0]:=by kernel_rfl
theorem z127:zeroOf Tryz.prog 127=some [.nilFunc]:=by kernel_rfl
theorem z138:zeroOf Tryz.prog 138=some [.int .i64 0,.int .i64 0,.int .i64 0,.int .i64 0,.int .i64 0,.int .i64 0,.int .i64 0,.int .i64 0]:=by kernel_rfl
theorem aJA:zeroOf Tryz.prog 140=some [.int .i64 0,.int .i64 0,.int .i64 0,.int .i64 0,.int .i64 0,.int .i64 0,.int .i64 0,.int .i64 0,.bool false]:=by kernel_rfl
theorem aB5:zeroOf Tryz.prog 142=some [.int .i64 0,.int .i64 0,.int .i64 0,.int .i64 0,.int .i64 0,.int .i64 0]:=by kernel_rfl
theorem WX:zeroOf Tryz.prog 147=some [.nilFunc]:=by kernel_rfl
theorem aKC:zeroOf Tryz.prog 151=some [.nilFunc]:=by kernel_rfl
theorem z156:zeroOf Tryz.prog 156=some [.nilFunc]:=by kernel_rfl
theorem aI9:zeroOf Tryz.prog 161=some [.nilFunc]:=by kernel_rfl
theorem aDK:zeroOf Tryz.prog 170=some [.int .i64 0,.int .i64 0,.int .i64 0]:=by kernel_rfl
theorem aI6:zeroOf Tryz.prog 188=some [.int .i64 0,.int .i64 0,.int .i64 0]:=by kernel_rfl
theorem aEJ:zeroOf Tryz.prog 190=some [.slice none 0 0,.int .i64 0,.int .i64 0,.int .i64 0]:=by kernel_rfl
theorem z193:zeroOf Tryz.prog 193=some [.int .i64 0,.int .i64 0,.int .i64 0,.int .i64 0,.int .i64 0,.int .i64 0,.int .i64 0,.int .i64 0,.int .i64 0,.int .i64 0,.int .i64 0]:=by kernel_rfl
theorem aA8:zeroOf Tryz.prog 205=some [.nilFunc]:=by kernel_rfl
theorem aH8:zeroOf Tryz.prog 209=some [.nilFunc]:=by kernel_rfl
theorem z213:zeroOf Tryz.prog 213=some [.nilFunc]:=by kernel_rfl
theorem aDQ:zeroOf Tryz.prog 257=some [.nilFunc]:=by kernel_rfl
theorem z26:zeroOf Tryz.prog 26=some [.int .i64 0,.int .i64 0,.slice none 0 0,.slice none 0 0,.slice none 0 0]:=by kernel_rfl
theorem aAS:zeroOf Tryz.prog 277=some []:=by kernel_rfl
theorem aJN:zeroOf Tryz.prog 278=some []:=by kernel_rfl
theorem aFZ:zeroOf Tryz.prog 279=some []:=by kernel_rfl
theorem aMC:zeroOf Tryz.prog 295=some [.int .i64 0,.int .i64 0,.slice none 0 0,.slice none 0 0,.slice none 0 0,.slice none 0 0,.slice none 0 0,.slice none 0 0,.slice none 0 0,.int .i64 0]:=by kernel_rfl
theorem z3:zeroOf Tryz.prog 3=some [.int .i64 0]:=by kernel_rfl
theorem z30:zeroOf Tryz.prog 30=some [.int .i64 0,.int .i64 0,.int .i64 0,.int .i64 0,.int .i64 0,.int .i64 0,.int .i64 0,.int .i64 0,.slice none 0 0]:=by kernel_rfl
theorem z32:zeroOf Tryz.prog 32=some [.slice none 0 0]:=by kernel_rfl
theorem aJ4:zeroOf Tryz.prog 322=some [.pointer none,.slice none 0 0]:=by kernel_rfl
theorem z33:zeroOf Tryz.prog 33=some [.int .i64 0]:=by kernel_rfl
theorem XX:zeroOf Tryz.prog 330=some [.nilFunc,.nilFunc,.nilFunc]:=by kernel_rfl
theorem z41:zeroOf Tryz.prog 41=some [.int .i64 0,.slice none 0 0,.slice none 0 0,.slice none 0 0]:=by kernel_rfl
theorem z60:zeroOf Tryz.prog 60=some [.int .i64 0,.int .i64 0,.slice none 0 0,.slice none 0 0,.slice none 0 0,.slice none 0 0,.slice none 0 0,.slice none 0 0,.slice none 0 0,.int .i64 0]:=by kernel_rfl
theorem z75:zeroOf Tryz.prog 75=some [.pointer none]:=by kernel_rfl
theorem z82:zeroOf Tryz.prog 82=some [.string ⟨#[]⟩,.string ⟨#[]⟩,.string ⟨#[]⟩,.string ⟨#[]⟩,.string ⟨#[]⟩,.string ⟨#[]⟩,.string ⟨#[]⟩,.string ⟨#[]⟩,.string ⟨#[]⟩,.string ⟨#[]⟩,.string ⟨#[]⟩,.string ⟨#[]⟩,.string ⟨#[]⟩,.string ⟨#[]⟩,.string ⟨#[]⟩,.string ⟨#[]⟩,.string ⟨#[]⟩]:=by kernel_rfl
theorem z94:zeroOf Tryz.prog 94=some [.pointer none,.slice none 0 0,.pointer none]:=by kernel_rfl
theorem S8:zU Tryz.prog 279=true:=by kernel_rfl
theorem z1:zeroOf Tryz.prog 1=some [.nilFunc]:=by kernel_rfl
theorem z5:zeroOf Tryz.prog 5=some [.int .u8 0]:=by kernel_rfl
theorem z23:zeroOf Tryz.prog 23=some [.slice none 0 0]:=by kernel_rfl
theorem z24:zeroOf Tryz.prog 24=some [.slice none 0 0]:=by kernel_rfl
theorem z84:zeroOf Tryz.prog 84=some [.pointer none]:=by kernel_rfl
noncomputable section
def tb:iC:={ sh:=[(0,(1,false)),(1,(1,false)),(3,(1,false)),(4,(1,false)),(5,(1,false)),(23,(1,false)),(24,(1,false)),(26,(5,true)),(30,(9,true)),(31,(1,false)),(32,(1,false)),(33,(1,false)),(39,(1,false)),(41,(4,true)),(55,(1,false)),(56,(1,false)),(57,(1,false)),(58,(1,false)),(60,(10,true)),(75,(1,false)),(82,(17,true)),(84,(1,false)),(107,(1,false)),(108,(1,false)),(110,(8,true)),(120,(2,true)),(122,(1,false)),(127,(1,false)),(138,(8,true)),(140,(9,true)),(142,(6,true)),(144,(1,false)),(147,(1,true)),(149,(1,false)),(151,(1,true)),(154,(1,false)),(156,(1,true)),(159,(1,false)),(161,(1,true)),(170,(3,true)),(187,(1,false)),(188,(3,true)),(190,(4,true)),(193,(11,true)),(203,(1,false)),(207,(1,false)),(209,(1,true)),(211,(1,false)),(241,(1,false)),(255,(1,false)),(257,(1,true)),(271,(1,false)),(279,(0,true)),(295,(10,true)),(322,(2,true)),(328,(1,false)),(330,(3,true))],fo:=[((26,0),0),((26,1),1),((26,2),2),((26,3),3),((26,4),4),((30,0),0),((30,1),1),((30,2),2),((30,3),3),((30,4),4),((30,5),5),((30,6),6),((30,7),7),((30,8),8),((60,0),0),((60,1),5),((60,2),6),((60,3),7),((60,4),8),((60,5),9),((94,0),0),((94,1),2),((110,0),0),((110,1),1),((110,2),2),((110,3),3),((110,4),4),((110,5),5),((110,6),6),((110,7),7),((120,0),0),((120,1),1),((138,0),0),((138,1),1),((138,2),2),((138,3),3),((138,4),4),((138,5),5),((138,6),6),((138,7),7),((140,0),0),((140,1),1),((140,2),2),((140,3),3),((140,4),4),((140,5),5),((140,6),6),((140,7),7),((140,8),8),((142,0),0),((142,1),1),((142,2),2),((142,3),3),((142,4),4),((142,5),5),((147,0),0),((151,0),0),((156,0),0),((161,0),0),((170,0),0),((170,1),1),((170,2),2),((190,0),0),((190,1),1),((193,0),0),((193,1),1),((193,2),2),((193,3),3),((193,4),4),((193,5),5),((193,6),6),((193,7),7),((193,8),8),((193,9),9),((193,10),10),((205,0),0),((209,0),0),((213,0),0),((257,0),0),((295,0),0),((322,0),0),((322,1),1)],fp:=[((170,0),(0,3)),((190,0),(0,187)),((330,0),(0,328)),((330,2),(2,271))],ki:=[(3,.i64),(5,.u8),(21,.i32)],se:=[(23,3),(24,23),(31,30),(32,33),(37,5),(39,120),(55,110),(56,138),(57,140),(58,142),(107,190),(108,193),(187,170),(196,24),(225,84),(306,1),(323,322)],bl:=[(26,[(0,1),(1,1),(2,1),(3,1),(4,1)]),(30,[(0,1),(1,1),(2,1),(3,1),(4,1),(5,1),(6,1),(7,1),(8,1)]),(41,[(0,1),(1,1),(2,1),(3,1)]),(60,[(0,5),(5,1),(6,1),(7,1),(8,1),(9,1)]),(94,[(0,2),(2,1)]),(110,[(0,1),(1,1),(2,1),(3,1),(4,1),(5,1),(6,1),(7,1)]),(120,[(0,1),(1,1)]),(125,[(0,1),(1,1)]),(138,[(0,1),(1,1),(2,1),(3,1),(4,1),(5,1),(6,1),(7,1)]),(147,[(0,1)]),(151,[(0,1)]),(156,[(0,1)]),(161,[(0,1)]),(170,[(0,1),(1,1),(2,1)]),(193,[(0,1),(1,1),(2,1),(3,1),(4,1),(5,1),(6,1),(7,1),(8,1),(9,1),(10,1)]),(205,[(0,1)]),(209,[(0,1)]),(213,[(0,1)]),(257,[(0,1)]),(277,[]),(278,[]),(279,[]),(295,[(0,10)]),(322,[(0,1),(1,1)]),(330,[(0,1),(1,1),(2,1)])],zs:=[(1,[.nilFunc]),(3,[.int .i64 0]),(5,[.int .u8 0]),(23,[.slice none 0 0]),(24,[.slice none 0 0]),(26,[.int .i64 0,.int .i64 0,.slice none 0 0,.slice none 0 0,.slice none 0 0]),(30,[.int .i64 0,.int .i64 0,.int .i64 0,.int .i64 0,.int .i64 0,.int .i64 0,.int .i64 0,.int .i64 0,.slice none 0 0]),(33,[.int .i64 0]),(41,[.int .i64 0,.slice none 0 0,.slice none 0 0,.slice none 0 0]),(60,[.int .i64 0,.int .i64 0,.slice none 0 0,.slice none 0 0,.slice none 0 0,.slice none 0 0,.slice none 0 0,.slice none 0 0,.slice none 0 0,.int .i64 0]),(75,[.pointer none]),(82,[.string ⟨#[]⟩,.string ⟨#[]⟩,.string ⟨#[]⟩,.string ⟨#[]⟩,.string ⟨#[]⟩,.string ⟨#[]⟩,.string ⟨#[]⟩,.string ⟨#[]⟩,.string ⟨#[]⟩,.string ⟨#[]⟩,.string ⟨#[]⟩,.string ⟨#[]⟩,.string ⟨#[]⟩,.string ⟨#[]⟩,.string ⟨#[]⟩,.string ⟨#[]⟩,.string ⟨#[]⟩]),(84,[.pointer none]),(92,[.pointer none,.slice none 0 0]),(94,[.pointer none,.slice none 0 0,.pointer none]),(110,[.int .i64 0,.bool false,.slice none 0 0,.slice none 0 0,.slice none 0 0,.slice none 0 0,.slice none 0 0,.slice none 0 0]),(120,[.int .i64 0,.int .i64 0]),(125,[.string ⟨#[]⟩,.bool false]),(127,[.nilFunc]),(138,[.int .i64 0,.int .i64 0,.int .i64 0,.int .i64 0,.int .i64 0,.int .i64 0,.int .i64 0,.int .i64 0]),(140,[.int .i64 0,.int .i64 0,.int .i64 0,.int .i64 0,.int .i64 0,.int .i64 0,.int .i64 0,.int .i64 0,.bool false]),(142,[.int .i64 0,.int .i64 0,.int .i64 0,.int .i64 0,.int .i64 0,.int .i64 0]),(147,[.nilFunc]),(151,[.nilFunc]),(156,[.nilFunc]),(161,[.nilFunc]),(170,[.int .i64 0,.int .i64 0,.int .i64 0]),(190,[.slice none 0 0,.int .i64 0,.int .i64 0,.int .i64 0]),(193,[.int .i64 0,.int .i64 0,.int .i64 0,.int .i64 0,.int .i64 0,.int .i64 0,.int .i64 0,.int .i64 0,.int .i64 0,.int .i64 0,.int .i64 0]),(205,[.nilFunc]),(209,[.nilFunc]),(213,[.nilFunc]),(257,[.nilFunc]),(277,[]),(278,[]),(279,[]),(295,[.int .i64 0,.int .i64 0,.slice none 0 0,.slice none 0 0,.slice none 0 0,.slice none 0 0,.slice none 0 0,.slice none 0 0,.slice none 0 0,.int .i64 0]),(322,[.pointer none,.slice none 0 0]),(330,[.nilFunc,.nilFunc,.nilFunc])],bz:=[(1,1),(3,1),(5,1),(23,1),(24,1),(30,9),(84,1),(110,8),(120,2),(138,8),(170,3),(190,4),(193,11),(322,2)],bb:=[(3,8),(5,1),(23,24),(110,160),(120,16),(138,64),(170,24),(190,48),(193,88)],ar:=[(188,(3,3))] }
theorem aB:fE Tryz.prog tb:=⟨⟨by kernel_rfl,by kernel_rfl,by kernel_rfl⟩,by kernel_rfl,by kernel_rfl,by kernel_rfl,⟨z1,z3,z5,z23,z24,z26,z30,z33,z41,z60,z75,z82,z84,I8,z94,aAQ,aLQ,aMB,z127,z138,aJA,aB5,WX,aKC,z156,aI9,aDK,aEJ,z193,aA8,aH8,z213,aDQ,aAS,aJN,aFZ,aMC,aJ4,XX,trivial⟩,by kernel_rfl,by kernel_rfl,by kernel_rfl⟩
abbrev WB (R:Type):=WT Tryz.prog (.b R)
abbrev PZ {B:Type} (o:Option B) (k:FuncId) (args:List AV) (V:B->AV):Prop:=PQ Tryz.prog o k args V
theorem OJ {p:Prop} (h:p:=by intro r;repeat' (first | exact xC _ | exact yE _ | exact GY _ | exact EW _ _ | exact VV | exact .agg (dB.fZ _) | exact .agg (aI.fZ _) | exact .agg (aP.fZ _) | exact .agg (pG.fZ _) | exact .agg (bQ.fZ _) | exact .agg (jN.fZ _) | exact .agg (aT.fZ _) | exact .agg (bA.fZ _) | exact (aH.gI _ ▸ PV.agg (aH.fZ _)) | exact .agg (fP.fZ _) | exact .agg (gV.fZ _) | exact .agg (iD.fZ _) | exact .agg (bF.fZ _) | exact .agg (dK.fZ _) | exact .agg (xA.fZ _) | exact .agg (wJ.fZ _) | exact .agg (wY.fZ _) | exact .agg (uI.fZ _) | exact .agg (qL.fZ _) | refine .aM ?_ | refine T3 ?_ ?_ | refine qC ?_ _ | exact wI | exact MB | exact N6 | exact R8 _ | exact dB.fZ | exact aI.fZ | exact aP.fZ | exact pG.fZ | exact bQ.fZ | exact jN.fZ | exact aT.fZ | exact bA.fZ | exact aH.fZ | exact fP.fZ | exact gV.fZ | exact iD.fZ | exact bF.fZ | exact dK.fZ | exact xA.fZ | exact wJ.fZ | exact wY.fZ | exact uI.fZ | exact qL.fZ | refine P9 ?_)):p:=h
theorem wq {R:Type} {V:R->AV} {g:FuncId} {fn:Func} {ar:List AV} {t:WB R} (hf:Tryz.prog.funcs[g]?=some fn) (h:WP Tryz.prog tb 100000 ⟨fn.ntmps,false,[]⟩ t (.fn (JF tb fn.results.toList V) KI) (.c [wL fn]) (λt=>ar[t]?) H0 []:=by exact au) (hpv:∀ a,PV (V a):=by exact OJ) (hb:fn.body=some (wL fn):=by rfl) (hle:Nat.ble ar.length fn.ntmps=true:=by rfl):PZ t.run g ar V:=λ_ h0=>UI mixed aB V h0 hf hpv 100000 h hb hle
theorem wm {R:Type} {V:R->AV} {g:FuncId} {fn:Func} {ar:List AV} {t:WB R} (hf:Tryz.prog.funcs[g]?=some fn) (h:WP Tryz.prog tb 100000 ⟨fn.ntmps,false,[]⟩ t (.fn (JF tb fn.results.toList V) KI) (.c [wL fn]) (λt=>ar[t]?) H0 []) (hpv:∀ a,PV (V a):=by exact OJ) (hb:fn.body=some (wL fn):=by rfl) (hle:Nat.ble ar.length fn.ntmps=true:=by rfl):PZ t.run g ar V:=λ_ h0=>UI mixed aB V h0 hf hpv 100000 h hb hle
def eX (v:Int):Option (List UInt8):=cZ (-9223372036854775808<=v/\v<=9223372036854775807) <| some (enc v)
theorem fA {v:Int} {r:List UInt8} (h:eX v=some r):PP Tryz.prog 74 [int v] (λy=>y=str r):=by
  unfold eX at h;obtain ⟨p,h⟩:=dH h;obtain rfl:=eH h;exact K4 p
def rW (v:Int):Option (List UInt8):=cZ (-9223372036854775808<=v/\v<=9223372036854775807) <| some (enc v)
theorem vC {v:Int} {r:List UInt8} (h:rW v=some r):PP Tryz.prog 13 [int v] (λy=>y=str r):=by
  unfold rW at h;obtain ⟨p,h⟩:=dH h;obtain rfl:=eH h;exact aCV p
def yG (v:List Int):Option (List UInt8):=cZ ((∀ x∈v,-9223372036854775808<=x/\x<=9223372036854775807)/\v.length<=68719476736) <| some (sM v)
theorem EO {v:List Int} {r:List UInt8} (h:yG v=some r):PP Tryz.prog 43 [ints v] (λy=>y=str r):=by
  unfold yG at h;obtain ⟨p,h⟩:=dH h;obtain rfl:=eH h;exact aED p.1 p.2
theorem CE:rQ Tryz.prog 68 3 1 fI:=uW Tryz.func68 BR Tryz.underlying23 kR oP
theorem Y6 {H:AH} {id:Nat} {N:Int} (hid:H id=none) (hN:0<=N/\N<=1048576):PC Tryz.prog 114 [.sc (.slice none 0 0),int N] H (λy H'=>∃ aD,y=.sl id aD 0 0/\H'=upd H id (some ⟨23,1,true,true,aD,[]⟩)):=by
  refine jZ (c:=_) Tryz.func114 rfl rfl ?_;intro Q hret hnorm
  repeat (refine bR ?_)
  refine cB ?_;intro K hK
  refine st rfl rfl rfl (eO rfl rfl) ?_
  refine bT (hK _ ?_)
  repeat (refine bR ?_)
  refine cB ?_;intro K hK
  refine st rfl rfl rfl (bM rfl rfl) ?_
  refine st rfl rfl rfl (aN (y:=aA false) (oC rfl rfl rfl) (congrArg aA (decide_eq_false (by omega)))) ?_
  refine bT (hK _ ?_)
  refine rA rfl ?_
  refine kE ?_
  repeat (refine bR ?_)
  refine cB ?_;intro K hK
  refine st rfl rfl rfl (bM rfl rfl) ?_
  refine st rfl rfl rfl (bM rfl rfl) ?_
  refine st rfl rfl rfl (QU rfl Tryz.underlying24 rfl) ?_
  refine st rfl rfl rfl (bM rfl rfl) ?_
  refine st rfl rfl rfl (mY rfl Tryz.underlying24 rfl (.nil _ _ _)) ?_
  refine st rfl rfl rfl (IN (r:=0) rfl rfl rfl (by decide)) ?_
  refine st rfl rfl rfl (IN (r:=N) rfl rfl rfl (by rw [Int.sub_zero];exact wrap64 (by omega))) ?_
  refine st rfl rfl rfl (eO rfl rfl) ?_
  refine bT (hK _ ?_)
  repeat (refine bR ?_)
  refine cB ?_;intro K hK
  refine st rfl rfl rfl (bM rfl rfl) ?_
  refine st rfl rfl rfl (uX rfl rfl rfl) ?_
  refine bT (hK _ ?_)
  refine nV rfl ?_ ?_
  · intro hp
    repeat (refine bR ?_)
    refine cB ?_;intro K hK
    refine st rfl rfl rfl (bM rfl rfl) ?_
    refine st rfl rfl rfl (bM rfl rfl) ?_
    refine st rfl rfl rfl (QU rfl Tryz.underlying24 rfl) ?_
    refine st rfl rfl rfl (aFW rfl Tryz.underlying24 kV rfl .no (.yes rfl rfl)) ?_
    refine st rfl rfl rfl (bM rfl rfl) ?_
    refine se rfl rfl rfl (aKV (U2:=no) id .any rfl Tryz.underlying24 Tryz.underlying3 pP uO rfl rfl rfl ⟨hp,hN.2⟩ rfl) ?_;rintro _ _ ⟨v,-,rfl,rfl⟩
    refine st rfl rfl rfl (bM rfl rfl) ?_
    refine st rfl rfl rfl (mY rfl Tryz.underlying24 rfl (.nil _ _ _)) ?_
    refine st rfl rfl rfl (IK (i:=0) (j:=0) rfl Tryz.underlying24 kV rfl (upd_same _ _ _) rfl rfl .no (.yes rfl rfl) (Nat.le_refl _) (Nat.zero_le _) (.inr rfl)) ?_
    refine st rfl rfl rfl (eO rfl rfl) ?_
    refine bT (hK _ ?_)
    repeat (refine bR ?_)
    refine cB ?_;intro K hK
    refine st rfl rfl rfl (bM rfl rfl) ?_
    refine st rfl rfl rfl (eO rfl rfl) ?_
    refine bT (hK _ ?_)
    refine iZ (hret _ _ _ (.tmp rfl .nil) (λ_ _ h=>h) ?_)
    exact ⟨v,rfl,rfl⟩
  · intro hp
    refine kE ?_
    repeat (refine bR ?_)
    refine cB ?_;intro K hK
    refine st rfl rfl rfl (bM rfl rfl) ?_
    refine st rfl rfl rfl (eO rfl rfl) ?_
    refine bT (hK _ ?_)
    refine sH 4 id 23 1 rfl hid ?_;intro v
    refine iZ (hret _ _ _ (.tmp rfl .nil) (λ_ _ h=>h) ?_)
    exact ⟨v,rfl,rfl⟩
theorem yC:rQ Tryz.prog 132 110 8 aH.av:=uW Tryz.func132 zM Tryz.underlying55 wK BL
theorem PW:rQ Tryz.prog 142 120 2 dK.av:=uW Tryz.func142 RO Tryz.underlying39 yH Q5
theorem O9:rQ Tryz.prog 160 190 4 aT.av:=uW Tryz.func160 OB Tryz.underlying107 YD ZQ
theorem L3:rQ Tryz.prog 192 193 11 bA.av:=uW Tryz.func192 SL Tryz.underlying108 aBT YS
theorem MR:rQ Tryz.prog 202 138 8 fP.av:=uW Tryz.func202 RU Tryz.underlying56 AX KA
theorem FJ:rQ Tryz.prog 216 170 3 bQ.av:=uW Tryz.func216 FD Tryz.underlying187 xV DW
theorem aBZ {p:Prop} (h:p:=by first | exact CE | exact yC | exact PW | exact O9 | exact L3 | exact MR | exact FJ):p:=h
def aDV (a1:Int) (a2:Int) (a3:Int):WB (Bool) :=
 .jn 1 [] [] [] (λ_ (a:Bool)=>[(6,aA a)]) (λ_ _=>[]) (.bB 9 (decide (a1>=a2)) λx4=>.ifs [9] x4 (.bB 13 (decide (a1<=a3)) λx5=>.ret x5) (.ret false)) (λy0_1=>.ret ((y0_1:Bool)))
def vW (a1:Int) (a2:Int) (a3:Int):Option (Bool):=(aDV a1 a2 a3).run
theorem xX {a1 a2 a3}:PZ (vW a1 a2 a3) 59 [int a1,int a2,int a3] aA:=wq Tryz.func59
def aLB (a1:Int):WB (Bool) :=
 .cl 4 (vW a1 0 1073741824) zC xX λx2=>.ret ((x2:Bool))
def GM (a1:Int):Option (Bool):=(aLB a1).run
theorem ME {a1}:PZ (GM a1) 58 [int a1] aA:=wq Tryz.func58
def aLW (a1:Int):WB (Bool) :=
 .cl 4 (vW a1 1 4) zC xX λx2=>.ret ((x2:Bool))
def NM (a1:Int):Option (Bool):=(aLW a1).run
theorem aIW {a1}:PZ (NM a1) 62 [int a1] aA:=wq Tryz.func62
end
end Go.Pv
