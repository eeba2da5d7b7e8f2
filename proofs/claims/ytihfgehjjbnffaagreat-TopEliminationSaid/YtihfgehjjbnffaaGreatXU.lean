import Derived.Test.YtihfgehjjbnffaaGreatPvAG
import Derived.Test.YtihfgehjjbnffaaGreatPwK
import Derived.Test.YtihfgehjjbnffaaGreatPvAH
import Derived.Test.YtihfgehjjbnffaaGreatPvAI
import Derived.Test.YtihfgehjjbnffaaGreatPvAM
import Derived.Test.YtihfgehjjbnffaaGreatProg
set_option linter.unusedVariables false
set_option linter.unusedSimpArgs false
namespace Go.Pv
open Go.Proofs
theorem mixed:Tryz.prog.follows .mixedOrders=true:=by kernel_rfl
set_option maxRecDepth 100000
set_option maxHeartbeats 4000000
structure gD where
  fO:Int
  iB:Int
  bN:List Int
  Methods:List (List Int)
  fM:List (List Int)
  deriving DecidableEq,Inhabited
@[reducible] def gD.av (x:gD):List AV:=[int x.fO,int x.iB,aH 1 fI x.bN,aH 1 (fL 1 fI) x.Methods,aH 1 (fL 1 fI) x.fM]
theorem gD.dX (x:gD):∀ a∈x.av,PV a:=nA
structure aM where
  aS:Int
  Value:Int
  bE:Int
  deriving DecidableEq,Inhabited
@[reducible] def aM.av (x:aM):List AV:=[int x.aS,int x.Value,int x.bE]
theorem aM.dX (x:aM):∀ a∈x.av,PV a:=nA
structure jE where
  a0:Int
  a1:Int
  a2:Int
  deriving DecidableEq,Inhabited
@[reducible] def jE.av (x:jE):List AV:=[int x.a0,int x.a1,int x.a2]
theorem jE.dX (x:jE):∀ a∈x.av,PV a:=nA
theorem jE.eqv (x y:jE):(decide (x.a0=y.a0) && (decide (x.a1=y.a1) && (decide (x.a2=y.a2) && true)))=decide (x=y):=by
  cases x;cases y;rw [Bool.eq_iff_iff];simp only [Bool.and_eq_true,decide_eq_true_eq,jE.mk.injEq,and_true]
structure aT where
  bJ:List aM
  bR:jE
  deriving DecidableEq,Inhabited
@[reducible] def aT.av (x:aT):List AV:=[aH 3 aM.av x.bJ,int x.bR.a0,int x.bR.a1,int x.bR.a2]
theorem aT.dX (x:aT):∀ a∈x.av,PV a:=nA
structure dL where
  Open:Int
  lS:Int
  lJ:Int
  lM:Int
  lY:Int
  l9:Int
  lN:Int
  lW:Int
  l5:Int
  mD:Int
  lZ:Int
  deriving DecidableEq,Inhabited
@[reducible] def dL.av (x:dL):List AV:=[int x.Open,int x.lS,int x.lJ,int x.lM,int x.lY,int x.l9,int x.lN,int x.lW,int x.l5,int x.mD,int x.lZ]
theorem dL.dX (x:dL):∀ a∈x.av,PV a:=nA
structure aP where
  fD:Int
  Closed:Bool
  cK:List aT
  dM:List Int
  d9:List dL
  eH:List Int
  Down:List Int
  gK:List aP
  deriving Inhabited
mutual
def aP.av:aP->List AV
  | ⟨fD,Closed,cK,dM,d9,eH,Down,gK⟩=>[int fD,aI Closed,aH 4 aT.av cK,aH 1 fI dM,aH 11 dL.av d9,aH 1 fI eH,aH 1 fI Down,.list 8 (aP.yC gK)]
def aP.yC:List aP->List (List AV)
  | []=>[]
  | x :: r=>aP.av x :: aP.yC r
end
theorem aP.aNC (l:List aP):aP.yC l=l.map aP.av:=by
  induction l with
  | nil=>unfold aP.yC;rfl
  | cons x r ih=>unfold aP.yC;rw [ih];rfl
@[reducible] def gE (x:aP):List AV:=[int x.fD,aI x.Closed,aH 4 aT.av x.cK,aH 1 fI x.dM,aH 11 dL.av x.d9,aH 1 fI x.eH,aH 1 fI x.Down,aH 8 aP.av x.gK]
theorem aP.dA (x:aP):aP.av x=[int x.fD,aI x.Closed,aH 4 aT.av x.cK,aH 1 fI x.dM,aH 11 dL.av x.d9,aH 1 fI x.eH,aH 1 fI x.Down,aH 8 aP.av x.gK]:=by
  cases x;unfold aP.av;rw [aP.aNC]
theorem aP.one (x:aP):iW (aP.av x)=true:=by rw [aP.dA];rfl
mutual
theorem aP.dX:∀ (x:aP),∀ a∈x.av,PV a
  | ⟨fD,Closed,cK,dM,d9,eH,Down,gK⟩=>by
    intro a ha;unfold aP.av at ha;simp only [List.mem_cons,List.not_mem_nil,or_false] at ha
    rcases ha with rfl | rfl | rfl | rfl | rfl | rfl | rfl | rfl
    · exact vO fD
    · exact HV Closed
    · exact (qL aT.dX) cK
    · exact (qL wC) dM
    · exact (qL dL.dX) d9
    · exact (qL wC) eH
    · exact (qL wC) Down
    · exact .list (λr hr=>aP.aHS gK r hr)
theorem aP.aHS:∀ (l:List aP),∀ r∈aP.yC l,∀ a∈r,PV a
  | []=>by intro r hr;unfold aP.yC at hr;cases hr
  | x :: l=>by
    intro r hr;unfold aP.yC at hr
    rcases List.mem_cons.1 hr with e | h
    · rw [e];exact aP.dX x
    · exact aP.aHS l r h
end
structure dH where
  fG:Int
  Item:Int
  Loc:Int
  aS:Int
  Value:Int
  Open:Int
  pV:Int
  jJ:Int
  deriving DecidableEq,Inhabited
@[reducible] def dH.av (x:dH):List AV:=[int x.fG,int x.Item,int x.Loc,int x.aS,int x.Value,int x.Open,int x.pV,int x.jJ]
theorem dH.dX (x:dH):∀ a∈x.av,PV a:=nA
structure dV where
  fG:Int
  Item:Int
  Loc:Int
  aS:Int
  jJ:Int
  yD:Int
  bE:Int
  qT:Int
  qW:Bool
  deriving DecidableEq,Inhabited
@[reducible] def dV.av (x:dV):List AV:=[int x.fG,int x.Item,int x.Loc,int x.aS,int x.jJ,int x.yD,int x.bE,int x.qT,aI x.qW]
theorem dV.dX (x:dV):∀ a∈x.av,PV a:=nA
structure dD where
  yH:Int
  To:Int
  Item:Int
  aS:Int
  Value:Int
  bE:Int
  deriving DecidableEq,Inhabited
@[reducible] def dD.av (x:dD):List AV:=[int x.yH,int x.To,int x.Item,int x.aS,int x.Value,int x.bE]
theorem dD.dX (x:dD):∀ a∈x.av,PV a:=nA
structure aA where
  bF:gD
  aW:List aP
  dG:List dH
  dO:List dV
  bL:List dD
  Done:Int
  deriving Inhabited
@[reducible] def aA.av (x:aA):List AV:=[int x.bF.fO,int x.bF.iB,aH 1 fI x.bF.bN,aH 1 (fL 1 fI) x.bF.Methods,aH 1 (fL 1 fI) x.bF.fM,aH 8 aP.av x.aW,aH 8 dH.av x.dG,aH 9 dV.av x.dO,aH 6 dD.av x.bL,int x.Done]
theorem aA.dX (x:aA):∀ a∈x.av,PV a:=nA
structure bQ where
  Kind:Int
  E:Int
  Item:Int
  Loc:Int
  To:Int
  aS:Int
  bO:Int
  Ref:Int
  dQ:List Int
  deriving DecidableEq,Inhabited
@[reducible] def bQ.av (x:bQ):List AV:=[int x.Kind,int x.E,int x.Item,int x.Loc,int x.To,int x.aS,int x.bO,int x.Ref,aH 1 fI x.dQ]
theorem bQ.dX (x:bQ):∀ a∈x.av,PV a:=nA
structure aQ where
  jH:Int
  bO:Int
  deriving DecidableEq,Inhabited
@[reducible] def aQ.av (x:aQ):List AV:=[int x.jH,int x.bO]
theorem aQ.dX (x:aQ):∀ a∈x.av,PV a:=nA
structure CV where
  deriving DecidableEq,Inhabited
@[reducible] def CV.av (x:CV):List AV:=[]
theorem CV.dX (x:CV):∀ a∈x.av,PV a:=nA
structure B6 where
  deriving DecidableEq,Inhabited
@[reducible] def B6.av (x:B6):List AV:=[]
theorem B6.dX (x:B6):∀ a∈x.av,PV a:=nA
structure A8 where
  deriving DecidableEq,Inhabited
@[reducible] def A8.av (x:A8):List AV:=[]
theorem A8.dX (x:A8):∀ a∈x.av,PV a:=nA
structure CP where
  cost:Int
  deriving DecidableEq,Inhabited
@[reducible] def CP.av (x:CP):List AV:=[int x.cost]
theorem CP.dX (x:CP):∀ a∈x.av,PV a:=nA
structure sK where
  a0:List UInt8
  a1:List UInt8
  a2:List UInt8
  a3:List UInt8
  a4:List UInt8
  a5:List UInt8
  a6:List UInt8
  a7:List UInt8
  a8:List UInt8
  a9:List UInt8
  pQ:List UInt8
  oL:List UInt8
  a12:List UInt8
  yF:List UInt8
  KF:List UInt8
  FU:List UInt8
  a16:List UInt8
  deriving DecidableEq,Inhabited
@[reducible] def sK.av (x:sK):List AV:=[str x.a0,str x.a1,str x.a2,str x.a3,str x.a4,str x.a5,str x.a6,str x.a7,str x.a8,str x.a9,str x.pQ,str x.oL,str x.a12,str x.yF,str x.KF,str x.FU,str x.a16]
theorem sK.dX (x:sK):∀ a∈x.av,PV a:=nA
structure tV where
  a0:aM
  a1:aM
  a2:aM
  deriving DecidableEq,Inhabited
@[reducible] def tV.av (x:tV):List AV:=[int x.a0.aS,int x.a0.Value,int x.a0.bE,int x.a1.aS,int x.a1.Value,int x.a1.bE,int x.a2.aS,int x.a2.Value,int x.a2.bE]
theorem tV.dX (x:tV):∀ a∈x.av,PV a:=nA
structure CO where
  a0:Int
  a1:Int
  deriving DecidableEq,Inhabited
@[reducible] def CO.av (x:CO):List AV:=[int x.a0,int x.a1]
theorem CO.dX (x:CO):∀ a∈x.av,PV a:=nA
structure jU where
  aHZ:Int
  lines:List aQ
  deriving DecidableEq,Inhabited
@[reducible] def jU.av (x:jU):List AV:=[int x.aHZ,aH 2 aQ.av x.lines]
theorem jU.dX (x:jU):∀ a∈x.av,PV a:=nA
structure jG where
  aS:Int
  Value:Int
  bE:Int
  Down:Int
  deriving DecidableEq,Inhabited
@[reducible] def jG.av (x:jG):List AV:=[int x.aS,int x.Value,int x.bE,int x.Down]
theorem jG.dX (x:jG):∀ a∈x.av,PV a:=nA
structure nG where
  fD:Int
  Items:List jG
  aXF:List aQ
  dM:List Int
  deriving DecidableEq,Inhabited
@[reducible] def nG.av (x:nG):List AV:=[int x.fD,aH 4 jG.av x.Items,aH 2 aQ.av x.aXF,aH 1 fI x.dM]
theorem nG.dX (x:nG):∀ a∈x.av,PV a:=nA
theorem vX:eG Tryz.prog 1=some (1,false):=by kernel_rfl
theorem dP:eG Tryz.prog 3=some (1,false):=by kernel_rfl
theorem zI:eG Tryz.prog 4=some (1,false):=by kernel_rfl
theorem tN:eG Tryz.prog 22=some (1,false):=by kernel_rfl
theorem NV:eG Tryz.prog 23=some (1,false):=by kernel_rfl
theorem EV:eG Tryz.prog 28=some (1,false):=by kernel_rfl
theorem oP:eG Tryz.prog 33=some (10,true):=by kernel_rfl
theorem FK:eG Tryz.prog 36=some (9,true):=by kernel_rfl
theorem kD:eG Tryz.prog 38=some (3,true):=by kernel_rfl
theorem aPJ:eG Tryz.prog 39=some (1,false):=by kernel_rfl
theorem aIH:eG Tryz.prog 57=some (1,false):=by kernel_rfl
theorem wG:eG Tryz.prog 60=some (4,true):=by kernel_rfl
theorem vZ:eG Tryz.prog 63=some (1,false):=by kernel_rfl
theorem AJ:eG Tryz.prog 64=some (1,false):=by kernel_rfl
theorem o8:eG Tryz.prog 66=some (8,true):=by kernel_rfl
theorem kK:eG Tryz.prog 82=some (2,true):=by kernel_rfl
theorem SY:eG Tryz.prog 84=some (1,false):=by kernel_rfl
theorem aA7:eG Tryz.prog 105=some (1,false):=by kernel_rfl
theorem sJ:eG Tryz.prog 111=some (1,false):=by kernel_rfl
theorem KE:eG Tryz.prog 117=some (9,true):=by kernel_rfl
theorem PM:eG Tryz.prog 121=some (11,true):=by kernel_rfl
theorem XQ:eG Tryz.prog 133=some (1,false):=by kernel_rfl
theorem UO:eG Tryz.prog 140=some (2,true):=by kernel_rfl
theorem DO:eG Tryz.prog 152=some (1,true):=by kernel_rfl
theorem zL:eG Tryz.prog 183=some (1,false):=by kernel_rfl
theorem aXN:eG Tryz.prog 200=some (8,true):=by kernel_rfl
theorem TX:eG Tryz.prog 252=some (2,true):=by kernel_rfl
theorem aPY:lX Tryz.prog 117=some 72:=by kernel_rfl
theorem JD:lX Tryz.prog 121=some 88:=by kernel_rfl
theorem aCE:lX Tryz.prog 137=some 48:=by kernel_rfl
theorem aDV:lX Tryz.prog 200=some 64:=by kernel_rfl
theorem aAI:lX Tryz.prog 22=some 24:=by kernel_rfl
theorem lT:lX Tryz.prog 3=some 8:=by kernel_rfl
theorem aCF:lX Tryz.prog 38=some 24:=by kernel_rfl
theorem aWE:lX Tryz.prog 39=some 8:=by kernel_rfl
theorem OG:lX Tryz.prog 60=some 48:=by kernel_rfl
theorem O5:lX Tryz.prog 66=some 160:=by kernel_rfl
theorem GD:lX Tryz.prog 82=some 16:=by kernel_rfl
theorem bz1:iR Tryz.prog 1=some (1,[.nilFunc]):=by kernel_rfl
theorem sF:iR Tryz.prog 111=some (1,[.pointer none]):=by kernel_rfl
theorem aQZ:iR Tryz.prog 117=some (9,[.int .i64 0,.int .i64 0,.int .i64 0,.int .i64 0,.int .i64 0,.int .i64 0,.int .i64 0,.int .i64 0,.bool false]):=by kernel_rfl
theorem NC:iR Tryz.prog 121=some (11,[.int .i64 0,.int .i64 0,.int .i64 0,.int .i64 0,.int .i64 0,.int .i64 0,.int .i64 0,.int .i64 0,.int .i64 0,.int .i64 0,.int .i64 0]):=by kernel_rfl
theorem R6:iR Tryz.prog 137=some (6,[.int .i64 0,.int .i64 0,.int .i64 0,.int .i64 0,.int .i64 0,.int .i64 0]):=by kernel_rfl
theorem aQN:iR Tryz.prog 140=some (2,[.pointer none,.slice none 0 0]):=by kernel_rfl
theorem OW:iR Tryz.prog 200=some (8,[.int .i64 0,.int .i64 0,.int .i64 0,.int .i64 0,.int .i64 0,.int .i64 0,.int .i64 0,.int .i64 0]):=by kernel_rfl
theorem SS:iR Tryz.prog 22=some (1,[.slice none 0 0]):=by kernel_rfl
theorem aOM:iR Tryz.prog 252=some (2,[.pointer none,.slice none 0 0]):=by kernel_rfl
theorem aIW:iR Tryz.prog 266=some (2,[.int .i64 0,.slice none 0 0]):=by kernel_rfl
theorem iH:iR Tryz.prog 3=some (1,[.int .i64 0]):=by kernel_rfl
theorem aLN:iR Tryz.prog 36=some (9,[.int .i64 0,.int .i64 0,.int .i64 0,.int .i64 0,.int .i64 0,.int .i64 0,.int .i64 0,.int .i64 0,.slice none 0 0]):=by kernel_rfl
theorem OD:iR Tryz.prog 38=some (3,[.int .i64 0,.int .i64 0,.int .i64 0]):=by kernel_rfl
theorem XR:iR Tryz.prog 39=some (1,[.int .i64 0]):=by kernel_rfl
theorem PT:iR Tryz.prog 60=some (4,[.slice none 0 0,.int .i64 0,.int .i64 0,.int .i64 0]):=by kernel_rfl
theorem BU:iR Tryz.prog 66=some (8,[.int .i64 0,.bool false,.slice none 0 0,.slice none 0 0,.slice none 0 0,.slice none 0 0,.slice none 0 0,.slice none 0 0]):=by kernel_rfl
theorem qD:iR Tryz.prog 82=some (2,[.int .i64 0,.int .i64 0]):=by kernel_rfl
theorem c3:Tryz.prog.cellsOf 3=1:=by kernel_rfl
theorem aW3:bC Tryz.prog 10=true:=by kernel_rfl
theorem YR:bC Tryz.prog 100=true:=by kernel_rfl
theorem XY:bC Tryz.prog 101=true:=by kernel_rfl
theorem aE7:bC Tryz.prog 102=true:=by kernel_rfl
theorem aB8:bC Tryz.prog 103=true:=by kernel_rfl
theorem aAY:bC Tryz.prog 104=true:=by kernel_rfl
theorem aXY:bC Tryz.prog 105=true:=by kernel_rfl
theorem aHI:bC Tryz.prog 106=true:=by kernel_rfl
theorem ZE:bC Tryz.prog 107=true:=by kernel_rfl
theorem Y5:bC Tryz.prog 108=true:=by kernel_rfl
theorem aX2:bC Tryz.prog 109=true:=by kernel_rfl
theorem aJ3:bC Tryz.prog 11=true:=by kernel_rfl
theorem aFK:bC Tryz.prog 110=true:=by kernel_rfl
theorem aLH:bC Tryz.prog 111=true:=by kernel_rfl
theorem aE3:bC Tryz.prog 112=true:=by kernel_rfl
theorem aCQ:bC Tryz.prog 113=true:=by kernel_rfl
theorem aFL:bC Tryz.prog 114=true:=by kernel_rfl
theorem aR2:bC Tryz.prog 115=true:=by kernel_rfl
theorem vE:bC Tryz.prog 116=true:=by kernel_rfl
theorem ZS:bC Tryz.prog 117=true:=by kernel_rfl
theorem JB:bC Tryz.prog 118=true:=by kernel_rfl
theorem aAE:bC Tryz.prog 119=true:=by kernel_rfl
theorem aQR:bC Tryz.prog 12=true:=by kernel_rfl
theorem LU:bC Tryz.prog 120=true:=by kernel_rfl
theorem aUE:bC Tryz.prog 121=true:=by kernel_rfl
theorem aVQ:bC Tryz.prog 122=true:=by kernel_rfl
theorem yO:bC Tryz.prog 123=true:=by kernel_rfl
theorem NH:bC Tryz.prog 127=true:=by kernel_rfl
theorem G8:bC Tryz.prog 128=true:=by kernel_rfl
theorem aV5:bC Tryz.prog 129=true:=by kernel_rfl
theorem SC:bC Tryz.prog 13=true:=by kernel_rfl
theorem pE:bC Tryz.prog 130=true:=by kernel_rfl
theorem aR8:bC Tryz.prog 131=true:=by kernel_rfl
theorem aIO:bC Tryz.prog 132=true:=by kernel_rfl
theorem EZ:bC Tryz.prog 133=true:=by kernel_rfl
theorem aTQ:bC Tryz.prog 134=true:=by kernel_rfl
theorem aO2:bC Tryz.prog 135=true:=by kernel_rfl
theorem aB9:bC Tryz.prog 136=true:=by kernel_rfl
theorem aMX:bC Tryz.prog 137=true:=by kernel_rfl
theorem aPN:bC Tryz.prog 138=true:=by kernel_rfl
theorem aJ1:bC Tryz.prog 139=true:=by kernel_rfl
theorem aXL:bC Tryz.prog 14=true:=by kernel_rfl
theorem aIB:bC Tryz.prog 140=true:=by kernel_rfl
theorem aWR:bC Tryz.prog 141=true:=by kernel_rfl
theorem aL7:bC Tryz.prog 142=true:=by kernel_rfl
theorem aNI:bC Tryz.prog 147=true:=by kernel_rfl
theorem aNV:bC Tryz.prog 148=true:=by kernel_rfl
theorem KY:bC Tryz.prog 149=true:=by kernel_rfl
theorem aBF:bC Tryz.prog 15=true:=by kernel_rfl
theorem aOS:bC Tryz.prog 150=true:=by kernel_rfl
theorem aH9:bC Tryz.prog 151=true:=by kernel_rfl
theorem aQL:bC Tryz.prog 152=true:=by kernel_rfl
theorem aGY:bC Tryz.prog 153=true:=by kernel_rfl
theorem aKG:bC Tryz.prog 154=true:=by kernel_rfl
theorem DL:bC Tryz.prog 155=true:=by kernel_rfl
theorem BX:bC Tryz.prog 156=true:=by kernel_rfl
theorem aRG:bC Tryz.prog 157=true:=by kernel_rfl
theorem XA:bC Tryz.prog 158=true:=by kernel_rfl
theorem VU:bC Tryz.prog 159=true:=by kernel_rfl
theorem vT:bC Tryz.prog 16=true:=by kernel_rfl
theorem aMW:bC Tryz.prog 160=true:=by kernel_rfl
theorem aSE:bC Tryz.prog 161=true:=by kernel_rfl
theorem Y3:bC Tryz.prog 162=true:=by kernel_rfl
theorem aCX:bC Tryz.prog 163=true:=by kernel_rfl
theorem FN:bC Tryz.prog 164=true:=by kernel_rfl
theorem aLK:bC Tryz.prog 165=true:=by kernel_rfl
theorem QU:bC Tryz.prog 166=true:=by kernel_rfl
theorem aVR:bC Tryz.prog 167=true:=by kernel_rfl
theorem aNH:bC Tryz.prog 168=true:=by kernel_rfl
theorem XZ:bC Tryz.prog 169=true:=by kernel_rfl
theorem aRU:bC Tryz.prog 17=true:=by kernel_rfl
theorem aR9:bC Tryz.prog 170=true:=by kernel_rfl
theorem aMQ:bC Tryz.prog 171=true:=by kernel_rfl
theorem aHY:bC Tryz.prog 172=true:=by kernel_rfl
theorem aP9:bC Tryz.prog 173=true:=by kernel_rfl
theorem aWD:bC Tryz.prog 174=true:=by kernel_rfl
theorem aQ3:bC Tryz.prog 175=true:=by kernel_rfl
theorem uH:bC Tryz.prog 176=true:=by kernel_rfl
theorem aOE:bC Tryz.prog 177=true:=by kernel_rfl
theorem YQ:bC Tryz.prog 178=true:=by kernel_rfl
theorem qZ:bC Tryz.prog 179=true:=by kernel_rfl
theorem aI8:bC Tryz.prog 18=true:=by kernel_rfl
theorem aB5:bC Tryz.prog 180=true:=by kernel_rfl
theorem ZU:bC Tryz.prog 181=true:=by kernel_rfl
theorem aGD:bC Tryz.prog 182=true:=by kernel_rfl
theorem aBJ:bC Tryz.prog 183=true:=by kernel_rfl
theorem aCC:bC Tryz.prog 184=true:=by kernel_rfl
theorem D7:bC Tryz.prog 185=true:=by kernel_rfl
theorem aH7:bC Tryz.prog 186=true:=by kernel_rfl
theorem yG:bC Tryz.prog 188=true:=by kernel_rfl
theorem aN9:bC Tryz.prog 189=true:=by kernel_rfl
theorem aI9:bC Tryz.prog 19=true:=by kernel_rfl
theorem XB:bC Tryz.prog 190=true:=by kernel_rfl
theorem wH:bC Tryz.prog 191=true:=by kernel_rfl
theorem aAJ:bC Tryz.prog 192=true:=by kernel_rfl
theorem ZX:bC Tryz.prog 193=true:=by kernel_rfl
theorem TS:bC Tryz.prog 194=true:=by kernel_rfl
theorem aTM:bC Tryz.prog 195=true:=by kernel_rfl
theorem aRO:bC Tryz.prog 196=true:=by kernel_rfl
theorem DY:bC Tryz.prog 197=true:=by kernel_rfl
theorem aUC:bC Tryz.prog 198=true:=by kernel_rfl
theorem aRT:bC Tryz.prog 199=true:=by kernel_rfl
theorem OC:bC Tryz.prog 20=true:=by kernel_rfl
theorem aIV:bC Tryz.prog 200=true:=by kernel_rfl
theorem aTP:bC Tryz.prog 201=true:=by kernel_rfl
theorem aCB:bC Tryz.prog 202=true:=by kernel_rfl
theorem UT:bC Tryz.prog 203=true:=by kernel_rfl
theorem aHA:bC Tryz.prog 204=true:=by kernel_rfl
theorem aCR:bC Tryz.prog 205=true:=by kernel_rfl
theorem GN:bC Tryz.prog 206=true:=by kernel_rfl
theorem F3:bC Tryz.prog 208=true:=by kernel_rfl
theorem sG:bC Tryz.prog 209=true:=by kernel_rfl
theorem aV6:bC Tryz.prog 21=true:=by kernel_rfl
theorem aPZ:bC Tryz.prog 210=true:=by kernel_rfl
theorem YB:bC Tryz.prog 211=true:=by kernel_rfl
theorem aP8:bC Tryz.prog 212=true:=by kernel_rfl
theorem aRA:bC Tryz.prog 213=true:=by kernel_rfl
theorem aD8:bC Tryz.prog 214=true:=by kernel_rfl
theorem aNG:bC Tryz.prog 215=true:=by kernel_rfl
theorem aU1:bC Tryz.prog 216=true:=by kernel_rfl
theorem aQD:bC Tryz.prog 217=true:=by kernel_rfl
theorem aFE:bC Tryz.prog 219=true:=by kernel_rfl
theorem aQI:bC Tryz.prog 22=true:=by kernel_rfl
theorem aJ6:bC Tryz.prog 220=true:=by kernel_rfl
theorem aLQ:bC Tryz.prog 221=true:=by kernel_rfl
theorem aJ0:bC Tryz.prog 222=true:=by kernel_rfl
theorem TA:bC Tryz.prog 223=true:=by kernel_rfl
theorem VQ:bC Tryz.prog 224=true:=by kernel_rfl
theorem aLF:bC Tryz.prog 225=true:=by kernel_rfl
theorem aMF:bC Tryz.prog 226=true:=by kernel_rfl
theorem aRS:bC Tryz.prog 229=true:=by kernel_rfl
theorem wT:bC Tryz.prog 23=true:=by kernel_rfl
theorem aPU:bC Tryz.prog 24=true:=by kernel_rfl
theorem aMV:bC Tryz.prog 248=true:=by kernel_rfl
theorem aPB:bC Tryz.prog 249=true:=by kernel_rfl
theorem aVN:bC Tryz.prog 25=true:=by kernel_rfl
theorem aOB:bC Tryz.prog 250=true:=by kernel_rfl
theorem aT1:bC Tryz.prog 251=true:=by kernel_rfl
theorem UE:bC Tryz.prog 252=true:=by kernel_rfl
theorem aOF:bC Tryz.prog 253=true:=by kernel_rfl
theorem aQ2:bC Tryz.prog 254=true:=by kernel_rfl
theorem aQ8:bC Tryz.prog 255=true:=by kernel_rfl
theorem aL8:bC Tryz.prog 256=true:=by kernel_rfl
theorem aMM:bC Tryz.prog 257=true:=by kernel_rfl
theorem aM8:bC Tryz.prog 258=true:=by kernel_rfl
theorem aJQ:bC Tryz.prog 259=true:=by kernel_rfl
theorem aVJ:bC Tryz.prog 26=true:=by kernel_rfl
theorem aTY:bC Tryz.prog 260=true:=by kernel_rfl
theorem yT:bC Tryz.prog 261=true:=by kernel_rfl
theorem aE8:bC Tryz.prog 27=true:=by kernel_rfl
theorem pP:bC Tryz.prog 28=true:=by kernel_rfl
theorem aUR:bC Tryz.prog 29=true:=by kernel_rfl
theorem aP5:bC Tryz.prog 30=true:=by kernel_rfl
theorem aPH:bC Tryz.prog 31=true:=by kernel_rfl
theorem PG:bC Tryz.prog 32=true:=by kernel_rfl
theorem nU:bC Tryz.prog 33=true:=by kernel_rfl
theorem V8:bC Tryz.prog 34=true:=by kernel_rfl
theorem pF:bC Tryz.prog 35=true:=by kernel_rfl
theorem xJ:bC Tryz.prog 36=true:=by kernel_rfl
theorem aTJ:bC Tryz.prog 37=true:=by kernel_rfl
theorem JA:bC Tryz.prog 38=true:=by kernel_rfl
theorem IN:bC Tryz.prog 39=true:=by kernel_rfl
theorem aHW:bC Tryz.prog 4=true:=by kernel_rfl
theorem aWZ:bC Tryz.prog 40=true:=by kernel_rfl
theorem AN:bC Tryz.prog 41=true:=by kernel_rfl
theorem yZ:bC Tryz.prog 42=true:=by kernel_rfl
theorem yX:bC Tryz.prog 43=true:=by kernel_rfl
theorem aSL:bC Tryz.prog 44=true:=by kernel_rfl
theorem aHB:bC Tryz.prog 45=true:=by kernel_rfl
theorem aER:bC Tryz.prog 46=true:=by kernel_rfl
theorem B9:bC Tryz.prog 47=true:=by kernel_rfl
theorem aO9:bC Tryz.prog 48=true:=by kernel_rfl
theorem aKH:bC Tryz.prog 49=true:=by kernel_rfl
theorem aC2:bC Tryz.prog 5=true:=by kernel_rfl
theorem vC:bC Tryz.prog 50=true:=by kernel_rfl
theorem tJ:bC Tryz.prog 51=true:=by kernel_rfl
theorem aMO:bC Tryz.prog 52=true:=by kernel_rfl
theorem DX:bC Tryz.prog 53=true:=by kernel_rfl
theorem aR0:bC Tryz.prog 54=true:=by kernel_rfl
theorem aW1:bC Tryz.prog 55=true:=by kernel_rfl
theorem aDX:bC Tryz.prog 56=true:=by kernel_rfl
theorem aLC:bC Tryz.prog 57=true:=by kernel_rfl
theorem aQT:bC Tryz.prog 58=true:=by kernel_rfl
theorem YU:bC Tryz.prog 59=true:=by kernel_rfl
theorem aVP:bC Tryz.prog 6=true:=by kernel_rfl
theorem aUT:bC Tryz.prog 60=true:=by kernel_rfl
theorem nM:bC Tryz.prog 61=true:=by kernel_rfl
theorem aWM:bC Tryz.prog 62=true:=by kernel_rfl
theorem aS5:bC Tryz.prog 63=true:=by kernel_rfl
theorem aSC:bC Tryz.prog 64=true:=by kernel_rfl
theorem aWV:bC Tryz.prog 65=true:=by kernel_rfl
theorem PR:bC Tryz.prog 66=true:=by kernel_rfl
theorem aRY:bC Tryz.prog 67=true:=by kernel_rfl
theorem IM:bC Tryz.prog 68=true:=by kernel_rfl
theorem aS6:bC Tryz.prog 69=true:=by kernel_rfl
theorem yP:bC Tryz.prog 7=true:=by kernel_rfl
theorem aP2:bC Tryz.prog 70=true:=by kernel_rfl
theorem aUK:bC Tryz.prog 71=true:=by kernel_rfl
theorem aTL:bC Tryz.prog 72=true:=by kernel_rfl
theorem aO7:bC Tryz.prog 73=true:=by kernel_rfl
theorem aIG:bC Tryz.prog 74=true:=by kernel_rfl
theorem aQH:bC Tryz.prog 75=true:=by kernel_rfl
theorem aK1:bC Tryz.prog 76=true:=by kernel_rfl
theorem aN0:bC Tryz.prog 77=true:=by kernel_rfl
theorem aUI:bC Tryz.prog 78=true:=by kernel_rfl
theorem WH:bC Tryz.prog 79=true:=by kernel_rfl
theorem UD:bC Tryz.prog 8=true:=by kernel_rfl
theorem vL:bC Tryz.prog 80=true:=by kernel_rfl
theorem xI:bC Tryz.prog 81=true:=by kernel_rfl
theorem zX:bC Tryz.prog 82=true:=by kernel_rfl
theorem YT:bC Tryz.prog 83=true:=by kernel_rfl
theorem UP:bC Tryz.prog 84=true:=by kernel_rfl
theorem y7:bC Tryz.prog 85=true:=by kernel_rfl
theorem aCG:bC Tryz.prog 86=true:=by kernel_rfl
theorem aN3:bC Tryz.prog 87=true:=by kernel_rfl
theorem aJP:bC Tryz.prog 88=true:=by kernel_rfl
theorem aS0:bC Tryz.prog 89=true:=by kernel_rfl
theorem aBI:bC Tryz.prog 9=true:=by kernel_rfl
theorem aJU:bC Tryz.prog 90=true:=by kernel_rfl
theorem aX7:bC Tryz.prog 91=true:=by kernel_rfl
theorem aOU:bC Tryz.prog 92=true:=by kernel_rfl
theorem aIZ:bC Tryz.prog 93=true:=by kernel_rfl
theorem QY:bC Tryz.prog 94=true:=by kernel_rfl
theorem WG:bC Tryz.prog 95=true:=by kernel_rfl
theorem CL:bC Tryz.prog 96=true:=by kernel_rfl
theorem aTB:bC Tryz.prog 97=true:=by kernel_rfl
theorem aCL:bC Tryz.prog 98=true:=by kernel_rfl
theorem tO:bC Tryz.prog 99=true:=by kernel_rfl
theorem aMC:lF Tryz.prog 117 5=some 5:=by kernel_rfl
theorem aQE:lF Tryz.prog 117 6=some 6:=by kernel_rfl
theorem aJ7:lF Tryz.prog 121 0=some 0:=by kernel_rfl
theorem aFP:lF Tryz.prog 25 2=some 2:=by kernel_rfl
theorem aH0:lF Tryz.prog 25 3=some 3:=by kernel_rfl
theorem aCS:lF Tryz.prog 25 4=some 4:=by kernel_rfl
theorem aJW:lF Tryz.prog 36 0=some 0:=by kernel_rfl
theorem KW:lF Tryz.prog 38 0=some 0:=by kernel_rfl
theorem xE:lF Tryz.prog 38 1=some 1:=by kernel_rfl
theorem K6:lF Tryz.prog 38 2=some 2:=by kernel_rfl
theorem aXS:lF Tryz.prog 60 0=some 0:=by kernel_rfl
theorem T4:lF Tryz.prog 66 0=some 0:=by kernel_rfl
theorem aCW:lF Tryz.prog 66 1=some 1:=by kernel_rfl
theorem vV:lF Tryz.prog 66 2=some 2:=by kernel_rfl
theorem aV7:lF Tryz.prog 66 3=some 3:=by kernel_rfl
theorem zO:lF Tryz.prog 66 4=some 4:=by kernel_rfl
theorem TD:lF Tryz.prog 66 7=some 7:=by kernel_rfl
theorem aMY:lF Tryz.prog 82 0=some 0:=by kernel_rfl
theorem aHC:lF Tryz.prog 82 1=some 1:=by kernel_rfl
theorem ibx:Extern.findNext Tryz.f207=none:=by kernel_rfl
theorem iby:Extern.find Tryz.f207=some Extern.BytealgIndexByte.indexByte:=by kernel_rfl
theorem aLW:qE Tryz.prog 156 "purveyor/pool.in"=some 248:=by kernel_rfl
theorem aO6:qE Tryz.prog 156 "purveyor/pool.out"=some 249:=by kernel_rfl
theorem aW9:qE Tryz.prog 157 "purveyor/pool.in"=some 250:=by kernel_rfl
theorem aSG:qE Tryz.prog 157 "purveyor/pool.out"=some 251:=by kernel_rfl
theorem aLO:qE Tryz.prog 158 "purveyor/pool.in"=some 253:=by kernel_rfl
theorem aKK:qE Tryz.prog 158 "purveyor/pool.out"=some 254:=by kernel_rfl
theorem aQQ:qE Tryz.prog 160 "purveyor/pool.in"=some 257:=by kernel_rfl
theorem aJA:qE Tryz.prog 160 "purveyor/pool.out"=some 258:=by kernel_rfl
theorem zJ:qE Tryz.prog 170 "purveyor/apply.do"=some 261:=by kernel_rfl
theorem IK:yN Tryz.prog 222=some [(0,1)]:=by kernel_rfl
theorem L5:yN Tryz.prog 33=some [(0,5),(5,1),(6,1),(7,1),(8,1),(9,1)]:=by kernel_rfl
theorem Y9:yN Tryz.prog 66=some [(0,1),(1,1),(2,1),(3,1),(4,1),(5,1),(6,1),(7,1)]:=by kernel_rfl
theorem sz3:((Tryz.prog.info? 3).map (·.size))=some 1:=by kernel_rfl
theorem YF:zeroOf Tryz.prog 106=some [.string ⟨#[]⟩,.string ⟨#[]⟩,.string ⟨#[]⟩,.string ⟨#[]⟩,.string ⟨#[]⟩,.string ⟨#[]⟩,.string ⟨#[]⟩,.string ⟨#[]⟩,.string ⟨#[]⟩,.string ⟨#[]⟩,.string ⟨#[]⟩,.string ⟨#[]⟩,.string ⟨#[]⟩,.string ⟨#[]⟩,.string ⟨#[]⟩,.string ⟨#[]⟩,.string ⟨#[]⟩]:=by kernel_rfl
theorem z117:zeroOf Tryz.prog 117=some [.int .i64 0,.int .i64 0,.int .i64 0,.int .i64 0,.int .i64 0,.int .i64 0,.int .i64 0,.int .i64 0,.bool false]:=by kernel_rfl
theorem aRE:zeroOf Tryz.prog 121=some [.int .i64 0,.int .i64 0,.int .i64 0,.int .i64 0,.int .i64 0,.int .i64 0,.int .i64 0,.int .i64 0,.int .i64 0,.int .i64 0,.int .i64 0]:=by kernel_rfl
theorem aKB:zeroOf Tryz.prog 125=some [.int .i64 0,.int .i64 0,.int .i64 0,.int .i64 0,.int .i64 0,.int .i64 0,.int .i64 0,.int .i64 0,.int .i64 0]:=by kernel_rfl
theorem aRJ:zeroOf Tryz.prog 137=some [.int .i64 0,.int .i64 0,.int .i64 0,.int .i64 0,.int .i64 0,.int .i64 0]:=by kernel_rfl
theorem aOC:zeroOf Tryz.prog 140=some [.pointer none,.slice none 0 0]:=by kernel_rfl
theorem z148:zeroOf Tryz.prog 148=some [.nilFunc]:=by kernel_rfl
theorem z152:zeroOf Tryz.prog 152=some [.nilFunc]:=by kernel_rfl
theorem aFO:zeroOf Tryz.prog 153=some [.nilFunc,.nilFunc,.nilFunc,.nilFunc,.nilFunc]:=by kernel_rfl
theorem z156:zeroOf Tryz.prog 156=some []:=by kernel_rfl
theorem z157:zeroOf Tryz.prog 157=some []:=by kernel_rfl
theorem aP4:zeroOf Tryz.prog 158=some []:=by kernel_rfl
theorem z160:zeroOf Tryz.prog 160=some [.int .i64 0]:=by kernel_rfl
theorem z167:zeroOf Tryz.prog 167=some [.bool false,.bool false,.bool false,.bool false,.bool false,.bool false,.bool false,.bool false,.bool false,.bool false,.bool false,.bool false,.bool false,.bool false,.bool false,.bool false,.bool false,.bool false,.bool false,.bool false,.bool false,.bool false,.bool false,.bool false,.bool false,.bool false,.bool false,.bool false,.bool false,.bool false,.bool false,.bool false,.bool false,.bool false,.bool false,.bool false,.bool false,.bool false,.bool false,.bool false]:=by kernel_rfl
theorem aKF:zeroOf Tryz.prog 174=some [.nilFunc,.nilFunc,.nilFunc]:=by kernel_rfl
theorem aLL:zeroOf Tryz.prog 200=some [.int .i64 0,.int .i64 0,.int .i64 0,.int .i64 0,.int .i64 0,.int .i64 0,.int .i64 0,.int .i64 0]:=by kernel_rfl
theorem z201:zeroOf Tryz.prog 201=some [.int .i64 0,.int .i64 0]:=by kernel_rfl
theorem z22:zeroOf Tryz.prog 22=some [.slice none 0 0]:=by kernel_rfl
theorem z222:zeroOf Tryz.prog 222=some [.nilFunc]:=by kernel_rfl
theorem aN5:zeroOf Tryz.prog 237=some [.nilFunc,.nilFunc,.nilFunc]:=by kernel_rfl
theorem WL:zeroOf Tryz.prog 245=some [.int .u64 0,.int .u64 0,.int .u64 0,.int .u64 0]:=by kernel_rfl
theorem z25:zeroOf Tryz.prog 25=some [.int .i64 0,.int .i64 0,.slice none 0 0,.slice none 0 0,.slice none 0 0]:=by kernel_rfl
theorem aS4:zeroOf Tryz.prog 252=some [.pointer none,.slice none 0 0]:=by kernel_rfl
theorem aJT:zeroOf Tryz.prog 266=some [.int .i64 0,.slice none 0 0]:=by kernel_rfl
theorem z3:zeroOf Tryz.prog 3=some [.int .i64 0]:=by kernel_rfl
theorem z33:zeroOf Tryz.prog 33=some [.int .i64 0,.int .i64 0,.slice none 0 0,.slice none 0 0,.slice none 0 0,.slice none 0 0,.slice none 0 0,.slice none 0 0,.slice none 0 0,.int .i64 0]:=by kernel_rfl
theorem z36:zeroOf Tryz.prog 36=some [.int .i64 0,.int .i64 0,.int .i64 0,.int .i64 0,.int .i64 0,.int .i64 0,.int .i64 0,.int .i64 0,.slice none 0 0]:=by kernel_rfl
theorem z38:zeroOf Tryz.prog 38=some [.int .i64 0,.int .i64 0,.int .i64 0]:=by kernel_rfl
theorem z39:zeroOf Tryz.prog 39=some [.int .i64 0]:=by kernel_rfl
theorem z48:zeroOf Tryz.prog 48=some [.int .i64 0,.slice none 0 0,.slice none 0 0,.slice none 0 0]:=by kernel_rfl
theorem z52:zeroOf Tryz.prog 52=some [.int .i64 0,.int .i64 0,.int .i64 0,.int .i64 0]:=by kernel_rfl
theorem z58:zeroOf Tryz.prog 58=some [.int .i64 0,.int .i64 0,.int .i64 0]:=by kernel_rfl
theorem z60:zeroOf Tryz.prog 60=some [.slice none 0 0,.int .i64 0,.int .i64 0,.int .i64 0]:=by kernel_rfl
theorem z66:zeroOf Tryz.prog 66=some [.int .i64 0,.bool false,.slice none 0 0,.slice none 0 0,.slice none 0 0,.slice none 0 0,.slice none 0 0,.slice none 0 0]:=by kernel_rfl
theorem z68:zeroOf Tryz.prog 68=some [.int .i64 0,.int .i64 0,.slice none 0 0,.slice none 0 0,.slice none 0 0,.slice none 0 0,.slice none 0 0,.slice none 0 0,.slice none 0 0,.int .i64 0]:=by kernel_rfl
theorem z82:zeroOf Tryz.prog 82=some [.int .i64 0,.int .i64 0]:=by kernel_rfl
theorem z84:zeroOf Tryz.prog 84=some [.slice none 0 0]:=by kernel_rfl
theorem RO:HY Tryz.prog 158=true:=by kernel_rfl
theorem zi3:(Tryz.prog.info? 3).bind (·.zero)=some (.int .i64 0):=by kernel_rfl
theorem aP1:(Tryz.prog.info? 222).bind (·.zero)=some (.agg #[.nilFunc]):=by kernel_rfl
theorem z1:zeroOf Tryz.prog 1=some [.nilFunc]:=by kernel_rfl
theorem aVI:zeroOf Tryz.prog 111=some [.pointer none]:=by kernel_rfl
noncomputable section
def tb:gT:={ sh:=[(0,(1,false)),(1,(1,false)),(3,(1,false)),(4,(1,false)),(22,(1,false)),(23,(1,false)),(25,(5,true)),(28,(1,false)),(29,(1,false)),(30,(1,false)),(31,(1,false)),(33,(10,true)),(36,(9,true)),(38,(3,true)),(39,(1,false)),(43,(1,false)),(45,(1,false)),(46,(1,false)),(48,(4,true)),(52,(4,true)),(57,(1,false)),(58,(3,true)),(60,(4,true)),(63,(1,false)),(64,(1,false)),(66,(8,true)),(68,(10,true)),(71,(1,false)),(82,(2,true)),(84,(1,false)),(87,(1,false)),(106,(17,true)),(111,(1,false)),(114,(1,false)),(117,(9,true)),(121,(11,true)),(125,(9,true)),(133,(1,false)),(137,(6,true)),(140,(2,true)),(148,(1,false)),(152,(1,true)),(153,(5,true)),(158,(0,true)),(167,(40,true)),(172,(1,false)),(183,(1,false)),(191,(1,false)),(200,(8,true)),(213,(1,false)),(222,(1,true)),(235,(1,false)),(237,(3,true)),(245,(4,true)),(252,(2,true)),(266,(2,true))],fo:=[((25,0),0),((25,1),1),((25,2),2),((25,3),3),((25,4),4),((33,0),0),((33,1),5),((33,2),6),((33,3),7),((33,4),8),((33,5),9),((36,0),0),((36,1),1),((36,2),2),((36,3),3),((36,4),4),((36,5),5),((36,6),6),((36,7),7),((36,8),8),((38,0),0),((38,1),1),((38,2),2),((48,0),0),((48,1),1),((48,2),2),((48,3),3),((52,0),0),((52,1),1),((52,2),2),((52,3),3),((60,0),0),((60,1),1),((66,0),0),((66,1),1),((66,2),2),((66,3),3),((66,4),4),((66,5),5),((66,6),6),((66,7),7),((68,0),0),((82,0),0),((82,1),1),((117,0),0),((117,1),1),((117,2),2),((117,3),3),((117,4),4),((117,5),5),((117,6),6),((117,7),7),((117,8),8),((121,0),0),((121,1),1),((121,2),2),((121,3),3),((121,4),4),((121,5),5),((121,6),6),((121,7),7),((121,8),8),((121,9),9),((121,10),10),((137,0),0),((137,1),1),((137,2),2),((137,3),3),((137,4),4),((137,5),5),((140,0),0),((140,1),1),((152,0),0),((160,0),0),((200,0),0),((200,1),1),((200,2),2),((200,3),3),((200,4),4),((200,5),5),((200,6),6),((200,7),7),((222,0),0),((252,0),0),((252,1),1),((260,3),3),((260,4),4),((260,5),5),((260,6),6),((266,0),0),((266,1),1)],fp:=[((25,2),(2,22)),((33,0),(0,25)),((33,2),(6,29)),((36,0),(0,3)),((36,4),(4,3)),((36,6),(6,3)),((36,8),(8,22)),((38,0),(0,3)),((38,1),(1,3)),((38,2),(2,3)),((60,0),(0,57)),((200,0),(0,3)),((200,1),(1,3)),((200,3),(3,3)),((200,4),(4,3)),((237,0),(0,235)),((237,1),(1,172)),((237,2),(2,213))],ki:=[(3,.i64),(5,.u8),(21,.i32),(39,.i64),(183,.u64),(210,.u64)],se:=[(22,3),(23,22),(28,66),(29,200),(30,117),(31,137),(45,52),(46,82),(57,38),(63,60),(64,121),(84,39),(87,36),(141,140),(178,111),(218,1),(253,252),(280,266)],bl:=[(25,[(0,1),(1,1),(2,1),(3,1),(4,1)]),(33,[(0,5),(5,1),(6,1),(7,1),(8,1),(9,1)]),(36,[(0,1),(1,1),(2,1),(3,1),(4,1),(5,1),(6,1),(7,1),(8,1)]),(38,[(0,1),(1,1),(2,1)]),(48,[(0,1),(1,1),(2,1),(3,1)]),(60,[(0,1),(1,3)]),(68,[(0,10)]),(82,[(0,1),(1,1)]),(117,[(0,1),(1,1),(2,1),(3,1),(4,1),(5,1),(6,1),(7,1),(8,1)]),(121,[(0,1),(1,1),(2,1),(3,1),(4,1),(5,1),(6,1),(7,1),(8,1),(9,1),(10,1)]),(137,[(0,1),(1,1),(2,1),(3,1),(4,1),(5,1)]),(140,[(0,1),(1,1)]),(152,[(0,1)]),(156,[]),(157,[]),(158,[]),(160,[(0,1)]),(200,[(0,1),(1,1),(2,1),(3,1),(4,1),(5,1),(6,1),(7,1)]),(237,[(0,1),(1,1),(2,1)]),(252,[(0,1),(1,1)]),(266,[(0,1),(1,1)])],zs:=[(1,[.nilFunc]),(3,[.int .i64 0]),(22,[.slice none 0 0]),(25,[.int .i64 0,.int .i64 0,.slice none 0 0,.slice none 0 0,.slice none 0 0]),(33,[.int .i64 0,.int .i64 0,.slice none 0 0,.slice none 0 0,.slice none 0 0,.slice none 0 0,.slice none 0 0,.slice none 0 0,.slice none 0 0,.int .i64 0]),(36,[.int .i64 0,.int .i64 0,.int .i64 0,.int .i64 0,.int .i64 0,.int .i64 0,.int .i64 0,.int .i64 0,.slice none 0 0]),(38,[.int .i64 0,.int .i64 0,.int .i64 0]),(39,[.int .i64 0]),(48,[.int .i64 0,.slice none 0 0,.slice none 0 0,.slice none 0 0]),(52,[.int .i64 0,.int .i64 0,.int .i64 0,.int .i64 0]),(60,[.slice none 0 0,.int .i64 0,.int .i64 0,.int .i64 0]),(66,[.int .i64 0,.bool false,.slice none 0 0,.slice none 0 0,.slice none 0 0,.slice none 0 0,.slice none 0 0,.slice none 0 0]),(68,[.int .i64 0,.int .i64 0,.slice none 0 0,.slice none 0 0,.slice none 0 0,.slice none 0 0,.slice none 0 0,.slice none 0 0,.slice none 0 0,.int .i64 0]),(82,[.int .i64 0,.int .i64 0]),(106,[.string ⟨#[]⟩,.string ⟨#[]⟩,.string ⟨#[]⟩,.string ⟨#[]⟩,.string ⟨#[]⟩,.string ⟨#[]⟩,.string ⟨#[]⟩,.string ⟨#[]⟩,.string ⟨#[]⟩,.string ⟨#[]⟩,.string ⟨#[]⟩,.string ⟨#[]⟩,.string ⟨#[]⟩,.string ⟨#[]⟩,.string ⟨#[]⟩,.string ⟨#[]⟩,.string ⟨#[]⟩]),(111,[.pointer none]),(117,[.int .i64 0,.int .i64 0,.int .i64 0,.int .i64 0,.int .i64 0,.int .i64 0,.int .i64 0,.int .i64 0,.bool false]),(121,[.int .i64 0,.int .i64 0,.int .i64 0,.int .i64 0,.int .i64 0,.int .i64 0,.int .i64 0,.int .i64 0,.int .i64 0,.int .i64 0,.int .i64 0]),(125,[.int .i64 0,.int .i64 0,.int .i64 0,.int .i64 0,.int .i64 0,.int .i64 0,.int .i64 0,.int .i64 0,.int .i64 0]),(137,[.int .i64 0,.int .i64 0,.int .i64 0,.int .i64 0,.int .i64 0,.int .i64 0]),(140,[.pointer none,.slice none 0 0]),(148,[.nilFunc]),(152,[.nilFunc]),(153,[.nilFunc,.nilFunc,.nilFunc,.nilFunc,.nilFunc]),(156,[]),(157,[]),(158,[]),(160,[.int .i64 0]),(167,[.bool false,.bool false,.bool false,.bool false,.bool false,.bool false,.bool false,.bool false,.bool false,.bool false,.bool false,.bool false,.bool false,.bool false,.bool false,.bool false,.bool false,.bool false,.bool false,.bool false,.bool false,.bool false,.bool false,.bool false,.bool false,.bool false,.bool false,.bool false,.bool false,.bool false,.bool false,.bool false,.bool false,.bool false,.bool false,.bool false,.bool false,.bool false,.bool false,.bool false]),(200,[.int .i64 0,.int .i64 0,.int .i64 0,.int .i64 0,.int .i64 0,.int .i64 0,.int .i64 0,.int .i64 0]),(222,[.nilFunc]),(237,[.nilFunc,.nilFunc,.nilFunc]),(245,[.int .u64 0,.int .u64 0,.int .u64 0,.int .u64 0]),(252,[.pointer none,.slice none 0 0]),(266,[.int .i64 0,.slice none 0 0])],bz:=[(1,1),(3,1),(22,1),(36,9),(38,3),(52,4),(66,8),(82,2),(111,1),(117,9),(137,6),(140,2),(200,8),(252,2),(266,2)],bb:=[(3,8),(22,24),(38,24),(52,32),(82,16),(117,72),(137,48),(200,64)],ar:=[(58,(3,3)),(125,(3,38)),(167,(40,4)),(245,(4,183))] }
theorem aG:dW Tryz.prog tb:=⟨⟨by kernel_rfl,by kernel_rfl,by kernel_rfl⟩,by kernel_rfl,by kernel_rfl,by kernel_rfl,⟨z1,z3,z22,z25,z33,z36,z38,z39,z48,z52,z60,z66,z68,z82,YF,aVI,z117,aRE,aKB,aRJ,aOC,z148,z152,aFO,z156,z157,aP4,z160,z167,aLL,z222,aN5,WL,aS4,aJT,trivial⟩,by kernel_rfl,by kernel_rfl,by kernel_rfl⟩
abbrev WB (R:Type):=WT Tryz.prog (.b R)
abbrev PZ {B:Type} (o:Option B) (k:FuncId) (args:List AV) (V:B->AV):Prop:=PQ Tryz.prog o k args V
theorem RG {p:Prop} (h:p:=by intro r;repeat' (first | exact vO _ | exact HV _ | exact SO _ | exact TB _ _ | exact YM | exact .agg (gD.dX _) | exact .agg (aM.dX _) | exact .agg (jE.dX _) | exact .agg (aT.dX _) | exact .agg (dL.dX _) | exact (aP.dA _ ▸ PV.agg (aP.dX _)) | exact .agg (dH.dX _) | exact .agg (dV.dX _) | exact .agg (dD.dX _) | exact .agg (aA.dX _) | exact .agg (bQ.dX _) | exact .agg (aQ.dX _) | exact .agg (CV.dX _) | exact .agg (B6.dX _) | exact .agg (A8.dX _) | exact .agg (CP.dX _) | exact .agg (sK.dX _) | exact .agg (tV.dX _) | exact .agg (CO.dX _) | exact .agg (jU.dX _) | exact .agg (jG.dX _) | exact .agg (nG.dX _) | refine .bD ?_ | refine aCD ?_ ?_ | refine qL ?_ _ | exact wC | exact ZT | exact aDU | exact aB2 _ | exact gD.dX | exact aM.dX | exact jE.dX | exact aT.dX | exact dL.dX | exact aP.dX | exact dH.dX | exact dV.dX | exact dD.dX | exact aA.dX | exact bQ.dX | exact aQ.dX | exact CV.dX | exact B6.dX | exact A8.dX | exact CP.dX | exact sK.dX | exact tV.dX | exact CO.dX | exact jU.dX | exact jG.dX | exact nG.dX | refine aBZ ?_)):p:=h
theorem wq {R:Type} {V:R->AV} {g:FuncId} {fn:Func} {ar:List AV} {t:WB R} (hf:Tryz.prog.funcs[g]?=some fn) (h:WP Tryz.prog tb 100000 ⟨fn.ntmps,false,[]⟩ t (.fn (JF tb fn.results.toList V) yI) (.c [DU fn]) (λt=>ar[t]?) H0 []:=by exact au) (hpv:∀ a,PV (V a):=by exact RG) (hb:fn.body=some (DU fn):=by rfl) (hle:Nat.ble ar.length fn.ntmps=true:=by rfl):PZ t.run g ar V:=λ_ h0=>ZV mixed aG V h0 hf hpv 100000 h hb hle
theorem wm {R:Type} {V:R->AV} {g:FuncId} {fn:Func} {ar:List AV} {t:WB R} (hf:Tryz.prog.funcs[g]?=some fn) (h:WP Tryz.prog tb 100000 ⟨fn.ntmps,false,[]⟩ t (.fn (JF tb fn.results.toList V) yI) (.c [DU fn]) (λt=>ar[t]?) H0 []) (hpv:∀ a,PV (V a):=by exact RG) (hb:fn.body=some (DU fn):=by rfl) (hle:Nat.ble ar.length fn.ntmps=true:=by rfl):PZ t.run g ar V:=λ_ h0=>ZV mixed aG V h0 hf hpv 100000 h hb hle
theorem wB:rU Tryz.prog 23 66 8 aP.av:=vD Tryz.func23 wT Tryz.underlying28 BU O5
theorem N7:rU Tryz.prog 39 60 4 aT.av:=vD Tryz.func39 IN Tryz.underlying63 PT OG
theorem YJ:rU Tryz.prog 45 117 9 dV.av:=vD Tryz.func45 aHB Tryz.underlying30 aQZ aPY
theorem A9:rU Tryz.prog 53 3 1 fI:=vD Tryz.func53 DX Tryz.underlying22 iH lT
theorem yA:rU Tryz.prog 81 38 3 aM.av:=vD Tryz.func81 xI Tryz.underlying57 OD aCF
theorem aCJ:rU Tryz.prog 100 121 11 dL.av:=vD Tryz.func100 YR Tryz.underlying64 NC JD
theorem Y4:rU Tryz.prog 108 82 2 aQ.av:=vD Tryz.func108 Y5 Tryz.underlying46 qD GD
theorem aET:rU Tryz.prog 136 200 8 dH.av:=vD Tryz.func136 aB9 Tryz.underlying29 OW aDV
theorem XI:rU Tryz.prog 192 137 6 dD.av:=vD Tryz.func192 aAJ Tryz.underlying31 R6 aCE
theorem aAX:rU Tryz.prog 211 22 1 (fL 1 fI):=vD Tryz.func211 YB Tryz.underlying23 SS aAI
theorem YY {p:Prop} (h:p:=by first | exact wB | exact N7 | exact YJ | exact A9 | exact yA | exact aCJ | exact Y4 | exact aET | exact XI | exact aAX):p:=h
theorem aJ5:PP Tryz.prog 140 [] (λy=>y=.mp [6,7,8,9] [.agg [.fn (.func 180) [] []],.agg [.fn (.func 181) [] []],.agg [.fn (.func 182) [] []],.agg [.fn (.func 183) [] []]]):=by
  refine rF (R0:=λy H=>Cv (l6 H) y (.mp [6,7,8,9] [.agg [.fn (.func 180) [] []],.agg [.fn (.func 181) [] []],.agg [.fn (.func 182) [] []],.agg [.fn (.func 183) [] []]])) ?_ (λy H hc=>⟨_,rfl,.mp (by intro x hx;simp only [List.mem_cons,List.not_mem_nil,or_false] at hx;rcases hx with rfl | rfl | rfl | rfl <;> exact .agg (by intro x hx;simp only [List.mem_cons,List.not_mem_nil,or_false] at hx;subst hx;exact .fn (by intro x hx;cases hx) (by intro x hx;cases hx))),hc⟩)
  refine iI (c:=_) Tryz.func140 rfl rfl ?_;intro Q hret hnorm
  refine tc aG 6 (.mk ?_)
  refine mmk rfl rfl rfl rfl ?_;intro b0
  refine M8 rfl rfl rfl (tF (cs:=[.fn (.func 180) [] []]) (ps:=[(0,_)]) rfl IK z222 rfl (.cons rfl .nil) (by kernel_rfl)) ?_
  refine LW rfl rfl rfl Tryz.underlying224 Tryz.underlying3 rfl rfl rfl rfl ?_
  refine M8 rfl rfl rfl (tF (cs:=[.fn (.func 181) [] []]) (ps:=[(0,_)]) rfl IK z222 rfl (.cons rfl .nil) (by kernel_rfl)) ?_
  refine LW rfl rfl rfl Tryz.underlying224 Tryz.underlying3 rfl rfl rfl rfl ?_
  refine M8 rfl rfl rfl (tF (cs:=[.fn (.func 182) [] []]) (ps:=[(0,_)]) rfl IK z222 rfl (.cons rfl .nil) (by kernel_rfl)) ?_
  refine LW rfl rfl rfl Tryz.underlying224 Tryz.underlying3 rfl rfl rfl rfl ?_
  refine M8 rfl rfl rfl (tF (cs:=[.fn (.func 183) [] []]) (ps:=[(0,_)]) rfl IK z222 rfl (.cons rfl .nil) (by kernel_rfl)) ?_
  refine LW rfl rfl rfl Tryz.underlying224 Tryz.underlying3 rfl rfl rfl rfl ?_
  refine aSI 1 rfl ?_
  refine tr aG 3 (.mk ?_)
  refine wR hret (rT .nil) ?_
  exact .refl _
def VE (a1:aA) (a2:Int) (a3:Int):WB (Bool) :=
 .al 1<|.jn 0 [1,3,6] [1] [] (λ_ (a:Bool)=>[(29,aI a)]) (λ_ _=>[]) (.bB 10 (decide (a2<0)) λx5=>.ifs [10] x5 (.ret true) (.ln 15 aP.av a1.aW<|.bB 16 (decide (a2>=(a1.aW.length:Int))) λx6=>.ifs [16] x6 (.ret true) (.bB 20 (decide (a3<0)) λx7=>.ifs [20] x7 (.ret true) (.ln 27 fI a1.bF.bN<|.bB 28 (decide (a3>=(a1.bF.bN.length:Int))) λx8=>.ret x8)))) (λy0_1=>.ifs [29] y0_1 (.ret ((false:Bool))) (.dr [(0,[1]),(1,[1]),(5,[1]),(6,[1]),(7,[1])] [] [1] [9,10] [0,1,2,3,4,5,6,7,8,9,10,11] (.iF 33 aP.av gE aP.dA a1.aW a2 λx9=>.ln 38 fI a1.bF.bN<|.al 2<|.jn 0 [] [] [] (λ_ (a:Bool)=>[(6,aI a)]) (λ_ _=>[]) (.ln 41 aT.av x9.cK<|.bI 43 (bA ((a1.bF.bN.length:Int)*2)) λx11=>.bB 44 (decide ((x9.cK.length:Int)>=x11)) λx12=>.ifs [44] x12 (.ln 48 dL.av x9.d9<|.bB 50 (decide ((x9.d9.length:Int)>=(a1.bF.bN.length:Int))) λx13=>.ifs [50] x13 (.ln 57 (fL 1 fI) a1.bF.Methods<|.bB 58 (decide (a2<(a1.bF.Methods.length:Int))) λx14=>.ifs [58] x14 (.ln 65 (fL 1 fI) a1.bF.fM<|.bB 66 (decide (a2<(a1.bF.fM.length:Int))) λx15=>.ifs [66] x15 (.ix 73 (fL 1 fI) a1.bF.Methods a2 λx16=>.ln 75 fI x16<|.bB 77 (decide ((x16.length:Int)>=(a1.bF.bN.length:Int))) λx17=>.ifs [77] x17 (.ix 84 (fL 1 fI) a1.bF.fM a2 λx18=>.ln 86 fI x18<|.bB 88 (decide ((x18.length:Int)>=(a1.bF.bN.length:Int))) λx19=>.ret x19) (.ret false)) (.ret false)) (.ret false)) (.ret false)) (.ret false)) (λy1_1=>.ret ((y1_1:Bool))))))
def yJ (a1:aA) (a2:Int) (a3:Int):Option (Bool):=(VE a1 a2 a3).run
theorem VP {a1 a2 a3}:PZ (yJ a1 a2 a3) 32 [.agg (aA.av a1),int a2,int a3] aI:=wq Tryz.func32
end
end Go.Pv
