import Derived.Test.YtkgnickfdedbmabGreatPvAE
import Derived.Test.YtkgnickfdedbmabGreatPvAG
import Derived.Test.YtkgnickfdedbmabGreatPwK
import Derived.Test.YtkgnickfdedbmabGreatPvAH
import Derived.Test.YtkgnickfdedbmabGreatPvAI
import Derived.Test.YtkgnickfdedbmabGreatProg
set_option linter.unusedVariables false
set_option linter.unusedSimpArgs false
namespace Go.Pv
open Go.Proofs
theorem mixed:Tryz.prog.follows .mixedOrders=true:=by kernel_rfl
set_option maxRecDepth 100000
set_option maxHeartbeats 4000000
structure eZ where
  eH:Int
  fA:Int
  cB:List Int
  Methods:List (List Int)
  dN:List (List Int)
  deriving DecidableEq,Inhabited
@[reducible] def eZ.av (x:eZ):List AV:=[int x.eH,int x.fA,aD 1 fI x.cB,aD 1 (fL 1 fI) x.Methods,aD 1 (fL 1 fI) x.dN]
theorem eZ.dA (x:eZ):∀ a∈x.av,PV a:=iP
structure aB where
  aQ:Int
  Value:Int
  bO:Int
  deriving DecidableEq,Inhabited
@[reducible] def aB.av (x:aB):List AV:=[int x.aQ,int x.Value,int x.bO]
theorem aB.dA (x:aB):∀ a∈x.av,PV a:=iP
structure gJ where
  a0:Int
  a1:Int
  a2:Int
  deriving DecidableEq,Inhabited
@[reducible] def gJ.av (x:gJ):List AV:=[int x.a0,int x.a1,int x.a2]
theorem gJ.dA (x:gJ):∀ a∈x.av,PV a:=iP
structure aM where
  cO:List aB
  bF:gJ
  deriving DecidableEq,Inhabited
@[reducible] def aM.av (x:aM):List AV:=[aD 3 aB.av x.cO,int x.bF.a0,int x.bF.a1,int x.bF.a2]
theorem aM.dA (x:aM):∀ a∈x.av,PV a:=iP
structure bM where
  Open:Int
  jC:Int
  iV:Int
  iW:Int
  iQ:Int
  jA:Int
  iY:Int
  iU:Int
  iT:Int
  iZ:Int
  jD:Int
  deriving DecidableEq,Inhabited
@[reducible] def bM.av (x:bM):List AV:=[int x.Open,int x.jC,int x.iV,int x.iW,int x.iQ,int x.jA,int x.iY,int x.iU,int x.iT,int x.iZ,int x.jD]
theorem bM.dA (x:bM):∀ a∈x.av,PV a:=iP
structure aP where
  dS:Int
  Closed:Bool
  dD:List aM
  dU:List Int
  dI:List bM
  dO:List Int
  Down:List Int
  eT:List aP
  deriving Inhabited
mutual
def aP.av:aP->List AV
  | ⟨dS,Closed,dD,dU,dI,dO,Down,eT⟩=>[int dS,aF Closed,aD 4 aM.av dD,aD 1 fI dU,aD 11 bM.av dI,aD 1 fI dO,aD 1 fI Down,.list 8 (aP.qI eT)]
def aP.qI:List aP->List (List AV)
  | []=>[]
  | x :: r=>aP.av x :: aP.qI r
end
theorem aP.aKI (l:List aP):aP.qI l=l.map aP.av:=by
  induction l with
  | nil=>unfold aP.qI;rfl
  | cons x r ih=>unfold aP.qI;rw [ih];rfl
@[reducible] def gE (x:aP):List AV:=[int x.dS,aF x.Closed,aD 4 aM.av x.dD,aD 1 fI x.dU,aD 11 bM.av x.dI,aD 1 fI x.dO,aD 1 fI x.Down,aD 8 aP.av x.eT]
theorem aP.bW (x:aP):aP.av x=[int x.dS,aF x.Closed,aD 4 aM.av x.dD,aD 1 fI x.dU,aD 11 bM.av x.dI,aD 1 fI x.dO,aD 1 fI x.Down,aD 8 aP.av x.eT]:=by
  cases x;unfold aP.av;rw [aP.aKI]
theorem aP.one (x:aP):fE (aP.av x)=true:=by rw [aP.bW];rfl
mutual
theorem aP.dA:∀ (x:aP),∀ a∈x.av,PV a
  | ⟨dS,Closed,dD,dU,dI,dO,Down,eT⟩=>by
    intro a ha;unfold aP.av at ha;simp only [List.mem_cons,List.not_mem_nil,or_false] at ha
    rcases ha with rfl | rfl | rfl | rfl | rfl | rfl | rfl | rfl
    · exact qX dS
    · exact yD Closed
    · exact (o8 aM.dA) dD
    · exact (o8 vI) dU
    · exact (o8 bM.dA) dI
    · exact (o8 vI) dO
    · exact (o8 vI) Down
    · exact .list (λr hr=>aP.VN eT r hr)
theorem aP.VN:∀ (l:List aP),∀ r∈aP.qI l,∀ a∈r,PV a
  | []=>by intro r hr;unfold aP.qI at hr;cases hr
  | x :: l=>by
    intro r hr;unfold aP.qI at hr
    rcases List.mem_cons.1 hr with e | h
    · rw [e];exact aP.dA x
    · exact aP.VN l r h
end
structure bH where
  dG:Int
  Item:Int
  Loc:Int
  aQ:Int
  Value:Int
  Open:Int
  jV:Int
  fF:Int
  deriving DecidableEq,Inhabited
@[reducible] def bH.av (x:bH):List AV:=[int x.dG,int x.Item,int x.Loc,int x.aQ,int x.Value,int x.Open,int x.jV,int x.fF]
theorem bH.dA (x:bH):∀ a∈x.av,PV a:=iP
structure bS where
  dG:Int
  Item:Int
  Loc:Int
  aQ:Int
  fF:Int
  qV:Int
  bO:Int
  jW:Int
  jY:Bool
  deriving DecidableEq,Inhabited
@[reducible] def bS.av (x:bS):List AV:=[int x.dG,int x.Item,int x.Loc,int x.aQ,int x.fF,int x.qV,int x.bO,int x.jW,aF x.jY]
theorem bS.dA (x:bS):∀ a∈x.av,PV a:=iP
structure dB where
  tH:Int
  To:Int
  Item:Int
  aQ:Int
  Value:Int
  bO:Int
  deriving DecidableEq,Inhabited
@[reducible] def dB.av (x:dB):List AV:=[int x.tH,int x.To,int x.Item,int x.aQ,int x.Value,int x.bO]
theorem dB.dA (x:dB):∀ a∈x.av,PV a:=iP
structure aA where
  bA:eZ
  aW:List aP
  bP:List bH
  bU:List bS
  bY:List dB
  Done:Int
  deriving Inhabited
@[reducible] def aA.av (x:aA):List AV:=[int x.bA.eH,int x.bA.fA,aD 1 fI x.bA.cB,aD 1 (fL 1 fI) x.bA.Methods,aD 1 (fL 1 fI) x.bA.dN,aD 8 aP.av x.aW,aD 8 bH.av x.bP,aD 9 bS.av x.bU,aD 6 dB.av x.bY,int x.Done]
theorem aA.dA (x:aA):∀ a∈x.av,PV a:=iP
structure aS where
  Kind:Int
  E:Int
  Item:Int
  Loc:Int
  To:Int
  aQ:Int
  bD:Int
  Ref:Int
  bT:List Int
  deriving DecidableEq,Inhabited
@[reducible] def aS.av (x:aS):List AV:=[int x.Kind,int x.E,int x.Item,int x.Loc,int x.To,int x.aQ,int x.bD,int x.Ref,aD 1 fI x.bT]
theorem aS.dA (x:aS):∀ a∈x.av,PV a:=iP
structure mO where
  a0:aB
  a1:aB
  a2:aB
  deriving DecidableEq,Inhabited
@[reducible] def mO.av (x:mO):List AV:=[int x.a0.aQ,int x.a0.Value,int x.a0.bO,int x.a1.aQ,int x.a1.Value,int x.a1.bO,int x.a2.aQ,int x.a2.Value,int x.a2.bO]
theorem mO.dA (x:mO):∀ a∈x.av,PV a:=iP
structure aH where
  fM:Int
  bD:Int
  deriving DecidableEq,Inhabited
@[reducible] def aH.av (x:aH):List AV:=[int x.fM,int x.bD]
theorem aH.dA (x:aH):∀ a∈x.av,PV a:=iP
structure jJ where
  a0:Int
  a1:Int
  a2:Int
  a3:Int
  a4:Int
  a5:Int
  a6:Int
  a7:Int
  a8:Int
  a9:Int
  kK:Int
  deriving DecidableEq,Inhabited
@[reducible] def jJ.av (x:jJ):List AV:=[int x.a0,int x.a1,int x.a2,int x.a3,int x.a4,int x.a5,int x.a6,int x.a7,int x.a8,int x.a9,int x.kK]
theorem jJ.dA (x:jJ):∀ a∈x.av,PV a:=iP
structure nA where
  a0:List UInt8
  a1:List UInt8
  a2:List UInt8
  a3:List UInt8
  a4:List UInt8
  a5:List UInt8
  a6:List UInt8
  a7:List UInt8
  a8:List UInt8
  a9:List UInt8
  kK:List UInt8
  oM:List UInt8
  a12:List UInt8
  rZ:List UInt8
  IR:List UInt8
  JU:List UInt8
  a16:List UInt8
  deriving DecidableEq,Inhabited
@[reducible] def nA.av (x:nA):List AV:=[str x.a0,str x.a1,str x.a2,str x.a3,str x.a4,str x.a5,str x.a6,str x.a7,str x.a8,str x.a9,str x.kK,str x.oM,str x.a12,str x.rZ,str x.IR,str x.JU,str x.a16]
theorem nA.dA (x:nA):∀ a∈x.av,PV a:=iP
structure wH where
  deriving DecidableEq,Inhabited
@[reducible] def wH.av (x:wH):List AV:=[]
theorem wH.dA (x:wH):∀ a∈x.av,PV a:=iP
structure uQ where
  deriving DecidableEq,Inhabited
@[reducible] def uQ.av (x:uQ):List AV:=[]
theorem uQ.dA (x:uQ):∀ a∈x.av,PV a:=iP
structure uY where
  deriving DecidableEq,Inhabited
@[reducible] def uY.av (x:uY):List AV:=[]
theorem uY.dA (x:uY):∀ a∈x.av,PV a:=iP
structure vV where
  cost:Int
  deriving DecidableEq,Inhabited
@[reducible] def vV.av (x:vV):List AV:=[int x.cost]
theorem vV.dA (x:vV):∀ a∈x.av,PV a:=iP
structure vN where
  a0:Int
  a1:Int
  deriving DecidableEq,Inhabited
@[reducible] def vN.av (x:vN):List AV:=[int x.a0,int x.a1]
theorem vN.dA (x:vN):∀ a∈x.av,PV a:=iP
structure gG where
  NB:Int
  lines:List aH
  deriving DecidableEq,Inhabited
@[reducible] def gG.av (x:gG):List AV:=[int x.NB,aD 2 aH.av x.lines]
theorem gG.dA (x:gG):∀ a∈x.av,PV a:=iP
structure wQ where
  a0:aS
  a1:aS
  a2:aS
  a3:aS
  deriving DecidableEq,Inhabited
@[reducible] def wQ.av (x:wQ):List AV:=[int x.a0.Kind,int x.a0.E,int x.a0.Item,int x.a0.Loc,int x.a0.To,int x.a0.aQ,int x.a0.bD,int x.a0.Ref,aD 1 fI x.a0.bT,int x.a1.Kind,int x.a1.E,int x.a1.Item,int x.a1.Loc,int x.a1.To,int x.a1.aQ,int x.a1.bD,int x.a1.Ref,aD 1 fI x.a1.bT,int x.a2.Kind,int x.a2.E,int x.a2.Item,int x.a2.Loc,int x.a2.To,int x.a2.aQ,int x.a2.bD,int x.a2.Ref,aD 1 fI x.a2.bT,int x.a3.Kind,int x.a3.E,int x.a3.Item,int x.a3.Loc,int x.a3.To,int x.a3.aQ,int x.a3.bD,int x.a3.Ref,aD 1 fI x.a3.bT]
theorem wQ.dA (x:wQ):∀ a∈x.av,PV a:=iP
theorem xC:dL Tryz.prog 1=some (1,false):=by kernel_rfl
theorem fC:dL Tryz.prog 3=some (1,false):=by kernel_rfl
theorem rE:dL Tryz.prog 4=some (1,false):=by kernel_rfl
theorem kC:dL Tryz.prog 22=some (1,false):=by kernel_rfl
theorem zH:dL Tryz.prog 26=some (1,false):=by kernel_rfl
theorem yK:dL Tryz.prog 31=some (10,true):=by kernel_rfl
theorem AL:dL Tryz.prog 34=some (9,true):=by kernel_rfl
theorem mH:dL Tryz.prog 39=some (1,false):=by kernel_rfl
theorem wW:dL Tryz.prog 40=some (1,false):=by kernel_rfl
theorem jE:dL Tryz.prog 42=some (8,true):=by kernel_rfl
theorem OT:dL Tryz.prog 62=some (1,false):=by kernel_rfl
theorem mD:dL Tryz.prog 68=some (1,false):=by kernel_rfl
theorem BO:dL Tryz.prog 81=some (9,true):=by kernel_rfl
theorem iO:dL Tryz.prog 84=some (3,true):=by kernel_rfl
theorem LH:dL Tryz.prog 87=some (11,true):=by kernel_rfl
theorem gQ:dL Tryz.prog 93=some (2,true):=by kernel_rfl
theorem aF0:dL Tryz.prog 98=some (8,true):=by kernel_rfl
theorem WH:dL Tryz.prog 123=some (1,false):=by kernel_rfl
theorem qG:dL Tryz.prog 126=some (4,true):=by kernel_rfl
theorem sM:dL Tryz.prog 194=some (1,false):=by kernel_rfl
theorem FQ:dL Tryz.prog 240=some (2,true):=by kernel_rfl
theorem DV:iE Tryz.prog 126=some 48:=by kernel_rfl
theorem K5:iE Tryz.prog 183=some 48:=by kernel_rfl
theorem HV:iE Tryz.prog 22=some 24:=by kernel_rfl
theorem kY:iE Tryz.prog 3=some 8:=by kernel_rfl
theorem yE:iE Tryz.prog 42=some 160:=by kernel_rfl
theorem RF:iE Tryz.prog 81=some 72:=by kernel_rfl
theorem O6:iE Tryz.prog 84=some 24:=by kernel_rfl
theorem ES:iE Tryz.prog 87=some 88:=by kernel_rfl
theorem JE:iE Tryz.prog 93=some 16:=by kernel_rfl
theorem TD:iE Tryz.prog 98=some 64:=by kernel_rfl
theorem WS:fJ Tryz.prog 1=some (1,[.nilFunc]):=by kernel_rfl
theorem EQ:fJ Tryz.prog 126=some (4,[.slice none 0 0,.int .i64 0,.int .i64 0,.int .i64 0]):=by kernel_rfl
theorem aHU:fJ Tryz.prog 180=some (2,[.int .i64 0,.slice none 0 0]):=by kernel_rfl
theorem ET:fJ Tryz.prog 183=some (6,[.int .i64 0,.int .i64 0,.int .i64 0,.int .i64 0,.int .i64 0,.int .i64 0]):=by kernel_rfl
theorem rM:fJ Tryz.prog 22=some (1,[.slice none 0 0]):=by kernel_rfl
theorem aJ5:fJ Tryz.prog 240=some (2,[.pointer none,.slice none 0 0]):=by kernel_rfl
theorem fT:fJ Tryz.prog 3=some (1,[.int .i64 0]):=by kernel_rfl
theorem aNN:fJ Tryz.prog 34=some (9,[.int .i64 0,.int .i64 0,.int .i64 0,.int .i64 0,.int .i64 0,.int .i64 0,.int .i64 0,.int .i64 0,.slice none 0 0]):=by kernel_rfl
theorem qW:fJ Tryz.prog 42=some (8,[.int .i64 0,.bool false,.slice none 0 0,.slice none 0 0,.slice none 0 0,.slice none 0 0,.slice none 0 0,.slice none 0 0]):=by kernel_rfl
theorem mJ:fJ Tryz.prog 68=some (1,[.pointer none]):=by kernel_rfl
theorem OU:fJ Tryz.prog 81=some (9,[.int .i64 0,.int .i64 0,.int .i64 0,.int .i64 0,.int .i64 0,.int .i64 0,.int .i64 0,.int .i64 0,.bool false]):=by kernel_rfl
theorem DY:fJ Tryz.prog 84=some (3,[.int .i64 0,.int .i64 0,.int .i64 0]):=by kernel_rfl
theorem EB:fJ Tryz.prog 87=some (11,[.int .i64 0,.int .i64 0,.int .i64 0,.int .i64 0,.int .i64 0,.int .i64 0,.int .i64 0,.int .i64 0,.int .i64 0,.int .i64 0,.int .i64 0]):=by kernel_rfl
theorem l5:fJ Tryz.prog 93=some (2,[.int .i64 0,.int .i64 0]):=by kernel_rfl
theorem I9:fJ Tryz.prog 98=some (8,[.int .i64 0,.int .i64 0,.int .i64 0,.int .i64 0,.int .i64 0,.int .i64 0,.int .i64 0,.int .i64 0]):=by kernel_rfl
theorem aOX:aT Tryz.prog 10=true:=by kernel_rfl
theorem vS:aT Tryz.prog 100=true:=by kernel_rfl
theorem mM:aT Tryz.prog 101=true:=by kernel_rfl
theorem aAA:aT Tryz.prog 102=true:=by kernel_rfl
theorem aAQ:aT Tryz.prog 103=true:=by kernel_rfl
theorem zM:aT Tryz.prog 104=true:=by kernel_rfl
theorem C4:aT Tryz.prog 105=true:=by kernel_rfl
theorem VP:aT Tryz.prog 106=true:=by kernel_rfl
theorem nN:aT Tryz.prog 107=true:=by kernel_rfl
theorem aE1:aT Tryz.prog 108=true:=by kernel_rfl
theorem ZZ:aT Tryz.prog 109=true:=by kernel_rfl
theorem aMO:aT Tryz.prog 11=true:=by kernel_rfl
theorem aIO:aT Tryz.prog 110=true:=by kernel_rfl
theorem aA5:aT Tryz.prog 111=true:=by kernel_rfl
theorem T6:aT Tryz.prog 112=true:=by kernel_rfl
theorem wI:aT Tryz.prog 113=true:=by kernel_rfl
theorem aIN:aT Tryz.prog 114=true:=by kernel_rfl
theorem pG:aT Tryz.prog 119=true:=by kernel_rfl
theorem qF:aT Tryz.prog 12=true:=by kernel_rfl
theorem wY:aT Tryz.prog 120=true:=by kernel_rfl
theorem QD:aT Tryz.prog 123=true:=by kernel_rfl
theorem OA:aT Tryz.prog 125=true:=by kernel_rfl
theorem oP:aT Tryz.prog 126=true:=by kernel_rfl
theorem QW:aT Tryz.prog 127=true:=by kernel_rfl
theorem tZ:aT Tryz.prog 128=true:=by kernel_rfl
theorem X5:aT Tryz.prog 13=true:=by kernel_rfl
theorem xK:aT Tryz.prog 132=true:=by kernel_rfl
theorem vG:aT Tryz.prog 133=true:=by kernel_rfl
theorem wO:aT Tryz.prog 134=true:=by kernel_rfl
theorem OM:aT Tryz.prog 135=true:=by kernel_rfl
theorem aDR:aT Tryz.prog 136=true:=by kernel_rfl
theorem RN:aT Tryz.prog 137=true:=by kernel_rfl
theorem p8:aT Tryz.prog 138=true:=by kernel_rfl
theorem aCA:aT Tryz.prog 139=true:=by kernel_rfl
theorem aM1:aT Tryz.prog 14=true:=by kernel_rfl
theorem aBF:aT Tryz.prog 140=true:=by kernel_rfl
theorem V3:aT Tryz.prog 141=true:=by kernel_rfl
theorem SI:aT Tryz.prog 142=true:=by kernel_rfl
theorem yR:aT Tryz.prog 143=true:=by kernel_rfl
theorem sW:aT Tryz.prog 144=true:=by kernel_rfl
theorem nY:aT Tryz.prog 145=true:=by kernel_rfl
theorem yO:aT Tryz.prog 146=true:=by kernel_rfl
theorem aCO:aT Tryz.prog 147=true:=by kernel_rfl
theorem aHH:aT Tryz.prog 148=true:=by kernel_rfl
theorem XH:aT Tryz.prog 149=true:=by kernel_rfl
theorem aA1:aT Tryz.prog 15=true:=by kernel_rfl
theorem aKQ:aT Tryz.prog 150=true:=by kernel_rfl
theorem aJ4:aT Tryz.prog 151=true:=by kernel_rfl
theorem aA0:aT Tryz.prog 152=true:=by kernel_rfl
theorem Z7:aT Tryz.prog 153=true:=by kernel_rfl
theorem aFG:aT Tryz.prog 154=true:=by kernel_rfl
theorem IA:aT Tryz.prog 155=true:=by kernel_rfl
theorem aKR:aT Tryz.prog 156=true:=by kernel_rfl
theorem aB0:aT Tryz.prog 157=true:=by kernel_rfl
theorem aDC:aT Tryz.prog 158=true:=by kernel_rfl
theorem WY:aT Tryz.prog 159=true:=by kernel_rfl
theorem aFL:aT Tryz.prog 16=true:=by kernel_rfl
theorem aJP:aT Tryz.prog 160=true:=by kernel_rfl
theorem PO:aT Tryz.prog 161=true:=by kernel_rfl
theorem kQ:aT Tryz.prog 162=true:=by kernel_rfl
theorem z8:aT Tryz.prog 163=true:=by kernel_rfl
theorem Q3:aT Tryz.prog 164=true:=by kernel_rfl
theorem aBS:aT Tryz.prog 165=true:=by kernel_rfl
theorem NQ:aT Tryz.prog 166=true:=by kernel_rfl
theorem Q9:aT Tryz.prog 167=true:=by kernel_rfl
theorem VV:aT Tryz.prog 168=true:=by kernel_rfl
theorem aL8:aT Tryz.prog 169=true:=by kernel_rfl
theorem UN:aT Tryz.prog 17=true:=by kernel_rfl
theorem V7:aT Tryz.prog 170=true:=by kernel_rfl
theorem aMG:aT Tryz.prog 171=true:=by kernel_rfl
theorem MX:aT Tryz.prog 172=true:=by kernel_rfl
theorem aDX:aT Tryz.prog 173=true:=by kernel_rfl
theorem aAT:aT Tryz.prog 174=true:=by kernel_rfl
theorem YS:aT Tryz.prog 175=true:=by kernel_rfl
theorem AT:aT Tryz.prog 176=true:=by kernel_rfl
theorem ZX:aT Tryz.prog 177=true:=by kernel_rfl
theorem vC:aT Tryz.prog 178=true:=by kernel_rfl
theorem PL:aT Tryz.prog 179=true:=by kernel_rfl
theorem ZV:aT Tryz.prog 18=true:=by kernel_rfl
theorem vJ:aT Tryz.prog 180=true:=by kernel_rfl
theorem xX:aT Tryz.prog 181=true:=by kernel_rfl
theorem mP:aT Tryz.prog 182=true:=by kernel_rfl
theorem aJV:aT Tryz.prog 183=true:=by kernel_rfl
theorem WG:aT Tryz.prog 184=true:=by kernel_rfl
theorem WN:aT Tryz.prog 185=true:=by kernel_rfl
theorem aK0:aT Tryz.prog 186=true:=by kernel_rfl
theorem aIV:aT Tryz.prog 188=true:=by kernel_rfl
theorem aCQ:aT Tryz.prog 189=true:=by kernel_rfl
theorem aLC:aT Tryz.prog 19=true:=by kernel_rfl
theorem YG:aT Tryz.prog 192=true:=by kernel_rfl
theorem aKA:aT Tryz.prog 194=true:=by kernel_rfl
theorem PK:aT Tryz.prog 195=true:=by kernel_rfl
theorem L6:aT Tryz.prog 196=true:=by kernel_rfl
theorem aCX:aT Tryz.prog 197=true:=by kernel_rfl
theorem rF:aT Tryz.prog 198=true:=by kernel_rfl
theorem rH:aT Tryz.prog 199=true:=by kernel_rfl
theorem YK:aT Tryz.prog 20=true:=by kernel_rfl
theorem aNF:aT Tryz.prog 200=true:=by kernel_rfl
theorem L4:aT Tryz.prog 201=true:=by kernel_rfl
theorem uP:aT Tryz.prog 202=true:=by kernel_rfl
theorem Z4:aT Tryz.prog 203=true:=by kernel_rfl
theorem J2:aT Tryz.prog 204=true:=by kernel_rfl
theorem nP:aT Tryz.prog 205=true:=by kernel_rfl
theorem yN:aT Tryz.prog 206=true:=by kernel_rfl
theorem aKP:aT Tryz.prog 207=true:=by kernel_rfl
theorem pN:aT Tryz.prog 208=true:=by kernel_rfl
theorem aGZ:aT Tryz.prog 209=true:=by kernel_rfl
theorem aE8:aT Tryz.prog 21=true:=by kernel_rfl
theorem V8:aT Tryz.prog 210=true:=by kernel_rfl
theorem R4:aT Tryz.prog 211=true:=by kernel_rfl
theorem aMU:aT Tryz.prog 212=true:=by kernel_rfl
theorem rV:aT Tryz.prog 213=true:=by kernel_rfl
theorem FH:aT Tryz.prog 214=true:=by kernel_rfl
theorem aGL:aT Tryz.prog 215=true:=by kernel_rfl
theorem aA3:aT Tryz.prog 216=true:=by kernel_rfl
theorem aCS:aT Tryz.prog 217=true:=by kernel_rfl
theorem aLM:aT Tryz.prog 218=true:=by kernel_rfl
theorem AX:aT Tryz.prog 219=true:=by kernel_rfl
theorem XX:aT Tryz.prog 22=true:=by kernel_rfl
theorem aOW:aT Tryz.prog 220=true:=by kernel_rfl
theorem FZ:aT Tryz.prog 221=true:=by kernel_rfl
theorem EY:aT Tryz.prog 222=true:=by kernel_rfl
theorem JV:aT Tryz.prog 223=true:=by kernel_rfl
theorem aLI:aT Tryz.prog 224=true:=by kernel_rfl
theorem L8:aT Tryz.prog 226=true:=by kernel_rfl
theorem aMB:aT Tryz.prog 227=true:=by kernel_rfl
theorem aAG:aT Tryz.prog 229=true:=by kernel_rfl
theorem aNY:aT Tryz.prog 23=true:=by kernel_rfl
theorem IQ:aT Tryz.prog 230=true:=by kernel_rfl
theorem aH1:aT Tryz.prog 231=true:=by kernel_rfl
theorem aB7:aT Tryz.prog 232=true:=by kernel_rfl
theorem XV:aT Tryz.prog 233=true:=by kernel_rfl
theorem FB:aT Tryz.prog 234=true:=by kernel_rfl
theorem D9:aT Tryz.prog 235=true:=by kernel_rfl
theorem EP:aT Tryz.prog 236=true:=by kernel_rfl
theorem aKZ:aT Tryz.prog 237=true:=by kernel_rfl
theorem aNV:aT Tryz.prog 238=true:=by kernel_rfl
theorem aIY:aT Tryz.prog 24=true:=by kernel_rfl
theorem aE5:aT Tryz.prog 241=true:=by kernel_rfl
theorem aD5:aT Tryz.prog 242=true:=by kernel_rfl
theorem aOA:aT Tryz.prog 243=true:=by kernel_rfl
theorem aDT:aT Tryz.prog 244=true:=by kernel_rfl
theorem aGS:aT Tryz.prog 245=true:=by kernel_rfl
theorem aHP:aT Tryz.prog 246=true:=by kernel_rfl
theorem aJW:aT Tryz.prog 247=true:=by kernel_rfl
theorem aKD:aT Tryz.prog 25=true:=by kernel_rfl
theorem aFX:aT Tryz.prog 250=true:=by kernel_rfl
theorem aII:aT Tryz.prog 26=true:=by kernel_rfl
theorem rD:aT Tryz.prog 269=true:=by kernel_rfl
theorem aLJ:aT Tryz.prog 27=true:=by kernel_rfl
theorem aBL:aT Tryz.prog 270=true:=by kernel_rfl
theorem XW:aT Tryz.prog 271=true:=by kernel_rfl
theorem RZ:aT Tryz.prog 272=true:=by kernel_rfl
theorem II:aT Tryz.prog 273=true:=by kernel_rfl
theorem MP:aT Tryz.prog 274=true:=by kernel_rfl
theorem aD4:aT Tryz.prog 275=true:=by kernel_rfl
theorem aAD:aT Tryz.prog 276=true:=by kernel_rfl
theorem IX:aT Tryz.prog 277=true:=by kernel_rfl
theorem F5:aT Tryz.prog 278=true:=by kernel_rfl
theorem AB:aT Tryz.prog 279=true:=by kernel_rfl
theorem aJF:aT Tryz.prog 28=true:=by kernel_rfl
theorem aHO:aT Tryz.prog 280=true:=by kernel_rfl
theorem Y0:aT Tryz.prog 281=true:=by kernel_rfl
theorem WI:aT Tryz.prog 282=true:=by kernel_rfl
theorem aOF:aT Tryz.prog 283=true:=by kernel_rfl
theorem aHM:aT Tryz.prog 284=true:=by kernel_rfl
theorem aJD:aT Tryz.prog 285=true:=by kernel_rfl
theorem aDF:aT Tryz.prog 286=true:=by kernel_rfl
theorem aN7:aT Tryz.prog 287=true:=by kernel_rfl
theorem aHV:aT Tryz.prog 29=true:=by kernel_rfl
theorem rW:aT Tryz.prog 30=true:=by kernel_rfl
theorem uG:aT Tryz.prog 31=true:=by kernel_rfl
theorem sQ:aT Tryz.prog 32=true:=by kernel_rfl
theorem aDW:aT Tryz.prog 33=true:=by kernel_rfl
theorem G7:aT Tryz.prog 34=true:=by kernel_rfl
theorem aBG:aT Tryz.prog 35=true:=by kernel_rfl
theorem aLB:aT Tryz.prog 36=true:=by kernel_rfl
theorem aHJ:aT Tryz.prog 37=true:=by kernel_rfl
theorem aBI:aT Tryz.prog 38=true:=by kernel_rfl
theorem aED:aT Tryz.prog 39=true:=by kernel_rfl
theorem SE:aT Tryz.prog 4=true:=by kernel_rfl
theorem tO:aT Tryz.prog 40=true:=by kernel_rfl
theorem KC:aT Tryz.prog 41=true:=by kernel_rfl
theorem aIB:aT Tryz.prog 42=true:=by kernel_rfl
theorem aOH:aT Tryz.prog 43=true:=by kernel_rfl
theorem mI:aT Tryz.prog 44=true:=by kernel_rfl
theorem aJ3:aT Tryz.prog 45=true:=by kernel_rfl
theorem aJT:aT Tryz.prog 46=true:=by kernel_rfl
theorem y9:aT Tryz.prog 47=true:=by kernel_rfl
theorem aLR:aT Tryz.prog 48=true:=by kernel_rfl
theorem qC:aT Tryz.prog 49=true:=by kernel_rfl
theorem xZ:aT Tryz.prog 5=true:=by kernel_rfl
theorem aC8:aT Tryz.prog 50=true:=by kernel_rfl
theorem sH:aT Tryz.prog 51=true:=by kernel_rfl
theorem MQ:aT Tryz.prog 52=true:=by kernel_rfl
theorem aID:aT Tryz.prog 53=true:=by kernel_rfl
theorem aKJ:aT Tryz.prog 54=true:=by kernel_rfl
theorem aGC:aT Tryz.prog 55=true:=by kernel_rfl
theorem YO:aT Tryz.prog 56=true:=by kernel_rfl
theorem aN9:aT Tryz.prog 57=true:=by kernel_rfl
theorem aOE:aT Tryz.prog 58=true:=by kernel_rfl
theorem BK:aT Tryz.prog 6=true:=by kernel_rfl
theorem Y9:aT Tryz.prog 64=true:=by kernel_rfl
theorem aJL:aT Tryz.prog 65=true:=by kernel_rfl
theorem vX:aT Tryz.prog 66=true:=by kernel_rfl
theorem B6:aT Tryz.prog 67=true:=by kernel_rfl
theorem sK:aT Tryz.prog 68=true:=by kernel_rfl
theorem ZF:aT Tryz.prog 69=true:=by kernel_rfl
theorem aAW:aT Tryz.prog 7=true:=by kernel_rfl
theorem aBK:aT Tryz.prog 70=true:=by kernel_rfl
theorem YI:aT Tryz.prog 71=true:=by kernel_rfl
theorem oG:aT Tryz.prog 72=true:=by kernel_rfl
theorem aIG:aT Tryz.prog 73=true:=by kernel_rfl
theorem kX:aT Tryz.prog 74=true:=by kernel_rfl
theorem wJ:aT Tryz.prog 75=true:=by kernel_rfl
theorem o6:aT Tryz.prog 76=true:=by kernel_rfl
theorem XZ:aT Tryz.prog 77=true:=by kernel_rfl
theorem aLZ:aT Tryz.prog 78=true:=by kernel_rfl
theorem NS:aT Tryz.prog 79=true:=by kernel_rfl
theorem aAZ:aT Tryz.prog 8=true:=by kernel_rfl
theorem aMV:aT Tryz.prog 80=true:=by kernel_rfl
theorem aGA:aT Tryz.prog 81=true:=by kernel_rfl
theorem aKU:aT Tryz.prog 82=true:=by kernel_rfl
theorem aMC:aT Tryz.prog 83=true:=by kernel_rfl
theorem aBP:aT Tryz.prog 84=true:=by kernel_rfl
theorem aFC:aT Tryz.prog 85=true:=by kernel_rfl
theorem YT:aT Tryz.prog 86=true:=by kernel_rfl
theorem JA:aT Tryz.prog 87=true:=by kernel_rfl
theorem I8:aT Tryz.prog 88=true:=by kernel_rfl
theorem aAF:aT Tryz.prog 89=true:=by kernel_rfl
theorem aD1:aT Tryz.prog 9=true:=by kernel_rfl
theorem P4:aT Tryz.prog 90=true:=by kernel_rfl
theorem aMD:aT Tryz.prog 91=true:=by kernel_rfl
theorem WZ:aT Tryz.prog 92=true:=by kernel_rfl
theorem QR:aT Tryz.prog 93=true:=by kernel_rfl
theorem aM0:aT Tryz.prog 94=true:=by kernel_rfl
theorem zQ:aT Tryz.prog 95=true:=by kernel_rfl
theorem aHF:aT Tryz.prog 96=true:=by kernel_rfl
theorem l8:aT Tryz.prog 97=true:=by kernel_rfl
theorem kL:aT Tryz.prog 98=true:=by kernel_rfl
theorem O4:aT Tryz.prog 99=true:=by kernel_rfl
theorem aDO:iF Tryz.prog 126 0=some 0:=by kernel_rfl
theorem aE4:iF Tryz.prog 34 0=some 0:=by kernel_rfl
theorem XQ:iF Tryz.prog 42 0=some 0:=by kernel_rfl
theorem TZ:iF Tryz.prog 42 1=some 1:=by kernel_rfl
theorem l6:iF Tryz.prog 42 2=some 2:=by kernel_rfl
theorem ER:iF Tryz.prog 42 3=some 3:=by kernel_rfl
theorem yH:iF Tryz.prog 42 4=some 4:=by kernel_rfl
theorem LQ:iF Tryz.prog 42 5=some 5:=by kernel_rfl
theorem UR:iF Tryz.prog 42 6=some 6:=by kernel_rfl
theorem ED:iF Tryz.prog 42 7=some 7:=by kernel_rfl
theorem aEP:iF Tryz.prog 81 5=some 5:=by kernel_rfl
theorem aM2:iF Tryz.prog 81 6=some 6:=by kernel_rfl
theorem CQ:iF Tryz.prog 84 0=some 0:=by kernel_rfl
theorem sI:iF Tryz.prog 84 1=some 1:=by kernel_rfl
theorem CU:iF Tryz.prog 84 2=some 2:=by kernel_rfl
theorem aKB:iF Tryz.prog 93 0=some 0:=by kernel_rfl
theorem UY:iF Tryz.prog 93 1=some 1:=by kernel_rfl
theorem ibx:Extern.findNext Tryz.f228=none:=by kernel_rfl
theorem iby:Extern.find Tryz.f228=some Extern.BytealgIndexByte.indexByte:=by kernel_rfl
theorem aFJ:kH Tryz.prog 235 "purveyor/pool.in"=some 270:=by kernel_rfl
theorem aNU:kH Tryz.prog 235 "purveyor/pool.out"=some 271:=by kernel_rfl
theorem aB9:kH Tryz.prog 236 "purveyor/pool.in"=some 275:=by kernel_rfl
theorem aHT:kH Tryz.prog 236 "purveyor/pool.out"=some 276:=by kernel_rfl
theorem aGX:kH Tryz.prog 237 "purveyor/pool.in"=some 280:=by kernel_rfl
theorem aLW:kH Tryz.prog 237 "purveyor/pool.out"=some 281:=by kernel_rfl
theorem aKX:kH Tryz.prog 239 "purveyor/pool.in"=some 284:=by kernel_rfl
theorem aI9:kH Tryz.prog 239 "purveyor/pool.out"=some 285:=by kernel_rfl
theorem rY:kH Tryz.prog 61 "purveyor/apply.do"=some 269:=by kernel_rfl
theorem zO:sU Tryz.prog 102=some [(0,1)]:=by kernel_rfl
theorem O7:sU Tryz.prog 31=some [(0,5),(5,1),(6,1),(7,1),(8,1),(9,1)]:=by kernel_rfl
theorem YP:sU Tryz.prog 42=some [(0,1),(1,1),(2,1),(3,1),(4,1),(5,1),(6,1),(7,1)]:=by kernel_rfl
theorem yV:zeroOf Tryz.prog 102=some [.nilFunc]:=by kernel_rfl
theorem UM:zeroOf Tryz.prog 121=some [.bool false,.bool false,.bool false,.bool false,.bool false,.bool false,.bool false,.bool false,.bool false,.bool false,.bool false,.bool false,.bool false,.bool false,.bool false,.bool false,.bool false,.bool false,.bool false,.bool false,.bool false,.bool false,.bool false,.bool false,.bool false,.bool false,.bool false,.bool false,.bool false,.bool false,.bool false,.bool false,.bool false,.bool false,.bool false,.bool false,.bool false,.bool false,.bool false,.bool false]:=by kernel_rfl
theorem aNR:zeroOf Tryz.prog 126=some [.slice none 0 0,.int .i64 0,.int .i64 0,.int .i64 0]:=by kernel_rfl
theorem aKC:zeroOf Tryz.prog 128=some [.int .i64 0,.int .i64 0,.int .i64 0,.int .i64 0,.int .i64 0,.int .i64 0,.int .i64 0,.int .i64 0,.int .i64 0]:=by kernel_rfl
theorem z141:zeroOf Tryz.prog 141=some [.int .i64 0,.int .i64 0,.slice none 0 0,.slice none 0 0,.slice none 0 0,.slice none 0 0,.slice none 0 0,.slice none 0 0,.slice none 0 0,.int .i64 0]:=by kernel_rfl
theorem aMN:zeroOf Tryz.prog 177=some [.int .i64 0,.int .i64 0]:=by kernel_rfl
theorem aNG:zeroOf Tryz.prog 180=some [.int .i64 0,.slice none 0 0]:=by kernel_rfl
theorem z183:zeroOf Tryz.prog 183=some [.int .i64 0,.int .i64 0,.int .i64 0,.int .i64 0,.int .i64 0,.int .i64 0]:=by kernel_rfl
theorem KB:zeroOf Tryz.prog 190=some [.int .i64 0,.int .i64 0,.int .i64 0,.int .i64 0,.int .i64 0,.int .i64 0,.int .i64 0,.int .i64 0,.int .i64 0,.int .i64 0,.int .i64 0]:=by kernel_rfl
theorem z229:zeroOf Tryz.prog 229=some [.int .i64 0,.int .i64 0,.int .i64 0,.int .i64 0,.int .i64 0,.int .i64 0,.int .i64 0,.int .i64 0,.int .i64 0,.int .i64 0,.int .i64 0,.int .i64 0,.int .i64 0,.int .i64 0,.int .i64 0,.int .i64 0,.int .i64 0]:=by kernel_rfl
theorem Y2:zeroOf Tryz.prog 235=some []:=by kernel_rfl
theorem z236:zeroOf Tryz.prog 236=some []:=by kernel_rfl
theorem aAU:zeroOf Tryz.prog 237=some []:=by kernel_rfl
theorem ZA:zeroOf Tryz.prog 239=some [.int .i64 0]:=by kernel_rfl
theorem aIT:zeroOf Tryz.prog 240=some [.pointer none,.slice none 0 0]:=by kernel_rfl
theorem z25:zeroOf Tryz.prog 25=some [.int .i64 0,.int .i64 0,.slice none 0 0,.slice none 0 0,.slice none 0 0]:=by kernel_rfl
theorem OG:zeroOf Tryz.prog 252=some [.int .u64 0,.int .u64 0,.int .u64 0,.int .u64 0]:=by kernel_rfl
theorem aH0:zeroOf Tryz.prog 293=some [.nilFunc,.nilFunc,.nilFunc]:=by kernel_rfl
theorem z3:zeroOf Tryz.prog 3=some [.int .i64 0]:=by kernel_rfl
theorem z31:zeroOf Tryz.prog 31=some [.int .i64 0,.int .i64 0,.slice none 0 0,.slice none 0 0,.slice none 0 0,.slice none 0 0,.slice none 0 0,.slice none 0 0,.slice none 0 0,.int .i64 0]:=by kernel_rfl
theorem z34:zeroOf Tryz.prog 34=some [.int .i64 0,.int .i64 0,.int .i64 0,.int .i64 0,.int .i64 0,.int .i64 0,.int .i64 0,.int .i64 0,.slice none 0 0]:=by kernel_rfl
theorem z35:zeroOf Tryz.prog 35=some [.int .i64 0,.int .i64 0,.int .i64 0,.int .i64 0,.int .i64 0,.int .i64 0,.int .i64 0,.int .i64 0,.slice none 0 0,.int .i64 0,.int .i64 0,.int .i64 0,.int .i64 0,.int .i64 0,.int .i64 0,.int .i64 0,.int .i64 0,.slice none 0 0,.int .i64 0,.int .i64 0,.int .i64 0,.int .i64 0,.int .i64 0,.int .i64 0,.int .i64 0,.int .i64 0,.slice none 0 0,.int .i64 0,.int .i64 0,.int .i64 0,.int .i64 0,.int .i64 0,.int .i64 0,.int .i64 0,.int .i64 0,.slice none 0 0]:=by kernel_rfl
theorem z36:zeroOf Tryz.prog 36=some [.int .i64 0]:=by kernel_rfl
theorem z42:zeroOf Tryz.prog 42=some [.int .i64 0,.bool false,.slice none 0 0,.slice none 0 0,.slice none 0 0,.slice none 0 0,.slice none 0 0,.slice none 0 0]:=by kernel_rfl
theorem z43:zeroOf Tryz.prog 43=some [.int .i64 0,.int .i64 0,.int .i64 0,.int .i64 0,.int .i64 0,.int .i64 0,.int .i64 0,.int .i64 0,.slice none 0 0,.int .i64 0,.int .i64 0,.int .i64 0,.int .i64 0,.int .i64 0,.int .i64 0,.int .i64 0,.int .i64 0,.slice none 0 0,.int .i64 0,.int .i64 0,.int .i64 0,.int .i64 0,.int .i64 0,.int .i64 0,.int .i64 0,.int .i64 0,.slice none 0 0,.int .i64 0,.int .i64 0,.int .i64 0,.int .i64 0,.int .i64 0,.int .i64 0,.int .i64 0,.int .i64 0,.slice none 0 0,.int .i64 0,.int .i64 0,.int .i64 0,.int .i64 0,.int .i64 0,.int .i64 0,.int .i64 0,.int .i64 0,.slice none 0 0,.int .i64 0,.int .i64 0,.int .i64 0,.int .i64 0,.int .i64 0,.int .i64 0,.int .i64 0,.int .i64 0,.slice none 0 0,.int .i64 0,.int .i64 0,.int .i64 0,.int .i64 0,.int .i64 0,.int .i64 0,.int .i64 0,.int .i64 0,.slice none 0 0,.int .i64 0,.int .i64 0,.int .i64 0,.int .i64 0,.int .i64 0,.int .i64 0,.int .i64 0,.int .i64 0,.slice none 0 0,.int .i64 0,.int .i64 0,.int .i64 0,.int .i64 0,.int .i64 0,.int .i64 0,.int .i64 0,.int .i64 0,.slice none 0 0,.int .i64 0,.int .i64 0,.int .i64 0,.int .i64 0,.int .i64 0,.int .i64 0,.int .i64 0,.int .i64 0,.slice none 0 0,.int .i64 0,.int .i64 0,.int .i64 0,.int .i64 0,.int .i64 0,.int .i64 0,.int .i64 0,.int .i64 0,.slice none 0 0,.int .i64 0,.int .i64 0,.int .i64 0,.int .i64 0,.int .i64 0,.int .i64 0,.int .i64 0,.int .i64 0,.slice none 0 0,.int .i64 0,.int .i64 0,.int .i64 0,.int .i64 0,.int .i64 0,.int .i64 0,.int .i64 0,.int .i64 0,.slice none 0 0]:=by kernel_rfl
theorem z63:zeroOf Tryz.prog 63=some [.string ⟨#[]⟩,.string ⟨#[]⟩,.string ⟨#[]⟩,.string ⟨#[]⟩,.string ⟨#[]⟩,.string ⟨#[]⟩,.string ⟨#[]⟩,.string ⟨#[]⟩,.string ⟨#[]⟩,.string ⟨#[]⟩,.string ⟨#[]⟩,.string ⟨#[]⟩,.string ⟨#[]⟩,.string ⟨#[]⟩,.string ⟨#[]⟩,.string ⟨#[]⟩,.string ⟨#[]⟩]:=by kernel_rfl
theorem z73:zeroOf Tryz.prog 73=some [.slice none 0 0,.slice none 0 0,.slice none 0 0]:=by kernel_rfl
theorem XO:zeroOf Tryz.prog 81=some [.int .i64 0,.int .i64 0,.int .i64 0,.int .i64 0,.int .i64 0,.int .i64 0,.int .i64 0,.int .i64 0,.bool false]:=by kernel_rfl
theorem z84:zeroOf Tryz.prog 84=some [.int .i64 0,.int .i64 0,.int .i64 0]:=by kernel_rfl
theorem z87:zeroOf Tryz.prog 87=some [.int .i64 0,.int .i64 0,.int .i64 0,.int .i64 0,.int .i64 0,.int .i64 0,.int .i64 0,.int .i64 0,.int .i64 0,.int .i64 0,.int .i64 0]:=by kernel_rfl
theorem z93:zeroOf Tryz.prog 93=some [.int .i64 0,.int .i64 0]:=by kernel_rfl
theorem z98:zeroOf Tryz.prog 98=some [.int .i64 0,.int .i64 0,.int .i64 0,.int .i64 0,.int .i64 0,.int .i64 0,.int .i64 0,.int .i64 0]:=by kernel_rfl
theorem zi3:(Tryz.prog.info? 3).bind (·.zero)=some (.int .i64 0):=by kernel_rfl
theorem aFH:(Tryz.prog.info? 102).bind (·.zero)=some (.agg #[.nilFunc]):=by kernel_rfl
theorem z1:zeroOf Tryz.prog 1=some [.nilFunc]:=by kernel_rfl
theorem z22:zeroOf Tryz.prog 22=some [.slice none 0 0]:=by kernel_rfl
theorem z68:zeroOf Tryz.prog 68=some [.pointer none]:=by kernel_rfl
noncomputable section
def tb:dX:={ sh:=[(0,(1,false)),(1,(1,false)),(3,(1,false)),(4,(1,false)),(22,(1,false)),(23,(1,false)),(25,(5,true)),(26,(1,false)),(27,(1,false)),(28,(1,false)),(29,(1,false)),(31,(10,true)),(34,(9,true)),(36,(1,false)),(38,(1,false)),(39,(1,false)),(40,(1,false)),(42,(8,true)),(63,(17,true)),(68,(1,false)),(81,(9,true)),(84,(3,true)),(87,(11,true)),(93,(2,true)),(94,(1,false)),(98,(8,true)),(102,(1,true)),(121,(40,true)),(123,(1,false)),(124,(3,true)),(126,(4,true)),(128,(9,true)),(141,(10,true)),(180,(2,true)),(183,(6,true)),(189,(1,false)),(190,(11,true)),(194,(1,false)),(205,(1,false)),(210,(1,false)),(237,(0,true)),(240,(2,true)),(252,(4,true)),(259,(1,false)),(293,(3,true))],fo:=[((25,0),0),((25,1),1),((25,2),2),((25,3),3),((25,4),4),((31,0),0),((31,1),5),((31,2),6),((31,3),7),((31,4),8),((31,5),9),((34,0),0),((34,1),1),((34,2),2),((34,3),3),((34,4),4),((34,5),5),((34,6),6),((34,7),7),((34,8),8),((42,0),0),((42,1),1),((42,2),2),((42,3),3),((42,4),4),((42,5),5),((42,6),6),((42,7),7),((81,0),0),((81,1),1),((81,2),2),((81,3),3),((81,4),4),((81,5),5),((81,6),6),((81,7),7),((81,8),8),((84,0),0),((84,1),1),((84,2),2),((87,0),0),((87,1),1),((87,2),2),((87,3),3),((87,4),4),((87,5),5),((87,6),6),((87,7),7),((87,8),8),((87,9),9),((87,10),10),((93,0),0),((93,1),1),((98,0),0),((98,1),1),((98,2),2),((98,3),3),((98,4),4),((98,5),5),((98,6),6),((98,7),7),((102,0),0),((126,0),0),((126,1),1),((141,0),0),((166,3),3),((166,4),4),((166,5),5),((166,6),6),((180,0),0),((180,1),1),((183,1),1),((183,2),2),((183,3),3),((183,4),4),((183,5),5),((239,0),0),((240,0),0),((240,1),1)],fp:=[((31,2),(6,27)),((34,0),(0,3)),((34,8),(8,22)),((84,0),(0,3)),((84,1),(1,3)),((98,0),(0,3)),((98,1),(1,3)),((126,0),(0,123)),((293,0),(0,259)),((293,1),(1,189)),((293,2),(2,205))],ki:=[(3,.i64),(5,.u8),(21,.i32),(36,.i64),(186,.u64),(194,.u64)],se:=[(22,3),(23,22),(26,42),(27,98),(28,81),(29,183),(39,126),(40,87),(48,34),(55,36),(94,93),(96,1),(123,84),(150,68),(228,180),(241,240)],bl:=[(25,[(0,1),(1,1),(2,1),(3,1),(4,1)]),(34,[(0,1),(1,1),(2,1),(3,1),(4,1),(5,1),(6,1),(7,1),(8,1)]),(81,[(0,1),(1,1),(2,1),(3,1),(4,1),(5,1),(6,1),(7,1),(8,1)]),(84,[(0,1),(1,1),(2,1)]),(87,[(0,1),(1,1),(2,1),(3,1),(4,1),(5,1),(6,1),(7,1),(8,1),(9,1),(10,1)]),(93,[(0,1),(1,1)]),(98,[(0,1),(1,1),(2,1),(3,1),(4,1),(5,1),(6,1),(7,1)]),(126,[(0,1),(1,3)]),(141,[(0,10)]),(180,[(0,1),(1,1)]),(183,[(0,1),(1,1),(2,1),(3,1),(4,1),(5,1)]),(235,[]),(236,[]),(237,[]),(239,[(0,1)]),(240,[(0,1),(1,1)]),(293,[(0,1),(1,1),(2,1)])],zs:=[(1,[.nilFunc]),(3,[.int .i64 0]),(22,[.slice none 0 0]),(25,[.int .i64 0,.int .i64 0,.slice none 0 0,.slice none 0 0,.slice none 0 0]),(31,[.int .i64 0,.int .i64 0,.slice none 0 0,.slice none 0 0,.slice none 0 0,.slice none 0 0,.slice none 0 0,.slice none 0 0,.slice none 0 0,.int .i64 0]),(34,[.int .i64 0,.int .i64 0,.int .i64 0,.int .i64 0,.int .i64 0,.int .i64 0,.int .i64 0,.int .i64 0,.slice none 0 0]),(36,[.int .i64 0]),(42,[.int .i64 0,.bool false,.slice none 0 0,.slice none 0 0,.slice none 0 0,.slice none 0 0,.slice none 0 0,.slice none 0 0]),(63,[.string ⟨#[]⟩,.string ⟨#[]⟩,.string ⟨#[]⟩,.string ⟨#[]⟩,.string ⟨#[]⟩,.string ⟨#[]⟩,.string ⟨#[]⟩,.string ⟨#[]⟩,.string ⟨#[]⟩,.string ⟨#[]⟩,.string ⟨#[]⟩,.string ⟨#[]⟩,.string ⟨#[]⟩,.string ⟨#[]⟩,.string ⟨#[]⟩,.string ⟨#[]⟩,.string ⟨#[]⟩]),(68,[.pointer none]),(81,[.int .i64 0,.int .i64 0,.int .i64 0,.int .i64 0,.int .i64 0,.int .i64 0,.int .i64 0,.int .i64 0,.bool false]),(84,[.int .i64 0,.int .i64 0,.int .i64 0]),(87,[.int .i64 0,.int .i64 0,.int .i64 0,.int .i64 0,.int .i64 0,.int .i64 0,.int .i64 0,.int .i64 0,.int .i64 0,.int .i64 0,.int .i64 0]),(93,[.int .i64 0,.int .i64 0]),(98,[.int .i64 0,.int .i64 0,.int .i64 0,.int .i64 0,.int .i64 0,.int .i64 0,.int .i64 0,.int .i64 0]),(102,[.nilFunc]),(121,[.bool false,.bool false,.bool false,.bool false,.bool false,.bool false,.bool false,.bool false,.bool false,.bool false,.bool false,.bool false,.bool false,.bool false,.bool false,.bool false,.bool false,.bool false,.bool false,.bool false,.bool false,.bool false,.bool false,.bool false,.bool false,.bool false,.bool false,.bool false,.bool false,.bool false,.bool false,.bool false,.bool false,.bool false,.bool false,.bool false,.bool false,.bool false,.bool false,.bool false]),(126,[.slice none 0 0,.int .i64 0,.int .i64 0,.int .i64 0]),(128,[.int .i64 0,.int .i64 0,.int .i64 0,.int .i64 0,.int .i64 0,.int .i64 0,.int .i64 0,.int .i64 0,.int .i64 0]),(141,[.int .i64 0,.int .i64 0,.slice none 0 0,.slice none 0 0,.slice none 0 0,.slice none 0 0,.slice none 0 0,.slice none 0 0,.slice none 0 0,.int .i64 0]),(180,[.int .i64 0,.slice none 0 0]),(183,[.int .i64 0,.int .i64 0,.int .i64 0,.int .i64 0,.int .i64 0,.int .i64 0]),(190,[.int .i64 0,.int .i64 0,.int .i64 0,.int .i64 0,.int .i64 0,.int .i64 0,.int .i64 0,.int .i64 0,.int .i64 0,.int .i64 0,.int .i64 0]),(229,[.int .i64 0,.int .i64 0,.int .i64 0,.int .i64 0,.int .i64 0,.int .i64 0,.int .i64 0,.int .i64 0,.int .i64 0,.int .i64 0,.int .i64 0,.int .i64 0,.int .i64 0,.int .i64 0,.int .i64 0,.int .i64 0,.int .i64 0]),(235,[]),(236,[]),(237,[]),(239,[.int .i64 0]),(240,[.pointer none,.slice none 0 0]),(252,[.int .u64 0,.int .u64 0,.int .u64 0,.int .u64 0]),(293,[.nilFunc,.nilFunc,.nilFunc])],bz:=[(1,1),(3,1),(22,1),(34,9),(36,1),(42,8),(68,1),(81,9),(84,3),(87,11),(93,2),(98,8),(126,4),(180,2),(183,6),(240,2)],bb:=[(3,8),(22,24),(34,88),(36,8),(42,160),(81,72),(84,24),(87,88),(93,16),(98,64),(126,48),(183,48)],ar:=[(121,(40,4)),(124,(3,3)),(128,(3,84)),(190,(11,3)),(229,(17,3)),(252,(4,194))] }
theorem aN:cK Tryz.prog tb:=⟨⟨by kernel_rfl,by kernel_rfl,by kernel_rfl⟩,by kernel_rfl,by kernel_rfl,by kernel_rfl,⟨z1,z3,z22,z25,z31,z34,z36,z42,z63,z68,XO,z84,z87,z93,z98,yV,UM,aNR,aKC,z141,aNG,z183,KB,z229,Y2,z236,aAU,ZA,aIT,OG,aH0,trivial⟩,by kernel_rfl,by kernel_rfl,by kernel_rfl⟩
abbrev WB (R:Type):=WT Tryz.prog (.b R)
abbrev PZ {B:Type} (o:Option B) (k:FuncId) (args:List AV) (V:B->AV):Prop:=PQ Tryz.prog o k args V
theorem GL {p:Prop} (h:p:=by intro r;repeat' (first | exact qX _ | exact yD _ | exact FD _ | exact F7 _ _ | exact KF | exact .agg (eZ.dA _) | exact .agg (aB.dA _) | exact .agg (gJ.dA _) | exact .agg (aM.dA _) | exact .agg (bM.dA _) | exact (aP.bW _ ▸ PV.agg (aP.dA _)) | exact .agg (bH.dA _) | exact .agg (bS.dA _) | exact .agg (dB.dA _) | exact .agg (aA.dA _) | exact .agg (aS.dA _) | exact .agg (mO.dA _) | exact .agg (aH.dA _) | exact .agg (jJ.dA _) | exact .agg (nA.dA _) | exact .agg (wH.dA _) | exact .agg (uQ.dA _) | exact .agg (uY.dA _) | exact .agg (vV.dA _) | exact .agg (vN.dA _) | exact .agg (gG.dA _) | exact .agg (wQ.dA _) | refine .aU ?_ | refine SS ?_ ?_ | refine o8 ?_ _ | exact vI | exact QI | exact NC | exact QU _ | exact eZ.dA | exact aB.dA | exact gJ.dA | exact aM.dA | exact bM.dA | exact aP.dA | exact bH.dA | exact bS.dA | exact dB.dA | exact aA.dA | exact aS.dA | exact mO.dA | exact aH.dA | exact jJ.dA | exact nA.dA | exact wH.dA | exact uQ.dA | exact uY.dA | exact vV.dA | exact vN.dA | exact gG.dA | exact wQ.dA | refine PI ?_)):p:=h
theorem wq {R:Type} {V:R->AV} {g:FuncId} {fn:Func} {ar:List AV} {t:WB R} (hf:Tryz.prog.funcs[g]?=some fn) (h:WP Tryz.prog tb 100000 ⟨fn.ntmps,false,[]⟩ t (.fn (JF tb fn.results.toList V) DJ) (.c [vU fn]) (λt=>ar[t]?) H0 []:=by exact au) (hpv:∀ a,PV (V a):=by exact GL) (hb:fn.body=some (vU fn):=by rfl) (hle:Nat.ble ar.length fn.ntmps=true:=by rfl):PZ t.run g ar V:=λ_ h0=>KO mixed aN V h0 hf hpv 100000 h hb hle
theorem wm {R:Type} {V:R->AV} {g:FuncId} {fn:Func} {ar:List AV} {t:WB R} (hf:Tryz.prog.funcs[g]?=some fn) (h:WP Tryz.prog tb 100000 ⟨fn.ntmps,false,[]⟩ t (.fn (JF tb fn.results.toList V) DJ) (.c [vU fn]) (λt=>ar[t]?) H0 []) (hpv:∀ a,PV (V a):=by exact GL) (hb:fn.body=some (vU fn):=by rfl) (hle:Nat.ble ar.length fn.ntmps=true:=by rfl):PZ t.run g ar V:=λ_ h0=>KO mixed aN V h0 hf hpv 100000 h hb hle
theorem QZ:lK Tryz.prog 52 98 8 bH.av:=nT Tryz.func52 MQ Tryz.underlying27 I9 TD
theorem vQ:lK Tryz.prog 66 42 8 aP.av:=nT Tryz.func66 vX Tryz.underlying26 qW yE
theorem B9:lK Tryz.prog 67 3 1 fI:=nT Tryz.func67 B6 Tryz.underlying22 fT kY
theorem OI:lK Tryz.prog 99 87 11 bM.av:=nT Tryz.func99 O4 Tryz.underlying40 EB ES
theorem aK4:lK Tryz.prog 102 81 9 bS.av:=nT Tryz.func102 aAA Tryz.underlying28 OU RF
theorem AR:lK Tryz.prog 105 126 4 aM.av:=nT Tryz.func105 C4 Tryz.underlying39 EQ DV
theorem TQ:lK Tryz.prog 127 183 6 dB.av:=nT Tryz.func127 QW Tryz.underlying29 ET K5
theorem V2:lK Tryz.prog 168 93 2 aH.av:=nT Tryz.func168 VV Tryz.underlying94 l5 JE
theorem wU:lK Tryz.prog 180 84 3 aB.av:=nT Tryz.func180 vJ Tryz.underlying123 DY O6
theorem MN:lK Tryz.prog 184 22 1 (fL 1 fI):=nT Tryz.func184 WG Tryz.underlying23 rM HV
theorem PD {p:Prop} (h:p:=by first | exact QZ | exact vQ | exact B9 | exact OI | exact aK4 | exact AR | exact TQ | exact V2 | exact wU | exact MN):p:=h
def aLS (n:Nat) (a1:List Int) (a2:Int) (a3:Int) (a4:Int):WB (Bool) :=
 .ln 11 fI a1<|.bB 13 (decide ((a1.length:Int)≠a2)) λx5=>.ifs [13] x5 (.ret ((false:Bool))) (.dF 2 [8] [] [] (λ_ (a:Unit)=>[]) (λ_ _=>[]) (.lp [0,1,2,3,8] [] [] (λ_ (a:Int)=>[(9,int a)]) (λ_ _=>[]) n 0 (λy0_1=>.bB 16 (decide (y0_1<a2)) λx6=>.ifs [16] x6 (.jn 2 [0,1,2,3,8,9] [] [] (λ_ (a:Bool)=>[(32,aF a)]) (λ_ _=>[]) (.ix 21 fI a1 y0_1 λx7=>.bB 24 (decide (x7<a3)) λx8=>.ifs [24] x8 (.ret true) (.ix 28 fI a1 y0_1 λx9=>.bB 31 (decide (x9>a4)) λx10=>.ret x10)) (λy1_1=>.ifs [32] y1_1 (.esc (.esc (.ret ((false:Bool))))) (.bI 18 (aI (y0_1+1)) λx11=>.brk x11))) (.esc (.brk ())))) (λ_=>.ret ((true:Bool))))
def zS (n:Nat) (a1:List Int) (a2:Int) (a3:Int) (a4:Int):Option (Bool):=(aLS n a1 a2 a3 a4).run
theorem GH {n a1 a2 a3 a4}:PZ (zS n a1 a2 a3 a4) 34 [aD 1 fI a1,int a2,int a3,int a4] aF:=wq Tryz.func34
def aOG (n:Nat) (a1:eZ):WB (Bool) :=
 .al 1<|.ln 7 fI a1.cB<|.jn 0 [1,2,3] [1] [] (λ_ (a:Bool)=>[(56,aF a)]) (λ_ _=>[]) (.bB 10 (decide (a1.eH<1)) λx3=>.ifs [10] x3 (.ret true) (.bB 14 (decide (a1.eH>4)) λx4=>.ifs [14] x4 (.ret true) (.bB 19 (decide (a1.fA<1)) λx5=>.ifs [19] x5 (.ret true) (.bB 24 (decide (a1.fA>12)) λx6=>.ifs [24] x6 (.ret true) (.bB 28 (decide ((a1.cB.length:Int)<1)) λx7=>.ifs [28] x7 (.ret true) (.bB 32 (decide ((a1.cB.length:Int)>5)) λx8=>.ifs [32] x8 (.ret true) (.cl 38 (zS n a1.cB (a1.cB.length:Int) 0 1073741824) G7 GH λx9=>.bB 39 (!x9) λx10=>.ifs [39] x10 (.ret true) (.ln 44 (fL 1 fI) a1.Methods<|.bB 47 (decide ((a1.Methods.length:Int)≠a1.eH)) λx11=>.ifs [47] x11 (.ret true) (.ln 52 (fL 1 fI) a1.dN<|.bB 55 (decide ((a1.dN.length:Int)≠a1.eH)) λx12=>.ret x12))))))))) (λy0_1=>.ifs [56] y0_1 (.ret ((false:Bool))) (.dF 2 [2] [] [] (λ_ (a:Unit)=>[]) (λ_ _=>[]) (.lp [1,2,3] [1] [] (λ_ (a:Int)=>[(4,int a)]) (λ_ _=>[]) n 0 (λy1_1=>.bB 60 (decide (y1_1<a1.eH)) λx13=>.ifs [60] x13 (.jn 2 [1,2,3,4] [1] [] (λ_ (a:Bool)=>[(80,aF a)]) (λ_ _=>[]) (.ix 66 (fL 1 fI) a1.Methods y1_1 λx14=>.cl 69 (zS n x14 (a1.cB.length:Int) 1 4) G7 GH λx15=>.bB 70 (!x15) λx16=>.ifs [70] x16 (.ret true) (.ix 75 (fL 1 fI) a1.dN y1_1 λx17=>.cl 78 (zS n x17 (a1.cB.length:Int) 0 1073741824) G7 GH λx18=>.bB 79 (!x18) λx19=>.ret x19)) (λy2_1=>.ifs [80] y2_1 (.esc (.esc (.ret ((false:Bool))))) (.bI 62 (aI (y1_1+1)) λx20=>.brk x20))) (.esc (.brk ())))) (λ_=>.ret ((true:Bool)))))
def TE (n:Nat) (a1:eZ):Option (Bool):=(aOG n a1).run
theorem aDK {n a1}:PZ (TE n a1) 15 [.agg (eZ.av a1)] aF:=wq Tryz.func15
end
end Go.Pv
