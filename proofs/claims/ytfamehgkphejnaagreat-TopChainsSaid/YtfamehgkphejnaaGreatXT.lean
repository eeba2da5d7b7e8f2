import Derived.Test.YtfamehgkphejnaaGreatPvAG
import Derived.Test.YtfamehgkphejnaaGreatPwK
import Derived.Test.YtfamehgkphejnaaGreatPvAH
import Derived.Test.YtfamehgkphejnaaGreatPvAI
import Derived.Test.YtfamehgkphejnaaGreatPvAM
import Derived.Test.YtfamehgkphejnaaGreatProg
set_option linter.unusedVariables false
set_option linter.unusedSimpArgs false
namespace Go.Pv
open Go.Proofs
theorem mixed:Tryz.prog.follows .mixedOrders=true:=by kernel_rfl
set_option maxRecDepth 100000
set_option maxHeartbeats 4000000
structure eZ where
  eH:Int
  aQA:Int
  cB:List Int
  Methods:List (List Int)
  dN:List (List Int)
  deriving DecidableEq,Inhabited
@[reducible] def eZ.av (x:eZ):List AV:=[int x.eH,int x.aQA,aD 1 fI x.cB,aD 1 (fL 1 fI) x.Methods,aD 1 (fL 1 fI) x.dN]
theorem eZ.dA (x:eZ):∀ a∈x.av,PV a:=iP
structure aB where
  aQ:Int
  Value:Int
  bO:Int
  deriving DecidableEq,Inhabited
@[reducible] def aB.av (x:aB):List AV:=[int x.aQ,int x.Value,int x.bO]
theorem aB.dA (x:aB):∀ a∈x.av,PV a:=iP
structure gJ where
  a0:Int
  a1:Int
  a2:Int
  deriving DecidableEq,Inhabited
@[reducible] def gJ.av (x:gJ):List AV:=[int x.a0,int x.a1,int x.a2]
theorem gJ.dA (x:gJ):∀ a∈x.av,PV a:=iP
theorem gJ.eqv (x y:gJ):(decide (x.a0=y.a0) && (decide (x.a1=y.a1) && (decide (x.a2=y.a2) && true)))=decide (x=y):=by
  cases x;cases y;rw [Bool.eq_iff_iff];simp only [Bool.and_eq_true,decide_eq_true_eq,gJ.mk.injEq,and_true]
structure aM where
  cO:List aB
  bF:gJ
  deriving DecidableEq,Inhabited
@[reducible] def aM.av (x:aM):List AV:=[aD 3 aB.av x.cO,int x.bF.a0,int x.bF.a1,int x.bF.a2]
theorem aM.dA (x:aM):∀ a∈x.av,PV a:=iP
structure bM where
  Open:Int
  jC:Int
  iV:Int
  iW:Int
  iQ:Int
  jA:Int
  iY:Int
  iU:Int
  iT:Int
  iZ:Int
  jD:Int
  deriving DecidableEq,Inhabited
@[reducible] def bM.av (x:bM):List AV:=[int x.Open,int x.jC,int x.iV,int x.iW,int x.iQ,int x.jA,int x.iY,int x.iU,int x.iT,int x.iZ,int x.jD]
theorem bM.dA (x:bM):∀ a∈x.av,PV a:=iP
structure aP where
  Now:Int
  Closed:Bool
  dD:List aM
  dU:List Int
  dI:List bM
  dO:List Int
  Down:List Int
  eT:List aP
  deriving Inhabited
mutual
def aP.av:aP->List AV
  | ⟨Now,Closed,dD,dU,dI,dO,Down,eT⟩=>[int Now,aF Closed,aD 4 aM.av dD,aD 1 fI dU,aD 11 bM.av dI,aD 1 fI dO,aD 1 fI Down,.list 8 (aP.qI eT)]
def aP.qI:List aP->List (List AV)
  | []=>[]
  | x :: r=>aP.av x :: aP.qI r
end
theorem aP.aKI (l:List aP):aP.qI l=l.map aP.av:=by
  induction l with
  | nil=>unfold aP.qI;rfl
  | cons x r ih=>unfold aP.qI;rw [ih];rfl
@[reducible] def gE (x:aP):List AV:=[int x.Now,aF x.Closed,aD 4 aM.av x.dD,aD 1 fI x.dU,aD 11 bM.av x.dI,aD 1 fI x.dO,aD 1 fI x.Down,aD 8 aP.av x.eT]
theorem aP.bW (x:aP):aP.av x=[int x.Now,aF x.Closed,aD 4 aM.av x.dD,aD 1 fI x.dU,aD 11 bM.av x.dI,aD 1 fI x.dO,aD 1 fI x.Down,aD 8 aP.av x.eT]:=by
  cases x;unfold aP.av;rw [aP.aKI]
theorem aP.one (x:aP):fE (aP.av x)=true:=by rw [aP.bW];rfl
mutual
theorem aP.dA:∀ (x:aP),∀ a∈x.av,PV a
  | ⟨Now,Closed,dD,dU,dI,dO,Down,eT⟩=>by
    intro a ha;unfold aP.av at ha;simp only [List.mem_cons,List.not_mem_nil,or_false] at ha
    rcases ha with rfl | rfl | rfl | rfl | rfl | rfl | rfl | rfl
    · exact qX Now
    · exact yD Closed
    · exact (o8 aM.dA) dD
    · exact (o8 vI) dU
    · exact (o8 bM.dA) dI
    · exact (o8 vI) dO
    · exact (o8 vI) Down
    · exact .list (λr hr=>aP.VN eT r hr)
theorem aP.VN:∀ (l:List aP),∀ r∈aP.qI l,∀ a∈r,PV a
  | []=>by intro r hr;unfold aP.qI at hr;cases hr
  | x :: l=>by
    intro r hr;unfold aP.qI at hr
    rcases List.mem_cons.1 hr with e | h
    · rw [e];exact aP.dA x
    · exact aP.VN l r h
end
structure bH where
  dG:Int
  Item:Int
  Loc:Int
  aQ:Int
  Value:Int
  Open:Int
  jV:Int
  fF:Int
  deriving DecidableEq,Inhabited
@[reducible] def bH.av (x:bH):List AV:=[int x.dG,int x.Item,int x.Loc,int x.aQ,int x.Value,int x.Open,int x.jV,int x.fF]
theorem bH.dA (x:bH):∀ a∈x.av,PV a:=iP
structure bS where
  dG:Int
  Item:Int
  Loc:Int
  aQ:Int
  fF:Int
  qV:Int
  bO:Int
  jW:Int
  jY:Bool
  deriving DecidableEq,Inhabited
@[reducible] def bS.av (x:bS):List AV:=[int x.dG,int x.Item,int x.Loc,int x.aQ,int x.fF,int x.qV,int x.bO,int x.jW,aF x.jY]
theorem bS.dA (x:bS):∀ a∈x.av,PV a:=iP
structure dB where
  aR1:Int
  To:Int
  Item:Int
  aQ:Int
  Value:Int
  bO:Int
  deriving DecidableEq,Inhabited
@[reducible] def dB.av (x:dB):List AV:=[int x.aR1,int x.To,int x.Item,int x.aQ,int x.Value,int x.bO]
theorem dB.dA (x:dB):∀ a∈x.av,PV a:=iP
structure aA where
  bA:eZ
  aW:List aP
  bP:List bH
  bU:List bS
  bY:List dB
  Done:Int
  deriving Inhabited
@[reducible] def aA.av (x:aA):List AV:=[int x.bA.eH,int x.bA.aQA,aD 1 fI x.bA.cB,aD 1 (fL 1 fI) x.bA.Methods,aD 1 (fL 1 fI) x.bA.dN,aD 8 aP.av x.aW,aD 8 bH.av x.bP,aD 9 bS.av x.bU,aD 6 dB.av x.bY,int x.Done]
theorem aA.dA (x:aA):∀ a∈x.av,PV a:=iP
structure aS where
  Kind:Int
  E:Int
  Item:Int
  Loc:Int
  To:Int
  aQ:Int
  bD:Int
  Ref:Int
  bT:List Int
  deriving DecidableEq,Inhabited
@[reducible] def aS.av (x:aS):List AV:=[int x.Kind,int x.E,int x.Item,int x.Loc,int x.To,int x.aQ,int x.bD,int x.Ref,aD 1 fI x.bT]
theorem aS.dA (x:aS):∀ a∈x.av,PV a:=iP
structure aH where
  fM:Int
  bD:Int
  deriving DecidableEq,Inhabited
@[reducible] def aH.av (x:aH):List AV:=[int x.fM,int x.bD]
theorem aH.dA (x:aH):∀ a∈x.av,PV a:=iP
structure wH where
  deriving DecidableEq,Inhabited
@[reducible] def wH.av (x:wH):List AV:=[]
theorem wH.dA (x:wH):∀ a∈x.av,PV a:=iP
structure uQ where
  deriving DecidableEq,Inhabited
@[reducible] def uQ.av (x:uQ):List AV:=[]
theorem uQ.dA (x:uQ):∀ a∈x.av,PV a:=iP
structure uY where
  deriving DecidableEq,Inhabited
@[reducible] def uY.av (x:uY):List AV:=[]
theorem uY.dA (x:uY):∀ a∈x.av,PV a:=iP
structure vV where
  cost:Int
  deriving DecidableEq,Inhabited
@[reducible] def vV.av (x:vV):List AV:=[int x.cost]
theorem vV.dA (x:vV):∀ a∈x.av,PV a:=iP
structure nA where
  a0:List UInt8
  a1:List UInt8
  a2:List UInt8
  a3:List UInt8
  a4:List UInt8
  a5:List UInt8
  a6:List UInt8
  a7:List UInt8
  a8:List UInt8
  a9:List UInt8
  kK:List UInt8
  oM:List UInt8
  a12:List UInt8
  rZ:List UInt8
  IR:List UInt8
  JU:List UInt8
  a16:List UInt8
  deriving DecidableEq,Inhabited
@[reducible] def nA.av (x:nA):List AV:=[str x.a0,str x.a1,str x.a2,str x.a3,str x.a4,str x.a5,str x.a6,str x.a7,str x.a8,str x.a9,str x.kK,str x.oM,str x.a12,str x.rZ,str x.IR,str x.JU,str x.a16]
theorem nA.dA (x:nA):∀ a∈x.av,PV a:=iP
structure mO where
  a0:aB
  a1:aB
  a2:aB
  deriving DecidableEq,Inhabited
@[reducible] def mO.av (x:mO):List AV:=[int x.a0.aQ,int x.a0.Value,int x.a0.bO,int x.a1.aQ,int x.a1.Value,int x.a1.bO,int x.a2.aQ,int x.a2.Value,int x.a2.bO]
theorem mO.dA (x:mO):∀ a∈x.av,PV a:=iP
structure vN where
  a0:Int
  a1:Int
  deriving DecidableEq,Inhabited
@[reducible] def vN.av (x:vN):List AV:=[int x.a0,int x.a1]
theorem vN.dA (x:vN):∀ a∈x.av,PV a:=iP
structure gG where
  NB:Int
  lines:List aH
  deriving DecidableEq,Inhabited
@[reducible] def gG.av (x:gG):List AV:=[int x.NB,aD 2 aH.av x.lines]
theorem gG.dA (x:gG):∀ a∈x.av,PV a:=iP
structure aUJ where
  aQ:Int
  Value:Int
  bO:Int
  Down:Int
  deriving DecidableEq,Inhabited
@[reducible] def aUJ.av (x:aUJ):List AV:=[int x.aQ,int x.Value,int x.bO,int x.Down]
theorem aUJ.dA (x:aUJ):∀ a∈x.av,PV a:=iP
theorem xC:dL Tryz.prog 1=some (1,false):=by kernel_rfl
theorem fC:dL Tryz.prog 3=some (1,false):=by kernel_rfl
theorem rE:dL Tryz.prog 4=some (1,false):=by kernel_rfl
theorem kC:dL Tryz.prog 22=some (1,false):=by kernel_rfl
theorem a5G:dL Tryz.prog 23=some (1,false):=by kernel_rfl
theorem a4Z:dL Tryz.prog 28=some (1,false):=by kernel_rfl
theorem aVX:dL Tryz.prog 33=some (10,true):=by kernel_rfl
theorem a4R:dL Tryz.prog 36=some (9,true):=by kernel_rfl
theorem bC7:dL Tryz.prog 37=some (1,false):=by kernel_rfl
theorem a6D:dL Tryz.prog 41=some (11,true):=by kernel_rfl
theorem jE:dL Tryz.prog 42=some (1,false):=by kernel_rfl
theorem a4F:dL Tryz.prog 43=some (1,false):=by kernel_rfl
theorem aWN:dL Tryz.prog 45=some (8,true):=by kernel_rfl
theorem a6G:dL Tryz.prog 57=some (1,false):=by kernel_rfl
theorem bAW:dL Tryz.prog 63=some (1,false):=by kernel_rfl
theorem a1M:dL Tryz.prog 69=some (1,false):=by kernel_rfl
theorem bFN:dL Tryz.prog 74=some (1,false):=by kernel_rfl
theorem a2Q:dL Tryz.prog 77=some (4,true):=by kernel_rfl
theorem a5L:dL Tryz.prog 82=some (9,true):=by kernel_rfl
theorem aSL:dL Tryz.prog 86=some (3,true):=by kernel_rfl
theorem a6N:dL Tryz.prog 96=some (2,true):=by kernel_rfl
theorem a4G:dL Tryz.prog 102=some (1,true):=by kernel_rfl
theorem aTH:dL Tryz.prog 115=some (2,true):=by kernel_rfl
theorem bAN:dL Tryz.prog 121=some (1,false):=by kernel_rfl
theorem bCC:dL Tryz.prog 134=some (8,true):=by kernel_rfl
theorem a4B:dL Tryz.prog 164=some (1,false):=by kernel_rfl
theorem a7U:dL Tryz.prog 212=some (2,true):=by kernel_rfl
theorem bAA:iE Tryz.prog 115=some 16:=by kernel_rfl
theorem bAE:iE Tryz.prog 134=some 64:=by kernel_rfl
theorem HV:iE Tryz.prog 22=some 24:=by kernel_rfl
theorem kY:iE Tryz.prog 3=some 8:=by kernel_rfl
theorem bD6:iE Tryz.prog 37=some 8:=by kernel_rfl
theorem a5R:iE Tryz.prog 41=some 88:=by kernel_rfl
theorem a7B:iE Tryz.prog 45=some 160:=by kernel_rfl
theorem a6E:iE Tryz.prog 77=some 48:=by kernel_rfl
theorem bF1:iE Tryz.prog 82=some 72:=by kernel_rfl
theorem a88:iE Tryz.prog 86=some 24:=by kernel_rfl
theorem bAP:iE Tryz.prog 92=some 48:=by kernel_rfl
theorem WS:fJ Tryz.prog 1=some (1,[.nilFunc]):=by kernel_rfl
theorem a3V:fJ Tryz.prog 115=some (2,[.int .i64 0,.int .i64 0]):=by kernel_rfl
theorem a7E:fJ Tryz.prog 134=some (8,[.int .i64 0,.int .i64 0,.int .i64 0,.int .i64 0,.int .i64 0,.int .i64 0,.int .i64 0,.int .i64 0]):=by kernel_rfl
theorem bE0:fJ Tryz.prog 212=some (2,[.pointer none,.slice none 0 0]):=by kernel_rfl
theorem rM:fJ Tryz.prog 22=some (1,[.slice none 0 0]):=by kernel_rfl
theorem bD7:fJ Tryz.prog 233=some (2,[.int .i64 0,.slice none 0 0]):=by kernel_rfl
theorem fT:fJ Tryz.prog 3=some (1,[.int .i64 0]):=by kernel_rfl
theorem bCY:fJ Tryz.prog 36=some (9,[.int .i64 0,.int .i64 0,.int .i64 0,.int .i64 0,.int .i64 0,.int .i64 0,.int .i64 0,.int .i64 0,.slice none 0 0]):=by kernel_rfl
theorem bAQ:fJ Tryz.prog 37=some (1,[.int .i64 0]):=by kernel_rfl
theorem a2K:fJ Tryz.prog 41=some (11,[.int .i64 0,.int .i64 0,.int .i64 0,.int .i64 0,.int .i64 0,.int .i64 0,.int .i64 0,.int .i64 0,.int .i64 0,.int .i64 0,.int .i64 0]):=by kernel_rfl
theorem a4M:fJ Tryz.prog 45=some (8,[.int .i64 0,.bool false,.slice none 0 0,.slice none 0 0,.slice none 0 0,.slice none 0 0,.slice none 0 0,.slice none 0 0]):=by kernel_rfl
theorem a0G:fJ Tryz.prog 69=some (1,[.pointer none]):=by kernel_rfl
theorem a6J:fJ Tryz.prog 77=some (4,[.slice none 0 0,.int .i64 0,.int .i64 0,.int .i64 0]):=by kernel_rfl
theorem bB2:fJ Tryz.prog 82=some (9,[.int .i64 0,.int .i64 0,.int .i64 0,.int .i64 0,.int .i64 0,.int .i64 0,.int .i64 0,.int .i64 0,.bool false]):=by kernel_rfl
theorem a7T:fJ Tryz.prog 86=some (3,[.int .i64 0,.int .i64 0,.int .i64 0]):=by kernel_rfl
theorem a6Y:fJ Tryz.prog 92=some (6,[.int .i64 0,.int .i64 0,.int .i64 0,.int .i64 0,.int .i64 0,.int .i64 0]):=by kernel_rfl
theorem bA9:fJ Tryz.prog 96=some (2,[.pointer none,.slice none 0 0]):=by kernel_rfl
theorem c3:Tryz.prog.cellsOf 3=1:=by kernel_rfl
theorem aOX:aT Tryz.prog 10=true:=by kernel_rfl
theorem vS:aT Tryz.prog 100=true:=by kernel_rfl
theorem mM:aT Tryz.prog 101=true:=by kernel_rfl
theorem aAA:aT Tryz.prog 102=true:=by kernel_rfl
theorem aAQ:aT Tryz.prog 103=true:=by kernel_rfl
theorem zM:aT Tryz.prog 104=true:=by kernel_rfl
theorem C4:aT Tryz.prog 105=true:=by kernel_rfl
theorem VP:aT Tryz.prog 106=true:=by kernel_rfl
theorem nN:aT Tryz.prog 107=true:=by kernel_rfl
theorem aE1:aT Tryz.prog 108=true:=by kernel_rfl
theorem ZZ:aT Tryz.prog 109=true:=by kernel_rfl
theorem aMO:aT Tryz.prog 11=true:=by kernel_rfl
theorem aIN:aT Tryz.prog 114=true:=by kernel_rfl
theorem bDW:aT Tryz.prog 115=true:=by kernel_rfl
theorem a5D:aT Tryz.prog 116=true:=by kernel_rfl
theorem a8O:aT Tryz.prog 117=true:=by kernel_rfl
theorem a4V:aT Tryz.prog 118=true:=by kernel_rfl
theorem pG:aT Tryz.prog 119=true:=by kernel_rfl
theorem qF:aT Tryz.prog 12=true:=by kernel_rfl
theorem wY:aT Tryz.prog 120=true:=by kernel_rfl
theorem bBS:aT Tryz.prog 121=true:=by kernel_rfl
theorem bA8:aT Tryz.prog 122=true:=by kernel_rfl
theorem QD:aT Tryz.prog 123=true:=by kernel_rfl
theorem aUG:aT Tryz.prog 124=true:=by kernel_rfl
theorem OA:aT Tryz.prog 125=true:=by kernel_rfl
theorem oP:aT Tryz.prog 126=true:=by kernel_rfl
theorem QW:aT Tryz.prog 127=true:=by kernel_rfl
theorem tZ:aT Tryz.prog 128=true:=by kernel_rfl
theorem aUV:aT Tryz.prog 129=true:=by kernel_rfl
theorem X5:aT Tryz.prog 13=true:=by kernel_rfl
theorem aY1:aT Tryz.prog 130=true:=by kernel_rfl
theorem aTF:aT Tryz.prog 131=true:=by kernel_rfl
theorem xK:aT Tryz.prog 132=true:=by kernel_rfl
theorem vG:aT Tryz.prog 133=true:=by kernel_rfl
theorem wO:aT Tryz.prog 134=true:=by kernel_rfl
theorem OM:aT Tryz.prog 135=true:=by kernel_rfl
theorem aDR:aT Tryz.prog 136=true:=by kernel_rfl
theorem RN:aT Tryz.prog 137=true:=by kernel_rfl
theorem a1X:aT Tryz.prog 138=true:=by kernel_rfl
theorem aCA:aT Tryz.prog 139=true:=by kernel_rfl
theorem aM1:aT Tryz.prog 14=true:=by kernel_rfl
theorem aBF:aT Tryz.prog 140=true:=by kernel_rfl
theorem V3:aT Tryz.prog 141=true:=by kernel_rfl
theorem SI:aT Tryz.prog 142=true:=by kernel_rfl
theorem yR:aT Tryz.prog 143=true:=by kernel_rfl
theorem sW:aT Tryz.prog 144=true:=by kernel_rfl
theorem nY:aT Tryz.prog 145=true:=by kernel_rfl
theorem yO:aT Tryz.prog 146=true:=by kernel_rfl
theorem aCO:aT Tryz.prog 147=true:=by kernel_rfl
theorem aHH:aT Tryz.prog 148=true:=by kernel_rfl
theorem XH:aT Tryz.prog 149=true:=by kernel_rfl
theorem aA1:aT Tryz.prog 15=true:=by kernel_rfl
theorem aKQ:aT Tryz.prog 150=true:=by kernel_rfl
theorem aJ4:aT Tryz.prog 151=true:=by kernel_rfl
theorem aA0:aT Tryz.prog 152=true:=by kernel_rfl
theorem Z7:aT Tryz.prog 153=true:=by kernel_rfl
theorem aFG:aT Tryz.prog 154=true:=by kernel_rfl
theorem IA:aT Tryz.prog 155=true:=by kernel_rfl
theorem aKR:aT Tryz.prog 156=true:=by kernel_rfl
theorem aB0:aT Tryz.prog 157=true:=by kernel_rfl
theorem aDC:aT Tryz.prog 158=true:=by kernel_rfl
theorem WY:aT Tryz.prog 159=true:=by kernel_rfl
theorem aFL:aT Tryz.prog 16=true:=by kernel_rfl
theorem aJP:aT Tryz.prog 160=true:=by kernel_rfl
theorem PO:aT Tryz.prog 161=true:=by kernel_rfl
theorem kQ:aT Tryz.prog 162=true:=by kernel_rfl
theorem z8:aT Tryz.prog 163=true:=by kernel_rfl
theorem aBS:aT Tryz.prog 165=true:=by kernel_rfl
theorem NQ:aT Tryz.prog 166=true:=by kernel_rfl
theorem Q9:aT Tryz.prog 167=true:=by kernel_rfl
theorem VV:aT Tryz.prog 168=true:=by kernel_rfl
theorem aL8:aT Tryz.prog 169=true:=by kernel_rfl
theorem UN:aT Tryz.prog 17=true:=by kernel_rfl
theorem V7:aT Tryz.prog 170=true:=by kernel_rfl
theorem aMG:aT Tryz.prog 171=true:=by kernel_rfl
theorem MX:aT Tryz.prog 172=true:=by kernel_rfl
theorem aDX:aT Tryz.prog 173=true:=by kernel_rfl
theorem aAT:aT Tryz.prog 174=true:=by kernel_rfl
theorem YS:aT Tryz.prog 175=true:=by kernel_rfl
theorem AT:aT Tryz.prog 176=true:=by kernel_rfl
theorem vC:aT Tryz.prog 178=true:=by kernel_rfl
theorem bGA:aT Tryz.prog 179=true:=by kernel_rfl
theorem ZV:aT Tryz.prog 18=true:=by kernel_rfl
theorem vJ:aT Tryz.prog 180=true:=by kernel_rfl
theorem xX:aT Tryz.prog 181=true:=by kernel_rfl
theorem mP:aT Tryz.prog 182=true:=by kernel_rfl
theorem aJV:aT Tryz.prog 183=true:=by kernel_rfl
theorem WG:aT Tryz.prog 184=true:=by kernel_rfl
theorem WN:aT Tryz.prog 185=true:=by kernel_rfl
theorem aK0:aT Tryz.prog 186=true:=by kernel_rfl
theorem aTR:aT Tryz.prog 187=true:=by kernel_rfl
theorem aIV:aT Tryz.prog 188=true:=by kernel_rfl
theorem aCQ:aT Tryz.prog 189=true:=by kernel_rfl
theorem aLC:aT Tryz.prog 19=true:=by kernel_rfl
theorem aWW:aT Tryz.prog 190=true:=by kernel_rfl
theorem aYT:aT Tryz.prog 191=true:=by kernel_rfl
theorem YG:aT Tryz.prog 192=true:=by kernel_rfl
theorem aWG:aT Tryz.prog 193=true:=by kernel_rfl
theorem aKA:aT Tryz.prog 194=true:=by kernel_rfl
theorem PK:aT Tryz.prog 195=true:=by kernel_rfl
theorem L6:aT Tryz.prog 196=true:=by kernel_rfl
theorem aCX:aT Tryz.prog 197=true:=by kernel_rfl
theorem rF:aT Tryz.prog 198=true:=by kernel_rfl
theorem rH:aT Tryz.prog 199=true:=by kernel_rfl
theorem YK:aT Tryz.prog 20=true:=by kernel_rfl
theorem aNF:aT Tryz.prog 200=true:=by kernel_rfl
theorem L4:aT Tryz.prog 201=true:=by kernel_rfl
theorem uP:aT Tryz.prog 202=true:=by kernel_rfl
theorem Z4:aT Tryz.prog 203=true:=by kernel_rfl
theorem J2:aT Tryz.prog 204=true:=by kernel_rfl
theorem nP:aT Tryz.prog 205=true:=by kernel_rfl
theorem yN:aT Tryz.prog 206=true:=by kernel_rfl
theorem aKP:aT Tryz.prog 207=true:=by kernel_rfl
theorem pN:aT Tryz.prog 208=true:=by kernel_rfl
theorem aGZ:aT Tryz.prog 209=true:=by kernel_rfl
theorem aE8:aT Tryz.prog 21=true:=by kernel_rfl
theorem V8:aT Tryz.prog 210=true:=by kernel_rfl
theorem R4:aT Tryz.prog 211=true:=by kernel_rfl
theorem aMU:aT Tryz.prog 212=true:=by kernel_rfl
theorem rV:aT Tryz.prog 213=true:=by kernel_rfl
theorem aGL:aT Tryz.prog 215=true:=by kernel_rfl
theorem aA3:aT Tryz.prog 216=true:=by kernel_rfl
theorem XX:aT Tryz.prog 22=true:=by kernel_rfl
theorem aNY:aT Tryz.prog 23=true:=by kernel_rfl
theorem aKZ:aT Tryz.prog 237=true:=by kernel_rfl
theorem aNV:aT Tryz.prog 238=true:=by kernel_rfl
theorem aT3:aT Tryz.prog 239=true:=by kernel_rfl
theorem aIY:aT Tryz.prog 24=true:=by kernel_rfl
theorem aX7:aT Tryz.prog 240=true:=by kernel_rfl
theorem aE5:aT Tryz.prog 241=true:=by kernel_rfl
theorem aD5:aT Tryz.prog 242=true:=by kernel_rfl
theorem aOA:aT Tryz.prog 243=true:=by kernel_rfl
theorem aDT:aT Tryz.prog 244=true:=by kernel_rfl
theorem aGS:aT Tryz.prog 245=true:=by kernel_rfl
theorem aHP:aT Tryz.prog 246=true:=by kernel_rfl
theorem aJW:aT Tryz.prog 247=true:=by kernel_rfl
theorem a3I:aT Tryz.prog 248=true:=by kernel_rfl
theorem a03:aT Tryz.prog 249=true:=by kernel_rfl
theorem aKD:aT Tryz.prog 25=true:=by kernel_rfl
theorem aFX:aT Tryz.prog 250=true:=by kernel_rfl
theorem aII:aT Tryz.prog 26=true:=by kernel_rfl
theorem aLJ:aT Tryz.prog 27=true:=by kernel_rfl
theorem aJF:aT Tryz.prog 28=true:=by kernel_rfl
theorem aHV:aT Tryz.prog 29=true:=by kernel_rfl
theorem rW:aT Tryz.prog 30=true:=by kernel_rfl
theorem uG:aT Tryz.prog 31=true:=by kernel_rfl
theorem sQ:aT Tryz.prog 32=true:=by kernel_rfl
theorem aDW:aT Tryz.prog 33=true:=by kernel_rfl
theorem G7:aT Tryz.prog 34=true:=by kernel_rfl
theorem aBG:aT Tryz.prog 35=true:=by kernel_rfl
theorem aLB:aT Tryz.prog 36=true:=by kernel_rfl
theorem aHJ:aT Tryz.prog 37=true:=by kernel_rfl
theorem aBI:aT Tryz.prog 38=true:=by kernel_rfl
theorem aED:aT Tryz.prog 39=true:=by kernel_rfl
theorem tO:aT Tryz.prog 40=true:=by kernel_rfl
theorem KC:aT Tryz.prog 41=true:=by kernel_rfl
theorem aIB:aT Tryz.prog 42=true:=by kernel_rfl
theorem aOH:aT Tryz.prog 43=true:=by kernel_rfl
theorem mI:aT Tryz.prog 44=true:=by kernel_rfl
theorem aJ3:aT Tryz.prog 45=true:=by kernel_rfl
theorem aJT:aT Tryz.prog 46=true:=by kernel_rfl
theorem y9:aT Tryz.prog 47=true:=by kernel_rfl
theorem aLR:aT Tryz.prog 48=true:=by kernel_rfl
theorem qC:aT Tryz.prog 49=true:=by kernel_rfl
theorem xZ:aT Tryz.prog 5=true:=by kernel_rfl
theorem aC8:aT Tryz.prog 50=true:=by kernel_rfl
theorem sH:aT Tryz.prog 51=true:=by kernel_rfl
theorem MQ:aT Tryz.prog 52=true:=by kernel_rfl
theorem aID:aT Tryz.prog 53=true:=by kernel_rfl
theorem aKJ:aT Tryz.prog 54=true:=by kernel_rfl
theorem aGC:aT Tryz.prog 55=true:=by kernel_rfl
theorem YO:aT Tryz.prog 56=true:=by kernel_rfl
theorem aN9:aT Tryz.prog 57=true:=by kernel_rfl
theorem aOE:aT Tryz.prog 58=true:=by kernel_rfl
theorem bD9:aT Tryz.prog 59=true:=by kernel_rfl
theorem BK:aT Tryz.prog 6=true:=by kernel_rfl
theorem bE8:aT Tryz.prog 60=true:=by kernel_rfl
theorem bEF:aT Tryz.prog 61=true:=by kernel_rfl
theorem bA5:aT Tryz.prog 62=true:=by kernel_rfl
theorem bFA:aT Tryz.prog 63=true:=by kernel_rfl
theorem Y9:aT Tryz.prog 64=true:=by kernel_rfl
theorem aJL:aT Tryz.prog 65=true:=by kernel_rfl
theorem vX:aT Tryz.prog 66=true:=by kernel_rfl
theorem B6:aT Tryz.prog 67=true:=by kernel_rfl
theorem sK:aT Tryz.prog 68=true:=by kernel_rfl
theorem ZF:aT Tryz.prog 69=true:=by kernel_rfl
theorem aAW:aT Tryz.prog 7=true:=by kernel_rfl
theorem aBK:aT Tryz.prog 70=true:=by kernel_rfl
theorem YI:aT Tryz.prog 71=true:=by kernel_rfl
theorem oG:aT Tryz.prog 72=true:=by kernel_rfl
theorem aIG:aT Tryz.prog 73=true:=by kernel_rfl
theorem kX:aT Tryz.prog 74=true:=by kernel_rfl
theorem wJ:aT Tryz.prog 75=true:=by kernel_rfl
theorem o6:aT Tryz.prog 76=true:=by kernel_rfl
theorem XZ:aT Tryz.prog 77=true:=by kernel_rfl
theorem aAZ:aT Tryz.prog 8=true:=by kernel_rfl
theorem aGA:aT Tryz.prog 81=true:=by kernel_rfl
theorem aKU:aT Tryz.prog 82=true:=by kernel_rfl
theorem aMC:aT Tryz.prog 83=true:=by kernel_rfl
theorem aBP:aT Tryz.prog 84=true:=by kernel_rfl
theorem aFC:aT Tryz.prog 85=true:=by kernel_rfl
theorem YT:aT Tryz.prog 86=true:=by kernel_rfl
theorem JA:aT Tryz.prog 87=true:=by kernel_rfl
theorem I8:aT Tryz.prog 88=true:=by kernel_rfl
theorem aAF:aT Tryz.prog 89=true:=by kernel_rfl
theorem aD1:aT Tryz.prog 9=true:=by kernel_rfl
theorem P4:aT Tryz.prog 90=true:=by kernel_rfl
theorem aMD:aT Tryz.prog 91=true:=by kernel_rfl
theorem WZ:aT Tryz.prog 92=true:=by kernel_rfl
theorem QR:aT Tryz.prog 93=true:=by kernel_rfl
theorem aM0:aT Tryz.prog 94=true:=by kernel_rfl
theorem zQ:aT Tryz.prog 95=true:=by kernel_rfl
theorem aHF:aT Tryz.prog 96=true:=by kernel_rfl
theorem l8:aT Tryz.prog 97=true:=by kernel_rfl
theorem kL:aT Tryz.prog 98=true:=by kernel_rfl
theorem O4:aT Tryz.prog 99=true:=by kernel_rfl
theorem bDA:iF Tryz.prog 115 0=some 0:=by kernel_rfl
theorem a8Y:iF Tryz.prog 115 1=some 1:=by kernel_rfl
theorem a8W:iF Tryz.prog 25 2=some 2:=by kernel_rfl
theorem a9W:iF Tryz.prog 25 3=some 3:=by kernel_rfl
theorem a8D:iF Tryz.prog 25 4=some 4:=by kernel_rfl
theorem bDK:iF Tryz.prog 36 0=some 0:=by kernel_rfl
theorem aZB:iF Tryz.prog 41 0=some 0:=by kernel_rfl
theorem a6F:iF Tryz.prog 45 0=some 0:=by kernel_rfl
theorem a8R:iF Tryz.prog 45 1=some 1:=by kernel_rfl
theorem a3A:iF Tryz.prog 45 2=some 2:=by kernel_rfl
theorem bBI:iF Tryz.prog 45 3=some 3:=by kernel_rfl
theorem a3X:iF Tryz.prog 45 4=some 4:=by kernel_rfl
theorem a7A:iF Tryz.prog 45 7=some 7:=by kernel_rfl
theorem bDI:iF Tryz.prog 77 0=some 0:=by kernel_rfl
theorem bBA:iF Tryz.prog 82 5=some 5:=by kernel_rfl
theorem bCD:iF Tryz.prog 82 6=some 6:=by kernel_rfl
theorem a5V:iF Tryz.prog 86 0=some 0:=by kernel_rfl
theorem a3K:iF Tryz.prog 86 1=some 1:=by kernel_rfl
theorem a6C:iF Tryz.prog 86 2=some 2:=by kernel_rfl
theorem ibx:Extern.findNext Tryz.f177=none:=by kernel_rfl
theorem iby:Extern.find Tryz.f177=some Extern.BytealgIndexByte.indexByte:=by kernel_rfl
theorem a4C:kH Tryz.prog 124 "purveyor/apply.do"=some 237:=by kernel_rfl
theorem bC9:kH Tryz.prog 259 "purveyor/pool.in"=some 238:=by kernel_rfl
theorem bDU:kH Tryz.prog 259 "purveyor/pool.out"=some 239:=by kernel_rfl
theorem bCV:kH Tryz.prog 260 "purveyor/pool.in"=some 240:=by kernel_rfl
theorem bB5:kH Tryz.prog 260 "purveyor/pool.out"=some 241:=by kernel_rfl
theorem bFB:kH Tryz.prog 261 "purveyor/pool.in"=some 243:=by kernel_rfl
theorem bDR:kH Tryz.prog 261 "purveyor/pool.out"=some 244:=by kernel_rfl
theorem bBK:kH Tryz.prog 263 "purveyor/pool.in"=some 247:=by kernel_rfl
theorem bEG:kH Tryz.prog 263 "purveyor/pool.out"=some 248:=by kernel_rfl
theorem a5W:sU Tryz.prog 177=some [(0,1)]:=by kernel_rfl
theorem a5K:sU Tryz.prog 33=some [(0,5),(5,1),(6,1),(7,1),(8,1),(9,1)]:=by kernel_rfl
theorem bAJ:sU Tryz.prog 45=some [(0,1),(1,1),(2,1),(3,1),(4,1),(5,1),(6,1),(7,1)]:=by kernel_rfl
theorem sz3:((Tryz.prog.info? 3).map (·.size))=some 1:=by kernel_rfl
theorem yV:zeroOf Tryz.prog 102=some [.nilFunc]:=by kernel_rfl
theorem a9C:zeroOf Tryz.prog 103=some [.nilFunc,.nilFunc,.nilFunc,.nilFunc,.nilFunc]:=by kernel_rfl
theorem bAV:zeroOf Tryz.prog 108=some [.bool false,.bool false,.bool false,.bool false,.bool false,.bool false,.bool false,.bool false,.bool false,.bool false,.bool false,.bool false,.bool false,.bool false,.bool false,.bool false,.bool false,.bool false,.bool false,.bool false,.bool false,.bool false,.bool false,.bool false,.bool false,.bool false,.bool false,.bool false,.bool false,.bool false,.bool false,.bool false,.bool false,.bool false,.bool false,.bool false,.bool false,.bool false,.bool false,.bool false]:=by kernel_rfl
theorem z109:zeroOf Tryz.prog 109=some [.int .i64 0,.int .i64 0,.int .i64 0,.int .i64 0,.int .i64 0,.int .i64 0,.int .i64 0,.int .i64 0,.int .i64 0]:=by kernel_rfl
theorem bCA:zeroOf Tryz.prog 115=some [.int .i64 0,.int .i64 0]:=by kernel_rfl
theorem bBP:zeroOf Tryz.prog 134=some [.int .i64 0,.int .i64 0,.int .i64 0,.int .i64 0,.int .i64 0,.int .i64 0,.int .i64 0,.int .i64 0]:=by kernel_rfl
theorem a9L:zeroOf Tryz.prog 135=some [.int .i64 0,.int .i64 0]:=by kernel_rfl
theorem bE2:zeroOf Tryz.prog 150=some [.nilFunc,.nilFunc,.nilFunc]:=by kernel_rfl
theorem z156:zeroOf Tryz.prog 156=some [.int .i64 0,.int .i64 0,.slice none 0 0,.slice none 0 0,.slice none 0 0,.slice none 0 0,.slice none 0 0,.slice none 0 0,.slice none 0 0,.int .i64 0]:=by kernel_rfl
theorem aMN:zeroOf Tryz.prog 177=some [.nilFunc]:=by kernel_rfl
theorem KB:zeroOf Tryz.prog 190=some [.nilFunc]:=by kernel_rfl
theorem bCH:zeroOf Tryz.prog 197=some [.nilFunc,.nilFunc,.nilFunc]:=by kernel_rfl
theorem a9Y:zeroOf Tryz.prog 211=some [.int .u64 0,.int .u64 0,.int .u64 0,.int .u64 0]:=by kernel_rfl
theorem z212:zeroOf Tryz.prog 212=some [.pointer none,.slice none 0 0]:=by kernel_rfl
theorem z22:zeroOf Tryz.prog 22=some [.slice none 0 0]:=by kernel_rfl
theorem z233:zeroOf Tryz.prog 233=some [.int .i64 0,.slice none 0 0]:=by kernel_rfl
theorem z25:zeroOf Tryz.prog 25=some [.int .i64 0,.int .i64 0,.slice none 0 0,.slice none 0 0,.slice none 0 0]:=by kernel_rfl
theorem bDD:zeroOf Tryz.prog 259=some []:=by kernel_rfl
theorem bBO:zeroOf Tryz.prog 260=some []:=by kernel_rfl
theorem bBF:zeroOf Tryz.prog 261=some []:=by kernel_rfl
theorem bD2:zeroOf Tryz.prog 263=some [.int .i64 0]:=by kernel_rfl
theorem z3:zeroOf Tryz.prog 3=some [.int .i64 0]:=by kernel_rfl
theorem z33:zeroOf Tryz.prog 33=some [.int .i64 0,.int .i64 0,.slice none 0 0,.slice none 0 0,.slice none 0 0,.slice none 0 0,.slice none 0 0,.slice none 0 0,.slice none 0 0,.int .i64 0]:=by kernel_rfl
theorem z36:zeroOf Tryz.prog 36=some [.int .i64 0,.int .i64 0,.int .i64 0,.int .i64 0,.int .i64 0,.int .i64 0,.int .i64 0,.int .i64 0,.slice none 0 0]:=by kernel_rfl
theorem z37:zeroOf Tryz.prog 37=some [.int .i64 0]:=by kernel_rfl
theorem z41:zeroOf Tryz.prog 41=some [.int .i64 0,.int .i64 0,.int .i64 0,.int .i64 0,.int .i64 0,.int .i64 0,.int .i64 0,.int .i64 0,.int .i64 0,.int .i64 0,.int .i64 0]:=by kernel_rfl
theorem z45:zeroOf Tryz.prog 45=some [.int .i64 0,.bool false,.slice none 0 0,.slice none 0 0,.slice none 0 0,.slice none 0 0,.slice none 0 0,.slice none 0 0]:=by kernel_rfl
theorem z47:zeroOf Tryz.prog 47=some [.int .i64 0,.int .i64 0,.int .i64 0,.int .i64 0]:=by kernel_rfl
theorem z57:zeroOf Tryz.prog 57=some [.slice none 0 0]:=by kernel_rfl
theorem z64:zeroOf Tryz.prog 64=some [.string ⟨#[]⟩,.string ⟨#[]⟩,.string ⟨#[]⟩,.string ⟨#[]⟩,.string ⟨#[]⟩,.string ⟨#[]⟩,.string ⟨#[]⟩,.string ⟨#[]⟩,.string ⟨#[]⟩,.string ⟨#[]⟩,.string ⟨#[]⟩,.string ⟨#[]⟩,.string ⟨#[]⟩,.string ⟨#[]⟩,.string ⟨#[]⟩,.string ⟨#[]⟩,.string ⟨#[]⟩]:=by kernel_rfl
theorem z75:zeroOf Tryz.prog 75=some [.int .i64 0,.int .i64 0,.int .i64 0]:=by kernel_rfl
theorem z77:zeroOf Tryz.prog 77=some [.slice none 0 0,.int .i64 0,.int .i64 0,.int .i64 0]:=by kernel_rfl
theorem z82:zeroOf Tryz.prog 82=some [.int .i64 0,.int .i64 0,.int .i64 0,.int .i64 0,.int .i64 0,.int .i64 0,.int .i64 0,.int .i64 0,.bool false]:=by kernel_rfl
theorem z86:zeroOf Tryz.prog 86=some [.int .i64 0,.int .i64 0,.int .i64 0]:=by kernel_rfl
theorem z92:zeroOf Tryz.prog 92=some [.int .i64 0,.int .i64 0,.int .i64 0,.int .i64 0,.int .i64 0,.int .i64 0]:=by kernel_rfl
theorem z96:zeroOf Tryz.prog 96=some [.pointer none,.slice none 0 0]:=by kernel_rfl
theorem a6V:CO Tryz.prog 261=true:=by kernel_rfl
theorem zi3:(Tryz.prog.info? 3).bind (·.zero)=some (.int .i64 0):=by kernel_rfl
theorem bEM:(Tryz.prog.info? 177).bind (·.zero)=some (.agg #[.nilFunc]):=by kernel_rfl
theorem z1:zeroOf Tryz.prog 1=some [.nilFunc]:=by kernel_rfl
theorem z69:zeroOf Tryz.prog 69=some [.pointer none]:=by kernel_rfl
noncomputable section
def tb:dX:={ sh:=[(0,(1,false)),(1,(1,false)),(3,(1,false)),(4,(1,false)),(22,(1,false)),(23,(1,false)),(25,(5,true)),(28,(1,false)),(29,(1,false)),(30,(1,false)),(31,(1,false)),(33,(10,true)),(36,(9,true)),(37,(1,false)),(39,(1,false)),(41,(11,true)),(42,(1,false)),(43,(1,false)),(45,(8,true)),(47,(4,true)),(57,(1,false)),(60,(1,false)),(64,(17,true)),(69,(1,false)),(72,(1,false)),(73,(1,false)),(74,(1,false)),(75,(3,true)),(77,(4,true)),(82,(9,true)),(86,(3,true)),(92,(6,true)),(96,(2,true)),(102,(1,true)),(103,(5,true)),(108,(40,true)),(109,(9,true)),(115,(2,true)),(116,(1,false)),(121,(1,false)),(134,(8,true)),(148,(1,false)),(156,(10,true)),(164,(1,false)),(168,(1,false)),(177,(1,true)),(190,(1,false)),(195,(1,false)),(197,(3,true)),(203,(1,false)),(211,(4,true)),(212,(2,true)),(233,(2,true)),(261,(0,true))],fo:=[((25,0),0),((25,1),1),((25,2),2),((25,3),3),((25,4),4),((33,0),0),((33,1),5),((33,2),6),((33,3),7),((33,4),8),((33,5),9),((36,0),0),((36,1),1),((36,2),2),((36,3),3),((36,4),4),((36,5),5),((36,6),6),((36,7),7),((36,8),8),((41,0),0),((41,1),1),((41,2),2),((41,3),3),((41,4),4),((41,5),5),((41,6),6),((41,7),7),((41,8),8),((41,9),9),((41,10),10),((45,0),0),((45,1),1),((45,2),2),((45,3),3),((45,4),4),((45,5),5),((45,6),6),((45,7),7),((47,0),0),((47,1),1),((47,2),2),((47,3),3),((77,0),0),((77,1),1),((82,0),0),((82,1),1),((82,2),2),((82,3),3),((82,4),4),((82,5),5),((82,6),6),((82,7),7),((82,8),8),((86,0),0),((86,1),1),((86,2),2),((92,0),0),((92,1),1),((92,2),2),((92,3),3),((92,4),4),((92,5),5),((96,0),0),((96,1),1),((102,0),0),((115,0),0),((115,1),1),((134,0),0),((134,1),1),((134,2),2),((134,3),3),((134,4),4),((134,5),5),((134,6),6),((134,7),7),((156,0),0),((177,0),0),((212,0),0),((212,1),1),((227,3),3),((227,4),4),((227,5),5),((227,6),6),((233,0),0),((233,1),1),((263,0),0)],fp:=[((25,2),(2,22)),((33,0),(0,25)),((33,2),(6,29)),((36,0),(0,3)),((36,4),(4,3)),((36,6),(6,3)),((36,8),(8,22)),((77,0),(0,74)),((86,0),(0,3)),((86,1),(1,3)),((134,0),(0,3)),((134,1),(1,3)),((134,3),(3,3)),((134,4),(4,3)),((197,0),(0,195)),((197,1),(1,148)),((197,2),(2,168))],ki:=[(3,.i64),(5,.u8),(21,.i32),(37,.i64),(144,.u64),(164,.u64)],se:=[(22,3),(23,22),(28,45),(29,134),(30,82),(31,92),(42,77),(43,41),(57,37),(60,36),(74,86),(97,96),(116,115),(159,69),(173,1),(213,212),(256,233)],bl:=[(25,[(0,1),(1,1),(2,1),(3,1),(4,1)]),(33,[(0,5),(5,1),(6,1),(7,1),(8,1),(9,1)]),(36,[(0,1),(1,1),(2,1),(3,1),(4,1),(5,1),(6,1),(7,1),(8,1)]),(41,[(0,1),(1,1),(2,1),(3,1),(4,1),(5,1),(6,1),(7,1),(8,1),(9,1),(10,1)]),(47,[(0,1),(1,1),(2,1),(3,1)]),(77,[(0,1),(1,3)]),(82,[(0,1),(1,1),(2,1),(3,1),(4,1),(5,1),(6,1),(7,1),(8,1)]),(86,[(0,1),(1,1),(2,1)]),(92,[(0,1),(1,1),(2,1),(3,1),(4,1),(5,1)]),(96,[(0,1),(1,1)]),(102,[(0,1)]),(115,[(0,1),(1,1)]),(134,[(0,1),(1,1),(2,1),(3,1),(4,1),(5,1),(6,1),(7,1)]),(156,[(0,10)]),(197,[(0,1),(1,1),(2,1)]),(212,[(0,1),(1,1)]),(233,[(0,1),(1,1)]),(259,[]),(260,[]),(261,[]),(263,[(0,1)])],zs:=[(1,[.nilFunc]),(3,[.int .i64 0]),(22,[.slice none 0 0]),(25,[.int .i64 0,.int .i64 0,.slice none 0 0,.slice none 0 0,.slice none 0 0]),(33,[.int .i64 0,.int .i64 0,.slice none 0 0,.slice none 0 0,.slice none 0 0,.slice none 0 0,.slice none 0 0,.slice none 0 0,.slice none 0 0,.int .i64 0]),(36,[.int .i64 0,.int .i64 0,.int .i64 0,.int .i64 0,.int .i64 0,.int .i64 0,.int .i64 0,.int .i64 0,.slice none 0 0]),(37,[.int .i64 0]),(41,[.int .i64 0,.int .i64 0,.int .i64 0,.int .i64 0,.int .i64 0,.int .i64 0,.int .i64 0,.int .i64 0,.int .i64 0,.int .i64 0,.int .i64 0]),(45,[.int .i64 0,.bool false,.slice none 0 0,.slice none 0 0,.slice none 0 0,.slice none 0 0,.slice none 0 0,.slice none 0 0]),(47,[.int .i64 0,.int .i64 0,.int .i64 0,.int .i64 0]),(64,[.string ⟨#[]⟩,.string ⟨#[]⟩,.string ⟨#[]⟩,.string ⟨#[]⟩,.string ⟨#[]⟩,.string ⟨#[]⟩,.string ⟨#[]⟩,.string ⟨#[]⟩,.string ⟨#[]⟩,.string ⟨#[]⟩,.string ⟨#[]⟩,.string ⟨#[]⟩,.string ⟨#[]⟩,.string ⟨#[]⟩,.string ⟨#[]⟩,.string ⟨#[]⟩,.string ⟨#[]⟩]),(69,[.pointer none]),(77,[.slice none 0 0,.int .i64 0,.int .i64 0,.int .i64 0]),(82,[.int .i64 0,.int .i64 0,.int .i64 0,.int .i64 0,.int .i64 0,.int .i64 0,.int .i64 0,.int .i64 0,.bool false]),(86,[.int .i64 0,.int .i64 0,.int .i64 0]),(92,[.int .i64 0,.int .i64 0,.int .i64 0,.int .i64 0,.int .i64 0,.int .i64 0]),(96,[.pointer none,.slice none 0 0]),(102,[.nilFunc]),(103,[.nilFunc,.nilFunc,.nilFunc,.nilFunc,.nilFunc]),(108,[.bool false,.bool false,.bool false,.bool false,.bool false,.bool false,.bool false,.bool false,.bool false,.bool false,.bool false,.bool false,.bool false,.bool false,.bool false,.bool false,.bool false,.bool false,.bool false,.bool false,.bool false,.bool false,.bool false,.bool false,.bool false,.bool false,.bool false,.bool false,.bool false,.bool false,.bool false,.bool false,.bool false,.bool false,.bool false,.bool false,.bool false,.bool false,.bool false,.bool false]),(109,[.int .i64 0,.int .i64 0,.int .i64 0,.int .i64 0,.int .i64 0,.int .i64 0,.int .i64 0,.int .i64 0,.int .i64 0]),(115,[.int .i64 0,.int .i64 0]),(134,[.int .i64 0,.int .i64 0,.int .i64 0,.int .i64 0,.int .i64 0,.int .i64 0,.int .i64 0,.int .i64 0]),(156,[.int .i64 0,.int .i64 0,.slice none 0 0,.slice none 0 0,.slice none 0 0,.slice none 0 0,.slice none 0 0,.slice none 0 0,.slice none 0 0,.int .i64 0]),(177,[.nilFunc]),(190,[.nilFunc]),(197,[.nilFunc,.nilFunc,.nilFunc]),(211,[.int .u64 0,.int .u64 0,.int .u64 0,.int .u64 0]),(212,[.pointer none,.slice none 0 0]),(233,[.int .i64 0,.slice none 0 0]),(259,[]),(260,[]),(261,[]),(263,[.int .i64 0])],bz:=[(1,1),(3,1),(22,1),(36,9),(45,8),(69,1),(82,9),(86,3),(92,6),(96,2),(115,2),(134,8),(212,2),(233,2)],bb:=[(3,8),(22,24),(82,72),(86,24),(92,48),(115,16),(134,64)],ar:=[(75,(3,3)),(108,(40,4)),(109,(3,86)),(211,(4,164))] }
theorem aN:cK Tryz.prog tb:=⟨⟨by kernel_rfl,by kernel_rfl,by kernel_rfl⟩,by kernel_rfl,by kernel_rfl,by kernel_rfl,⟨z1,z3,z22,z25,z33,z36,z37,z41,z45,z47,z64,z69,z77,z82,z86,z92,z96,yV,a9C,bAV,z109,bCA,bBP,z156,aMN,KB,bCH,a9Y,z212,z233,bDD,bBO,bBF,bD2,trivial⟩,by kernel_rfl,by kernel_rfl,by kernel_rfl⟩
abbrev WB (R:Type):=WT Tryz.prog (.b R)
abbrev PZ {B:Type} (o:Option B) (k:FuncId) (args:List AV) (V:B->AV):Prop:=PQ Tryz.prog o k args V
theorem GL {p:Prop} (h:p:=by intro r;repeat' (first | exact qX _ | exact yD _ | exact FD _ | exact F7 _ _ | exact KF | exact .agg (eZ.dA _) | exact .agg (aB.dA _) | exact .agg (gJ.dA _) | exact .agg (aM.dA _) | exact .agg (bM.dA _) | exact (aP.bW _ ▸ PV.agg (aP.dA _)) | exact .agg (bH.dA _) | exact .agg (bS.dA _) | exact .agg (dB.dA _) | exact .agg (aA.dA _) | exact .agg (aS.dA _) | exact .agg (aH.dA _) | exact .agg (wH.dA _) | exact .agg (uQ.dA _) | exact .agg (uY.dA _) | exact .agg (vV.dA _) | exact .agg (nA.dA _) | exact .agg (mO.dA _) | exact .agg (vN.dA _) | exact .agg (gG.dA _) | exact .agg (aUJ.dA _) | refine .aU ?_ | refine SS ?_ ?_ | refine o8 ?_ _ | exact vI | exact QI | exact NC | exact QU _ | exact eZ.dA | exact aB.dA | exact gJ.dA | exact aM.dA | exact bM.dA | exact aP.dA | exact bH.dA | exact bS.dA | exact dB.dA | exact aA.dA | exact aS.dA | exact aH.dA | exact wH.dA | exact uQ.dA | exact uY.dA | exact vV.dA | exact nA.dA | exact mO.dA | exact vN.dA | exact gG.dA | exact aUJ.dA | refine PI ?_)):p:=h
theorem wq {R:Type} {V:R->AV} {g:FuncId} {fn:Func} {ar:List AV} {t:WB R} (hf:Tryz.prog.funcs[g]?=some fn) (h:WP Tryz.prog tb 100000 ⟨fn.ntmps,false,[]⟩ t (.fn (JF tb fn.results.toList V) DJ) (.c [vU fn]) (λt=>ar[t]?) H0 []:=by exact au) (hpv:∀ a,PV (V a):=by exact GL) (hb:fn.body=some (vU fn):=by rfl) (hle:Nat.ble ar.length fn.ntmps=true:=by rfl):PZ t.run g ar V:=λ_ h0=>KO mixed aN V h0 hf hpv 100000 h hb hle
theorem wm {R:Type} {V:R->AV} {g:FuncId} {fn:Func} {ar:List AV} {t:WB R} (hf:Tryz.prog.funcs[g]?=some fn) (h:WP Tryz.prog tb 100000 ⟨fn.ntmps,false,[]⟩ t (.fn (JF tb fn.results.toList V) DJ) (.c [vU fn]) (λt=>ar[t]?) H0 []) (hpv:∀ a,PV (V a):=by exact GL) (hb:fn.body=some (vU fn):=by rfl) (hle:Nat.ble ar.length fn.ntmps=true:=by rfl):PZ t.run g ar V:=λ_ h0=>KO mixed aN V h0 hf hpv 100000 h hb hle
theorem a2I:lK Tryz.prog 29 45 8 aP.av:=nT Tryz.func29 aHV Tryz.underlying28 a4M a7B
theorem a8B:lK Tryz.prog 30 82 9 bS.av:=nT Tryz.func30 rW Tryz.underlying30 bB2 bF1
theorem a5N:lK Tryz.prog 50 77 4 aM.av:=nT Tryz.func50 aC8 Tryz.underlying42 a6J a6E
theorem a4O:lK Tryz.prog 54 3 1 fI:=nT Tryz.func54 aKJ Tryz.underlying22 fT kY
theorem a90:lK Tryz.prog 91 41 11 bM.av:=nT Tryz.func91 aMD Tryz.underlying43 a2K a5R
theorem a9Z:lK Tryz.prog 103 134 8 bH.av:=nT Tryz.func103 aAQ Tryz.underlying29 a7E bAE
theorem bAB:lK Tryz.prog 134 115 2 aH.av:=nT Tryz.func134 wO Tryz.underlying116 a3V bAA
theorem a3T:lK Tryz.prog 148 86 3 aB.av:=nT Tryz.func148 aHH Tryz.underlying74 a7T a88
theorem bAU:lK Tryz.prog 169 92 6 dB.av:=nT Tryz.func169 aL8 Tryz.underlying31 a6Y bAP
theorem bAI:lK Tryz.prog 195 22 1 (fL 1 fI):=nT Tryz.func195 PK Tryz.underlying23 rM HV
theorem PD {p:Prop} (h:p:=by first | exact a2I | exact a8B | exact a5N | exact a4O | exact a90 | exact a9Z | exact bAB | exact a3T | exact bAU | exact bAI):p:=h
theorem bED:PP Tryz.prog 107 [] (λy=>y=.mp [6,7,8,9] [.agg [.fn (.func 157) [] []],.agg [.fn (.func 158) [] []],.agg [.fn (.func 159) [] []],.agg [.fn (.func 160) [] []]]):=by
  refine uD (R0:=λy H=>Cv (jZ H) y (.mp [6,7,8,9] [.agg [.fn (.func 157) [] []],.agg [.fn (.func 158) [] []],.agg [.fn (.func 159) [] []],.agg [.fn (.func 160) [] []]])) ?_ (λy H hc=>⟨_,rfl,.mp (by intro x hx;simp only [List.mem_cons,List.not_mem_nil,or_false] at hx;rcases hx with rfl | rfl | rfl | rfl <;> exact .agg (by intro x hx;simp only [List.mem_cons,List.not_mem_nil,or_false] at hx;subst hx;exact .fn (by intro x hx;cases hx) (by intro x hx;cases hx))),hc⟩)
  refine gN (c:=_) Tryz.func107 rfl rfl ?_;intro Q hret hnorm
  refine tc aN 6 (.mk ?_)
  refine mmk rfl rfl rfl rfl ?_;intro b0
  refine AI rfl rfl rfl (pY (cs:=[.fn (.func 157) [] []]) (ps:=[(0,_)]) rfl a5W aMN rfl (.cons rfl .nil) (by kernel_rfl)) ?_
  refine BJ rfl rfl rfl Tryz.underlying179 Tryz.underlying3 rfl rfl rfl rfl ?_
  refine AI rfl rfl rfl (pY (cs:=[.fn (.func 158) [] []]) (ps:=[(0,_)]) rfl a5W aMN rfl (.cons rfl .nil) (by kernel_rfl)) ?_
  refine BJ rfl rfl rfl Tryz.underlying179 Tryz.underlying3 rfl rfl rfl rfl ?_
  refine AI rfl rfl rfl (pY (cs:=[.fn (.func 159) [] []]) (ps:=[(0,_)]) rfl a5W aMN rfl (.cons rfl .nil) (by kernel_rfl)) ?_
  refine BJ rfl rfl rfl Tryz.underlying179 Tryz.underlying3 rfl rfl rfl rfl ?_
  refine AI rfl rfl rfl (pY (cs:=[.fn (.func 160) [] []]) (ps:=[(0,_)]) rfl a5W aMN rfl (.cons rfl .nil) (by kernel_rfl)) ?_
  refine BJ rfl rfl rfl Tryz.underlying179 Tryz.underlying3 rfl rfl rfl rfl ?_
  refine aFS 1 rfl ?_
  refine tr aN 3 (.mk ?_)
  refine wR hret (rT .nil) ?_
  exact .refl _
def XU (a1:aA) (a2:Int) (a3:Int):WB (Bool) :=
 .al 1<|.jn 0 [1,3,6] [1] [] (λ_ (a:Bool)=>[(29,aF a)]) (λ_ _=>[]) (.bB 10 (decide (a2<0)) λx5=>.ifs [10] x5 (.ret true) (.ln 15 aP.av a1.aW<|.bB 16 (decide (a2>=(a1.aW.length:Int))) λx6=>.ifs [16] x6 (.ret true) (.bB 20 (decide (a3<0)) λx7=>.ifs [20] x7 (.ret true) (.ln 27 fI a1.bA.cB<|.bB 28 (decide (a3>=(a1.bA.cB.length:Int))) λx8=>.ret x8)))) (λy0_1=>.ifs [29] y0_1 (.ret ((false:Bool))) (.dr [(0,[1]),(1,[1]),(5,[1]),(6,[1]),(7,[1])] [] [1] [9,10] [0,1,2,3,4,5,6,7,8,9,10,11] (.gI 33 aP.av gE aP.bW a1.aW a2 λx9=>.ln 38 fI a1.bA.cB<|.al 2<|.jn 0 [] [] [] (λ_ (a:Bool)=>[(6,aF a)]) (λ_ _=>[]) (.ln 41 aM.av x9.dD<|.bI 43 (aI ((a1.bA.cB.length:Int)*2)) λx11=>.bB 44 (decide ((x9.dD.length:Int)>=x11)) λx12=>.ifs [44] x12 (.ln 48 bM.av x9.dI<|.bB 50 (decide ((x9.dI.length:Int)>=(a1.bA.cB.length:Int))) λx13=>.ifs [50] x13 (.ln 57 (fL 1 fI) a1.bA.Methods<|.bB 58 (decide (a2<(a1.bA.Methods.length:Int))) λx14=>.ifs [58] x14 (.ln 65 (fL 1 fI) a1.bA.dN<|.bB 66 (decide (a2<(a1.bA.dN.length:Int))) λx15=>.ifs [66] x15 (.ix 73 (fL 1 fI) a1.bA.Methods a2 λx16=>.ln 75 fI x16<|.bB 77 (decide ((x16.length:Int)>=(a1.bA.cB.length:Int))) λx17=>.ifs [77] x17 (.ix 84 (fL 1 fI) a1.bA.dN a2 λx18=>.ln 86 fI x18<|.bB 88 (decide ((x18.length:Int)>=(a1.bA.cB.length:Int))) λx19=>.ret x19) (.ret false)) (.ret false)) (.ret false)) (.ret false)) (.ret false)) (λy1_1=>.ret ((y1_1:Bool))))))
def zC (a1:aA) (a2:Int) (a3:Int):Option (Bool):=(XU a1 a2 a3).run
theorem IS {a1 a2 a3}:PZ (zC a1 a2 a3) 88 [.agg (aA.av a1),int a2,int a3] aF:=wq Tryz.func88
def aLX (a1:aA) (a2:Int) (a3:Int):WB (Int) :=
 .al 1<|.cl 11 (zC a1 a2 a3) I8 IS λx5=>.bB 12 (!x5) λx6=>.ifs [12] x6 (.ret ((4:Int))) (.gI 17 aP.av gE aP.bW a1.aW a2 λx7=>.wt 13 <|.ifs [13] x7.Closed (.ret ((7:Int))) (.ret ((0:Int))))
def lH (a1:aA) (a2:Int) (a3:Int):Option (Int):=(aLX a1 a2 a3).run
theorem mU {a1 a2 a3}:PZ (lH a1 a2 a3) 97 [.agg (aA.av a1),int a2,int a3] int:=wq Tryz.func97
def aCL (a1:Int):WB (Bool) :=
 .jn 1 [] [] [] (λ_ (a:Bool)=>[(2,aF a)]) (λ_ _=>[]) (.bB 4 (decide (a1>=0)) λx2=>.ifs [4] x2 (.bB 7 (decide (a1<=1073741824)) λx3=>.ret x3) (.ret false)) (λy0_1=>.ret ((y0_1:Bool)))
def BX (a1:Int):Option (Bool):=(aCL a1).run
theorem aTQ {a1}:PZ (BX a1) 210 [int a1] aF:=wq Tryz.func210
end
end Go.Pv
