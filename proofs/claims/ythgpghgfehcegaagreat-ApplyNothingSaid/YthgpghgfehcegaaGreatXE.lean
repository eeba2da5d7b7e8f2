import Derived.Test.YthgpghgfehcegaaGreatPvAE
import Derived.Test.YthgpghgfehcegaaGreatPvAG
import Derived.Test.YthgpghgfehcegaaGreatPwK
import Derived.Test.YthgpghgfehcegaaGreatPvAH
import Derived.Test.YthgpghgfehcegaaGreatPvAI
import Derived.Test.YthgpghgfehcegaaGreatProg
set_option linter.unusedVariables false
set_option linter.unusedSimpArgs false
namespace Go.Pv
open Go.Proofs
theorem mixed:Tryz.prog.follows .mixedOrders=true:=by kernel_rfl
set_option maxRecDepth 100000
set_option maxHeartbeats 4000000
structure eZ where
  eH:Int
  fA:Int
  cB:List Int
  Methods:List (List Int)
  dN:List (List Int)
  deriving DecidableEq,Inhabited
@[reducible] def eZ.av (x:eZ):List AV:=[int x.eH,int x.fA,aD 1 fI x.cB,aD 1 (fL 1 fI) x.Methods,aD 1 (fL 1 fI) x.dN]
theorem eZ.dA (x:eZ):∀ a∈x.av,PV a:=iP
structure aB where
  aQ:Int
  Value:Int
  bO:Int
  deriving DecidableEq,Inhabited
@[reducible] def aB.av (x:aB):List AV:=[int x.aQ,int x.Value,int x.bO]
theorem aB.dA (x:aB):∀ a∈x.av,PV a:=iP
structure gJ where
  a0:Int
  a1:Int
  a2:Int
  deriving DecidableEq,Inhabited
@[reducible] def gJ.av (x:gJ):List AV:=[int x.a0,int x.a1,int x.a2]
theorem gJ.dA (x:gJ):∀ a∈x.av,PV a:=iP
structure aM where
  cO:List aB
  bF:gJ
  deriving DecidableEq,Inhabited
@[reducible] def aM.av (x:aM):List AV:=[aD 3 aB.av x.cO,int x.bF.a0,int x.bF.a1,int x.bF.a2]
theorem aM.dA (x:aM):∀ a∈x.av,PV a:=iP
structure bM where
  Open:Int
  jC:Int
  iV:Int
  iW:Int
  iQ:Int
  jA:Int
  iY:Int
  iU:Int
  iT:Int
  iZ:Int
  jD:Int
  deriving DecidableEq,Inhabited
@[reducible] def bM.av (x:bM):List AV:=[int x.Open,int x.jC,int x.iV,int x.iW,int x.iQ,int x.jA,int x.iY,int x.iU,int x.iT,int x.iZ,int x.jD]
theorem bM.dA (x:bM):∀ a∈x.av,PV a:=iP
structure aP where
  dS:Int
  Closed:Bool
  dD:List aM
  dU:List Int
  dI:List bM
  dO:List Int
  Down:List Int
  eT:List aP
  deriving Inhabited
mutual
def aP.av:aP->List AV
  | ⟨dS,Closed,dD,dU,dI,dO,Down,eT⟩=>[int dS,aF Closed,aD 4 aM.av dD,aD 1 fI dU,aD 11 bM.av dI,aD 1 fI dO,aD 1 fI Down,.list 8 (aP.qI eT)]
def aP.qI:List aP->List (List AV)
  | []=>[]
  | x :: r=>aP.av x :: aP.qI r
end
theorem aP.aKI (l:List aP):aP.qI l=l.map aP.av:=by
  induction l with
  | nil=>unfold aP.qI;rfl
  | cons x r ih=>unfold aP.qI;rw [ih];rfl
@[reducible] def gE (x:aP):List AV:=[int x.dS,aF x.Closed,aD 4 aM.av x.dD,aD 1 fI x.dU,aD 11 bM.av x.dI,aD 1 fI x.dO,aD 1 fI x.Down,aD 8 aP.av x.eT]
theorem aP.bW (x:aP):aP.av x=[int x.dS,aF x.Closed,aD 4 aM.av x.dD,aD 1 fI x.dU,aD 11 bM.av x.dI,aD 1 fI x.dO,aD 1 fI x.Down,aD 8 aP.av x.eT]:=by
  cases x;unfold aP.av;rw [aP.aKI]
theorem aP.one (x:aP):fE (aP.av x)=true:=by rw [aP.bW];rfl
mutual
theorem aP.dA:∀ (x:aP),∀ a∈x.av,PV a
  | ⟨dS,Closed,dD,dU,dI,dO,Down,eT⟩=>by
    intro a ha;unfold aP.av at ha;simp only [List.mem_cons,List.not_mem_nil,or_false] at ha
    rcases ha with rfl | rfl | rfl | rfl | rfl | rfl | rfl | rfl
    · exact qX dS
    · exact yD Closed
    · exact (o8 aM.dA) dD
    · exact (o8 vI) dU
    · exact (o8 bM.dA) dI
    · exact (o8 vI) dO
    · exact (o8 vI) Down
    · exact .list (λr hr=>aP.VN eT r hr)
theorem aP.VN:∀ (l:List aP),∀ r∈aP.qI l,∀ a∈r,PV a
  | []=>by intro r hr;unfold aP.qI at hr;cases hr
  | x :: l=>by
    intro r hr;unfold aP.qI at hr
    rcases List.mem_cons.1 hr with e | h
    · rw [e];exact aP.dA x
    · exact aP.VN l r h
end
structure bH where
  dG:Int
  Item:Int
  Loc:Int
  aQ:Int
  Value:Int
  Open:Int
  jV:Int
  fF:Int
  deriving DecidableEq,Inhabited
@[reducible] def bH.av (x:bH):List AV:=[int x.dG,int x.Item,int x.Loc,int x.aQ,int x.Value,int x.Open,int x.jV,int x.fF]
theorem bH.dA (x:bH):∀ a∈x.av,PV a:=iP
theorem bH.eqv (x y:bH):(decide (x.dG=y.dG) && (decide (x.Item=y.Item) && (decide (x.Loc=y.Loc) && (decide (x.aQ=y.aQ) && (decide (x.Value=y.Value) && (decide (x.Open=y.Open) && (decide (x.jV=y.jV) && (decide (x.fF=y.fF) && true))))))))=decide (x=y):=by
  cases x;cases y;rw [Bool.eq_iff_iff];simp only [Bool.and_eq_true,decide_eq_true_eq,bH.mk.injEq,and_true]
structure bS where
  dG:Int
  Item:Int
  Loc:Int
  aQ:Int
  fF:Int
  qV:Int
  bO:Int
  jW:Int
  jY:Bool
  deriving DecidableEq,Inhabited
@[reducible] def bS.av (x:bS):List AV:=[int x.dG,int x.Item,int x.Loc,int x.aQ,int x.fF,int x.qV,int x.bO,int x.jW,aF x.jY]
theorem bS.dA (x:bS):∀ a∈x.av,PV a:=iP
theorem bS.eqv (x y:bS):(decide (x.dG=y.dG) && (decide (x.Item=y.Item) && (decide (x.Loc=y.Loc) && (decide (x.aQ=y.aQ) && (decide (x.fF=y.fF) && (decide (x.qV=y.qV) && (decide (x.bO=y.bO) && (decide (x.jW=y.jW) && (decide (x.jY=y.jY) && true)))))))))=decide (x=y):=by
  cases x;cases y;rw [Bool.eq_iff_iff];simp only [Bool.and_eq_true,decide_eq_true_eq,bS.mk.injEq,and_true]
structure dB where
  aR1:Int
  To:Int
  Item:Int
  aQ:Int
  Value:Int
  bO:Int
  deriving DecidableEq,Inhabited
@[reducible] def dB.av (x:dB):List AV:=[int x.aR1,int x.To,int x.Item,int x.aQ,int x.Value,int x.bO]
theorem dB.dA (x:dB):∀ a∈x.av,PV a:=iP
theorem dB.eqv (x y:dB):(decide (x.aR1=y.aR1) && (decide (x.To=y.To) && (decide (x.Item=y.Item) && (decide (x.aQ=y.aQ) && (decide (x.Value=y.Value) && (decide (x.bO=y.bO) && true))))))=decide (x=y):=by
  cases x;cases y;rw [Bool.eq_iff_iff];simp only [Bool.and_eq_true,decide_eq_true_eq,dB.mk.injEq,and_true]
structure aA where
  bA:eZ
  aW:List aP
  bP:List bH
  bU:List bS
  bY:List dB
  Done:Int
  deriving Inhabited
@[reducible] def aA.av (x:aA):List AV:=[int x.bA.eH,int x.bA.fA,aD 1 fI x.bA.cB,aD 1 (fL 1 fI) x.bA.Methods,aD 1 (fL 1 fI) x.bA.dN,aD 8 aP.av x.aW,aD 8 bH.av x.bP,aD 9 bS.av x.bU,aD 6 dB.av x.bY,int x.Done]
theorem aA.dA (x:aA):∀ a∈x.av,PV a:=iP
structure aS where
  Kind:Int
  E:Int
  Item:Int
  Loc:Int
  To:Int
  aQ:Int
  bD:Int
  Ref:Int
  bT:List Int
  deriving DecidableEq,Inhabited
@[reducible] def aS.av (x:aS):List AV:=[int x.Kind,int x.E,int x.Item,int x.Loc,int x.To,int x.aQ,int x.bD,int x.Ref,aD 1 fI x.bT]
theorem aS.dA (x:aS):∀ a∈x.av,PV a:=iP
structure aH where
  fM:Int
  bD:Int
  deriving DecidableEq,Inhabited
@[reducible] def aH.av (x:aH):List AV:=[int x.fM,int x.bD]
theorem aH.dA (x:aH):∀ a∈x.av,PV a:=iP
structure wH where
  deriving DecidableEq,Inhabited
@[reducible] def wH.av (x:wH):List AV:=[]
theorem wH.dA (x:wH):∀ a∈x.av,PV a:=iP
structure uQ where
  deriving DecidableEq,Inhabited
@[reducible] def uQ.av (x:uQ):List AV:=[]
theorem uQ.dA (x:uQ):∀ a∈x.av,PV a:=iP
structure uY where
  deriving DecidableEq,Inhabited
@[reducible] def uY.av (x:uY):List AV:=[]
theorem uY.dA (x:uY):∀ a∈x.av,PV a:=iP
structure vV where
  cost:Int
  deriving DecidableEq,Inhabited
@[reducible] def vV.av (x:vV):List AV:=[int x.cost]
theorem vV.dA (x:vV):∀ a∈x.av,PV a:=iP
structure nA where
  a0:List UInt8
  a1:List UInt8
  a2:List UInt8
  a3:List UInt8
  a4:List UInt8
  a5:List UInt8
  a6:List UInt8
  a7:List UInt8
  a8:List UInt8
  a9:List UInt8
  kK:List UInt8
  oM:List UInt8
  a12:List UInt8
  rZ:List UInt8
  IR:List UInt8
  JU:List UInt8
  a16:List UInt8
  deriving DecidableEq,Inhabited
@[reducible] def nA.av (x:nA):List AV:=[str x.a0,str x.a1,str x.a2,str x.a3,str x.a4,str x.a5,str x.a6,str x.a7,str x.a8,str x.a9,str x.kK,str x.oM,str x.a12,str x.rZ,str x.IR,str x.JU,str x.a16]
theorem nA.dA (x:nA):∀ a∈x.av,PV a:=iP
structure vN where
  a0:Int
  a1:Int
  deriving DecidableEq,Inhabited
@[reducible] def vN.av (x:vN):List AV:=[int x.a0,int x.a1]
theorem vN.dA (x:vN):∀ a∈x.av,PV a:=iP
structure gG where
  NB:Int
  lines:List aH
  deriving DecidableEq,Inhabited
@[reducible] def gG.av (x:gG):List AV:=[int x.NB,aD 2 aH.av x.lines]
theorem gG.dA (x:gG):∀ a∈x.av,PV a:=iP
structure jJ where
  a0:Int
  a1:Int
  a2:Int
  a3:Int
  a4:Int
  a5:Int
  a6:Int
  a7:Int
  a8:Int
  a9:Int
  kK:Int
  deriving DecidableEq,Inhabited
@[reducible] def jJ.av (x:jJ):List AV:=[int x.a0,int x.a1,int x.a2,int x.a3,int x.a4,int x.a5,int x.a6,int x.a7,int x.a8,int x.a9,int x.kK]
theorem jJ.dA (x:jJ):∀ a∈x.av,PV a:=iP
theorem jJ.eqv (x y:jJ):(decide (x.a0=y.a0) && (decide (x.a1=y.a1) && (decide (x.a2=y.a2) && (decide (x.a3=y.a3) && (decide (x.a4=y.a4) && (decide (x.a5=y.a5) && (decide (x.a6=y.a6) && (decide (x.a7=y.a7) && (decide (x.a8=y.a8) && (decide (x.a9=y.a9) && (decide (x.kK=y.kK) && true)))))))))))=decide (x=y):=by
  cases x;cases y;rw [Bool.eq_iff_iff];simp only [Bool.and_eq_true,decide_eq_true_eq,jJ.mk.injEq,and_true]
theorem xC:dL Tryz.prog 1=some (1,false):=by kernel_rfl
theorem fC:dL Tryz.prog 3=some (1,false):=by kernel_rfl
theorem rE:dL Tryz.prog 4=some (1,false):=by kernel_rfl
theorem kC:dL Tryz.prog 22=some (1,false):=by kernel_rfl
theorem a3F:dL Tryz.prog 27=some (1,false):=by kernel_rfl
theorem aR0:dL Tryz.prog 32=some (10,true):=by kernel_rfl
theorem mH:dL Tryz.prog 39=some (1,false):=by kernel_rfl
theorem aQ6:dL Tryz.prog 53=some (1,false):=by kernel_rfl
theorem aT5:dL Tryz.prog 54=some (1,false):=by kernel_rfl
theorem aRC:dL Tryz.prog 56=some (8,true):=by kernel_rfl
theorem aZV:dL Tryz.prog 70=some (8,true):=by kernel_rfl
theorem aXN:dL Tryz.prog 76=some (1,false):=by kernel_rfl
theorem aRD:dL Tryz.prog 79=some (4,true):=by kernel_rfl
theorem aV9:dL Tryz.prog 83=some (11,true):=by kernel_rfl
theorem aQF:dL Tryz.prog 90=some (3,true):=by kernel_rfl
theorem gQ:dL Tryz.prog 93=some (1,false):=by kernel_rfl
theorem aQY:dL Tryz.prog 99=some (1,false):=by kernel_rfl
theorem aQE:dL Tryz.prog 110=some (2,true):=by kernel_rfl
theorem aRS:dL Tryz.prog 156=some (1,false):=by kernel_rfl
theorem aUP:dL Tryz.prog 187=some (1,false):=by kernel_rfl
theorem aTV:dL Tryz.prog 254=some (2,true):=by kernel_rfl
theorem aXA:iE Tryz.prog 110=some 16:=by kernel_rfl
theorem HV:iE Tryz.prog 22=some 24:=by kernel_rfl
theorem kY:iE Tryz.prog 3=some 8:=by kernel_rfl
theorem aU4:iE Tryz.prog 56=some 160:=by kernel_rfl
theorem aW6:iE Tryz.prog 70=some 64:=by kernel_rfl
theorem aXV:iE Tryz.prog 72=some 72:=by kernel_rfl
theorem aVW:iE Tryz.prog 74=some 48:=by kernel_rfl
theorem aU3:iE Tryz.prog 79=some 48:=by kernel_rfl
theorem aWA:iE Tryz.prog 83=some 88:=by kernel_rfl
theorem aWK:iE Tryz.prog 90=some 24:=by kernel_rfl
theorem WS:fJ Tryz.prog 1=some (1,[.nilFunc]):=by kernel_rfl
theorem aRE:fJ Tryz.prog 110=some (2,[.int .i64 0,.int .i64 0]):=by kernel_rfl
theorem a1W:fJ Tryz.prog 198=some (2,[.int .i64 0,.slice none 0 0]):=by kernel_rfl
theorem rM:fJ Tryz.prog 22=some (1,[.slice none 0 0]):=by kernel_rfl
theorem a2O:fJ Tryz.prog 254=some (2,[.pointer none,.slice none 0 0]):=by kernel_rfl
theorem fT:fJ Tryz.prog 3=some (1,[.int .i64 0]):=by kernel_rfl
theorem a2K:fJ Tryz.prog 41=some (9,[.int .i64 0,.int .i64 0,.int .i64 0,.int .i64 0,.int .i64 0,.int .i64 0,.int .i64 0,.int .i64 0,.slice none 0 0]):=by kernel_rfl
theorem aTU:fJ Tryz.prog 56=some (8,[.int .i64 0,.bool false,.slice none 0 0,.slice none 0 0,.slice none 0 0,.slice none 0 0,.slice none 0 0,.slice none 0 0]):=by kernel_rfl
theorem aUN:fJ Tryz.prog 70=some (8,[.int .i64 0,.int .i64 0,.int .i64 0,.int .i64 0,.int .i64 0,.int .i64 0,.int .i64 0,.int .i64 0]):=by kernel_rfl
theorem aYG:fJ Tryz.prog 72=some (9,[.int .i64 0,.int .i64 0,.int .i64 0,.int .i64 0,.int .i64 0,.int .i64 0,.int .i64 0,.int .i64 0,.bool false]):=by kernel_rfl
theorem aT6:fJ Tryz.prog 74=some (6,[.int .i64 0,.int .i64 0,.int .i64 0,.int .i64 0,.int .i64 0,.int .i64 0]):=by kernel_rfl
theorem aUQ:fJ Tryz.prog 79=some (4,[.slice none 0 0,.int .i64 0,.int .i64 0,.int .i64 0]):=by kernel_rfl
theorem aWI:fJ Tryz.prog 83=some (11,[.int .i64 0,.int .i64 0,.int .i64 0,.int .i64 0,.int .i64 0,.int .i64 0,.int .i64 0,.int .i64 0,.int .i64 0,.int .i64 0,.int .i64 0]):=by kernel_rfl
theorem aTP:fJ Tryz.prog 90=some (3,[.int .i64 0,.int .i64 0,.int .i64 0]):=by kernel_rfl
theorem aQU:fJ Tryz.prog 99=some (1,[.pointer none]):=by kernel_rfl
theorem c3:Tryz.prog.cellsOf 3=1:=by kernel_rfl
theorem aOX:aT Tryz.prog 10=true:=by kernel_rfl
theorem aMO:aT Tryz.prog 11=true:=by kernel_rfl
theorem qF:aT Tryz.prog 12=true:=by kernel_rfl
theorem QD:aT Tryz.prog 123=true:=by kernel_rfl
theorem aUG:aT Tryz.prog 124=true:=by kernel_rfl
theorem OA:aT Tryz.prog 125=true:=by kernel_rfl
theorem oP:aT Tryz.prog 126=true:=by kernel_rfl
theorem QW:aT Tryz.prog 127=true:=by kernel_rfl
theorem tZ:aT Tryz.prog 128=true:=by kernel_rfl
theorem aUV:aT Tryz.prog 129=true:=by kernel_rfl
theorem aY1:aT Tryz.prog 130=true:=by kernel_rfl
theorem aTF:aT Tryz.prog 131=true:=by kernel_rfl
theorem xK:aT Tryz.prog 132=true:=by kernel_rfl
theorem vG:aT Tryz.prog 133=true:=by kernel_rfl
theorem wO:aT Tryz.prog 134=true:=by kernel_rfl
theorem OM:aT Tryz.prog 135=true:=by kernel_rfl
theorem aDR:aT Tryz.prog 136=true:=by kernel_rfl
theorem RN:aT Tryz.prog 137=true:=by kernel_rfl
theorem a1X:aT Tryz.prog 138=true:=by kernel_rfl
theorem aCA:aT Tryz.prog 139=true:=by kernel_rfl
theorem aM1:aT Tryz.prog 14=true:=by kernel_rfl
theorem aBF:aT Tryz.prog 140=true:=by kernel_rfl
theorem V3:aT Tryz.prog 141=true:=by kernel_rfl
theorem SI:aT Tryz.prog 142=true:=by kernel_rfl
theorem yR:aT Tryz.prog 143=true:=by kernel_rfl
theorem sW:aT Tryz.prog 144=true:=by kernel_rfl
theorem nY:aT Tryz.prog 145=true:=by kernel_rfl
theorem yO:aT Tryz.prog 146=true:=by kernel_rfl
theorem aCO:aT Tryz.prog 147=true:=by kernel_rfl
theorem aHH:aT Tryz.prog 148=true:=by kernel_rfl
theorem XH:aT Tryz.prog 149=true:=by kernel_rfl
theorem aA1:aT Tryz.prog 15=true:=by kernel_rfl
theorem aKQ:aT Tryz.prog 150=true:=by kernel_rfl
theorem aA0:aT Tryz.prog 152=true:=by kernel_rfl
theorem Z7:aT Tryz.prog 153=true:=by kernel_rfl
theorem aFG:aT Tryz.prog 154=true:=by kernel_rfl
theorem IA:aT Tryz.prog 155=true:=by kernel_rfl
theorem aKR:aT Tryz.prog 156=true:=by kernel_rfl
theorem aB0:aT Tryz.prog 157=true:=by kernel_rfl
theorem aDC:aT Tryz.prog 158=true:=by kernel_rfl
theorem WY:aT Tryz.prog 159=true:=by kernel_rfl
theorem aFL:aT Tryz.prog 16=true:=by kernel_rfl
theorem aJP:aT Tryz.prog 160=true:=by kernel_rfl
theorem PO:aT Tryz.prog 161=true:=by kernel_rfl
theorem kQ:aT Tryz.prog 162=true:=by kernel_rfl
theorem z8:aT Tryz.prog 163=true:=by kernel_rfl
theorem Q3:aT Tryz.prog 164=true:=by kernel_rfl
theorem UN:aT Tryz.prog 17=true:=by kernel_rfl
theorem ZV:aT Tryz.prog 18=true:=by kernel_rfl
theorem aK0:aT Tryz.prog 186=true:=by kernel_rfl
theorem aTR:aT Tryz.prog 187=true:=by kernel_rfl
theorem aIV:aT Tryz.prog 188=true:=by kernel_rfl
theorem aCQ:aT Tryz.prog 189=true:=by kernel_rfl
theorem aLC:aT Tryz.prog 19=true:=by kernel_rfl
theorem aWW:aT Tryz.prog 190=true:=by kernel_rfl
theorem aYT:aT Tryz.prog 191=true:=by kernel_rfl
theorem YG:aT Tryz.prog 192=true:=by kernel_rfl
theorem aWG:aT Tryz.prog 193=true:=by kernel_rfl
theorem aKA:aT Tryz.prog 194=true:=by kernel_rfl
theorem PK:aT Tryz.prog 195=true:=by kernel_rfl
theorem L6:aT Tryz.prog 196=true:=by kernel_rfl
theorem aCX:aT Tryz.prog 197=true:=by kernel_rfl
theorem rF:aT Tryz.prog 198=true:=by kernel_rfl
theorem rH:aT Tryz.prog 199=true:=by kernel_rfl
theorem YK:aT Tryz.prog 20=true:=by kernel_rfl
theorem aNF:aT Tryz.prog 200=true:=by kernel_rfl
theorem L4:aT Tryz.prog 201=true:=by kernel_rfl
theorem uP:aT Tryz.prog 202=true:=by kernel_rfl
theorem Z4:aT Tryz.prog 203=true:=by kernel_rfl
theorem J2:aT Tryz.prog 204=true:=by kernel_rfl
theorem nP:aT Tryz.prog 205=true:=by kernel_rfl
theorem yN:aT Tryz.prog 206=true:=by kernel_rfl
theorem aKP:aT Tryz.prog 207=true:=by kernel_rfl
theorem pN:aT Tryz.prog 208=true:=by kernel_rfl
theorem aGZ:aT Tryz.prog 209=true:=by kernel_rfl
theorem aE8:aT Tryz.prog 21=true:=by kernel_rfl
theorem V8:aT Tryz.prog 210=true:=by kernel_rfl
theorem R4:aT Tryz.prog 211=true:=by kernel_rfl
theorem aMU:aT Tryz.prog 212=true:=by kernel_rfl
theorem rV:aT Tryz.prog 213=true:=by kernel_rfl
theorem FH:aT Tryz.prog 214=true:=by kernel_rfl
theorem aGL:aT Tryz.prog 215=true:=by kernel_rfl
theorem aA3:aT Tryz.prog 216=true:=by kernel_rfl
theorem aCS:aT Tryz.prog 217=true:=by kernel_rfl
theorem aLM:aT Tryz.prog 218=true:=by kernel_rfl
theorem AX:aT Tryz.prog 219=true:=by kernel_rfl
theorem XX:aT Tryz.prog 22=true:=by kernel_rfl
theorem aOW:aT Tryz.prog 220=true:=by kernel_rfl
theorem aAG:aT Tryz.prog 229=true:=by kernel_rfl
theorem IQ:aT Tryz.prog 230=true:=by kernel_rfl
theorem aH1:aT Tryz.prog 231=true:=by kernel_rfl
theorem aB7:aT Tryz.prog 232=true:=by kernel_rfl
theorem XV:aT Tryz.prog 233=true:=by kernel_rfl
theorem FB:aT Tryz.prog 234=true:=by kernel_rfl
theorem D9:aT Tryz.prog 235=true:=by kernel_rfl
theorem EP:aT Tryz.prog 236=true:=by kernel_rfl
theorem aKZ:aT Tryz.prog 237=true:=by kernel_rfl
theorem aNV:aT Tryz.prog 238=true:=by kernel_rfl
theorem aT3:aT Tryz.prog 239=true:=by kernel_rfl
theorem aX7:aT Tryz.prog 240=true:=by kernel_rfl
theorem aE5:aT Tryz.prog 241=true:=by kernel_rfl
theorem aD5:aT Tryz.prog 242=true:=by kernel_rfl
theorem aOA:aT Tryz.prog 243=true:=by kernel_rfl
theorem a3I:aT Tryz.prog 248=true:=by kernel_rfl
theorem a03:aT Tryz.prog 249=true:=by kernel_rfl
theorem aFX:aT Tryz.prog 250=true:=by kernel_rfl
theorem aY6:aT Tryz.prog 252=true:=by kernel_rfl
theorem aZQ:aT Tryz.prog 253=true:=by kernel_rfl
theorem a1O:aT Tryz.prog 254=true:=by kernel_rfl
theorem aZL:aT Tryz.prog 255=true:=by kernel_rfl
theorem a1B:aT Tryz.prog 258=true:=by kernel_rfl
theorem aLJ:aT Tryz.prog 27=true:=by kernel_rfl
theorem IX:aT Tryz.prog 277=true:=by kernel_rfl
theorem F5:aT Tryz.prog 278=true:=by kernel_rfl
theorem AB:aT Tryz.prog 279=true:=by kernel_rfl
theorem aJF:aT Tryz.prog 28=true:=by kernel_rfl
theorem aHO:aT Tryz.prog 280=true:=by kernel_rfl
theorem Y0:aT Tryz.prog 281=true:=by kernel_rfl
theorem WI:aT Tryz.prog 282=true:=by kernel_rfl
theorem aOF:aT Tryz.prog 283=true:=by kernel_rfl
theorem aHM:aT Tryz.prog 284=true:=by kernel_rfl
theorem aJD:aT Tryz.prog 285=true:=by kernel_rfl
theorem aDF:aT Tryz.prog 286=true:=by kernel_rfl
theorem aN7:aT Tryz.prog 287=true:=by kernel_rfl
theorem a2Y:aT Tryz.prog 288=true:=by kernel_rfl
theorem a3L:aT Tryz.prog 289=true:=by kernel_rfl
theorem aHV:aT Tryz.prog 29=true:=by kernel_rfl
theorem a3R:aT Tryz.prog 290=true:=by kernel_rfl
theorem aYD:aT Tryz.prog 291=true:=by kernel_rfl
theorem a1S:aT Tryz.prog 292=true:=by kernel_rfl
theorem aZ7:aT Tryz.prog 293=true:=by kernel_rfl
theorem aXI:aT Tryz.prog 294=true:=by kernel_rfl
theorem a0E:aT Tryz.prog 295=true:=by kernel_rfl
theorem rW:aT Tryz.prog 30=true:=by kernel_rfl
theorem uG:aT Tryz.prog 31=true:=by kernel_rfl
theorem sQ:aT Tryz.prog 32=true:=by kernel_rfl
theorem aDW:aT Tryz.prog 33=true:=by kernel_rfl
theorem G7:aT Tryz.prog 34=true:=by kernel_rfl
theorem aBG:aT Tryz.prog 35=true:=by kernel_rfl
theorem SE:aT Tryz.prog 4=true:=by kernel_rfl
theorem KC:aT Tryz.prog 41=true:=by kernel_rfl
theorem aIB:aT Tryz.prog 42=true:=by kernel_rfl
theorem aOH:aT Tryz.prog 43=true:=by kernel_rfl
theorem mI:aT Tryz.prog 44=true:=by kernel_rfl
theorem aJ3:aT Tryz.prog 45=true:=by kernel_rfl
theorem aJT:aT Tryz.prog 46=true:=by kernel_rfl
theorem y9:aT Tryz.prog 47=true:=by kernel_rfl
theorem aLR:aT Tryz.prog 48=true:=by kernel_rfl
theorem qC:aT Tryz.prog 49=true:=by kernel_rfl
theorem xZ:aT Tryz.prog 5=true:=by kernel_rfl
theorem aC8:aT Tryz.prog 50=true:=by kernel_rfl
theorem sH:aT Tryz.prog 51=true:=by kernel_rfl
theorem MQ:aT Tryz.prog 52=true:=by kernel_rfl
theorem aID:aT Tryz.prog 53=true:=by kernel_rfl
theorem BK:aT Tryz.prog 6=true:=by kernel_rfl
theorem ZF:aT Tryz.prog 69=true:=by kernel_rfl
theorem aAW:aT Tryz.prog 7=true:=by kernel_rfl
theorem aBK:aT Tryz.prog 70=true:=by kernel_rfl
theorem YI:aT Tryz.prog 71=true:=by kernel_rfl
theorem oG:aT Tryz.prog 72=true:=by kernel_rfl
theorem aIG:aT Tryz.prog 73=true:=by kernel_rfl
theorem kX:aT Tryz.prog 74=true:=by kernel_rfl
theorem wJ:aT Tryz.prog 75=true:=by kernel_rfl
theorem o6:aT Tryz.prog 76=true:=by kernel_rfl
theorem XZ:aT Tryz.prog 77=true:=by kernel_rfl
theorem aLZ:aT Tryz.prog 78=true:=by kernel_rfl
theorem NS:aT Tryz.prog 79=true:=by kernel_rfl
theorem aAZ:aT Tryz.prog 8=true:=by kernel_rfl
theorem aMV:aT Tryz.prog 80=true:=by kernel_rfl
theorem aGA:aT Tryz.prog 81=true:=by kernel_rfl
theorem aKU:aT Tryz.prog 82=true:=by kernel_rfl
theorem aMC:aT Tryz.prog 83=true:=by kernel_rfl
theorem aBP:aT Tryz.prog 84=true:=by kernel_rfl
theorem aD1:aT Tryz.prog 9=true:=by kernel_rfl
theorem P4:aT Tryz.prog 90=true:=by kernel_rfl
theorem aMD:aT Tryz.prog 91=true:=by kernel_rfl
theorem WZ:aT Tryz.prog 92=true:=by kernel_rfl
theorem QR:aT Tryz.prog 93=true:=by kernel_rfl
theorem aM0:aT Tryz.prog 94=true:=by kernel_rfl
theorem zQ:aT Tryz.prog 95=true:=by kernel_rfl
theorem a0N:aR2 Tryz.prog 70=some [(3,0),(3,1),(3,2),(3,3),(3,4),(3,5),(3,6),(3,7)]:=by kernel_rfl
theorem a04:aR2 Tryz.prog 72=some [(3,0),(3,1),(3,2),(3,3),(3,4),(3,5),(3,6),(3,7),(4,8)]:=by kernel_rfl
theorem a2U:aR2 Tryz.prog 74=some [(3,0),(3,1),(3,2),(3,3),(3,4),(3,5)]:=by kernel_rfl
theorem aZ0:iF Tryz.prog 110 0=some 0:=by kernel_rfl
theorem aU7:iF Tryz.prog 110 1=some 1:=by kernel_rfl
theorem aZB:iF Tryz.prog 41 0=some 0:=by kernel_rfl
theorem aQ5:iF Tryz.prog 56 2=some 2:=by kernel_rfl
theorem a3P:iF Tryz.prog 56 3=some 3:=by kernel_rfl
theorem aUD:iF Tryz.prog 56 4=some 4:=by kernel_rfl
theorem aZP:iF Tryz.prog 79 0=some 0:=by kernel_rfl
theorem aS0:iF Tryz.prog 90 0=some 0:=by kernel_rfl
theorem aRA:iF Tryz.prog 90 1=some 1:=by kernel_rfl
theorem aSU:iF Tryz.prog 90 2=some 2:=by kernel_rfl
theorem ibx:Extern.findNext Tryz.f244=none:=by kernel_rfl
theorem iby:Extern.find Tryz.f244=some Extern.BytealgIndexByte.indexByte:=by kernel_rfl
theorem a2L:kH Tryz.prog 249 "purveyor/pool.in"=some 278:=by kernel_rfl
theorem aYE:kH Tryz.prog 249 "purveyor/pool.out"=some 279:=by kernel_rfl
theorem a0C:kH Tryz.prog 250 "purveyor/pool.in"=some 283:=by kernel_rfl
theorem a1D:kH Tryz.prog 250 "purveyor/pool.out"=some 284:=by kernel_rfl
theorem a2Z:kH Tryz.prog 251 "purveyor/pool.in"=some 288:=by kernel_rfl
theorem aYY:kH Tryz.prog 251 "purveyor/pool.out"=some 289:=by kernel_rfl
theorem aY7:kH Tryz.prog 253 "purveyor/pool.in"=some 292:=by kernel_rfl
theorem a0Y:kH Tryz.prog 253 "purveyor/pool.out"=some 293:=by kernel_rfl
theorem aRO:kH Tryz.prog 92 "purveyor/apply.do"=some 277:=by kernel_rfl
theorem aTI:sU Tryz.prog 124=some [(0,1)]:=by kernel_rfl
theorem aWB:sU Tryz.prog 32=some [(0,5),(5,1),(6,1),(7,1),(8,1),(9,1)]:=by kernel_rfl
theorem aY5:sU Tryz.prog 56=some [(0,1),(1,1),(2,1),(3,1),(4,1),(5,1),(6,1),(7,1)]:=by kernel_rfl
theorem aX0:zeroOf Tryz.prog 110=some [.int .i64 0,.int .i64 0]:=by kernel_rfl
theorem z124:zeroOf Tryz.prog 124=some [.nilFunc]:=by kernel_rfl
theorem z143:zeroOf Tryz.prog 143=some [.bool false,.bool false,.bool false,.bool false,.bool false,.bool false,.bool false,.bool false,.bool false,.bool false,.bool false,.bool false,.bool false,.bool false,.bool false,.bool false,.bool false,.bool false,.bool false,.bool false,.bool false,.bool false,.bool false,.bool false,.bool false,.bool false,.bool false,.bool false,.bool false,.bool false,.bool false,.bool false,.bool false,.bool false,.bool false,.bool false,.bool false,.bool false,.bool false,.bool false]:=by kernel_rfl
theorem aYZ:zeroOf Tryz.prog 166=some [.int .i64 0,.int .i64 0,.slice none 0 0,.slice none 0 0,.slice none 0 0,.slice none 0 0,.slice none 0 0,.slice none 0 0,.slice none 0 0,.int .i64 0]:=by kernel_rfl
theorem aZ9:zeroOf Tryz.prog 195=some [.int .i64 0,.int .i64 0]:=by kernel_rfl
theorem z198:zeroOf Tryz.prog 198=some [.int .i64 0,.slice none 0 0]:=by kernel_rfl
theorem z22:zeroOf Tryz.prog 22=some [.slice none 0 0]:=by kernel_rfl
theorem aZN:zeroOf Tryz.prog 249=some []:=by kernel_rfl
theorem z25:zeroOf Tryz.prog 25=some [.int .i64 0,.int .i64 0,.slice none 0 0,.slice none 0 0,.slice none 0 0]:=by kernel_rfl
theorem a0V:zeroOf Tryz.prog 250=some []:=by kernel_rfl
theorem a0J:zeroOf Tryz.prog 251=some []:=by kernel_rfl
theorem aZE:zeroOf Tryz.prog 253=some [.int .i64 0]:=by kernel_rfl
theorem aZF:zeroOf Tryz.prog 254=some [.pointer none,.slice none 0 0]:=by kernel_rfl
theorem aVA:zeroOf Tryz.prog 265=some [.int .u64 0,.int .u64 0,.int .u64 0,.int .u64 0]:=by kernel_rfl
theorem a09:zeroOf Tryz.prog 299=some [.nilFunc,.nilFunc,.nilFunc]:=by kernel_rfl
theorem z3:zeroOf Tryz.prog 3=some [.int .i64 0]:=by kernel_rfl
theorem z32:zeroOf Tryz.prog 32=some [.int .i64 0,.int .i64 0,.slice none 0 0,.slice none 0 0,.slice none 0 0,.slice none 0 0,.slice none 0 0,.slice none 0 0,.slice none 0 0,.int .i64 0]:=by kernel_rfl
theorem z39:zeroOf Tryz.prog 39=some [.int .i64 0]:=by kernel_rfl
theorem z41:zeroOf Tryz.prog 41=some [.int .i64 0,.int .i64 0,.int .i64 0,.int .i64 0,.int .i64 0,.int .i64 0,.int .i64 0,.int .i64 0,.slice none 0 0]:=by kernel_rfl
theorem z56:zeroOf Tryz.prog 56=some [.int .i64 0,.bool false,.slice none 0 0,.slice none 0 0,.slice none 0 0,.slice none 0 0,.slice none 0 0,.slice none 0 0]:=by kernel_rfl
theorem z63:zeroOf Tryz.prog 63=some [.slice none 0 0,.slice none 0 0,.slice none 0 0]:=by kernel_rfl
theorem z70:zeroOf Tryz.prog 70=some [.int .i64 0,.int .i64 0,.int .i64 0,.int .i64 0,.int .i64 0,.int .i64 0,.int .i64 0,.int .i64 0]:=by kernel_rfl
theorem z72:zeroOf Tryz.prog 72=some [.int .i64 0,.int .i64 0,.int .i64 0,.int .i64 0,.int .i64 0,.int .i64 0,.int .i64 0,.int .i64 0,.bool false]:=by kernel_rfl
theorem z74:zeroOf Tryz.prog 74=some [.int .i64 0,.int .i64 0,.int .i64 0,.int .i64 0,.int .i64 0,.int .i64 0]:=by kernel_rfl
theorem z79:zeroOf Tryz.prog 79=some [.slice none 0 0,.int .i64 0,.int .i64 0,.int .i64 0]:=by kernel_rfl
theorem z80:zeroOf Tryz.prog 80=some [.int .i64 0,.int .i64 0,.int .i64 0,.int .i64 0,.int .i64 0,.int .i64 0,.int .i64 0,.int .i64 0,.int .i64 0,.int .i64 0,.int .i64 0]:=by kernel_rfl
theorem z83:zeroOf Tryz.prog 83=some [.int .i64 0,.int .i64 0,.int .i64 0,.int .i64 0,.int .i64 0,.int .i64 0,.int .i64 0,.int .i64 0,.int .i64 0,.int .i64 0,.int .i64 0]:=by kernel_rfl
theorem z90:zeroOf Tryz.prog 90=some [.int .i64 0,.int .i64 0,.int .i64 0]:=by kernel_rfl
theorem z94:zeroOf Tryz.prog 94=some [.string ⟨#[]⟩,.string ⟨#[]⟩,.string ⟨#[]⟩,.string ⟨#[]⟩,.string ⟨#[]⟩,.string ⟨#[]⟩,.string ⟨#[]⟩,.string ⟨#[]⟩,.string ⟨#[]⟩,.string ⟨#[]⟩,.string ⟨#[]⟩,.string ⟨#[]⟩,.string ⟨#[]⟩,.string ⟨#[]⟩,.string ⟨#[]⟩,.string ⟨#[]⟩,.string ⟨#[]⟩]:=by kernel_rfl
theorem aUC:CO Tryz.prog 251=true:=by kernel_rfl
theorem zi3:(Tryz.prog.info? 3).bind (·.zero)=some (.int .i64 0):=by kernel_rfl
theorem aXK:(Tryz.prog.info? 124).bind (·.zero)=some (.agg #[.nilFunc]):=by kernel_rfl
theorem z1:zeroOf Tryz.prog 1=some [.nilFunc]:=by kernel_rfl
theorem z99:zeroOf Tryz.prog 99=some [.pointer none]:=by kernel_rfl
noncomputable section
def tb:dX:={ sh:=[(0,(1,false)),(1,(1,false)),(3,(1,false)),(4,(1,false)),(22,(1,false)),(23,(1,false)),(25,(5,true)),(27,(1,false)),(28,(1,false)),(29,(1,false)),(30,(1,false)),(32,(10,true)),(39,(1,false)),(41,(9,true)),(49,(1,false)),(53,(1,false)),(54,(1,false)),(56,(8,true)),(70,(8,true)),(72,(9,true)),(74,(6,true)),(76,(1,false)),(77,(3,true)),(79,(4,true)),(80,(11,true)),(83,(11,true)),(90,(3,true)),(94,(17,true)),(99,(1,false)),(110,(2,true)),(111,(1,false)),(124,(1,true)),(143,(40,true)),(148,(1,false)),(156,(1,false)),(166,(10,true)),(187,(1,false)),(198,(2,true)),(207,(1,false)),(225,(1,false)),(241,(1,false)),(251,(0,true)),(254,(2,true)),(265,(4,true)),(299,(3,true))],fo:=[((25,0),0),((25,1),1),((25,2),2),((25,3),3),((25,4),4),((32,0),0),((32,1),5),((32,2),6),((32,3),7),((32,4),8),((32,5),9),((41,0),0),((41,1),1),((41,2),2),((41,3),3),((41,4),4),((41,5),5),((41,6),6),((41,7),7),((41,8),8),((56,0),0),((56,1),1),((56,2),2),((56,3),3),((56,4),4),((56,5),5),((56,6),6),((56,7),7),((70,0),0),((70,1),1),((70,2),2),((70,3),3),((70,4),4),((70,5),5),((70,6),6),((70,7),7),((72,0),0),((72,1),1),((72,2),2),((72,3),3),((72,4),4),((72,5),5),((72,6),6),((72,7),7),((72,8),8),((74,1),1),((74,2),2),((74,3),3),((74,4),4),((74,5),5),((79,0),0),((79,1),1),((83,0),0),((83,1),1),((83,2),2),((83,3),3),((83,4),4),((83,5),5),((83,6),6),((83,7),7),((83,8),8),((83,9),9),((83,10),10),((90,0),0),((90,1),1),((90,2),2),((110,0),0),((110,1),1),((124,0),0),((166,0),0),((186,3),3),((186,4),4),((186,5),5),((186,6),6),((198,0),0),((198,1),1),((253,0),0),((254,0),0),((254,1),1)],fp:=[((25,2),(2,22)),((32,0),(0,25)),((32,2),(6,28)),((41,0),(0,3)),((41,4),(4,3)),((41,6),(6,3)),((41,8),(8,22)),((70,0),(0,3)),((70,1),(1,3)),((70,3),(3,3)),((70,4),(4,3)),((79,0),(0,76)),((90,0),(0,3)),((299,0),(0,241)),((299,1),(1,148)),((299,2),(2,207))],ki:=[(3,.i64),(5,.u8),(21,.i32),(39,.i64),(156,.u64),(202,.u64)],se:=[(22,3),(23,22),(27,56),(28,70),(29,72),(30,74),(34,41),(36,39),(53,79),(54,83),(76,90),(111,110),(120,1),(172,99),(239,198),(255,254)],bl:=[(25,[(0,1),(1,1),(2,1),(3,1),(4,1)]),(41,[(0,1),(1,1),(2,1),(3,1),(4,1),(5,1),(6,1),(7,1),(8,1)]),(70,[(0,1),(1,1),(2,1),(3,1),(4,1),(5,1),(6,1),(7,1)]),(72,[(0,1),(1,1),(2,1),(3,1),(4,1),(5,1),(6,1),(7,1),(8,1)]),(74,[(0,1),(1,1),(2,1),(3,1),(4,1),(5,1)]),(79,[(0,1),(1,3)]),(83,[(0,1),(1,1),(2,1),(3,1),(4,1),(5,1),(6,1),(7,1),(8,1),(9,1),(10,1)]),(90,[(0,1),(1,1),(2,1)]),(110,[(0,1),(1,1)]),(166,[(0,10)]),(198,[(0,1),(1,1)]),(249,[]),(250,[]),(251,[]),(253,[(0,1)]),(254,[(0,1),(1,1)]),(299,[(0,1),(1,1),(2,1)])],zs:=[(1,[.nilFunc]),(3,[.int .i64 0]),(22,[.slice none 0 0]),(25,[.int .i64 0,.int .i64 0,.slice none 0 0,.slice none 0 0,.slice none 0 0]),(32,[.int .i64 0,.int .i64 0,.slice none 0 0,.slice none 0 0,.slice none 0 0,.slice none 0 0,.slice none 0 0,.slice none 0 0,.slice none 0 0,.int .i64 0]),(39,[.int .i64 0]),(41,[.int .i64 0,.int .i64 0,.int .i64 0,.int .i64 0,.int .i64 0,.int .i64 0,.int .i64 0,.int .i64 0,.slice none 0 0]),(56,[.int .i64 0,.bool false,.slice none 0 0,.slice none 0 0,.slice none 0 0,.slice none 0 0,.slice none 0 0,.slice none 0 0]),(70,[.int .i64 0,.int .i64 0,.int .i64 0,.int .i64 0,.int .i64 0,.int .i64 0,.int .i64 0,.int .i64 0]),(72,[.int .i64 0,.int .i64 0,.int .i64 0,.int .i64 0,.int .i64 0,.int .i64 0,.int .i64 0,.int .i64 0,.bool false]),(74,[.int .i64 0,.int .i64 0,.int .i64 0,.int .i64 0,.int .i64 0,.int .i64 0]),(79,[.slice none 0 0,.int .i64 0,.int .i64 0,.int .i64 0]),(80,[.int .i64 0,.int .i64 0,.int .i64 0,.int .i64 0,.int .i64 0,.int .i64 0,.int .i64 0,.int .i64 0,.int .i64 0,.int .i64 0,.int .i64 0]),(83,[.int .i64 0,.int .i64 0,.int .i64 0,.int .i64 0,.int .i64 0,.int .i64 0,.int .i64 0,.int .i64 0,.int .i64 0,.int .i64 0,.int .i64 0]),(90,[.int .i64 0,.int .i64 0,.int .i64 0]),(94,[.string ⟨#[]⟩,.string ⟨#[]⟩,.string ⟨#[]⟩,.string ⟨#[]⟩,.string ⟨#[]⟩,.string ⟨#[]⟩,.string ⟨#[]⟩,.string ⟨#[]⟩,.string ⟨#[]⟩,.string ⟨#[]⟩,.string ⟨#[]⟩,.string ⟨#[]⟩,.string ⟨#[]⟩,.string ⟨#[]⟩,.string ⟨#[]⟩,.string ⟨#[]⟩,.string ⟨#[]⟩]),(99,[.pointer none]),(110,[.int .i64 0,.int .i64 0]),(124,[.nilFunc]),(143,[.bool false,.bool false,.bool false,.bool false,.bool false,.bool false,.bool false,.bool false,.bool false,.bool false,.bool false,.bool false,.bool false,.bool false,.bool false,.bool false,.bool false,.bool false,.bool false,.bool false,.bool false,.bool false,.bool false,.bool false,.bool false,.bool false,.bool false,.bool false,.bool false,.bool false,.bool false,.bool false,.bool false,.bool false,.bool false,.bool false,.bool false,.bool false,.bool false,.bool false]),(166,[.int .i64 0,.int .i64 0,.slice none 0 0,.slice none 0 0,.slice none 0 0,.slice none 0 0,.slice none 0 0,.slice none 0 0,.slice none 0 0,.int .i64 0]),(198,[.int .i64 0,.slice none 0 0]),(249,[]),(250,[]),(251,[]),(253,[.int .i64 0]),(254,[.pointer none,.slice none 0 0]),(265,[.int .u64 0,.int .u64 0,.int .u64 0,.int .u64 0]),(299,[.nilFunc,.nilFunc,.nilFunc])],bz:=[(1,1),(3,1),(22,1),(39,1),(41,9),(70,8),(72,9),(74,6),(90,3),(99,1),(110,2),(198,2),(254,2)],bb:=[(3,8),(22,24),(39,8),(41,88),(70,64),(72,72),(74,48),(90,24),(110,16)],ar:=[(77,(3,3)),(80,(11,3)),(143,(40,4)),(265,(4,156))] }
theorem aN:cK Tryz.prog tb:=⟨⟨by kernel_rfl,by kernel_rfl,by kernel_rfl⟩,by kernel_rfl,by kernel_rfl,by kernel_rfl,⟨z1,z3,z22,z25,z32,z39,z41,z56,z70,z72,z74,z79,z80,z83,z90,z94,z99,aX0,z124,z143,aYZ,z198,aZN,a0V,a0J,aZE,aZF,aVA,a09,trivial⟩,by kernel_rfl,by kernel_rfl,by kernel_rfl⟩
abbrev WB (R:Type):=WT Tryz.prog (.b R)
abbrev PZ {B:Type} (o:Option B) (k:FuncId) (args:List AV) (V:B->AV):Prop:=PQ Tryz.prog o k args V
theorem GL {p:Prop} (h:p:=by intro r;repeat' (first | exact qX _ | exact yD _ | exact FD _ | exact F7 _ _ | exact KF | exact .agg (eZ.dA _) | exact .agg (aB.dA _) | exact .agg (gJ.dA _) | exact .agg (aM.dA _) | exact .agg (bM.dA _) | exact (aP.bW _ ▸ PV.agg (aP.dA _)) | exact .agg (bH.dA _) | exact .agg (bS.dA _) | exact .agg (dB.dA _) | exact .agg (aA.dA _) | exact .agg (aS.dA _) | exact .agg (aH.dA _) | exact .agg (wH.dA _) | exact .agg (uQ.dA _) | exact .agg (uY.dA _) | exact .agg (vV.dA _) | exact .agg (nA.dA _) | exact .agg (vN.dA _) | exact .agg (gG.dA _) | exact .agg (jJ.dA _) | refine .aU ?_ | refine SS ?_ ?_ | refine o8 ?_ _ | exact vI | exact QI | exact NC | exact QU _ | exact eZ.dA | exact aB.dA | exact gJ.dA | exact aM.dA | exact bM.dA | exact aP.dA | exact bH.dA | exact bS.dA | exact dB.dA | exact aA.dA | exact aS.dA | exact aH.dA | exact wH.dA | exact uQ.dA | exact uY.dA | exact vV.dA | exact nA.dA | exact vN.dA | exact gG.dA | exact jJ.dA | refine PI ?_)):p:=h
theorem wq {R:Type} {V:R->AV} {g:FuncId} {fn:Func} {ar:List AV} {t:WB R} (hf:Tryz.prog.funcs[g]?=some fn) (h:WP Tryz.prog tb 100000 ⟨fn.ntmps,false,[]⟩ t (.fn (JF tb fn.results.toList V) DJ) (.c [vU fn]) (λt=>ar[t]?) H0 []:=by exact au) (hpv:∀ a,PV (V a):=by exact GL) (hb:fn.body=some (vU fn):=by rfl) (hle:Nat.ble ar.length fn.ntmps=true:=by rfl):PZ t.run g ar V:=λ_ h0=>KO mixed aN V h0 hf hpv 100000 h hb hle
theorem wm {R:Type} {V:R->AV} {g:FuncId} {fn:Func} {ar:List AV} {t:WB R} (hf:Tryz.prog.funcs[g]?=some fn) (h:WP Tryz.prog tb 100000 ⟨fn.ntmps,false,[]⟩ t (.fn (JF tb fn.results.toList V) DJ) (.c [vU fn]) (λt=>ar[t]?) H0 []) (hpv:∀ a,PV (V a):=by exact GL) (hb:fn.body=some (vU fn):=by rfl) (hle:Nat.ble ar.length fn.ntmps=true:=by rfl):PZ t.run g ar V:=λ_ h0=>KO mixed aN V h0 hf hpv 100000 h hb hle
theorem aW2:lK Tryz.prog 78 70 8 bH.av:=nT Tryz.func78 aLZ Tryz.underlying28 aUN aW6
theorem aRZ:lK Tryz.prog 92 56 8 aP.av:=nT Tryz.func92 WZ Tryz.underlying27 aTU aU4
theorem aSX:lK Tryz.prog 93 3 1 fI:=nT Tryz.func93 QR Tryz.underlying22 fT kY
theorem aVF:lK Tryz.prog 135 83 11 bM.av:=nT Tryz.func135 OM Tryz.underlying54 aWI aWA
theorem aZY:lK Tryz.prog 138 72 9 bS.av:=nT Tryz.func138 a1X Tryz.underlying29 aYG aXV
theorem aS2:lK Tryz.prog 141 79 4 aM.av:=nT Tryz.func141 V3 Tryz.underlying53 aUQ aU3
theorem aW9:lK Tryz.prog 163 74 6 dB.av:=nT Tryz.func163 z8 Tryz.underlying30 aT6 aVW
theorem aWE:lK Tryz.prog 194 110 2 aH.av:=nT Tryz.func194 aKA Tryz.underlying111 aRE aXA
theorem aRB:lK Tryz.prog 206 90 3 aB.av:=nT Tryz.func206 yN Tryz.underlying76 aTP aWK
theorem aVC:lK Tryz.prog 210 22 1 (fL 1 fI):=nT Tryz.func210 V8 Tryz.underlying23 rM HV
theorem PD {p:Prop} (h:p:=by first | exact aW2 | exact aRZ | exact aSX | exact aVF | exact aZY | exact aS2 | exact aW9 | exact aWE | exact aRB | exact aVC):p:=h
theorem a1J:PP Tryz.prog 82 [] (λy=>y=.mp [6,7,8,9] [.agg [.fn (.func 144) [] []],.agg [.fn (.func 145) [] []],.agg [.fn (.func 146) [] []],.agg [.fn (.func 147) [] []]]):=by
  refine uD (R0:=λy H=>Cv (jZ H) y (.mp [6,7,8,9] [.agg [.fn (.func 144) [] []],.agg [.fn (.func 145) [] []],.agg [.fn (.func 146) [] []],.agg [.fn (.func 147) [] []]])) ?_ (λy H hc=>⟨_,rfl,.mp (by intro x hx;simp only [List.mem_cons,List.not_mem_nil,or_false] at hx;rcases hx with rfl | rfl | rfl | rfl <;> exact .agg (by intro x hx;simp only [List.mem_cons,List.not_mem_nil,or_false] at hx;subst hx;exact .fn (by intro x hx;cases hx) (by intro x hx;cases hx))),hc⟩)
  refine gN (c:=_) Tryz.func82 rfl rfl ?_;intro Q hret hnorm
  refine tc aN 6 (.mk ?_)
  refine mmk rfl rfl rfl rfl ?_;intro b0
  refine AI rfl rfl rfl (pY (cs:=[.fn (.func 144) [] []]) (ps:=[(0,_)]) rfl aTI z124 rfl (.cons rfl .nil) (by kernel_rfl)) ?_
  refine BJ rfl rfl rfl Tryz.underlying126 Tryz.underlying3 rfl rfl rfl rfl ?_
  refine AI rfl rfl rfl (pY (cs:=[.fn (.func 145) [] []]) (ps:=[(0,_)]) rfl aTI z124 rfl (.cons rfl .nil) (by kernel_rfl)) ?_
  refine BJ rfl rfl rfl Tryz.underlying126 Tryz.underlying3 rfl rfl rfl rfl ?_
  refine AI rfl rfl rfl (pY (cs:=[.fn (.func 146) [] []]) (ps:=[(0,_)]) rfl aTI z124 rfl (.cons rfl .nil) (by kernel_rfl)) ?_
  refine BJ rfl rfl rfl Tryz.underlying126 Tryz.underlying3 rfl rfl rfl rfl ?_
  refine AI rfl rfl rfl (pY (cs:=[.fn (.func 147) [] []]) (ps:=[(0,_)]) rfl aTI z124 rfl (.cons rfl .nil) (by kernel_rfl)) ?_
  refine BJ rfl rfl rfl Tryz.underlying126 Tryz.underlying3 rfl rfl rfl rfl ?_
  refine aFS 1 rfl ?_
  refine tr aN 3 (.mk ?_)
  refine wR hret (rT .nil) ?_
  exact .refl _
def XU (a1:aA) (a2:Int) (a3:Int):WB (Bool) :=
 .al 1<|.jn 0 [1,3,6] [1] [] (λ_ (a:Bool)=>[(29,aF a)]) (λ_ _=>[]) (.bB 10 (decide (a2<0)) λx5=>.ifs [10] x5 (.ret true) (.ln 15 aP.av a1.aW<|.bB 16 (decide (a2>=(a1.aW.length:Int))) λx6=>.ifs [16] x6 (.ret true) (.bB 20 (decide (a3<0)) λx7=>.ifs [20] x7 (.ret true) (.ln 27 fI a1.bA.cB<|.bB 28 (decide (a3>=(a1.bA.cB.length:Int))) λx8=>.ret x8)))) (λy0_1=>.ifs [29] y0_1 (.ret ((false:Bool))) (.dr [(0,[1]),(1,[1]),(5,[1]),(6,[1]),(7,[1])] [] [1] [9,10] [0,1,2,3,4,5,6,7,8,9,10,11] (.gI 33 aP.av gE aP.bW a1.aW a2 λx9=>.ln 38 fI a1.bA.cB<|.al 2<|.jn 0 [] [] [] (λ_ (a:Bool)=>[(6,aF a)]) (λ_ _=>[]) (.ln 41 aM.av x9.dD<|.bI 43 (aI ((a1.bA.cB.length:Int)*2)) λx11=>.bB 44 (decide ((x9.dD.length:Int)>=x11)) λx12=>.ifs [44] x12 (.ln 48 bM.av x9.dI<|.bB 50 (decide ((x9.dI.length:Int)>=(a1.bA.cB.length:Int))) λx13=>.ifs [50] x13 (.ln 57 (fL 1 fI) a1.bA.Methods<|.bB 58 (decide (a2<(a1.bA.Methods.length:Int))) λx14=>.ifs [58] x14 (.ln 65 (fL 1 fI) a1.bA.dN<|.bB 66 (decide (a2<(a1.bA.dN.length:Int))) λx15=>.ifs [66] x15 (.ix 73 (fL 1 fI) a1.bA.Methods a2 λx16=>.ln 75 fI x16<|.bB 77 (decide ((x16.length:Int)>=(a1.bA.cB.length:Int))) λx17=>.ifs [77] x17 (.ix 84 (fL 1 fI) a1.bA.dN a2 λx18=>.ln 86 fI x18<|.bB 88 (decide ((x18.length:Int)>=(a1.bA.cB.length:Int))) λx19=>.ret x19) (.ret false)) (.ret false)) (.ret false)) (.ret false)) (.ret false)) (λy1_1=>.ret ((y1_1:Bool))))))
def zC (a1:aA) (a2:Int) (a3:Int):Option (Bool):=(XU a1 a2 a3).run
theorem IS {a1 a2 a3}:PZ (zC a1 a2 a3) 123 [.agg (aA.av a1),int a2,int a3] aF:=wq Tryz.func123
def aLX (a1:aA) (a2:Int) (a3:Int):WB (Int) :=
 .al 1<|.cl 11 (zC a1 a2 a3) QD IS λx5=>.bB 12 (!x5) λx6=>.ifs [12] x6 (.ret ((4:Int))) (.gI 17 aP.av gE aP.bW a1.aW a2 λx7=>.wt 13 <|.ifs [13] x7.Closed (.ret ((7:Int))) (.ret ((0:Int))))
def lH (a1:aA) (a2:Int) (a3:Int):Option (Int):=(aLX a1 a2 a3).run
theorem mU {a1 a2 a3}:PZ (lH a1 a2 a3) 70 [.agg (aA.av a1),int a2,int a3] int:=wq Tryz.func70
def aCL (a1:Int):WB (Bool) :=
 .jn 1 [] [] [] (λ_ (a:Bool)=>[(2,aF a)]) (λ_ _=>[]) (.bB 4 (decide (a1>=0)) λx2=>.ifs [4] x2 (.bB 7 (decide (a1<=1073741824)) λx3=>.ret x3) (.ret false)) (λy0_1=>.ret ((y0_1:Bool)))
def BX (a1:Int):Option (Bool):=(aCL a1).run
theorem aTQ {a1}:PZ (BX a1) 238 [int a1] aF:=wq Tryz.func238
def aKY (a1:Int) (a2:Int):WB (Int×Int) :=
 .bI 11 (wu64 a1) λx3=>.bI 13 (wu64 a2) λx4=>.bI 15 (x3.tmod 4294967296) λx5=>.bI 17 (x4.tmod 4294967296) λx6=>.bI 18 (wu64 (x5*x6)) λx7=>.bI 20 (wu64 (x3.tdiv 4294967296)) λx8=>.bI 22 (x4.tmod 4294967296) λx9=>.bI 23 (wu64 (x8*x9)) λx10=>.bI 25 (x3.tmod 4294967296) λx11=>.bI 27 (wu64 (x4.tdiv 4294967296)) λx12=>.bI 28 (wu64 (x11*x12)) λx13=>.bI 30 (wu64 (x3.tdiv 4294967296)) λx14=>.bI 32 (wu64 (x4.tdiv 4294967296)) λx15=>.bI 33 (wu64 (x14*x15)) λx16=>.gv 34<|.al 1<|.gv 35<|.bI 37 (wu64 (x7.tdiv 4294967296)) λx18=>.gv 38<|.bI 40 (x10.tmod 4294967296) λx19=>.bI 41 (wu64 (x18+x19)) λx20=>.gv 42<|.bI 44 (x13.tmod 4294967296) λx21=>.bI 45 (wu64 (x20+x21)) λx22=>.gv 46<|.gv 48<|.bI 50 (wu64 (x10.tdiv 4294967296)) λx23=>.bI 51 (wu64 (x16+x23)) λx24=>.gv 52<|.bI 54 (wu64 (x13.tdiv 4294967296)) λx25=>.bI 55 (wu64 (x24+x25)) λx26=>.bI 57 (wu64 (x22.tdiv 4294967296)) λx27=>.bI 58 (wu64 (x26+x27)) λx28=>.bI 61 (wu64 (x3*x4)) λx29=>.ret ((x28:Int),x29)
def ME (a1:Int) (a2:Int):Option (Int×Int):=(aKY a1 a2).run
theorem aFI {a1 a2}:PZ (ME a1 a2) 214 [int a1,int a2] (λr=>.aU [.sc (.int .u64 r.1),.sc (.int .u64 r.2)]):=by
 refine wm Tryz.func214 ?_
 refine .mk λx3=>?_
 refine .mk λx4=>?_
 refine .mk λx5=>?_
 refine .mk λx6=>?_
 refine .mk λx7=>?_
 refine .mk λx8=>?_
 refine .mk λx9=>?_
 refine .mk λx10=>?_
 refine .mk λx11=>?_
 refine .mk λx12=>?_
 refine .mk λx13=>?_
 refine .mk λx14=>?_
 refine .mk λx15=>?_
 refine .mk λx16=>?_
 refine .mk _ (bE (qJ (cs:=[.sc (.int .u64 x7),.sc (.int .u64 x10),.sc (.int .u64 x13),.sc (.int .u64 x16)]) (ps:=[(0,_),(1,_),(2,_),(3,_)]) rfl Tryz.underlying265 aRS aVA rfl (.cons rfl (.cons rfl (.cons rfl (.cons rfl .nil)))) (by kernel_rfl))) ?_
 intro v17
 refine .mk _ (bE (bX (y:=.pt 1 v17 0 0) (pQ rfl Tryz.underlying265 aRS rfl rfl rfl rfl rfl (by decide)) rfl)) ?_
 refine .mk λx18=>?_
 refine .mk _ (bE (bX (y:=.pt 1 v17 0 1) (pQ rfl Tryz.underlying265 aRS rfl rfl rfl rfl rfl (by decide)) rfl)) ?_
 refine .mk λx19=>?_
 refine .mk λx20=>?_
 refine .mk _ (bE (bX (y:=.pt 1 v17 0 2) (pQ rfl Tryz.underlying265 aRS rfl rfl rfl rfl rfl (by decide)) rfl)) ?_
 refine .mk λx21=>?_
 refine .mk λx22=>?_
 refine .mk _ (bE (bX (y:=.pt 1 v17 0 3) (pQ rfl Tryz.underlying265 aRS rfl rfl rfl rfl rfl (by decide)) rfl)) ?_
 refine .mk _ (bE (bX (y:=.pt 1 v17 0 1) (pQ rfl Tryz.underlying265 aRS rfl rfl rfl rfl rfl (by decide)) rfl)) ?_
 refine .mk λx23=>?_
 refine .mk λx24=>?_
 refine .mk _ (bE (bX (y:=.pt 1 v17 0 2) (pQ rfl Tryz.underlying265 aRS rfl rfl rfl rfl rfl (by decide)) rfl)) ?_
 refine .mk λx25=>?_
 refine .mk λx26=>?_
 refine .mk λx27=>?_
 refine .mk λx28=>?_
 refine .mk λx29=>?_
 exact .mk
end
end Go.Pv
