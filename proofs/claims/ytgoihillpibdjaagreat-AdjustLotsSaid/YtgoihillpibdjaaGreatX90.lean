import Derived.Test.YtgoihillpibdjaaGreatPvAM
import Derived.Test.YtgoihillpibdjaaGreatPwI
import Derived.Test.YtgoihillpibdjaaGreatProg
set_option linter.unusedVariables false
set_option linter.unusedSimpArgs false
namespace Go.Pv
open Go.Proofs
theorem mixed:Tryz.prog.follows .mixedOrders=true:=by kernel_rfl
set_option maxRecDepth 100000
set_option maxHeartbeats 4000000
structure fG where
  gD:Int
  gP:Int
  cB:List Int
  Methods:List (List Int)
  gB:List (List Int)
  deriving DecidableEq,Inhabited
@[reducible] def fG.av (x:fG):List AV:=[int x.gD,int x.gP,aN 1 fI x.cB,aN 1 (fL 1 fI) x.Methods,aN 1 (fL 1 fI) x.gB]
theorem fG.gJ (x:fG):∀ a∈x.av,PV a:=by
  intro a ha;simp only [fG.av,List.mem_cons,List.not_mem_nil,or_false] at ha
  rcases ha with rfl | rfl | rfl | rfl | rfl
  · exact fE x.gD
  · exact fE x.gP
  · exact (l8 rR) x.cB
  · exact (l8 (EH rR)) x.Methods
  · exact (l8 (EH rR)) x.gB
structure aB where
  aI:Int
  Value:Int
  bN:Int
  deriving DecidableEq,Inhabited
@[reducible] def aB.av (x:aB):List AV:=[int x.aI,int x.Value,int x.bN]
theorem aB.gJ (x:aB):∀ a∈x.av,PV a:=by
  intro a ha;simp only [aB.av,List.mem_cons,List.not_mem_nil,or_false] at ha
  rcases ha with rfl | rfl | rfl
  · exact fE x.aI
  · exact fE x.Value
  · exact fE x.bN
structure kJ where
  a0:Int
  a1:Int
  a2:Int
  deriving DecidableEq,Inhabited
@[reducible] def kJ.av (x:kJ):List AV:=[int x.a0,int x.a1,int x.a2]
theorem kJ.gJ (x:kJ):∀ a∈x.av,PV a:=by
  intro a ha;simp only [kJ.av,List.mem_cons,List.not_mem_nil,or_false] at ha
  rcases ha with rfl | rfl | rfl
  · exact fE x.a0
  · exact fE x.a1
  · exact fE x.a2
structure aQ where
  aG:List aB
  bH:kJ
  deriving DecidableEq,Inhabited
@[reducible] def aQ.av (x:aQ):List AV:=[aN 3 aB.av x.aG,int x.bH.a0,int x.bH.a1,int x.bH.a2]
theorem aQ.gJ (x:aQ):∀ a∈x.av,PV a:=by
  intro a ha;simp only [aQ.av,List.mem_cons,List.not_mem_nil,or_false] at ha
  rcases ha with rfl | rfl | rfl | rfl
  · exact (l8 aB.gJ) x.aG
  · exact fE x.bH.a0
  · exact fE x.bH.a1
  · exact fE x.bH.a2
structure cK where
  Open:Int
  jC:Int
  jE:Int
  jD:Int
  jB:Int
  iZ:Int
  jG:Int
  iX:Int
  iV:Int
  jF:Int
  jH:Int
  deriving DecidableEq,Inhabited
@[reducible] def cK.av (x:cK):List AV:=[int x.Open,int x.jC,int x.jE,int x.jD,int x.jB,int x.iZ,int x.jG,int x.iX,int x.iV,int x.jF,int x.jH]
theorem cK.gJ (x:cK):∀ a∈x.av,PV a:=by
  intro a ha;simp only [cK.av,List.mem_cons,List.not_mem_nil,or_false] at ha
  rcases ha with rfl | rfl | rfl | rfl | rfl | rfl | rfl | rfl | rfl | rfl | rfl
  · exact fE x.Open
  · exact fE x.jC
  · exact fE x.jE
  · exact fE x.jD
  · exact fE x.jB
  · exact fE x.iZ
  · exact fE x.jG
  · exact fE x.iX
  · exact fE x.iV
  · exact fE x.jF
  · exact fE x.jH
structure aP where
  fO:Int
  Closed:Bool
  bS:List aQ
  dK:List Int
  dH:List cK
  fZ:List Int
  Down:List Int
  fP:List aP
  deriving Inhabited
mutual
def aP.av:aP->List AV
  | ⟨fO,Closed,bS,dK,dH,fZ,Down,fP⟩=>[int fO,bD Closed,aN 4 aQ.av bS,aN 1 fI dK,aN 11 cK.av dH,aN 1 fI fZ,aN 1 fI Down,.list 8 (aP.wQ fP)]
def aP.wQ:List aP->List (List AV)
  | []=>[]
  | x :: r=>aP.av x :: aP.wQ r
end
theorem aP.aJ1 (l:List aP):aP.wQ l=l.map aP.av:=by
  induction l with
  | nil=>unfold aP.wQ;rfl
  | cons x r ih=>unfold aP.wQ;rw [ih];rfl
@[reducible] def gE (x:aP):List AV:=[int x.fO,bD x.Closed,aN 4 aQ.av x.bS,aN 1 fI x.dK,aN 11 cK.av x.dH,aN 1 fI x.fZ,aN 1 fI x.Down,aN 8 aP.av x.fP]
theorem aP.eP (x:aP):aP.av x=[int x.fO,bD x.Closed,aN 4 aQ.av x.bS,aN 1 fI x.dK,aN 11 cK.av x.dH,aN 1 fI x.fZ,aN 1 fI x.Down,aN 8 aP.av x.fP]:=by
  cases x;unfold aP.av;rw [aP.aJ1]
theorem aP.one (x:aP):jO (aP.av x)=true:=by rw [aP.eP];rfl
mutual
theorem aP.gJ:∀ (x:aP),∀ a∈x.av,PV a
  | ⟨fO,Closed,bS,dK,dH,fZ,Down,fP⟩=>by
    intro a ha;unfold aP.av at ha;simp only [List.mem_cons,List.not_mem_nil,or_false] at ha
    rcases ha with rfl | rfl | rfl | rfl | rfl | rfl | rfl | rfl
    · exact fE fO
    · exact K9 Closed
    · exact (l8 aQ.gJ) bS
    · exact (l8 rR) dK
    · exact (l8 cK.gJ) dH
    · exact (l8 rR) fZ
    · exact (l8 rR) Down
    · exact .list (λr hr=>aP.ZW fP r hr)
theorem aP.ZW:∀ (l:List aP),∀ r∈aP.wQ l,∀ a∈r,PV a
  | []=>by intro r hr;unfold aP.wQ at hr;cases hr
  | x :: l=>by
    intro r hr;unfold aP.wQ at hr
    rcases List.mem_cons.1 hr with e | h
    · rw [e];exact aP.gJ x
    · exact aP.ZW l r h
end
structure eU where
  fT:Int
  Item:Int
  Loc:Int
  aI:Int
  Value:Int
  Open:Int
  jR:Int
  iP:Int
  deriving DecidableEq,Inhabited
@[reducible] def eU.av (x:eU):List AV:=[int x.fT,int x.Item,int x.Loc,int x.aI,int x.Value,int x.Open,int x.jR,int x.iP]
theorem eU.gJ (x:eU):∀ a∈x.av,PV a:=by
  intro a ha;simp only [eU.av,List.mem_cons,List.not_mem_nil,or_false] at ha
  rcases ha with rfl | rfl | rfl | rfl | rfl | rfl | rfl | rfl
  · exact fE x.fT
  · exact fE x.Item
  · exact fE x.Loc
  · exact fE x.aI
  · exact fE x.Value
  · exact fE x.Open
  · exact fE x.jR
  · exact fE x.iP
theorem eU.eqv (x y:eU):(decide (x.fT=y.fT) && (decide (x.Item=y.Item) && (decide (x.Loc=y.Loc) && (decide (x.aI=y.aI) && (decide (x.Value=y.Value) && (decide (x.Open=y.Open) && (decide (x.jR=y.jR) && (decide (x.iP=y.iP) && true))))))))=decide (x=y):=by
  cases x;cases y;rw [Bool.eq_iff_iff];simp only [Bool.and_eq_true,decide_eq_true_eq,eU.mk.injEq,and_true]
structure eH where
  fT:Int
  Item:Int
  Loc:Int
  aI:Int
  iP:Int
  qH:Int
  bN:Int
  nP:Int
  pM:Bool
  deriving DecidableEq,Inhabited
@[reducible] def eH.av (x:eH):List AV:=[int x.fT,int x.Item,int x.Loc,int x.aI,int x.iP,int x.qH,int x.bN,int x.nP,bD x.pM]
theorem eH.gJ (x:eH):∀ a∈x.av,PV a:=by
  intro a ha;simp only [eH.av,List.mem_cons,List.not_mem_nil,or_false] at ha
  rcases ha with rfl | rfl | rfl | rfl | rfl | rfl | rfl | rfl | rfl
  · exact fE x.fT
  · exact fE x.Item
  · exact fE x.Loc
  · exact fE x.aI
  · exact fE x.iP
  · exact fE x.qH
  · exact fE x.bN
  · exact fE x.nP
  · exact K9 x.pM
theorem eH.eqv (x y:eH):(decide (x.fT=y.fT) && (decide (x.Item=y.Item) && (decide (x.Loc=y.Loc) && (decide (x.aI=y.aI) && (decide (x.iP=y.iP) && (decide (x.qH=y.qH) && (decide (x.bN=y.bN) && (decide (x.nP=y.nP) && (decide (x.pM=y.pM) && true)))))))))=decide (x=y):=by
  cases x;cases y;rw [Bool.eq_iff_iff];simp only [Bool.and_eq_true,decide_eq_true_eq,eH.mk.injEq,and_true]
structure fU where
  sW:Int
  To:Int
  Item:Int
  aI:Int
  Value:Int
  bN:Int
  deriving DecidableEq,Inhabited
@[reducible] def fU.av (x:fU):List AV:=[int x.sW,int x.To,int x.Item,int x.aI,int x.Value,int x.bN]
theorem fU.gJ (x:fU):∀ a∈x.av,PV a:=by
  intro a ha;simp only [fU.av,List.mem_cons,List.not_mem_nil,or_false] at ha
  rcases ha with rfl | rfl | rfl | rfl | rfl | rfl
  · exact fE x.sW
  · exact fE x.To
  · exact fE x.Item
  · exact fE x.aI
  · exact fE x.Value
  · exact fE x.bN
theorem fU.eqv (x y:fU):(decide (x.sW=y.sW) && (decide (x.To=y.To) && (decide (x.Item=y.Item) && (decide (x.aI=y.aI) && (decide (x.Value=y.Value) && (decide (x.bN=y.bN) && true))))))=decide (x=y):=by
  cases x;cases y;rw [Bool.eq_iff_iff];simp only [Bool.and_eq_true,decide_eq_true_eq,fU.mk.injEq,and_true]
structure aA where
  bJ:fG
  bC:List aP
  cZ:List eU
  dY:List eH
  dJ:List fU
  Done:Int
  deriving Inhabited
@[reducible] def aA.av (x:aA):List AV:=[int x.bJ.gD,int x.bJ.gP,aN 1 fI x.bJ.cB,aN 1 (fL 1 fI) x.bJ.Methods,aN 1 (fL 1 fI) x.bJ.gB,aN 8 aP.av x.bC,aN 8 eU.av x.cZ,aN 9 eH.av x.dY,aN 6 fU.av x.dJ,int x.Done]
theorem aA.gJ (x:aA):∀ a∈x.av,PV a:=by
  intro a ha;simp only [aA.av,List.mem_cons,List.not_mem_nil,or_false] at ha
  rcases ha with rfl | rfl | rfl | rfl | rfl | rfl | rfl | rfl | rfl | rfl
  · exact fE x.bJ.gD
  · exact fE x.bJ.gP
  · exact (l8 rR) x.bJ.cB
  · exact (l8 (EH rR)) x.bJ.Methods
  · exact (l8 (EH rR)) x.bJ.gB
  · exact (l8 aP.gJ) x.bC
  · exact (l8 eU.gJ) x.cZ
  · exact (l8 eH.gJ) x.dY
  · exact (l8 fU.gJ) x.dJ
  · exact fE x.Done
structure bM where
  Kind:Int
  E:Int
  Item:Int
  Loc:Int
  To:Int
  aI:Int
  bO:Int
  Ref:Int
  eY:List Int
  deriving DecidableEq,Inhabited
@[reducible] def bM.av (x:bM):List AV:=[int x.Kind,int x.E,int x.Item,int x.Loc,int x.To,int x.aI,int x.bO,int x.Ref,aN 1 fI x.eY]
theorem bM.gJ (x:bM):∀ a∈x.av,PV a:=by
  intro a ha;simp only [bM.av,List.mem_cons,List.not_mem_nil,or_false] at ha
  rcases ha with rfl | rfl | rfl | rfl | rfl | rfl | rfl | rfl | rfl
  · exact fE x.Kind
  · exact fE x.E
  · exact fE x.Item
  · exact fE x.Loc
  · exact fE x.To
  · exact fE x.aI
  · exact fE x.bO
  · exact fE x.Ref
  · exact (l8 rR) x.eY
structure qN where
  a0:aB
  a1:aB
  a2:aB
  deriving DecidableEq,Inhabited
@[reducible] def qN.av (x:qN):List AV:=[int x.a0.aI,int x.a0.Value,int x.a0.bN,int x.a1.aI,int x.a1.Value,int x.a1.bN,int x.a2.aI,int x.a2.Value,int x.a2.bN]
theorem qN.gJ (x:qN):∀ a∈x.av,PV a:=by
  intro a ha;simp only [qN.av,List.mem_cons,List.not_mem_nil,or_false] at ha
  rcases ha with rfl | rfl | rfl | rfl | rfl | rfl | rfl | rfl | rfl
  · exact fE x.a0.aI
  · exact fE x.a0.Value
  · exact fE x.a0.bN
  · exact fE x.a1.aI
  · exact fE x.a1.Value
  · exact fE x.a1.bN
  · exact fE x.a2.aI
  · exact fE x.a2.Value
  · exact fE x.a2.bN
structure aS where
  dM:Int
  bO:Int
  deriving DecidableEq,Inhabited
@[reducible] def aS.av (x:aS):List AV:=[int x.dM,int x.bO]
theorem aS.gJ (x:aS):∀ a∈x.av,PV a:=by
  intro a ha;simp only [aS.av,List.mem_cons,List.not_mem_nil,or_false] at ha
  rcases ha with rfl | rfl
  · exact fE x.dM
  · exact fE x.bO
structure kH where
  a0:Int
  a1:Int
  a2:Int
  a3:Int
  a4:Int
  a5:Int
  a6:Int
  a7:Int
  a8:Int
  a9:Int
  mF:Int
  deriving DecidableEq,Inhabited
@[reducible] def kH.av (x:kH):List AV:=[int x.a0,int x.a1,int x.a2,int x.a3,int x.a4,int x.a5,int x.a6,int x.a7,int x.a8,int x.a9,int x.mF]
theorem kH.gJ (x:kH):∀ a∈x.av,PV a:=by
  intro a ha;simp only [kH.av,List.mem_cons,List.not_mem_nil,or_false] at ha
  rcases ha with rfl | rfl | rfl | rfl | rfl | rfl | rfl | rfl | rfl | rfl | rfl
  · exact fE x.a0
  · exact fE x.a1
  · exact fE x.a2
  · exact fE x.a3
  · exact fE x.a4
  · exact fE x.a5
  · exact fE x.a6
  · exact fE x.a7
  · exact fE x.a8
  · exact fE x.a9
  · exact fE x.mF
theorem kH.eqv (x y:kH):(decide (x.a0=y.a0) && (decide (x.a1=y.a1) && (decide (x.a2=y.a2) && (decide (x.a3=y.a3) && (decide (x.a4=y.a4) && (decide (x.a5=y.a5) && (decide (x.a6=y.a6) && (decide (x.a7=y.a7) && (decide (x.a8=y.a8) && (decide (x.a9=y.a9) && (decide (x.mF=y.mF) && true)))))))))))=decide (x=y):=by
  cases x;cases y;rw [Bool.eq_iff_iff];simp only [Bool.and_eq_true,decide_eq_true_eq,kH.mk.injEq,and_true]
structure BQ where
  deriving DecidableEq,Inhabited
@[reducible] def BQ.av (x:BQ):List AV:=[]
theorem BQ.gJ (x:BQ):∀ a∈x.av,PV a:=by
  intro a ha;cases ha
structure zW where
  deriving DecidableEq,Inhabited
@[reducible] def zW.av (x:zW):List AV:=[]
theorem zW.gJ (x:zW):∀ a∈x.av,PV a:=by
  intro a ha;cases ha
structure CK where
  deriving DecidableEq,Inhabited
@[reducible] def CK.av (x:CK):List AV:=[]
theorem CK.gJ (x:CK):∀ a∈x.av,PV a:=by
  intro a ha;cases ha
structure zF where
  cost:Int
  deriving DecidableEq,Inhabited
@[reducible] def zF.av (x:zF):List AV:=[int x.cost]
theorem zF.gJ (x:zF):∀ a∈x.av,PV a:=by
  intro a ha;simp only [zF.av,List.mem_cons,List.not_mem_nil,or_false] at ha
  subst ha;exact fE x.cost
theorem gI:gW Tryz.prog 3=some (1,false):=by kernel_rfl
theorem sh4:gW Tryz.prog 4=some (1,false):=by kernel_rfl
theorem oJ:gW Tryz.prog 22=some (1,false):=by kernel_rfl
theorem U5:gW Tryz.prog 27=some (1,false):=by kernel_rfl
theorem DK:gW Tryz.prog 32=some (10,true):=by kernel_rfl
theorem rZ:gW Tryz.prog 57=some (1,false):=by kernel_rfl
theorem FO:gW Tryz.prog 58=some (1,false):=by kernel_rfl
theorem nY:gW Tryz.prog 60=some (8,true):=by kernel_rfl
theorem KZ:gW Tryz.prog 83=some (9,true):=by kernel_rfl
theorem lG:gW Tryz.prog 86=some (3,true):=by kernel_rfl
theorem aGJ:gW Tryz.prog 89=some (11,true):=by kernel_rfl
theorem kK:gW Tryz.prog 95=some (2,true):=by kernel_rfl
theorem aU1:gW Tryz.prog 104=some (1,false):=by kernel_rfl
theorem xB:gW Tryz.prog 107=some (4,true):=by kernel_rfl
theorem xU:gW Tryz.prog 154=some (1,false):=by kernel_rfl
theorem rX:gW Tryz.prog 208=some (1,false):=by kernel_rfl
theorem TW:gW Tryz.prog 213=some (2,true):=by kernel_rfl
theorem SL:lD Tryz.prog 107=some 48:=by kernel_rfl
theorem P7:lD Tryz.prog 22=some 24:=by kernel_rfl
theorem nX:lD Tryz.prog 3=some 8:=by kernel_rfl
theorem IE:lD Tryz.prog 60=some 160:=by kernel_rfl
theorem aXT:lD Tryz.prog 83=some 72:=by kernel_rfl
theorem aDO:lD Tryz.prog 86=some 24:=by kernel_rfl
theorem VI:lD Tryz.prog 89=some 88:=by kernel_rfl
theorem TP:lD Tryz.prog 95=some 16:=by kernel_rfl
theorem R9:kG Tryz.prog 107=some (4,[.slice none 0 0,.int .i64 0,.int .i64 0,.int .i64 0]):=by kernel_rfl
theorem rF:kG Tryz.prog 208=some (1,[.pointer none]):=by kernel_rfl
theorem aKC:kG Tryz.prog 213=some (2,[.pointer none,.slice none 0 0]):=by kernel_rfl
theorem FP:kG Tryz.prog 22=some (1,[.slice none 0 0]):=by kernel_rfl
theorem kE:kG Tryz.prog 3=some (1,[.int .i64 0]):=by kernel_rfl
theorem CJ:kG Tryz.prog 60=some (8,[.int .i64 0,.bool false,.slice none 0 0,.slice none 0 0,.slice none 0 0,.slice none 0 0,.slice none 0 0,.slice none 0 0]):=by kernel_rfl
theorem aQD:kG Tryz.prog 83=some (9,[.int .i64 0,.int .i64 0,.int .i64 0,.int .i64 0,.int .i64 0,.int .i64 0,.int .i64 0,.int .i64 0,.bool false]):=by kernel_rfl
theorem VC:kG Tryz.prog 86=some (3,[.int .i64 0,.int .i64 0,.int .i64 0]):=by kernel_rfl
theorem TU:kG Tryz.prog 89=some (11,[.int .i64 0,.int .i64 0,.int .i64 0,.int .i64 0,.int .i64 0,.int .i64 0,.int .i64 0,.int .i64 0,.int .i64 0,.int .i64 0,.int .i64 0]):=by kernel_rfl
theorem xA:kG Tryz.prog 95=some (2,[.int .i64 0,.int .i64 0]):=by kernel_rfl
theorem c3:Tryz.prog.cellsOf 3=1:=by kernel_rfl
theorem aH5:bP Tryz.prog 10=true:=by kernel_rfl
theorem aBC:bP Tryz.prog 100=true:=by kernel_rfl
theorem DW:bP Tryz.prog 101=true:=by kernel_rfl
theorem X5:bP Tryz.prog 102=true:=by kernel_rfl
theorem aB3:bP Tryz.prog 103=true:=by kernel_rfl
theorem J5:bP Tryz.prog 104=true:=by kernel_rfl
theorem zX:bP Tryz.prog 105=true:=by kernel_rfl
theorem IY:bP Tryz.prog 106=true:=by kernel_rfl
theorem aJO:bP Tryz.prog 107=true:=by kernel_rfl
theorem aZ2:bP Tryz.prog 108=true:=by kernel_rfl
theorem ZK:bP Tryz.prog 109=true:=by kernel_rfl
theorem KS:bP Tryz.prog 11=true:=by kernel_rfl
theorem aE7:bP Tryz.prog 110=true:=by kernel_rfl
theorem aPC:bP Tryz.prog 111=true:=by kernel_rfl
theorem wI:bP Tryz.prog 112=true:=by kernel_rfl
theorem aXQ:bP Tryz.prog 113=true:=by kernel_rfl
theorem aW0:bP Tryz.prog 114=true:=by kernel_rfl
theorem aQU:bP Tryz.prog 115=true:=by kernel_rfl
theorem RP:bP Tryz.prog 116=true:=by kernel_rfl
theorem yL:bP Tryz.prog 117=true:=by kernel_rfl
theorem aC9:bP Tryz.prog 118=true:=by kernel_rfl
theorem SN:bP Tryz.prog 119=true:=by kernel_rfl
theorem aHS:bP Tryz.prog 12=true:=by kernel_rfl
theorem sF:bP Tryz.prog 120=true:=by kernel_rfl
theorem T8:bP Tryz.prog 121=true:=by kernel_rfl
theorem aSQ:bP Tryz.prog 122=true:=by kernel_rfl
theorem AT:bP Tryz.prog 123=true:=by kernel_rfl
theorem aOJ:bP Tryz.prog 124=true:=by kernel_rfl
theorem aIX:bP Tryz.prog 125=true:=by kernel_rfl
theorem aWA:bP Tryz.prog 126=true:=by kernel_rfl
theorem aX3:bP Tryz.prog 127=true:=by kernel_rfl
theorem aUC:bP Tryz.prog 128=true:=by kernel_rfl
theorem aZJ:bP Tryz.prog 129=true:=by kernel_rfl
theorem FH:bP Tryz.prog 13=true:=by kernel_rfl
theorem RJ:bP Tryz.prog 130=true:=by kernel_rfl
theorem aQL:bP Tryz.prog 131=true:=by kernel_rfl
theorem aRL:bP Tryz.prog 132=true:=by kernel_rfl
theorem aUT:bP Tryz.prog 133=true:=by kernel_rfl
theorem aRH:bP Tryz.prog 134=true:=by kernel_rfl
theorem VE:bP Tryz.prog 135=true:=by kernel_rfl
theorem aYO:bP Tryz.prog 136=true:=by kernel_rfl
theorem aDA:bP Tryz.prog 137=true:=by kernel_rfl
theorem aUO:bP Tryz.prog 138=true:=by kernel_rfl
theorem aY3:bP Tryz.prog 139=true:=by kernel_rfl
theorem IF:bP Tryz.prog 14=true:=by kernel_rfl
theorem AP:bP Tryz.prog 140=true:=by kernel_rfl
theorem TE:bP Tryz.prog 141=true:=by kernel_rfl
theorem KL:bP Tryz.prog 142=true:=by kernel_rfl
theorem aXS:bP Tryz.prog 143=true:=by kernel_rfl
theorem aN2:bP Tryz.prog 144=true:=by kernel_rfl
theorem aYY:bP Tryz.prog 145=true:=by kernel_rfl
theorem aN3:bP Tryz.prog 146=true:=by kernel_rfl
theorem aO9:bP Tryz.prog 147=true:=by kernel_rfl
theorem UO:bP Tryz.prog 148=true:=by kernel_rfl
theorem TV:bP Tryz.prog 149=true:=by kernel_rfl
theorem aEJ:bP Tryz.prog 15=true:=by kernel_rfl
theorem aVH:bP Tryz.prog 150=true:=by kernel_rfl
theorem RS:bP Tryz.prog 151=true:=by kernel_rfl
theorem aWW:bP Tryz.prog 152=true:=by kernel_rfl
theorem aS9:bP Tryz.prog 153=true:=by kernel_rfl
theorem aIO:bP Tryz.prog 154=true:=by kernel_rfl
theorem aXC:bP Tryz.prog 155=true:=by kernel_rfl
theorem aX4:bP Tryz.prog 156=true:=by kernel_rfl
theorem aBP:bP Tryz.prog 157=true:=by kernel_rfl
theorem aLB:bP Tryz.prog 158=true:=by kernel_rfl
theorem aTG:bP Tryz.prog 159=true:=by kernel_rfl
theorem aVX:bP Tryz.prog 16=true:=by kernel_rfl
theorem aVW:bP Tryz.prog 160=true:=by kernel_rfl
theorem JV:bP Tryz.prog 161=true:=by kernel_rfl
theorem aKR:bP Tryz.prog 162=true:=by kernel_rfl
theorem WW:bP Tryz.prog 163=true:=by kernel_rfl
theorem tH:bP Tryz.prog 164=true:=by kernel_rfl
theorem YP:bP Tryz.prog 165=true:=by kernel_rfl
theorem aBU:bP Tryz.prog 166=true:=by kernel_rfl
theorem aX1:bP Tryz.prog 167=true:=by kernel_rfl
theorem aRM:bP Tryz.prog 168=true:=by kernel_rfl
theorem aED:bP Tryz.prog 169=true:=by kernel_rfl
theorem aZQ:bP Tryz.prog 17=true:=by kernel_rfl
theorem oK:bP Tryz.prog 170=true:=by kernel_rfl
theorem MR:bP Tryz.prog 171=true:=by kernel_rfl
theorem aP2:bP Tryz.prog 172=true:=by kernel_rfl
theorem IK:bP Tryz.prog 173=true:=by kernel_rfl
theorem aB5:bP Tryz.prog 174=true:=by kernel_rfl
theorem aO0:bP Tryz.prog 175=true:=by kernel_rfl
theorem aT9:bP Tryz.prog 176=true:=by kernel_rfl
theorem sQ:bP Tryz.prog 177=true:=by kernel_rfl
theorem oW:bP Tryz.prog 178=true:=by kernel_rfl
theorem aBK:bP Tryz.prog 179=true:=by kernel_rfl
theorem aVS:bP Tryz.prog 18=true:=by kernel_rfl
theorem vM:bP Tryz.prog 180=true:=by kernel_rfl
theorem aKX:bP Tryz.prog 181=true:=by kernel_rfl
theorem yG:bP Tryz.prog 182=true:=by kernel_rfl
theorem GA:bP Tryz.prog 183=true:=by kernel_rfl
theorem aQ3:bP Tryz.prog 184=true:=by kernel_rfl
theorem XV:bP Tryz.prog 185=true:=by kernel_rfl
theorem aTZ:bP Tryz.prog 186=true:=by kernel_rfl
theorem aBT:bP Tryz.prog 187=true:=by kernel_rfl
theorem aGF:bP Tryz.prog 188=true:=by kernel_rfl
theorem ZD:bP Tryz.prog 189=true:=by kernel_rfl
theorem aTB:bP Tryz.prog 19=true:=by kernel_rfl
theorem aWV:bP Tryz.prog 190=true:=by kernel_rfl
theorem aGR:bP Tryz.prog 191=true:=by kernel_rfl
theorem aSC:bP Tryz.prog 192=true:=by kernel_rfl
theorem aF8:bP Tryz.prog 193=true:=by kernel_rfl
theorem aRV:bP Tryz.prog 194=true:=by kernel_rfl
theorem aRU:bP Tryz.prog 195=true:=by kernel_rfl
theorem aW8:bP Tryz.prog 196=true:=by kernel_rfl
theorem LF:bP Tryz.prog 197=true:=by kernel_rfl
theorem aV5:bP Tryz.prog 198=true:=by kernel_rfl
theorem PS:bP Tryz.prog 199=true:=by kernel_rfl
theorem aO3:bP Tryz.prog 20=true:=by kernel_rfl
theorem aPF:bP Tryz.prog 200=true:=by kernel_rfl
theorem aRW:bP Tryz.prog 201=true:=by kernel_rfl
theorem aQZ:bP Tryz.prog 202=true:=by kernel_rfl
theorem aY6:bP Tryz.prog 203=true:=by kernel_rfl
theorem aJT:bP Tryz.prog 204=true:=by kernel_rfl
theorem aUU:bP Tryz.prog 205=true:=by kernel_rfl
theorem aCI:bP Tryz.prog 206=true:=by kernel_rfl
theorem aR1:bP Tryz.prog 207=true:=by kernel_rfl
theorem aUD:bP Tryz.prog 21=true:=by kernel_rfl
theorem QL:bP Tryz.prog 22=true:=by kernel_rfl
theorem aPX:bP Tryz.prog 226=true:=by kernel_rfl
theorem aQB:bP Tryz.prog 227=true:=by kernel_rfl
theorem aHW:bP Tryz.prog 228=true:=by kernel_rfl
theorem SF:bP Tryz.prog 229=true:=by kernel_rfl
theorem aBO:bP Tryz.prog 23=true:=by kernel_rfl
theorem aT6:bP Tryz.prog 230=true:=by kernel_rfl
theorem aHT:bP Tryz.prog 231=true:=by kernel_rfl
theorem M3:bP Tryz.prog 232=true:=by kernel_rfl
theorem aPZ:bP Tryz.prog 233=true:=by kernel_rfl
theorem aZG:bP Tryz.prog 234=true:=by kernel_rfl
theorem aWO:bP Tryz.prog 235=true:=by kernel_rfl
theorem aJ9:bP Tryz.prog 236=true:=by kernel_rfl
theorem aZC:bP Tryz.prog 237=true:=by kernel_rfl
theorem aQS:bP Tryz.prog 238=true:=by kernel_rfl
theorem TZ:bP Tryz.prog 239=true:=by kernel_rfl
theorem aCU:bP Tryz.prog 24=true:=by kernel_rfl
theorem PK:bP Tryz.prog 240=true:=by kernel_rfl
theorem I4:bP Tryz.prog 241=true:=by kernel_rfl
theorem aXR:bP Tryz.prog 242=true:=by kernel_rfl
theorem aVT:bP Tryz.prog 243=true:=by kernel_rfl
theorem aT0:bP Tryz.prog 244=true:=by kernel_rfl
theorem aW2:bP Tryz.prog 245=true:=by kernel_rfl
theorem aXA:bP Tryz.prog 246=true:=by kernel_rfl
theorem aTN:bP Tryz.prog 247=true:=by kernel_rfl
theorem aY7:bP Tryz.prog 248=true:=by kernel_rfl
theorem aM9:bP Tryz.prog 249=true:=by kernel_rfl
theorem aYF:bP Tryz.prog 25=true:=by kernel_rfl
theorem aTR:bP Tryz.prog 26=true:=by kernel_rfl
theorem aO1:bP Tryz.prog 27=true:=by kernel_rfl
theorem aW3:bP Tryz.prog 28=true:=by kernel_rfl
theorem G4:bP Tryz.prog 29=true:=by kernel_rfl
theorem nZ:bP Tryz.prog 30=true:=by kernel_rfl
theorem ZV:bP Tryz.prog 31=true:=by kernel_rfl
theorem aYI:bP Tryz.prog 32=true:=by kernel_rfl
theorem aW1:bP Tryz.prog 33=true:=by kernel_rfl
theorem CV:bP Tryz.prog 34=true:=by kernel_rfl
theorem ZQ:bP Tryz.prog 35=true:=by kernel_rfl
theorem aTQ:bP Tryz.prog 36=true:=by kernel_rfl
theorem a0A:bP Tryz.prog 37=true:=by kernel_rfl
theorem aZK:bP Tryz.prog 38=true:=by kernel_rfl
theorem aEM:bP Tryz.prog 39=true:=by kernel_rfl
theorem tN:bP Tryz.prog 40=true:=by kernel_rfl
theorem aTA:bP Tryz.prog 41=true:=by kernel_rfl
theorem aK8:bP Tryz.prog 42=true:=by kernel_rfl
theorem aNG:bP Tryz.prog 43=true:=by kernel_rfl
theorem a0K:bP Tryz.prog 44=true:=by kernel_rfl
theorem aXH:bP Tryz.prog 45=true:=by kernel_rfl
theorem aL7:bP Tryz.prog 46=true:=by kernel_rfl
theorem aY1:bP Tryz.prog 47=true:=by kernel_rfl
theorem aN7:bP Tryz.prog 48=true:=by kernel_rfl
theorem aK9:bP Tryz.prog 49=true:=by kernel_rfl
theorem aFR:bP Tryz.prog 5=true:=by kernel_rfl
theorem aTX:bP Tryz.prog 50=true:=by kernel_rfl
theorem aZD:bP Tryz.prog 51=true:=by kernel_rfl
theorem aNH:bP Tryz.prog 52=true:=by kernel_rfl
theorem a0L:bP Tryz.prog 53=true:=by kernel_rfl
theorem aU9:bP Tryz.prog 54=true:=by kernel_rfl
theorem zK:bP Tryz.prog 55=true:=by kernel_rfl
theorem N7:bP Tryz.prog 56=true:=by kernel_rfl
theorem aOR:bP Tryz.prog 57=true:=by kernel_rfl
theorem IV:bP Tryz.prog 58=true:=by kernel_rfl
theorem M6:bP Tryz.prog 59=true:=by kernel_rfl
theorem aBX:bP Tryz.prog 6=true:=by kernel_rfl
theorem QI:bP Tryz.prog 60=true:=by kernel_rfl
theorem KE:bP Tryz.prog 61=true:=by kernel_rfl
theorem UB:bP Tryz.prog 62=true:=by kernel_rfl
theorem P8:bP Tryz.prog 63=true:=by kernel_rfl
theorem FK:bP Tryz.prog 64=true:=by kernel_rfl
theorem pK:bP Tryz.prog 65=true:=by kernel_rfl
theorem vC:bP Tryz.prog 66=true:=by kernel_rfl
theorem aA5:bP Tryz.prog 67=true:=by kernel_rfl
theorem aR7:bP Tryz.prog 68=true:=by kernel_rfl
theorem DV:bP Tryz.prog 69=true:=by kernel_rfl
theorem aGB:bP Tryz.prog 7=true:=by kernel_rfl
theorem FB:bP Tryz.prog 70=true:=by kernel_rfl
theorem BA:bP Tryz.prog 71=true:=by kernel_rfl
theorem F8:bP Tryz.prog 72=true:=by kernel_rfl
theorem uQ:bP Tryz.prog 73=true:=by kernel_rfl
theorem aMC:bP Tryz.prog 74=true:=by kernel_rfl
theorem zZ:bP Tryz.prog 75=true:=by kernel_rfl
theorem xG:bP Tryz.prog 76=true:=by kernel_rfl
theorem aQH:bP Tryz.prog 77=true:=by kernel_rfl
theorem CY:bP Tryz.prog 78=true:=by kernel_rfl
theorem j6:bP Tryz.prog 79=true:=by kernel_rfl
theorem FI:bP Tryz.prog 8=true:=by kernel_rfl
theorem aZA:bP Tryz.prog 80=true:=by kernel_rfl
theorem aEL:bP Tryz.prog 81=true:=by kernel_rfl
theorem zV:bP Tryz.prog 82=true:=by kernel_rfl
theorem aKV:bP Tryz.prog 83=true:=by kernel_rfl
theorem sJ:bP Tryz.prog 84=true:=by kernel_rfl
theorem aL5:bP Tryz.prog 85=true:=by kernel_rfl
theorem aS3:bP Tryz.prog 86=true:=by kernel_rfl
theorem aNJ:bP Tryz.prog 87=true:=by kernel_rfl
theorem aLE:bP Tryz.prog 88=true:=by kernel_rfl
theorem aA2:bP Tryz.prog 89=true:=by kernel_rfl
theorem M5:bP Tryz.prog 9=true:=by kernel_rfl
theorem aYX:bP Tryz.prog 90=true:=by kernel_rfl
theorem aJ7:bP Tryz.prog 91=true:=by kernel_rfl
theorem aTS:bP Tryz.prog 92=true:=by kernel_rfl
theorem aTM:bP Tryz.prog 93=true:=by kernel_rfl
theorem aVQ:bP Tryz.prog 94=true:=by kernel_rfl
theorem TS:bP Tryz.prog 95=true:=by kernel_rfl
theorem D6:bP Tryz.prog 96=true:=by kernel_rfl
theorem rU:bP Tryz.prog 97=true:=by kernel_rfl
theorem TC:bP Tryz.prog 98=true:=by kernel_rfl
theorem aQ1:bP Tryz.prog 99=true:=by kernel_rfl
theorem aO6:CQ Tryz.prog 102=some [(3,0),(3,1),(3,2),(3,3),(3,4),(3,5)]:=by kernel_rfl
theorem aVC:CQ Tryz.prog 83=some [(3,0),(3,1),(3,2),(3,3),(3,4),(3,5),(3,6),(3,7),(4,8)]:=by kernel_rfl
theorem a0I:CQ Tryz.prog 99=some [(3,0),(3,1),(3,2),(3,3),(3,4),(3,5),(3,6),(3,7)]:=by kernel_rfl
theorem aN6:kY Tryz.prog 107 0=some 0:=by kernel_rfl
theorem aUW:kY Tryz.prog 60 0=some 0:=by kernel_rfl
theorem aXO:kY Tryz.prog 60 1=some 1:=by kernel_rfl
theorem rH:kY Tryz.prog 60 2=some 2:=by kernel_rfl
theorem O3:kY Tryz.prog 60 3=some 3:=by kernel_rfl
theorem FT:kY Tryz.prog 60 4=some 4:=by kernel_rfl
theorem aDW:kY Tryz.prog 60 5=some 5:=by kernel_rfl
theorem aFI:kY Tryz.prog 60 6=some 6:=by kernel_rfl
theorem YH:kY Tryz.prog 60 7=some 7:=by kernel_rfl
theorem aOB:kY Tryz.prog 83 5=some 5:=by kernel_rfl
theorem aTL:kY Tryz.prog 83 6=some 6:=by kernel_rfl
theorem NY:kY Tryz.prog 86 0=some 0:=by kernel_rfl
theorem yI:kY Tryz.prog 86 1=some 1:=by kernel_rfl
theorem JC:kY Tryz.prog 86 2=some 2:=by kernel_rfl
theorem aZ1:kY Tryz.prog 95 0=some 0:=by kernel_rfl
theorem aJB:kY Tryz.prog 95 1=some 1:=by kernel_rfl
theorem aP9:pE Tryz.prog 221 "purveyor/pool.in"=some 226:=by kernel_rfl
theorem aZL:pE Tryz.prog 221 "purveyor/pool.out"=some 227:=by kernel_rfl
theorem aK6:pE Tryz.prog 222 "purveyor/pool.in"=some 237:=by kernel_rfl
theorem aSS:pE Tryz.prog 222 "purveyor/pool.out"=some 238:=by kernel_rfl
theorem aOO:pE Tryz.prog 223 "purveyor/pool.in"=some 242:=by kernel_rfl
theorem aMY:pE Tryz.prog 223 "purveyor/pool.out"=some 243:=by kernel_rfl
theorem aQJ:pE Tryz.prog 225 "purveyor/pool.in"=some 246:=by kernel_rfl
theorem aJS:pE Tryz.prog 225 "purveyor/pool.out"=some 247:=by kernel_rfl
theorem aHM:zD Tryz.prog 32=some [(0,5),(5,1),(6,1),(7,1),(8,1),(9,1)]:=by kernel_rfl
theorem aWM:zD Tryz.prog 60=some [(0,1),(1,1),(2,1),(3,1),(4,1),(5,1),(6,1),(7,1)]:=by kernel_rfl
theorem NH:zD Tryz.prog 66=some [(0,1)]:=by kernel_rfl
theorem aYA:zeroOf Tryz.prog 102=some [.int .i64 0,.int .i64 0,.int .i64 0,.int .i64 0,.int .i64 0,.int .i64 0]:=by kernel_rfl
theorem z107:zeroOf Tryz.prog 107=some [.slice none 0 0,.int .i64 0,.int .i64 0,.int .i64 0]:=by kernel_rfl
theorem YK:zeroOf Tryz.prog 108=some [.int .i64 0,.int .i64 0,.int .i64 0,.int .i64 0,.int .i64 0,.int .i64 0,.int .i64 0,.int .i64 0,.int .i64 0,.int .i64 0,.int .i64 0]:=by kernel_rfl
theorem z127:zeroOf Tryz.prog 127=some [.int .i64 0,.int .i64 0,.int .i64 0,.int .i64 0,.int .i64 0,.int .i64 0,.int .i64 0,.int .i64 0,.int .i64 0]:=by kernel_rfl
theorem z173:zeroOf Tryz.prog 173=some [.int .i64 0,.int .i64 0,.slice none 0 0,.slice none 0 0,.slice none 0 0,.slice none 0 0,.slice none 0 0,.slice none 0 0,.slice none 0 0,.int .i64 0]:=by kernel_rfl
theorem aXU:zeroOf Tryz.prog 187=some [.int .i64 0,.int .i64 0,.int .i64 0,.int .i64 0,.int .i64 0,.int .i64 0,.int .i64 0,.int .i64 0,.int .i64 0,.int .i64 0,.int .i64 0,.int .i64 0,.int .i64 0,.int .i64 0,.int .i64 0,.int .i64 0,.int .i64 0]:=by kernel_rfl
theorem z213:zeroOf Tryz.prog 213=some [.pointer none,.slice none 0 0]:=by kernel_rfl
theorem aFC:zeroOf Tryz.prog 215=some [.int .u64 0,.int .u64 0,.int .u64 0,.int .u64 0]:=by kernel_rfl
theorem aSY:zeroOf Tryz.prog 221=some []:=by kernel_rfl
theorem z222:zeroOf Tryz.prog 222=some []:=by kernel_rfl
theorem aWX:zeroOf Tryz.prog 223=some []:=by kernel_rfl
theorem aPR:zeroOf Tryz.prog 225=some [.int .i64 0]:=by kernel_rfl
theorem z25:zeroOf Tryz.prog 25=some [.int .i64 0,.int .i64 0,.slice none 0 0,.slice none 0 0,.slice none 0 0]:=by kernel_rfl
theorem aZ9:zeroOf Tryz.prog 264=some [.nilFunc,.nilFunc,.nilFunc]:=by kernel_rfl
theorem z32:zeroOf Tryz.prog 32=some [.int .i64 0,.int .i64 0,.slice none 0 0,.slice none 0 0,.slice none 0 0,.slice none 0 0,.slice none 0 0,.slice none 0 0,.slice none 0 0,.int .i64 0]:=by kernel_rfl
theorem z35:zeroOf Tryz.prog 35=some [.int .i64 0,.int .i64 0,.int .i64 0,.int .i64 0,.int .i64 0,.int .i64 0,.int .i64 0,.int .i64 0,.slice none 0 0]:=by kernel_rfl
theorem z50:zeroOf Tryz.prog 50=some [.int .i64 0,.int .i64 0,.int .i64 0,.int .i64 0]:=by kernel_rfl
theorem z60:zeroOf Tryz.prog 60=some [.int .i64 0,.bool false,.slice none 0 0,.slice none 0 0,.slice none 0 0,.slice none 0 0,.slice none 0 0,.slice none 0 0]:=by kernel_rfl
theorem z63:zeroOf Tryz.prog 63=some [.slice none 0 0,.slice none 0 0,.slice none 0 0]:=by kernel_rfl
theorem z66:zeroOf Tryz.prog 66=some [.nilFunc]:=by kernel_rfl
theorem z72:zeroOf Tryz.prog 72=some [.int .i64 0,.int .i64 0,.int .i64 0,.int .i64 0,.int .i64 0,.int .i64 0,.int .i64 0,.int .i64 0,.int .i64 0,.int .i64 0,.int .i64 0,.int .i64 0]:=by kernel_rfl
theorem z83:zeroOf Tryz.prog 83=some [.int .i64 0,.int .i64 0,.int .i64 0,.int .i64 0,.int .i64 0,.int .i64 0,.int .i64 0,.int .i64 0,.bool false]:=by kernel_rfl
theorem z86:zeroOf Tryz.prog 86=some [.int .i64 0,.int .i64 0,.int .i64 0]:=by kernel_rfl
theorem z89:zeroOf Tryz.prog 89=some [.int .i64 0,.int .i64 0,.int .i64 0,.int .i64 0,.int .i64 0,.int .i64 0,.int .i64 0,.int .i64 0,.int .i64 0,.int .i64 0,.int .i64 0]:=by kernel_rfl
theorem z95:zeroOf Tryz.prog 95=some [.int .i64 0,.int .i64 0]:=by kernel_rfl
theorem z99:zeroOf Tryz.prog 99=some [.int .i64 0,.int .i64 0,.int .i64 0,.int .i64 0,.int .i64 0,.int .i64 0,.int .i64 0,.int .i64 0]:=by kernel_rfl
theorem aIF:(Tryz.prog.info? 66).bind (·.zero)=some (.agg #[.nilFunc]):=by kernel_rfl
theorem z3:zeroOf Tryz.prog 3=some [.int .i64 0]:=by kernel_rfl
theorem z22:zeroOf Tryz.prog 22=some [.slice none 0 0]:=by kernel_rfl
theorem z208:zeroOf Tryz.prog 208=some [.pointer none]:=by kernel_rfl
noncomputable section
def tb:gY:={ sh:=[(0,(1,false)),(3,(1,false)),(4,(1,false)),(22,(1,false)),(23,(1,false)),(25,(5,true)),(27,(1,false)),(28,(1,false)),(29,(1,false)),(30,(1,false)),(32,(10,true)),(35,(9,true)),(44,(1,false)),(50,(4,true)),(57,(1,false)),(58,(1,false)),(60,(8,true)),(66,(1,true)),(83,(9,true)),(86,(3,true)),(89,(11,true)),(95,(2,true)),(96,(1,false)),(99,(8,true)),(102,(6,true)),(104,(1,false)),(105,(3,true)),(107,(4,true)),(108,(11,true)),(127,(9,true)),(153,(1,false)),(154,(1,false)),(164,(1,false)),(173,(10,true)),(182,(1,false)),(208,(1,false)),(213,(2,true)),(215,(4,true)),(223,(0,true)),(231,(1,false)),(264,(3,true))],fo:=[((25,0),0),((25,1),1),((25,2),2),((25,3),3),((25,4),4),((32,0),0),((32,1),5),((32,2),6),((32,3),7),((32,4),8),((32,5),9),((35,0),0),((35,1),1),((35,2),2),((35,3),3),((35,4),4),((35,5),5),((35,6),6),((35,7),7),((35,8),8),((60,0),0),((60,1),1),((60,2),2),((60,3),3),((60,4),4),((60,5),5),((60,6),6),((60,7),7),((66,0),0),((83,0),0),((83,1),1),((83,2),2),((83,3),3),((83,4),4),((83,5),5),((83,6),6),((83,7),7),((83,8),8),((86,0),0),((86,1),1),((86,2),2),((89,0),0),((89,1),1),((89,2),2),((89,3),3),((89,4),4),((89,5),5),((89,6),6),((89,7),7),((89,8),8),((89,9),9),((89,10),10),((95,0),0),((95,1),1),((99,0),0),((99,1),1),((99,2),2),((99,3),3),((99,4),4),((99,5),5),((99,6),6),((99,7),7),((102,0),0),((102,1),1),((102,2),2),((102,3),3),((102,4),4),((102,5),5),((107,0),0),((107,1),1),((173,0),0),((213,0),0),((213,1),1),((225,0),0)],fp:=[((86,0),(0,3)),((86,1),(1,3)),((107,0),(0,104)),((264,0),(0,182)),((264,1),(1,164)),((264,2),(2,153))],ki:=[(3,.i64),(5,.u8),(154,.u64),(157,.u64)],se:=[(22,3),(23,22),(27,60),(28,99),(29,83),(30,102),(48,35),(57,107),(58,89),(96,95),(104,86),(209,208),(214,213)],bl:=[(25,[(0,1),(1,1),(2,1),(3,1),(4,1)]),(35,[(0,1),(1,1),(2,1),(3,1),(4,1),(5,1),(6,1),(7,1),(8,1)]),(83,[(0,1),(1,1),(2,1),(3,1),(4,1),(5,1),(6,1),(7,1),(8,1)]),(86,[(0,1),(1,1),(2,1)]),(89,[(0,1),(1,1),(2,1),(3,1),(4,1),(5,1),(6,1),(7,1),(8,1),(9,1),(10,1)]),(95,[(0,1),(1,1)]),(99,[(0,1),(1,1),(2,1),(3,1),(4,1),(5,1),(6,1),(7,1)]),(102,[(0,1),(1,1),(2,1),(3,1),(4,1),(5,1)]),(107,[(0,1),(1,3)]),(173,[(0,10)]),(213,[(0,1),(1,1)]),(221,[]),(222,[]),(223,[]),(225,[(0,1)]),(264,[(0,1),(1,1),(2,1)])],zs:=[(3,[.int .i64 0]),(22,[.slice none 0 0]),(25,[.int .i64 0,.int .i64 0,.slice none 0 0,.slice none 0 0,.slice none 0 0]),(32,[.int .i64 0,.int .i64 0,.slice none 0 0,.slice none 0 0,.slice none 0 0,.slice none 0 0,.slice none 0 0,.slice none 0 0,.slice none 0 0,.int .i64 0]),(35,[.int .i64 0,.int .i64 0,.int .i64 0,.int .i64 0,.int .i64 0,.int .i64 0,.int .i64 0,.int .i64 0,.slice none 0 0]),(50,[.int .i64 0,.int .i64 0,.int .i64 0,.int .i64 0]),(60,[.int .i64 0,.bool false,.slice none 0 0,.slice none 0 0,.slice none 0 0,.slice none 0 0,.slice none 0 0,.slice none 0 0]),(66,[.nilFunc]),(83,[.int .i64 0,.int .i64 0,.int .i64 0,.int .i64 0,.int .i64 0,.int .i64 0,.int .i64 0,.int .i64 0,.bool false]),(86,[.int .i64 0,.int .i64 0,.int .i64 0]),(89,[.int .i64 0,.int .i64 0,.int .i64 0,.int .i64 0,.int .i64 0,.int .i64 0,.int .i64 0,.int .i64 0,.int .i64 0,.int .i64 0,.int .i64 0]),(95,[.int .i64 0,.int .i64 0]),(99,[.int .i64 0,.int .i64 0,.int .i64 0,.int .i64 0,.int .i64 0,.int .i64 0,.int .i64 0,.int .i64 0]),(102,[.int .i64 0,.int .i64 0,.int .i64 0,.int .i64 0,.int .i64 0,.int .i64 0]),(107,[.slice none 0 0,.int .i64 0,.int .i64 0,.int .i64 0]),(108,[.int .i64 0,.int .i64 0,.int .i64 0,.int .i64 0,.int .i64 0,.int .i64 0,.int .i64 0,.int .i64 0,.int .i64 0,.int .i64 0,.int .i64 0]),(127,[.int .i64 0,.int .i64 0,.int .i64 0,.int .i64 0,.int .i64 0,.int .i64 0,.int .i64 0,.int .i64 0,.int .i64 0]),(173,[.int .i64 0,.int .i64 0,.slice none 0 0,.slice none 0 0,.slice none 0 0,.slice none 0 0,.slice none 0 0,.slice none 0 0,.slice none 0 0,.int .i64 0]),(187,[.int .i64 0,.int .i64 0,.int .i64 0,.int .i64 0,.int .i64 0,.int .i64 0,.int .i64 0,.int .i64 0,.int .i64 0,.int .i64 0,.int .i64 0,.int .i64 0,.int .i64 0,.int .i64 0,.int .i64 0,.int .i64 0,.int .i64 0]),(208,[.pointer none]),(213,[.pointer none,.slice none 0 0]),(215,[.int .u64 0,.int .u64 0,.int .u64 0,.int .u64 0]),(221,[]),(222,[]),(223,[]),(225,[.int .i64 0]),(264,[.nilFunc,.nilFunc,.nilFunc])],bz:=[(3,1),(22,1),(35,9),(60,8),(83,9),(86,3),(89,11),(95,2),(99,8),(102,6),(107,4),(208,1),(213,2)],bb:=[(3,8),(22,24),(35,88),(60,160),(83,72),(86,24),(89,88),(95,16),(99,64),(102,48),(107,48)],ar:=[(50,(4,3)),(105,(3,3)),(108,(11,3)),(127,(3,86)),(187,(17,3)),(215,(4,154))] }
theorem iL:fQ Tryz.prog tb:=⟨⟨by kernel_rfl,by kernel_rfl,by kernel_rfl⟩,by kernel_rfl,by kernel_rfl,by kernel_rfl,⟨z3,z22,z25,z32,z35,z50,z60,z66,z83,z86,z89,z95,z99,aYA,z107,YK,z127,z173,aXU,z208,z213,aFC,aSY,z222,aWX,aPR,aZ9,trivial⟩,by kernel_rfl,by kernel_rfl,by kernel_rfl⟩
abbrev WB (R:Type):=WT Tryz.prog (.b R)
abbrev PZ {B:Type} (o:Option B) (k:FuncId) (args:List AV) (V:B->AV):Prop:=PQ Tryz.prog o k args V
theorem pvA {p:Prop} (h:p:=by intro r;repeat' (first | exact fE _ | exact K9 _ | exact pvS _ | exact Y4 _ _ | exact aUJ | exact .agg (fG.gJ _) | exact .agg (aB.gJ _) | exact .agg (kJ.gJ _) | exact .agg (aQ.gJ _) | exact .agg (cK.gJ _) | exact (aP.eP _ ▸ PV.agg (aP.gJ _)) | exact .agg (eU.gJ _) | exact .agg (eH.gJ _) | exact .agg (fU.gJ _) | exact .agg (aA.gJ _) | exact .agg (bM.gJ _) | exact .agg (qN.gJ _) | exact .agg (aS.gJ _) | exact .agg (kH.gJ _) | exact .agg (BQ.gJ _) | exact .agg (zW.gJ _) | exact .agg (CK.gJ _) | exact .agg (zF.gJ _) | refine .bT ?_ | refine aY9 ?_ ?_ | refine l8 ?_ _ | exact rR | exact aSO | exact aWJ | exact aLF _ | exact fG.gJ | exact aB.gJ | exact kJ.gJ | exact aQ.gJ | exact cK.gJ | exact aP.gJ | exact eU.gJ | exact eH.gJ | exact fU.gJ | exact aA.gJ | exact bM.gJ | exact qN.gJ | exact aS.gJ | exact kH.gJ | exact BQ.gJ | exact zW.gJ | exact CK.gJ | exact zF.gJ | refine EH ?_)):p:=h
theorem wq {R:Type} {V:R->AV} {g:FuncId} {fn:Func} {ar:List AV} {t:WB R} (hf:Tryz.prog.funcs[g]?=some fn) (h:WP Tryz.prog tb 100000 ⟨fn.ntmps,false,[]⟩ t (.fn (JF tb fn.results.toList V) R8) (.c [C4 fn]) (λt=>ar[t]?) H0 []:=by exact au) (hpv:∀ a,PV (V a):=by exact pvA) (hb:fn.body=some (C4 fn):=by rfl) (hle:Nat.ble ar.length fn.ntmps=true:=by rfl):PZ t.run g ar V:=λ_ h0=>aI6 mixed iL V h0 hf hpv 100000 h hb hle
theorem wm {R:Type} {V:R->AV} {g:FuncId} {fn:Func} {ar:List AV} {t:WB R} (hf:Tryz.prog.funcs[g]?=some fn) (h:WP Tryz.prog tb 100000 ⟨fn.ntmps,false,[]⟩ t (.fn (JF tb fn.results.toList V) R8) (.c [C4 fn]) (λt=>ar[t]?) H0 []) (hpv:∀ a,PV (V a):=by exact pvA) (hb:fn.body=some (C4 fn):=by rfl) (hle:Nat.ble ar.length fn.ntmps=true:=by rfl):PZ t.run g ar V:=λ_ h0=>aI6 mixed iL V h0 hf hpv 100000 h hb hle
theorem aEA:uN Tryz.prog 103 22 1 (fL 1 fI):=yR Tryz.func103 aB3 Tryz.underlying23 FP P7
theorem L8:uN Tryz.prog 104 3 1 fI:=yR Tryz.func104 J5 Tryz.underlying22 kE nX
theorem CX:uN Tryz.prog 105 60 8 aP.av:=yR Tryz.func105 zX Tryz.underlying27 CJ IE
theorem K5:uN Tryz.prog 106 107 4 aQ.av:=yR Tryz.func106 IY Tryz.underlying57 R9 SL
theorem C6:uN Tryz.prog 140 86 3 aB.av:=yR Tryz.func140 AP Tryz.underlying104 VC aDO
theorem aGM:uN Tryz.prog 179 89 11 cK.av:=yR Tryz.func179 aBK Tryz.underlying58 TU VI
theorem aHF:uN Tryz.prog 189 95 2 aS.av:=yR Tryz.func189 ZD Tryz.underlying96 xA TP
theorem aZZ {p:Prop} (h:p:=by first | exact aEA | exact L8 | exact CX | exact K5 | exact C6 | exact aGM | exact aHF):p:=h
def aEQ (a1:Int) (a2:Int):WB (Int) :=
 .as (a2≠0) inferInstance<|.bl (a1.tmod a2:Int) λx4=>.gv 8<|.bB 10 (decide (x4<0)) λx5=>.jn 0 [4] [] [] (λ_ (a:Int)=>[(5,int a)]) (λ_ _=>[]) (.ifs [10] x5 (.bI 13 (aW (x4+a2)) λx6=>.ret x6) (.ret x4)) (λy0_1=>.ret ((y0_1:Int)))
def zL (a1:Int) (a2:Int):Option (Int):=(aEQ a1 a2).run
theorem I5 {a1 a2}:PZ (zL a1 a2) 14 [int a1,int a2] int:=wq Tryz.func14
end
end Go.Pv
