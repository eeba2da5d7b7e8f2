import Derived.Test.YtidcjedeacampaaGreatPvAM
import Derived.Test.YtidcjedeacampaaGreatPwG
import Derived.Test.YtidcjedeacampaaGreatProg
set_option linter.unusedVariables false
set_option linter.unusedSimpArgs false
namespace Go.Pv
open Go.Proofs
theorem mixed:Tryz.prog.follows .mixedOrders=true:=by kernel_rfl
set_option maxRecDepth 100000
set_option maxHeartbeats 4000000
structure fM where
  gG:Int
  gZ:Int
  bW:List Int
  Methods:List (List Int)
  gX:List (List Int)
  deriving DecidableEq,Inhabited
@[reducible] def fM.av (x:fM):List AV:=[int x.gG,int x.gZ,aH 1 fI x.bW,aH 1 (fL 1 fI) x.Methods,aH 1 (fL 1 fI) x.gX]
theorem fM.dR (x:fM):∀ a∈x.av,PV a:=by
  intro a ha;simp only [fM.av,List.mem_cons,List.not_mem_nil,or_false] at ha
  rcases ha with rfl | rfl | rfl | rfl | rfl
  · exact bQ x.gG
  · exact bQ x.gZ
  · exact (jD pN) x.bW
  · exact (jD (NK pN)) x.Methods
  · exact (jD (NK pN)) x.gX
structure aF where
  aT:Int
  Value:Int
  bO:Int
  deriving DecidableEq,Inhabited
@[reducible] def aF.av (x:aF):List AV:=[int x.aT,int x.Value,int x.bO]
theorem aF.dR (x:aF):∀ a∈x.av,PV a:=by
  intro a ha;simp only [aF.av,List.mem_cons,List.not_mem_nil,or_false] at ha
  rcases ha with rfl | rfl | rfl
  · exact bQ x.aT
  · exact bQ x.Value
  · exact bQ x.bO
structure l9 where
  a0:Int
  a1:Int
  a2:Int
  deriving DecidableEq,Inhabited
@[reducible] def l9.av (x:l9):List AV:=[int x.a0,int x.a1,int x.a2]
theorem l9.dR (x:l9):∀ a∈x.av,PV a:=by
  intro a ha;simp only [l9.av,List.mem_cons,List.not_mem_nil,or_false] at ha
  rcases ha with rfl | rfl | rfl
  · exact bQ x.a0
  · exact bQ x.a1
  · exact bQ x.a2
structure aS where
  aI:List aF
  bC:l9
  deriving DecidableEq,Inhabited
@[reducible] def aS.av (x:aS):List AV:=[aH 3 aF.av x.aI,int x.bC.a0,int x.bC.a1,int x.bC.a2]
theorem aS.dR (x:aS):∀ a∈x.av,PV a:=by
  intro a ha;simp only [aS.av,List.mem_cons,List.not_mem_nil,or_false] at ha
  rcases ha with rfl | rfl | rfl | rfl
  · exact (jD aF.dR) x.aI
  · exact bQ x.bC.a0
  · exact bQ x.bC.a1
  · exact bQ x.bC.a2
structure cB where
  Open:Int
  jH:Int
  jL:Int
  jJ:Int
  jK:Int
  jG:Int
  jN:Int
  jE:Int
  jF:Int
  jM:Int
  jI:Int
  deriving DecidableEq,Inhabited
@[reducible] def cB.av (x:cB):List AV:=[int x.Open,int x.jH,int x.jL,int x.jJ,int x.jK,int x.jG,int x.jN,int x.jE,int x.jF,int x.jM,int x.jI]
theorem cB.dR (x:cB):∀ a∈x.av,PV a:=by
  intro a ha;simp only [cB.av,List.mem_cons,List.not_mem_nil,or_false] at ha
  rcases ha with rfl | rfl | rfl | rfl | rfl | rfl | rfl | rfl | rfl | rfl | rfl
  · exact bQ x.Open
  · exact bQ x.jH
  · exact bQ x.jL
  · exact bQ x.jJ
  · exact bQ x.jK
  · exact bQ x.jG
  · exact bQ x.jN
  · exact bQ x.jE
  · exact bQ x.jF
  · exact bQ x.jM
  · exact bQ x.jI
structure aP where
  fQ:Int
  Closed:Bool
  bR:List aS
  dI:List Int
  dJ:List cB
  gJ:List Int
  Down:List Int
  fZ:List aP
  deriving Inhabited
mutual
def aP.av:aP->List AV
  | ⟨fQ,Closed,bR,dI,dJ,gJ,Down,fZ⟩=>[int fQ,aZ Closed,aH 4 aS.av bR,aH 1 fI dI,aH 11 cB.av dJ,aH 1 fI gJ,aH 1 fI Down,.list 8 (aP.xJ fZ)]
def aP.xJ:List aP->List (List AV)
  | []=>[]
  | x :: r=>aP.av x :: aP.xJ r
end
theorem aP.aKR (l:List aP):aP.xJ l=l.map aP.av:=by
  induction l with
  | nil=>unfold aP.xJ;rfl
  | cons x r ih=>unfold aP.xJ;rw [ih];rfl
@[reducible] def gE (x:aP):List AV:=[int x.fQ,aZ x.Closed,aH 4 aS.av x.bR,aH 1 fI x.dI,aH 11 cB.av x.dJ,aH 1 fI x.gJ,aH 1 fI x.Down,aH 8 aP.av x.fZ]
theorem aP.fB (x:aP):aP.av x=[int x.fQ,aZ x.Closed,aH 4 aS.av x.bR,aH 1 fI x.dI,aH 11 cB.av x.dJ,aH 1 fI x.gJ,aH 1 fI x.Down,aH 8 aP.av x.fZ]:=by
  cases x;unfold aP.av;rw [aP.aKR]
theorem aP.one (x:aP):kL (aP.av x)=true:=by rw [aP.fB];rfl
mutual
theorem aP.dR:∀ (x:aP),∀ a∈x.av,PV a
  | ⟨fQ,Closed,bR,dI,dJ,gJ,Down,fZ⟩=>by
    intro a ha;unfold aP.av at ha;simp only [List.mem_cons,List.not_mem_nil,or_false] at ha
    rcases ha with rfl | rfl | rfl | rfl | rfl | rfl | rfl | rfl
    · exact bQ fQ
    · exact gT Closed
    · exact (jD aS.dR) bR
    · exact (jD pN) dI
    · exact (jD cB.dR) dJ
    · exact (jD pN) gJ
    · exact (jD pN) Down
    · exact .list (λr hr=>aP.XF fZ r hr)
theorem aP.XF:∀ (l:List aP),∀ r∈aP.xJ l,∀ a∈r,PV a
  | []=>by intro r hr;unfold aP.xJ at hr;cases hr
  | x :: l=>by
    intro r hr;unfold aP.xJ at hr
    rcases List.mem_cons.1 hr with e | h
    · rw [e];exact aP.dR x
    · exact aP.XF l r h
end
structure dX where
  fU:Int
  Item:Int
  Loc:Int
  aT:Int
  Value:Int
  Open:Int
  jW:Int
  jB:Int
  deriving DecidableEq,Inhabited
@[reducible] def dX.av (x:dX):List AV:=[int x.fU,int x.Item,int x.Loc,int x.aT,int x.Value,int x.Open,int x.jW,int x.jB]
theorem dX.dR (x:dX):∀ a∈x.av,PV a:=by
  intro a ha;simp only [dX.av,List.mem_cons,List.not_mem_nil,or_false] at ha
  rcases ha with rfl | rfl | rfl | rfl | rfl | rfl | rfl | rfl
  · exact bQ x.fU
  · exact bQ x.Item
  · exact bQ x.Loc
  · exact bQ x.aT
  · exact bQ x.Value
  · exact bQ x.Open
  · exact bQ x.jW
  · exact bQ x.jB
theorem dX.eqv (x y:dX):(decide (x.fU=y.fU) && (decide (x.Item=y.Item) && (decide (x.Loc=y.Loc) && (decide (x.aT=y.aT) && (decide (x.Value=y.Value) && (decide (x.Open=y.Open) && (decide (x.jW=y.jW) && (decide (x.jB=y.jB) && true))))))))=decide (x=y):=by
  cases x;cases y;rw [Bool.eq_iff_iff];simp only [Bool.and_eq_true,decide_eq_true_eq,dX.mk.injEq,and_true]
structure fA where
  fU:Int
  Item:Int
  Loc:Int
  aT:Int
  jB:Int
  rD:Int
  bO:Int
  oP:Int
  qF:Bool
  deriving DecidableEq,Inhabited
@[reducible] def fA.av (x:fA):List AV:=[int x.fU,int x.Item,int x.Loc,int x.aT,int x.jB,int x.rD,int x.bO,int x.oP,aZ x.qF]
theorem fA.dR (x:fA):∀ a∈x.av,PV a:=by
  intro a ha;simp only [fA.av,List.mem_cons,List.not_mem_nil,or_false] at ha
  rcases ha with rfl | rfl | rfl | rfl | rfl | rfl | rfl | rfl | rfl
  · exact bQ x.fU
  · exact bQ x.Item
  · exact bQ x.Loc
  · exact bQ x.aT
  · exact bQ x.jB
  · exact bQ x.rD
  · exact bQ x.bO
  · exact bQ x.oP
  · exact gT x.qF
theorem fA.eqv (x y:fA):(decide (x.fU=y.fU) && (decide (x.Item=y.Item) && (decide (x.Loc=y.Loc) && (decide (x.aT=y.aT) && (decide (x.jB=y.jB) && (decide (x.rD=y.rD) && (decide (x.bO=y.bO) && (decide (x.oP=y.oP) && (decide (x.qF=y.qF) && true)))))))))=decide (x=y):=by
  cases x;cases y;rw [Bool.eq_iff_iff];simp only [Bool.and_eq_true,decide_eq_true_eq,fA.mk.injEq,and_true]
structure fP where
  uL:Int
  To:Int
  Item:Int
  aT:Int
  Value:Int
  bO:Int
  deriving DecidableEq,Inhabited
@[reducible] def fP.av (x:fP):List AV:=[int x.uL,int x.To,int x.Item,int x.aT,int x.Value,int x.bO]
theorem fP.dR (x:fP):∀ a∈x.av,PV a:=by
  intro a ha;simp only [fP.av,List.mem_cons,List.not_mem_nil,or_false] at ha
  rcases ha with rfl | rfl | rfl | rfl | rfl | rfl
  · exact bQ x.uL
  · exact bQ x.To
  · exact bQ x.Item
  · exact bQ x.aT
  · exact bQ x.Value
  · exact bQ x.bO
theorem fP.eqv (x y:fP):(decide (x.uL=y.uL) && (decide (x.To=y.To) && (decide (x.Item=y.Item) && (decide (x.aT=y.aT) && (decide (x.Value=y.Value) && (decide (x.bO=y.bO) && true))))))=decide (x=y):=by
  cases x;cases y;rw [Bool.eq_iff_iff];simp only [Bool.and_eq_true,decide_eq_true_eq,fP.mk.injEq,and_true]
structure aB where
  bF:fM
  bA:List aP
  bX:List dX
  dS:List fA
  dH:List fP
  Done:Int
  deriving Inhabited
@[reducible] def aB.av (x:aB):List AV:=[int x.bF.gG,int x.bF.gZ,aH 1 fI x.bF.bW,aH 1 (fL 1 fI) x.bF.Methods,aH 1 (fL 1 fI) x.bF.gX,aH 8 aP.av x.bA,aH 8 dX.av x.bX,aH 9 fA.av x.dS,aH 6 fP.av x.dH,int x.Done]
theorem aB.dR (x:aB):∀ a∈x.av,PV a:=by
  intro a ha;simp only [aB.av,List.mem_cons,List.not_mem_nil,or_false] at ha
  rcases ha with rfl | rfl | rfl | rfl | rfl | rfl | rfl | rfl | rfl | rfl
  · exact bQ x.bF.gG
  · exact bQ x.bF.gZ
  · exact (jD pN) x.bF.bW
  · exact (jD (NK pN)) x.bF.Methods
  · exact (jD (NK pN)) x.bF.gX
  · exact (jD aP.dR) x.bA
  · exact (jD dX.dR) x.bX
  · exact (jD fA.dR) x.dS
  · exact (jD fP.dR) x.dH
  · exact bQ x.Done
structure bJ where
  Kind:Int
  E:Int
  Item:Int
  Loc:Int
  To:Int
  aT:Int
  bM:Int
  Ref:Int
  fG:List Int
  deriving DecidableEq,Inhabited
@[reducible] def bJ.av (x:bJ):List AV:=[int x.Kind,int x.E,int x.Item,int x.Loc,int x.To,int x.aT,int x.bM,int x.Ref,aH 1 fI x.fG]
theorem bJ.dR (x:bJ):∀ a∈x.av,PV a:=by
  intro a ha;simp only [bJ.av,List.mem_cons,List.not_mem_nil,or_false] at ha
  rcases ha with rfl | rfl | rfl | rfl | rfl | rfl | rfl | rfl | rfl
  · exact bQ x.Kind
  · exact bQ x.E
  · exact bQ x.Item
  · exact bQ x.Loc
  · exact bQ x.To
  · exact bQ x.aT
  · exact bQ x.bM
  · exact bQ x.Ref
  · exact (jD pN) x.fG
structure qD where
  a0:aF
  a1:aF
  a2:aF
  deriving DecidableEq,Inhabited
@[reducible] def qD.av (x:qD):List AV:=[int x.a0.aT,int x.a0.Value,int x.a0.bO,int x.a1.aT,int x.a1.Value,int x.a1.bO,int x.a2.aT,int x.a2.Value,int x.a2.bO]
theorem qD.dR (x:qD):∀ a∈x.av,PV a:=by
  intro a ha;simp only [qD.av,List.mem_cons,List.not_mem_nil,or_false] at ha
  rcases ha with rfl | rfl | rfl | rfl | rfl | rfl | rfl | rfl | rfl
  · exact bQ x.a0.aT
  · exact bQ x.a0.Value
  · exact bQ x.a0.bO
  · exact bQ x.a1.aT
  · exact bQ x.a1.Value
  · exact bQ x.a1.bO
  · exact bQ x.a2.aT
  · exact bQ x.a2.Value
  · exact bQ x.a2.bO
structure aN where
  dL:Int
  bM:Int
  deriving DecidableEq,Inhabited
@[reducible] def aN.av (x:aN):List AV:=[int x.dL,int x.bM]
theorem aN.dR (x:aN):∀ a∈x.av,PV a:=by
  intro a ha;simp only [aN.av,List.mem_cons,List.not_mem_nil,or_false] at ha
  rcases ha with rfl | rfl
  · exact bQ x.dL
  · exact bQ x.bM
structure iX where
  a0:Int
  a1:Int
  a2:Int
  a3:Int
  a4:Int
  a5:Int
  a6:Int
  a7:Int
  a8:Int
  a9:Int
  jU:Int
  deriving DecidableEq,Inhabited
@[reducible] def iX.av (x:iX):List AV:=[int x.a0,int x.a1,int x.a2,int x.a3,int x.a4,int x.a5,int x.a6,int x.a7,int x.a8,int x.a9,int x.jU]
theorem iX.dR (x:iX):∀ a∈x.av,PV a:=by
  intro a ha;simp only [iX.av,List.mem_cons,List.not_mem_nil,or_false] at ha
  rcases ha with rfl | rfl | rfl | rfl | rfl | rfl | rfl | rfl | rfl | rfl | rfl
  · exact bQ x.a0
  · exact bQ x.a1
  · exact bQ x.a2
  · exact bQ x.a3
  · exact bQ x.a4
  · exact bQ x.a5
  · exact bQ x.a6
  · exact bQ x.a7
  · exact bQ x.a8
  · exact bQ x.a9
  · exact bQ x.jU
theorem iX.eqv (x y:iX):(decide (x.a0=y.a0) && (decide (x.a1=y.a1) && (decide (x.a2=y.a2) && (decide (x.a3=y.a3) && (decide (x.a4=y.a4) && (decide (x.a5=y.a5) && (decide (x.a6=y.a6) && (decide (x.a7=y.a7) && (decide (x.a8=y.a8) && (decide (x.a9=y.a9) && (decide (x.jU=y.jU) && true)))))))))))=decide (x=y):=by
  cases x;cases y;rw [Bool.eq_iff_iff];simp only [Bool.and_eq_true,decide_eq_true_eq,iX.mk.injEq,and_true]
structure NJ where
  deriving DecidableEq,Inhabited
@[reducible] def NJ.av (x:NJ):List AV:=[]
theorem NJ.dR (x:NJ):∀ a∈x.av,PV a:=by
  intro a ha;cases ha
structure LK where
  deriving DecidableEq,Inhabited
@[reducible] def LK.av (x:LK):List AV:=[]
theorem LK.dR (x:LK):∀ a∈x.av,PV a:=by
  intro a ha;cases ha
structure JM where
  deriving DecidableEq,Inhabited
@[reducible] def JM.av (x:JM):List AV:=[]
theorem JM.dR (x:JM):∀ a∈x.av,PV a:=by
  intro a ha;cases ha
structure EF where
  cost:Int
  deriving DecidableEq,Inhabited
@[reducible] def EF.av (x:EF):List AV:=[int x.cost]
theorem EF.dR (x:EF):∀ a∈x.av,PV a:=by
  intro a ha;simp only [EF.av,List.mem_cons,List.not_mem_nil,or_false] at ha
  subst ha;exact bQ x.cost
theorem G6:iD Tryz.prog 1=some (1,false):=by kernel_rfl
theorem dM:iD Tryz.prog 3=some (1,false):=by kernel_rfl
theorem O8:iD Tryz.prog 4=some (1,false):=by kernel_rfl
theorem lT:iD Tryz.prog 22=some (1,false):=by kernel_rfl
theorem zK:iD Tryz.prog 23=some (1,false):=by kernel_rfl
theorem L5:iD Tryz.prog 25=some (5,true):=by kernel_rfl
theorem vK:iD Tryz.prog 27=some (1,false):=by kernel_rfl
theorem lX:iD Tryz.prog 32=some (10,true):=by kernel_rfl
theorem uN:iD Tryz.prog 57=some (1,false):=by kernel_rfl
theorem sG:iD Tryz.prog 58=some (1,false):=by kernel_rfl
theorem mQ:iD Tryz.prog 60=some (8,true):=by kernel_rfl
theorem tF:iD Tryz.prog 69=some (3,true):=by kernel_rfl
theorem kR:iD Tryz.prog 72=some (2,true):=by kernel_rfl
theorem rM:iD Tryz.prog 76=some (11,true):=by kernel_rfl
theorem MZ:iD Tryz.prog 92=some (9,true):=by kernel_rfl
theorem gL:iD Tryz.prog 99=some (4,true):=by kernel_rfl
theorem rZ:iD Tryz.prog 113=some (1,false):=by kernel_rfl
theorem K4:iD Tryz.prog 127=some (11,true):=by kernel_rfl
theorem N9:iD Tryz.prog 132=some (6,true):=by kernel_rfl
theorem zZ:iD Tryz.prog 179=some (1,false):=by kernel_rfl
theorem N7:iD Tryz.prog 194=some (2,true):=by kernel_rfl
theorem aU8:iD Tryz.prog 250=some (4,true):=by kernel_rfl
theorem aNB:mG Tryz.prog 132=some 48:=by kernel_rfl
theorem ZB:mG Tryz.prog 22=some 24:=by kernel_rfl
theorem nK:mG Tryz.prog 3=some 8:=by kernel_rfl
theorem EH:mG Tryz.prog 60=some 160:=by kernel_rfl
theorem P6:mG Tryz.prog 69=some 24:=by kernel_rfl
theorem TG:mG Tryz.prog 72=some 16:=by kernel_rfl
theorem NH:mG Tryz.prog 76=some 88:=by kernel_rfl
theorem aC3:mG Tryz.prog 79=some 64:=by kernel_rfl
theorem aIV:mG Tryz.prog 92=some 72:=by kernel_rfl
theorem ID:mG Tryz.prog 99=some 48:=by kernel_rfl
theorem bz1:lF Tryz.prog 1=some (1,[.nilFunc]):=by kernel_rfl
theorem tH:lF Tryz.prog 113=some (1,[.pointer none]):=by kernel_rfl
theorem aOH:lF Tryz.prog 132=some (6,[.int .i64 0,.int .i64 0,.int .i64 0,.int .i64 0,.int .i64 0,.int .i64 0]):=by kernel_rfl
theorem aOB:lF Tryz.prog 194=some (2,[.pointer none,.slice none 0 0]):=by kernel_rfl
theorem IX:lF Tryz.prog 22=some (1,[.slice none 0 0]):=by kernel_rfl
theorem kC:lF Tryz.prog 3=some (1,[.int .i64 0]):=by kernel_rfl
theorem yH:lF Tryz.prog 60=some (8,[.int .i64 0,.bool false,.slice none 0 0,.slice none 0 0,.slice none 0 0,.slice none 0 0,.slice none 0 0,.slice none 0 0]):=by kernel_rfl
theorem F6:lF Tryz.prog 69=some (3,[.int .i64 0,.int .i64 0,.int .i64 0]):=by kernel_rfl
theorem vQ:lF Tryz.prog 72=some (2,[.int .i64 0,.int .i64 0]):=by kernel_rfl
theorem D7:lF Tryz.prog 76=some (11,[.int .i64 0,.int .i64 0,.int .i64 0,.int .i64 0,.int .i64 0,.int .i64 0,.int .i64 0,.int .i64 0,.int .i64 0,.int .i64 0,.int .i64 0]):=by kernel_rfl
theorem IR:lF Tryz.prog 79=some (8,[.int .i64 0,.int .i64 0,.int .i64 0,.int .i64 0,.int .i64 0,.int .i64 0,.int .i64 0,.int .i64 0]):=by kernel_rfl
theorem aGD:lF Tryz.prog 92=some (9,[.int .i64 0,.int .i64 0,.int .i64 0,.int .i64 0,.int .i64 0,.int .i64 0,.int .i64 0,.int .i64 0,.bool false]):=by kernel_rfl
theorem EN:lF Tryz.prog 99=some (4,[.slice none 0 0,.int .i64 0,.int .i64 0,.int .i64 0]):=by kernel_rfl
theorem c3:Tryz.prog.cellsOf 3=1:=by kernel_rfl
theorem aIE:bP Tryz.prog 10=true:=by kernel_rfl
theorem aU3:bP Tryz.prog 100=true:=by kernel_rfl
theorem aRY:bP Tryz.prog 101=true:=by kernel_rfl
theorem aIO:bP Tryz.prog 102=true:=by kernel_rfl
theorem aPD:bP Tryz.prog 103=true:=by kernel_rfl
theorem aN8:bP Tryz.prog 104=true:=by kernel_rfl
theorem aFZ:bP Tryz.prog 105=true:=by kernel_rfl
theorem aSS:bP Tryz.prog 106=true:=by kernel_rfl
theorem aFW:bP Tryz.prog 107=true:=by kernel_rfl
theorem E5:bP Tryz.prog 108=true:=by kernel_rfl
theorem aGK:bP Tryz.prog 109=true:=by kernel_rfl
theorem NR:bP Tryz.prog 11=true:=by kernel_rfl
theorem QN:bP Tryz.prog 110=true:=by kernel_rfl
theorem VD:bP Tryz.prog 111=true:=by kernel_rfl
theorem wF:bP Tryz.prog 112=true:=by kernel_rfl
theorem V2:bP Tryz.prog 113=true:=by kernel_rfl
theorem aPO:bP Tryz.prog 114=true:=by kernel_rfl
theorem UR:bP Tryz.prog 115=true:=by kernel_rfl
theorem aDD:bP Tryz.prog 116=true:=by kernel_rfl
theorem aFT:bP Tryz.prog 117=true:=by kernel_rfl
theorem aQS:bP Tryz.prog 118=true:=by kernel_rfl
theorem V8:bP Tryz.prog 119=true:=by kernel_rfl
theorem aHN:bP Tryz.prog 12=true:=by kernel_rfl
theorem aKH:bP Tryz.prog 120=true:=by kernel_rfl
theorem aAY:bP Tryz.prog 121=true:=by kernel_rfl
theorem aSJ:bP Tryz.prog 122=true:=by kernel_rfl
theorem aGP:bP Tryz.prog 123=true:=by kernel_rfl
theorem aE9:bP Tryz.prog 124=true:=by kernel_rfl
theorem SA:bP Tryz.prog 125=true:=by kernel_rfl
theorem RD:bP Tryz.prog 126=true:=by kernel_rfl
theorem aLI:bP Tryz.prog 127=true:=by kernel_rfl
theorem O6:bP Tryz.prog 128=true:=by kernel_rfl
theorem aFM:bP Tryz.prog 129=true:=by kernel_rfl
theorem OH:bP Tryz.prog 13=true:=by kernel_rfl
theorem aNX:bP Tryz.prog 130=true:=by kernel_rfl
theorem BZ:bP Tryz.prog 131=true:=by kernel_rfl
theorem YW:bP Tryz.prog 132=true:=by kernel_rfl
theorem aRA:bP Tryz.prog 133=true:=by kernel_rfl
theorem tO:bP Tryz.prog 134=true:=by kernel_rfl
theorem aOX:bP Tryz.prog 135=true:=by kernel_rfl
theorem QG:bP Tryz.prog 136=true:=by kernel_rfl
theorem aTL:bP Tryz.prog 137=true:=by kernel_rfl
theorem BS:bP Tryz.prog 138=true:=by kernel_rfl
theorem aUO:bP Tryz.prog 139=true:=by kernel_rfl
theorem IA:bP Tryz.prog 14=true:=by kernel_rfl
theorem ZV:bP Tryz.prog 140=true:=by kernel_rfl
theorem aCZ:bP Tryz.prog 141=true:=by kernel_rfl
theorem aPX:bP Tryz.prog 142=true:=by kernel_rfl
theorem aUU:bP Tryz.prog 143=true:=by kernel_rfl
theorem aTH:bP Tryz.prog 144=true:=by kernel_rfl
theorem aTU:bP Tryz.prog 145=true:=by kernel_rfl
theorem aRF:bP Tryz.prog 146=true:=by kernel_rfl
theorem aQF:bP Tryz.prog 147=true:=by kernel_rfl
theorem aIC:bP Tryz.prog 148=true:=by kernel_rfl
theorem aOA:bP Tryz.prog 149=true:=by kernel_rfl
theorem WC:bP Tryz.prog 15=true:=by kernel_rfl
theorem TJ:bP Tryz.prog 150=true:=by kernel_rfl
theorem aFH:bP Tryz.prog 151=true:=by kernel_rfl
theorem aKM:bP Tryz.prog 152=true:=by kernel_rfl
theorem aQ3:bP Tryz.prog 153=true:=by kernel_rfl
theorem aKI:bP Tryz.prog 154=true:=by kernel_rfl
theorem I6:bP Tryz.prog 155=true:=by kernel_rfl
theorem E7:bP Tryz.prog 156=true:=by kernel_rfl
theorem RI:bP Tryz.prog 157=true:=by kernel_rfl
theorem aM1:bP Tryz.prog 158=true:=by kernel_rfl
theorem aUY:bP Tryz.prog 159=true:=by kernel_rfl
theorem aOI:bP Tryz.prog 16=true:=by kernel_rfl
theorem aT0:bP Tryz.prog 160=true:=by kernel_rfl
theorem UB:bP Tryz.prog 161=true:=by kernel_rfl
theorem aNI:bP Tryz.prog 162=true:=by kernel_rfl
theorem aMT:bP Tryz.prog 163=true:=by kernel_rfl
theorem IC:bP Tryz.prog 164=true:=by kernel_rfl
theorem AB:bP Tryz.prog 165=true:=by kernel_rfl
theorem QC:bP Tryz.prog 166=true:=by kernel_rfl
theorem aFC:bP Tryz.prog 167=true:=by kernel_rfl
theorem aD4:bP Tryz.prog 168=true:=by kernel_rfl
theorem CB:bP Tryz.prog 169=true:=by kernel_rfl
theorem aRX:bP Tryz.prog 17=true:=by kernel_rfl
theorem aEZ:bP Tryz.prog 170=true:=by kernel_rfl
theorem XZ:bP Tryz.prog 171=true:=by kernel_rfl
theorem vI:bP Tryz.prog 172=true:=by kernel_rfl
theorem F5:bP Tryz.prog 173=true:=by kernel_rfl
theorem aG4:bP Tryz.prog 174=true:=by kernel_rfl
theorem xY:bP Tryz.prog 175=true:=by kernel_rfl
theorem aMI:bP Tryz.prog 176=true:=by kernel_rfl
theorem aBA:bP Tryz.prog 177=true:=by kernel_rfl
theorem aCA:bP Tryz.prog 178=true:=by kernel_rfl
theorem aLV:bP Tryz.prog 179=true:=by kernel_rfl
theorem aO8:bP Tryz.prog 18=true:=by kernel_rfl
theorem aJT:bP Tryz.prog 180=true:=by kernel_rfl
theorem aEQ:bP Tryz.prog 181=true:=by kernel_rfl
theorem aPZ:bP Tryz.prog 182=true:=by kernel_rfl
theorem RG:bP Tryz.prog 183=true:=by kernel_rfl
theorem aHX:bP Tryz.prog 184=true:=by kernel_rfl
theorem aQL:bP Tryz.prog 186=true:=by kernel_rfl
theorem aGT:bP Tryz.prog 187=true:=by kernel_rfl
theorem aUQ:bP Tryz.prog 188=true:=by kernel_rfl
theorem aUI:bP Tryz.prog 19=true:=by kernel_rfl
theorem aU0:bP Tryz.prog 20=true:=by kernel_rfl
theorem aK8:bP Tryz.prog 206=true:=by kernel_rfl
theorem YC:bP Tryz.prog 208=true:=by kernel_rfl
theorem aH4:bP Tryz.prog 209=true:=by kernel_rfl
theorem T9:bP Tryz.prog 21=true:=by kernel_rfl
theorem aRK:bP Tryz.prog 210=true:=by kernel_rfl
theorem aML:bP Tryz.prog 211=true:=by kernel_rfl
theorem aFV:bP Tryz.prog 212=true:=by kernel_rfl
theorem aMB:bP Tryz.prog 213=true:=by kernel_rfl
theorem aTV:bP Tryz.prog 214=true:=by kernel_rfl
theorem S7:bP Tryz.prog 216=true:=by kernel_rfl
theorem aDE:bP Tryz.prog 217=true:=by kernel_rfl
theorem aEH:bP Tryz.prog 22=true:=by kernel_rfl
theorem aJF:bP Tryz.prog 221=true:=by kernel_rfl
theorem aLD:bP Tryz.prog 222=true:=by kernel_rfl
theorem aKY:bP Tryz.prog 223=true:=by kernel_rfl
theorem aNG:bP Tryz.prog 224=true:=by kernel_rfl
theorem aKP:bP Tryz.prog 225=true:=by kernel_rfl
theorem aFI:bP Tryz.prog 226=true:=by kernel_rfl
theorem aRM:bP Tryz.prog 228=true:=by kernel_rfl
theorem aNR:bP Tryz.prog 229=true:=by kernel_rfl
theorem ZX:bP Tryz.prog 23=true:=by kernel_rfl
theorem aRU:bP Tryz.prog 230=true:=by kernel_rfl
theorem aHK:bP Tryz.prog 232=true:=by kernel_rfl
theorem aQT:bP Tryz.prog 233=true:=by kernel_rfl
theorem aIZ:bP Tryz.prog 234=true:=by kernel_rfl
theorem YX:bP Tryz.prog 24=true:=by kernel_rfl
theorem aI0:bP Tryz.prog 25=true:=by kernel_rfl
theorem aPJ:bP Tryz.prog 26=true:=by kernel_rfl
theorem aHQ:bP Tryz.prog 27=true:=by kernel_rfl
theorem aTC:bP Tryz.prog 28=true:=by kernel_rfl
theorem aJN:bP Tryz.prog 29=true:=by kernel_rfl
theorem aOK:bP Tryz.prog 30=true:=by kernel_rfl
theorem aSF:bP Tryz.prog 31=true:=by kernel_rfl
theorem aMG:bP Tryz.prog 32=true:=by kernel_rfl
theorem aP4:bP Tryz.prog 33=true:=by kernel_rfl
theorem aQU:bP Tryz.prog 34=true:=by kernel_rfl
theorem aHG:bP Tryz.prog 35=true:=by kernel_rfl
theorem aFG:bP Tryz.prog 36=true:=by kernel_rfl
theorem aGE:bP Tryz.prog 37=true:=by kernel_rfl
theorem aJ9:bP Tryz.prog 38=true:=by kernel_rfl
theorem aAB:bP Tryz.prog 39=true:=by kernel_rfl
theorem aUT:bP Tryz.prog 40=true:=by kernel_rfl
theorem aLB:bP Tryz.prog 41=true:=by kernel_rfl
theorem C7:bP Tryz.prog 42=true:=by kernel_rfl
theorem vN:bP Tryz.prog 43=true:=by kernel_rfl
theorem EY:bP Tryz.prog 44=true:=by kernel_rfl
theorem qU:bP Tryz.prog 45=true:=by kernel_rfl
theorem wE:bP Tryz.prog 46=true:=by kernel_rfl
theorem aNV:bP Tryz.prog 47=true:=by kernel_rfl
theorem aGO:bP Tryz.prog 48=true:=by kernel_rfl
theorem aC5:bP Tryz.prog 49=true:=by kernel_rfl
theorem aIB:bP Tryz.prog 5=true:=by kernel_rfl
theorem aHE:bP Tryz.prog 50=true:=by kernel_rfl
theorem aJ1:bP Tryz.prog 51=true:=by kernel_rfl
theorem aKQ:bP Tryz.prog 52=true:=by kernel_rfl
theorem aR6:bP Tryz.prog 53=true:=by kernel_rfl
theorem aQ4:bP Tryz.prog 54=true:=by kernel_rfl
theorem aI5:bP Tryz.prog 55=true:=by kernel_rfl
theorem aNU:bP Tryz.prog 56=true:=by kernel_rfl
theorem aQ2:bP Tryz.prog 57=true:=by kernel_rfl
theorem aHB:bP Tryz.prog 58=true:=by kernel_rfl
theorem aMX:bP Tryz.prog 59=true:=by kernel_rfl
theorem aT1:bP Tryz.prog 6=true:=by kernel_rfl
theorem zH:bP Tryz.prog 60=true:=by kernel_rfl
theorem IL:bP Tryz.prog 61=true:=by kernel_rfl
theorem aKZ:bP Tryz.prog 62=true:=by kernel_rfl
theorem NL:bP Tryz.prog 63=true:=by kernel_rfl
theorem YD:bP Tryz.prog 64=true:=by kernel_rfl
theorem aNM:bP Tryz.prog 65=true:=by kernel_rfl
theorem aF3:bP Tryz.prog 66=true:=by kernel_rfl
theorem aHU:bP Tryz.prog 67=true:=by kernel_rfl
theorem aR3:bP Tryz.prog 68=true:=by kernel_rfl
theorem YM:bP Tryz.prog 69=true:=by kernel_rfl
theorem aEY:bP Tryz.prog 7=true:=by kernel_rfl
theorem aRR:bP Tryz.prog 70=true:=by kernel_rfl
theorem RO:bP Tryz.prog 71=true:=by kernel_rfl
theorem aQV:bP Tryz.prog 72=true:=by kernel_rfl
theorem tJ:bP Tryz.prog 73=true:=by kernel_rfl
theorem pV:bP Tryz.prog 74=true:=by kernel_rfl
theorem aQE:bP Tryz.prog 75=true:=by kernel_rfl
theorem RZ:bP Tryz.prog 76=true:=by kernel_rfl
theorem G7:bP Tryz.prog 77=true:=by kernel_rfl
theorem kY:bP Tryz.prog 78=true:=by kernel_rfl
theorem aMV:bP Tryz.prog 79=true:=by kernel_rfl
theorem RL:bP Tryz.prog 8=true:=by kernel_rfl
theorem wZ:bP Tryz.prog 80=true:=by kernel_rfl
theorem BU:bP Tryz.prog 81=true:=by kernel_rfl
theorem UO:bP Tryz.prog 82=true:=by kernel_rfl
theorem aA3:bP Tryz.prog 83=true:=by kernel_rfl
theorem aBQ:bP Tryz.prog 84=true:=by kernel_rfl
theorem aUV:bP Tryz.prog 85=true:=by kernel_rfl
theorem GI:bP Tryz.prog 86=true:=by kernel_rfl
theorem yX:bP Tryz.prog 87=true:=by kernel_rfl
theorem aT5:bP Tryz.prog 88=true:=by kernel_rfl
theorem aA2:bP Tryz.prog 89=true:=by kernel_rfl
theorem T8:bP Tryz.prog 9=true:=by kernel_rfl
theorem aKK:bP Tryz.prog 90=true:=by kernel_rfl
theorem aFK:bP Tryz.prog 91=true:=by kernel_rfl
theorem aDH:bP Tryz.prog 92=true:=by kernel_rfl
theorem DO:bP Tryz.prog 93=true:=by kernel_rfl
theorem aM4:bP Tryz.prog 94=true:=by kernel_rfl
theorem uH:bP Tryz.prog 95=true:=by kernel_rfl
theorem aG2:bP Tryz.prog 96=true:=by kernel_rfl
theorem aLC:bP Tryz.prog 97=true:=by kernel_rfl
theorem aNT:bP Tryz.prog 98=true:=by kernel_rfl
theorem aL5:bP Tryz.prog 99=true:=by kernel_rfl
theorem aJQ:BP Tryz.prog 132=some [(3,0),(3,1),(3,2),(3,3),(3,4),(3,5)]:=by kernel_rfl
theorem aUA:BP Tryz.prog 79=some [(3,0),(3,1),(3,2),(3,3),(3,4),(3,5),(3,6),(3,7)]:=by kernel_rfl
theorem aGQ:BP Tryz.prog 92=some [(3,0),(3,1),(3,2),(3,3),(3,4),(3,5),(3,6),(3,7),(4,8)]:=by kernel_rfl
theorem aPT:kW Tryz.prog 132 3=some 3:=by kernel_rfl
theorem aTY:kW Tryz.prog 132 4=some 4:=by kernel_rfl
theorem aO5:kW Tryz.prog 132 5=some 5:=by kernel_rfl
theorem J3:kW Tryz.prog 25 3=some 3:=by kernel_rfl
theorem OX:kW Tryz.prog 25 4=some 4:=by kernel_rfl
theorem XM:kW Tryz.prog 32 0=some 0:=by kernel_rfl
theorem WB:kW Tryz.prog 32 1=some 5:=by kernel_rfl
theorem aKE:kW Tryz.prog 60 0=some 0:=by kernel_rfl
theorem aAA:kW Tryz.prog 60 1=some 1:=by kernel_rfl
theorem uQ:kW Tryz.prog 60 2=some 2:=by kernel_rfl
theorem FY:kW Tryz.prog 60 3=some 3:=by kernel_rfl
theorem tC:kW Tryz.prog 60 4=some 4:=by kernel_rfl
theorem I4:kW Tryz.prog 60 5=some 5:=by kernel_rfl
theorem IG:kW Tryz.prog 60 6=some 6:=by kernel_rfl
theorem A7:kW Tryz.prog 60 7=some 7:=by kernel_rfl
theorem aOE:kW Tryz.prog 69 0=some 0:=by kernel_rfl
theorem aCC:kW Tryz.prog 69 1=some 1:=by kernel_rfl
theorem NU:kW Tryz.prog 72 0=some 0:=by kernel_rfl
theorem N6:kW Tryz.prog 72 1=some 1:=by kernel_rfl
theorem aLO:kW Tryz.prog 92 5=some 5:=by kernel_rfl
theorem aQI:kW Tryz.prog 92 6=some 6:=by kernel_rfl
theorem aIN:yU Tryz.prog 187 "purveyor/pool.in"=some 206:=by kernel_rfl
theorem aIF:yU Tryz.prog 188 "purveyor/pool.in"=some 214:=by kernel_rfl
theorem aK0:yU Tryz.prog 189 "purveyor/pool.in"=some 226:=by kernel_rfl
theorem aMF:yU Tryz.prog 191 "purveyor/pool.in"=some 230:=by kernel_rfl
theorem aAF:DD Tryz.prog 32=some [(0,5),(5,1),(6,1),(7,1),(8,1),(9,1)]:=by kernel_rfl
theorem aF5:DD Tryz.prog 60=some [(0,1),(1,1),(2,1),(3,1),(4,1),(5,1),(6,1),(7,1)]:=by kernel_rfl
theorem sz3:((Tryz.prog.info? 3).map (·.size))=some 1:=by kernel_rfl
theorem aSR:zeroOf Tryz.prog 103=some [.int .i64 0,.int .i64 0,.slice none 0 0,.slice none 0 0,.slice none 0 0,.slice none 0 0,.slice none 0 0,.slice none 0 0,.slice none 0 0,.int .i64 0]:=by kernel_rfl
theorem z127:zeroOf Tryz.prog 127=some [.int .i64 0,.int .i64 0,.int .i64 0,.int .i64 0,.int .i64 0,.int .i64 0,.int .i64 0,.int .i64 0,.int .i64 0,.int .i64 0,.int .i64 0]:=by kernel_rfl
theorem aLW:zeroOf Tryz.prog 132=some [.int .i64 0,.int .i64 0,.int .i64 0,.int .i64 0,.int .i64 0,.int .i64 0]:=by kernel_rfl
theorem z139:zeroOf Tryz.prog 139=some [.int .i64 0,.int .i64 0,.int .i64 0,.int .i64 0,.int .i64 0,.int .i64 0,.int .i64 0,.int .i64 0,.int .i64 0]:=by kernel_rfl
theorem z171:zeroOf Tryz.prog 171=some [.int .i64 0,.int .i64 0,.int .i64 0,.int .i64 0,.int .i64 0,.int .i64 0,.int .i64 0,.int .i64 0,.int .i64 0,.int .i64 0,.int .i64 0,.int .i64 0,.int .i64 0,.int .i64 0,.int .i64 0,.int .i64 0,.int .i64 0]:=by kernel_rfl
theorem aLJ:zeroOf Tryz.prog 187=some []:=by kernel_rfl
theorem aH1:zeroOf Tryz.prog 188=some []:=by kernel_rfl
theorem aGW:zeroOf Tryz.prog 189=some []:=by kernel_rfl
theorem aKX:zeroOf Tryz.prog 191=some [.int .i64 0]:=by kernel_rfl
theorem z194:zeroOf Tryz.prog 194=some [.pointer none,.slice none 0 0]:=by kernel_rfl
theorem aO1:zeroOf Tryz.prog 246=some [.nilFunc,.nilFunc,.nilFunc]:=by kernel_rfl
theorem z25:zeroOf Tryz.prog 25=some [.int .i64 0,.int .i64 0,.slice none 0 0,.slice none 0 0,.slice none 0 0]:=by kernel_rfl
theorem aDN:zeroOf Tryz.prog 250=some [.int .u64 0,.int .u64 0,.int .u64 0,.int .u64 0]:=by kernel_rfl
theorem z3:zeroOf Tryz.prog 3=some [.int .i64 0]:=by kernel_rfl
theorem z32:zeroOf Tryz.prog 32=some [.int .i64 0,.int .i64 0,.slice none 0 0,.slice none 0 0,.slice none 0 0,.slice none 0 0,.slice none 0 0,.slice none 0 0,.slice none 0 0,.int .i64 0]:=by kernel_rfl
theorem z35:zeroOf Tryz.prog 35=some [.int .i64 0,.int .i64 0,.int .i64 0,.int .i64 0,.int .i64 0,.int .i64 0,.int .i64 0,.int .i64 0,.slice none 0 0]:=by kernel_rfl
theorem z42:zeroOf Tryz.prog 42=some [.int .i64 0]:=by kernel_rfl
theorem z50:zeroOf Tryz.prog 50=some [.int .i64 0]:=by kernel_rfl
theorem z60:zeroOf Tryz.prog 60=some [.int .i64 0,.bool false,.slice none 0 0,.slice none 0 0,.slice none 0 0,.slice none 0 0,.slice none 0 0,.slice none 0 0]:=by kernel_rfl
theorem z63:zeroOf Tryz.prog 63=some [.slice none 0 0,.slice none 0 0,.slice none 0 0]:=by kernel_rfl
theorem z69:zeroOf Tryz.prog 69=some [.int .i64 0,.int .i64 0,.int .i64 0]:=by kernel_rfl
theorem z72:zeroOf Tryz.prog 72=some [.int .i64 0,.int .i64 0]:=by kernel_rfl
theorem z76:zeroOf Tryz.prog 76=some [.int .i64 0,.int .i64 0,.int .i64 0,.int .i64 0,.int .i64 0,.int .i64 0,.int .i64 0,.int .i64 0,.int .i64 0,.int .i64 0,.int .i64 0]:=by kernel_rfl
theorem z79:zeroOf Tryz.prog 79=some [.int .i64 0,.int .i64 0,.int .i64 0,.int .i64 0,.int .i64 0,.int .i64 0,.int .i64 0,.int .i64 0]:=by kernel_rfl
theorem z82:zeroOf Tryz.prog 82=some [.int .i64 0,.int .i64 0,.int .i64 0,.int .i64 0,.int .i64 0,.int .i64 0,.int .i64 0,.int .i64 0,.int .i64 0,.int .i64 0,.int .i64 0,.int .i64 0]:=by kernel_rfl
theorem z92:zeroOf Tryz.prog 92=some [.int .i64 0,.int .i64 0,.int .i64 0,.int .i64 0,.int .i64 0,.int .i64 0,.int .i64 0,.int .i64 0,.bool false]:=by kernel_rfl
theorem qE:zeroOf Tryz.prog 99=some [.slice none 0 0,.int .i64 0,.int .i64 0,.int .i64 0]:=by kernel_rfl
theorem z1:zeroOf Tryz.prog 1=some [.nilFunc]:=by kernel_rfl
theorem z22:zeroOf Tryz.prog 22=some [.slice none 0 0]:=by kernel_rfl
theorem aJU:zeroOf Tryz.prog 113=some [.pointer none]:=by kernel_rfl
noncomputable section
def tb:iU:={ sh:=[(0,(1,false)),(1,(1,false)),(3,(1,false)),(4,(1,false)),(22,(1,false)),(23,(1,false)),(25,(5,true)),(27,(1,false)),(28,(1,false)),(29,(1,false)),(30,(1,false)),(32,(10,true)),(35,(9,true)),(42,(1,false)),(50,(1,true)),(57,(1,false)),(58,(1,false)),(60,(8,true)),(69,(3,true)),(72,(2,true)),(73,(1,false)),(76,(11,true)),(79,(8,true)),(92,(9,true)),(96,(1,false)),(99,(4,true)),(103,(10,true)),(113,(1,false)),(127,(11,true)),(132,(6,true)),(139,(9,true)),(152,(1,false)),(158,(1,false)),(165,(1,false)),(179,(1,false)),(194,(2,true)),(246,(3,true))],fo:=[((25,0),0),((25,1),1),((25,2),2),((25,3),3),((25,4),4),((32,0),0),((32,1),5),((32,2),6),((32,3),7),((32,4),8),((32,5),9),((35,0),0),((35,1),1),((35,2),2),((35,3),3),((35,4),4),((35,5),5),((35,6),6),((35,7),7),((35,8),8),((60,0),0),((60,1),1),((60,2),2),((60,3),3),((60,4),4),((60,5),5),((60,6),6),((60,7),7),((69,0),0),((69,1),1),((69,2),2),((72,0),0),((72,1),1),((76,0),0),((76,1),1),((76,2),2),((76,3),3),((76,4),4),((76,5),5),((76,6),6),((76,7),7),((76,8),8),((76,9),9),((76,10),10),((79,0),0),((79,1),1),((79,2),2),((79,3),3),((79,4),4),((79,5),5),((79,6),6),((79,7),7),((92,0),0),((92,1),1),((92,2),2),((92,3),3),((92,4),4),((92,5),5),((92,6),6),((92,7),7),((92,8),8),((99,0),0),((99,1),1),((103,0),0),((132,0),0),((132,1),1),((132,2),2),((132,3),3),((132,4),4),((132,5),5),((191,0),0),((194,0),0),((194,1),1)],fp:=[((69,0),(0,3)),((69,1),(1,3)),((99,0),(0,96)),((246,0),(0,165)),((246,2),(2,152))],ki:=[(3,.i64),(5,.u8),(179,.u64),(205,.u64)],se:=[(22,3),(23,22),(27,60),(28,79),(29,92),(30,132),(48,35),(57,99),(58,76),(73,72),(77,1),(96,69),(114,113),(195,194)],bl:=[(25,[(0,1),(1,1),(2,1),(3,1),(4,1)]),(32,[(0,5),(5,1),(6,1),(7,1),(8,1),(9,1)]),(35,[(0,1),(1,1),(2,1),(3,1),(4,1),(5,1),(6,1),(7,1),(8,1)]),(69,[(0,1),(1,1),(2,1)]),(72,[(0,1),(1,1)]),(76,[(0,1),(1,1),(2,1),(3,1),(4,1),(5,1),(6,1),(7,1),(8,1),(9,1),(10,1)]),(79,[(0,1),(1,1),(2,1),(3,1),(4,1),(5,1),(6,1),(7,1)]),(92,[(0,1),(1,1),(2,1),(3,1),(4,1),(5,1),(6,1),(7,1),(8,1)]),(99,[(0,1),(1,3)]),(103,[(0,10)]),(132,[(0,1),(1,1),(2,1),(3,1),(4,1),(5,1)]),(187,[]),(188,[]),(189,[]),(191,[(0,1)]),(194,[(0,1),(1,1)]),(246,[(0,1),(1,1),(2,1)])],zs:=[(1,[.nilFunc]),(3,[.int .i64 0]),(22,[.slice none 0 0]),(25,[.int .i64 0,.int .i64 0,.slice none 0 0,.slice none 0 0,.slice none 0 0]),(32,[.int .i64 0,.int .i64 0,.slice none 0 0,.slice none 0 0,.slice none 0 0,.slice none 0 0,.slice none 0 0,.slice none 0 0,.slice none 0 0,.int .i64 0]),(35,[.int .i64 0,.int .i64 0,.int .i64 0,.int .i64 0,.int .i64 0,.int .i64 0,.int .i64 0,.int .i64 0,.slice none 0 0]),(42,[.int .i64 0]),(50,[.int .i64 0]),(60,[.int .i64 0,.bool false,.slice none 0 0,.slice none 0 0,.slice none 0 0,.slice none 0 0,.slice none 0 0,.slice none 0 0]),(69,[.int .i64 0,.int .i64 0,.int .i64 0]),(72,[.int .i64 0,.int .i64 0]),(76,[.int .i64 0,.int .i64 0,.int .i64 0,.int .i64 0,.int .i64 0,.int .i64 0,.int .i64 0,.int .i64 0,.int .i64 0,.int .i64 0,.int .i64 0]),(79,[.int .i64 0,.int .i64 0,.int .i64 0,.int .i64 0,.int .i64 0,.int .i64 0,.int .i64 0,.int .i64 0]),(92,[.int .i64 0,.int .i64 0,.int .i64 0,.int .i64 0,.int .i64 0,.int .i64 0,.int .i64 0,.int .i64 0,.bool false]),(99,[.slice none 0 0,.int .i64 0,.int .i64 0,.int .i64 0]),(103,[.int .i64 0,.int .i64 0,.slice none 0 0,.slice none 0 0,.slice none 0 0,.slice none 0 0,.slice none 0 0,.slice none 0 0,.slice none 0 0,.int .i64 0]),(113,[.pointer none]),(127,[.int .i64 0,.int .i64 0,.int .i64 0,.int .i64 0,.int .i64 0,.int .i64 0,.int .i64 0,.int .i64 0,.int .i64 0,.int .i64 0,.int .i64 0]),(132,[.int .i64 0,.int .i64 0,.int .i64 0,.int .i64 0,.int .i64 0,.int .i64 0]),(139,[.int .i64 0,.int .i64 0,.int .i64 0,.int .i64 0,.int .i64 0,.int .i64 0,.int .i64 0,.int .i64 0,.int .i64 0]),(171,[.int .i64 0,.int .i64 0,.int .i64 0,.int .i64 0,.int .i64 0,.int .i64 0,.int .i64 0,.int .i64 0,.int .i64 0,.int .i64 0,.int .i64 0,.int .i64 0,.int .i64 0,.int .i64 0,.int .i64 0,.int .i64 0,.int .i64 0]),(187,[]),(188,[]),(189,[]),(191,[.int .i64 0]),(194,[.pointer none,.slice none 0 0]),(246,[.nilFunc,.nilFunc,.nilFunc])],bz:=[(1,1),(3,1),(22,1),(35,9),(60,8),(69,3),(72,2),(76,11),(79,8),(92,9),(99,4),(113,1),(132,6),(194,2)],bb:=[(3,8),(22,24),(35,88),(60,160),(69,24),(72,16),(76,88),(79,64),(92,72),(99,48),(132,48)],ar:=[(50,(1,3)),(97,(3,3)),(127,(11,3)),(139,(3,69)),(171,(17,3))] }
theorem aA:gH Tryz.prog tb:=⟨⟨by kernel_rfl,by kernel_rfl,by kernel_rfl⟩,by kernel_rfl,by kernel_rfl,by kernel_rfl,⟨z1,z3,z22,z25,z32,z35,z42,z50,z60,z69,z72,z76,z79,z92,qE,aSR,aJU,z127,aLW,z139,z171,aLJ,aH1,aGW,aKX,z194,aO1,trivial⟩,by kernel_rfl,by kernel_rfl,by kernel_rfl⟩
theorem aP9 {H:AH} {id:Nat} {l:List dX} (hid:H id=none) (hl:l.length<=68719476736):PC Tryz.prog 38 [aH 8 dX.av l] H (λy H'=>∃ aU,y=.sl id aU 0 l.length/\H'=upd H id (some ⟨79,8,true,true,aU,l.map dX.av⟩)):=by
  refine yJ (c:=_) Tryz.func38 rfl rfl ?_;intro Q hret hnorm
  repeat (refine kE ?_)
  refine kG ?_;intro K hK
  refine st rfl rfl rfl (kK rfl rfl) ?_
  refine kD (hK _ ?_)
  repeat (refine kE ?_)
  refine kG ?_;intro K hK
  refine st rfl rfl rfl (iE rfl rfl) ?_
  refine se rfl rfl rfl (eG.iA (zU (xs:=l.map dX.av) (sz:=8) rfl Tryz.underlying28 rfl rfl) (λ_ h=>h) (λ_ _=>trivial)) ?_;rintro _ _ ⟨b,rfl,hb,rfl⟩
  refine kD (hK _ ?_)
  refine wJ (b:=b) rfl ?_ ?_
  · intro h;subst h
    have hl0:l=[]:=List.map_eq_nil_iff.1 (hb rfl)
    subst hl0
    repeat (refine kE ?_)
    refine kG ?_;intro K hK
    refine st rfl rfl rfl (kK rfl rfl) ?_
    refine kD (hK _ ?_)
    refine vM 2 id 79 8 rfl hid ?_;intro v
    refine o5 (hret _ _ _ (.tmp rfl .nil) (λ_ _ h=>h) ?_)
    exact ⟨v,rfl,rfl⟩
  · intro h;subst h
    refine vY ?_
    repeat (refine kE ?_)
    refine kG ?_;intro K hK
    refine se rfl rfl rfl (yL (ps:=[]) id [] .any rfl Tryz.underlying28 IR .nil rfl rfl rfl rfl) ?_;rintro _ _ ⟨v,-,rfl,rfl⟩
    refine st rfl rfl rfl (iE rfl rfl) ?_
    refine se rfl rfl rfl (lV (g:=dX.av) (l:=[]) (m:=l) (l':=l) .any rfl Tryz.underlying28 IR aC3 rfl rfl rfl (upd_same _ _ _) rfl rfl rfl rfl rfl rfl rfl (.refl _) (λ_=>rfl) rfl hl) ?_;rintro _ _ ⟨v2,-,rfl,rfl⟩
    refine st rfl rfl rfl (kK rfl rfl) ?_
    refine kD (hK _ ?_)
    refine o5 (hret _ _ _ (.tmp rfl .nil) (λ_ _ h=>h) ?_)
    exact ⟨v2,rfl,xL⟩
theorem aON {H:AH} {id:Nat} {l:List cB} (hid:H id=none) (hl:l.length<=68719476736):PC Tryz.prog 75 [aH 11 cB.av l] H (λy H'=>∃ aU,y=.sl id aU 0 l.length/\H'=upd H id (some ⟨76,11,true,true,aU,l.map cB.av⟩)):=by
  refine yJ (c:=_) Tryz.func75 rfl rfl ?_;intro Q hret hnorm
  repeat (refine kE ?_)
  refine kG ?_;intro K hK
  refine st rfl rfl rfl (kK rfl rfl) ?_
  refine kD (hK _ ?_)
  repeat (refine kE ?_)
  refine kG ?_;intro K hK
  refine st rfl rfl rfl (iE rfl rfl) ?_
  refine se rfl rfl rfl (eG.iA (zU (xs:=l.map cB.av) (sz:=11) rfl Tryz.underlying58 rfl rfl) (λ_ h=>h) (λ_ _=>trivial)) ?_;rintro _ _ ⟨b,rfl,hb,rfl⟩
  refine kD (hK _ ?_)
  refine wJ (b:=b) rfl ?_ ?_
  · intro h;subst h
    have hl0:l=[]:=List.map_eq_nil_iff.1 (hb rfl)
    subst hl0
    repeat (refine kE ?_)
    refine kG ?_;intro K hK
    refine st rfl rfl rfl (kK rfl rfl) ?_
    refine kD (hK _ ?_)
    refine vM 2 id 76 11 rfl hid ?_;intro v
    refine o5 (hret _ _ _ (.tmp rfl .nil) (λ_ _ h=>h) ?_)
    exact ⟨v,rfl,rfl⟩
  · intro h;subst h
    refine vY ?_
    repeat (refine kE ?_)
    refine kG ?_;intro K hK
    refine se rfl rfl rfl (yL (ps:=[]) id [] .any rfl Tryz.underlying58 D7 .nil rfl rfl rfl rfl) ?_;rintro _ _ ⟨v,-,rfl,rfl⟩
    refine st rfl rfl rfl (iE rfl rfl) ?_
    refine se rfl rfl rfl (lV (g:=cB.av) (l:=[]) (m:=l) (l':=l) .any rfl Tryz.underlying58 D7 NH rfl rfl rfl (upd_same _ _ _) rfl rfl rfl rfl rfl rfl rfl (.refl _) (λ_=>rfl) rfl hl) ?_;rintro _ _ ⟨v2,-,rfl,rfl⟩
    refine st rfl rfl rfl (kK rfl rfl) ?_
    refine kD (hK _ ?_)
    refine o5 (hret _ _ _ (.tmp rfl .nil) (λ_ _ h=>h) ?_)
    exact ⟨v2,rfl,xL⟩
theorem aRT {H:AH} {id:Nat} {l:List aS} (hid:H id=none) (hl:l.length<=68719476736):PC Tryz.prog 109 [aH 4 aS.av l] H (λy H'=>∃ aU,y=.sl id aU 0 l.length/\H'=upd H id (some ⟨99,4,true,true,aU,l.map aS.av⟩)):=by
  refine yJ (c:=_) Tryz.func109 rfl rfl ?_;intro Q hret hnorm
  repeat (refine kE ?_)
  refine kG ?_;intro K hK
  refine st rfl rfl rfl (kK rfl rfl) ?_
  refine kD (hK _ ?_)
  repeat (refine kE ?_)
  refine kG ?_;intro K hK
  refine st rfl rfl rfl (iE rfl rfl) ?_
  refine se rfl rfl rfl (eG.iA (zU (xs:=l.map aS.av) (sz:=4) rfl Tryz.underlying57 rfl rfl) (λ_ h=>h) (λ_ _=>trivial)) ?_;rintro _ _ ⟨b,rfl,hb,rfl⟩
  refine kD (hK _ ?_)
  refine wJ (b:=b) rfl ?_ ?_
  · intro h;subst h
    have hl0:l=[]:=List.map_eq_nil_iff.1 (hb rfl)
    subst hl0
    repeat (refine kE ?_)
    refine kG ?_;intro K hK
    refine st rfl rfl rfl (kK rfl rfl) ?_
    refine kD (hK _ ?_)
    refine vM 2 id 99 4 rfl hid ?_;intro v
    refine o5 (hret _ _ _ (.tmp rfl .nil) (λ_ _ h=>h) ?_)
    exact ⟨v,rfl,rfl⟩
  · intro h;subst h
    refine vY ?_
    repeat (refine kE ?_)
    refine kG ?_;intro K hK
    refine se rfl rfl rfl (yL (ps:=[]) id [] .any rfl Tryz.underlying57 EN .nil rfl rfl rfl rfl) ?_;rintro _ _ ⟨v,-,rfl,rfl⟩
    refine st rfl rfl rfl (iE rfl rfl) ?_
    refine se rfl rfl rfl (lV (g:=aS.av) (l:=[]) (m:=l) (l':=l) .any rfl Tryz.underlying57 EN ID rfl rfl rfl (upd_same _ _ _) rfl rfl rfl rfl rfl rfl rfl (.refl _) (λ_=>rfl) rfl hl) ?_;rintro _ _ ⟨v2,-,rfl,rfl⟩
    refine st rfl rfl rfl (kK rfl rfl) ?_
    refine kD (hK _ ?_)
    refine o5 (hret _ _ _ (.tmp rfl .nil) (λ_ _ h=>h) ?_)
    exact ⟨v2,rfl,xL⟩
theorem aRN {H:AH} {id:Nat} {l:List aN} (hid:H id=none) (hl:l.length<=68719476736):PC Tryz.prog 117 [aH 2 aN.av l] H (λy H'=>∃ aU,y=.sl id aU 0 l.length/\H'=upd H id (some ⟨72,2,true,true,aU,l.map aN.av⟩)):=by
  refine yJ (c:=_) Tryz.func117 rfl rfl ?_;intro Q hret hnorm
  repeat (refine kE ?_)
  refine kG ?_;intro K hK
  refine st rfl rfl rfl (kK rfl rfl) ?_
  refine kD (hK _ ?_)
  repeat (refine kE ?_)
  refine kG ?_;intro K hK
  refine st rfl rfl rfl (iE rfl rfl) ?_
  refine se rfl rfl rfl (eG.iA (zU (xs:=l.map aN.av) (sz:=2) rfl Tryz.underlying73 rfl rfl) (λ_ h=>h) (λ_ _=>trivial)) ?_;rintro _ _ ⟨b,rfl,hb,rfl⟩
  refine kD (hK _ ?_)
  refine wJ (b:=b) rfl ?_ ?_
  · intro h;subst h
    have hl0:l=[]:=List.map_eq_nil_iff.1 (hb rfl)
    subst hl0
    repeat (refine kE ?_)
    refine kG ?_;intro K hK
    refine st rfl rfl rfl (kK rfl rfl) ?_
    refine kD (hK _ ?_)
    refine vM 2 id 72 2 rfl hid ?_;intro v
    refine o5 (hret _ _ _ (.tmp rfl .nil) (λ_ _ h=>h) ?_)
    exact ⟨v,rfl,rfl⟩
  · intro h;subst h
    refine vY ?_
    repeat (refine kE ?_)
    refine kG ?_;intro K hK
    refine se rfl rfl rfl (yL (ps:=[]) id [] .any rfl Tryz.underlying73 vQ .nil rfl rfl rfl rfl) ?_;rintro _ _ ⟨v,-,rfl,rfl⟩
    refine st rfl rfl rfl (iE rfl rfl) ?_
    refine se rfl rfl rfl (lV (g:=aN.av) (l:=[]) (m:=l) (l':=l) .any rfl Tryz.underlying73 vQ TG rfl rfl rfl (upd_same _ _ _) rfl rfl rfl rfl rfl rfl rfl (.refl _) (λ_=>rfl) rfl hl) ?_;rintro _ _ ⟨v2,-,rfl,rfl⟩
    refine st rfl rfl rfl (kK rfl rfl) ?_
    refine kD (hK _ ?_)
    refine o5 (hret _ _ _ (.tmp rfl .nil) (λ_ _ h=>h) ?_)
    exact ⟨v2,rfl,xL⟩
theorem Q6 {H:AH} {id:Nat} {l:List aP} (hid:H id=none) (hl:l.length<=68719476736):PC Tryz.prog 125 [aH 8 aP.av l] H (λy H'=>∃ aU,y=.sl id aU 0 l.length/\H'=upd H id (some ⟨60,8,true,true,aU,l.map aP.av⟩)):=by
  refine yJ (c:=_) Tryz.func125 rfl rfl ?_;intro Q hret hnorm
  repeat (refine kE ?_)
  refine kG ?_;intro K hK
  refine st rfl rfl rfl (kK rfl rfl) ?_
  refine kD (hK _ ?_)
  repeat (refine kE ?_)
  refine kG ?_;intro K hK
  refine st rfl rfl rfl (iE rfl rfl) ?_
  refine se rfl rfl rfl (eG.iA (zU (xs:=l.map aP.av) (sz:=8) rfl Tryz.underlying27 rfl rfl) (λ_ h=>h) (λ_ _=>trivial)) ?_;rintro _ _ ⟨b,rfl,hb,rfl⟩
  refine kD (hK _ ?_)
  refine wJ (b:=b) rfl ?_ ?_
  · intro h;subst h
    have hl0:l=[]:=List.map_eq_nil_iff.1 (hb rfl)
    subst hl0
    repeat (refine kE ?_)
    refine kG ?_;intro K hK
    refine st rfl rfl rfl (kK rfl rfl) ?_
    refine kD (hK _ ?_)
    refine vM 2 id 60 8 rfl hid ?_;intro v
    refine o5 (hret _ _ _ (.tmp rfl .nil) (λ_ _ h=>h) ?_)
    exact ⟨v,rfl,rfl⟩
  · intro h;subst h
    refine vY ?_
    repeat (refine kE ?_)
    refine kG ?_;intro K hK
    refine se rfl rfl rfl (yL (ps:=[]) id [] .any rfl Tryz.underlying27 yH .nil rfl rfl rfl rfl) ?_;rintro _ _ ⟨v,-,rfl,rfl⟩
    refine st rfl rfl rfl (iE rfl rfl) ?_
    refine se rfl rfl rfl (lV (g:=aP.av) (l:=[]) (m:=l) (l':=l) .any rfl Tryz.underlying27 yH EH rfl rfl rfl (upd_same _ _ _) rfl rfl rfl rfl rfl rfl rfl (.refl _) aP.one rfl hl) ?_;rintro _ _ ⟨v2,-,rfl,rfl⟩
    refine st rfl rfl rfl (kK rfl rfl) ?_
    refine kD (hK _ ?_)
    refine o5 (hret _ _ _ (.tmp rfl .nil) (λ_ _ h=>h) ?_)
    exact ⟨v2,rfl,xL⟩
theorem GD {H:AH} {id:Nat} {l:List aF} (hid:H id=none) (hl:l.length<=68719476736):PC Tryz.prog 156 [aH 3 aF.av l] H (λy H'=>∃ aU,y=.sl id aU 0 l.length/\H'=upd H id (some ⟨69,3,true,true,aU,l.map aF.av⟩)):=by
  refine yJ (c:=_) Tryz.func156 rfl rfl ?_;intro Q hret hnorm
  repeat (refine kE ?_)
  refine kG ?_;intro K hK
  refine st rfl rfl rfl (kK rfl rfl) ?_
  refine kD (hK _ ?_)
  repeat (refine kE ?_)
  refine kG ?_;intro K hK
  refine st rfl rfl rfl (iE rfl rfl) ?_
  refine se rfl rfl rfl (eG.iA (zU (xs:=l.map aF.av) (sz:=3) rfl Tryz.underlying96 rfl rfl) (λ_ h=>h) (λ_ _=>trivial)) ?_;rintro _ _ ⟨b,rfl,hb,rfl⟩
  refine kD (hK _ ?_)
  refine wJ (b:=b) rfl ?_ ?_
  · intro h;subst h
    have hl0:l=[]:=List.map_eq_nil_iff.1 (hb rfl)
    subst hl0
    repeat (refine kE ?_)
    refine kG ?_;intro K hK
    refine st rfl rfl rfl (kK rfl rfl) ?_
    refine kD (hK _ ?_)
    refine vM 2 id 69 3 rfl hid ?_;intro v
    refine o5 (hret _ _ _ (.tmp rfl .nil) (λ_ _ h=>h) ?_)
    exact ⟨v,rfl,rfl⟩
  · intro h;subst h
    refine vY ?_
    repeat (refine kE ?_)
    refine kG ?_;intro K hK
    refine se rfl rfl rfl (yL (ps:=[]) id [] .any rfl Tryz.underlying96 F6 .nil rfl rfl rfl rfl) ?_;rintro _ _ ⟨v,-,rfl,rfl⟩
    refine st rfl rfl rfl (iE rfl rfl) ?_
    refine se rfl rfl rfl (lV (g:=aF.av) (l:=[]) (m:=l) (l':=l) .any rfl Tryz.underlying96 F6 P6 rfl rfl rfl (upd_same _ _ _) rfl rfl rfl rfl rfl rfl rfl (.refl _) (λ_=>rfl) rfl hl) ?_;rintro _ _ ⟨v2,-,rfl,rfl⟩
    refine st rfl rfl rfl (kK rfl rfl) ?_
    refine kD (hK _ ?_)
    refine o5 (hret _ _ _ (.tmp rfl .nil) (λ_ _ h=>h) ?_)
    exact ⟨v2,rfl,xL⟩
theorem aDI {H:AH} {id:Nat} {l:List Int} (hid:H id=none) (hl:l.length<=68719476736):PC Tryz.prog 161 [aH 1 fI l] H (λy H'=>∃ aU,y=.sl id aU 0 l.length/\H'=upd H id (some ⟨3,1,true,true,aU,l.map fI⟩)):=by
  refine yJ (c:=_) Tryz.func161 rfl rfl ?_;intro Q hret hnorm
  repeat (refine kE ?_)
  refine kG ?_;intro K hK
  refine st rfl rfl rfl (kK rfl rfl) ?_
  refine kD (hK _ ?_)
  repeat (refine kE ?_)
  refine kG ?_;intro K hK
  refine st rfl rfl rfl (iE rfl rfl) ?_
  refine se rfl rfl rfl (eG.iA (zU (xs:=l.map fI) (sz:=1) rfl Tryz.underlying22 rfl rfl) (λ_ h=>h) (λ_ _=>trivial)) ?_;rintro _ _ ⟨b,rfl,hb,rfl⟩
  refine kD (hK _ ?_)
  refine wJ (b:=b) rfl ?_ ?_
  · intro h;subst h
    have hl0:l=[]:=List.map_eq_nil_iff.1 (hb rfl)
    subst hl0
    repeat (refine kE ?_)
    refine kG ?_;intro K hK
    refine st rfl rfl rfl (kK rfl rfl) ?_
    refine kD (hK _ ?_)
    refine vM 2 id 3 1 rfl hid ?_;intro v
    refine o5 (hret _ _ _ (.tmp rfl .nil) (λ_ _ h=>h) ?_)
    exact ⟨v,rfl,rfl⟩
  · intro h;subst h
    refine vY ?_
    repeat (refine kE ?_)
    refine kG ?_;intro K hK
    refine se rfl rfl rfl (yL (ps:=[]) id [] .any rfl Tryz.underlying22 kC .nil rfl rfl rfl rfl) ?_;rintro _ _ ⟨v,-,rfl,rfl⟩
    refine st rfl rfl rfl (iE rfl rfl) ?_
    refine se rfl rfl rfl (lV (g:=fI) (l:=[]) (m:=l) (l':=l) .any rfl Tryz.underlying22 kC nK rfl rfl rfl (upd_same _ _ _) rfl rfl rfl rfl rfl rfl rfl (.refl _) (λ_=>rfl) rfl hl) ?_;rintro _ _ ⟨v2,-,rfl,rfl⟩
    refine st rfl rfl rfl (kK rfl rfl) ?_
    refine kD (hK _ ?_)
    refine o5 (hret _ _ _ (.tmp rfl .nil) (λ_ _ h=>h) ?_)
    exact ⟨v2,rfl,xL⟩
end
end Go.Pv
