import Derived.Test.YtcnbfkppbaenbaaGreatPvAM
import Derived.Test.YtcnbfkppbaenbaaGreatPwG
import Derived.Test.YtcnbfkppbaenbaaGreatProg
set_option linter.unusedVariables false
set_option linter.unusedSimpArgs false
namespace Go.Pv
open Go.Proofs
theorem mixed:Tryz.prog.follows .mixedOrders=true:=by kernel_rfl
set_option maxRecDepth 100000
set_option maxHeartbeats 4000000
structure fC where
  gG:Int
  gQ:Int
  bZ:List Int
  Methods:List (List Int)
  gL:List (List Int)
  deriving DecidableEq,Inhabited
@[reducible] def fC.av (x:fC):List AV:=[int x.gG,int x.gQ,aP 1 fI x.bZ,aP 1 (fL 1 fI) x.Methods,aP 1 (fL 1 fI) x.gL]
theorem fC.dH (x:fC):∀ a∈x.av,PV a:=by
  intro a ha;simp only [fC.av,List.mem_cons,List.not_mem_nil,or_false] at ha
  rcases ha with rfl | rfl | rfl | rfl | rfl
  · exact bT x.gG
  · exact bT x.gQ
  · exact (iJ nV) x.bZ
  · exact (iJ (IB nV)) x.Methods
  · exact (iJ (IB nV)) x.gL
structure aB where
  aG:Int
  Value:Int
  bO:Int
  deriving DecidableEq,Inhabited
@[reducible] def aB.av (x:aB):List AV:=[int x.aG,int x.Value,int x.bO]
theorem aB.dH (x:aB):∀ a∈x.av,PV a:=by
  intro a ha;simp only [aB.av,List.mem_cons,List.not_mem_nil,or_false] at ha
  rcases ha with rfl | rfl | rfl
  · exact bT x.aG
  · exact bT x.Value
  · exact bT x.bO
structure kU where
  a0:Int
  a1:Int
  a2:Int
  deriving DecidableEq,Inhabited
@[reducible] def kU.av (x:kU):List AV:=[int x.a0,int x.a1,int x.a2]
theorem kU.dH (x:kU):∀ a∈x.av,PV a:=by
  intro a ha;simp only [kU.av,List.mem_cons,List.not_mem_nil,or_false] at ha
  rcases ha with rfl | rfl | rfl
  · exact bT x.a0
  · exact bT x.a1
  · exact bT x.a2
structure aH where
  aW:List aB
  bN:kU
  deriving DecidableEq,Inhabited
@[reducible] def aH.av (x:aH):List AV:=[aP 3 aB.av x.aW,int x.bN.a0,int x.bN.a1,int x.bN.a2]
theorem aH.dH (x:aH):∀ a∈x.av,PV a:=by
  intro a ha;simp only [aH.av,List.mem_cons,List.not_mem_nil,or_false] at ha
  rcases ha with rfl | rfl | rfl | rfl
  · exact (iJ aB.dH) x.aW
  · exact bT x.bN.a0
  · exact bT x.bN.a1
  · exact bT x.bN.a2
structure cO where
  Open:Int
  iW:Int
  jH:Int
  jG:Int
  iY:Int
  jF:Int
  jE:Int
  iX:Int
  jC:Int
  jD:Int
  jB:Int
  deriving DecidableEq,Inhabited
@[reducible] def cO.av (x:cO):List AV:=[int x.Open,int x.iW,int x.jH,int x.jG,int x.iY,int x.jF,int x.jE,int x.iX,int x.jC,int x.jD,int x.jB]
theorem cO.dH (x:cO):∀ a∈x.av,PV a:=by
  intro a ha;simp only [cO.av,List.mem_cons,List.not_mem_nil,or_false] at ha
  rcases ha with rfl | rfl | rfl | rfl | rfl | rfl | rfl | rfl | rfl | rfl | rfl
  · exact bT x.Open
  · exact bT x.iW
  · exact bT x.jH
  · exact bT x.jG
  · exact bT x.iY
  · exact bT x.jF
  · exact bT x.jE
  · exact bT x.iX
  · exact bT x.jC
  · exact bT x.jD
  · exact bT x.jB
structure aQ where
  fU:Int
  Closed:Bool
  bX:List aH
  dR:List Int
  dQ:List cO
  gI:List Int
  Down:List Int
  fV:List aQ
  deriving Inhabited
mutual
def aQ.av:aQ->List AV
  | ⟨fU,Closed,bX,dR,dQ,gI,Down,fV⟩=>[int fU,aT Closed,aP 4 aH.av bX,aP 1 fI dR,aP 11 cO.av dQ,aP 1 fI gI,aP 1 fI Down,.list 8 (aQ.vF fV)]
def aQ.vF:List aQ->List (List AV)
  | []=>[]
  | x :: r=>aQ.av x :: aQ.vF r
end
theorem aQ.aHE (l:List aQ):aQ.vF l=l.map aQ.av:=by
  induction l with
  | nil=>unfold aQ.vF;rfl
  | cons x r ih=>unfold aQ.vF;rw [ih];rfl
@[reducible] def gE (x:aQ):List AV:=[int x.fU,aT x.Closed,aP 4 aH.av x.bX,aP 1 fI x.dR,aP 11 cO.av x.dQ,aP 1 fI x.gI,aP 1 fI x.Down,aP 8 aQ.av x.fV]
theorem aQ.fF (x:aQ):aQ.av x=[int x.fU,aT x.Closed,aP 4 aH.av x.bX,aP 1 fI x.dR,aP 11 cO.av x.dQ,aP 1 fI x.gI,aP 1 fI x.Down,aP 8 aQ.av x.fV]:=by
  cases x;unfold aQ.av;rw [aQ.aHE]
theorem aQ.one (x:aQ):jS (aQ.av x)=true:=by rw [aQ.fF];rfl
mutual
theorem aQ.dH:∀ (x:aQ),∀ a∈x.av,PV a
  | ⟨fU,Closed,bX,dR,dQ,gI,Down,fV⟩=>by
    intro a ha;unfold aQ.av at ha;simp only [List.mem_cons,List.not_mem_nil,or_false] at ha
    rcases ha with rfl | rfl | rfl | rfl | rfl | rfl | rfl | rfl
    · exact bT fU
    · exact gF Closed
    · exact (iJ aH.dH) bX
    · exact (iJ nV) dR
    · exact (iJ cO.dH) dQ
    · exact (iJ nV) gI
    · exact (iJ nV) Down
    · exact .list (λr hr=>aQ.aEJ fV r hr)
theorem aQ.aEJ:∀ (l:List aQ),∀ r∈aQ.vF l,∀ a∈r,PV a
  | []=>by intro r hr;unfold aQ.vF at hr;cases hr
  | x :: l=>by
    intro r hr;unfold aQ.vF at hr
    rcases List.mem_cons.1 hr with e | h
    · rw [e];exact aQ.dH x
    · exact aQ.aEJ l r h
end
structure dG where
  eY:Int
  Item:Int
  Loc:Int
  aG:Int
  Value:Int
  Open:Int
  gW:Int
  gP:Int
  deriving DecidableEq,Inhabited
@[reducible] def dG.av (x:dG):List AV:=[int x.eY,int x.Item,int x.Loc,int x.aG,int x.Value,int x.Open,int x.gW,int x.gP]
theorem dG.dH (x:dG):∀ a∈x.av,PV a:=by
  intro a ha;simp only [dG.av,List.mem_cons,List.not_mem_nil,or_false] at ha
  rcases ha with rfl | rfl | rfl | rfl | rfl | rfl | rfl | rfl
  · exact bT x.eY
  · exact bT x.Item
  · exact bT x.Loc
  · exact bT x.aG
  · exact bT x.Value
  · exact bT x.Open
  · exact bT x.gW
  · exact bT x.gP
theorem dG.eqv (x y:dG):(decide (x.eY=y.eY) && (decide (x.Item=y.Item) && (decide (x.Loc=y.Loc) && (decide (x.aG=y.aG) && (decide (x.Value=y.Value) && (decide (x.Open=y.Open) && (decide (x.gW=y.gW) && (decide (x.gP=y.gP) && true))))))))=decide (x=y):=by
  cases x;cases y;rw [Bool.eq_iff_iff];simp only [Bool.and_eq_true,decide_eq_true_eq,dG.mk.injEq,and_true]
structure eZ where
  eY:Int
  Item:Int
  Loc:Int
  aG:Int
  gP:Int
  pR:Int
  bO:Int
  nG:Int
  pG:Bool
  deriving DecidableEq,Inhabited
@[reducible] def eZ.av (x:eZ):List AV:=[int x.eY,int x.Item,int x.Loc,int x.aG,int x.gP,int x.pR,int x.bO,int x.nG,aT x.pG]
theorem eZ.dH (x:eZ):∀ a∈x.av,PV a:=by
  intro a ha;simp only [eZ.av,List.mem_cons,List.not_mem_nil,or_false] at ha
  rcases ha with rfl | rfl | rfl | rfl | rfl | rfl | rfl | rfl | rfl
  · exact bT x.eY
  · exact bT x.Item
  · exact bT x.Loc
  · exact bT x.aG
  · exact bT x.gP
  · exact bT x.pR
  · exact bT x.bO
  · exact bT x.nG
  · exact gF x.pG
theorem eZ.eqv (x y:eZ):(decide (x.eY=y.eY) && (decide (x.Item=y.Item) && (decide (x.Loc=y.Loc) && (decide (x.aG=y.aG) && (decide (x.gP=y.gP) && (decide (x.pR=y.pR) && (decide (x.bO=y.bO) && (decide (x.nG=y.nG) && (decide (x.pG=y.pG) && true)))))))))=decide (x=y):=by
  cases x;cases y;rw [Bool.eq_iff_iff];simp only [Bool.and_eq_true,decide_eq_true_eq,eZ.mk.injEq,and_true]
structure fT where
  rZ:Int
  To:Int
  Item:Int
  aG:Int
  Value:Int
  bO:Int
  deriving DecidableEq,Inhabited
@[reducible] def fT.av (x:fT):List AV:=[int x.rZ,int x.To,int x.Item,int x.aG,int x.Value,int x.bO]
theorem fT.dH (x:fT):∀ a∈x.av,PV a:=by
  intro a ha;simp only [fT.av,List.mem_cons,List.not_mem_nil,or_false] at ha
  rcases ha with rfl | rfl | rfl | rfl | rfl | rfl
  · exact bT x.rZ
  · exact bT x.To
  · exact bT x.Item
  · exact bT x.aG
  · exact bT x.Value
  · exact bT x.bO
theorem fT.eqv (x y:fT):(decide (x.rZ=y.rZ) && (decide (x.To=y.To) && (decide (x.Item=y.Item) && (decide (x.aG=y.aG) && (decide (x.Value=y.Value) && (decide (x.bO=y.bO) && true))))))=decide (x=y):=by
  cases x;cases y;rw [Bool.eq_iff_iff];simp only [Bool.and_eq_true,decide_eq_true_eq,fT.mk.injEq,and_true]
structure aA where
  bH:fC
  bD:List aQ
  bY:List dG
  eF:List eZ
  dL:List fT
  Done:Int
  deriving Inhabited
@[reducible] def aA.av (x:aA):List AV:=[int x.bH.gG,int x.bH.gQ,aP 1 fI x.bH.bZ,aP 1 (fL 1 fI) x.bH.Methods,aP 1 (fL 1 fI) x.bH.gL,aP 8 aQ.av x.bD,aP 8 dG.av x.bY,aP 9 eZ.av x.eF,aP 6 fT.av x.dL,int x.Done]
theorem aA.dH (x:aA):∀ a∈x.av,PV a:=by
  intro a ha;simp only [aA.av,List.mem_cons,List.not_mem_nil,or_false] at ha
  rcases ha with rfl | rfl | rfl | rfl | rfl | rfl | rfl | rfl | rfl | rfl
  · exact bT x.bH.gG
  · exact bT x.bH.gQ
  · exact (iJ nV) x.bH.bZ
  · exact (iJ (IB nV)) x.bH.Methods
  · exact (iJ (IB nV)) x.bH.gL
  · exact (iJ aQ.dH) x.bD
  · exact (iJ dG.dH) x.bY
  · exact (iJ eZ.dH) x.eF
  · exact (iJ fT.dH) x.dL
  · exact bT x.Done
structure bK where
  Kind:Int
  E:Int
  Item:Int
  Loc:Int
  To:Int
  aG:Int
  bM:Int
  Ref:Int
  fA:List Int
  deriving DecidableEq,Inhabited
@[reducible] def bK.av (x:bK):List AV:=[int x.Kind,int x.E,int x.Item,int x.Loc,int x.To,int x.aG,int x.bM,int x.Ref,aP 1 fI x.fA]
theorem bK.dH (x:bK):∀ a∈x.av,PV a:=by
  intro a ha;simp only [bK.av,List.mem_cons,List.not_mem_nil,or_false] at ha
  rcases ha with rfl | rfl | rfl | rfl | rfl | rfl | rfl | rfl | rfl
  · exact bT x.Kind
  · exact bT x.E
  · exact bT x.Item
  · exact bT x.Loc
  · exact bT x.To
  · exact bT x.aG
  · exact bT x.bM
  · exact bT x.Ref
  · exact (iJ nV) x.fA
structure oL where
  a0:aB
  a1:aB
  a2:aB
  deriving DecidableEq,Inhabited
@[reducible] def oL.av (x:oL):List AV:=[int x.a0.aG,int x.a0.Value,int x.a0.bO,int x.a1.aG,int x.a1.Value,int x.a1.bO,int x.a2.aG,int x.a2.Value,int x.a2.bO]
theorem oL.dH (x:oL):∀ a∈x.av,PV a:=by
  intro a ha;simp only [oL.av,List.mem_cons,List.not_mem_nil,or_false] at ha
  rcases ha with rfl | rfl | rfl | rfl | rfl | rfl | rfl | rfl | rfl
  · exact bT x.a0.aG
  · exact bT x.a0.Value
  · exact bT x.a0.bO
  · exact bT x.a1.aG
  · exact bT x.a1.Value
  · exact bT x.a1.bO
  · exact bT x.a2.aG
  · exact bT x.a2.Value
  · exact bT x.a2.bO
structure aN where
  dI:Int
  bM:Int
  deriving DecidableEq,Inhabited
@[reducible] def aN.av (x:aN):List AV:=[int x.dI,int x.bM]
theorem aN.dH (x:aN):∀ a∈x.av,PV a:=by
  intro a ha;simp only [aN.av,List.mem_cons,List.not_mem_nil,or_false] at ha
  rcases ha with rfl | rfl
  · exact bT x.dI
  · exact bT x.bM
structure jQ where
  a0:Int
  a1:Int
  a2:Int
  a3:Int
  a4:Int
  a5:Int
  a6:Int
  a7:Int
  a8:Int
  a9:Int
  l6:Int
  deriving DecidableEq,Inhabited
@[reducible] def jQ.av (x:jQ):List AV:=[int x.a0,int x.a1,int x.a2,int x.a3,int x.a4,int x.a5,int x.a6,int x.a7,int x.a8,int x.a9,int x.l6]
theorem jQ.dH (x:jQ):∀ a∈x.av,PV a:=by
  intro a ha;simp only [jQ.av,List.mem_cons,List.not_mem_nil,or_false] at ha
  rcases ha with rfl | rfl | rfl | rfl | rfl | rfl | rfl | rfl | rfl | rfl | rfl
  · exact bT x.a0
  · exact bT x.a1
  · exact bT x.a2
  · exact bT x.a3
  · exact bT x.a4
  · exact bT x.a5
  · exact bT x.a6
  · exact bT x.a7
  · exact bT x.a8
  · exact bT x.a9
  · exact bT x.l6
theorem jQ.eqv (x y:jQ):(decide (x.a0=y.a0) && (decide (x.a1=y.a1) && (decide (x.a2=y.a2) && (decide (x.a3=y.a3) && (decide (x.a4=y.a4) && (decide (x.a5=y.a5) && (decide (x.a6=y.a6) && (decide (x.a7=y.a7) && (decide (x.a8=y.a8) && (decide (x.a9=y.a9) && (decide (x.l6=y.l6) && true)))))))))))=decide (x=y):=by
  cases x;cases y;rw [Bool.eq_iff_iff];simp only [Bool.and_eq_true,decide_eq_true_eq,jQ.mk.injEq,and_true]
structure GB where
  deriving DecidableEq,Inhabited
@[reducible] def GB.av (x:GB):List AV:=[]
theorem GB.dH (x:GB):∀ a∈x.av,PV a:=by
  intro a ha;cases ha
structure FR where
  deriving DecidableEq,Inhabited
@[reducible] def FR.av (x:FR):List AV:=[]
theorem FR.dH (x:FR):∀ a∈x.av,PV a:=by
  intro a ha;cases ha
structure MF where
  deriving DecidableEq,Inhabited
@[reducible] def MF.av (x:MF):List AV:=[]
theorem MF.dH (x:MF):∀ a∈x.av,PV a:=by
  intro a ha;cases ha
structure B5 where
  cost:Int
  deriving DecidableEq,Inhabited
@[reducible] def B5.av (x:B5):List AV:=[int x.cost]
theorem B5.dH (x:B5):∀ a∈x.av,PV a:=by
  intro a ha;simp only [B5.av,List.mem_cons,List.not_mem_nil,or_false] at ha
  subst ha;exact bT x.cost
structure D4 where
  a0:Int
  a1:Int
  deriving DecidableEq,Inhabited
@[reducible] def D4.av (x:D4):List AV:=[int x.a0,int x.a1]
theorem D4.dH (x:D4):∀ a∈x.av,PV a:=by
  intro a ha;simp only [D4.av,List.mem_cons,List.not_mem_nil,or_false] at ha
  rcases ha with rfl | rfl
  · exact bT x.a0
  · exact bT x.a1
structure D3 where
  YT:Int
  lines:List aN
  deriving DecidableEq,Inhabited
@[reducible] def D3.av (x:D3):List AV:=[int x.YT,aP 2 aN.av x.lines]
theorem D3.dH (x:D3):∀ a∈x.av,PV a:=by
  intro a ha;simp only [D3.av,List.mem_cons,List.not_mem_nil,or_false] at ha
  rcases ha with rfl | rfl
  · exact bT x.YT
  · exact (iJ aN.dH) x.lines
theorem fO:gT Tryz.prog 3=some (1,false):=by kernel_rfl
theorem sh4:gT Tryz.prog 4=some (1,false):=by kernel_rfl
theorem tZ:gT Tryz.prog 22=some (1,false):=by kernel_rfl
theorem RN:gT Tryz.prog 27=some (1,false):=by kernel_rfl
theorem CB:gT Tryz.prog 32=some (10,true):=by kernel_rfl
theorem E7:gT Tryz.prog 57=some (1,false):=by kernel_rfl
theorem DY:gT Tryz.prog 58=some (1,false):=by kernel_rfl
theorem qY:gT Tryz.prog 60=some (8,true):=by kernel_rfl
theorem NM:gT Tryz.prog 73=some (6,true):=by kernel_rfl
theorem kN:gT Tryz.prog 75=some (3,true):=by kernel_rfl
theorem ML:gT Tryz.prog 78=some (9,true):=by kernel_rfl
theorem ZB:gT Tryz.prog 102=some (11,true):=by kernel_rfl
theorem kJ:gT Tryz.prog 105=some (2,true):=by kernel_rfl
theorem Y9:gT Tryz.prog 124=some (4,true):=by kernel_rfl
theorem qL:gT Tryz.prog 163=some (1,false):=by kernel_rfl
theorem xC:gT Tryz.prog 196=some (1,false):=by kernel_rfl
theorem RU:gT Tryz.prog 253=some (2,true):=by kernel_rfl
theorem PD:lF Tryz.prog 102=some 88:=by kernel_rfl
theorem RE:lF Tryz.prog 105=some 16:=by kernel_rfl
theorem RP:lF Tryz.prog 124=some 48:=by kernel_rfl
theorem WU:lF Tryz.prog 22=some 24:=by kernel_rfl
theorem nR:lF Tryz.prog 3=some 8:=by kernel_rfl
theorem G6:lF Tryz.prog 60=some 160:=by kernel_rfl
theorem aMA:lF Tryz.prog 73=some 48:=by kernel_rfl
theorem SI:lF Tryz.prog 75=some 24:=by kernel_rfl
theorem aQX:lF Tryz.prog 78=some 72:=by kernel_rfl
theorem IP:kK Tryz.prog 102=some (11,[.int .i64 0,.int .i64 0,.int .i64 0,.int .i64 0,.int .i64 0,.int .i64 0,.int .i64 0,.int .i64 0,.int .i64 0,.int .i64 0,.int .i64 0]):=by kernel_rfl
theorem qW:kK Tryz.prog 105=some (2,[.int .i64 0,.int .i64 0]):=by kernel_rfl
theorem a04:kK Tryz.prog 115=some (2,[.int .i64 0,.slice none 0 0]):=by kernel_rfl
theorem IM:kK Tryz.prog 124=some (4,[.slice none 0 0,.int .i64 0,.int .i64 0,.int .i64 0]):=by kernel_rfl
theorem rO:kK Tryz.prog 163=some (1,[.pointer none]):=by kernel_rfl
theorem GJ:kK Tryz.prog 22=some (1,[.slice none 0 0]):=by kernel_rfl
theorem aKH:kK Tryz.prog 253=some (2,[.pointer none,.slice none 0 0]):=by kernel_rfl
theorem kD:kK Tryz.prog 3=some (1,[.int .i64 0]):=by kernel_rfl
theorem yE:kK Tryz.prog 60=some (8,[.int .i64 0,.bool false,.slice none 0 0,.slice none 0 0,.slice none 0 0,.slice none 0 0,.slice none 0 0,.slice none 0 0]):=by kernel_rfl
theorem aJ6:kK Tryz.prog 73=some (6,[.int .i64 0,.int .i64 0,.int .i64 0,.int .i64 0,.int .i64 0,.int .i64 0]):=by kernel_rfl
theorem BX:kK Tryz.prog 75=some (3,[.int .i64 0,.int .i64 0,.int .i64 0]):=by kernel_rfl
theorem aW3:kK Tryz.prog 78=some (9,[.int .i64 0,.int .i64 0,.int .i64 0,.int .i64 0,.int .i64 0,.int .i64 0,.int .i64 0,.int .i64 0,.bool false]):=by kernel_rfl
theorem c3:Tryz.prog.cellsOf 3=1:=by kernel_rfl
theorem a00:bP Tryz.prog 100=true:=by kernel_rfl
theorem a06:bP Tryz.prog 101=true:=by kernel_rfl
theorem a0Z:bP Tryz.prog 102=true:=by kernel_rfl
theorem yS:bP Tryz.prog 103=true:=by kernel_rfl
theorem a0W:bP Tryz.prog 104=true:=by kernel_rfl
theorem a0P:bP Tryz.prog 105=true:=by kernel_rfl
theorem aUK:bP Tryz.prog 106=true:=by kernel_rfl
theorem aHJ:bP Tryz.prog 107=true:=by kernel_rfl
theorem aA6:bP Tryz.prog 108=true:=by kernel_rfl
theorem aX5:bP Tryz.prog 109=true:=by kernel_rfl
theorem aO9:bP Tryz.prog 11=true:=by kernel_rfl
theorem a0L:bP Tryz.prog 110=true:=by kernel_rfl
theorem aX0:bP Tryz.prog 111=true:=by kernel_rfl
theorem SA:bP Tryz.prog 112=true:=by kernel_rfl
theorem aSO:bP Tryz.prog 113=true:=by kernel_rfl
theorem aYU:bP Tryz.prog 114=true:=by kernel_rfl
theorem aP8:bP Tryz.prog 116=true:=by kernel_rfl
theorem aGZ:bP Tryz.prog 117=true:=by kernel_rfl
theorem aK2:bP Tryz.prog 118=true:=by kernel_rfl
theorem aIM:bP Tryz.prog 119=true:=by kernel_rfl
theorem aVK:bP Tryz.prog 12=true:=by kernel_rfl
theorem R7:bP Tryz.prog 124=true:=by kernel_rfl
theorem FB:bP Tryz.prog 125=true:=by kernel_rfl
theorem o5:bP Tryz.prog 126=true:=by kernel_rfl
theorem uW:bP Tryz.prog 127=true:=by kernel_rfl
theorem CO:bP Tryz.prog 128=true:=by kernel_rfl
theorem UU:bP Tryz.prog 129=true:=by kernel_rfl
theorem aE6:bP Tryz.prog 130=true:=by kernel_rfl
theorem zS:bP Tryz.prog 131=true:=by kernel_rfl
theorem sQ:bP Tryz.prog 132=true:=by kernel_rfl
theorem aAN:bP Tryz.prog 133=true:=by kernel_rfl
theorem aSU:bP Tryz.prog 134=true:=by kernel_rfl
theorem DF:bP Tryz.prog 135=true:=by kernel_rfl
theorem kE:bP Tryz.prog 136=true:=by kernel_rfl
theorem aIL:bP Tryz.prog 137=true:=by kernel_rfl
theorem aA3:bP Tryz.prog 138=true:=by kernel_rfl
theorem zK:bP Tryz.prog 139=true:=by kernel_rfl
theorem OW:bP Tryz.prog 14=true:=by kernel_rfl
theorem aLZ:bP Tryz.prog 140=true:=by kernel_rfl
theorem rH:bP Tryz.prog 141=true:=by kernel_rfl
theorem aOU:bP Tryz.prog 142=true:=by kernel_rfl
theorem uO:bP Tryz.prog 143=true:=by kernel_rfl
theorem aM5:bP Tryz.prog 144=true:=by kernel_rfl
theorem BF:bP Tryz.prog 145=true:=by kernel_rfl
theorem aRY:bP Tryz.prog 146=true:=by kernel_rfl
theorem aVE:bP Tryz.prog 147=true:=by kernel_rfl
theorem aW7:bP Tryz.prog 148=true:=by kernel_rfl
theorem aWV:bP Tryz.prog 149=true:=by kernel_rfl
theorem XD:bP Tryz.prog 150=true:=by kernel_rfl
theorem aTV:bP Tryz.prog 151=true:=by kernel_rfl
theorem QO:bP Tryz.prog 152=true:=by kernel_rfl
theorem aUB:bP Tryz.prog 153=true:=by kernel_rfl
theorem aT6:bP Tryz.prog 154=true:=by kernel_rfl
theorem aRV:bP Tryz.prog 155=true:=by kernel_rfl
theorem aIY:bP Tryz.prog 156=true:=by kernel_rfl
theorem qO:bP Tryz.prog 157=true:=by kernel_rfl
theorem oK:bP Tryz.prog 158=true:=by kernel_rfl
theorem aH4:bP Tryz.prog 159=true:=by kernel_rfl
theorem AU:bP Tryz.prog 160=true:=by kernel_rfl
theorem qV:bP Tryz.prog 161=true:=by kernel_rfl
theorem GQ:bP Tryz.prog 162=true:=by kernel_rfl
theorem TM:bP Tryz.prog 163=true:=by kernel_rfl
theorem aZT:bP Tryz.prog 164=true:=by kernel_rfl
theorem aZ6:bP Tryz.prog 165=true:=by kernel_rfl
theorem a0U:bP Tryz.prog 166=true:=by kernel_rfl
theorem aLP:bP Tryz.prog 167=true:=by kernel_rfl
theorem aFY:bP Tryz.prog 168=true:=by kernel_rfl
theorem ED:bP Tryz.prog 169=true:=by kernel_rfl
theorem PS:bP Tryz.prog 17=true:=by kernel_rfl
theorem aUI:bP Tryz.prog 170=true:=by kernel_rfl
theorem wZ:bP Tryz.prog 171=true:=by kernel_rfl
theorem CU:bP Tryz.prog 172=true:=by kernel_rfl
theorem aXI:bP Tryz.prog 173=true:=by kernel_rfl
theorem vP:bP Tryz.prog 174=true:=by kernel_rfl
theorem aST:bP Tryz.prog 175=true:=by kernel_rfl
theorem aRR:bP Tryz.prog 18=true:=by kernel_rfl
theorem Z7:bP Tryz.prog 181=true:=by kernel_rfl
theorem aLQ:bP Tryz.prog 183=true:=by kernel_rfl
theorem aBD:bP Tryz.prog 184=true:=by kernel_rfl
theorem aFN:bP Tryz.prog 185=true:=by kernel_rfl
theorem aUP:bP Tryz.prog 186=true:=by kernel_rfl
theorem vD:bP Tryz.prog 187=true:=by kernel_rfl
theorem aXA:bP Tryz.prog 188=true:=by kernel_rfl
theorem aGY:bP Tryz.prog 189=true:=by kernel_rfl
theorem aSE:bP Tryz.prog 190=true:=by kernel_rfl
theorem R4:bP Tryz.prog 191=true:=by kernel_rfl
theorem aQS:bP Tryz.prog 192=true:=by kernel_rfl
theorem zM:bP Tryz.prog 193=true:=by kernel_rfl
theorem aXX:bP Tryz.prog 194=true:=by kernel_rfl
theorem Z0:bP Tryz.prog 195=true:=by kernel_rfl
theorem V6:bP Tryz.prog 196=true:=by kernel_rfl
theorem QR:bP Tryz.prog 197=true:=by kernel_rfl
theorem aJW:bP Tryz.prog 198=true:=by kernel_rfl
theorem aXV:bP Tryz.prog 199=true:=by kernel_rfl
theorem a1B:bP Tryz.prog 20=true:=by kernel_rfl
theorem aGL:bP Tryz.prog 200=true:=by kernel_rfl
theorem aO6:bP Tryz.prog 201=true:=by kernel_rfl
theorem VB:bP Tryz.prog 202=true:=by kernel_rfl
theorem WJ:bP Tryz.prog 203=true:=by kernel_rfl
theorem aOV:bP Tryz.prog 204=true:=by kernel_rfl
theorem aQ3:bP Tryz.prog 205=true:=by kernel_rfl
theorem WN:bP Tryz.prog 206=true:=by kernel_rfl
theorem aHA:bP Tryz.prog 207=true:=by kernel_rfl
theorem aET:bP Tryz.prog 208=true:=by kernel_rfl
theorem aXM:bP Tryz.prog 209=true:=by kernel_rfl
theorem a03:bP Tryz.prog 21=true:=by kernel_rfl
theorem aWT:bP Tryz.prog 210=true:=by kernel_rfl
theorem aRU:bP Tryz.prog 211=true:=by kernel_rfl
theorem aWI:bP Tryz.prog 212=true:=by kernel_rfl
theorem ZH:bP Tryz.prog 213=true:=by kernel_rfl
theorem oH:bP Tryz.prog 214=true:=by kernel_rfl
theorem JB:bP Tryz.prog 215=true:=by kernel_rfl
theorem aPK:bP Tryz.prog 216=true:=by kernel_rfl
theorem yJ:bP Tryz.prog 217=true:=by kernel_rfl
theorem aWS:bP Tryz.prog 218=true:=by kernel_rfl
theorem aQK:bP Tryz.prog 219=true:=by kernel_rfl
theorem a02:bP Tryz.prog 22=true:=by kernel_rfl
theorem V4:bP Tryz.prog 220=true:=by kernel_rfl
theorem CQ:bP Tryz.prog 221=true:=by kernel_rfl
theorem N8:bP Tryz.prog 222=true:=by kernel_rfl
theorem O3:bP Tryz.prog 223=true:=by kernel_rfl
theorem XV:bP Tryz.prog 224=true:=by kernel_rfl
theorem WX:bP Tryz.prog 225=true:=by kernel_rfl
theorem aA7:bP Tryz.prog 226=true:=by kernel_rfl
theorem aJJ:bP Tryz.prog 227=true:=by kernel_rfl
theorem OR:bP Tryz.prog 228=true:=by kernel_rfl
theorem aIB:bP Tryz.prog 229=true:=by kernel_rfl
theorem a08:bP Tryz.prog 23=true:=by kernel_rfl
theorem aRE:bP Tryz.prog 230=true:=by kernel_rfl
theorem XF:bP Tryz.prog 231=true:=by kernel_rfl
theorem aU9:bP Tryz.prog 232=true:=by kernel_rfl
theorem aF9:bP Tryz.prog 233=true:=by kernel_rfl
theorem aOF:bP Tryz.prog 234=true:=by kernel_rfl
theorem aIE:bP Tryz.prog 235=true:=by kernel_rfl
theorem aHK:bP Tryz.prog 236=true:=by kernel_rfl
theorem aUA:bP Tryz.prog 237=true:=by kernel_rfl
theorem JC:bP Tryz.prog 238=true:=by kernel_rfl
theorem aJB:bP Tryz.prog 239=true:=by kernel_rfl
theorem aYQ:bP Tryz.prog 24=true:=by kernel_rfl
theorem OD:bP Tryz.prog 240=true:=by kernel_rfl
theorem aTR:bP Tryz.prog 241=true:=by kernel_rfl
theorem aHR:bP Tryz.prog 242=true:=by kernel_rfl
theorem aLV:bP Tryz.prog 243=true:=by kernel_rfl
theorem aHQ:bP Tryz.prog 244=true:=by kernel_rfl
theorem aL4:bP Tryz.prog 245=true:=by kernel_rfl
theorem xE:bP Tryz.prog 246=true:=by kernel_rfl
theorem aVZ:bP Tryz.prog 247=true:=by kernel_rfl
theorem aIH:bP Tryz.prog 248=true:=by kernel_rfl
theorem YG:bP Tryz.prog 249=true:=by kernel_rfl
theorem aPV:bP Tryz.prog 25=true:=by kernel_rfl
theorem aN4:bP Tryz.prog 250=true:=by kernel_rfl
theorem aVS:bP Tryz.prog 251=true:=by kernel_rfl
theorem aYT:bP Tryz.prog 26=true:=by kernel_rfl
theorem aGQ:bP Tryz.prog 27=true:=by kernel_rfl
theorem aS1:bP Tryz.prog 270=true:=by kernel_rfl
theorem aOB:bP Tryz.prog 271=true:=by kernel_rfl
theorem aFF:bP Tryz.prog 272=true:=by kernel_rfl
theorem QU:bP Tryz.prog 273=true:=by kernel_rfl
theorem aXC:bP Tryz.prog 274=true:=by kernel_rfl
theorem UF:bP Tryz.prog 275=true:=by kernel_rfl
theorem aLA:bP Tryz.prog 276=true:=by kernel_rfl
theorem aK1:bP Tryz.prog 277=true:=by kernel_rfl
theorem aUV:bP Tryz.prog 278=true:=by kernel_rfl
theorem aRI:bP Tryz.prog 279=true:=by kernel_rfl
theorem aS0:bP Tryz.prog 280=true:=by kernel_rfl
theorem aLB:bP Tryz.prog 281=true:=by kernel_rfl
theorem RF:bP Tryz.prog 282=true:=by kernel_rfl
theorem OB:bP Tryz.prog 283=true:=by kernel_rfl
theorem ID:bP Tryz.prog 284=true:=by kernel_rfl
theorem aOH:bP Tryz.prog 285=true:=by kernel_rfl
theorem aRB:bP Tryz.prog 286=true:=by kernel_rfl
theorem aSR:bP Tryz.prog 287=true:=by kernel_rfl
theorem aU2:bP Tryz.prog 288=true:=by kernel_rfl
theorem aWO:bP Tryz.prog 289=true:=by kernel_rfl
theorem aV2:bP Tryz.prog 290=true:=by kernel_rfl
theorem aG0:bP Tryz.prog 291=true:=by kernel_rfl
theorem aI5:bP Tryz.prog 292=true:=by kernel_rfl
theorem JZ:bP Tryz.prog 32=true:=by kernel_rfl
theorem Y3:bP Tryz.prog 33=true:=by kernel_rfl
theorem aV9:bP Tryz.prog 34=true:=by kernel_rfl
theorem aQF:bP Tryz.prog 35=true:=by kernel_rfl
theorem aT8:bP Tryz.prog 36=true:=by kernel_rfl
theorem aUU:bP Tryz.prog 37=true:=by kernel_rfl
theorem aR7:bP Tryz.prog 38=true:=by kernel_rfl
theorem VH:bP Tryz.prog 41=true:=by kernel_rfl
theorem aFW:bP Tryz.prog 42=true:=by kernel_rfl
theorem aAE:bP Tryz.prog 43=true:=by kernel_rfl
theorem aIF:bP Tryz.prog 44=true:=by kernel_rfl
theorem aR2:bP Tryz.prog 45=true:=by kernel_rfl
theorem aI6:bP Tryz.prog 46=true:=by kernel_rfl
theorem aXZ:bP Tryz.prog 47=true:=by kernel_rfl
theorem aQH:bP Tryz.prog 48=true:=by kernel_rfl
theorem a01:bP Tryz.prog 52=true:=by kernel_rfl
theorem KM:bP Tryz.prog 53=true:=by kernel_rfl
theorem aG4:bP Tryz.prog 54=true:=by kernel_rfl
theorem a09:bP Tryz.prog 55=true:=by kernel_rfl
theorem a0Y:bP Tryz.prog 56=true:=by kernel_rfl
theorem aZ0:bP Tryz.prog 57=true:=by kernel_rfl
theorem aQ1:bP Tryz.prog 58=true:=by kernel_rfl
theorem aZC:bP Tryz.prog 59=true:=by kernel_rfl
theorem a0K:bP Tryz.prog 60=true:=by kernel_rfl
theorem aZB:bP Tryz.prog 61=true:=by kernel_rfl
theorem aPZ:bP Tryz.prog 63=true:=by kernel_rfl
theorem aBN:bP Tryz.prog 65=true:=by kernel_rfl
theorem aHT:bP Tryz.prog 66=true:=by kernel_rfl
theorem aSP:bP Tryz.prog 67=true:=by kernel_rfl
theorem zC:bP Tryz.prog 68=true:=by kernel_rfl
theorem VT:bP Tryz.prog 69=true:=by kernel_rfl
theorem sM:bP Tryz.prog 72=true:=by kernel_rfl
theorem aHD:bP Tryz.prog 73=true:=by kernel_rfl
theorem aVP:bP Tryz.prog 74=true:=by kernel_rfl
theorem aMK:bP Tryz.prog 75=true:=by kernel_rfl
theorem aIU:bP Tryz.prog 76=true:=by kernel_rfl
theorem V8:bP Tryz.prog 77=true:=by kernel_rfl
theorem aU0:bP Tryz.prog 78=true:=by kernel_rfl
theorem aTN:bP Tryz.prog 79=true:=by kernel_rfl
theorem aPC:bP Tryz.prog 80=true:=by kernel_rfl
theorem aG2:bP Tryz.prog 81=true:=by kernel_rfl
theorem aVR:bP Tryz.prog 82=true:=by kernel_rfl
theorem aLX:bP Tryz.prog 83=true:=by kernel_rfl
theorem aO2:bP Tryz.prog 84=true:=by kernel_rfl
theorem aK5:bP Tryz.prog 85=true:=by kernel_rfl
theorem aUM:bP Tryz.prog 86=true:=by kernel_rfl
theorem aLR:bP Tryz.prog 87=true:=by kernel_rfl
theorem xY:bP Tryz.prog 88=true:=by kernel_rfl
theorem aTH:bP Tryz.prog 89=true:=by kernel_rfl
theorem QF:bP Tryz.prog 90=true:=by kernel_rfl
theorem ZG:bP Tryz.prog 91=true:=by kernel_rfl
theorem aVA:bP Tryz.prog 93=true:=by kernel_rfl
theorem aTZ:bP Tryz.prog 95=true:=by kernel_rfl
theorem a05:bP Tryz.prog 96=true:=by kernel_rfl
theorem aEB:bP Tryz.prog 97=true:=by kernel_rfl
theorem aJX:bP Tryz.prog 98=true:=by kernel_rfl
theorem aLC:bP Tryz.prog 99=true:=by kernel_rfl
theorem aLH:zO Tryz.prog 63=some [(3,0),(3,1),(3,2),(3,3),(3,4),(3,5),(3,6),(3,7)]:=by kernel_rfl
theorem aRP:zO Tryz.prog 73=some [(3,0),(3,1),(3,2),(3,3),(3,4),(3,5)]:=by kernel_rfl
theorem aRN:zO Tryz.prog 78=some [(3,0),(3,1),(3,2),(3,3),(3,4),(3,5),(3,6),(3,7),(4,8)]:=by kernel_rfl
theorem aPO:kT Tryz.prog 105 0=some 0:=by kernel_rfl
theorem aC1:kT Tryz.prog 105 1=some 1:=by kernel_rfl
theorem aTJ:kT Tryz.prog 60 0=some 0:=by kernel_rfl
theorem aHZ:kT Tryz.prog 60 1=some 1:=by kernel_rfl
theorem FM:kT Tryz.prog 60 2=some 2:=by kernel_rfl
theorem RO:kT Tryz.prog 60 3=some 3:=by kernel_rfl
theorem B7:kT Tryz.prog 60 4=some 4:=by kernel_rfl
theorem aB5:kT Tryz.prog 60 5=some 5:=by kernel_rfl
theorem XQ:kT Tryz.prog 60 6=some 6:=by kernel_rfl
theorem aGD:kT Tryz.prog 60 7=some 7:=by kernel_rfl
theorem aLD:kT Tryz.prog 73 3=some 3:=by kernel_rfl
theorem aO5:kT Tryz.prog 73 4=some 4:=by kernel_rfl
theorem aLN:kT Tryz.prog 73 5=some 5:=by kernel_rfl
theorem B6:kT Tryz.prog 75 0=some 0:=by kernel_rfl
theorem uJ:kT Tryz.prog 75 1=some 1:=by kernel_rfl
theorem K6:kT Tryz.prog 75 2=some 2:=by kernel_rfl
theorem aRC:kT Tryz.prog 78 4=some 4:=by kernel_rfl
theorem aOY:kT Tryz.prog 78 5=some 5:=by kernel_rfl
theorem aVL:kT Tryz.prog 78 6=some 6:=by kernel_rfl
theorem aOD:pJ Tryz.prog 243 "purveyor/pool.in"=some 270:=by kernel_rfl
theorem aXO:pJ Tryz.prog 243 "purveyor/pool.out"=some 271:=by kernel_rfl
theorem aUE:pJ Tryz.prog 244 "purveyor/pool.in"=some 280:=by kernel_rfl
theorem aNA:pJ Tryz.prog 244 "purveyor/pool.out"=some 281:=by kernel_rfl
theorem aTQ:pJ Tryz.prog 245 "purveyor/pool.in"=some 285:=by kernel_rfl
theorem aVT:pJ Tryz.prog 245 "purveyor/pool.out"=some 286:=by kernel_rfl
theorem aMU:pJ Tryz.prog 247 "purveyor/pool.in"=some 289:=by kernel_rfl
theorem aKE:pJ Tryz.prog 247 "purveyor/pool.out"=some 290:=by kernel_rfl
theorem aBY:BP Tryz.prog 32=some [(0,5),(5,1),(6,1),(7,1),(8,1),(9,1)]:=by kernel_rfl
theorem aV8:BP Tryz.prog 60=some [(0,1),(1,1),(2,1),(3,1),(4,1),(5,1),(6,1),(7,1)]:=by kernel_rfl
theorem aP6:zeroOf Tryz.prog 102=some [.int .i64 0,.int .i64 0,.int .i64 0,.int .i64 0,.int .i64 0,.int .i64 0,.int .i64 0,.int .i64 0,.int .i64 0,.int .i64 0,.int .i64 0]:=by kernel_rfl
theorem z105:zeroOf Tryz.prog 105=some [.int .i64 0,.int .i64 0]:=by kernel_rfl
theorem aHF:zeroOf Tryz.prog 115=some [.int .i64 0,.slice none 0 0]:=by kernel_rfl
theorem z124:zeroOf Tryz.prog 124=some [.slice none 0 0,.int .i64 0,.int .i64 0,.int .i64 0]:=by kernel_rfl
theorem aGT:zeroOf Tryz.prog 137=some [.int .i64 0,.int .i64 0,.int .i64 0,.int .i64 0,.int .i64 0,.int .i64 0,.int .i64 0,.int .i64 0,.int .i64 0,.int .i64 0,.int .i64 0]:=by kernel_rfl
theorem z146:zeroOf Tryz.prog 146=some [.int .i64 0,.int .i64 0,.int .i64 0,.int .i64 0,.int .i64 0,.int .i64 0,.int .i64 0,.int .i64 0,.int .i64 0]:=by kernel_rfl
theorem z156:zeroOf Tryz.prog 156=some [.int .i64 0,.int .i64 0,.slice none 0 0,.slice none 0 0,.slice none 0 0,.slice none 0 0,.slice none 0 0,.slice none 0 0,.slice none 0 0,.int .i64 0]:=by kernel_rfl
theorem z233:zeroOf Tryz.prog 233=some [.int .i64 0,.int .i64 0,.int .i64 0,.int .i64 0,.int .i64 0,.int .i64 0,.int .i64 0,.int .i64 0,.int .i64 0,.int .i64 0,.int .i64 0,.int .i64 0,.int .i64 0,.int .i64 0,.int .i64 0,.int .i64 0,.int .i64 0]:=by kernel_rfl
theorem aR8:zeroOf Tryz.prog 243=some []:=by kernel_rfl
theorem aMS:zeroOf Tryz.prog 244=some []:=by kernel_rfl
theorem aR9:zeroOf Tryz.prog 245=some []:=by kernel_rfl
theorem aH9:zeroOf Tryz.prog 247=some [.int .i64 0]:=by kernel_rfl
theorem VM:zeroOf Tryz.prog 249=some [.int .u64 0,.int .u64 0,.int .u64 0,.int .u64 0]:=by kernel_rfl
theorem z25:zeroOf Tryz.prog 25=some [.int .i64 0,.int .i64 0,.slice none 0 0,.slice none 0 0,.slice none 0 0]:=by kernel_rfl
theorem aNI:zeroOf Tryz.prog 253=some [.pointer none,.slice none 0 0]:=by kernel_rfl
theorem aW1:zeroOf Tryz.prog 280=some [.nilFunc,.nilFunc,.nilFunc]:=by kernel_rfl
theorem z32:zeroOf Tryz.prog 32=some [.int .i64 0,.int .i64 0,.slice none 0 0,.slice none 0 0,.slice none 0 0,.slice none 0 0,.slice none 0 0,.slice none 0 0,.slice none 0 0,.int .i64 0]:=by kernel_rfl
theorem z35:zeroOf Tryz.prog 35=some [.int .i64 0,.int .i64 0,.int .i64 0,.int .i64 0,.int .i64 0,.int .i64 0,.int .i64 0,.int .i64 0,.slice none 0 0]:=by kernel_rfl
theorem z50:zeroOf Tryz.prog 50=some [.int .i64 0,.int .i64 0]:=by kernel_rfl
theorem z60:zeroOf Tryz.prog 60=some [.int .i64 0,.bool false,.slice none 0 0,.slice none 0 0,.slice none 0 0,.slice none 0 0,.slice none 0 0,.slice none 0 0]:=by kernel_rfl
theorem z63:zeroOf Tryz.prog 63=some [.int .i64 0,.int .i64 0,.int .i64 0,.int .i64 0,.int .i64 0,.int .i64 0,.int .i64 0,.int .i64 0]:=by kernel_rfl
theorem z66:zeroOf Tryz.prog 66=some [.slice none 0 0,.slice none 0 0,.slice none 0 0]:=by kernel_rfl
theorem z73:zeroOf Tryz.prog 73=some [.int .i64 0,.int .i64 0,.int .i64 0,.int .i64 0,.int .i64 0,.int .i64 0]:=by kernel_rfl
theorem z75:zeroOf Tryz.prog 75=some [.int .i64 0,.int .i64 0,.int .i64 0]:=by kernel_rfl
theorem z78:zeroOf Tryz.prog 78=some [.int .i64 0,.int .i64 0,.int .i64 0,.int .i64 0,.int .i64 0,.int .i64 0,.int .i64 0,.int .i64 0,.bool false]:=by kernel_rfl
theorem z87:zeroOf Tryz.prog 87=some [.int .i64 0,.int .i64 0,.int .i64 0,.int .i64 0,.int .i64 0,.int .i64 0,.int .i64 0,.int .i64 0,.int .i64 0,.int .i64 0,.int .i64 0,.int .i64 0]:=by kernel_rfl
theorem NJ:I4 Tryz.prog 245=true:=by kernel_rfl
theorem z3:zeroOf Tryz.prog 3=some [.int .i64 0]:=by kernel_rfl
theorem z22:zeroOf Tryz.prog 22=some [.slice none 0 0]:=by kernel_rfl
theorem aXJ:zeroOf Tryz.prog 163=some [.pointer none]:=by kernel_rfl
noncomputable section
def tb:gZ:={ sh:=[(0,(1,false)),(3,(1,false)),(4,(1,false)),(22,(1,false)),(23,(1,false)),(25,(5,true)),(27,(1,false)),(28,(1,false)),(29,(1,false)),(30,(1,false)),(32,(10,true)),(35,(9,true)),(50,(2,true)),(57,(1,false)),(58,(1,false)),(60,(8,true)),(63,(8,true)),(73,(6,true)),(75,(3,true)),(78,(9,true)),(102,(11,true)),(105,(2,true)),(107,(1,false)),(115,(2,true)),(121,(1,false)),(122,(3,true)),(124,(4,true)),(137,(11,true)),(146,(9,true)),(156,(10,true)),(163,(1,false)),(193,(1,false)),(196,(1,false)),(206,(1,false)),(220,(1,false)),(230,(1,false)),(245,(0,true)),(249,(4,true)),(253,(2,true)),(280,(3,true))],fo:=[((25,0),0),((25,1),1),((25,2),2),((25,3),3),((25,4),4),((32,0),0),((32,1),5),((32,2),6),((32,3),7),((32,4),8),((32,5),9),((35,0),0),((35,1),1),((35,2),2),((35,3),3),((35,4),4),((35,5),5),((35,6),6),((35,7),7),((35,8),8),((60,0),0),((60,1),1),((60,2),2),((60,3),3),((60,4),4),((60,5),5),((60,6),6),((60,7),7),((63,0),0),((63,1),1),((63,2),2),((63,3),3),((63,4),4),((63,5),5),((63,6),6),((63,7),7),((73,0),0),((73,1),1),((73,2),2),((73,3),3),((73,4),4),((73,5),5),((75,0),0),((75,1),1),((75,2),2),((78,0),0),((78,1),1),((78,2),2),((78,3),3),((78,4),4),((78,5),5),((78,6),6),((78,7),7),((78,8),8),((92,3),3),((92,4),4),((92,5),5),((92,6),6),((102,0),0),((102,1),1),((102,2),2),((102,3),3),((102,4),4),((102,5),5),((102,6),6),((102,7),7),((102,8),8),((102,9),9),((102,10),10),((105,0),0),((105,1),1),((115,0),0),((115,1),1),((124,0),0),((124,1),1),((156,0),0),((247,0),0),((253,0),0),((253,1),1)],fp:=[((75,0),(0,3)),((75,1),(1,3)),((75,2),(2,3)),((124,0),(0,121)),((280,0),(0,230)),((280,1),(1,193)),((280,2),(2,220))],ki:=[(3,.i64),(5,.u8),(196,.u64),(224,.u64)],se:=[(22,3),(23,22),(27,60),(28,63),(29,78),(30,73),(48,35),(57,124),(58,102),(107,105),(121,75),(164,163),(171,115),(254,253)],bl:=[(25,[(0,1),(1,1),(2,1),(3,1),(4,1)]),(35,[(0,1),(1,1),(2,1),(3,1),(4,1),(5,1),(6,1),(7,1),(8,1)]),(63,[(0,1),(1,1),(2,1),(3,1),(4,1),(5,1),(6,1),(7,1)]),(73,[(0,1),(1,1),(2,1),(3,1),(4,1),(5,1)]),(75,[(0,1),(1,1),(2,1)]),(78,[(0,1),(1,1),(2,1),(3,1),(4,1),(5,1),(6,1),(7,1),(8,1)]),(102,[(0,1),(1,1),(2,1),(3,1),(4,1),(5,1),(6,1),(7,1),(8,1),(9,1),(10,1)]),(105,[(0,1),(1,1)]),(115,[(0,1),(1,1)]),(124,[(0,1),(1,3)]),(156,[(0,10)]),(243,[]),(244,[]),(245,[]),(247,[(0,1)]),(253,[(0,1),(1,1)]),(280,[(0,1),(1,1),(2,1)])],zs:=[(3,[.int .i64 0]),(22,[.slice none 0 0]),(25,[.int .i64 0,.int .i64 0,.slice none 0 0,.slice none 0 0,.slice none 0 0]),(32,[.int .i64 0,.int .i64 0,.slice none 0 0,.slice none 0 0,.slice none 0 0,.slice none 0 0,.slice none 0 0,.slice none 0 0,.slice none 0 0,.int .i64 0]),(35,[.int .i64 0,.int .i64 0,.int .i64 0,.int .i64 0,.int .i64 0,.int .i64 0,.int .i64 0,.int .i64 0,.slice none 0 0]),(50,[.int .i64 0,.int .i64 0]),(60,[.int .i64 0,.bool false,.slice none 0 0,.slice none 0 0,.slice none 0 0,.slice none 0 0,.slice none 0 0,.slice none 0 0]),(63,[.int .i64 0,.int .i64 0,.int .i64 0,.int .i64 0,.int .i64 0,.int .i64 0,.int .i64 0,.int .i64 0]),(73,[.int .i64 0,.int .i64 0,.int .i64 0,.int .i64 0,.int .i64 0,.int .i64 0]),(75,[.int .i64 0,.int .i64 0,.int .i64 0]),(78,[.int .i64 0,.int .i64 0,.int .i64 0,.int .i64 0,.int .i64 0,.int .i64 0,.int .i64 0,.int .i64 0,.bool false]),(102,[.int .i64 0,.int .i64 0,.int .i64 0,.int .i64 0,.int .i64 0,.int .i64 0,.int .i64 0,.int .i64 0,.int .i64 0,.int .i64 0,.int .i64 0]),(105,[.int .i64 0,.int .i64 0]),(115,[.int .i64 0,.slice none 0 0]),(124,[.slice none 0 0,.int .i64 0,.int .i64 0,.int .i64 0]),(137,[.int .i64 0,.int .i64 0,.int .i64 0,.int .i64 0,.int .i64 0,.int .i64 0,.int .i64 0,.int .i64 0,.int .i64 0,.int .i64 0,.int .i64 0]),(146,[.int .i64 0,.int .i64 0,.int .i64 0,.int .i64 0,.int .i64 0,.int .i64 0,.int .i64 0,.int .i64 0,.int .i64 0]),(156,[.int .i64 0,.int .i64 0,.slice none 0 0,.slice none 0 0,.slice none 0 0,.slice none 0 0,.slice none 0 0,.slice none 0 0,.slice none 0 0,.int .i64 0]),(163,[.pointer none]),(233,[.int .i64 0,.int .i64 0,.int .i64 0,.int .i64 0,.int .i64 0,.int .i64 0,.int .i64 0,.int .i64 0,.int .i64 0,.int .i64 0,.int .i64 0,.int .i64 0,.int .i64 0,.int .i64 0,.int .i64 0,.int .i64 0,.int .i64 0]),(243,[]),(244,[]),(245,[]),(247,[.int .i64 0]),(249,[.int .u64 0,.int .u64 0,.int .u64 0,.int .u64 0]),(253,[.pointer none,.slice none 0 0]),(280,[.nilFunc,.nilFunc,.nilFunc])],bz:=[(3,1),(22,1),(35,9),(60,8),(63,8),(73,6),(75,3),(78,9),(102,11),(105,2),(115,2),(124,4),(163,1),(253,2)],bb:=[(3,8),(22,24),(35,88),(60,160),(63,64),(73,48),(75,24),(78,72),(102,88),(105,16),(124,48)],ar:=[(50,(2,3)),(122,(3,3)),(137,(11,3)),(146,(3,75)),(233,(17,3)),(249,(4,196))] }
theorem bR:fP Tryz.prog tb:=⟨⟨by kernel_rfl,by kernel_rfl,by kernel_rfl⟩,by kernel_rfl,by kernel_rfl,by kernel_rfl,⟨z3,z22,z25,z32,z35,z50,z60,z63,z73,z75,z78,aP6,z105,aHF,z124,aGT,z146,z156,aXJ,z233,aR8,aMS,aR9,aH9,VM,aNI,aW1,trivial⟩,by kernel_rfl,by kernel_rfl,by kernel_rfl⟩
theorem a1A {H:AH} {id:Nat} {l:List fT} (hid:H id=none) (hl:l.length<=68719476736):PC Tryz.prog 102 [aP 6 fT.av l] H (λy H'=>∃ aS,y=.sl id aS 0 l.length/\H'=upd H id (some ⟨73,6,true,true,aS,l.map fT.av⟩)):=by
  refine vR (c:=_) Tryz.func102 rfl rfl ?_;intro Q hret hnorm
  repeat (refine jT ?_)
  refine jR ?_;intro K hK
  refine st rfl rfl rfl (kW rfl rfl) ?_
  refine jP (hK _ ?_)
  repeat (refine jT ?_)
  refine jR ?_;intro K hK
  refine st rfl rfl rfl (lD rfl rfl) ?_
  refine se rfl rfl rfl (eO.gK (yH (xs:=l.map fT.av) (sz:=6) rfl Tryz.underlying30 rfl rfl) (λ_ h=>h) (λ_ _=>trivial)) ?_;rintro _ _ ⟨b,rfl,hb,rfl⟩
  refine jP (hK _ ?_)
  refine uT (b:=b) rfl ?_ ?_
  · intro h;subst h
    have hl0:l=[]:=List.map_eq_nil_iff.1 (hb rfl)
    subst hl0
    repeat (refine jT ?_)
    refine jR ?_;intro K hK
    refine st rfl rfl rfl (kW rfl rfl) ?_
    refine jP (hK _ ?_)
    refine wD 2 id 73 6 rfl hid ?_;intro v
    refine nO (hret _ _ _ (.tmp rfl .nil) (λ_ _ h=>h) ?_)
    exact ⟨v,rfl,rfl⟩
  · intro h;subst h
    refine uL ?_
    repeat (refine jT ?_)
    refine jR ?_;intro K hK
    refine se rfl rfl rfl (wT (ps:=[]) id [] .any rfl Tryz.underlying30 aJ6 .nil rfl rfl rfl rfl) ?_;rintro _ _ ⟨v,-,rfl,rfl⟩
    refine st rfl rfl rfl (lD rfl rfl) ?_
    refine se rfl rfl rfl (kY (g:=fT.av) (l:=[]) (m:=l) (l':=l) .any rfl Tryz.underlying30 aJ6 aMA rfl rfl rfl (upd_same _ _ _) rfl rfl rfl rfl rfl rfl rfl (.refl _) (λ_=>rfl) rfl hl) ?_;rintro _ _ ⟨v2,-,rfl,rfl⟩
    refine st rfl rfl rfl (kW rfl rfl) ?_
    refine jP (hK _ ?_)
    refine nO (hret _ _ _ (.tmp rfl .nil) (λ_ _ h=>h) ?_)
    exact ⟨v2,rfl,vW⟩
theorem aR1 {H:AH} {id:Nat} {l:List eZ} (hid:H id=none) (hl:l.length<=68719476736):PC Tryz.prog 109 [aP 9 eZ.av l] H (λy H'=>∃ aS,y=.sl id aS 0 l.length/\H'=upd H id (some ⟨78,9,true,true,aS,l.map eZ.av⟩)):=by
  refine vR (c:=_) Tryz.func109 rfl rfl ?_;intro Q hret hnorm
  repeat (refine jT ?_)
  refine jR ?_;intro K hK
  refine st rfl rfl rfl (kW rfl rfl) ?_
  refine jP (hK _ ?_)
  repeat (refine jT ?_)
  refine jR ?_;intro K hK
  refine st rfl rfl rfl (lD rfl rfl) ?_
  refine se rfl rfl rfl (eO.gK (yH (xs:=l.map eZ.av) (sz:=9) rfl Tryz.underlying29 rfl rfl) (λ_ h=>h) (λ_ _=>trivial)) ?_;rintro _ _ ⟨b,rfl,hb,rfl⟩
  refine jP (hK _ ?_)
  refine uT (b:=b) rfl ?_ ?_
  · intro h;subst h
    have hl0:l=[]:=List.map_eq_nil_iff.1 (hb rfl)
    subst hl0
    repeat (refine jT ?_)
    refine jR ?_;intro K hK
    refine st rfl rfl rfl (kW rfl rfl) ?_
    refine jP (hK _ ?_)
    refine wD 2 id 78 9 rfl hid ?_;intro v
    refine nO (hret _ _ _ (.tmp rfl .nil) (λ_ _ h=>h) ?_)
    exact ⟨v,rfl,rfl⟩
  · intro h;subst h
    refine uL ?_
    repeat (refine jT ?_)
    refine jR ?_;intro K hK
    refine se rfl rfl rfl (wT (ps:=[]) id [] .any rfl Tryz.underlying29 aW3 .nil rfl rfl rfl rfl) ?_;rintro _ _ ⟨v,-,rfl,rfl⟩
    refine st rfl rfl rfl (lD rfl rfl) ?_
    refine se rfl rfl rfl (kY (g:=eZ.av) (l:=[]) (m:=l) (l':=l) .any rfl Tryz.underlying29 aW3 aQX rfl rfl rfl (upd_same _ _ _) rfl rfl rfl rfl rfl rfl rfl (.refl _) (λ_=>rfl) rfl hl) ?_;rintro _ _ ⟨v2,-,rfl,rfl⟩
    refine st rfl rfl rfl (kW rfl rfl) ?_
    refine jP (hK _ ?_)
    refine nO (hret _ _ _ (.tmp rfl .nil) (λ_ _ h=>h) ?_)
    exact ⟨v2,rfl,vW⟩
theorem QV {H:AH} {id:Nat} {l:List aQ} (hid:H id=none) (hl:l.length<=68719476736):PC Tryz.prog 112 [aP 8 aQ.av l] H (λy H'=>∃ aS,y=.sl id aS 0 l.length/\H'=upd H id (some ⟨60,8,true,true,aS,l.map aQ.av⟩)):=by
  refine vR (c:=_) Tryz.func112 rfl rfl ?_;intro Q hret hnorm
  repeat (refine jT ?_)
  refine jR ?_;intro K hK
  refine st rfl rfl rfl (kW rfl rfl) ?_
  refine jP (hK _ ?_)
  repeat (refine jT ?_)
  refine jR ?_;intro K hK
  refine st rfl rfl rfl (lD rfl rfl) ?_
  refine se rfl rfl rfl (eO.gK (yH (xs:=l.map aQ.av) (sz:=8) rfl Tryz.underlying27 rfl rfl) (λ_ h=>h) (λ_ _=>trivial)) ?_;rintro _ _ ⟨b,rfl,hb,rfl⟩
  refine jP (hK _ ?_)
  refine uT (b:=b) rfl ?_ ?_
  · intro h;subst h
    have hl0:l=[]:=List.map_eq_nil_iff.1 (hb rfl)
    subst hl0
    repeat (refine jT ?_)
    refine jR ?_;intro K hK
    refine st rfl rfl rfl (kW rfl rfl) ?_
    refine jP (hK _ ?_)
    refine wD 2 id 60 8 rfl hid ?_;intro v
    refine nO (hret _ _ _ (.tmp rfl .nil) (λ_ _ h=>h) ?_)
    exact ⟨v,rfl,rfl⟩
  · intro h;subst h
    refine uL ?_
    repeat (refine jT ?_)
    refine jR ?_;intro K hK
    refine se rfl rfl rfl (wT (ps:=[]) id [] .any rfl Tryz.underlying27 yE .nil rfl rfl rfl rfl) ?_;rintro _ _ ⟨v,-,rfl,rfl⟩
    refine st rfl rfl rfl (lD rfl rfl) ?_
    refine se rfl rfl rfl (kY (g:=aQ.av) (l:=[]) (m:=l) (l':=l) .any rfl Tryz.underlying27 yE G6 rfl rfl rfl (upd_same _ _ _) rfl rfl rfl rfl rfl rfl rfl (.refl _) aQ.one rfl hl) ?_;rintro _ _ ⟨v2,-,rfl,rfl⟩
    refine st rfl rfl rfl (kW rfl rfl) ?_
    refine jP (hK _ ?_)
    refine nO (hret _ _ _ (.tmp rfl .nil) (λ_ _ h=>h) ?_)
    exact ⟨v2,rfl,vW⟩
theorem aPW {H:AH} {id:Nat} {l:List aH} (hid:H id=none) (hl:l.length<=68719476736):PC Tryz.prog 113 [aP 4 aH.av l] H (λy H'=>∃ aS,y=.sl id aS 0 l.length/\H'=upd H id (some ⟨124,4,true,true,aS,l.map aH.av⟩)):=by
  refine vR (c:=_) Tryz.func113 rfl rfl ?_;intro Q hret hnorm
  repeat (refine jT ?_)
  refine jR ?_;intro K hK
  refine st rfl rfl rfl (kW rfl rfl) ?_
  refine jP (hK _ ?_)
  repeat (refine jT ?_)
  refine jR ?_;intro K hK
  refine st rfl rfl rfl (lD rfl rfl) ?_
  refine se rfl rfl rfl (eO.gK (yH (xs:=l.map aH.av) (sz:=4) rfl Tryz.underlying57 rfl rfl) (λ_ h=>h) (λ_ _=>trivial)) ?_;rintro _ _ ⟨b,rfl,hb,rfl⟩
  refine jP (hK _ ?_)
  refine uT (b:=b) rfl ?_ ?_
  · intro h;subst h
    have hl0:l=[]:=List.map_eq_nil_iff.1 (hb rfl)
    subst hl0
    repeat (refine jT ?_)
    refine jR ?_;intro K hK
    refine st rfl rfl rfl (kW rfl rfl) ?_
    refine jP (hK _ ?_)
    refine wD 2 id 124 4 rfl hid ?_;intro v
    refine nO (hret _ _ _ (.tmp rfl .nil) (λ_ _ h=>h) ?_)
    exact ⟨v,rfl,rfl⟩
  · intro h;subst h
    refine uL ?_
    repeat (refine jT ?_)
    refine jR ?_;intro K hK
    refine se rfl rfl rfl (wT (ps:=[]) id [] .any rfl Tryz.underlying57 IM .nil rfl rfl rfl rfl) ?_;rintro _ _ ⟨v,-,rfl,rfl⟩
    refine st rfl rfl rfl (lD rfl rfl) ?_
    refine se rfl rfl rfl (kY (g:=aH.av) (l:=[]) (m:=l) (l':=l) .any rfl Tryz.underlying57 IM RP rfl rfl rfl (upd_same _ _ _) rfl rfl rfl rfl rfl rfl rfl (.refl _) (λ_=>rfl) rfl hl) ?_;rintro _ _ ⟨v2,-,rfl,rfl⟩
    refine st rfl rfl rfl (kW rfl rfl) ?_
    refine jP (hK _ ?_)
    refine nO (hret _ _ _ (.tmp rfl .nil) (λ_ _ h=>h) ?_)
    exact ⟨v2,rfl,vW⟩
theorem aOG {H:AH} {id:Nat} {l:List cO} (hid:H id=none) (hl:l.length<=68719476736):PC Tryz.prog 159 [aP 11 cO.av l] H (λy H'=>∃ aS,y=.sl id aS 0 l.length/\H'=upd H id (some ⟨102,11,true,true,aS,l.map cO.av⟩)):=by
  refine vR (c:=_) Tryz.func159 rfl rfl ?_;intro Q hret hnorm
  repeat (refine jT ?_)
  refine jR ?_;intro K hK
  refine st rfl rfl rfl (kW rfl rfl) ?_
  refine jP (hK _ ?_)
  repeat (refine jT ?_)
  refine jR ?_;intro K hK
  refine st rfl rfl rfl (lD rfl rfl) ?_
  refine se rfl rfl rfl (eO.gK (yH (xs:=l.map cO.av) (sz:=11) rfl Tryz.underlying58 rfl rfl) (λ_ h=>h) (λ_ _=>trivial)) ?_;rintro _ _ ⟨b,rfl,hb,rfl⟩
  refine jP (hK _ ?_)
  refine uT (b:=b) rfl ?_ ?_
  · intro h;subst h
    have hl0:l=[]:=List.map_eq_nil_iff.1 (hb rfl)
    subst hl0
    repeat (refine jT ?_)
    refine jR ?_;intro K hK
    refine st rfl rfl rfl (kW rfl rfl) ?_
    refine jP (hK _ ?_)
    refine wD 2 id 102 11 rfl hid ?_;intro v
    refine nO (hret _ _ _ (.tmp rfl .nil) (λ_ _ h=>h) ?_)
    exact ⟨v,rfl,rfl⟩
  · intro h;subst h
    refine uL ?_
    repeat (refine jT ?_)
    refine jR ?_;intro K hK
    refine se rfl rfl rfl (wT (ps:=[]) id [] .any rfl Tryz.underlying58 IP .nil rfl rfl rfl rfl) ?_;rintro _ _ ⟨v,-,rfl,rfl⟩
    refine st rfl rfl rfl (lD rfl rfl) ?_
    refine se rfl rfl rfl (kY (g:=cO.av) (l:=[]) (m:=l) (l':=l) .any rfl Tryz.underlying58 IP PD rfl rfl rfl (upd_same _ _ _) rfl rfl rfl rfl rfl rfl rfl (.refl _) (λ_=>rfl) rfl hl) ?_;rintro _ _ ⟨v2,-,rfl,rfl⟩
    refine st rfl rfl rfl (kW rfl rfl) ?_
    refine jP (hK _ ?_)
    refine nO (hret _ _ _ (.tmp rfl .nil) (λ_ _ h=>h) ?_)
    exact ⟨v2,rfl,vW⟩
theorem yL {H:AH} {id:Nat} {l:List aB} (hid:H id=none) (hl:l.length<=68719476736):PC Tryz.prog 171 [aP 3 aB.av l] H (λy H'=>∃ aS,y=.sl id aS 0 l.length/\H'=upd H id (some ⟨75,3,true,true,aS,l.map aB.av⟩)):=by
  refine vR (c:=_) Tryz.func171 rfl rfl ?_;intro Q hret hnorm
  repeat (refine jT ?_)
  refine jR ?_;intro K hK
  refine st rfl rfl rfl (kW rfl rfl) ?_
  refine jP (hK _ ?_)
  repeat (refine jT ?_)
  refine jR ?_;intro K hK
  refine st rfl rfl rfl (lD rfl rfl) ?_
  refine se rfl rfl rfl (eO.gK (yH (xs:=l.map aB.av) (sz:=3) rfl Tryz.underlying121 rfl rfl) (λ_ h=>h) (λ_ _=>trivial)) ?_;rintro _ _ ⟨b,rfl,hb,rfl⟩
  refine jP (hK _ ?_)
  refine uT (b:=b) rfl ?_ ?_
  · intro h;subst h
    have hl0:l=[]:=List.map_eq_nil_iff.1 (hb rfl)
    subst hl0
    repeat (refine jT ?_)
    refine jR ?_;intro K hK
    refine st rfl rfl rfl (kW rfl rfl) ?_
    refine jP (hK _ ?_)
    refine wD 2 id 75 3 rfl hid ?_;intro v
    refine nO (hret _ _ _ (.tmp rfl .nil) (λ_ _ h=>h) ?_)
    exact ⟨v,rfl,rfl⟩
  · intro h;subst h
    refine uL ?_
    repeat (refine jT ?_)
    refine jR ?_;intro K hK
    refine se rfl rfl rfl (wT (ps:=[]) id [] .any rfl Tryz.underlying121 BX .nil rfl rfl rfl rfl) ?_;rintro _ _ ⟨v,-,rfl,rfl⟩
    refine st rfl rfl rfl (lD rfl rfl) ?_
    refine se rfl rfl rfl (kY (g:=aB.av) (l:=[]) (m:=l) (l':=l) .any rfl Tryz.underlying121 BX SI rfl rfl rfl (upd_same _ _ _) rfl rfl rfl rfl rfl rfl rfl (.refl _) (λ_=>rfl) rfl hl) ?_;rintro _ _ ⟨v2,-,rfl,rfl⟩
    refine st rfl rfl rfl (kW rfl rfl) ?_
    refine jP (hK _ ?_)
    refine nO (hret _ _ _ (.tmp rfl .nil) (λ_ _ h=>h) ?_)
    exact ⟨v2,rfl,vW⟩
theorem V7 {H:AH} {id:Nat} {l:List Int} (hid:H id=none) (hl:l.length<=68719476736):PC Tryz.prog 181 [aP 1 fI l] H (λy H'=>∃ aS,y=.sl id aS 0 l.length/\H'=upd H id (some ⟨3,1,true,true,aS,l.map fI⟩)):=by
  refine vR (c:=_) Tryz.func181 rfl rfl ?_;intro Q hret hnorm
  repeat (refine jT ?_)
  refine jR ?_;intro K hK
  refine st rfl rfl rfl (kW rfl rfl) ?_
  refine jP (hK _ ?_)
  repeat (refine jT ?_)
  refine jR ?_;intro K hK
  refine st rfl rfl rfl (lD rfl rfl) ?_
  refine se rfl rfl rfl (eO.gK (yH (xs:=l.map fI) (sz:=1) rfl Tryz.underlying22 rfl rfl) (λ_ h=>h) (λ_ _=>trivial)) ?_;rintro _ _ ⟨b,rfl,hb,rfl⟩
  refine jP (hK _ ?_)
  refine uT (b:=b) rfl ?_ ?_
  · intro h;subst h
    have hl0:l=[]:=List.map_eq_nil_iff.1 (hb rfl)
    subst hl0
    repeat (refine jT ?_)
    refine jR ?_;intro K hK
    refine st rfl rfl rfl (kW rfl rfl) ?_
    refine jP (hK _ ?_)
    refine wD 2 id 3 1 rfl hid ?_;intro v
    refine nO (hret _ _ _ (.tmp rfl .nil) (λ_ _ h=>h) ?_)
    exact ⟨v,rfl,rfl⟩
  · intro h;subst h
    refine uL ?_
    repeat (refine jT ?_)
    refine jR ?_;intro K hK
    refine se rfl rfl rfl (wT (ps:=[]) id [] .any rfl Tryz.underlying22 kD .nil rfl rfl rfl rfl) ?_;rintro _ _ ⟨v,-,rfl,rfl⟩
    refine st rfl rfl rfl (lD rfl rfl) ?_
    refine se rfl rfl rfl (kY (g:=fI) (l:=[]) (m:=l) (l':=l) .any rfl Tryz.underlying22 kD nR rfl rfl rfl (upd_same _ _ _) rfl rfl rfl rfl rfl rfl rfl (.refl _) (λ_=>rfl) rfl hl) ?_;rintro _ _ ⟨v2,-,rfl,rfl⟩
    refine st rfl rfl rfl (kW rfl rfl) ?_
    refine jP (hK _ ?_)
    refine nO (hret _ _ _ (.tmp rfl .nil) (λ_ _ h=>h) ?_)
    exact ⟨v2,rfl,vW⟩
theorem aI4 {H:AH} {id:Nat} {l:List aN} (hid:H id=none) (hl:l.length<=68719476736):PC Tryz.prog 204 [aP 2 aN.av l] H (λy H'=>∃ aS,y=.sl id aS 0 l.length/\H'=upd H id (some ⟨105,2,true,true,aS,l.map aN.av⟩)):=by
  refine vR (c:=_) Tryz.func204 rfl rfl ?_;intro Q hret hnorm
  repeat (refine jT ?_)
  refine jR ?_;intro K hK
  refine st rfl rfl rfl (kW rfl rfl) ?_
  refine jP (hK _ ?_)
  repeat (refine jT ?_)
  refine jR ?_;intro K hK
  refine st rfl rfl rfl (lD rfl rfl) ?_
  refine se rfl rfl rfl (eO.gK (yH (xs:=l.map aN.av) (sz:=2) rfl Tryz.underlying107 rfl rfl) (λ_ h=>h) (λ_ _=>trivial)) ?_;rintro _ _ ⟨b,rfl,hb,rfl⟩
  refine jP (hK _ ?_)
  refine uT (b:=b) rfl ?_ ?_
  · intro h;subst h
    have hl0:l=[]:=List.map_eq_nil_iff.1 (hb rfl)
    subst hl0
    repeat (refine jT ?_)
    refine jR ?_;intro K hK
    refine st rfl rfl rfl (kW rfl rfl) ?_
    refine jP (hK _ ?_)
    refine wD 2 id 105 2 rfl hid ?_;intro v
    refine nO (hret _ _ _ (.tmp rfl .nil) (λ_ _ h=>h) ?_)
    exact ⟨v,rfl,rfl⟩
  · intro h;subst h
    refine uL ?_
    repeat (refine jT ?_)
    refine jR ?_;intro K hK
    refine se rfl rfl rfl (wT (ps:=[]) id [] .any rfl Tryz.underlying107 qW .nil rfl rfl rfl rfl) ?_;rintro _ _ ⟨v,-,rfl,rfl⟩
    refine st rfl rfl rfl (lD rfl rfl) ?_
    refine se rfl rfl rfl (kY (g:=aN.av) (l:=[]) (m:=l) (l':=l) .any rfl Tryz.underlying107 qW RE rfl rfl rfl (upd_same _ _ _) rfl rfl rfl rfl rfl rfl rfl (.refl _) (λ_=>rfl) rfl hl) ?_;rintro _ _ ⟨v2,-,rfl,rfl⟩
    refine st rfl rfl rfl (kW rfl rfl) ?_
    refine jP (hK _ ?_)
    refine nO (hret _ _ _ (.tmp rfl .nil) (λ_ _ h=>h) ?_)
    exact ⟨v2,rfl,vW⟩
end
end Go.Pv
