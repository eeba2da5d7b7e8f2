import Derived.Test.YtfbohcojaajpfaaGreatPvAM
import Derived.Test.YtfbohcojaajpfaaGreatPwE
import Derived.Test.YtfbohcojaajpfaaGreatProg
set_option linter.unusedVariables false
set_option linter.unusedSimpArgs false
namespace Go.Pv
open Go.Proofs
theorem mixed:Tryz.prog.follows .mixedOrders=true:=by kernel_rfl
set_option maxRecDepth 100000
set_option maxHeartbeats 4000000
structure GMaster where
  Entities:Int
  Periods:Int
  Weights:List Int
  Methods:List (List Int)
  Costs:List (List Int)
  deriving DecidableEq,Inhabited
@[reducible] def GMaster.av (x:GMaster):List AV:=[int x.Entities,int x.Periods,lst 1 fI x.Weights,lst 1 (fL 1 fI) x.Methods,lst 1 (fL 1 fI) x.Costs]
theorem GMaster.pvc (x:GMaster):∀ a∈x.av,PV a:=by
  intro a ha;simp only [GMaster.av,List.mem_cons,List.not_mem_nil,or_false] at ha
  rcases ha with rfl | rfl | rfl | rfl | rfl
  · exact pvI x.Entities
  · exact pvI x.Periods
  · exact (pvLs pvcI) x.Weights
  · exact (pvLs (pvcLs pvcI)) x.Methods
  · exact (pvLs (pvcLs pvcI)) x.Costs
structure GLayer where
  Qty:Int
  Value:Int
  Profit:Int
  deriving DecidableEq,Inhabited
@[reducible] def GLayer.av (x:GLayer):List AV:=[int x.Qty,int x.Value,int x.Profit]
theorem GLayer.pvc (x:GLayer):∀ a∈x.av,PV a:=by
  intro a ha;simp only [GLayer.av,List.mem_cons,List.not_mem_nil,or_false] at ha
  rcases ha with rfl | rfl | rfl
  · exact pvI x.Qty
  · exact pvI x.Value
  · exact pvI x.Profit
structure A3_Int where
  a0:Int
  a1:Int
  a2:Int
  deriving DecidableEq,Inhabited
@[reducible] def A3_Int.av (x:A3_Int):List AV:=[int x.a0,int x.a1,int x.a2]
theorem A3_Int.pvc (x:A3_Int):∀ a∈x.av,PV a:=by
  intro a ha;simp only [A3_Int.av,List.mem_cons,List.not_mem_nil,or_false] at ha
  rcases ha with rfl | rfl | rfl
  · exact pvI x.a0
  · exact pvI x.a1
  · exact pvI x.a2
structure GPool where
  Layers:List GLayer
  Pend:A3_Int
  deriving DecidableEq,Inhabited
@[reducible] def GPool.av (x:GPool):List AV:=[lst 3 GLayer.av x.Layers,int x.Pend.a0,int x.Pend.a1,int x.Pend.a2]
theorem GPool.pvc (x:GPool):∀ a∈x.av,PV a:=by
  intro a ha;simp only [GPool.av,List.mem_cons,List.not_mem_nil,or_false] at ha
  rcases ha with rfl | rfl | rfl | rfl
  · exact (pvLs GLayer.pvc) x.Layers
  · exact pvI x.Pend.a0
  · exact pvI x.Pend.a1
  · exact pvI x.Pend.a2
structure GRoll where
  Open:Int
  Bought:Int
  Landed:Int
  Arrived:Int
  Returned:Int
  Sold:Int
  Shipped:Int
  SentBack:Int
  Scrapped:Int
  Lost:Int
  Revalued:Int
  deriving DecidableEq,Inhabited
@[reducible] def GRoll.av (x:GRoll):List AV:=[int x.Open,int x.Bought,int x.Landed,int x.Arrived,int x.Returned,int x.Sold,int x.Shipped,int x.SentBack,int x.Scrapped,int x.Lost,int x.Revalued]
theorem GRoll.pvc (x:GRoll):∀ a∈x.av,PV a:=by
  intro a ha;simp only [GRoll.av,List.mem_cons,List.not_mem_nil,or_false] at ha
  rcases ha with rfl | rfl | rfl | rfl | rfl | rfl | rfl | rfl | rfl | rfl | rfl
  · exact pvI x.Open
  · exact pvI x.Bought
  · exact pvI x.Landed
  · exact pvI x.Arrived
  · exact pvI x.Returned
  · exact pvI x.Sold
  · exact pvI x.Shipped
  · exact pvI x.SentBack
  · exact pvI x.Scrapped
  · exact pvI x.Lost
  · exact pvI x.Revalued
structure GEnt where
  Now:Int
  Closed:Bool
  Pools:List GPool
  Bal:List Int
  Rolls:List GRoll
  Prices:List Int
  Down:List Int
  Ahead:List GEnt
  deriving Inhabited
mutual
def GEnt.av:GEnt→List AV
  | ⟨Now,Closed,Pools,Bal,Rolls,Prices,Down,Ahead⟩=>[int Now,boo Closed,lst 4 GPool.av Pools,lst 1 fI Bal,lst 11 GRoll.av Rolls,lst 1 fI Prices,lst 1 fI Down,.list 8 (GEnt.avs Ahead)]
def GEnt.avs:List GEnt→List (List AV)
  | []=>[]
  | x :: r=>GEnt.av x :: GEnt.avs r
end
theorem GEnt.avs_map (l:List GEnt):GEnt.avs l=l.map GEnt.av:=by
  induction l with
  | nil=>unfold GEnt.avs;rfl
  | cons x r ih=>unfold GEnt.avs;rw [ih];rfl
@[reducible] def gE (x:GEnt):List AV:=[int x.Now,boo x.Closed,lst 4 GPool.av x.Pools,lst 1 fI x.Bal,lst 11 GRoll.av x.Rolls,lst 1 fI x.Prices,lst 1 fI x.Down,lst 8 GEnt.av x.Ahead]
theorem GEnt.av_eq (x:GEnt):GEnt.av x=[int x.Now,boo x.Closed,lst 4 GPool.av x.Pools,lst 1 fI x.Bal,lst 11 GRoll.av x.Rolls,lst 1 fI x.Prices,lst 1 fI x.Down,lst 8 GEnt.av x.Ahead]:=by
  cases x;unfold GEnt.av;rw [GEnt.avs_map]
theorem GEnt.one (x:GEnt):allOne (GEnt.av x)=true:=by rw [GEnt.av_eq];rfl
mutual
theorem GEnt.pvc:∀ (x:GEnt),∀ a∈x.av,PV a
  | ⟨Now,Closed,Pools,Bal,Rolls,Prices,Down,Ahead⟩=>by
    intro a ha;unfold GEnt.av at ha;simp only [List.mem_cons,List.not_mem_nil,or_false] at ha
    rcases ha with rfl | rfl | rfl | rfl | rfl | rfl | rfl | rfl
    · exact pvI Now
    · exact pvB Closed
    · exact (pvLs GPool.pvc) Pools
    · exact (pvLs pvcI) Bal
    · exact (pvLs GRoll.pvc) Rolls
    · exact (pvLs pvcI) Prices
    · exact (pvLs pvcI) Down
    · exact .list (fun r hr=>GEnt.pvcs Ahead r hr)
theorem GEnt.pvcs:∀ (l:List GEnt),∀ r∈GEnt.avs l,∀ a∈r,PV a
  | []=>by intro r hr;unfold GEnt.avs at hr;cases hr
  | x :: l=>by
    intro r hr;unfold GEnt.avs at hr
    rcases List.mem_cons.1 hr with e | h
    · rw [e];exact GEnt.pvc x
    · exact GEnt.pvcs l r h
end
structure GReceipt where
  Entity:Int
  Item:Int
  Loc:Int
  Qty:Int
  Value:Int
  Open:Int
  Accrued:Int
  Back:Int
  deriving DecidableEq,Inhabited
@[reducible] def GReceipt.av (x:GReceipt):List AV:=[int x.Entity,int x.Item,int x.Loc,int x.Qty,int x.Value,int x.Open,int x.Accrued,int x.Back]
theorem GReceipt.pvc (x:GReceipt):∀ a∈x.av,PV a:=by
  intro a ha;simp only [GReceipt.av,List.mem_cons,List.not_mem_nil,or_false] at ha
  rcases ha with rfl | rfl | rfl | rfl | rfl | rfl | rfl | rfl
  · exact pvI x.Entity
  · exact pvI x.Item
  · exact pvI x.Loc
  · exact pvI x.Qty
  · exact pvI x.Value
  · exact pvI x.Open
  · exact pvI x.Accrued
  · exact pvI x.Back
structure GSale where
  Entity:Int
  Item:Int
  Loc:Int
  Qty:Int
  Back:Int
  Cost:Int
  Profit:Int
  Period:Int
  Waits:Bool
  deriving DecidableEq,Inhabited
@[reducible] def GSale.av (x:GSale):List AV:=[int x.Entity,int x.Item,int x.Loc,int x.Qty,int x.Back,int x.Cost,int x.Profit,int x.Period,boo x.Waits]
theorem GSale.pvc (x:GSale):∀ a∈x.av,PV a:=by
  intro a ha;simp only [GSale.av,List.mem_cons,List.not_mem_nil,or_false] at ha
  rcases ha with rfl | rfl | rfl | rfl | rfl | rfl | rfl | rfl | rfl
  · exact pvI x.Entity
  · exact pvI x.Item
  · exact pvI x.Loc
  · exact pvI x.Qty
  · exact pvI x.Back
  · exact pvI x.Cost
  · exact pvI x.Profit
  · exact pvI x.Period
  · exact pvB x.Waits
structure GTransit where
  From:Int
  To:Int
  Item:Int
  Qty:Int
  Value:Int
  Profit:Int
  deriving DecidableEq,Inhabited
@[reducible] def GTransit.av (x:GTransit):List AV:=[int x.From,int x.To,int x.Item,int x.Qty,int x.Value,int x.Profit]
theorem GTransit.pvc (x:GTransit):∀ a∈x.av,PV a:=by
  intro a ha;simp only [GTransit.av,List.mem_cons,List.not_mem_nil,or_false] at ha
  rcases ha with rfl | rfl | rfl | rfl | rfl | rfl
  · exact pvI x.From
  · exact pvI x.To
  · exact pvI x.Item
  · exact pvI x.Qty
  · exact pvI x.Value
  · exact pvI x.Profit
structure GState where
  Master:GMaster
  Ents:List GEnt
  Receipts:List GReceipt
  Sales:List GSale
  Transits:List GTransit
  Done:Int
  deriving Inhabited
@[reducible] def GState.av (x:GState):List AV:=[int x.Master.Entities,int x.Master.Periods,lst 1 fI x.Master.Weights,lst 1 (fL 1 fI) x.Master.Methods,lst 1 (fL 1 fI) x.Master.Costs,lst 8 GEnt.av x.Ents,lst 8 GReceipt.av x.Receipts,lst 9 GSale.av x.Sales,lst 6 GTransit.av x.Transits,int x.Done]
theorem GState.pvc (x:GState):∀ a∈x.av,PV a:=by
  intro a ha;simp only [GState.av,List.mem_cons,List.not_mem_nil,or_false] at ha
  rcases ha with rfl | rfl | rfl | rfl | rfl | rfl | rfl | rfl | rfl | rfl
  · exact pvI x.Master.Entities
  · exact pvI x.Master.Periods
  · exact (pvLs pvcI) x.Master.Weights
  · exact (pvLs (pvcLs pvcI)) x.Master.Methods
  · exact (pvLs (pvcLs pvcI)) x.Master.Costs
  · exact (pvLs GEnt.pvc) x.Ents
  · exact (pvLs GReceipt.pvc) x.Receipts
  · exact (pvLs GSale.pvc) x.Sales
  · exact (pvLs GTransit.pvc) x.Transits
  · exact pvI x.Done
structure GOp where
  Kind:Int
  E:Int
  Item:Int
  Loc:Int
  To:Int
  Qty:Int
  Amount:Int
  Ref:Int
  Refs:List Int
  deriving DecidableEq,Inhabited
@[reducible] def GOp.av (x:GOp):List AV:=[int x.Kind,int x.E,int x.Item,int x.Loc,int x.To,int x.Qty,int x.Amount,int x.Ref,lst 1 fI x.Refs]
theorem GOp.pvc (x:GOp):∀ a∈x.av,PV a:=by
  intro a ha;simp only [GOp.av,List.mem_cons,List.not_mem_nil,or_false] at ha
  rcases ha with rfl | rfl | rfl | rfl | rfl | rfl | rfl | rfl | rfl
  · exact pvI x.Kind
  · exact pvI x.E
  · exact pvI x.Item
  · exact pvI x.Loc
  · exact pvI x.To
  · exact pvI x.Qty
  · exact pvI x.Amount
  · exact pvI x.Ref
  · exact (pvLs pvcI) x.Refs
structure A3_GLayer where
  a0:GLayer
  a1:GLayer
  a2:GLayer
  deriving DecidableEq,Inhabited
@[reducible] def A3_GLayer.av (x:A3_GLayer):List AV:=[int x.a0.Qty,int x.a0.Value,int x.a0.Profit,int x.a1.Qty,int x.a1.Value,int x.a1.Profit,int x.a2.Qty,int x.a2.Value,int x.a2.Profit]
theorem A3_GLayer.pvc (x:A3_GLayer):∀ a∈x.av,PV a:=by
  intro a ha;simp only [A3_GLayer.av,List.mem_cons,List.not_mem_nil,or_false] at ha
  rcases ha with rfl | rfl | rfl | rfl | rfl | rfl | rfl | rfl | rfl
  · exact pvI x.a0.Qty
  · exact pvI x.a0.Value
  · exact pvI x.a0.Profit
  · exact pvI x.a1.Qty
  · exact pvI x.a1.Value
  · exact pvI x.a1.Profit
  · exact pvI x.a2.Qty
  · exact pvI x.a2.Value
  · exact pvI x.a2.Profit
structure GLine where
  Account:Int
  Amount:Int
  deriving DecidableEq,Inhabited
@[reducible] def GLine.av (x:GLine):List AV:=[int x.Account,int x.Amount]
theorem GLine.pvc (x:GLine):∀ a∈x.av,PV a:=by
  intro a ha;simp only [GLine.av,List.mem_cons,List.not_mem_nil,or_false] at ha
  rcases ha with rfl | rfl
  · exact pvI x.Account
  · exact pvI x.Amount
structure A11_Int where
  a0:Int
  a1:Int
  a2:Int
  a3:Int
  a4:Int
  a5:Int
  a6:Int
  a7:Int
  a8:Int
  a9:Int
  a10:Int
  deriving DecidableEq,Inhabited
@[reducible] def A11_Int.av (x:A11_Int):List AV:=[int x.a0,int x.a1,int x.a2,int x.a3,int x.a4,int x.a5,int x.a6,int x.a7,int x.a8,int x.a9,int x.a10]
theorem A11_Int.pvc (x:A11_Int):∀ a∈x.av,PV a:=by
  intro a ha;simp only [A11_Int.av,List.mem_cons,List.not_mem_nil,or_false] at ha
  rcases ha with rfl | rfl | rfl | rfl | rfl | rfl | rfl | rfl | rfl | rfl | rfl
  · exact pvI x.a0
  · exact pvI x.a1
  · exact pvI x.a2
  · exact pvI x.a3
  · exact pvI x.a4
  · exact pvI x.a5
  · exact pvI x.a6
  · exact pvI x.a7
  · exact pvI x.a8
  · exact pvI x.a9
  · exact pvI x.a10
structure Gfirst where
  deriving DecidableEq,Inhabited
@[reducible] def Gfirst.av (x:Gfirst):List AV:=[]
theorem Gfirst.pvc (x:Gfirst):∀ a∈x.av,PV a:=by
  intro a ha;cases ha
structure Gmoving where
  deriving DecidableEq,Inhabited
@[reducible] def Gmoving.av (x:Gmoving):List AV:=[]
theorem Gmoving.pvc (x:Gmoving):∀ a∈x.av,PV a:=by
  intro a ha;cases ha
structure Gperiodic where
  deriving DecidableEq,Inhabited
@[reducible] def Gperiodic.av (x:Gperiodic):List AV:=[]
theorem Gperiodic.pvc (x:Gperiodic):∀ a∈x.av,PV a:=by
  intro a ha;cases ha
structure Gstandard where
  cost:Int
  deriving DecidableEq,Inhabited
@[reducible] def Gstandard.av (x:Gstandard):List AV:=[int x.cost]
theorem Gstandard.pvc (x:Gstandard):∀ a∈x.av,PV a:=by
  intro a ha;simp only [Gstandard.av,List.mem_cons,List.not_mem_nil,or_false] at ha
  subst ha;exact pvI x.cost
structure A2_Int where
  a0:Int
  a1:Int
  deriving DecidableEq,Inhabited
@[reducible] def A2_Int.av (x:A2_Int):List AV:=[int x.a0,int x.a1]
theorem A2_Int.pvc (x:A2_Int):∀ a∈x.av,PV a:=by
  intro a ha;simp only [A2_Int.av,List.mem_cons,List.not_mem_nil,or_false] at ha
  rcases ha with rfl | rfl
  · exact pvI x.a0
  · exact pvI x.a1
theorem sh3:tySh Tryz.prog 3=some (1,false):=by kernel_rfl
theorem sh4:tySh Tryz.prog 4=some (1,false):=by kernel_rfl
theorem sh22:tySh Tryz.prog 22=some (1,false):=by kernel_rfl
theorem sh23:tySh Tryz.prog 23=some (1,false):=by kernel_rfl
theorem sh25:tySh Tryz.prog 25=some (5,true):=by kernel_rfl
theorem sh26:tySh Tryz.prog 26=some (1,false):=by kernel_rfl
theorem sh31:tySh Tryz.prog 31=some (10,true):=by kernel_rfl
theorem sh36:tySh Tryz.prog 36=some (1,false):=by kernel_rfl
theorem sh37:tySh Tryz.prog 37=some (1,false):=by kernel_rfl
theorem sh39:tySh Tryz.prog 39=some (8,true):=by kernel_rfl
theorem sh53:tySh Tryz.prog 53=some (3,true):=by kernel_rfl
theorem sh57:tySh Tryz.prog 57=some (4,true):=by kernel_rfl
theorem sh72:tySh Tryz.prog 72=some (1,true):=by kernel_rfl
theorem sh76:tySh Tryz.prog 76=some (8,true):=by kernel_rfl
theorem sh78:tySh Tryz.prog 78=some (6,true):=by kernel_rfl
theorem sh83:tySh Tryz.prog 83=some (11,true):=by kernel_rfl
theorem sh88:tySh Tryz.prog 88=some (9,true):=by kernel_rfl
theorem sh128:tySh Tryz.prog 128=some (11,true):=by kernel_rfl
theorem sh185:tySh Tryz.prog 185=some (2,true):=by kernel_rfl
theorem by119:bby Tryz.prog 119=some 16:=by kernel_rfl
theorem by22:bby Tryz.prog 22=some 24:=by kernel_rfl
theorem by3:bby Tryz.prog 3=some 8:=by kernel_rfl
theorem by39:bby Tryz.prog 39=some 160:=by kernel_rfl
theorem by53:bby Tryz.prog 53=some 24:=by kernel_rfl
theorem by57:bby Tryz.prog 57=some 48:=by kernel_rfl
theorem by67:bby Tryz.prog 67=some 88:=by kernel_rfl
theorem by76:bby Tryz.prog 76=some 64:=by kernel_rfl
theorem by78:bby Tryz.prog 78=some 48:=by kernel_rfl
theorem by83:bby Tryz.prog 83=some 88:=by kernel_rfl
theorem by88:bby Tryz.prog 88=some 72:=by kernel_rfl
theorem bz119:bsz Tryz.prog 119=some (2,[.int .i64 0,.int .i64 0]):=by kernel_rfl
theorem bz185:bsz Tryz.prog 185=some (2,[.pointer none,.slice none 0 0]):=by kernel_rfl
theorem bz22:bsz Tryz.prog 22=some (1,[.slice none 0 0]):=by kernel_rfl
theorem bz3:bsz Tryz.prog 3=some (1,[.int .i64 0]):=by kernel_rfl
theorem bz39:bsz Tryz.prog 39=some (8,[.int .i64 0,.bool false,.slice none 0 0,.slice none 0 0,.slice none 0 0,.slice none 0 0,.slice none 0 0,.slice none 0 0]):=by kernel_rfl
theorem bz53:bsz Tryz.prog 53=some (3,[.int .i64 0,.int .i64 0,.int .i64 0]):=by kernel_rfl
theorem bz57:bsz Tryz.prog 57=some (4,[.slice none 0 0,.int .i64 0,.int .i64 0,.int .i64 0]):=by kernel_rfl
theorem bz67:bsz Tryz.prog 67=some (9,[.int .i64 0,.int .i64 0,.int .i64 0,.int .i64 0,.int .i64 0,.int .i64 0,.int .i64 0,.int .i64 0,.slice none 0 0]):=by kernel_rfl
theorem bz76:bsz Tryz.prog 76=some (8,[.int .i64 0,.int .i64 0,.int .i64 0,.int .i64 0,.int .i64 0,.int .i64 0,.int .i64 0,.int .i64 0]):=by kernel_rfl
theorem bz78:bsz Tryz.prog 78=some (6,[.int .i64 0,.int .i64 0,.int .i64 0,.int .i64 0,.int .i64 0,.int .i64 0]):=by kernel_rfl
theorem bz83:bsz Tryz.prog 83=some (11,[.int .i64 0,.int .i64 0,.int .i64 0,.int .i64 0,.int .i64 0,.int .i64 0,.int .i64 0,.int .i64 0,.int .i64 0,.int .i64 0,.int .i64 0]):=by kernel_rfl
theorem bz88:bsz Tryz.prog 88=some (9,[.int .i64 0,.int .i64 0,.int .i64 0,.int .i64 0,.int .i64 0,.int .i64 0,.int .i64 0,.int .i64 0,.bool false]):=by kernel_rfl
theorem cal10:cal Tryz.prog 10=true:=by kernel_rfl
theorem cal100:cal Tryz.prog 100=true:=by kernel_rfl
theorem cal101:cal Tryz.prog 101=true:=by kernel_rfl
theorem cal102:cal Tryz.prog 102=true:=by kernel_rfl
theorem cal103:cal Tryz.prog 103=true:=by kernel_rfl
theorem cal104:cal Tryz.prog 104=true:=by kernel_rfl
theorem cal105:cal Tryz.prog 105=true:=by kernel_rfl
theorem cal106:cal Tryz.prog 106=true:=by kernel_rfl
theorem cal107:cal Tryz.prog 107=true:=by kernel_rfl
theorem cal108:cal Tryz.prog 108=true:=by kernel_rfl
theorem cal109:cal Tryz.prog 109=true:=by kernel_rfl
theorem cal11:cal Tryz.prog 11=true:=by kernel_rfl
theorem cal110:cal Tryz.prog 110=true:=by kernel_rfl
theorem cal111:cal Tryz.prog 111=true:=by kernel_rfl
theorem cal112:cal Tryz.prog 112=true:=by kernel_rfl
theorem cal113:cal Tryz.prog 113=true:=by kernel_rfl
theorem cal114:cal Tryz.prog 114=true:=by kernel_rfl
theorem cal115:cal Tryz.prog 115=true:=by kernel_rfl
theorem cal12:cal Tryz.prog 12=true:=by kernel_rfl
theorem cal125:cal Tryz.prog 125=true:=by kernel_rfl
theorem cal13:cal Tryz.prog 13=true:=by kernel_rfl
theorem cal14:cal Tryz.prog 14=true:=by kernel_rfl
theorem cal144:cal Tryz.prog 144=true:=by kernel_rfl
theorem cal145:cal Tryz.prog 145=true:=by kernel_rfl
theorem cal146:cal Tryz.prog 146=true:=by kernel_rfl
theorem cal147:cal Tryz.prog 147=true:=by kernel_rfl
theorem cal148:cal Tryz.prog 148=true:=by kernel_rfl
theorem cal149:cal Tryz.prog 149=true:=by kernel_rfl
theorem cal15:cal Tryz.prog 15=true:=by kernel_rfl
theorem cal150:cal Tryz.prog 150=true:=by kernel_rfl
theorem cal151:cal Tryz.prog 151=true:=by kernel_rfl
theorem cal152:cal Tryz.prog 152=true:=by kernel_rfl
theorem cal153:cal Tryz.prog 153=true:=by kernel_rfl
theorem cal154:cal Tryz.prog 154=true:=by kernel_rfl
theorem cal155:cal Tryz.prog 155=true:=by kernel_rfl
theorem cal156:cal Tryz.prog 156=true:=by kernel_rfl
theorem cal157:cal Tryz.prog 157=true:=by kernel_rfl
theorem cal158:cal Tryz.prog 158=true:=by kernel_rfl
theorem cal159:cal Tryz.prog 159=true:=by kernel_rfl
theorem cal16:cal Tryz.prog 16=true:=by kernel_rfl
theorem cal160:cal Tryz.prog 160=true:=by kernel_rfl
theorem cal161:cal Tryz.prog 161=true:=by kernel_rfl
theorem cal162:cal Tryz.prog 162=true:=by kernel_rfl
theorem cal163:cal Tryz.prog 163=true:=by kernel_rfl
theorem cal164:cal Tryz.prog 164=true:=by kernel_rfl
theorem cal165:cal Tryz.prog 165=true:=by kernel_rfl
theorem cal166:cal Tryz.prog 166=true:=by kernel_rfl
theorem cal167:cal Tryz.prog 167=true:=by kernel_rfl
theorem cal17:cal Tryz.prog 17=true:=by kernel_rfl
theorem cal18:cal Tryz.prog 18=true:=by kernel_rfl
theorem cal183:cal Tryz.prog 183=true:=by kernel_rfl
theorem cal184:cal Tryz.prog 184=true:=by kernel_rfl
theorem cal185:cal Tryz.prog 185=true:=by kernel_rfl
theorem cal186:cal Tryz.prog 186=true:=by kernel_rfl
theorem cal187:cal Tryz.prog 187=true:=by kernel_rfl
theorem cal188:cal Tryz.prog 188=true:=by kernel_rfl
theorem cal189:cal Tryz.prog 189=true:=by kernel_rfl
theorem cal19:cal Tryz.prog 19=true:=by kernel_rfl
theorem cal190:cal Tryz.prog 190=true:=by kernel_rfl
theorem cal191:cal Tryz.prog 191=true:=by kernel_rfl
theorem cal192:cal Tryz.prog 192=true:=by kernel_rfl
theorem cal193:cal Tryz.prog 193=true:=by kernel_rfl
theorem cal194:cal Tryz.prog 194=true:=by kernel_rfl
theorem cal195:cal Tryz.prog 195=true:=by kernel_rfl
theorem cal196:cal Tryz.prog 196=true:=by kernel_rfl
theorem cal197:cal Tryz.prog 197=true:=by kernel_rfl
theorem cal198:cal Tryz.prog 198=true:=by kernel_rfl
theorem cal199:cal Tryz.prog 199=true:=by kernel_rfl
theorem cal200:cal Tryz.prog 200=true:=by kernel_rfl
theorem cal201:cal Tryz.prog 201=true:=by kernel_rfl
theorem cal202:cal Tryz.prog 202=true:=by kernel_rfl
theorem cal203:cal Tryz.prog 203=true:=by kernel_rfl
theorem cal204:cal Tryz.prog 204=true:=by kernel_rfl
theorem cal205:cal Tryz.prog 205=true:=by kernel_rfl
theorem cal206:cal Tryz.prog 206=true:=by kernel_rfl
theorem cal207:cal Tryz.prog 207=true:=by kernel_rfl
theorem cal208:cal Tryz.prog 208=true:=by kernel_rfl
theorem cal209:cal Tryz.prog 209=true:=by kernel_rfl
theorem cal210:cal Tryz.prog 210=true:=by kernel_rfl
theorem cal211:cal Tryz.prog 211=true:=by kernel_rfl
theorem cal212:cal Tryz.prog 212=true:=by kernel_rfl
theorem cal213:cal Tryz.prog 213=true:=by kernel_rfl
theorem cal221:cal Tryz.prog 221=true:=by kernel_rfl
theorem cal222:cal Tryz.prog 222=true:=by kernel_rfl
theorem cal223:cal Tryz.prog 223=true:=by kernel_rfl
theorem cal224:cal Tryz.prog 224=true:=by kernel_rfl
theorem cal225:cal Tryz.prog 225=true:=by kernel_rfl
theorem cal226:cal Tryz.prog 226=true:=by kernel_rfl
theorem cal227:cal Tryz.prog 227=true:=by kernel_rfl
theorem cal228:cal Tryz.prog 228=true:=by kernel_rfl
theorem cal229:cal Tryz.prog 229=true:=by kernel_rfl
theorem cal230:cal Tryz.prog 230=true:=by kernel_rfl
theorem cal231:cal Tryz.prog 231=true:=by kernel_rfl
theorem cal232:cal Tryz.prog 232=true:=by kernel_rfl
theorem cal233:cal Tryz.prog 233=true:=by kernel_rfl
theorem cal234:cal Tryz.prog 234=true:=by kernel_rfl
theorem cal235:cal Tryz.prog 235=true:=by kernel_rfl
theorem cal236:cal Tryz.prog 236=true:=by kernel_rfl
theorem cal237:cal Tryz.prog 237=true:=by kernel_rfl
theorem cal238:cal Tryz.prog 238=true:=by kernel_rfl
theorem cal239:cal Tryz.prog 239=true:=by kernel_rfl
theorem cal246:cal Tryz.prog 246=true:=by kernel_rfl
theorem cal247:cal Tryz.prog 247=true:=by kernel_rfl
theorem cal248:cal Tryz.prog 248=true:=by kernel_rfl
theorem cal249:cal Tryz.prog 249=true:=by kernel_rfl
theorem cal250:cal Tryz.prog 250=true:=by kernel_rfl
theorem cal251:cal Tryz.prog 251=true:=by kernel_rfl
theorem cal252:cal Tryz.prog 252=true:=by kernel_rfl
theorem cal253:cal Tryz.prog 253=true:=by kernel_rfl
theorem cal258:cal Tryz.prog 258=true:=by kernel_rfl
theorem cal259:cal Tryz.prog 259=true:=by kernel_rfl
theorem cal26:cal Tryz.prog 26=true:=by kernel_rfl
theorem cal260:cal Tryz.prog 260=true:=by kernel_rfl
theorem cal28:cal Tryz.prog 28=true:=by kernel_rfl
theorem cal29:cal Tryz.prog 29=true:=by kernel_rfl
theorem cal30:cal Tryz.prog 30=true:=by kernel_rfl
theorem cal31:cal Tryz.prog 31=true:=by kernel_rfl
theorem cal32:cal Tryz.prog 32=true:=by kernel_rfl
theorem cal33:cal Tryz.prog 33=true:=by kernel_rfl
theorem cal34:cal Tryz.prog 34=true:=by kernel_rfl
theorem cal35:cal Tryz.prog 35=true:=by kernel_rfl
theorem cal36:cal Tryz.prog 36=true:=by kernel_rfl
theorem cal47:cal Tryz.prog 47=true:=by kernel_rfl
theorem cal50:cal Tryz.prog 50=true:=by kernel_rfl
theorem cal56:cal Tryz.prog 56=true:=by kernel_rfl
theorem cal58:cal Tryz.prog 58=true:=by kernel_rfl
theorem cal59:cal Tryz.prog 59=true:=by kernel_rfl
theorem cal60:cal Tryz.prog 60=true:=by kernel_rfl
theorem cal61:cal Tryz.prog 61=true:=by kernel_rfl
theorem cal62:cal Tryz.prog 62=true:=by kernel_rfl
theorem cal63:cal Tryz.prog 63=true:=by kernel_rfl
theorem cal64:cal Tryz.prog 64=true:=by kernel_rfl
theorem cal65:cal Tryz.prog 65=true:=by kernel_rfl
theorem cal66:cal Tryz.prog 66=true:=by kernel_rfl
theorem cal67:cal Tryz.prog 67=true:=by kernel_rfl
theorem cal68:cal Tryz.prog 68=true:=by kernel_rfl
theorem cal69:cal Tryz.prog 69=true:=by kernel_rfl
theorem cal7:cal Tryz.prog 7=true:=by kernel_rfl
theorem cal70:cal Tryz.prog 70=true:=by kernel_rfl
theorem cal78:cal Tryz.prog 78=true:=by kernel_rfl
theorem cal8:cal Tryz.prog 8=true:=by kernel_rfl
theorem cal80:cal Tryz.prog 80=true:=by kernel_rfl
theorem cal81:cal Tryz.prog 81=true:=by kernel_rfl
theorem cal82:cal Tryz.prog 82=true:=by kernel_rfl
theorem cal85:cal Tryz.prog 85=true:=by kernel_rfl
theorem cal9:cal Tryz.prog 9=true:=by kernel_rfl
theorem cal96:cal Tryz.prog 96=true:=by kernel_rfl
theorem cal97:cal Tryz.prog 97=true:=by kernel_rfl
theorem cal98:cal Tryz.prog 98=true:=by kernel_rfl
theorem cal99:cal Tryz.prog 99=true:=by kernel_rfl
theorem fo25_3:fOff Tryz.prog 25 3=some 3:=by kernel_rfl
theorem fo25_4:fOff Tryz.prog 25 4=some 4:=by kernel_rfl
theorem fo31_0:fOff Tryz.prog 31 0=some 0:=by kernel_rfl
theorem fo31_1:fOff Tryz.prog 31 1=some 5:=by kernel_rfl
theorem fo39_0:fOff Tryz.prog 39 0=some 0:=by kernel_rfl
theorem fo39_1:fOff Tryz.prog 39 1=some 1:=by kernel_rfl
theorem fo39_2:fOff Tryz.prog 39 2=some 2:=by kernel_rfl
theorem fo39_3:fOff Tryz.prog 39 3=some 3:=by kernel_rfl
theorem fo39_4:fOff Tryz.prog 39 4=some 4:=by kernel_rfl
theorem fo39_5:fOff Tryz.prog 39 5=some 5:=by kernel_rfl
theorem fo39_6:fOff Tryz.prog 39 6=some 6:=by kernel_rfl
theorem fo39_7:fOff Tryz.prog 39 7=some 7:=by kernel_rfl
theorem fo53_0:fOff Tryz.prog 53 0=some 0:=by kernel_rfl
theorem fo53_1:fOff Tryz.prog 53 1=some 1:=by kernel_rfl
theorem fo78_3:fOff Tryz.prog 78 3=some 3:=by kernel_rfl
theorem fo78_4:fOff Tryz.prog 78 4=some 4:=by kernel_rfl
theorem fo78_5:fOff Tryz.prog 78 5=some 5:=by kernel_rfl
theorem fo88_5:fOff Tryz.prog 88 5=some 5:=by kernel_rfl
theorem fo88_6:fOff Tryz.prog 88 6=some 6:=by kernel_rfl
theorem pl31:plc Tryz.prog 31=some [(0,5),(5,1),(6,1),(7,1),(8,1),(9,1)]:=by kernel_rfl
theorem pl39:plc Tryz.prog 39=some [(0,1),(1,1),(2,1),(3,1),(4,1),(5,1),(6,1),(7,1)]:=by kernel_rfl
theorem z114:zeroOf Tryz.prog 114=some [.int .i64 0,.int .i64 0,.int .i64 0,.int .i64 0,.int .i64 0,.int .i64 0,.int .i64 0,.int .i64 0,.int .i64 0]:=by kernel_rfl
theorem z119:zeroOf Tryz.prog 119=some [.int .i64 0,.int .i64 0]:=by kernel_rfl
theorem z128:zeroOf Tryz.prog 128=some [.int .i64 0,.int .i64 0,.int .i64 0,.int .i64 0,.int .i64 0,.int .i64 0,.int .i64 0,.int .i64 0,.int .i64 0,.int .i64 0,.int .i64 0]:=by kernel_rfl
theorem z152:zeroOf Tryz.prog 152=some [.slice none 0 0,.slice none 0 0,.slice none 0 0]:=by kernel_rfl
theorem z158:zeroOf Tryz.prog 158=some [.nilFunc]:=by kernel_rfl
theorem z180:zeroOf Tryz.prog 180=some []:=by kernel_rfl
theorem z181:zeroOf Tryz.prog 181=some []:=by kernel_rfl
theorem z182:zeroOf Tryz.prog 182=some []:=by kernel_rfl
theorem z184:zeroOf Tryz.prog 184=some [.int .i64 0]:=by kernel_rfl
theorem z185:zeroOf Tryz.prog 185=some [.pointer none,.slice none 0 0]:=by kernel_rfl
theorem z236:zeroOf Tryz.prog 236=some [.int .i64 0,.int .i64 0,.int .i64 0,.int .i64 0,.int .i64 0,.int .i64 0,.int .i64 0,.int .i64 0,.int .i64 0,.int .i64 0,.int .i64 0,.int .i64 0,.int .i64 0,.int .i64 0,.int .i64 0,.int .i64 0,.int .i64 0]:=by kernel_rfl
theorem z25:zeroOf Tryz.prog 25=some [.int .i64 0,.int .i64 0,.slice none 0 0,.slice none 0 0,.slice none 0 0]:=by kernel_rfl
theorem z3:zeroOf Tryz.prog 3=some [.int .i64 0]:=by kernel_rfl
theorem z31:zeroOf Tryz.prog 31=some [.int .i64 0,.int .i64 0,.slice none 0 0,.slice none 0 0,.slice none 0 0,.slice none 0 0,.slice none 0 0,.slice none 0 0,.slice none 0 0,.int .i64 0]:=by kernel_rfl
theorem z39:zeroOf Tryz.prog 39=some [.int .i64 0,.bool false,.slice none 0 0,.slice none 0 0,.slice none 0 0,.slice none 0 0,.slice none 0 0,.slice none 0 0]:=by kernel_rfl
theorem z53:zeroOf Tryz.prog 53=some [.int .i64 0,.int .i64 0,.int .i64 0]:=by kernel_rfl
theorem z57:zeroOf Tryz.prog 57=some [.slice none 0 0,.int .i64 0,.int .i64 0,.int .i64 0]:=by kernel_rfl
theorem z67:zeroOf Tryz.prog 67=some [.int .i64 0,.int .i64 0,.int .i64 0,.int .i64 0,.int .i64 0,.int .i64 0,.int .i64 0,.int .i64 0,.slice none 0 0]:=by kernel_rfl
theorem z72:zeroOf Tryz.prog 72=some [.nilFunc]:=by kernel_rfl
theorem z73:zeroOf Tryz.prog 73=some [.nilFunc,.nilFunc,.nilFunc,.nilFunc,.nilFunc]:=by kernel_rfl
theorem z76:zeroOf Tryz.prog 76=some [.int .i64 0,.int .i64 0,.int .i64 0,.int .i64 0,.int .i64 0,.int .i64 0,.int .i64 0,.int .i64 0]:=by kernel_rfl
theorem z78:zeroOf Tryz.prog 78=some [.int .i64 0,.int .i64 0,.int .i64 0,.int .i64 0,.int .i64 0,.int .i64 0]:=by kernel_rfl
theorem z79:zeroOf Tryz.prog 79=some [.int .i64 0,.int .i64 0]:=by kernel_rfl
theorem z83:zeroOf Tryz.prog 83=some [.int .i64 0,.int .i64 0,.int .i64 0,.int .i64 0,.int .i64 0,.int .i64 0,.int .i64 0,.int .i64 0,.int .i64 0,.int .i64 0,.int .i64 0]:=by kernel_rfl
theorem z88:zeroOf Tryz.prog 88=some [.int .i64 0,.int .i64 0,.int .i64 0,.int .i64 0,.int .i64 0,.int .i64 0,.int .i64 0,.int .i64 0,.bool false]:=by kernel_rfl
theorem zag182:zAgg Tryz.prog 182=true:=by kernel_rfl
noncomputable section
def tb:Tab2:={ sh:=[(3,(1,false)),(4,(1,false)),(22,(1,false)),(23,(1,false)),(25,(5,true)),(26,(1,false)),(27,(1,false)),(28,(1,false)),(29,(1,false)),(31,(10,true)),(36,(1,false)),(37,(1,false)),(39,(8,true)),(40,(1,false)),(53,(3,true)),(54,(1,false)),(55,(3,true)),(57,(4,true)),(67,(9,true)),(72,(1,true)),(73,(5,true)),(76,(8,true)),(78,(6,true)),(83,(11,true)),(88,(9,true)),(114,(9,true)),(119,(2,true)),(128,(11,true)),(158,(1,false)),(160,(1,false)),(170,(1,false)),(182,(0,true)),(185,(2,true))],fo:=[((25,0),0),((25,1),1),((25,2),2),((25,3),3),((25,4),4),((31,0),0),((31,1),5),((31,2),6),((31,3),7),((31,4),8),((31,5),9),((39,0),0),((39,1),1),((39,2),2),((39,3),3),((39,4),4),((39,5),5),((39,6),6),((39,7),7),((53,0),0),((53,1),1),((53,2),2),((57,0),0),((57,1),1),((67,0),0),((67,1),1),((67,2),2),((67,3),3),((67,4),4),((67,5),5),((67,6),6),((67,7),7),((67,8),8),((72,0),0),((76,0),0),((76,1),1),((76,2),2),((76,3),3),((76,4),4),((76,5),5),((76,6),6),((76,7),7),((78,0),0),((78,1),1),((78,2),2),((78,3),3),((78,4),4),((78,5),5),((83,0),0),((83,1),1),((83,2),2),((83,3),3),((83,4),4),((83,5),5),((83,6),6),((83,7),7),((83,8),8),((83,9),9),((83,10),10),((88,0),0),((88,1),1),((88,2),2),((88,3),3),((88,4),4),((88,5),5),((88,6),6),((88,7),7),((88,8),8),((119,0),0),((119,1),1),((185,0),0),((185,1),1)],fp:=[((53,0),(0,3)),((53,1),(1,3)),((57,0),(0,54))],ki:=[(3,.i64),(176,.u64),(237,.u64)],se:=[(22,3),(23,22),(26,39),(27,76),(28,88),(29,78),(36,57),(37,83),(54,53),(63,67),(120,119),(186,185)],bl:=[(25,[(0,1),(1,1),(2,1),(3,1),(4,1)]),(31,[(0,5),(5,1),(6,1),(7,1),(8,1),(9,1)]),(53,[(0,1),(1,1),(2,1)]),(57,[(0,1),(1,3)]),(67,[(0,1),(1,1),(2,1),(3,1),(4,1),(5,1),(6,1),(7,1),(8,1)]),(72,[(0,1)]),(76,[(0,1),(1,1),(2,1),(3,1),(4,1),(5,1),(6,1),(7,1)]),(78,[(0,1),(1,1),(2,1),(3,1),(4,1),(5,1)]),(83,[(0,1),(1,1),(2,1),(3,1),(4,1),(5,1),(6,1),(7,1),(8,1),(9,1),(10,1)]),(88,[(0,1),(1,1),(2,1),(3,1),(4,1),(5,1),(6,1),(7,1),(8,1)]),(119,[(0,1),(1,1)]),(180,[]),(181,[]),(182,[]),(184,[(0,1)]),(185,[(0,1),(1,1)])],zs:=[(3,[.int .i64 0]),(25,[.int .i64 0,.int .i64 0,.slice none 0 0,.slice none 0 0,.slice none 0 0]),(31,[.int .i64 0,.int .i64 0,.slice none 0 0,.slice none 0 0,.slice none 0 0,.slice none 0 0,.slice none 0 0,.slice none 0 0,.slice none 0 0,.int .i64 0]),(39,[.int .i64 0,.bool false,.slice none 0 0,.slice none 0 0,.slice none 0 0,.slice none 0 0,.slice none 0 0,.slice none 0 0]),(53,[.int .i64 0,.int .i64 0,.int .i64 0]),(57,[.slice none 0 0,.int .i64 0,.int .i64 0,.int .i64 0]),(67,[.int .i64 0,.int .i64 0,.int .i64 0,.int .i64 0,.int .i64 0,.int .i64 0,.int .i64 0,.int .i64 0,.slice none 0 0]),(72,[.nilFunc]),(73,[.nilFunc,.nilFunc,.nilFunc,.nilFunc,.nilFunc]),(76,[.int .i64 0,.int .i64 0,.int .i64 0,.int .i64 0,.int .i64 0,.int .i64 0,.int .i64 0,.int .i64 0]),(78,[.int .i64 0,.int .i64 0,.int .i64 0,.int .i64 0,.int .i64 0,.int .i64 0]),(83,[.int .i64 0,.int .i64 0,.int .i64 0,.int .i64 0,.int .i64 0,.int .i64 0,.int .i64 0,.int .i64 0,.int .i64 0,.int .i64 0,.int .i64 0]),(88,[.int .i64 0,.int .i64 0,.int .i64 0,.int .i64 0,.int .i64 0,.int .i64 0,.int .i64 0,.int .i64 0,.bool false]),(114,[.int .i64 0,.int .i64 0,.int .i64 0,.int .i64 0,.int .i64 0,.int .i64 0,.int .i64 0,.int .i64 0,.int .i64 0]),(119,[.int .i64 0,.int .i64 0]),(128,[.int .i64 0,.int .i64 0,.int .i64 0,.int .i64 0,.int .i64 0,.int .i64 0,.int .i64 0,.int .i64 0,.int .i64 0,.int .i64 0,.int .i64 0]),(158,[.nilFunc]),(180,[]),(181,[]),(182,[]),(184,[.int .i64 0]),(185,[.pointer none,.slice none 0 0]),(236,[.int .i64 0,.int .i64 0,.int .i64 0,.int .i64 0,.int .i64 0,.int .i64 0,.int .i64 0,.int .i64 0,.int .i64 0,.int .i64 0,.int .i64 0,.int .i64 0,.int .i64 0,.int .i64 0,.int .i64 0,.int .i64 0,.int .i64 0])] }
theorem tbk:Tab2Ok Tryz.prog tb:=⟨⟨by kernel_rfl,by kernel_rfl,by kernel_rfl⟩,by kernel_rfl,by kernel_rfl,by kernel_rfl,⟨z3,z25,z31,z39,z53,z57,z67,z72,z73,z76,z78,z83,z88,z114,z119,z128,z158,z180,z181,z182,z184,z185,z236,trivial⟩⟩
theorem clone56_c {H:AH} {id:Nat} {l:List GLayer} (hid:H id=none) (hl:l.length≤68719476736):PC Tryz.prog 56 [lst 3 GLayer.av l] H (fun y H'=>∃ ver,y=.sl id ver 0 l.length∧H'=upd H id (some ⟨53,3,true,true,ver,l.map GLayer.av⟩)):=by
  refine pc_of' (c:=_) Tryz.func56 rfl rfl ?_;intro Q hret hnorm
  repeat (refine c_seq ?_)
  refine c_reg ?_;intro K hK
  refine st rfl rfl rfl (yv_assign rfl rfl) ?_
  refine rg_nil (hK _ ?_)
  repeat (refine c_seq ?_)
  refine c_reg ?_;intro K hK
  refine st rfl rfl rfl (yv_move rfl rfl) ?_
  refine se rfl rfl rfl (Yield.weak (yl_slnil (xs:=l.map GLayer.av) (sz:=3) rfl Tryz.underlying54 rfl rfl) (fun _ h=>h) (fun _ _=>trivial)) ?_;rintro _ _ ⟨b,rfl,hb,rfl⟩
  refine rg_nil (hK _ ?_)
  refine c_if (b:=b) rfl ?_ ?_
  · intro h;subst h
    have hl0:l=[]:=List.map_eq_nil_iff.1 (hb rfl)
    subst hl0
    repeat (refine c_seq ?_)
    refine c_reg ?_;intro K hK
    refine st rfl rfl rfl (yv_assign rfl rfl) ?_
    refine rg_nil (hK _ ?_)
    refine c_nilobj 2 id 53 3 rfl hid ?_;intro v
    refine c_ret (hret _ _ _ (.tmp rfl .nil) (fun _ _ h=>h) ?_)
    exact ⟨v,rfl,rfl⟩
  · intro h;subst h
    refine c_skip ?_
    repeat (refine c_seq ?_)
    refine c_reg ?_;intro K hK
    refine se rfl rfl rfl (yl_buildO (ps:=[]) id [] .any rfl Tryz.underlying54 bz53 .nil rfl rfl rfl rfl) ?_;rintro _ _ ⟨v,-,rfl,rfl⟩
    refine st rfl rfl rfl (yv_move rfl rfl) ?_
    refine se rfl rfl rfl (yl_appT (g:=GLayer.av) (l:=[]) (m:=l) (l':=l) .any rfl Tryz.underlying54 bz53 by53 rfl rfl rfl (upd_same _ _ _) rfl rfl rfl rfl rfl rfl rfl (.refl _) (fun _=>rfl) rfl hl) ?_;rintro _ _ ⟨v2,-,rfl,rfl⟩
    refine st rfl rfl rfl (yv_assign rfl rfl) ?_
    refine rg_nil (hK _ ?_)
    refine c_ret (hret _ _ _ (.tmp rfl .nil) (fun _ _ h=>h) ?_)
    exact ⟨v2,rfl,upd_updV⟩
noncomputable def t_law00_Place (a1:Int) (a2:Int):WT Tryz.prog (.b (Int)) :=
 .as (a2≠0) inferInstance<|
 .bl (a1.tmod a2:Int) fun x4 =>
 .gv 8<|
 .bB 10 (decide (x4<0)) fun x5 =>
 .jn 0 [4] [] [] (fun _ (a:Int)=>[(5,int a)]) (fun _ _=>[]) (.ifs [10] x5 (.bI 13 (w64 (x4+a2)) fun x6 =>
 .ret x6) (.ret x4))
  (fun y0_1 =>
 .ret (y0_1))
def d_law00_Place (a1:Int) (a2:Int):Option (Int):=(t_law00_Place a1 a2).run
theorem d_law00_Place_c {a1:Int} {a2:Int} {r:Int} (h0:d_law00_Place a1 a2=some r):PP Tryz.prog 9 [int a1,int a2] (fun y=>y=int r):=by
 refine wt_pp mixed tbk (fun (r:Int)=>int r) h0 Tryz.func9 (fun r=>pvI r) 100000 ?_
 conv=>whnf
 refine .mk fun p3=>?_
 conv=>whnf
 refine .mk fun x4 e4=>?_
 conv=>whnf
 refine .mk _ (agr (yv_rem rfl rfl rfl p3 e4)) ?_
 conv=>whnf
 refine .mk fun x5=>?_
 conv=>whnf
 refine .mk ?_ ?_
 conv=>whnf
 refine .mk ?_ ?_
 conv=>whnf
 refine .mk fun x6=>?_
 exact .mk
 conv=>whnf
 exact .mk
 intro _ _
 exact .mk
def d_law00_Master_L0 (x3:Int) (x8:Int):Nat→Int→(List Int)→Option ((List Int))
  | 0,_,_=>none
  | n+1,y0_1,y0_3 =>
    bnd (decide (y0_1<x8)) fun x15 =>
    cond x15 (bnd (w64 (x3.tdiv 24)) fun x16 =>
    bnd (x16.tmod 7) fun x17 =>
    bnd (w64 (x17+y0_1)) fun x18 =>
    bnd (y0_3++([x18]:List Int)) fun x19 =>
    asrt (x19.length≤68719476736)<|
    bnd (w64 (y0_1+1)) fun x22 =>
    d_law00_Master_L0 x3 x8 n x22 x19) (some y0_3)
def d_law00_Master_L2 (x3:Int) (x8:Int) (y2_1:Int):Nat→Int→(List Int)→(List Int)→Option ((List Int)×(List Int))
  | 0,_,_,_=>none
  | n+1,y3_3,y3_4,y3_5 =>
    bnd (decide (y3_3<x8)) fun x31 =>
    cond x31 (bnd (w64 (x3.tdiv 168)) fun x32 =>
    bnd (w64 (x32+y3_3)) fun x33 =>
    bnd (w64 (x3.tdiv 672)) fun x34 =>
    bnd (x34.tmod 4) fun x35 =>
    bnd (w64 (y2_1*x35)) fun x36 =>
    bnd (w64 (x33+x36)) fun x37 =>
    bnd (x37.tmod 4) fun x38 =>
    bnd (w64 (1+x38)) fun x39 =>
    bnd (y3_4++([x39]:List Int)) fun x40 =>
    asrt (x40.length≤68719476736)<|
    bnd (w64 (x3.tdiv 2688)) fun x43 =>
    bnd (w64 (7*y3_3)) fun x44 =>
    bnd (w64 (x43+x44)) fun x45 =>
    bnd (w64 (x45+y2_1)) fun x46 =>
    bnd (x46.tmod 40) fun x47 =>
    bnd (y3_5++([x47]:List Int)) fun x48 =>
    asrt (x48.length≤68719476736)<|
    bnd (w64 (y3_3+1)) fun x51 =>
    d_law00_Master_L2 x3 x8 y2_1 n x51 x40 x48) (some (y3_4,y3_5))
def d_law00_Master_L1 (x3:Int) (x5:Int) (x8:Int):Nat→Int→(List (List Int))→(List (List Int))→Option ((List (List Int))×(List (List Int)))
  | 0,_,_,_=>none
  | n+1,y2_1,y2_4,y2_5 =>
    bnd (decide (y2_1<x5)) fun x26 =>
    cond x26 ((show Option ((List (List Int))×(List (List Int))) from
    (show Option ((List Int)×(List Int)) from
    d_law00_Master_L2 x3 x8 y2_1 n (0:Int) (([]:List Int):List Int) (([]:List Int):List Int)).bind <| p2 fun y4_3 y4_4 =>
    bnd (y2_4++[y4_3]) fun x52 =>
    asrt (x52.length≤68719476736)<|
    bnd (y2_5++[y4_4]) fun x55 =>
    asrt (x55.length≤68719476736)<|
    some ((x52:List (List Int)),(x55:List (List Int)))).bind <| p2 fun (y5_3:List (List Int)) (y5_4:List (List Int)) =>
    bnd (w64 (y2_1+1)) fun x58 =>
    d_law00_Master_L1 x3 x5 x8 n x58 (y5_3:List (List Int)) (y5_4:List (List Int))) (some ((y2_4:List (List Int)),(y2_5:List (List Int))))
def d_law00_Master (n:Nat) (a1:Int):Option (GMaster) :=
(d_law00_Place a1 1073741824).bind fun x3 =>
bnd (x3.tmod 2) fun x4 =>
bnd (w64 (2+x4)) fun x5 =>
bnd (w64 (x3.tdiv 2)) fun x6 =>
bnd (x6.tmod 3) fun x7 =>
bnd (w64 (2+x7)) fun x8 =>
bnd (w64 (x3.tdiv 6)) fun x9 =>
bnd (x9.tmod 4) fun x10 =>
bnd (w64 (1+x10)) fun x11 =>
(show Option ((List Int)) from
d_law00_Master_L0 x3 x8 n (0:Int) (([]:List Int):List Int)).bind <| fun y1_2 =>
(show Option ((List (List Int))×(List (List Int))) from
d_law00_Master_L1 x3 x5 x8 n (0:Int) (([]:List (List Int)):List (List Int)) (([]:List (List Int)):List (List Int))).bind <| p2 fun (y6_3:List (List Int)) (y6_4:List (List Int)) =>
some (((⟨x5,x11,y1_2,y6_3,y6_4⟩:GMaster):GMaster))
theorem d_law00_Master_c {n:Nat} {a1:Int} {r:GMaster} (h0:d_law00_Master n a1=some r):PP Tryz.prog 8 [int a1] (fun y=>y=.agg (GMaster.av r)):=by
  unfold d_law00_Master at h0
  refine pp_of_pc (R0:=fun y H=>Cv (frzH H) y (.agg (GMaster.av r))) ?_ (fun y H hc=>⟨_,rfl,(fun (a:GMaster)=>PV.agg (GMaster.pvc a)) r,hc⟩)
  refine pcw (c:=_) Tryz.func8 rfl rfl ?_;intro Q hret hnorm
  refine tc tbk 2 (.mk ?_)
  refine sA 1 z25 fun v2=>?_
  refine tr tbk 4 (.mk ?_)
  obtain ⟨x3,e3,h0⟩:=bind_e h0
  refine sC cal9 (d_law00_Place_c e3) ?_
  refine tr tbk 5 (.mk ?_)
  refine ni tbk h0 fun x4 h0=>?_
  refine ni tbk h0 fun x5 h0=>?_
  refine tr tbk 1 (.mk ?_)
  refine ni tbk h0 fun x6 h0=>?_
  refine ni tbk h0 fun x7 h0=>?_
  refine ni tbk h0 fun x8 h0=>?_
  refine tr tbk 7 (.mk ?_)
  refine ni tbk h0 fun x9 h0=>?_
  refine ni tbk h0 fun x10 h0=>?_
  refine ni tbk h0 fun x11 h0=>?_
  refine tr tbk 1 (.mk ?_)
  refine sA 2 z25 fun v12=>?_
  refine sS ⟨25,5,true,true,v12,[[int x5,int x11,.sc (.slice none 0 0),.sc (.slice none 0 0),.sc (.slice none 0 0)]]⟩ sh25 ?_
  refine tr tbk 6 (.mk ?_)
  refine jn h0 [2,3,4,5,6] [1] (fun (a:(List Int)) (k:Nat)=>[]) (fun a k=>[(2,⟨25,5,true,true,v12,[[int x5,int x11,.sl 4 k 0 a.length,.sc (.slice none 0 0),.sc (.slice none 0 0)]]⟩),(4,⟨3,1,true,true,k,a.map fI⟩)]) ⟨fun j13 h1=>?_,?_⟩
  refine tc tbk 1 (.mk ?_)
  refine c_nilcell 2 0 2 4 3 1 (rows:=fun v14=>[[int x5,int x11,.sl 4 v14 0 0,.sc (.slice none 0 0),.sc (.slice none 0 0)]]) rfl rfl rfl rfl (fun _=>rfl) ?_;intro v14
  refine lp (fun n (a:Int×(List Int))=>d_law00_Master_L0 x3 x8 n a.1 a.2) ((0:Int),(([]:List Int):List Int)) v14 h1 [2,3,4,5,6] [1] (fun (a:Int×(List Int)) (k:Nat)=>[(7,int a.1)]) (fun a k=>[(2,⟨25,5,true,true,v12,[[int x5,int x11,.sl 4 k 0 a.2.length,.sc (.slice none 0 0),.sc (.slice none 0 0)]]⟩),(4,⟨3,1,true,true,k,a.2.map fI⟩)]) (fun _=>rfl) ⟨leA,?_⟩
  rintro n ⟨y0_1,y0_3⟩ w0_2 hm h1
  replace h1:d_law00_Master_L0 x3 x8 (n+1) y0_1 y0_3=some _:=h1
  rw [d_law00_Master_L0] at h1
  refine tc tbk 5 (.mk ?_)
  refine nb tbk h1 fun x15 h1=>?_
  refine tr tbk 1 (.mk ?_)
  cases x15
  replace h1:=cf h1
  refine tc tbk 2 (.mk ?_)
  exact lf h1 w0_2 leA
  replace h1:=ct h1
  refine tc tbk 8 (.mk ?_)
  refine ni tbk h1 fun x16 h1=>?_
  refine ni tbk h1 fun x17 h1=>?_
  refine tr tbk 1 (.mk ?_)
  refine ni tbk h1 fun x18 h1=>?_
  refine sY (yv_to (y:=lst 1 fI ([x18]:List Int)) (yv_buildSlice (ps:=[(0,_)]) (rows:=[[int x18]]) rfl Tryz.underlying22 bz3 (.cons rfl .nil) (by kernel_rfl) rfl rfl rfl) rfl) ?_
  obtain ⟨x19,e19,h1⟩:=bnd_e h1
  obtain ⟨p20,h1⟩:=asrt_e h1
  refine rse rfl rfl rfl (yl_appT (g:=fI) (l:=y0_3) (m:=([x18]:List Int)) .any rfl Tryz.underlying22 bz3 by3 rfl rfl rfl rfl rfl rfl rfl rfl rfl rfl (Eq.symm rfl) (.refl _) (fun _=>rfl) e19 p20) ?_;rintro _ _ ⟨v21,-,rfl,rfl⟩
  refine tr tbk 1 (.mk ?_)
  refine sS ⟨25,5,true,true,v12,[[int x5,int x11,.sl 4 v21 0 x19.length,.sc (.slice none 0 0),.sc (.slice none 0 0)]]⟩ sh22 ?_
  refine tr tbk 4 (.mk ?_)
  refine ni tbk h1 fun x22 h1=>?_
  refine tr tbk 2 (.mk ?_)
  exact bk (x22,x19) v21 h1 leA
  rintro y1_2 w1_1 h0
  refine tc tbk 5 (.mk ?_)
  refine jn h0 [2,6] [1,4] (fun (a:(List (List Int))×(List (List Int))) (k:Nat×Nat)=>[]) (fun a k=>[(2,⟨25,5,true,true,v12,[[int x5,int x11,.sl 4 w1_1 0 y1_2.length,.sl 11 k.1 0 a.1.length,.sl 12 k.2 0 a.2.length]]⟩),(11,⟨22,1,true,true,k.1,a.1.map (fL 1 fI)⟩),(12,⟨22,1,true,true,k.2,a.2.map (fL 1 fI)⟩)]) ⟨fun j23 h1=>?_,?_⟩
  refine tc tbk 1 (.mk ?_)
  refine c_nilcell 2 0 3 11 22 1 (rows:=fun v24=>[[int x5,int x11,.sl 4 w1_1 0 y1_2.length,.sl 11 v24 0 0,.sc (.slice none 0 0)]]) rfl rfl rfl rfl (fun _=>rfl) ?_;intro v24
  refine c_nilcell 2 0 4 12 22 1 (rows:=fun v25=>[[int x5,int x11,.sl 4 w1_1 0 y1_2.length,.sl 11 v24 0 0,.sl 12 v25 0 0]]) rfl rfl rfl rfl (fun _=>rfl) ?_;intro v25
  refine lp (fun n (a:Int×(List (List Int))×(List (List Int)))=>d_law00_Master_L1 x3 x5 x8 n a.1 a.2.1 a.2.2) ((0:Int),(([]:List (List Int)):List (List Int)),(([]:List (List Int)):List (List Int))) (v24,v25) h1 [2,3,4,5,6] [1,4] (fun (a:Int×(List (List Int))×(List (List Int))) (k:Nat×Nat)=>[(8,int a.1)]) (fun a k=>[(2,⟨25,5,true,true,v12,[[int x5,int x11,.sl 4 w1_1 0 y1_2.length,.sl 11 k.1 0 a.2.1.length,.sl 12 k.2 0 a.2.2.length]]⟩),(11,⟨22,1,true,true,k.1,a.2.1.map (fL 1 fI)⟩),(12,⟨22,1,true,true,k.2,a.2.2.map (fL 1 fI)⟩)]) (fun _=>rfl) ⟨leA,?_⟩
  rintro n ⟨y2_1,y2_4,y2_5⟩ ⟨w2_2,w2_3⟩ hm h1
  replace h1:d_law00_Master_L1 x3 x5 x8 (n+1) y2_1 y2_4 y2_5=some _:=h1
  rw [d_law00_Master_L1] at h1
  refine tc tbk 5 (.mk ?_)
  refine nb tbk h1 fun x26 h1=>?_
  refine tr tbk 1 (.mk ?_)
  cases x26
  replace h1:=cf h1
  refine tc tbk 2 (.mk ?_)
  exact lf h1 (w2_2,w2_3) leA
  replace h1:=ct h1
  refine tc tbk 3 (.mk ?_)
  refine jn h1 [2,3,4,5,6,8] [1,4] (fun (a:(List (List Int))×(List (List Int))) (k:Nat×Nat)=>[]) (fun a k=>[(2,⟨25,5,true,true,v12,[[int x5,int x11,.sl 4 w1_1 0 y1_2.length,.sl 11 k.1 0 a.1.length,.sl 12 k.2 0 a.2.length]]⟩),(11,⟨22,1,true,true,k.1,a.1.map (fL 1 fI)⟩),(12,⟨22,1,true,true,k.2,a.2.map (fL 1 fI)⟩)]) ⟨fun j27 h2=>?_,?_⟩
  refine tc tbk 11 (.mk ?_)
  refine jn h2 [2,3,4,5,6,8] [1,2,4,11,12] (fun (a:(List Int)×(List Int)) (k:Nat×Nat)=>[(9,.sl 7 k.1 0 a.1.length),(10,.sl 8 k.2 0 a.2.length)]) (fun a k=>[(7,⟨3,1,true,true,k.1,a.1.map fI⟩),(8,⟨3,1,true,true,k.2,a.2.map fI⟩)]) ⟨fun j28 h3=>?_,?_⟩
  refine tc tbk 1 (.mk ?_)
  refine c_nilobj 9 7 3 1 rfl rfl ?_;intro v29
  refine c_nilobj 10 8 3 1 rfl rfl ?_;intro v30
  refine lp (fun n (a:Int×(List Int)×(List Int))=>d_law00_Master_L2 x3 x8 y2_1 n a.1 a.2.1 a.2.2) ((0:Int),(([]:List Int):List Int),(([]:List Int):List Int)) (v29,v30) h3 [2,3,4,5,6,8] [1,2,4,11,12] (fun (a:Int×(List Int)×(List Int)) (k:Nat×Nat)=>[(9,.sl 7 k.1 0 a.2.1.length),(10,.sl 8 k.2 0 a.2.2.length),(11,int a.1)]) (fun a k=>[(7,⟨3,1,true,true,k.1,a.2.1.map fI⟩),(8,⟨3,1,true,true,k.2,a.2.2.map fI⟩)]) (fun _=>rfl) ⟨leA,?_⟩
  rintro n ⟨y3_3,y3_4,y3_5⟩ ⟨w3_1,w3_2⟩ hm h3
  replace h3:d_law00_Master_L2 x3 x8 y2_1 (n+1) y3_3 y3_4 y3_5=some _:=h3
  rw [d_law00_Master_L2] at h3
  refine tc tbk 5 (.mk ?_)
  refine nb tbk h3 fun x31 h3=>?_
  refine tr tbk 1 (.mk ?_)
  cases x31
  replace h3:=cf h3
  refine tc tbk 2 (.mk ?_)
  exact lf h3 (w3_1,w3_2) leA
  replace h3:=ct h3
  refine tc tbk 7 (.mk ?_)
  refine ni tbk h3 fun x32 h3=>?_
  refine tr tbk 1 (.mk ?_)
  refine ni tbk h3 fun x33 h3=>?_
  refine tr tbk 2 (.mk ?_)
  refine ni tbk h3 fun x34 h3=>?_
  refine ni tbk h3 fun x35 h3=>?_
  refine ni tbk h3 fun x36 h3=>?_
  refine ni tbk h3 fun x37 h3=>?_
  refine ni tbk h3 fun x38 h3=>?_
  refine ni tbk h3 fun x39 h3=>?_
  refine sY (yv_to (y:=lst 1 fI ([x39]:List Int)) (yv_buildSlice (ps:=[(0,_)]) (rows:=[[int x39]]) rfl Tryz.underlying22 bz3 (.cons rfl .nil) (by kernel_rfl) rfl rfl rfl) rfl) ?_
  obtain ⟨x40,e40,h3⟩:=bnd_e h3
  obtain ⟨p41,h3⟩:=asrt_e h3
  refine rse rfl rfl rfl (yl_appT (g:=fI) (l:=y3_4) (m:=([x39]:List Int)) .any rfl Tryz.underlying22 bz3 by3 rfl rfl rfl rfl rfl rfl rfl rfl rfl rfl (Eq.symm rfl) (.refl _) (fun _=>rfl) e40 p41) ?_;rintro _ _ ⟨v42,-,rfl,rfl⟩
  refine tr tbk 2 (.mk ?_)
  refine ni tbk h3 fun x43 h3=>?_
  refine tr tbk 1 (.mk ?_)
  refine ni tbk h3 fun x44 h3=>?_
  refine ni tbk h3 fun x45 h3=>?_
  refine tr tbk 1 (.mk ?_)
  refine ni tbk h3 fun x46 h3=>?_
  refine ni tbk h3 fun x47 h3=>?_
  refine sY (yv_to (y:=lst 1 fI ([x47]:List Int)) (yv_buildSlice (ps:=[(0,_)]) (rows:=[[int x47]]) rfl Tryz.underlying22 bz3 (.cons rfl .nil) (by kernel_rfl) rfl rfl rfl) rfl) ?_
  obtain ⟨x48,e48,h3⟩:=bnd_e h3
  obtain ⟨p49,h3⟩:=asrt_e h3
  refine rse rfl rfl rfl (yl_appT (g:=fI) (l:=y3_5) (m:=([x47]:List Int)) .any rfl Tryz.underlying22 bz3 by3 rfl rfl rfl rfl rfl rfl rfl rfl rfl rfl (Eq.symm rfl) (.refl _) (fun _=>rfl) e48 p49) ?_;rintro _ _ ⟨v50,-,rfl,rfl⟩
  refine tr tbk 6 (.mk ?_)
  refine ni tbk h3 fun x51 h3=>?_
  refine tr tbk 2 (.mk ?_)
  exact bk (x51,x40,x48) (v42,v50) h3 leA
  rintro ⟨y4_3,y4_4⟩ ⟨w4_1,w4_2⟩ h2
  replace h2:=p2_e h2
  refine c_drawE [0,1,0,4,15,0,32,0,128,511,127,2047,4095,8191] (rl [(0,[2]),(1,[2]),(5,[2]),(6,[2]),(10,[2]),(12,[2])] []) (rl [(11,[]),(13,[])] [2]) (rl [(4,false),(9,false),(11,false),(13,false)] true) [0,1,2,3,5,6,7,8,4,10,9,11,12,13] mixed (by kernel_rfl) ?_;intro K hK
  refine eF fo25_3 ?_
  refine eL sh23 ?_
  refine eM ?_
  refine eP (fun H hH=>yv_buildSlice (ps:=[(0,_)]) (rows:=[[.sl 7 w4_1 0 y4_3.length]]) rfl Tryz.underlying23 bz22 (.cons rfl .nil) (by kernel_rfl) rfl rfl rfl) ?_
  refine eF fo25_4 ?_
  refine eL sh23 ?_
  refine eM ?_
  refine eP (fun H hH=>yv_buildSlice (ps:=[(0,_)]) (rows:=[[.sl 8 w4_2 0 y4_4.length]]) rfl Tryz.underlying23 bz22 (.cons rfl .nil) (by kernel_rfl) rfl rfl rfl) ?_
  obtain ⟨x52,e52,h2⟩:=bnd_e h2
  obtain ⟨p53,h2⟩:=asrt_e h2
  refine de_eff rfl rfl rfl rfl (Yield.frz 7 rfl (yl_appT (g:=(fL 1 fI)) (l:=y2_4) (m:=[y4_3]) .any rfl Tryz.underlying23 bz22 by22 rfl rfl rfl rfl rfl rfl rfl rfl rfl rfl (Eq.symm rfl) (CvLL.list (.cons (.cons (cv_lst rfl rfl rfl rfl rfl (Eq.symm rfl)) .nil) .nil)) (fun _=>rfl) e52 p53)) (by rintro _ _ ⟨v54,-,rfl,rfl⟩;exact ⟨rfl,trivial⟩) ?_;rintro _ _ ⟨v54,-,rfl,rfl⟩
  refine eF fo25_3 ?_
  obtain ⟨x55,e55,h2⟩:=bnd_e h2
  obtain ⟨p56,h2⟩:=asrt_e h2
  refine de_eff rfl rfl rfl rfl (Yield.frz 8 rfl (yl_appT (g:=(fL 1 fI)) (l:=y2_5) (m:=[y4_4]) .any rfl Tryz.underlying23 bz22 by22 rfl rfl rfl rfl rfl rfl rfl rfl rfl rfl (Eq.symm rfl) (CvLL.list (.cons (.cons (cv_lst rfl rfl rfl rfl rfl (Eq.symm rfl)) .nil) .nil)) (fun _=>rfl) e55 p56)) (by rintro _ _ ⟨v57,-,rfl,rfl⟩;exact ⟨rfl,trivial⟩) ?_;rintro _ _ ⟨v57,-,rfl,rfl⟩
  refine de_eff0 rfl rfl rfl rfl (Yield.weak (yl_ob (ob':=(⟨25,5,true,true,v12,[[int x5,int x11,.sl 4 w1_1 0 y1_2.length,.sl 11 v54 0 x52.length,.sl 12 w2_3 0 y2_5.length]]⟩:AObj)) (yl_store rfl sh23 rfl rfl rfl rfl rfl rfl rfl rfl rfl) rfl) (fun _ h=>h) (fun _ _=>trivial)) (by rintro _ _ ⟨rfl,rfl⟩;exact trivial) ?_;rintro _ _ ⟨rfl,rfl⟩
  refine eF fo25_4 ?_
  refine de_eff0 rfl rfl rfl rfl (Yield.weak (yl_ob (ob':=(⟨25,5,true,true,v12,[[int x5,int x11,.sl 4 w1_1 0 y1_2.length,.sl 11 v54 0 x52.length,.sl 12 v57 0 x55.length]]⟩:AObj)) (yl_store rfl sh23 rfl rfl rfl rfl rfl rfl rfl rfl rfl) rfl) (fun _ h=>h) (fun _ _=>trivial)) (by rintro _ _ ⟨rfl,rfl⟩;exact trivial) ?_;rintro _ _ ⟨rfl,rfl⟩
  refine de_nil (hK _ ?_)
  refine tc tbk 1 (.mk ?_)
  exact lf h2 (v54,v57) leA
  rintro ⟨y5_3,y5_4⟩ ⟨w5_1,w5_2⟩ h1
  replace h1:=p2_e h1
  refine tc tbk 2 (.mk ?_)
  refine ni tbk h1 fun x58 h1=>?_
  refine tr tbk 2 (.mk ?_)
  exact bk (x58,y5_3,y5_4) (w5_1,w5_2) h1 leA
  rintro ⟨y6_3,y6_4⟩ ⟨w6_1,w6_2⟩ h0
  replace h0:=p2_e h0
  refine tc tbk 3 (.mk ?_)
  refine sS ⟨25,5,true,true,v2,[[int x5,int x11,.sl 4 w1_1 0 y1_2.length,.sl 11 w6_1 0 y6_3.length,.sl 12 w6_2 0 y6_4.length]]⟩ sh25 ?_
  refine tr tbk 1 (.mk ?_)
  obtain rfl:=nxt_e h0
  refine wR hret (rC sh25 .nil) ?_
  exact (CvL.agg (.cons (.refl _) (.cons (.refl _) (.cons (cv_lst rfl rfl rfl rfl rfl (Eq.symm rfl)) (.cons (cv_lst rfl rfl rfl rfl rfl (Eq.symm rfl)) (.cons (cv_lst rfl rfl rfl rfl rfl (Eq.symm rfl)) .nil))))))
noncomputable def t_ref04_all (n:Nat) (a1:List Int) (a2:Int) (a3:Int) (a4:Int):WT Tryz.prog (.b (Bool)) :=
 .ln 11 fI a1<|
 .bB 13 (decide ((a1.length:Int)≠a2)) fun x5 =>
 .ifs [13] x5 (.ret ((false:Bool))) (.jnE 2 [8] [] [] (fun _ (a:Unit)=>[]) (fun _ _=>[]) (.lp [0,1,2,3,8] [] [] (fun _ (a:Int)=>[(9,int a)]) (fun _ _=>[]) n (0:Int) (fun y0_1 =>
 .bB 16 (decide (y0_1<a2)) fun x6 =>
 .ifs [16] x6 (.jn 2 [0,1,2,3,8,9] [] [] (fun _ (a:Bool)=>[(32,boo a)]) (fun _ _=>[]) (.ix 21 fI a1 y0_1 fun x7 =>
 .bB 24 (decide (x7<a3)) fun x8 =>
 .ifs [24] x8 (.ret (true:Bool)) (.ix 28 fI a1 y0_1 fun x9 =>
 .bB 31 (decide (x9>a4)) fun x10 =>
 .ret x10))
  (fun y1_1 =>
 .ifs [32] y1_1 (.esc (.esc (.ret ((false:Bool))))) (.bI 18 (w64 (y0_1+1)) fun x11 =>
 .brk x11))) (.esc (.brk ()))))
  (fun _ =>
 .ret ((true:Bool))))
def d_ref04_all (n:Nat) (a1:List Int) (a2:Int) (a3:Int) (a4:Int):Option (Bool):=(t_ref04_all n a1 a2 a3 a4).run
theorem d_ref04_all_c {n:Nat} {a1:List Int} {a2:Int} {a3:Int} {a4:Int} {r:Bool} (h0:d_ref04_all n a1 a2 a3 a4=some r):PP Tryz.prog 97 [lst 1 fI a1,int a2,int a3,int a4] (fun y=>y=boo r):=by
 refine wt_pp mixed tbk (fun (r:Bool)=>boo r) h0 Tryz.func97 (fun r=>pvB r) 100000 ?_
 refine .mk ?_
 conv=>whnf
 refine .mk fun x5=>?_
 refine .mk .mk ?_
 conv=>whnf
 refine .mk ?_ ?_
 refine .mk ?_
 intro _ _
 conv=>whnf
 refine .mk fun x6=>?_
 conv=>whnf
 refine .mk ?_ ?_
 conv=>whnf
 refine .mk ?_ ?_
 conv=>whnf
 refine .mk fun x7 e7=>?_
 conv=>whnf
 refine .mk fun x8=>?_
 refine .mk .mk ?_
 conv=>whnf
 refine .mk fun x9 e9=>?_
 conv=>whnf
 refine .mk fun x10=>?_
 exact .mk
 intro _ _
 refine .mk .mk ?_
 conv=>whnf
 refine .mk fun x11=>?_
 exact .mk
 conv=>whnf
 exact .mk
 intro _ _
 exact .mk
noncomputable def t_ref04_Check (n:Nat) (a1:GMaster):WT Tryz.prog (.b (Bool)) :=
 .al 1<|
 .ln 7 fI a1.Weights<|
 .jn 0 [1,2,3] [1] [] (fun _ (a:Bool)=>[(56,boo a)]) (fun _ _=>[]) (.bB 10 (decide (a1.Entities<1)) fun x3 =>
 .ifs [10] x3 (.ret (true:Bool)) (.bB 14 (decide (a1.Entities>4)) fun x4 =>
 .ifs [14] x4 (.ret (true:Bool)) (.bB 19 (decide (a1.Periods<1)) fun x5 =>
 .ifs [19] x5 (.ret (true:Bool)) (.bB 24 (decide (a1.Periods>12)) fun x6 =>
 .ifs [24] x6 (.ret (true:Bool)) (.bB 28 (decide ((a1.Weights.length:Int)<1)) fun x7 =>
 .ifs [28] x7 (.ret (true:Bool)) (.bB 32 (decide ((a1.Weights.length:Int)>5)) fun x8 =>
 .ifs [32] x8 (.ret (true:Bool)) (.cl 38 (d_ref04_all n a1.Weights (a1.Weights.length:Int) 0 1073741824) cal97 d_ref04_all_c fun x9 =>
 .bB 39 (!x9) fun x10 =>
 .ifs [39] x10 (.ret (true:Bool)) (.ln 44 (fL 1 fI) a1.Methods<|
 .bB 47 (decide ((a1.Methods.length:Int)≠a1.Entities)) fun x11 =>
 .ifs [47] x11 (.ret (true:Bool)) (.ln 52 (fL 1 fI) a1.Costs<|
 .bB 55 (decide ((a1.Costs.length:Int)≠a1.Entities)) fun x12 =>
 .ret x12)))))))))
  (fun y0_1 =>
 .ifs [56] y0_1 (.ret ((false:Bool))) (.jnE 2 [2] [] [] (fun _ (a:Unit)=>[]) (fun _ _=>[]) (.lp [1,2,3] [1] [] (fun _ (a:Int)=>[(4,int a)]) (fun _ _=>[]) n (0:Int) (fun y1_1 =>
 .bB 60 (decide (y1_1<a1.Entities)) fun x13 =>
 .ifs [60] x13 (.jn 2 [1,2,3,4] [1] [] (fun _ (a:Bool)=>[(80,boo a)]) (fun _ _=>[]) (.ix 66 (fL 1 fI) a1.Methods y1_1 fun x14 =>
 .cl 69 (d_ref04_all n x14 (a1.Weights.length:Int) 1 4) cal97 d_ref04_all_c fun x15 =>
 .bB 70 (!x15) fun x16 =>
 .ifs [70] x16 (.ret (true:Bool)) (.ix 75 (fL 1 fI) a1.Costs y1_1 fun x17 =>
 .cl 78 (d_ref04_all n x17 (a1.Weights.length:Int) 0 1073741824) cal97 d_ref04_all_c fun x18 =>
 .bB 79 (!x18) fun x19 =>
 .ret x19))
  (fun y2_1 =>
 .ifs [80] y2_1 (.esc (.esc (.ret ((false:Bool))))) (.bI 62 (w64 (y1_1+1)) fun x20 =>
 .brk x20))) (.esc (.brk ()))))
  (fun _ =>
 .ret ((true:Bool)))))
def d_ref04_Check (n:Nat) (a1:GMaster):Option (Bool):=(t_ref04_Check n a1).run
theorem d_ref04_Check_c {n:Nat} {a1:GMaster} {r:Bool} (h0:d_ref04_Check n a1=some r):PP Tryz.prog 59 [.agg (GMaster.av a1)] (fun y=>y=boo r):=by
 refine wt_pp mixed tbk (fun (r:Bool)=>boo r) h0 Tryz.func59 (fun r=>pvB r) 100000 ?_
 intro v2
 refine .mk ?_
 conv=>whnf
 refine .mk ?_ ?_
 conv=>whnf
 refine .mk fun x3=>?_
 refine .mk .mk ?_
 conv=>whnf
 refine .mk fun x4=>?_
 refine .mk .mk ?_
 conv=>whnf
 refine .mk fun x5=>?_
 refine .mk .mk ?_
 conv=>whnf
 refine .mk fun x6=>?_
 refine .mk .mk ?_
 conv=>whnf
 refine .mk fun x7=>?_
 refine .mk .mk ?_
 conv=>whnf
 refine .mk fun x8=>?_
 refine .mk .mk ?_
 conv=>whnf
 refine .mk fun x9 e9=>?_
 conv=>whnf
 refine .mk fun x10=>?_
 refine .mk .mk ?_
 refine .mk ?_
 conv=>whnf
 refine .mk fun x11=>?_
 refine .mk .mk ?_
 refine .mk ?_
 conv=>whnf
 refine .mk fun x12=>?_
 exact .mk
 intro _ _
 refine .mk .mk ?_
 conv=>whnf
 refine .mk ?_ ?_
 refine .mk ?_
 intro _ _
 conv=>whnf
 refine .mk fun x13=>?_
 conv=>whnf
 refine .mk ?_ ?_
 conv=>whnf
 refine .mk ?_ ?_
 conv=>whnf
 refine .mk fun x14 e14=>?_
 conv=>whnf
 refine .mk fun x15 e15=>?_
 conv=>whnf
 refine .mk fun x16=>?_
 refine .mk .mk ?_
 conv=>whnf
 refine .mk fun x17 e17=>?_
 conv=>whnf
 refine .mk fun x18 e18=>?_
 conv=>whnf
 refine .mk fun x19=>?_
 exact .mk
 intro _ _
 refine .mk .mk ?_
 conv=>whnf
 refine .mk fun x20=>?_
 exact .mk
 conv=>whnf
 exact .mk
 intro _ _
 exact .mk
def d_ref04_Start_L1 (a1:GMaster):Nat→Int→(List Int)→Option ((List Int))
  | 0,_,_=>none
  | n+1,y1_1,y1_2 =>
    bnd (decide (y1_1<(a1.Weights.length:Int))) fun x29 =>
    cond x29 ((ix y1_2 y1_1).bind fun x30 =>
    bnd (y1_2.set (Int.toNat y1_1) ((-1):Int)) fun x31 =>
    bnd (w64 (y1_1+1)) fun x32 =>
    d_ref04_Start_L1 a1 n x32 x31) (some y1_2)
def d_ref04_Start_L0 (a1:GMaster):Nat→Int→(List GEnt)→Option ((List GEnt))
  | 0,_,_=>none
  | n+1,y0_1,y0_3 =>
    bnd (decide (y0_1<a1.Entities)) fun x9 =>
    cond x9 ((show Option ((List GEnt)) from
    bnd (w64 ((a1.Weights.length:Int)*2)) fun x11 =>
    asrt ((0:Int)≤x11∧x11≤1048576)<|
    bnd (List.replicate (Int.toNat x11) ((⟨[],(⟨0,0,0⟩:A3_Int)⟩:GPool):GPool)) fun x13 =>
    asrt ((0:Int)≤17∧(17:Int)≤1048576)<|
    bnd (List.replicate (Int.toNat 17) (0:Int)) fun x16 =>
    asrt ((0:Int)≤(a1.Weights.length:Int)∧((a1.Weights.length:Int):Int)≤1048576)<|
    bnd (List.replicate (Int.toNat (a1.Weights.length:Int)) ((⟨0,0,0,0,0,0,0,0,0,0,0⟩:GRoll):GRoll)) fun x19 =>
    asrt ((0:Int)≤(a1.Weights.length:Int)∧((a1.Weights.length:Int):Int)≤1048576)<|
    bnd (List.replicate (Int.toNat (a1.Weights.length:Int)) (0:Int)) fun x22 =>
    asrt ((0:Int)≤(a1.Weights.length:Int)∧((a1.Weights.length:Int):Int)≤1048576)<|
    bnd (List.replicate (Int.toNat (a1.Weights.length:Int)) (0:Int)) fun x25 =>
    (show Option ((List Int)) from
    d_ref04_Start_L1 a1 n (0:Int) x22).bind <| fun y2_1 =>
    bnd (y0_3++[(⟨1,false,x13,x16,x19,y2_1,x25,[]⟩:GEnt)]) fun x33 =>
    asrt (x33.length≤68719476736)<|
    some x33).bind <| fun y3_2 =>
    bnd (w64 (y0_1+1)) fun x36 =>
    d_ref04_Start_L0 a1 n x36 y3_2) (some y0_3)
def d_ref04_Start (n:Nat) (a1:GMaster):Option (GState×Int) :=
(d_ref04_Check n a1).bind fun x4 =>
bnd (!x4) fun x5 =>
cond x5 (some (((⟨(⟨0,0,[],[],[]⟩:GMaster),[],[],[],[],0⟩:GState):GState),(1:Int))) ((show Option ((List GEnt)) from
d_ref04_Start_L0 a1 n (0:Int) (([]:List GEnt):List GEnt)).bind <| fun y4_2 =>
some (((⟨a1,y4_2,[],[],[],0⟩:GState):GState),(0:Int)))
theorem d_ref04_Start_c {n:Nat} {a1:GMaster} {r:GState×Int} (h0:d_ref04_Start n a1=some r):PP Tryz.prog 30 [.agg (GMaster.av a1)] (fun y=>y=.tup [.agg (GState.av r.1),int r.2]):=by
  unfold d_ref04_Start at h0
  refine pp_of_pc (R0:=fun y H=>Cv (frzH H) y (.tup [.agg (GState.av r.1),int r.2])) ?_ (fun y H hc=>⟨_,rfl,.tup (pvl2 ((fun (a:GState)=>PV.agg (GState.pvc a)) (r.1)) (pvI (r.2))),hc⟩)
  refine pcw (c:=_) Tryz.func30 rfl rfl ?_;intro Q hret hnorm
  refine tc tbk 2 (.mk ?_)
  refine sB 1 fun v2=>?_
  refine sA 2 z31 fun v3=>?_
  refine tr tbk 6 (.mk ?_)
  obtain ⟨x4,e4,h0⟩:=bind_e h0
  refine sC cal59 (d_ref04_Check_c e4) ?_
  refine nb tbk h0 fun x5 h0=>?_
  refine tr tbk 1 (.mk ?_)
  cases x5
  replace h0:=cf h0
  refine tc tbk 5 (.mk ?_)
  refine sY (yv_build (cs:=[int a1.Entities,int a1.Periods,lst 1 fI a1.Weights,lst 1 (fL 1 fI) a1.Methods,lst 1 (fL 1 fI) a1.Costs,.sc (.slice none 0 0),.sc (.slice none 0 0),.sc (.slice none 0 0),.sc (.slice none 0 0),int 0]) (ps:=[(0,_)]) rfl pl31 z31 rfl (.cons rfl .nil) (by kernel_rfl)) ?_
  refine sA 3 z31 fun v6=>?_
  refine sS ⟨31,10,true,true,v6,[[int a1.Entities,int a1.Periods,lst 1 fI a1.Weights,lst 1 (fL 1 fI) a1.Methods,lst 1 (fL 1 fI) a1.Costs,.sc (.slice none 0 0),.sc (.slice none 0 0),.sc (.slice none 0 0),.sc (.slice none 0 0),int 0]]⟩ sh31 ?_
  refine tr tbk 5 (.mk ?_)
  refine sY (yv_len_sl rfl Tryz.underlying22 rfl (lst_len _)) ?_
  refine tr tbk 7 (.mk ?_)
  refine jn h0 [2,3,4] [2] (fun (a:(List GEnt)) (k:Nat)=>[]) (fun a k=>[(3,⟨31,10,true,true,v6,[[int a1.Entities,int a1.Periods,lst 1 fI a1.Weights,lst 1 (fL 1 fI) a1.Methods,lst 1 (fL 1 fI) a1.Costs,.sl 11 k 0 a.length,.sc (.slice none 0 0),.sc (.slice none 0 0),.sc (.slice none 0 0),int 0]]⟩),(11,⟨39,8,true,true,k,a.map GEnt.av⟩)]) ⟨fun j7 h1=>?_,?_⟩
  refine tc tbk 1 (.mk ?_)
  refine c_nilcell 3 0 5 11 39 8 (rows:=fun v8=>[[int a1.Entities,int a1.Periods,lst 1 fI a1.Weights,lst 1 (fL 1 fI) a1.Methods,lst 1 (fL 1 fI) a1.Costs,.sl 11 v8 0 0,.sc (.slice none 0 0),.sc (.slice none 0 0),.sc (.slice none 0 0),int 0]]) rfl rfl rfl rfl (fun _=>rfl) ?_;intro v8
  refine lp (fun n (a:Int×(List GEnt))=>d_ref04_Start_L0 a1 n a.1 a.2) ((0:Int),(([]:List GEnt):List GEnt)) v8 h1 [1,2,3,4,5] [1,2] (fun (a:Int×(List GEnt)) (k:Nat)=>[(6,int a.1)]) (fun a k=>[(3,⟨31,10,true,true,v6,[[int a1.Entities,int a1.Periods,lst 1 fI a1.Weights,lst 1 (fL 1 fI) a1.Methods,lst 1 (fL 1 fI) a1.Costs,.sl 11 k 0 a.2.length,.sc (.slice none 0 0),.sc (.slice none 0 0),.sc (.slice none 0 0),int 0]]⟩),(11,⟨39,8,true,true,k,a.2.map GEnt.av⟩)]) (fun _=>rfl) ⟨leA,?_⟩
  rintro n ⟨y0_1,y0_3⟩ w0_2 hm h1
  replace h1:d_ref04_Start_L0 a1 (n+1) y0_1 y0_3=some _:=h1
  rw [d_ref04_Start_L0] at h1
  refine tc tbk 6 (.mk ?_)
  refine nb tbk h1 fun x9 h1=>?_
  refine tr tbk 1 (.mk ?_)
  cases x9
  replace h1:=cf h1
  refine tc tbk 2 (.mk ?_)
  exact lf h1 w0_2 leA
  replace h1:=ct h1
  refine tc tbk 3 (.mk ?_)
  refine jn h1 [1,2,3,4,5,6] [1,2] (fun (a:(List GEnt)) (k:Nat)=>[]) (fun a k=>[(3,⟨31,10,true,true,v6,[[int a1.Entities,int a1.Periods,lst 1 fI a1.Weights,lst 1 (fL 1 fI) a1.Methods,lst 1 (fL 1 fI) a1.Costs,.sl 11 k 0 a.length,.sc (.slice none 0 0),.sc (.slice none 0 0),.sc (.slice none 0 0),int 0]]⟩),(11,⟨39,8,true,true,k,a.map GEnt.av⟩)]) ⟨fun j10 h2=>?_,?_⟩
  refine tc tbk 2 (.mk ?_)
  refine c_draw [0,1,3,0,0,16,0,64,0,256,1023,0,4095] (fun i k=>bif Nat.beq i 12 then (Nat.beq k 4 || Nat.beq k 5 || Nat.beq k 6 || Nat.beq k 7 || Nat.beq k 8 || Nat.beq k 9) else false) (fun i=>bif Nat.beq i 2 then (some 4) else bif Nat.beq i 3 then (some 5) else bif Nat.beq i 5 then (some 6) else bif Nat.beq i 7 then (some 7) else bif Nat.beq i 9 then (some 8) else bif Nat.beq i 11 then (some 9) else bif Nat.beq i 12 then (some 9) else none) mixed (by kernel_rfl) ?_;intro C K hK
  refine dg_pure rfl (fun H hH=>yv_move rfl rfl) ?_
  obtain ⟨x11,e11,h2⟩:=bnd_e h2
  refine dg_pure rfl (fun H hH=>yv_mul rfl rfl rfl e11) ?_
  obtain ⟨p12,h2⟩:=asrt_e h2
  obtain ⟨x13,e13,h2⟩:=bnd_e h2
  have lx13:x13.length=(Int.toNat x11):=by rw [← e13];exact List.length_replicate
  refine dg_eff rfl rfl (fun H hH=>yl_one (yl_make 4 (g:=GPool.av) (z0:=((⟨[],(⟨0,0,0⟩:A3_Int)⟩:GPool):GPool)) (.one _) rfl Tryz.underlying36 bz57 by57 rfl rfl rfl p12 (.cons (.nil _) (.cons (.sc _) (.cons (.sc _) (.cons (.sc _) .nil)))) e13)) ?_;generalize C+2=v14
  obtain ⟨p15,h2⟩:=asrt_e h2
  obtain ⟨x16,e16,h2⟩:=bnd_e h2
  have lx16:x16.length=(Int.toNat 17):=by rw [← e16];exact List.length_replicate
  refine dg_eff rfl rfl (fun H hH=>yl_one (yl_make 5 (g:=fI) (z0:=(0:Int)) (.one _) rfl Tryz.underlying22 bz3 by3 rfl rfl rfl p15 (.cons (.sc _) .nil) e16)) ?_;generalize C+3=v17
  refine dg_pure rfl (fun H hH=>yv_move rfl rfl) ?_
  obtain ⟨p18,h2⟩:=asrt_e h2
  obtain ⟨x19,e19,h2⟩:=bnd_e h2
  have lx19:x19.length=(Int.toNat (a1.Weights.length:Int)):=by rw [← e19];exact List.length_replicate
  refine dg_eff rfl rfl (fun H hH=>yl_one (yl_make 6 (g:=GRoll.av) (z0:=((⟨0,0,0,0,0,0,0,0,0,0,0⟩:GRoll):GRoll)) (.one _) rfl Tryz.underlying37 bz83 by83 rfl rfl rfl p18 (.cons (.sc _) (.cons (.sc _) (.cons (.sc _) (.cons (.sc _) (.cons (.sc _) (.cons (.sc _) (.cons (.sc _) (.cons (.sc _) (.cons (.sc _) (.cons (.sc _) (.cons (.sc _) .nil))))))))))) e19)) ?_;generalize C+5=v20
  refine dg_pure rfl (fun H hH=>yv_move rfl rfl) ?_
  obtain ⟨p21,h2⟩:=asrt_e h2
  obtain ⟨x22,e22,h2⟩:=bnd_e h2
  have lx22:x22.length=(Int.toNat (a1.Weights.length:Int)):=by rw [← e22];exact List.length_replicate
  refine dg_eff rfl rfl (fun H hH=>yl_one (yl_make 7 (g:=fI) (z0:=(0:Int)) (.one _) rfl Tryz.underlying22 bz3 by3 rfl rfl rfl p21 (.cons (.sc _) .nil) e22)) ?_;generalize C+7=v23
  refine dg_pure rfl (fun H hH=>yv_move rfl rfl) ?_
  obtain ⟨p24,h2⟩:=asrt_e h2
  obtain ⟨x25,e25,h2⟩:=bnd_e h2
  have lx25:x25.length=(Int.toNat (a1.Weights.length:Int)):=by rw [← e25];exact List.length_replicate
  refine dg_eff rfl rfl (fun H hH=>yl_one (yl_make 8 (g:=fI) (z0:=(0:Int)) (.one _) rfl Tryz.underlying22 bz3 by3 rfl rfl rfl p24 (.cons (.sc _) .nil) e25)) ?_;generalize C+9=v26
  refine dg_pure rfl (fun H hH=>yv_build (cs:=[int 1,boo false,.sl 4 v14 0 (Int.toNat x11),.sl 5 v17 0 (Int.toNat 17),.sl 6 v20 0 (Int.toNat (a1.Weights.length:Int)),.sl 7 v23 0 (Int.toNat (a1.Weights.length:Int)),.sl 8 v26 0 (Int.toNat (a1.Weights.length:Int)),.sc (.slice none 0 0)]) (ps:=[(0,_),(2,_),(3,_),(4,_),(5,_),(6,_)]) rfl pl39 z39 rfl (.cons rfl (.cons rfl (.cons rfl (.cons rfl (.cons rfl (.cons rfl .nil)))))) (by kernel_rfl)) ?_
  refine dg_eff rfl rfl (fun H hH=>yl_alloc1 9 rfl z39 rfl) ?_;generalize C+11=v27
  refine dg_store rfl rfl rfl (fun H hH=>yl_ob (ob':=(⟨39,8,true,true,v27,[[int 1,boo false,.sl 4 v14 0 (Int.toNat x11),.sl 5 v17 0 (Int.toNat 17),.sl 6 v20 0 (Int.toNat (a1.Weights.length:Int)),.sl 7 v23 0 (Int.toNat (a1.Weights.length:Int)),.sl 8 v26 0 (Int.toNat (a1.Weights.length:Int)),.sc (.slice none 0 0)]]⟩:AObj)) (yl_store rfl sh39 rfl rfl ((hH _ rfl).trans rfl) rfl rfl rfl rfl rfl rfl) rfl) ?_
  refine dg_nil (hK _ ?_)
  refine tc tbk 5 (.mk ?_)
  refine jn h2 [1,2,3,4,5,6,7] [1,2,3,4,5,6,8,11] (fun (a:(List Int)) (k:Unit)=>[]) (fun a k=>[(7,⟨3,1,true,true,v23,a.map fI⟩),(9,⟨39,8,true,true,v27,[[int 1,boo false,.sl 4 v14 0 (Int.toNat x11),.sl 5 v17 0 (Int.toNat 17),.sl 6 v20 0 (Int.toNat (a1.Weights.length:Int)),.sl 7 v23 0 a.length,.sl 8 v26 0 (Int.toNat (a1.Weights.length:Int)),.sc (.slice none 0 0)]]⟩)]) ⟨fun j28 h3=>?_,?_⟩
  refine tc tbk 1 (.mk ?_)
  refine lp (fun n (a:Int×(List Int))=>d_ref04_Start_L1 a1 n a.1 a.2) ((0:Int),x22) () h3 [1,2,3,4,5,6,7] [1,2,3,4,5,6,8,11] (fun (a:Int×(List Int)) (k:Unit)=>[(8,int a.1)]) (fun a k=>[(7,⟨3,1,true,true,v23,a.2.map fI⟩),(9,⟨39,8,true,true,v27,[[int 1,boo false,.sl 4 v14 0 (Int.toNat x11),.sl 5 v17 0 (Int.toNat 17),.sl 6 v20 0 (Int.toNat (a1.Weights.length:Int)),.sl 7 v23 0 a.2.length,.sl 8 v26 0 (Int.toNat (a1.Weights.length:Int)),.sc (.slice none 0 0)]]⟩)]) (fun _=>rfl) ⟨leH_kn ⟨⟨_,rfl,(.refl _)⟩,⟨_,rfl,(.refl _)⟩,⟨_,rfl,(.refl _)⟩,⟨_,rfl,(.refl _)⟩,⟨_,rfl,(.refl _)⟩,⟨_,rfl,(.refl _)⟩,⟨_,rfl,(.refl _)⟩,⟨_,rfl,(.refl _)⟩,trivial⟩ ⟨⟨_,rfl,(.refl _)⟩,⟨_,rfl,⟨rfl,(.cons (.cons (.refl _) (.cons (.refl _) (.cons (.refl _) (.cons (.refl _) (.cons (.refl _) (.cons (cv_slen (Eq.symm lx22)) (.cons (.refl _) (.cons (.refl _) .nil)))))))) .nil)⟩⟩,⟨_,rfl,(.refl _)⟩,⟨_,rfl,(.refl _)⟩,⟨_,rfl,(.refl _)⟩,⟨_,rfl,(.refl _)⟩,⟨_,rfl,(.refl _)⟩,⟨_,rfl,(.refl _)⟩,⟨_,rfl,(.refl _)⟩,⟨_,rfl,(.refl _)⟩,trivial⟩,?_⟩
  rintro n ⟨y1_1,y1_2⟩ _ hm h3
  replace h3:d_ref04_Start_L1 a1 (n+1) y1_1 y1_2=some _:=h3
  rw [d_ref04_Start_L1] at h3
  refine tc tbk 5 (.mk ?_)
  refine nb tbk h3 fun x29 h3=>?_
  refine tr tbk 1 (.mk ?_)
  cases x29
  replace h3:=cf h3
  refine tc tbk 2 (.mk ?_)
  exact lf h3 () leA
  replace h3:=ct h3
  refine tc tbk 8 (.mk ?_)
  obtain ⟨x30,e30,h3⟩:=bind_e h3
  refine sY (yv_ixO rfl Tryz.underlying22 sh3 rfl rfl rfl rfl rfl (Eq.symm rfl) (List.length_map _) e30) ?_
  obtain ⟨x31,e31,h3⟩:=bnd_e h3
  have fx31:=ix_set e30 e31;have lx31:=len_setV e31 (rfl:y1_2.length=y1_2.length)
  refine rsstore rfl rfl (yl_ob (ob':=(⟨3,1,true,true,v23,x31.map fI⟩:AObj)) (yl_store rfl sh3 rfl rfl rfl rfl rfl (ix_get e30) rfl rfl rfl) (ob_eq (map_setV e31))) ?_
  refine tr tbk 4 (.mk ?_)
  refine ni tbk h3 fun x32 h3=>?_
  refine tr tbk 2 (.mk ?_)
  exact bk (x32,x31) () h3 (leH_kn ⟨⟨_,rfl,(.refl _)⟩,⟨_,rfl,(.refl _)⟩,⟨_,rfl,(.refl _)⟩,⟨_,rfl,(.refl _)⟩,⟨_,rfl,(.refl _)⟩,⟨_,rfl,(.refl _)⟩,⟨_,rfl,(.refl _)⟩,⟨_,rfl,(.refl _)⟩,trivial⟩ ⟨⟨_,rfl,(.refl _)⟩,⟨_,rfl,⟨rfl,(.cons (.cons (.refl _) (.cons (.refl _) (.cons (.refl _) (.cons (.refl _) (.cons (.refl _) (.cons (cv_slen (Eq.symm lx31)) (.cons (.refl _) (.cons (.refl _) .nil)))))))) .nil)⟩⟩,⟨_,rfl,(.refl _)⟩,⟨_,rfl,(.refl _)⟩,⟨_,rfl,(.refl _)⟩,⟨_,rfl,(.refl _)⟩,⟨_,rfl,(.refl _)⟩,⟨_,rfl,(.refl _)⟩,⟨_,rfl,(.refl _)⟩,⟨_,rfl,(.refl _)⟩,trivial⟩)
  rintro y2_1 _ h2
  refine tc tbk 4 (.mk ?_)
  refine sY (yv_buildSlice (ps:=[(0,_)]) (rows:=[[int 1,boo false,.sl 4 v14 0 (Int.toNat x11),.sl 5 v17 0 (Int.toNat 17),.sl 6 v20 0 (Int.toNat (a1.Weights.length:Int)),.sl 7 v23 0 y2_1.length,.sl 8 v26 0 (Int.toNat (a1.Weights.length:Int)),.sc (.slice none 0 0)]]) rfl Tryz.underlying26 bz39 (.cons rfl .nil) (by kernel_rfl) rfl rfl rfl) ?_
  obtain ⟨x33,e33,h2⟩:=bnd_e h2
  obtain ⟨p34,h2⟩:=asrt_e h2
  refine rse rfl rfl rfl (Yield.frz 4 rfl (Yield.frz 5 rfl (Yield.frz 6 rfl (Yield.frz 7 rfl (Yield.frz 8 rfl (yl_appT (g:=GEnt.av) (l:=y0_3) (m:=[(⟨1,false,x13,x16,x19,y2_1,x25,[]⟩:GEnt)]) .any rfl Tryz.underlying26 bz39 by39 rfl rfl rfl rfl rfl rfl rfl rfl rfl rfl (Eq.symm rfl) (CvLL.list (ys:=[GEnt.av (⟨1,false,x13,x16,x19,y2_1,x25,[]⟩:GEnt)]) (.cons (cvl_to (.cons (.refl _) (.cons (.refl _) (.cons (cv_lst rfl rfl rfl rfl rfl (Eq.symm lx13)) (.cons (cv_lst rfl rfl rfl rfl rfl (Eq.symm lx16)) (.cons (cv_lst rfl rfl rfl rfl rfl (Eq.symm lx19)) (.cons (cv_lst rfl rfl rfl rfl rfl (Eq.symm rfl)) (.cons (cv_lst rfl rfl rfl rfl rfl (Eq.symm lx25)) (.cons (.nil _) .nil)))))))) (GEnt.av_eq _)) .nil)) GEnt.one e33 p34)))))) ?_;rintro _ _ ⟨v35,-,rfl,rfl⟩
  refine tr tbk 1 (.mk ?_)
  refine sS ⟨31,10,true,true,v6,[[int a1.Entities,int a1.Periods,lst 1 fI a1.Weights,lst 1 (fL 1 fI) a1.Methods,lst 1 (fL 1 fI) a1.Costs,.sl 11 v35 0 x33.length,.sc (.slice none 0 0),.sc (.slice none 0 0),.sc (.slice none 0 0),int 0]]⟩ sh26 ?_
  refine tr tbk 2 (.mk ?_)
  exact lf h2 v35 leA
  rintro y3_2 w3_1 h1
  refine tc tbk 2 (.mk ?_)
  refine ni tbk h1 fun x36 h1=>?_
  refine tr tbk 2 (.mk ?_)
  exact bk (x36,y3_2) w3_1 h1 leA
  rintro y4_2 w4_1 h0
  refine tc tbk 3 (.mk ?_)
  refine sS ⟨31,10,true,true,v3,[[int a1.Entities,int a1.Periods,lst 1 fI a1.Weights,lst 1 (fL 1 fI) a1.Methods,lst 1 (fL 1 fI) a1.Costs,.sl 11 w4_1 0 y4_2.length,.sc (.slice none 0 0),.sc (.slice none 0 0),.sc (.slice none 0 0),int 0]]⟩ sh31 ?_
  refine tr tbk 2 (.mk ?_)
  obtain rfl:=nxt_e h0
  refine wR hret (rC sh31 (rT .nil)) ?_
  exact CvL.tup (.cons (CvL.agg (.cons (.refl _) (.cons (.refl _) (.cons (.refl _) (.cons (.refl _) (.cons (.refl _) (.cons (cv_lst rfl rfl rfl rfl rfl (Eq.symm rfl)) (.cons (.nil _) (.cons (.nil _) (.cons (.nil _) (.cons (.refl _) .nil))))))))))) (.cons (.refl _) .nil))
  replace h0:=ct h0
  refine tc tbk 3 (.mk ?_)
  refine sY (yv_build (cs:=[int 0,int 0,.sc (.slice none 0 0),.sc (.slice none 0 0),.sc (.slice none 0 0),.sc (.slice none 0 0),.sc (.slice none 0 0),.sc (.slice none 0 0),.sc (.slice none 0 0),int 0]) (ps:=[]) rfl pl31 z31 rfl .nil (by kernel_rfl)) ?_
  refine sS ⟨31,10,true,true,v3,[[int 0,int 0,.sc (.slice none 0 0),.sc (.slice none 0 0),.sc (.slice none 0 0),.sc (.slice none 0 0),.sc (.slice none 0 0),.sc (.slice none 0 0),.sc (.slice none 0 0),int 0]]⟩ sh31 ?_
  refine tr tbk 2 (.mk ?_)
  obtain rfl:=nxt_e h0
  refine wR hret (rC sh31 (rT .nil)) ?_
  exact CvL.tup (.cons (CvL.agg (.cons (.refl _) (.cons (.refl _) (.cons (.nil _) (.cons (.nil _) (.cons (.nil _) (.cons (.nil _) (.cons (.nil _) (.cons (.nil _) (.cons (.nil _) (.cons (.refl _) .nil))))))))))) (.cons (.refl _) .nil))
noncomputable def t_law00_Op (a1:GMaster) (a2:Int):WT Tryz.prog (.b (GOp)) :=
 .al 1<|
 .al 2<|
 .cl 14 (d_law00_Place a2 1099511627776) cal9 d_law00_Place_c fun x5 =>
 .dr [(2,[1]),(3,[1]),(7,[1]),(8,[1])] [] [1] [] [0,1,2,3,4,5,6,7,8,9,10,11,12,13,14,15,16,17] (.bI 16 (w64 (x5.tdiv 32)) fun x6 =>
 .as (a1.Entities≠0) inferInstance<|
 .bl (x6.tmod a1.Entities:Int) fun x8 =>
 .gv 19<|
 .bI 21 (w64 (x5.tdiv 128)) fun x9 =>
 .ln 24 fI a1.Weights<|
 .as ((a1.Weights.length:Int)≠0) inferInstance<|
 .bl (x9.tmod (a1.Weights.length:Int):Int) fun x11 =>
 .gv 25<|
 .bI 27 (w64 (x5.tdiv 1024)) fun x12 =>
 .bI 28 (x12.tmod 8) fun x13 =>
 .bI 29 (w64 (x13.tdiv 7)) fun x14 =>
 .bI 31 (w64 (x5.tdiv 8192)) fun x15 =>
 .bI 32 (x15.tmod 24) fun x16 =>
 .bI 33 (w64 (1+x16)) fun x17 =>
 .bI 35 (w64 (x5.tdiv 196608)) fun x18 =>
 .bI 36 (x18.tmod 900) fun x19 =>
 .bI 38 (w64 (x5.tdiv 7000000)) fun x20 =>
 .bI 39 (x20.tmod 12) fun x21 =>
 .bI 41 (x5.tmod 32) fun x22 =>
 .bB 44 (decide (x22<8)) fun x23 =>
 .ifs [44] x23 (.ret (((⟨1,x8,x11,x14,0,x17,x19,0,[]⟩:GOp):GOp))) (.bB 53 (decide (x22<11)) fun x24 =>
 .ifs [53] x24 (.bI 56 (w64 (x17.tdiv 3)) fun x25 =>
 .bI 57 (w64 (1+x25)) fun x26 =>
 .ret (((⟨2,0,0,0,0,x26,x19,x21,[]⟩:GOp):GOp))) (.bB 62 (decide (x22=11)) fun x27 =>
 .ifs [62] x27 (.bI 65 (w64 (x17.tdiv 6)) fun x28 =>
 .bI 66 (w64 (1+x28)) fun x29 =>
 .ret (((⟨3,0,0,0,0,x29,0,x21,[]⟩:GOp):GOp))) (.bB 70 (decide (x22<17)) fun x30 =>
 .ifs [70] x30 (.bI 75 (w64 (x17.tdiv 3)) fun x31 =>
 .bI 76 (w64 (1+x31)) fun x32 =>
 .ret (((⟨4,x8,x11,x14,0,x32,x19,0,[]⟩:GOp):GOp))) (.bB 81 (decide (x22<19)) fun x33 =>
 .ifs [81] x33 (.bI 84 (w64 (x17.tdiv 8)) fun x34 =>
 .bI 85 (w64 (1+x34)) fun x35 =>
 .ret (((⟨5,0,0,0,0,x35,x19,x21,[]⟩:GOp):GOp))) (.bB 90 (decide (x22=19)) fun x36 =>
 .ifs [90] x36 (.bI 95 (w64 (x17.tdiv 8)) fun x37 =>
 .bI 96 (w64 (1+x37)) fun x38 =>
 .ret (((⟨6,x8,x11,x14,0,x38,0,0,[]⟩:GOp):GOp))) (.bB 100 (decide (x22=20)) fun x39 =>
 .ifs [100] x39 (.bI 105 (w64 (x17-1)) fun x40 =>
 .ret (((⟨7,x8,x11,x14,0,x40,0,0,[]⟩:GOp):GOp))) (.bB 109 (decide (x22=21)) fun x41 =>
 .ifs [109] x41 (.bI 114 (w64 (1-x14)) fun x42 =>
 .bI 116 (w64 (x17.tdiv 3)) fun x43 =>
 .bI 117 (w64 (1+x43)) fun x44 =>
 .ret (((⟨8,x8,x11,x14,x42,x44,0,0,[]⟩:GOp):GOp))) (.bB 121 (decide (x22=22)) fun x45 =>
 .ifs [121] x45 (.bI 125 (x19.tmod 60) fun x46 =>
 .ret (((⟨9,x8,x11,0,0,0,x46,0,[]⟩:GOp):GOp))) (.bB 129 (decide (x22=23)) fun x47 =>
 .ifs [129] x47 (.bI 133 (x19.tmod 60) fun x48 =>
 .ret (((⟨10,x8,x11,0,0,0,x48,0,[]⟩:GOp):GOp))) (.bB 137 (decide (x22=24)) fun x49 =>
 .ifs [137] x49 (.gv 139<|
 .bI 142 (w64 (x21+1)) fun x50 =>
 .bI 143 (x50.tmod 12) fun x51 =>
 .gv 144<|
 .bI 146 (w64 (x21+1)) fun x52 =>
 .bI 148 (w64 (x21+2)) fun x53 =>
 .gv 149<|
 .gv 150<|
 .bI 152 (x17.tmod 3) fun x54 =>
 .bo (ix ([([x21]:List Int),([x21,x51]:List Int),([0,x52,x53]:List Int)]:List (List Int)) x54) fun x55 =>
 .gv 153<|
 .bI 155 (x19.tmod 3) fun x56 =>
 .ret (((⟨11,0,0,0,x56,0,x19,0,x55⟩:GOp):GOp))) (.bB 160 (decide (x22<27)) fun x57 =>
 .ifs [160] x57 (.dr [(6,[1]),(7,[1]),(11,[1]),(12,[1])] [(19,[])] [1] [19] [0,1,2,3,4,5,6,7,8,9,10,11,12,13,14,15,16,17,18,19] (.bI 165 (w64 (x8+1)) fun x58 =>
 .bI 169 (w64 (a1.Entities-1)) fun x59 =>
 .as (x59≠0) inferInstance<|
 .bl (x19.tmod x59:Int) fun x61 =>
 .gv 170<|
 .bI 171 (w64 (x58+x61)) fun x62 =>
 .as (a1.Entities≠0) inferInstance<|
 .bl (x62.tmod a1.Entities:Int) fun x64 =>
 .gv 174<|
 .bI 176 (w64 (x17.tdiv 3)) fun x65 =>
 .bI 177 (w64 (1+x65)) fun x66 =>
 .ret (((⟨12,x8,x11,x14,x64,x66,x19,0,[]⟩:GOp):GOp)))) (.bB 182 (decide (x22<29)) fun x67 =>
 .ifs [182] x67 (.bI 186 (w64 (x17.tdiv 4)) fun x68 =>
 .bI 187 (w64 (1+x68)) fun x69 =>
 .ret (((⟨13,0,0,x14,0,x69,0,x21,[]⟩:GOp):GOp))) (.bB 191 (decide (x22=29)) fun x70 =>
 .ifs [191] x70 (.ret (((⟨14,x8,0,0,0,0,0,0,[]⟩:GOp):GOp))) (.bB 196 (decide (x22=30)) fun x71 =>
 .ifs [196] x71 (.ret (((⟨15,x8,0,0,0,0,0,0,[]⟩:GOp):GOp))) (.ret (((⟨16,x8,0,0,0,0,0,0,[]⟩:GOp):GOp))))))))))))))))))
def d_law00_Op (a1:GMaster) (a2:Int):Option (GOp):=(t_law00_Op a1 a2).run
theorem d_law00_Op_c {a1:GMaster} {a2:Int} {r:GOp} (h0:d_law00_Op a1 a2=some r):PP Tryz.prog 60 [.agg (GMaster.av a1),int a2] (fun y=>y=.agg (GOp.av r)):=by
 refine wt_pp mixed tbk (fun (r:GOp)=>.agg (GOp.av r)) h0 Tryz.func60 (fun r=>(fun (a:GOp)=>PV.agg (GOp.pvc a)) r) 100000 ?_
 intro v3
 intro v4
 conv=>whnf
 refine .mk fun x5 e5=>?_
 refine .mk ?_
 conv=>whnf
 refine .mk fun x6=>?_
 conv=>whnf
 refine .mk fun p7=>?_
 conv=>whnf
 refine .mk fun x8 e8=>?_
 conv=>whnf
 refine .mk _ (fun H hH _=>yv_rem rfl rfl rfl p7 e8) ?_
 conv=>whnf
 refine .mk fun x9=>?_
 refine .mk ?_
 conv=>whnf
 refine .mk fun p10=>?_
 conv=>whnf
 refine .mk fun x11 e11=>?_
 conv=>whnf
 refine .mk _ (fun H hH _=>yv_rem rfl rfl rfl p10 e11) ?_
 conv=>whnf
 refine .mk fun x12=>?_
 conv=>whnf
 refine .mk fun x13=>?_
 conv=>whnf
 refine .mk fun x14=>?_
 conv=>whnf
 refine .mk fun x15=>?_
 conv=>whnf
 refine .mk fun x16=>?_
 conv=>whnf
 refine .mk fun x17=>?_
 conv=>whnf
 refine .mk fun x18=>?_
 conv=>whnf
 refine .mk fun x19=>?_
 conv=>whnf
 refine .mk fun x20=>?_
 conv=>whnf
 refine .mk fun x21=>?_
 conv=>whnf
 refine .mk fun x22=>?_
 conv=>whnf
 refine .mk fun x23=>?_
 conv=>whnf
 refine .mk ?_ ?_
 conv=>whnf
 exact .mk (CvL.agg (.cons (.refl _) (.cons (.refl _) (.cons (.refl _) (.cons (.refl _) (.cons (.refl _) (.cons (.refl _) (.cons (.refl _) (.cons (.refl _) (.cons (.nil _) .nil))))))))))
 conv=>whnf
 refine .mk fun x24=>?_
 conv=>whnf
 refine .mk ?_ ?_
 conv=>whnf
 refine .mk fun x25=>?_
 conv=>whnf
 refine .mk fun x26=>?_
 conv=>whnf
 exact .mk (CvL.agg (.cons (.refl _) (.cons (.refl _) (.cons (.refl _) (.cons (.refl _) (.cons (.refl _) (.cons (.refl _) (.cons (.refl _) (.cons (.refl _) (.cons (.nil _) .nil))))))))))
 conv=>whnf
 refine .mk fun x27=>?_
 conv=>whnf
 refine .mk ?_ ?_
 conv=>whnf
 refine .mk fun x28=>?_
 conv=>whnf
 refine .mk fun x29=>?_
 conv=>whnf
 exact .mk (CvL.agg (.cons (.refl _) (.cons (.refl _) (.cons (.refl _) (.cons (.refl _) (.cons (.refl _) (.cons (.refl _) (.cons (.refl _) (.cons (.refl _) (.cons (.nil _) .nil))))))))))
 conv=>whnf
 refine .mk fun x30=>?_
 conv=>whnf
 refine .mk ?_ ?_
 conv=>whnf
 refine .mk fun x31=>?_
 conv=>whnf
 refine .mk fun x32=>?_
 conv=>whnf
 exact .mk (CvL.agg (.cons (.refl _) (.cons (.refl _) (.cons (.refl _) (.cons (.refl _) (.cons (.refl _) (.cons (.refl _) (.cons (.refl _) (.cons (.refl _) (.cons (.nil _) .nil))))))))))
 conv=>whnf
 refine .mk fun x33=>?_
 conv=>whnf
 refine .mk ?_ ?_
 conv=>whnf
 refine .mk fun x34=>?_
 conv=>whnf
 refine .mk fun x35=>?_
 conv=>whnf
 exact .mk (CvL.agg (.cons (.refl _) (.cons (.refl _) (.cons (.refl _) (.cons (.refl _) (.cons (.refl _) (.cons (.refl _) (.cons (.refl _) (.cons (.refl _) (.cons (.nil _) .nil))))))))))
 conv=>whnf
 refine .mk fun x36=>?_
 conv=>whnf
 refine .mk ?_ ?_
 conv=>whnf
 refine .mk fun x37=>?_
 conv=>whnf
 refine .mk fun x38=>?_
 conv=>whnf
 exact .mk (CvL.agg (.cons (.refl _) (.cons (.refl _) (.cons (.refl _) (.cons (.refl _) (.cons (.refl _) (.cons (.refl _) (.cons (.refl _) (.cons (.refl _) (.cons (.nil _) .nil))))))))))
 conv=>whnf
 refine .mk fun x39=>?_
 conv=>whnf
 refine .mk ?_ ?_
 conv=>whnf
 refine .mk fun x40=>?_
 conv=>whnf
 exact .mk (CvL.agg (.cons (.refl _) (.cons (.refl _) (.cons (.refl _) (.cons (.refl _) (.cons (.refl _) (.cons (.refl _) (.cons (.refl _) (.cons (.refl _) (.cons (.nil _) .nil))))))))))
 conv=>whnf
 refine .mk fun x41=>?_
 conv=>whnf
 refine .mk ?_ ?_
 conv=>whnf
 refine .mk fun x42=>?_
 conv=>whnf
 refine .mk fun x43=>?_
 conv=>whnf
 refine .mk fun x44=>?_
 conv=>whnf
 exact .mk (CvL.agg (.cons (.refl _) (.cons (.refl _) (.cons (.refl _) (.cons (.refl _) (.cons (.refl _) (.cons (.refl _) (.cons (.refl _) (.cons (.refl _) (.cons (.nil _) .nil))))))))))
 conv=>whnf
 refine .mk fun x45=>?_
 conv=>whnf
 refine .mk ?_ ?_
 conv=>whnf
 refine .mk fun x46=>?_
 conv=>whnf
 exact .mk (CvL.agg (.cons (.refl _) (.cons (.refl _) (.cons (.refl _) (.cons (.refl _) (.cons (.refl _) (.cons (.refl _) (.cons (.refl _) (.cons (.refl _) (.cons (.nil _) .nil))))))))))
 conv=>whnf
 refine .mk fun x47=>?_
 conv=>whnf
 refine .mk ?_ ?_
 conv=>whnf
 refine .mk fun x48=>?_
 conv=>whnf
 exact .mk (CvL.agg (.cons (.refl _) (.cons (.refl _) (.cons (.refl _) (.cons (.refl _) (.cons (.refl _) (.cons (.refl _) (.cons (.refl _) (.cons (.refl _) (.cons (.nil _) .nil))))))))))
 conv=>whnf
 refine .mk fun x49=>?_
 conv=>whnf
 refine .mk ?_ ?_
 conv=>whnf
 refine .mk _ (agr (yv_to (y:=lst 1 fI ([x21]:List Int)) (yv_buildSlice (ps:=[(0,_)]) (rows:=[[int x21]]) rfl Tryz.underlying22 bz3 (.cons rfl .nil) (by kernel_rfl) rfl rfl rfl) rfl)) ?_
 conv=>whnf
 refine .mk fun x50=>?_
 conv=>whnf
 refine .mk fun x51=>?_
 conv=>whnf
 refine .mk _ (agr (yv_to (y:=lst 1 fI ([x21,x51]:List Int)) (yv_buildSlice (ps:=[(0,_),(1,_)]) (rows:=[[int x21],[int x51]]) rfl Tryz.underlying22 bz3 (.cons rfl (.cons rfl .nil)) (by kernel_rfl) rfl rfl rfl) rfl)) ?_
 conv=>whnf
 refine .mk fun x52=>?_
 conv=>whnf
 refine .mk fun x53=>?_
 conv=>whnf
 refine .mk _ (agr (yv_to (y:=lst 1 fI ([0,x52,x53]:List Int)) (yv_buildSlice (ps:=[(0,_),(1,_),(2,_)]) (rows:=[[int 0],[int x52],[int x53]]) rfl Tryz.underlying22 bz3 (.cons rfl (.cons rfl (.cons rfl .nil))) (by kernel_rfl) rfl rfl rfl) rfl)) ?_
 conv=>whnf
 refine .mk _ (agr (yv_buildA (cs:=[lst 1 fI ([x21]:List Int),lst 1 fI ([x21,x51]:List Int),lst 1 fI ([0,x52,x53]:List Int)]) (ps:=[(0,_),(1,_),(2,_)]) rfl Tryz.underlying152 sh22 z152 rfl (.cons rfl (.cons rfl (.cons rfl .nil))) (by kernel_rfl))) ?_
 conv=>whnf
 refine .mk fun x54=>?_
 conv=>whnf
 refine .mk fun x55 e55=>?_
 conv=>whnf
 refine .mk _ (agr (yv_indexAT (g:=(fL 1 fI)) (l:=([([x21]:List Int),([x21,x51]:List Int),([0,x52,x53]:List Int)]:List (List Int))) (v:=x55) (w:=lst 1 fI x55) rfl Tryz.underlying152 sh22 rfl rfl rfl e55 (fun _=>rfl) hw1)) ?_
 conv=>whnf
 refine .mk fun x56=>?_
 exact .mk
 conv=>whnf
 refine .mk fun x57=>?_
 conv=>whnf
 refine .mk ?_ ?_
 refine .mk ?_
 conv=>whnf
 refine .mk fun x58=>?_
 conv=>whnf
 refine .mk fun x59=>?_
 conv=>whnf
 refine .mk fun p60=>?_
 conv=>whnf
 refine .mk fun x61 e61=>?_
 conv=>whnf
 refine .mk _ (fun H hH _=>yv_rem rfl rfl rfl p60 e61) ?_
 conv=>whnf
 refine .mk fun x62=>?_
 conv=>whnf
 refine .mk fun p63=>?_
 conv=>whnf
 refine .mk fun x64 e64=>?_
 conv=>whnf
 refine .mk _ (fun H hH _=>yv_rem rfl rfl rfl p63 e64) ?_
 conv=>whnf
 refine .mk fun x65=>?_
 conv=>whnf
 refine .mk fun x66=>?_
 conv=>whnf
 exact .mk (CvL.agg (.cons (.refl _) (.cons (.refl _) (.cons (.refl _) (.cons (.refl _) (.cons (.refl _) (.cons (.refl _) (.cons (.refl _) (.cons (.refl _) (.cons (.nil _) .nil))))))))))
 conv=>whnf
 refine .mk fun x67=>?_
 conv=>whnf
 refine .mk ?_ ?_
 conv=>whnf
 refine .mk fun x68=>?_
 conv=>whnf
 refine .mk fun x69=>?_
 conv=>whnf
 exact .mk (CvL.agg (.cons (.refl _) (.cons (.refl _) (.cons (.refl _) (.cons (.refl _) (.cons (.refl _) (.cons (.refl _) (.cons (.refl _) (.cons (.refl _) (.cons (.nil _) .nil))))))))))
 conv=>whnf
 refine .mk fun x70=>?_
 conv=>whnf
 refine .mk ?_ ?_
 conv=>whnf
 exact .mk (CvL.agg (.cons (.refl _) (.cons (.refl _) (.cons (.refl _) (.cons (.refl _) (.cons (.refl _) (.cons (.refl _) (.cons (.refl _) (.cons (.refl _) (.cons (.nil _) .nil))))))))))
 conv=>whnf
 refine .mk fun x71=>?_
 conv=>whnf
 refine .mk ?_ ?_
 conv=>whnf
 exact .mk (CvL.agg (.cons (.refl _) (.cons (.refl _) (.cons (.refl _) (.cons (.refl _) (.cons (.refl _) (.cons (.refl _) (.cons (.refl _) (.cons (.refl _) (.cons (.nil _) .nil))))))))))
 conv=>whnf
 exact .mk (CvL.agg (.cons (.refl _) (.cons (.refl _) (.cons (.refl _) (.cons (.refl _) (.cons (.refl _) (.cons (.refl _) (.cons (.refl _) (.cons (.refl _) (.cons (.nil _) .nil))))))))))
end
end Go.Pv
