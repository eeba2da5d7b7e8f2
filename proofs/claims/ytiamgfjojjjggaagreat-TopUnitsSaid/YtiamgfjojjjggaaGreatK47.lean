import Derived.Test.YtiamgfjojjjggaaGreatPvAE
import Derived.Test.YtiamgfjojjjggaaGreatPvAF
import Derived.Test.YtiamgfjojjjggaaGreatPvAG
import Derived.Test.YtiamgfjojjjggaaGreatPvAH
import Derived.Test.YtiamgfjojjjggaaGreatPvAJ
import Derived.Test.YtiamgfjojjjggaaGreatPvAM
import Derived.Test.YtiamgfjojjjggaaGreatProg
set_option linter.unusedVariables false
set_option linter.unusedSimpArgs false
namespace Go.Pv
open Go.Proofs
theorem mixed : Tryz.prog.follows .mixedOrders = true := by kernel_rfl
set_option maxRecDepth 10000
set_option maxHeartbeats 1000000
structure GMaster where
  Entities : Int
  Periods : Int
  Weights : List Int
  Methods : List (List Int)
  Costs : List (List Int)
  deriving DecidableEq, Inhabited
@[reducible] def GMaster.av (x : GMaster) : List AV := [int x.Entities, int x.Periods, lst 1 fI x.Weights, lst 1 (fL 1 fI) x.Methods, lst 1 (fL 1 fI) x.Costs]
theorem GMaster.pvc (x : GMaster) : ∀ a ∈ x.av, PV a := by
  intro a ha; simp only [GMaster.av, List.mem_cons, List.not_mem_nil, or_false] at ha
  rcases ha with rfl | rfl | rfl | rfl | rfl
  · exact pvI x.Entities
  · exact pvI x.Periods
  · exact (pvLs pvcI) x.Weights
  · exact (pvLs (pvcLs pvcI)) x.Methods
  · exact (pvLs (pvcLs pvcI)) x.Costs
structure GLayer where
  Qty : Int
  Value : Int
  Profit : Int
  deriving DecidableEq, Inhabited
@[reducible] def GLayer.av (x : GLayer) : List AV := [int x.Qty, int x.Value, int x.Profit]
theorem GLayer.pvc (x : GLayer) : ∀ a ∈ x.av, PV a := by
  intro a ha; simp only [GLayer.av, List.mem_cons, List.not_mem_nil, or_false] at ha
  rcases ha with rfl | rfl | rfl
  · exact pvI x.Qty
  · exact pvI x.Value
  · exact pvI x.Profit
structure A3_Int where
  a0 : Int
  a1 : Int
  a2 : Int
  deriving DecidableEq, Inhabited
@[reducible] def A3_Int.av (x : A3_Int) : List AV := [int x.a0, int x.a1, int x.a2]
theorem A3_Int.pvc (x : A3_Int) : ∀ a ∈ x.av, PV a := by
  intro a ha; simp only [A3_Int.av, List.mem_cons, List.not_mem_nil, or_false] at ha
  rcases ha with rfl | rfl | rfl
  · exact pvI x.a0
  · exact pvI x.a1
  · exact pvI x.a2
structure GPool where
  Layers : List GLayer
  Pend : A3_Int
  deriving DecidableEq, Inhabited
@[reducible] def GPool.av (x : GPool) : List AV := [lst 3 GLayer.av x.Layers, int x.Pend.a0, int x.Pend.a1, int x.Pend.a2]
theorem GPool.pvc (x : GPool) : ∀ a ∈ x.av, PV a := by
  intro a ha; simp only [GPool.av, List.mem_cons, List.not_mem_nil, or_false] at ha
  rcases ha with rfl | rfl | rfl | rfl
  · exact (pvLs GLayer.pvc) x.Layers
  · exact pvI x.Pend.a0
  · exact pvI x.Pend.a1
  · exact pvI x.Pend.a2
structure GRoll where
  Open : Int
  Bought : Int
  Landed : Int
  Arrived : Int
  Returned : Int
  Sold : Int
  Shipped : Int
  SentBack : Int
  Scrapped : Int
  Lost : Int
  Revalued : Int
  deriving DecidableEq, Inhabited
@[reducible] def GRoll.av (x : GRoll) : List AV := [int x.Open, int x.Bought, int x.Landed, int x.Arrived, int x.Returned, int x.Sold, int x.Shipped, int x.SentBack, int x.Scrapped, int x.Lost, int x.Revalued]
theorem GRoll.pvc (x : GRoll) : ∀ a ∈ x.av, PV a := by
  intro a ha; simp only [GRoll.av, List.mem_cons, List.not_mem_nil, or_false] at ha
  rcases ha with rfl | rfl | rfl | rfl | rfl | rfl | rfl | rfl | rfl | rfl | rfl
  · exact pvI x.Open
  · exact pvI x.Bought
  · exact pvI x.Landed
  · exact pvI x.Arrived
  · exact pvI x.Returned
  · exact pvI x.Sold
  · exact pvI x.Shipped
  · exact pvI x.SentBack
  · exact pvI x.Scrapped
  · exact pvI x.Lost
  · exact pvI x.Revalued
structure GEnt where
  Now : Int
  Closed : Bool
  Pools : List GPool
  Bal : List Int
  Rolls : List GRoll
  Prices : List Int
  Down : List Int
  Ahead : List GEnt
  deriving Inhabited
mutual
def GEnt.av : GEnt → List AV
  | ⟨Now, Closed, Pools, Bal, Rolls, Prices, Down, Ahead⟩ => [int Now, boo Closed, lst 4 GPool.av Pools, lst 1 fI Bal, lst 11 GRoll.av Rolls, lst 1 fI Prices, lst 1 fI Down, .list 8 (GEnt.avs Ahead)]
def GEnt.avs : List GEnt → List (List AV)
  | [] => []
  | x :: r => GEnt.av x :: GEnt.avs r
end
theorem GEnt.avs_map (l : List GEnt) : GEnt.avs l = l.map GEnt.av := by
  induction l with
  | nil => unfold GEnt.avs; rfl
  | cons x r ih => unfold GEnt.avs; rw [ih]; rfl
theorem GEnt.av_eq (x : GEnt) : GEnt.av x = [int x.Now, boo x.Closed, lst 4 GPool.av x.Pools, lst 1 fI x.Bal, lst 11 GRoll.av x.Rolls, lst 1 fI x.Prices, lst 1 fI x.Down, lst 8 GEnt.av x.Ahead] := by
  cases x; unfold GEnt.av; rw [GEnt.avs_map]
theorem GEnt.one (x : GEnt) : allOne (GEnt.av x) = true := by rw [GEnt.av_eq]; rfl
mutual
theorem GEnt.pvc : ∀ (x : GEnt), ∀ a ∈ x.av, PV a
  | ⟨Now, Closed, Pools, Bal, Rolls, Prices, Down, Ahead⟩ => by
    intro a ha; unfold GEnt.av at ha; simp only [List.mem_cons, List.not_mem_nil, or_false] at ha
    rcases ha with rfl | rfl | rfl | rfl | rfl | rfl | rfl | rfl
    · exact pvI Now
    · exact pvB Closed
    · exact (pvLs GPool.pvc) Pools
    · exact (pvLs pvcI) Bal
    · exact (pvLs GRoll.pvc) Rolls
    · exact (pvLs pvcI) Prices
    · exact (pvLs pvcI) Down
    · exact .list (fun r hr => GEnt.pvcs Ahead r hr)
theorem GEnt.pvcs : ∀ (l : List GEnt), ∀ r ∈ GEnt.avs l, ∀ a ∈ r, PV a
  | [] => by intro r hr; unfold GEnt.avs at hr; cases hr
  | x :: l => by
    intro r hr; unfold GEnt.avs at hr
    rcases List.mem_cons.1 hr with e | h
    · rw [e]; exact GEnt.pvc x
    · exact GEnt.pvcs l r h
end
structure GReceipt where
  Entity : Int
  Item : Int
  Loc : Int
  Qty : Int
  Value : Int
  Open : Int
  Accrued : Int
  Back : Int
  deriving DecidableEq, Inhabited
@[reducible] def GReceipt.av (x : GReceipt) : List AV := [int x.Entity, int x.Item, int x.Loc, int x.Qty, int x.Value, int x.Open, int x.Accrued, int x.Back]
theorem GReceipt.pvc (x : GReceipt) : ∀ a ∈ x.av, PV a := by
  intro a ha; simp only [GReceipt.av, List.mem_cons, List.not_mem_nil, or_false] at ha
  rcases ha with rfl | rfl | rfl | rfl | rfl | rfl | rfl | rfl
  · exact pvI x.Entity
  · exact pvI x.Item
  · exact pvI x.Loc
  · exact pvI x.Qty
  · exact pvI x.Value
  · exact pvI x.Open
  · exact pvI x.Accrued
  · exact pvI x.Back
structure GSale where
  Entity : Int
  Item : Int
  Loc : Int
  Qty : Int
  Back : Int
  Cost : Int
  Profit : Int
  Period : Int
  Waits : Bool
  deriving DecidableEq, Inhabited
@[reducible] def GSale.av (x : GSale) : List AV := [int x.Entity, int x.Item, int x.Loc, int x.Qty, int x.Back, int x.Cost, int x.Profit, int x.Period, boo x.Waits]
theorem GSale.pvc (x : GSale) : ∀ a ∈ x.av, PV a := by
  intro a ha; simp only [GSale.av, List.mem_cons, List.not_mem_nil, or_false] at ha
  rcases ha with rfl | rfl | rfl | rfl | rfl | rfl | rfl | rfl | rfl
  · exact pvI x.Entity
  · exact pvI x.Item
  · exact pvI x.Loc
  · exact pvI x.Qty
  · exact pvI x.Back
  · exact pvI x.Cost
  · exact pvI x.Profit
  · exact pvI x.Period
  · exact pvB x.Waits
structure GTransit where
  From : Int
  To : Int
  Item : Int
  Qty : Int
  Value : Int
  Profit : Int
  deriving DecidableEq, Inhabited
@[reducible] def GTransit.av (x : GTransit) : List AV := [int x.From, int x.To, int x.Item, int x.Qty, int x.Value, int x.Profit]
theorem GTransit.pvc (x : GTransit) : ∀ a ∈ x.av, PV a := by
  intro a ha; simp only [GTransit.av, List.mem_cons, List.not_mem_nil, or_false] at ha
  rcases ha with rfl | rfl | rfl | rfl | rfl | rfl
  · exact pvI x.From
  · exact pvI x.To
  · exact pvI x.Item
  · exact pvI x.Qty
  · exact pvI x.Value
  · exact pvI x.Profit
structure GState where
  Master : GMaster
  Ents : List GEnt
  Receipts : List GReceipt
  Sales : List GSale
  Transits : List GTransit
  Done : Int
  deriving Inhabited
@[reducible] def GState.av (x : GState) : List AV := [int x.Master.Entities, int x.Master.Periods, lst 1 fI x.Master.Weights, lst 1 (fL 1 fI) x.Master.Methods, lst 1 (fL 1 fI) x.Master.Costs, lst 8 GEnt.av x.Ents, lst 8 GReceipt.av x.Receipts, lst 9 GSale.av x.Sales, lst 6 GTransit.av x.Transits, int x.Done]
theorem GState.pvc (x : GState) : ∀ a ∈ x.av, PV a := by
  intro a ha; simp only [GState.av, List.mem_cons, List.not_mem_nil, or_false] at ha
  rcases ha with rfl | rfl | rfl | rfl | rfl | rfl | rfl | rfl | rfl | rfl
  · exact pvI x.Master.Entities
  · exact pvI x.Master.Periods
  · exact (pvLs pvcI) x.Master.Weights
  · exact (pvLs (pvcLs pvcI)) x.Master.Methods
  · exact (pvLs (pvcLs pvcI)) x.Master.Costs
  · exact (pvLs GEnt.pvc) x.Ents
  · exact (pvLs GReceipt.pvc) x.Receipts
  · exact (pvLs GSale.pvc) x.Sales
  · exact (pvLs GTransit.pvc) x.Transits
  · exact pvI x.Done
structure GOp where
  Kind : Int
  E : Int
  Item : Int
  Loc : Int
  To : Int
  Qty : Int
  Amount : Int
  Ref : Int
  Refs : List Int
  deriving DecidableEq, Inhabited
@[reducible] def GOp.av (x : GOp) : List AV := [int x.Kind, int x.E, int x.Item, int x.Loc, int x.To, int x.Qty, int x.Amount, int x.Ref, lst 1 fI x.Refs]
theorem GOp.pvc (x : GOp) : ∀ a ∈ x.av, PV a := by
  intro a ha; simp only [GOp.av, List.mem_cons, List.not_mem_nil, or_false] at ha
  rcases ha with rfl | rfl | rfl | rfl | rfl | rfl | rfl | rfl | rfl
  · exact pvI x.Kind
  · exact pvI x.E
  · exact pvI x.Item
  · exact pvI x.Loc
  · exact pvI x.To
  · exact pvI x.Qty
  · exact pvI x.Amount
  · exact pvI x.Ref
  · exact (pvLs pvcI) x.Refs
structure A17_List_UInt8 where
  a0 : List UInt8
  a1 : List UInt8
  a2 : List UInt8
  a3 : List UInt8
  a4 : List UInt8
  a5 : List UInt8
  a6 : List UInt8
  a7 : List UInt8
  a8 : List UInt8
  a9 : List UInt8
  a10 : List UInt8
  a11 : List UInt8
  a12 : List UInt8
  a13 : List UInt8
  a14 : List UInt8
  a15 : List UInt8
  a16 : List UInt8
  deriving DecidableEq, Inhabited
@[reducible] def A17_List_UInt8.av (x : A17_List_UInt8) : List AV := [str x.a0, str x.a1, str x.a2, str x.a3, str x.a4, str x.a5, str x.a6, str x.a7, str x.a8, str x.a9, str x.a10, str x.a11, str x.a12, str x.a13, str x.a14, str x.a15, str x.a16]
theorem A17_List_UInt8.pvc (x : A17_List_UInt8) : ∀ a ∈ x.av, PV a := by
  intro a ha; simp only [A17_List_UInt8.av, List.mem_cons, List.not_mem_nil, or_false] at ha
  rcases ha with rfl | rfl | rfl | rfl | rfl | rfl | rfl | rfl | rfl | rfl | rfl | rfl | rfl | rfl | rfl | rfl | rfl
  · exact pvS x.a0
  · exact pvS x.a1
  · exact pvS x.a2
  · exact pvS x.a3
  · exact pvS x.a4
  · exact pvS x.a5
  · exact pvS x.a6
  · exact pvS x.a7
  · exact pvS x.a8
  · exact pvS x.a9
  · exact pvS x.a10
  · exact pvS x.a11
  · exact pvS x.a12
  · exact pvS x.a13
  · exact pvS x.a14
  · exact pvS x.a15
  · exact pvS x.a16
structure Gfirst where
  deriving DecidableEq, Inhabited
@[reducible] def Gfirst.av (x : Gfirst) : List AV := []
theorem Gfirst.pvc (x : Gfirst) : ∀ a ∈ x.av, PV a := by
  intro a ha; cases ha
structure GLine where
  Account : Int
  Amount : Int
  deriving DecidableEq, Inhabited
@[reducible] def GLine.av (x : GLine) : List AV := [int x.Account, int x.Amount]
theorem GLine.pvc (x : GLine) : ∀ a ∈ x.av, PV a := by
  intro a ha; simp only [GLine.av, List.mem_cons, List.not_mem_nil, or_false] at ha
  rcases ha with rfl | rfl
  · exact pvI x.Account
  · exact pvI x.Amount
structure A2_Int where
  a0 : Int
  a1 : Int
  deriving DecidableEq, Inhabited
@[reducible] def A2_Int.av (x : A2_Int) : List AV := [int x.a0, int x.a1]
theorem A2_Int.pvc (x : A2_Int) : ∀ a ∈ x.av, PV a := by
  intro a ha; simp only [A2_Int.av, List.mem_cons, List.not_mem_nil, or_false] at ha
  rcases ha with rfl | rfl
  · exact pvI x.a0
  · exact pvI x.a1
theorem sh1 : tySh Tryz.prog 1 = some (1, false) := by kernel_rfl
theorem sh3 : tySh Tryz.prog 3 = some (1, false) := by kernel_rfl
theorem sh4 : tySh Tryz.prog 4 = some (1, false) := by kernel_rfl
theorem sh22 : tySh Tryz.prog 22 = some (1, false) := by kernel_rfl
theorem sh23 : tySh Tryz.prog 23 = some (1, false) := by kernel_rfl
theorem sh25 : tySh Tryz.prog 25 = some (5, true) := by kernel_rfl
theorem sh26 : tySh Tryz.prog 26 = some (1, false) := by kernel_rfl
theorem sh27 : tySh Tryz.prog 27 = some (1, false) := by kernel_rfl
theorem sh28 : tySh Tryz.prog 28 = some (1, false) := by kernel_rfl
theorem sh31 : tySh Tryz.prog 31 = some (10, true) := by kernel_rfl
theorem sh36 : tySh Tryz.prog 36 = some (9, true) := by kernel_rfl
theorem sh38 : tySh Tryz.prog 38 = some (1, false) := by kernel_rfl
theorem sh42 : tySh Tryz.prog 42 = some (3, true) := by kernel_rfl
theorem sh44 : tySh Tryz.prog 44 = some (1, false) := by kernel_rfl
theorem sh45 : tySh Tryz.prog 45 = some (1, false) := by kernel_rfl
theorem sh47 : tySh Tryz.prog 47 = some (8, true) := by kernel_rfl
theorem sh55 : tySh Tryz.prog 55 = some (1, false) := by kernel_rfl
theorem sh61 : tySh Tryz.prog 61 = some (1, false) := by kernel_rfl
theorem sh62 : tySh Tryz.prog 62 = some (17, true) := by kernel_rfl
theorem sh67 : tySh Tryz.prog 67 = some (1, false) := by kernel_rfl
theorem sh71 : tySh Tryz.prog 71 = some (1, false) := by kernel_rfl
theorem sh74 : tySh Tryz.prog 74 = some (4, true) := by kernel_rfl
theorem sh79 : tySh Tryz.prog 79 = some (9, true) := by kernel_rfl
theorem sh83 : tySh Tryz.prog 83 = some (11, true) := by kernel_rfl
theorem sh95 : tySh Tryz.prog 95 = some (1, true) := by kernel_rfl
theorem sh96 : tySh Tryz.prog 96 = some (5, true) := by kernel_rfl
theorem sh108 : tySh Tryz.prog 108 = some (2, true) := by kernel_rfl
theorem sh116 : tySh Tryz.prog 116 = some (2, true) := by kernel_rfl
theorem sh129 : tySh Tryz.prog 129 = some (8, true) := by kernel_rfl
theorem sh131 : tySh Tryz.prog 131 = some (6, true) := by kernel_rfl
theorem sh153 : tySh Tryz.prog 153 = some (10, true) := by kernel_rfl
theorem sh161 : tySh Tryz.prog 161 = some (1, false) := by kernel_rfl
theorem sh171 : tySh Tryz.prog 171 = some (1, true) := by kernel_rfl
theorem sh184 : tySh Tryz.prog 184 = some (1, false) := by kernel_rfl
theorem sh197 : tySh Tryz.prog 197 = some (1, false) := by kernel_rfl
theorem sh205 : tySh Tryz.prog 205 = some (4, true) := by kernel_rfl
theorem sh251 : tySh Tryz.prog 251 = some (0, true) := by kernel_rfl
theorem by108 : bby Tryz.prog 108 = some 16 := by kernel_rfl
theorem by129 : bby Tryz.prog 129 = some 64 := by kernel_rfl
theorem by22 : bby Tryz.prog 22 = some 24 := by kernel_rfl
theorem by3 : bby Tryz.prog 3 = some 8 := by kernel_rfl
theorem by38 : bby Tryz.prog 38 = some 8 := by kernel_rfl
theorem by42 : bby Tryz.prog 42 = some 24 := by kernel_rfl
theorem by47 : bby Tryz.prog 47 = some 160 := by kernel_rfl
theorem by74 : bby Tryz.prog 74 = some 48 := by kernel_rfl
theorem by79 : bby Tryz.prog 79 = some 72 := by kernel_rfl
theorem by83 : bby Tryz.prog 83 = some 88 := by kernel_rfl
theorem bz1 : bsz Tryz.prog 1 = some (1, [.nilFunc]) := by kernel_rfl
theorem bz108 : bsz Tryz.prog 108 = some (2, [.int .i64 0, .int .i64 0]) := by kernel_rfl
theorem bz116 : bsz Tryz.prog 116 = some (2, [.pointer none, .slice none 0 0]) := by kernel_rfl
theorem bz129 : bsz Tryz.prog 129 = some (8, [.int .i64 0, .int .i64 0, .int .i64 0, .int .i64 0, .int .i64 0, .int .i64 0, .int .i64 0, .int .i64 0]) := by kernel_rfl
theorem bz22 : bsz Tryz.prog 22 = some (1, [.slice none 0 0]) := by kernel_rfl
theorem bz3 : bsz Tryz.prog 3 = some (1, [.int .i64 0]) := by kernel_rfl
theorem bz36 : bsz Tryz.prog 36 = some (9, [.int .i64 0, .int .i64 0, .int .i64 0, .int .i64 0, .int .i64 0, .int .i64 0, .int .i64 0, .int .i64 0, .slice none 0 0]) := by kernel_rfl
theorem bz38 : bsz Tryz.prog 38 = some (1, [.int .i64 0]) := by kernel_rfl
theorem bz42 : bsz Tryz.prog 42 = some (3, [.int .i64 0, .int .i64 0, .int .i64 0]) := by kernel_rfl
theorem bz47 : bsz Tryz.prog 47 = some (8, [.int .i64 0, .bool false, .slice none 0 0, .slice none 0 0, .slice none 0 0, .slice none 0 0, .slice none 0 0, .slice none 0 0]) := by kernel_rfl
theorem bz67 : bsz Tryz.prog 67 = some (1, [.pointer none]) := by kernel_rfl
theorem bz74 : bsz Tryz.prog 74 = some (4, [.slice none 0 0, .int .i64 0, .int .i64 0, .int .i64 0]) := by kernel_rfl
theorem bz79 : bsz Tryz.prog 79 = some (9, [.int .i64 0, .int .i64 0, .int .i64 0, .int .i64 0, .int .i64 0, .int .i64 0, .int .i64 0, .int .i64 0, .bool false]) := by kernel_rfl
theorem bz83 : bsz Tryz.prog 83 = some (11, [.int .i64 0, .int .i64 0, .int .i64 0, .int .i64 0, .int .i64 0, .int .i64 0, .int .i64 0, .int .i64 0, .int .i64 0, .int .i64 0, .int .i64 0]) := by kernel_rfl
theorem cal10 : cal Tryz.prog 10 = true := by kernel_rfl
theorem cal100 : cal Tryz.prog 100 = true := by kernel_rfl
theorem cal101 : cal Tryz.prog 101 = true := by kernel_rfl
theorem cal104 : cal Tryz.prog 104 = true := by kernel_rfl
theorem cal11 : cal Tryz.prog 11 = true := by kernel_rfl
theorem cal113 : cal Tryz.prog 113 = true := by kernel_rfl
theorem cal114 : cal Tryz.prog 114 = true := by kernel_rfl
theorem cal115 : cal Tryz.prog 115 = true := by kernel_rfl
theorem cal116 : cal Tryz.prog 116 = true := by kernel_rfl
theorem cal117 : cal Tryz.prog 117 = true := by kernel_rfl
theorem cal118 : cal Tryz.prog 118 = true := by kernel_rfl
theorem cal119 : cal Tryz.prog 119 = true := by kernel_rfl
theorem cal12 : cal Tryz.prog 12 = true := by kernel_rfl
theorem cal120 : cal Tryz.prog 120 = true := by kernel_rfl
theorem cal121 : cal Tryz.prog 121 = true := by kernel_rfl
theorem cal122 : cal Tryz.prog 122 = true := by kernel_rfl
theorem cal123 : cal Tryz.prog 123 = true := by kernel_rfl
theorem cal124 : cal Tryz.prog 124 = true := by kernel_rfl
theorem cal125 : cal Tryz.prog 125 = true := by kernel_rfl
theorem cal127 : cal Tryz.prog 127 = true := by kernel_rfl
theorem cal128 : cal Tryz.prog 128 = true := by kernel_rfl
theorem cal129 : cal Tryz.prog 129 = true := by kernel_rfl
theorem cal130 : cal Tryz.prog 130 = true := by kernel_rfl
theorem cal131 : cal Tryz.prog 131 = true := by kernel_rfl
theorem cal132 : cal Tryz.prog 132 = true := by kernel_rfl
theorem cal133 : cal Tryz.prog 133 = true := by kernel_rfl
theorem cal134 : cal Tryz.prog 134 = true := by kernel_rfl
theorem cal135 : cal Tryz.prog 135 = true := by kernel_rfl
theorem cal136 : cal Tryz.prog 136 = true := by kernel_rfl
theorem cal137 : cal Tryz.prog 137 = true := by kernel_rfl
theorem cal138 : cal Tryz.prog 138 = true := by kernel_rfl
theorem cal141 : cal Tryz.prog 141 = true := by kernel_rfl
theorem cal144 : cal Tryz.prog 144 = true := by kernel_rfl
theorem cal145 : cal Tryz.prog 145 = true := by kernel_rfl
theorem cal146 : cal Tryz.prog 146 = true := by kernel_rfl
theorem cal147 : cal Tryz.prog 147 = true := by kernel_rfl
theorem cal148 : cal Tryz.prog 148 = true := by kernel_rfl
theorem cal15 : cal Tryz.prog 15 = true := by kernel_rfl
theorem cal151 : cal Tryz.prog 151 = true := by kernel_rfl
theorem cal152 : cal Tryz.prog 152 = true := by kernel_rfl
theorem cal16 : cal Tryz.prog 16 = true := by kernel_rfl
theorem cal160 : cal Tryz.prog 160 = true := by kernel_rfl
theorem cal165 : cal Tryz.prog 165 = true := by kernel_rfl
theorem cal166 : cal Tryz.prog 166 = true := by kernel_rfl
theorem cal167 : cal Tryz.prog 167 = true := by kernel_rfl
theorem cal168 : cal Tryz.prog 168 = true := by kernel_rfl
theorem cal169 : cal Tryz.prog 169 = true := by kernel_rfl
theorem cal17 : cal Tryz.prog 17 = true := by kernel_rfl
theorem cal170 : cal Tryz.prog 170 = true := by kernel_rfl
theorem cal171 : cal Tryz.prog 171 = true := by kernel_rfl
theorem cal173 : cal Tryz.prog 173 = true := by kernel_rfl
theorem cal174 : cal Tryz.prog 174 = true := by kernel_rfl
theorem cal175 : cal Tryz.prog 175 = true := by kernel_rfl
theorem cal176 : cal Tryz.prog 176 = true := by kernel_rfl
theorem cal177 : cal Tryz.prog 177 = true := by kernel_rfl
theorem cal178 : cal Tryz.prog 178 = true := by kernel_rfl
theorem cal179 : cal Tryz.prog 179 = true := by kernel_rfl
theorem cal18 : cal Tryz.prog 18 = true := by kernel_rfl
theorem cal180 : cal Tryz.prog 180 = true := by kernel_rfl
theorem cal181 : cal Tryz.prog 181 = true := by kernel_rfl
theorem cal184 : cal Tryz.prog 184 = true := by kernel_rfl
theorem cal185 : cal Tryz.prog 185 = true := by kernel_rfl
theorem cal187 : cal Tryz.prog 187 = true := by kernel_rfl
theorem cal188 : cal Tryz.prog 188 = true := by kernel_rfl
theorem cal19 : cal Tryz.prog 19 = true := by kernel_rfl
theorem cal193 : cal Tryz.prog 193 = true := by kernel_rfl
theorem cal194 : cal Tryz.prog 194 = true := by kernel_rfl
theorem cal195 : cal Tryz.prog 195 = true := by kernel_rfl
theorem cal196 : cal Tryz.prog 196 = true := by kernel_rfl
theorem cal197 : cal Tryz.prog 197 = true := by kernel_rfl
theorem cal198 : cal Tryz.prog 198 = true := by kernel_rfl
theorem cal199 : cal Tryz.prog 199 = true := by kernel_rfl
theorem cal20 : cal Tryz.prog 20 = true := by kernel_rfl
theorem cal200 : cal Tryz.prog 200 = true := by kernel_rfl
theorem cal202 : cal Tryz.prog 202 = true := by kernel_rfl
theorem cal207 : cal Tryz.prog 207 = true := by kernel_rfl
theorem cal208 : cal Tryz.prog 208 = true := by kernel_rfl
theorem cal21 : cal Tryz.prog 21 = true := by kernel_rfl
theorem cal210 : cal Tryz.prog 210 = true := by kernel_rfl
theorem cal22 : cal Tryz.prog 22 = true := by kernel_rfl
theorem cal23 : cal Tryz.prog 23 = true := by kernel_rfl
theorem cal232 : cal Tryz.prog 232 = true := by kernel_rfl
theorem cal233 : cal Tryz.prog 233 = true := by kernel_rfl
theorem cal234 : cal Tryz.prog 234 = true := by kernel_rfl
theorem cal25 : cal Tryz.prog 25 = true := by kernel_rfl
theorem cal27 : cal Tryz.prog 27 = true := by kernel_rfl
theorem cal28 : cal Tryz.prog 28 = true := by kernel_rfl
theorem cal29 : cal Tryz.prog 29 = true := by kernel_rfl
theorem cal31 : cal Tryz.prog 31 = true := by kernel_rfl
theorem cal32 : cal Tryz.prog 32 = true := by kernel_rfl
theorem cal33 : cal Tryz.prog 33 = true := by kernel_rfl
theorem cal34 : cal Tryz.prog 34 = true := by kernel_rfl
theorem cal35 : cal Tryz.prog 35 = true := by kernel_rfl
theorem cal36 : cal Tryz.prog 36 = true := by kernel_rfl
theorem cal37 : cal Tryz.prog 37 = true := by kernel_rfl
theorem cal38 : cal Tryz.prog 38 = true := by kernel_rfl
theorem cal39 : cal Tryz.prog 39 = true := by kernel_rfl
theorem cal4 : cal Tryz.prog 4 = true := by kernel_rfl
theorem cal40 : cal Tryz.prog 40 = true := by kernel_rfl
theorem cal41 : cal Tryz.prog 41 = true := by kernel_rfl
theorem cal42 : cal Tryz.prog 42 = true := by kernel_rfl
theorem cal43 : cal Tryz.prog 43 = true := by kernel_rfl
theorem cal44 : cal Tryz.prog 44 = true := by kernel_rfl
theorem cal45 : cal Tryz.prog 45 = true := by kernel_rfl
theorem cal46 : cal Tryz.prog 46 = true := by kernel_rfl
theorem cal48 : cal Tryz.prog 48 = true := by kernel_rfl
theorem cal49 : cal Tryz.prog 49 = true := by kernel_rfl
theorem cal5 : cal Tryz.prog 5 = true := by kernel_rfl
theorem cal50 : cal Tryz.prog 50 = true := by kernel_rfl
theorem cal52 : cal Tryz.prog 52 = true := by kernel_rfl
theorem cal55 : cal Tryz.prog 55 = true := by kernel_rfl
theorem cal56 : cal Tryz.prog 56 = true := by kernel_rfl
theorem cal57 : cal Tryz.prog 57 = true := by kernel_rfl
theorem cal6 : cal Tryz.prog 6 = true := by kernel_rfl
theorem cal62 : cal Tryz.prog 62 = true := by kernel_rfl
theorem cal63 : cal Tryz.prog 63 = true := by kernel_rfl
theorem cal64 : cal Tryz.prog 64 = true := by kernel_rfl
theorem cal65 : cal Tryz.prog 65 = true := by kernel_rfl
theorem cal66 : cal Tryz.prog 66 = true := by kernel_rfl
theorem cal67 : cal Tryz.prog 67 = true := by kernel_rfl
theorem cal68 : cal Tryz.prog 68 = true := by kernel_rfl
theorem cal69 : cal Tryz.prog 69 = true := by kernel_rfl
theorem cal7 : cal Tryz.prog 7 = true := by kernel_rfl
theorem cal70 : cal Tryz.prog 70 = true := by kernel_rfl
theorem cal71 : cal Tryz.prog 71 = true := by kernel_rfl
theorem cal72 : cal Tryz.prog 72 = true := by kernel_rfl
theorem cal73 : cal Tryz.prog 73 = true := by kernel_rfl
theorem cal74 : cal Tryz.prog 74 = true := by kernel_rfl
theorem cal75 : cal Tryz.prog 75 = true := by kernel_rfl
theorem cal76 : cal Tryz.prog 76 = true := by kernel_rfl
theorem cal8 : cal Tryz.prog 8 = true := by kernel_rfl
theorem cal84 : cal Tryz.prog 84 = true := by kernel_rfl
theorem cal85 : cal Tryz.prog 85 = true := by kernel_rfl
theorem cal86 : cal Tryz.prog 86 = true := by kernel_rfl
theorem cal87 : cal Tryz.prog 87 = true := by kernel_rfl
theorem cal88 : cal Tryz.prog 88 = true := by kernel_rfl
theorem cal89 : cal Tryz.prog 89 = true := by kernel_rfl
theorem cal9 : cal Tryz.prog 9 = true := by kernel_rfl
theorem cal90 : cal Tryz.prog 90 = true := by kernel_rfl
theorem cal92 : cal Tryz.prog 92 = true := by kernel_rfl
theorem cal93 : cal Tryz.prog 93 = true := by kernel_rfl
theorem cal94 : cal Tryz.prog 94 = true := by kernel_rfl
theorem cal95 : cal Tryz.prog 95 = true := by kernel_rfl
theorem cal96 : cal Tryz.prog 96 = true := by kernel_rfl
theorem cal97 : cal Tryz.prog 97 = true := by kernel_rfl
theorem cal98 : cal Tryz.prog 98 = true := by kernel_rfl
theorem cal99 : cal Tryz.prog 99 = true := by kernel_rfl
theorem fo108_0 : fOff Tryz.prog 108 0 = some 0 := by kernel_rfl
theorem fo108_1 : fOff Tryz.prog 108 1 = some 1 := by kernel_rfl
theorem fo153_0 : fOff Tryz.prog 153 0 = some 0 := by kernel_rfl
theorem fo25_2 : fOff Tryz.prog 25 2 = some 2 := by kernel_rfl
theorem fo25_3 : fOff Tryz.prog 25 3 = some 3 := by kernel_rfl
theorem fo25_4 : fOff Tryz.prog 25 4 = some 4 := by kernel_rfl
theorem fo31_0 : fOff Tryz.prog 31 0 = some 0 := by kernel_rfl
theorem fo31_1 : fOff Tryz.prog 31 1 = some 5 := by kernel_rfl
theorem fo31_2 : fOff Tryz.prog 31 2 = some 6 := by kernel_rfl
theorem fo31_3 : fOff Tryz.prog 31 3 = some 7 := by kernel_rfl
theorem fo36_0 : fOff Tryz.prog 36 0 = some 0 := by kernel_rfl
theorem fo36_1 : fOff Tryz.prog 36 1 = some 1 := by kernel_rfl
theorem fo36_2 : fOff Tryz.prog 36 2 = some 2 := by kernel_rfl
theorem fo36_3 : fOff Tryz.prog 36 3 = some 3 := by kernel_rfl
theorem fo36_5 : fOff Tryz.prog 36 5 = some 5 := by kernel_rfl
theorem fo36_6 : fOff Tryz.prog 36 6 = some 6 := by kernel_rfl
theorem fo42_0 : fOff Tryz.prog 42 0 = some 0 := by kernel_rfl
theorem fo42_1 : fOff Tryz.prog 42 1 = some 1 := by kernel_rfl
theorem fo42_2 : fOff Tryz.prog 42 2 = some 2 := by kernel_rfl
theorem fo47_0 : fOff Tryz.prog 47 0 = some 0 := by kernel_rfl
theorem fo47_1 : fOff Tryz.prog 47 1 = some 1 := by kernel_rfl
theorem fo47_2 : fOff Tryz.prog 47 2 = some 2 := by kernel_rfl
theorem fo47_3 : fOff Tryz.prog 47 3 = some 3 := by kernel_rfl
theorem fo47_4 : fOff Tryz.prog 47 4 = some 4 := by kernel_rfl
theorem fo47_6 : fOff Tryz.prog 47 6 = some 6 := by kernel_rfl
theorem fo47_7 : fOff Tryz.prog 47 7 = some 7 := by kernel_rfl
theorem fo74_0 : fOff Tryz.prog 74 0 = some 0 := by kernel_rfl
theorem fo79_0 : fOff Tryz.prog 79 0 = some 0 := by kernel_rfl
theorem fo79_1 : fOff Tryz.prog 79 1 = some 1 := by kernel_rfl
theorem fo79_2 : fOff Tryz.prog 79 2 = some 2 := by kernel_rfl
theorem fo83_0 : fOff Tryz.prog 83 0 = some 0 := by kernel_rfl
theorem fo83_1 : fOff Tryz.prog 83 1 = some 1 := by kernel_rfl
theorem fo83_10 : fOff Tryz.prog 83 10 = some 10 := by kernel_rfl
theorem fo83_2 : fOff Tryz.prog 83 2 = some 2 := by kernel_rfl
theorem fo83_3 : fOff Tryz.prog 83 3 = some 3 := by kernel_rfl
theorem fo83_4 : fOff Tryz.prog 83 4 = some 4 := by kernel_rfl
theorem fo83_5 : fOff Tryz.prog 83 5 = some 5 := by kernel_rfl
theorem fo83_6 : fOff Tryz.prog 83 6 = some 6 := by kernel_rfl
theorem fo83_7 : fOff Tryz.prog 83 7 = some 7 := by kernel_rfl
theorem fo83_8 : fOff Tryz.prog 83 8 = some 8 := by kernel_rfl
theorem fo83_9 : fOff Tryz.prog 83 9 = some 9 := by kernel_rfl
theorem ibx : Extern.findNext Tryz.f172 = none := by kernel_rfl
theorem iby : Extern.find Tryz.f172 = some Extern.BytealgIndexByte.indexByte := by kernel_rfl
theorem mth115_232 : mth Tryz.prog 115 "purveyor/apply.do" = some 232 := by kernel_rfl
theorem mth249_233 : mth Tryz.prog 249 "purveyor/pool.in" = some 233 := by kernel_rfl
theorem mth249_234 : mth Tryz.prog 249 "purveyor/pool.out" = some 234 := by kernel_rfl
theorem pl129 : plc Tryz.prog 129 = some [(0, 1), (1, 1), (2, 1), (3, 1), (4, 1), (5, 1), (6, 1), (7, 1)] := by kernel_rfl
theorem pl153 : plc Tryz.prog 153 = some [(0, 10)] := by kernel_rfl
theorem pl171 : plc Tryz.prog 171 = some [(0, 1)] := by kernel_rfl
theorem pl31 : plc Tryz.prog 31 = some [(0, 5), (5, 1), (6, 1), (7, 1), (8, 1), (9, 1)] := by kernel_rfl
theorem pl36 : plc Tryz.prog 36 = some [(0, 1), (1, 1), (2, 1), (3, 1), (4, 1), (5, 1), (6, 1), (7, 1), (8, 1)] := by kernel_rfl
theorem pl42 : plc Tryz.prog 42 = some [(0, 1), (1, 1), (2, 1)] := by kernel_rfl
theorem pl47 : plc Tryz.prog 47 = some [(0, 1), (1, 1), (2, 1), (3, 1), (4, 1), (5, 1), (6, 1), (7, 1)] := by kernel_rfl
theorem pl79 : plc Tryz.prog 79 = some [(0, 1), (1, 1), (2, 1), (3, 1), (4, 1), (5, 1), (6, 1), (7, 1), (8, 1)] := by kernel_rfl
theorem pl83 : plc Tryz.prog 83 = some [(0, 1), (1, 1), (2, 1), (3, 1), (4, 1), (5, 1), (6, 1), (7, 1), (8, 1), (9, 1), (10, 1)] := by kernel_rfl
theorem z108 : zeroOf Tryz.prog 108 = some [.int .i64 0, .int .i64 0] := by kernel_rfl
theorem z116 : zeroOf Tryz.prog 116 = some [.pointer none, .slice none 0 0] := by kernel_rfl
theorem z129 : zeroOf Tryz.prog 129 = some [.int .i64 0, .int .i64 0, .int .i64 0, .int .i64 0, .int .i64 0, .int .i64 0, .int .i64 0, .int .i64 0] := by kernel_rfl
theorem z131 : zeroOf Tryz.prog 131 = some [.int .i64 0, .int .i64 0, .int .i64 0, .int .i64 0, .int .i64 0, .int .i64 0] := by kernel_rfl
theorem z132 : zeroOf Tryz.prog 132 = some [.int .i64 0, .int .i64 0] := by kernel_rfl
theorem z153 : zeroOf Tryz.prog 153 = some [.int .i64 0, .int .i64 0, .slice none 0 0, .slice none 0 0, .slice none 0 0, .slice none 0 0, .slice none 0 0, .slice none 0 0, .slice none 0 0, .int .i64 0] := by kernel_rfl
theorem z171 : zeroOf Tryz.prog 171 = some [.nilFunc] := by kernel_rfl
theorem z184 : zeroOf Tryz.prog 184 = some [.nilFunc] := by kernel_rfl
theorem z205 : zeroOf Tryz.prog 205 = some [.int .u64 0, .int .u64 0, .int .u64 0, .int .u64 0] := by kernel_rfl
theorem z249 : zeroOf Tryz.prog 249 = some [] := by kernel_rfl
theorem z25 : zeroOf Tryz.prog 25 = some [.int .i64 0, .int .i64 0, .slice none 0 0, .slice none 0 0, .slice none 0 0] := by kernel_rfl
theorem z251 : zeroOf Tryz.prog 251 = some [] := by kernel_rfl
theorem z3 : zeroOf Tryz.prog 3 = some [.int .i64 0] := by kernel_rfl
theorem z31 : zeroOf Tryz.prog 31 = some [.int .i64 0, .int .i64 0, .slice none 0 0, .slice none 0 0, .slice none 0 0, .slice none 0 0, .slice none 0 0, .slice none 0 0, .slice none 0 0, .int .i64 0] := by kernel_rfl
theorem z36 : zeroOf Tryz.prog 36 = some [.int .i64 0, .int .i64 0, .int .i64 0, .int .i64 0, .int .i64 0, .int .i64 0, .int .i64 0, .int .i64 0, .slice none 0 0] := by kernel_rfl
theorem z37 : zeroOf Tryz.prog 37 = some [.int .i64 0, .int .i64 0, .int .i64 0, .int .i64 0, .int .i64 0, .int .i64 0, .int .i64 0, .int .i64 0, .slice none 0 0, .int .i64 0, .int .i64 0, .int .i64 0, .int .i64 0, .int .i64 0, .int .i64 0, .int .i64 0, .int .i64 0, .slice none 0 0, .int .i64 0, .int .i64 0, .int .i64 0, .int .i64 0, .int .i64 0, .int .i64 0, .int .i64 0, .int .i64 0, .slice none 0 0, .int .i64 0, .int .i64 0, .int .i64 0, .int .i64 0, .int .i64 0, .int .i64 0, .int .i64 0, .int .i64 0, .slice none 0 0] := by kernel_rfl
theorem z38 : zeroOf Tryz.prog 38 = some [.int .i64 0] := by kernel_rfl
theorem z42 : zeroOf Tryz.prog 42 = some [.int .i64 0, .int .i64 0, .int .i64 0] := by kernel_rfl
theorem z47 : zeroOf Tryz.prog 47 = some [.int .i64 0, .bool false, .slice none 0 0, .slice none 0 0, .slice none 0 0, .slice none 0 0, .slice none 0 0, .slice none 0 0] := by kernel_rfl
theorem z55 : zeroOf Tryz.prog 55 = some [.slice none 0 0] := by kernel_rfl
theorem z62 : zeroOf Tryz.prog 62 = some [.string ⟨#[]⟩, .string ⟨#[]⟩, .string ⟨#[]⟩, .string ⟨#[]⟩, .string ⟨#[]⟩, .string ⟨#[]⟩, .string ⟨#[]⟩, .string ⟨#[]⟩, .string ⟨#[]⟩, .string ⟨#[]⟩, .string ⟨#[]⟩, .string ⟨#[]⟩, .string ⟨#[]⟩, .string ⟨#[]⟩, .string ⟨#[]⟩, .string ⟨#[]⟩, .string ⟨#[]⟩] := by kernel_rfl
theorem z74 : zeroOf Tryz.prog 74 = some [.slice none 0 0, .int .i64 0, .int .i64 0, .int .i64 0] := by kernel_rfl
theorem z79 : zeroOf Tryz.prog 79 = some [.int .i64 0, .int .i64 0, .int .i64 0, .int .i64 0, .int .i64 0, .int .i64 0, .int .i64 0, .int .i64 0, .bool false] := by kernel_rfl
theorem z83 : zeroOf Tryz.prog 83 = some [.int .i64 0, .int .i64 0, .int .i64 0, .int .i64 0, .int .i64 0, .int .i64 0, .int .i64 0, .int .i64 0, .int .i64 0, .int .i64 0, .int .i64 0] := by kernel_rfl
theorem z95 : zeroOf Tryz.prog 95 = some [.nilFunc] := by kernel_rfl
theorem z96 : zeroOf Tryz.prog 96 = some [.nilFunc, .nilFunc, .nilFunc, .nilFunc, .nilFunc] := by kernel_rfl
theorem zag251 : zAgg Tryz.prog 251 = true := by kernel_rfl
def tb : Tab2 := { sh := [(1, (1, false)), (3, (1, false)), (4, (1, false)), (22, (1, false)), (23, (1, false)), (25, (5, true)), (26, (1, false)), (27, (1, false)), (28, (1, false)), (29, (1, false)), (31, (10, true)), (36, (9, true)), (38, (1, false)), (40, (1, false)), (42, (3, true)), (44, (1, false)), (45, (1, false)), (47, (8, true)), (49, (1, false)), (55, (1, false)), (58, (1, false)), (67, (1, false)), (70, (1, false)), (71, (1, false)), (72, (3, true)), (74, (4, true)), (79, (9, true)), (83, (11, true)), (96, (5, true)), (108, (2, true)), (109, (1, false)), (116, (2, true)), (129, (8, true)), (131, (6, true)), (161, (1, false)), (184, (1, false))], fo := [((25, 0), 0), ((25, 1), 1), ((25, 2), 2), ((25, 3), 3), ((25, 4), 4), ((31, 0), 0), ((31, 1), 5), ((31, 2), 6), ((31, 3), 7), ((31, 4), 8), ((31, 5), 9), ((36, 0), 0), ((36, 1), 1), ((36, 2), 2), ((36, 3), 3), ((36, 4), 4), ((36, 5), 5), ((36, 6), 6), ((36, 7), 7), ((36, 8), 8), ((42, 0), 0), ((42, 1), 1), ((42, 2), 2), ((47, 0), 0), ((47, 1), 1), ((47, 2), 2), ((47, 3), 3), ((47, 4), 4), ((47, 5), 5), ((47, 6), 6), ((47, 7), 7), ((74, 0), 0), ((74, 1), 1), ((79, 0), 0), ((79, 1), 1), ((79, 2), 2), ((79, 3), 3), ((79, 4), 4), ((79, 5), 5), ((79, 6), 6), ((79, 7), 7), ((83, 0), 0), ((83, 1), 1), ((83, 2), 2), ((83, 3), 3), ((83, 4), 4), ((83, 5), 5), ((83, 6), 6), ((83, 7), 7), ((83, 8), 8), ((83, 9), 9), ((83, 10), 10), ((95, 0), 0), ((108, 0), 0), ((108, 1), 1), ((116, 0), 0), ((116, 1), 1), ((129, 0), 0), ((129, 1), 1), ((129, 2), 2), ((129, 3), 3), ((129, 4), 4), ((129, 5), 5), ((129, 6), 6), ((129, 7), 7), ((131, 0), 0), ((131, 1), 1), ((131, 2), 2), ((131, 3), 3), ((131, 4), 4), ((131, 5), 5), ((153, 0), 0), ((171, 0), 0)], fp := [((42, 0), (0, 3)), ((42, 1), (1, 3)), ((74, 0), (0, 71))], ki := [(3, .i64), (5, .u8), (141, .u64), (161, .u64)], se := [], bl := [(25, [(0, 1), (1, 1), (2, 1), (3, 1), (4, 1)]), (42, [(0, 1), (1, 1), (2, 1)]), (95, [(0, 1)]), (108, [(0, 1), (1, 1)]), (116, [(0, 1), (1, 1)]), (249, [])], zs := [(25, [.int .i64 0, .int .i64 0, .slice none 0 0, .slice none 0 0, .slice none 0 0]), (42, [.int .i64 0, .int .i64 0, .int .i64 0]), (95, [.nilFunc]), (108, [.int .i64 0, .int .i64 0]), (116, [.pointer none, .slice none 0 0]), (249, [])] }
theorem tbk : Tab2Ok Tryz.prog tb := ⟨⟨by kernel_rfl, by kernel_rfl, by kernel_rfl⟩, by kernel_rfl, by kernel_rfl, by kernel_rfl, ⟨z25, z42, z95, z108, z116, z249, trivial⟩⟩
theorem clone28_c {H : AH} {id : Nat} {l : List GEnt} (hid : H id = none) (hl : l.length ≤ 68719476736) : PC Tryz.prog 28 [lst 8 GEnt.av l] H (fun y H' => ∃ ver, y = .sl id ver 0 l.length ∧ H' = upd H id (some ⟨47, 8, true, true, ver, l.map GEnt.av⟩)) := by
  refine pc_of' (c := _) Tryz.func28 rfl rfl ?_; intro Q hret hnorm
  repeat (refine c_seq ?_)
  refine c_reg ?_; intro K hK
  refine st rfl rfl rfl (yv_assign rfl rfl) ?_
  refine rg_nil (hK _ ?_)
  repeat (refine c_seq ?_)
  refine c_reg ?_; intro K hK
  refine st rfl rfl rfl (yv_move rfl rfl) ?_
  refine se rfl rfl rfl (Yield.weak (yl_slnil (xs := l.map GEnt.av) (sz := 8) rfl Tryz.underlying26 rfl rfl) (fun _ h => h) (fun _ _ => trivial)) ?_; rintro _ _ ⟨b, rfl, hb, rfl⟩
  refine rg_nil (hK _ ?_)
  refine c_if (b := b) rfl ?_ ?_
  · intro h; subst h
    have hl0 : l = [] := List.map_eq_nil_iff.1 (hb rfl)
    subst hl0
    repeat (refine c_seq ?_)
    refine c_reg ?_; intro K hK
    refine st rfl rfl rfl (yv_assign rfl rfl) ?_
    refine rg_nil (hK _ ?_)
    refine c_nilobj 2 id 47 8 rfl hid ?_; intro v
    refine c_ret (hret _ _ _ (.tmp rfl .nil) (fun _ _ h => h) ?_)
    exact ⟨v, rfl, rfl⟩
  · intro h; subst h
    refine c_skip ?_
    repeat (refine c_seq ?_)
    refine c_reg ?_; intro K hK
    refine se rfl rfl rfl (yl_buildO (ps := []) id [] .any rfl Tryz.underlying26 bz47 .nil rfl rfl rfl rfl) ?_; rintro _ _ ⟨v, -, rfl, rfl⟩
    refine st rfl rfl rfl (yv_move rfl rfl) ?_
    refine se rfl rfl rfl (yl_appT (g := GEnt.av) (l := []) (m := l) (l' := l) .any rfl Tryz.underlying26 bz47 by47 rfl rfl rfl (upd_same _ _ _) rfl rfl rfl rfl rfl rfl rfl (.refl _) GEnt.one rfl hl) ?_; rintro _ _ ⟨v2, -, rfl, rfl⟩
    refine st rfl rfl rfl (yv_assign rfl rfl) ?_
    refine rg_nil (hK _ ?_)
    refine c_ret (hret _ _ _ (.tmp rfl .nil) (fun _ _ h => h) ?_)
    exact ⟨v2, rfl, upd_updV⟩
theorem clone29_c {H : AH} {id : Nat} {l : List GSale} (hid : H id = none) (hl : l.length ≤ 68719476736) : PC Tryz.prog 29 [lst 9 GSale.av l] H (fun y H' => ∃ ver, y = .sl id ver 0 l.length ∧ H' = upd H id (some ⟨79, 9, true, true, ver, l.map GSale.av⟩)) := by
  refine pc_of' (c := _) Tryz.func29 rfl rfl ?_; intro Q hret hnorm
  repeat (refine c_seq ?_)
  refine c_reg ?_; intro K hK
  refine st rfl rfl rfl (yv_assign rfl rfl) ?_
  refine rg_nil (hK _ ?_)
  repeat (refine c_seq ?_)
  refine c_reg ?_; intro K hK
  refine st rfl rfl rfl (yv_move rfl rfl) ?_
  refine se rfl rfl rfl (Yield.weak (yl_slnil (xs := l.map GSale.av) (sz := 9) rfl Tryz.underlying28 rfl rfl) (fun _ h => h) (fun _ _ => trivial)) ?_; rintro _ _ ⟨b, rfl, hb, rfl⟩
  refine rg_nil (hK _ ?_)
  refine c_if (b := b) rfl ?_ ?_
  · intro h; subst h
    have hl0 : l = [] := List.map_eq_nil_iff.1 (hb rfl)
    subst hl0
    repeat (refine c_seq ?_)
    refine c_reg ?_; intro K hK
    refine st rfl rfl rfl (yv_assign rfl rfl) ?_
    refine rg_nil (hK _ ?_)
    refine c_nilobj 2 id 79 9 rfl hid ?_; intro v
    refine c_ret (hret _ _ _ (.tmp rfl .nil) (fun _ _ h => h) ?_)
    exact ⟨v, rfl, rfl⟩
  · intro h; subst h
    refine c_skip ?_
    repeat (refine c_seq ?_)
    refine c_reg ?_; intro K hK
    refine se rfl rfl rfl (yl_buildO (ps := []) id [] .any rfl Tryz.underlying28 bz79 .nil rfl rfl rfl rfl) ?_; rintro _ _ ⟨v, -, rfl, rfl⟩
    refine st rfl rfl rfl (yv_move rfl rfl) ?_
    refine se rfl rfl rfl (yl_appT (g := GSale.av) (l := []) (m := l) (l' := l) .any rfl Tryz.underlying28 bz79 by79 rfl rfl rfl (upd_same _ _ _) rfl rfl rfl rfl rfl rfl rfl (.refl _) (fun _ => rfl) rfl hl) ?_; rintro _ _ ⟨v2, -, rfl, rfl⟩
    refine st rfl rfl rfl (yv_assign rfl rfl) ?_
    refine rg_nil (hK _ ?_)
    refine c_ret (hret _ _ _ (.tmp rfl .nil) (fun _ _ h => h) ?_)
    exact ⟨v2, rfl, upd_updV⟩
theorem clone48_c {H : AH} {id : Nat} {l : List GPool} (hid : H id = none) (hl : l.length ≤ 68719476736) : PC Tryz.prog 48 [lst 4 GPool.av l] H (fun y H' => ∃ ver, y = .sl id ver 0 l.length ∧ H' = upd H id (some ⟨74, 4, true, true, ver, l.map GPool.av⟩)) := by
  refine pc_of' (c := _) Tryz.func48 rfl rfl ?_; intro Q hret hnorm
  repeat (refine c_seq ?_)
  refine c_reg ?_; intro K hK
  refine st rfl rfl rfl (yv_assign rfl rfl) ?_
  refine rg_nil (hK _ ?_)
  repeat (refine c_seq ?_)
  refine c_reg ?_; intro K hK
  refine st rfl rfl rfl (yv_move rfl rfl) ?_
  refine se rfl rfl rfl (Yield.weak (yl_slnil (xs := l.map GPool.av) (sz := 4) rfl Tryz.underlying44 rfl rfl) (fun _ h => h) (fun _ _ => trivial)) ?_; rintro _ _ ⟨b, rfl, hb, rfl⟩
  refine rg_nil (hK _ ?_)
  refine c_if (b := b) rfl ?_ ?_
  · intro h; subst h
    have hl0 : l = [] := List.map_eq_nil_iff.1 (hb rfl)
    subst hl0
    repeat (refine c_seq ?_)
    refine c_reg ?_; intro K hK
    refine st rfl rfl rfl (yv_assign rfl rfl) ?_
    refine rg_nil (hK _ ?_)
    refine c_nilobj 2 id 74 4 rfl hid ?_; intro v
    refine c_ret (hret _ _ _ (.tmp rfl .nil) (fun _ _ h => h) ?_)
    exact ⟨v, rfl, rfl⟩
  · intro h; subst h
    refine c_skip ?_
    repeat (refine c_seq ?_)
    refine c_reg ?_; intro K hK
    refine se rfl rfl rfl (yl_buildO (ps := []) id [] .any rfl Tryz.underlying44 bz74 .nil rfl rfl rfl rfl) ?_; rintro _ _ ⟨v, -, rfl, rfl⟩
    refine st rfl rfl rfl (yv_move rfl rfl) ?_
    refine se rfl rfl rfl (yl_appT (g := GPool.av) (l := []) (m := l) (l' := l) .any rfl Tryz.underlying44 bz74 by74 rfl rfl rfl (upd_same _ _ _) rfl rfl rfl rfl rfl rfl rfl (.refl _) (fun _ => rfl) rfl hl) ?_; rintro _ _ ⟨v2, -, rfl, rfl⟩
    refine st rfl rfl rfl (yv_assign rfl rfl) ?_
    refine rg_nil (hK _ ?_)
    refine c_ret (hret _ _ _ (.tmp rfl .nil) (fun _ _ h => h) ?_)
    exact ⟨v2, rfl, upd_updV⟩
theorem clone52_c {H : AH} {id : Nat} {l : List Int} (hid : H id = none) (hl : l.length ≤ 68719476736) : PC Tryz.prog 52 [lst 1 fI l] H (fun y H' => ∃ ver, y = .sl id ver 0 l.length ∧ H' = upd H id (some ⟨3, 1, true, true, ver, l.map fI⟩)) := by
  refine pc_of' (c := _) Tryz.func52 rfl rfl ?_; intro Q hret hnorm
  repeat (refine c_seq ?_)
  refine c_reg ?_; intro K hK
  refine st rfl rfl rfl (yv_assign rfl rfl) ?_
  refine rg_nil (hK _ ?_)
  repeat (refine c_seq ?_)
  refine c_reg ?_; intro K hK
  refine st rfl rfl rfl (yv_move rfl rfl) ?_
  refine se rfl rfl rfl (Yield.weak (yl_slnil (xs := l.map fI) (sz := 1) rfl Tryz.underlying22 rfl rfl) (fun _ h => h) (fun _ _ => trivial)) ?_; rintro _ _ ⟨b, rfl, hb, rfl⟩
  refine rg_nil (hK _ ?_)
  refine c_if (b := b) rfl ?_ ?_
  · intro h; subst h
    have hl0 : l = [] := List.map_eq_nil_iff.1 (hb rfl)
    subst hl0
    repeat (refine c_seq ?_)
    refine c_reg ?_; intro K hK
    refine st rfl rfl rfl (yv_assign rfl rfl) ?_
    refine rg_nil (hK _ ?_)
    refine c_nilobj 2 id 3 1 rfl hid ?_; intro v
    refine c_ret (hret _ _ _ (.tmp rfl .nil) (fun _ _ h => h) ?_)
    exact ⟨v, rfl, rfl⟩
  · intro h; subst h
    refine c_skip ?_
    repeat (refine c_seq ?_)
    refine c_reg ?_; intro K hK
    refine se rfl rfl rfl (yl_buildO (ps := []) id [] .any rfl Tryz.underlying22 bz3 .nil rfl rfl rfl rfl) ?_; rintro _ _ ⟨v, -, rfl, rfl⟩
    refine st rfl rfl rfl (yv_move rfl rfl) ?_
    refine se rfl rfl rfl (yl_appT (g := fI) (l := []) (m := l) (l' := l) .any rfl Tryz.underlying22 bz3 by3 rfl rfl rfl (upd_same _ _ _) rfl rfl rfl rfl rfl rfl rfl (.refl _) (fun _ => rfl) rfl hl) ?_; rintro _ _ ⟨v2, -, rfl, rfl⟩
    refine st rfl rfl rfl (yv_assign rfl rfl) ?_
    refine rg_nil (hK _ ?_)
    refine c_ret (hret _ _ _ (.tmp rfl .nil) (fun _ _ h => h) ?_)
    exact ⟨v2, rfl, upd_updV⟩
theorem clone63_c {H : AH} {id : Nat} {l : List GLayer} (hid : H id = none) (hl : l.length ≤ 68719476736) : PC Tryz.prog 63 [lst 3 GLayer.av l] H (fun y H' => ∃ ver, y = .sl id ver 0 l.length ∧ H' = upd H id (some ⟨42, 3, true, true, ver, l.map GLayer.av⟩)) := by
  refine pc_of' (c := _) Tryz.func63 rfl rfl ?_; intro Q hret hnorm
  repeat (refine c_seq ?_)
  refine c_reg ?_; intro K hK
  refine st rfl rfl rfl (yv_assign rfl rfl) ?_
  refine rg_nil (hK _ ?_)
  repeat (refine c_seq ?_)
  refine c_reg ?_; intro K hK
  refine st rfl rfl rfl (yv_move rfl rfl) ?_
  refine se rfl rfl rfl (Yield.weak (yl_slnil (xs := l.map GLayer.av) (sz := 3) rfl Tryz.underlying71 rfl rfl) (fun _ h => h) (fun _ _ => trivial)) ?_; rintro _ _ ⟨b, rfl, hb, rfl⟩
  refine rg_nil (hK _ ?_)
  refine c_if (b := b) rfl ?_ ?_
  · intro h; subst h
    have hl0 : l = [] := List.map_eq_nil_iff.1 (hb rfl)
    subst hl0
    repeat (refine c_seq ?_)
    refine c_reg ?_; intro K hK
    refine st rfl rfl rfl (yv_assign rfl rfl) ?_
    refine rg_nil (hK _ ?_)
    refine c_nilobj 2 id 42 3 rfl hid ?_; intro v
    refine c_ret (hret _ _ _ (.tmp rfl .nil) (fun _ _ h => h) ?_)
    exact ⟨v, rfl, rfl⟩
  · intro h; subst h
    refine c_skip ?_
    repeat (refine c_seq ?_)
    refine c_reg ?_; intro K hK
    refine se rfl rfl rfl (yl_buildO (ps := []) id [] .any rfl Tryz.underlying71 bz42 .nil rfl rfl rfl rfl) ?_; rintro _ _ ⟨v, -, rfl, rfl⟩
    refine st rfl rfl rfl (yv_move rfl rfl) ?_
    refine se rfl rfl rfl (yl_appT (g := GLayer.av) (l := []) (m := l) (l' := l) .any rfl Tryz.underlying71 bz42 by42 rfl rfl rfl (upd_same _ _ _) rfl rfl rfl rfl rfl rfl rfl (.refl _) (fun _ => rfl) rfl hl) ?_; rintro _ _ ⟨v2, -, rfl, rfl⟩
    refine st rfl rfl rfl (yv_assign rfl rfl) ?_
    refine rg_nil (hK _ ?_)
    refine c_ret (hret _ _ _ (.tmp rfl .nil) (fun _ _ h => h) ?_)
    exact ⟨v2, rfl, upd_updV⟩
theorem clone90_c {H : AH} {id : Nat} {l : List GRoll} (hid : H id = none) (hl : l.length ≤ 68719476736) : PC Tryz.prog 90 [lst 11 GRoll.av l] H (fun y H' => ∃ ver, y = .sl id ver 0 l.length ∧ H' = upd H id (some ⟨83, 11, true, true, ver, l.map GRoll.av⟩)) := by
  refine pc_of' (c := _) Tryz.func90 rfl rfl ?_; intro Q hret hnorm
  repeat (refine c_seq ?_)
  refine c_reg ?_; intro K hK
  refine st rfl rfl rfl (yv_assign rfl rfl) ?_
  refine rg_nil (hK _ ?_)
  repeat (refine c_seq ?_)
  refine c_reg ?_; intro K hK
  refine st rfl rfl rfl (yv_move rfl rfl) ?_
  refine se rfl rfl rfl (Yield.weak (yl_slnil (xs := l.map GRoll.av) (sz := 11) rfl Tryz.underlying45 rfl rfl) (fun _ h => h) (fun _ _ => trivial)) ?_; rintro _ _ ⟨b, rfl, hb, rfl⟩
  refine rg_nil (hK _ ?_)
  refine c_if (b := b) rfl ?_ ?_
  · intro h; subst h
    have hl0 : l = [] := List.map_eq_nil_iff.1 (hb rfl)
    subst hl0
    repeat (refine c_seq ?_)
    refine c_reg ?_; intro K hK
    refine st rfl rfl rfl (yv_assign rfl rfl) ?_
    refine rg_nil (hK _ ?_)
    refine c_nilobj 2 id 83 11 rfl hid ?_; intro v
    refine c_ret (hret _ _ _ (.tmp rfl .nil) (fun _ _ h => h) ?_)
    exact ⟨v, rfl, rfl⟩
  · intro h; subst h
    refine c_skip ?_
    repeat (refine c_seq ?_)
    refine c_reg ?_; intro K hK
    refine se rfl rfl rfl (yl_buildO (ps := []) id [] .any rfl Tryz.underlying45 bz83 .nil rfl rfl rfl rfl) ?_; rintro _ _ ⟨v, -, rfl, rfl⟩
    refine st rfl rfl rfl (yv_move rfl rfl) ?_
    refine se rfl rfl rfl (yl_appT (g := GRoll.av) (l := []) (m := l) (l' := l) .any rfl Tryz.underlying45 bz83 by83 rfl rfl rfl (upd_same _ _ _) rfl rfl rfl rfl rfl rfl rfl (.refl _) (fun _ => rfl) rfl hl) ?_; rintro _ _ ⟨v2, -, rfl, rfl⟩
    refine st rfl rfl rfl (yv_assign rfl rfl) ?_
    refine rg_nil (hK _ ?_)
    refine c_ret (hret _ _ _ (.tmp rfl .nil) (fun _ _ h => h) ?_)
    exact ⟨v2, rfl, upd_updV⟩
theorem clone100_c {H : AH} {id : Nat} {l : List GReceipt} (hid : H id = none) (hl : l.length ≤ 68719476736) : PC Tryz.prog 100 [lst 8 GReceipt.av l] H (fun y H' => ∃ ver, y = .sl id ver 0 l.length ∧ H' = upd H id (some ⟨129, 8, true, true, ver, l.map GReceipt.av⟩)) := by
  refine pc_of' (c := _) Tryz.func100 rfl rfl ?_; intro Q hret hnorm
  repeat (refine c_seq ?_)
  refine c_reg ?_; intro K hK
  refine st rfl rfl rfl (yv_assign rfl rfl) ?_
  refine rg_nil (hK _ ?_)
  repeat (refine c_seq ?_)
  refine c_reg ?_; intro K hK
  refine st rfl rfl rfl (yv_move rfl rfl) ?_
  refine se rfl rfl rfl (Yield.weak (yl_slnil (xs := l.map GReceipt.av) (sz := 8) rfl Tryz.underlying27 rfl rfl) (fun _ h => h) (fun _ _ => trivial)) ?_; rintro _ _ ⟨b, rfl, hb, rfl⟩
  refine rg_nil (hK _ ?_)
  refine c_if (b := b) rfl ?_ ?_
  · intro h; subst h
    have hl0 : l = [] := List.map_eq_nil_iff.1 (hb rfl)
    subst hl0
    repeat (refine c_seq ?_)
    refine c_reg ?_; intro K hK
    refine st rfl rfl rfl (yv_assign rfl rfl) ?_
    refine rg_nil (hK _ ?_)
    refine c_nilobj 2 id 129 8 rfl hid ?_; intro v
    refine c_ret (hret _ _ _ (.tmp rfl .nil) (fun _ _ h => h) ?_)
    exact ⟨v, rfl, rfl⟩
  · intro h; subst h
    refine c_skip ?_
    repeat (refine c_seq ?_)
    refine c_reg ?_; intro K hK
    refine se rfl rfl rfl (yl_buildO (ps := []) id [] .any rfl Tryz.underlying27 bz129 .nil rfl rfl rfl rfl) ?_; rintro _ _ ⟨v, -, rfl, rfl⟩
    refine st rfl rfl rfl (yv_move rfl rfl) ?_
    refine se rfl rfl rfl (yl_appT (g := GReceipt.av) (l := []) (m := l) (l' := l) .any rfl Tryz.underlying27 bz129 by129 rfl rfl rfl (upd_same _ _ _) rfl rfl rfl rfl rfl rfl rfl (.refl _) (fun _ => rfl) rfl hl) ?_; rintro _ _ ⟨v2, -, rfl, rfl⟩
    refine st rfl rfl rfl (yv_assign rfl rfl) ?_
    refine rg_nil (hK _ ?_)
    refine c_ret (hret _ _ _ (.tmp rfl .nil) (fun _ _ h => h) ?_)
    exact ⟨v2, rfl, upd_updV⟩
theorem clone131_c {H : AH} {id : Nat} {l : List GLine} (hid : H id = none) (hl : l.length ≤ 68719476736) : PC Tryz.prog 131 [lst 2 GLine.av l] H (fun y H' => ∃ ver, y = .sl id ver 0 l.length ∧ H' = upd H id (some ⟨108, 2, true, true, ver, l.map GLine.av⟩)) := by
  refine pc_of' (c := _) Tryz.func131 rfl rfl ?_; intro Q hret hnorm
  repeat (refine c_seq ?_)
  refine c_reg ?_; intro K hK
  refine st rfl rfl rfl (yv_assign rfl rfl) ?_
  refine rg_nil (hK _ ?_)
  repeat (refine c_seq ?_)
  refine c_reg ?_; intro K hK
  refine st rfl rfl rfl (yv_move rfl rfl) ?_
  refine se rfl rfl rfl (Yield.weak (yl_slnil (xs := l.map GLine.av) (sz := 2) rfl Tryz.underlying109 rfl rfl) (fun _ h => h) (fun _ _ => trivial)) ?_; rintro _ _ ⟨b, rfl, hb, rfl⟩
  refine rg_nil (hK _ ?_)
  refine c_if (b := b) rfl ?_ ?_
  · intro h; subst h
    have hl0 : l = [] := List.map_eq_nil_iff.1 (hb rfl)
    subst hl0
    repeat (refine c_seq ?_)
    refine c_reg ?_; intro K hK
    refine st rfl rfl rfl (yv_assign rfl rfl) ?_
    refine rg_nil (hK _ ?_)
    refine c_nilobj 2 id 108 2 rfl hid ?_; intro v
    refine c_ret (hret _ _ _ (.tmp rfl .nil) (fun _ _ h => h) ?_)
    exact ⟨v, rfl, rfl⟩
  · intro h; subst h
    refine c_skip ?_
    repeat (refine c_seq ?_)
    refine c_reg ?_; intro K hK
    refine se rfl rfl rfl (yl_buildO (ps := []) id [] .any rfl Tryz.underlying109 bz108 .nil rfl rfl rfl rfl) ?_; rintro _ _ ⟨v, -, rfl, rfl⟩
    refine st rfl rfl rfl (yv_move rfl rfl) ?_
    refine se rfl rfl rfl (yl_appT (g := GLine.av) (l := []) (m := l) (l' := l) .any rfl Tryz.underlying109 bz108 by108 rfl rfl rfl (upd_same _ _ _) rfl rfl rfl rfl rfl rfl rfl (.refl _) (fun _ => rfl) rfl hl) ?_; rintro _ _ ⟨v2, -, rfl, rfl⟩
    refine st rfl rfl rfl (yv_assign rfl rfl) ?_
    refine rg_nil (hK _ ?_)
    refine c_ret (hret _ _ _ (.tmp rfl .nil) (fun _ _ h => h) ?_)
    exact ⟨v2, rfl, upd_updV⟩
def d_top_simple_L0 (a1 : Int) (a2 : Int) : Nat → Int → (List (List Int)) → (List (List Int)) → Option ((List (List Int)) × (List (List Int)))
  | 0, _, _, _ => none
  | n + 1, y0_1, y0_4, y0_5 =>
    bnd (decide (y0_1 < a1)) fun x8 =>
    cond x8 (bnd (y0_4 ++ ([([a2] : List Int)] : List (List Int))) fun x9 =>
    asrt (x9.length ≤ 68719476736) <|
    bnd (y0_5 ++ ([([10] : List Int)] : List (List Int))) fun x12 =>
    asrt (x12.length ≤ 68719476736) <|
    bnd (w64 (y0_1 + 1)) fun x15 =>
    d_top_simple_L0 a1 a2 n (x15 : Int) (x9 : List (List Int)) (x12 : List (List Int))) (some ((y0_4 : List (List Int)), (y0_5 : List (List Int))))
def d_top_simple (n : Nat) (a1 : Int) (a2 : Int) : Option (GMaster) :=
(show Option ((List (List Int)) × (List (List Int))) from
d_top_simple_L0 a1 a2 n (0 : Int) (([] : List (List Int)) : List (List Int)) (([] : List (List Int)) : List (List Int))).bind <| p2 fun (y1_3 : List (List Int)) (y1_4 : List (List Int)) =>
some (((⟨a1, 4, ([1] : List Int), y1_3, y1_4⟩ : GMaster) : GMaster))
theorem d_top_simple_c {n : Nat} {a1 : Int} {a2 : Int} {r : GMaster} (h0 : d_top_simple n a1 a2 = some r) : PP Tryz.prog 5 [int a1, int a2] (fun y => y = .agg (GMaster.av r)) := by
  unfold d_top_simple at h0
  refine pp_of_pc (R0 := fun y H => Cv (frzH H) y (.agg (GMaster.av r))) ?_ (fun y H hc => ⟨_, rfl, (fun (a : GMaster) => PV.agg (GMaster.pvc a)) r, hc⟩)
  refine pcw (c := _) Tryz.func5 rfl rfl ?_; intro Q hret hnorm
  refine tc tbk 2 (.mk ?_)
  refine sA 1 z25 fun v3 => ?_
  refine tr tbk 4 (.mk ?_)
  refine sY (yv_to (y := lst 1 fI ([1] : List Int)) (yv_buildSlice (ps := [(0, _)]) (rows := [[int 1]]) rfl Tryz.underlying22 bz3 (.cons rfl .nil) (by kernel_rfl) rfl rfl rfl) rfl) ?_
  refine tr tbk 1 (.mk ?_)
  refine sA 2 z25 fun v4 => ?_
  refine sS ⟨25, 5, true, true, v4, [[int a1, int 4, lst 1 fI ([1] : List Int), .sc (.slice none 0 0), .sc (.slice none 0 0)]]⟩ sh25 ?_
  refine tr tbk 6 (.mk ?_)
  refine jn h0 [4, 5] [1] (fun (a : (List (List Int)) × (List (List Int))) (k : Nat × Nat) => []) (fun a k => [(2, ⟨25, 5, true, true, v4, [[int a1, int 4, lst 1 fI ([1] : List Int), .sl 5 k.1 0 a.1.length, .sl 6 k.2 0 a.2.length]]⟩), (5, ⟨22, 1, true, true, k.1, a.1.map (fL 1 fI)⟩), (6, ⟨22, 1, true, true, k.2, a.2.map (fL 1 fI)⟩)]) ⟨fun j5 h1 => ?_, ?_⟩
  refine tc tbk 1 (.mk ?_)
  refine c_nilcell 2 0 3 5 22 1 (rows := fun v6 => [[int a1, int 4, lst 1 fI ([1] : List Int), .sl 5 v6 0 0, .sc (.slice none 0 0)]]) rfl rfl rfl rfl (fun _ => rfl) ?_; intro v6
  refine c_nilcell 2 0 4 6 22 1 (rows := fun v7 => [[int a1, int 4, lst 1 fI ([1] : List Int), .sl 5 v6 0 0, .sl 6 v7 0 0]]) rfl rfl rfl rfl (fun _ => rfl) ?_; intro v7
  refine lp (fun n (a : Int × (List (List Int)) × (List (List Int))) => d_top_simple_L0 a1 a2 n a.1 a.2.1 a.2.2) ((0 : Int), (([] : List (List Int)) : List (List Int)), (([] : List (List Int)) : List (List Int))) (v6, v7) h1 [0, 1, 4, 5] [1] (fun (a : Int × (List (List Int)) × (List (List Int))) (k : Nat × Nat) => [(6, int a.1)]) (fun a k => [(2, ⟨25, 5, true, true, v4, [[int a1, int 4, lst 1 fI ([1] : List Int), .sl 5 k.1 0 a.2.1.length, .sl 6 k.2 0 a.2.2.length]]⟩), (5, ⟨22, 1, true, true, k.1, a.2.1.map (fL 1 fI)⟩), (6, ⟨22, 1, true, true, k.2, a.2.2.map (fL 1 fI)⟩)]) (fun _ => rfl) ⟨leA, ?_⟩
  rintro n ⟨y0_1, y0_4, y0_5⟩ ⟨w0_2, w0_3⟩ hm h1
  replace h1 : d_top_simple_L0 a1 a2 (n + 1) y0_1 y0_4 y0_5 = some _ := h1
  rw [d_top_simple_L0] at h1
  refine tc tbk 5 (.mk ?_)
  refine nb tbk h1 fun x8 h1 => ?_
  refine tr tbk 1 (.mk ?_)
  cases x8
  replace h1 := cf h1
  refine tc tbk 2 (.mk ?_)
  exact lf h1 (w0_2, w0_3) leA
  replace h1 := ct h1
  refine tc tbk 4 (.mk ?_)
  refine c_drawE [0, 1, 0, 4, 12, 31, 0, 64, 0, 256, 1023, 255, 4095, 8191, 16383] (rl [(0, [2]), (1, [2]), (6, [2]), (7, [2]), (11, [2]), (13, [2])] []) (rl [(12, []), (14, [])] [2]) (rl [(5, false), (10, false), (12, false), (14, false)] true) [0, 1, 2, 3, 4, 6, 7, 8, 9, 5, 11, 10, 12, 13, 14] mixed (by kernel_rfl) ?_; intro K hK
  refine eF fo25_3 ?_
  refine eL sh23 ?_
  refine eM ?_
  refine eP (fun H hH => yv_to (y := lst 1 fI ([a2] : List Int)) (yv_buildSlice (ps := [(0, _)]) (rows := [[int a2]]) rfl Tryz.underlying22 bz3 (.cons rfl .nil) (by kernel_rfl) rfl rfl rfl) rfl) ?_
  refine eP (fun H hH => yv_to (y := lst 1 (fL 1 fI) ([([a2] : List Int)] : List (List Int))) (yv_buildSlice (ps := [(0, _)]) (rows := [[lst 1 fI ([a2] : List Int)]]) rfl Tryz.underlying23 bz22 (.cons rfl .nil) (by kernel_rfl) rfl rfl rfl) rfl) ?_
  refine eF fo25_4 ?_
  refine eL sh23 ?_
  refine eP (fun H hH => yv_to (y := lst 1 fI ([10] : List Int)) (yv_buildSlice (ps := [(0, _)]) (rows := [[int 10]]) rfl Tryz.underlying22 bz3 (.cons rfl .nil) (by kernel_rfl) rfl rfl rfl) rfl) ?_
  refine eP (fun H hH => yv_to (y := lst 1 (fL 1 fI) ([([10] : List Int)] : List (List Int))) (yv_buildSlice (ps := [(0, _)]) (rows := [[lst 1 fI ([10] : List Int)]]) rfl Tryz.underlying23 bz22 (.cons rfl .nil) (by kernel_rfl) rfl rfl rfl) rfl) ?_
  obtain ⟨x9, e9, h1⟩ := bnd_e h1
  obtain ⟨p10, h1⟩ := asrt_e h1
  refine de_eff rfl rfl rfl rfl (yl_appT (g := (fL 1 fI)) (l := y0_4) (m := ([([a2] : List Int)] : List (List Int))) .any rfl Tryz.underlying23 bz22 by22 rfl rfl rfl rfl rfl rfl rfl rfl rfl rfl (Eq.symm rfl) (.refl _) (fun _ => rfl) e9 p10) (by rintro _ _ ⟨v11, -, rfl, rfl⟩; exact ⟨rfl, trivial⟩) ?_; rintro _ _ ⟨v11, -, rfl, rfl⟩
  refine eF fo25_3 ?_
  obtain ⟨x12, e12, h1⟩ := bnd_e h1
  obtain ⟨p13, h1⟩ := asrt_e h1
  refine de_eff rfl rfl rfl rfl (yl_appT (g := (fL 1 fI)) (l := y0_5) (m := ([([10] : List Int)] : List (List Int))) .any rfl Tryz.underlying23 bz22 by22 rfl rfl rfl rfl rfl rfl rfl rfl rfl rfl (Eq.symm rfl) (.refl _) (fun _ => rfl) e12 p13) (by rintro _ _ ⟨v14, -, rfl, rfl⟩; exact ⟨rfl, trivial⟩) ?_; rintro _ _ ⟨v14, -, rfl, rfl⟩
  refine de_eff0 rfl rfl rfl rfl (Yield.weak (yl_ob (ob' := (⟨25, 5, true, true, v4, [[int a1, int 4, lst 1 fI ([1] : List Int), .sl 5 v11 0 x9.length, .sl 6 w0_3 0 y0_5.length]]⟩ : AObj)) (yl_store rfl sh23 rfl rfl rfl rfl rfl rfl rfl rfl rfl) rfl) (fun _ h => h) (fun _ _ => trivial)) (by rintro _ _ ⟨rfl, rfl⟩; exact trivial) ?_; rintro _ _ ⟨rfl, rfl⟩
  refine eF fo25_4 ?_
  refine de_eff0 rfl rfl rfl rfl (Yield.weak (yl_ob (ob' := (⟨25, 5, true, true, v4, [[int a1, int 4, lst 1 fI ([1] : List Int), .sl 5 v11 0 x9.length, .sl 6 v14 0 x12.length]]⟩ : AObj)) (yl_store rfl sh23 rfl rfl rfl rfl rfl rfl rfl rfl rfl) rfl) (fun _ h => h) (fun _ _ => trivial)) (by rintro _ _ ⟨rfl, rfl⟩; exact trivial) ?_; rintro _ _ ⟨rfl, rfl⟩
  refine de_nil (hK _ ?_)
  refine tc tbk 3 (.mk ?_)
  refine ni tbk h1 fun x15 h1 => ?_
  refine tr tbk 2 (.mk ?_)
  exact bk (x15, x9, x12) (v11, v14) h1 leA
  rintro ⟨y1_3, y1_4⟩ ⟨w1_1, w1_2⟩ h0
  replace h0 := p2_e h0
  refine tc tbk 3 (.mk ?_)
  refine sS ⟨25, 5, true, true, v3, [[int a1, int 4, lst 1 fI ([1] : List Int), .sl 5 w1_1 0 y1_3.length, .sl 6 w1_2 0 y1_4.length]]⟩ sh25 ?_
  refine tr tbk 1 (.mk ?_)
  obtain rfl := nxt_e h0
  refine wR hret (rC sh25 .nil) ?_
  exact (CvL.agg (.cons (.refl _) (.cons (.refl _) (.cons (.refl _) (.cons (cv_lst rfl rfl rfl rfl rfl (Eq.symm rfl)) (.cons (cv_lst rfl rfl rfl rfl rfl (Eq.symm rfl)) .nil))))))
def d_ref04_all_L0 (a1 : List Int) (a2 : Int) (a3 : Int) (a4 : Int) : Nat → Int → Option (Unit)
  | 0, _ => none
  | n + 1, y0_1 =>
    bnd (decide (y0_1 < a2)) fun x7 =>
    cond x7 ((show Option (Bool) from
    (ix a1 y0_1).bind fun x9 =>
    bnd (decide (x9 < a3)) fun x10 =>
    cond x10 (some (true : Bool)) ((ix a1 y0_1).bind fun x11 =>
    bnd (decide (x11 > a4)) fun x12 =>
    some (x12 : Bool))).bind <| fun y1_1 =>
    asrt (y1_1 = false) <|
    bnd (w64 (y0_1 + 1)) fun x13 =>
    d_ref04_all_L0 a1 a2 a3 a4 n (x13 : Int)) (some ())
def d_ref04_all (n : Nat) (a1 : List Int) (a2 : Int) (a3 : Int) (a4 : Int) : Option (Bool) :=
bnd (decide ((a1.length : Int) ≠ a2)) fun x5 =>
asrt (x5 = false) <|
(show Option (Unit) from
d_ref04_all_L0 a1 a2 a3 a4 n (0 : Int)).bind <| fun _ =>
some ((true : Bool))
theorem d_ref04_all_c {n : Nat} {a1 : List Int} {a2 : Int} {a3 : Int} {a4 : Int} {r : Bool} (h0 : d_ref04_all n a1 a2 a3 a4 = some r) : PP Tryz.prog 45 [lst 1 fI a1, int a2, int a3, int a4] (fun y => y = boo r) := by
  unfold d_ref04_all at h0
  refine pp_of_pc (R0 := fun y H => Cv (frzH H) y (boo r)) ?_ (fun y H hc => ⟨_, rfl, pvB r, hc⟩)
  refine pcw (c := _) Tryz.func45 rfl rfl ?_; intro Q hret hnorm
  refine tc tbk 8 (.mk ?_)
  refine sY (yv_len_sl rfl Tryz.underlying22 rfl (lst_len _)) ?_
  refine tr tbk 1 (.mk ?_)
  refine nb tbk h0 fun x5 h0 => ?_
  refine tr tbk 1 (.mk ?_)
  replace h0 := asrt_e h0
  obtain ⟨rfl, h0⟩ := h0
  refine tc tbk 7 (.mk ?_)
  refine jn h0 [8] [] (fun (a : Unit) (k : Unit) => []) (fun a k => []) ⟨fun j6 h1 => ?_, ?_⟩
  refine tc tbk 1 (.mk ?_)
  refine lp (fun n (a : Int) => d_ref04_all_L0 a1 a2 a3 a4 n a) (0 : Int) () h1 [0, 1, 2, 3, 8] [] (fun (a : Int) (k : Unit) => [(9, int a)]) (fun a k => []) (fun _ => rfl) ⟨leA, ?_⟩
  rintro n y0_1 _ hm h1
  replace h1 : d_ref04_all_L0 a1 a2 a3 a4 (n + 1) y0_1 = some _ := h1
  rw [d_ref04_all_L0] at h1
  refine tc tbk 5 (.mk ?_)
  refine nb tbk h1 fun x7 h1 => ?_
  refine tr tbk 1 (.mk ?_)
  cases x7
  replace h1 := cf h1
  refine tc tbk 2 (.mk ?_)
  exact lf h1 () leA
  replace h1 := ct h1
  refine tc tbk 5 (.mk ?_)
  refine jn h1 [0, 1, 2, 3, 8, 9] [] (fun (a : Bool) (k : Unit) => [(32, boo a)]) (fun a k => []) ⟨fun j8 h2 => ?_, ?_⟩
  refine tc tbk 3 (.mk ?_)
  obtain ⟨x9, e9, h2⟩ := bind_e h2
  refine sY (yv_ixT rfl Tryz.underlying22 sh3 rfl rfl e9) ?_
  refine tr tbk 2 (.mk ?_)
  refine nb tbk h2 fun x10 h2 => ?_
  refine tr tbk 1 (.mk ?_)
  cases x10
  replace h2 := cf h2
  refine tr tbk 2 (.mk ?_)
  obtain ⟨x11, e11, h2⟩ := bind_e h2
  refine sY (yv_ixT rfl Tryz.underlying22 sh3 rfl rfl e11) ?_
  refine tr tbk 2 (.mk ?_)
  refine nb tbk h2 fun x12 h2 => ?_
  refine tr tbk 2 (.mk ?_)
  exact lf h2 () leA
  replace h2 := ct h2
  refine tr tbk 8 (.mk ?_)
  exact lf h2 () leA
  rintro y1_1 _ h1
  replace h1 := asrt_e h1
  obtain ⟨rfl, h1⟩ := h1
  refine tc tbk 5 (.mk ?_)
  refine ni tbk h1 fun x13 h1 => ?_
  refine tr tbk 2 (.mk ?_)
  exact bk x13 () h1 leA
  rintro _ _ h0
  refine tc tbk 4 (.mk ?_)
  obtain rfl := nxt_e h0
  refine wR hret (rT .nil) ?_
  exact .refl _
def d_ref04_Check_L0 (a1 : GMaster) : Nat → Int → Option (Unit)
  | 0, _ => none
  | n + 1, y1_1 =>
    bnd (decide (y1_1 < a1.Entities)) fun x15 =>
    cond x15 ((show Option (Bool) from
    (ix a1.Methods y1_1).bind fun x17 =>
    (d_ref04_all n x17 (a1.Weights.length : Int) 1 4).bind fun x18 =>
    bnd (!x18) fun x19 =>
    cond x19 (some (true : Bool)) ((ix a1.Costs y1_1).bind fun x20 =>
    (d_ref04_all n x20 (a1.Weights.length : Int) 0 1073741824).bind fun x21 =>
    bnd (!x21) fun x22 =>
    some (x22 : Bool))).bind <| fun y2_1 =>
    asrt (y2_1 = false) <|
    bnd (w64 (y1_1 + 1)) fun x23 =>
    d_ref04_Check_L0 a1 n (x23 : Int)) (some ())
def d_ref04_Check (n : Nat) (a1 : GMaster) : Option (Bool) :=
(show Option (Bool) from
bnd (decide (a1.Entities < 1)) fun x4 =>
cond x4 (some (true : Bool)) (bnd (decide (a1.Entities > 4)) fun x5 =>
cond x5 (some (true : Bool)) (bnd (decide (a1.Periods < 1)) fun x6 =>
cond x6 (some (true : Bool)) (bnd (decide (a1.Periods > 12)) fun x7 =>
cond x7 (some (true : Bool)) (bnd (decide ((a1.Weights.length : Int) < 1)) fun x8 =>
cond x8 (some (true : Bool)) (bnd (decide ((a1.Weights.length : Int) > 5)) fun x9 =>
cond x9 (some (true : Bool)) ((d_ref04_all n a1.Weights (a1.Weights.length : Int) 0 1073741824).bind fun x10 =>
bnd (!x10) fun x11 =>
cond x11 (some (true : Bool)) (bnd (decide ((a1.Methods.length : Int) ≠ a1.Entities)) fun x12 =>
cond x12 (some (true : Bool)) (bnd (decide ((a1.Costs.length : Int) ≠ a1.Entities)) fun x13 =>
some (x13 : Bool)))))))))).bind <| fun y0_1 =>
asrt (y0_1 = false) <|
(show Option (Unit) from
d_ref04_Check_L0 a1 n (0 : Int)).bind <| fun _ =>
some ((true : Bool))
theorem d_ref04_Check_c {n : Nat} {a1 : GMaster} {r : Bool} (h0 : d_ref04_Check n a1 = some r) : PP Tryz.prog 19 [.agg (GMaster.av a1)] (fun y => y = boo r) := by
  unfold d_ref04_Check at h0
  refine pp_of_pc (R0 := fun y H => Cv (frzH H) y (boo r)) ?_ (fun y H hc => ⟨_, rfl, pvB r, hc⟩)
  refine pcw (c := _) Tryz.func19 rfl rfl ?_; intro Q hret hnorm
  refine tc tbk 2 (.mk ?_)
  refine sB 1 fun v2 => ?_
  refine tr tbk 6 (.mk ?_)
  refine sY (yv_len_sl rfl Tryz.underlying22 rfl (lst_len _)) ?_
  refine tr tbk 4 (.mk ?_)
  refine jn h0 [1, 2, 3] [1] (fun (a : Bool) (k : Unit) => [(56, boo a)]) (fun a k => []) ⟨fun j3 h1 => ?_, ?_⟩
  refine tc tbk 3 (.mk ?_)
  refine nb tbk h1 fun x4 h1 => ?_
  refine tr tbk 1 (.mk ?_)
  cases x4
  replace h1 := cf h1
  refine tr tbk 2 (.mk ?_)
  refine nb tbk h1 fun x5 h1 => ?_
  refine tr tbk 2 (.mk ?_)
  cases x5
  replace h1 := cf h1
  refine tr tbk 2 (.mk ?_)
  refine nb tbk h1 fun x6 h1 => ?_
  refine tr tbk 2 (.mk ?_)
  cases x6
  replace h1 := cf h1
  refine tr tbk 2 (.mk ?_)
  refine nb tbk h1 fun x7 h1 => ?_
  refine tr tbk 2 (.mk ?_)
  cases x7
  replace h1 := cf h1
  refine tr tbk 1 (.mk ?_)
  refine nb tbk h1 fun x8 h1 => ?_
  refine tr tbk 2 (.mk ?_)
  cases x8
  replace h1 := cf h1
  refine tr tbk 1 (.mk ?_)
  refine nb tbk h1 fun x9 h1 => ?_
  refine tr tbk 2 (.mk ?_)
  cases x9
  replace h1 := cf h1
  refine tr tbk 3 (.mk ?_)
  obtain ⟨x10, e10, h1⟩ := bind_e h1
  refine sC cal45 (d_ref04_all_c e10) ?_
  refine nb tbk h1 fun x11 h1 => ?_
  refine tr tbk 2 (.mk ?_)
  cases x11
  replace h1 := cf h1
  refine tr tbk 2 (.mk ?_)
  refine sY (yv_len_sl rfl Tryz.underlying23 rfl (lst_len _)) ?_
  refine tr tbk 2 (.mk ?_)
  refine nb tbk h1 fun x12 h1 => ?_
  refine tr tbk 2 (.mk ?_)
  cases x12
  replace h1 := cf h1
  refine tr tbk 2 (.mk ?_)
  refine sY (yv_len_sl rfl Tryz.underlying23 rfl (lst_len _)) ?_
  refine tr tbk 2 (.mk ?_)
  refine nb tbk h1 fun x13 h1 => ?_
  refine tr tbk 2 (.mk ?_)
  exact lf h1 () leA
  replace h1 := ct h1
  refine tr tbk 8 (.mk ?_)
  exact lf h1 () leA
  replace h1 := ct h1
  refine tr tbk 16 (.mk ?_)
  exact lf h1 () leA
  replace h1 := ct h1
  refine tr tbk 23 (.mk ?_)
  exact lf h1 () leA
  replace h1 := ct h1
  refine tr tbk 27 (.mk ?_)
  exact lf h1 () leA
  replace h1 := ct h1
  refine tr tbk 31 (.mk ?_)
  exact lf h1 () leA
  replace h1 := ct h1
  refine tr tbk 36 (.mk ?_)
  exact lf h1 () leA
  replace h1 := ct h1
  refine tr tbk 41 (.mk ?_)
  exact lf h1 () leA
  replace h1 := ct h1
  refine tr tbk 46 (.mk ?_)
  exact lf h1 () leA
  rintro y0_1 _ h0
  replace h0 := asrt_e h0
  obtain ⟨rfl, h0⟩ := h0
  refine tc tbk 7 (.mk ?_)
  refine jn h0 [2] [] (fun (a : Unit) (k : Unit) => []) (fun a k => []) ⟨fun j14 h1 => ?_, ?_⟩
  refine tc tbk 1 (.mk ?_)
  refine lp (fun n (a : Int) => d_ref04_Check_L0 a1 n a) (0 : Int) () h1 [1, 2, 3] [1] (fun (a : Int) (k : Unit) => [(4, int a)]) (fun a k => []) (fun _ => rfl) ⟨leA, ?_⟩
  rintro n y1_1 _ hm h1
  replace h1 : d_ref04_Check_L0 a1 (n + 1) y1_1 = some _ := h1
  rw [d_ref04_Check_L0] at h1
  refine tc tbk 6 (.mk ?_)
  refine nb tbk h1 fun x15 h1 => ?_
  refine tr tbk 1 (.mk ?_)
  cases x15
  replace h1 := cf h1
  refine tc tbk 2 (.mk ?_)
  exact lf h1 () leA
  replace h1 := ct h1
  refine tc tbk 5 (.mk ?_)
  refine jn h1 [1, 2, 3, 4] [1] (fun (a : Bool) (k : Unit) => [(80, boo a)]) (fun a k => []) ⟨fun j16 h2 => ?_, ?_⟩
  refine tc tbk 4 (.mk ?_)
  obtain ⟨x17, e17, h2⟩ := bind_e h2
  refine sY (yv_ixT rfl Tryz.underlying23 sh22 rfl rfl e17) ?_
  refine tr tbk 2 (.mk ?_)
  obtain ⟨x18, e18, h2⟩ := bind_e h2
  refine sC cal45 (d_ref04_all_c e18) ?_
  refine nb tbk h2 fun x19 h2 => ?_
  refine tr tbk 1 (.mk ?_)
  cases x19
  replace h2 := cf h2
  refine tr tbk 3 (.mk ?_)
  obtain ⟨x20, e20, h2⟩ := bind_e h2
  refine sY (yv_ixT rfl Tryz.underlying23 sh22 rfl rfl e20) ?_
  refine tr tbk 2 (.mk ?_)
  obtain ⟨x21, e21, h2⟩ := bind_e h2
  refine sC cal45 (d_ref04_all_c e21) ?_
  refine nb tbk h2 fun x22 h2 => ?_
  refine tr tbk 2 (.mk ?_)
  exact lf h2 () leA
  replace h2 := ct h2
  refine tr tbk 10 (.mk ?_)
  exact lf h2 () leA
  rintro y2_1 _ h1
  replace h1 := asrt_e h1
  obtain ⟨rfl, h1⟩ := h1
  refine tc tbk 5 (.mk ?_)
  refine ni tbk h1 fun x23 h1 => ?_
  refine tr tbk 2 (.mk ?_)
  exact bk x23 () h1 leA
  rintro _ _ h0
  refine tc tbk 4 (.mk ?_)
  obtain rfl := nxt_e h0
  refine wR hret (rT .nil) ?_
  exact .refl _
def d_ref04_Start_L1 (a1 : GMaster) : Nat → Int → (List Int) → Option ((List Int))
  | 0, _, _ => none
  | n + 1, y1_1, y1_2 =>
    bnd (decide (y1_1 < (a1.Weights.length : Int))) fun x29 =>
    cond x29 ((ix y1_2 y1_1).bind fun x30 =>
    bnd (y1_2.set (Int.toNat y1_1) ((-1) : Int)) fun x31 =>
    bnd (w64 (y1_1 + 1)) fun x32 =>
    d_ref04_Start_L1 a1 n (x32 : Int) (x31 : List Int)) (some (y1_2 : List Int))
def d_ref04_Start_L0 (a1 : GMaster) : Nat → Int → (List GEnt) → Option ((List GEnt))
  | 0, _, _ => none
  | n + 1, y0_1, y0_3 =>
    bnd (decide (y0_1 < a1.Entities)) fun x9 =>
    cond x9 ((show Option ((List GEnt)) from
    bnd (w64 ((a1.Weights.length : Int) * 2)) fun x11 =>
    asrt ((0 : Int) ≤ x11 ∧ (x11 : Int) ≤ 1048576) <|
    bnd (List.replicate (Int.toNat x11) ((⟨[], (⟨0, 0, 0⟩ : A3_Int)⟩ : GPool) : GPool)) fun x13 =>
    asrt ((0 : Int) ≤ 17 ∧ (17 : Int) ≤ 1048576) <|
    bnd (List.replicate (Int.toNat 17) (0 : Int)) fun x16 =>
    asrt ((0 : Int) ≤ (a1.Weights.length : Int) ∧ ((a1.Weights.length : Int) : Int) ≤ 1048576) <|
    bnd (List.replicate (Int.toNat (a1.Weights.length : Int)) ((⟨0, 0, 0, 0, 0, 0, 0, 0, 0, 0, 0⟩ : GRoll) : GRoll)) fun x19 =>
    asrt ((0 : Int) ≤ (a1.Weights.length : Int) ∧ ((a1.Weights.length : Int) : Int) ≤ 1048576) <|
    bnd (List.replicate (Int.toNat (a1.Weights.length : Int)) (0 : Int)) fun x22 =>
    asrt ((0 : Int) ≤ (a1.Weights.length : Int) ∧ ((a1.Weights.length : Int) : Int) ≤ 1048576) <|
    bnd (List.replicate (Int.toNat (a1.Weights.length : Int)) (0 : Int)) fun x25 =>
    (show Option ((List Int)) from
    d_ref04_Start_L1 a1 n (0 : Int) (x22 : List Int)).bind <| fun y2_1 =>
    bnd (y0_3 ++ [(⟨1, false, x13, x16, x19, y2_1, x25, []⟩ : GEnt)]) fun x33 =>
    asrt (x33.length ≤ 68719476736) <|
    some (x33 : List GEnt)).bind <| fun y3_2 =>
    bnd (w64 (y0_1 + 1)) fun x36 =>
    d_ref04_Start_L0 a1 n (x36 : Int) (y3_2 : List GEnt)) (some (y0_3 : List GEnt))
def d_ref04_Start (n : Nat) (a1 : GMaster) : Option (GState × Int) :=
(d_ref04_Check n a1).bind fun x4 =>
bnd (!x4) fun x5 =>
asrt (x5 = false) <|
(show Option ((List GEnt)) from
d_ref04_Start_L0 a1 n (0 : Int) (([] : List GEnt) : List GEnt)).bind <| fun y4_2 =>
some (((⟨a1, y4_2, [], [], [], 0⟩ : GState) : GState), (0 : Int))
theorem d_ref04_Start_c {n : Nat} {a1 : GMaster} {r : GState × Int} (h0 : d_ref04_Start n a1 = some r) : PP Tryz.prog 10 [.agg (GMaster.av a1)] (fun y => y = .tup [.agg (GState.av r.1), int r.2]) := by
  unfold d_ref04_Start at h0
  refine pp_of_pc (R0 := fun y H => Cv (frzH H) y (.tup [.agg (GState.av r.1), int r.2])) ?_ (fun y H hc => ⟨_, rfl, .tup (pvl2 ((fun (a : GState) => PV.agg (GState.pvc a)) (r.1)) (pvI (r.2))), hc⟩)
  refine pcw (c := _) Tryz.func10 rfl rfl ?_; intro Q hret hnorm
  refine tc tbk 2 (.mk ?_)
  refine sB 1 fun v2 => ?_
  refine sA 2 z31 fun v3 => ?_
  refine tr tbk 6 (.mk ?_)
  obtain ⟨x4, e4, h0⟩ := bind_e h0
  refine sC cal19 (d_ref04_Check_c e4) ?_
  refine nb tbk h0 fun x5 h0 => ?_
  refine tr tbk 1 (.mk ?_)
  replace h0 := asrt_e h0
  obtain ⟨rfl, h0⟩ := h0
  refine tc tbk 5 (.mk ?_)
  refine sY (yv_build (cs := [int a1.Entities, int a1.Periods, lst 1 fI a1.Weights, lst 1 (fL 1 fI) a1.Methods, lst 1 (fL 1 fI) a1.Costs, .sc (.slice none 0 0), .sc (.slice none 0 0), .sc (.slice none 0 0), .sc (.slice none 0 0), int 0]) (ps := [(0, _)]) rfl pl31 z31 rfl (.cons rfl .nil) (by kernel_rfl)) ?_
  refine sA 3 z31 fun v6 => ?_
  refine sS ⟨31, 10, true, true, v6, [[int a1.Entities, int a1.Periods, lst 1 fI a1.Weights, lst 1 (fL 1 fI) a1.Methods, lst 1 (fL 1 fI) a1.Costs, .sc (.slice none 0 0), .sc (.slice none 0 0), .sc (.slice none 0 0), .sc (.slice none 0 0), int 0]]⟩ sh31 ?_
  refine tr tbk 5 (.mk ?_)
  refine sY (yv_len_sl rfl Tryz.underlying22 rfl (lst_len _)) ?_
  refine tr tbk 7 (.mk ?_)
  refine jn h0 [2, 3, 4] [2] (fun (a : (List GEnt)) (k : Nat) => []) (fun a k => [(3, ⟨31, 10, true, true, v6, [[int a1.Entities, int a1.Periods, lst 1 fI a1.Weights, lst 1 (fL 1 fI) a1.Methods, lst 1 (fL 1 fI) a1.Costs, .sl 11 k 0 a.length, .sc (.slice none 0 0), .sc (.slice none 0 0), .sc (.slice none 0 0), int 0]]⟩), (11, ⟨47, 8, true, true, k, a.map GEnt.av⟩)]) ⟨fun j7 h1 => ?_, ?_⟩
  refine tc tbk 1 (.mk ?_)
  refine c_nilcell 3 0 5 11 47 8 (rows := fun v8 => [[int a1.Entities, int a1.Periods, lst 1 fI a1.Weights, lst 1 (fL 1 fI) a1.Methods, lst 1 (fL 1 fI) a1.Costs, .sl 11 v8 0 0, .sc (.slice none 0 0), .sc (.slice none 0 0), .sc (.slice none 0 0), int 0]]) rfl rfl rfl rfl (fun _ => rfl) ?_; intro v8
  refine lp (fun n (a : Int × (List GEnt)) => d_ref04_Start_L0 a1 n a.1 a.2) ((0 : Int), (([] : List GEnt) : List GEnt)) v8 h1 [1, 2, 3, 4, 5] [1, 2] (fun (a : Int × (List GEnt)) (k : Nat) => [(6, int a.1)]) (fun a k => [(3, ⟨31, 10, true, true, v6, [[int a1.Entities, int a1.Periods, lst 1 fI a1.Weights, lst 1 (fL 1 fI) a1.Methods, lst 1 (fL 1 fI) a1.Costs, .sl 11 k 0 a.2.length, .sc (.slice none 0 0), .sc (.slice none 0 0), .sc (.slice none 0 0), int 0]]⟩), (11, ⟨47, 8, true, true, k, a.2.map GEnt.av⟩)]) (fun _ => rfl) ⟨leA, ?_⟩
  rintro n ⟨y0_1, y0_3⟩ w0_2 hm h1
  replace h1 : d_ref04_Start_L0 a1 (n + 1) y0_1 y0_3 = some _ := h1
  rw [d_ref04_Start_L0] at h1
  refine tc tbk 6 (.mk ?_)
  refine nb tbk h1 fun x9 h1 => ?_
  refine tr tbk 1 (.mk ?_)
  cases x9
  replace h1 := cf h1
  refine tc tbk 2 (.mk ?_)
  exact lf h1 w0_2 leA
  replace h1 := ct h1
  refine tc tbk 3 (.mk ?_)
  refine jn h1 [1, 2, 3, 4, 5, 6] [1, 2] (fun (a : (List GEnt)) (k : Nat) => []) (fun a k => [(3, ⟨31, 10, true, true, v6, [[int a1.Entities, int a1.Periods, lst 1 fI a1.Weights, lst 1 (fL 1 fI) a1.Methods, lst 1 (fL 1 fI) a1.Costs, .sl 11 k 0 a.length, .sc (.slice none 0 0), .sc (.slice none 0 0), .sc (.slice none 0 0), int 0]]⟩), (11, ⟨47, 8, true, true, k, a.map GEnt.av⟩)]) ⟨fun j10 h2 => ?_, ?_⟩
  refine tc tbk 2 (.mk ?_)
  refine c_draw [0, 1, 3, 0, 0, 16, 0, 64, 0, 256, 1023, 0, 4095] (fun i k => bif Nat.beq i 12 then (Nat.beq k 4 || Nat.beq k 5 || Nat.beq k 6 || Nat.beq k 7 || Nat.beq k 8 || Nat.beq k 9) else false) (fun i => bif Nat.beq i 2 then (some 4) else bif Nat.beq i 3 then (some 5) else bif Nat.beq i 5 then (some 6) else bif Nat.beq i 7 then (some 7) else bif Nat.beq i 9 then (some 8) else bif Nat.beq i 11 then (some 9) else bif Nat.beq i 12 then (some 9) else none) mixed (by kernel_rfl) ?_; intro C K hK
  refine dg_pure rfl (fun H hH => yv_move rfl rfl) ?_
  obtain ⟨x11, e11, h2⟩ := bnd_e h2
  refine dg_pure rfl (fun H hH => yv_mul rfl rfl rfl e11) ?_
  obtain ⟨p12, h2⟩ := asrt_e h2
  obtain ⟨x13, e13, h2⟩ := bnd_e h2
  have lx13 : x13.length = (Int.toNat x11) := by rw [← e13]; exact List.length_replicate
  refine dg_eff rfl rfl (fun H hH => yl_one (yl_make 4 (g := GPool.av) (z0 := ((⟨[], (⟨0, 0, 0⟩ : A3_Int)⟩ : GPool) : GPool)) (.one _) rfl Tryz.underlying44 bz74 by74 rfl rfl rfl p12 (.cons (.nil _) (.cons (.sc _) (.cons (.sc _) (.cons (.sc _) .nil)))) e13)) ?_; generalize C + 2 = v14
  obtain ⟨p15, h2⟩ := asrt_e h2
  obtain ⟨x16, e16, h2⟩ := bnd_e h2
  have lx16 : x16.length = (Int.toNat 17) := by rw [← e16]; exact List.length_replicate
  refine dg_eff rfl rfl (fun H hH => yl_one (yl_make 5 (g := fI) (z0 := (0 : Int)) (.one _) rfl Tryz.underlying22 bz3 by3 rfl rfl rfl p15 (.cons (.sc _) .nil) e16)) ?_; generalize C + 3 = v17
  refine dg_pure rfl (fun H hH => yv_move rfl rfl) ?_
  obtain ⟨p18, h2⟩ := asrt_e h2
  obtain ⟨x19, e19, h2⟩ := bnd_e h2
  have lx19 : x19.length = (Int.toNat (a1.Weights.length : Int)) := by rw [← e19]; exact List.length_replicate
  refine dg_eff rfl rfl (fun H hH => yl_one (yl_make 6 (g := GRoll.av) (z0 := ((⟨0, 0, 0, 0, 0, 0, 0, 0, 0, 0, 0⟩ : GRoll) : GRoll)) (.one _) rfl Tryz.underlying45 bz83 by83 rfl rfl rfl p18 (.cons (.sc _) (.cons (.sc _) (.cons (.sc _) (.cons (.sc _) (.cons (.sc _) (.cons (.sc _) (.cons (.sc _) (.cons (.sc _) (.cons (.sc _) (.cons (.sc _) (.cons (.sc _) .nil))))))))))) e19)) ?_; generalize C + 5 = v20
  refine dg_pure rfl (fun H hH => yv_move rfl rfl) ?_
  obtain ⟨p21, h2⟩ := asrt_e h2
  obtain ⟨x22, e22, h2⟩ := bnd_e h2
  have lx22 : x22.length = (Int.toNat (a1.Weights.length : Int)) := by rw [← e22]; exact List.length_replicate
  refine dg_eff rfl rfl (fun H hH => yl_one (yl_make 7 (g := fI) (z0 := (0 : Int)) (.one _) rfl Tryz.underlying22 bz3 by3 rfl rfl rfl p21 (.cons (.sc _) .nil) e22)) ?_; generalize C + 7 = v23
  refine dg_pure rfl (fun H hH => yv_move rfl rfl) ?_
  obtain ⟨p24, h2⟩ := asrt_e h2
  obtain ⟨x25, e25, h2⟩ := bnd_e h2
  have lx25 : x25.length = (Int.toNat (a1.Weights.length : Int)) := by rw [← e25]; exact List.length_replicate
  refine dg_eff rfl rfl (fun H hH => yl_one (yl_make 8 (g := fI) (z0 := (0 : Int)) (.one _) rfl Tryz.underlying22 bz3 by3 rfl rfl rfl p24 (.cons (.sc _) .nil) e25)) ?_; generalize C + 9 = v26
  refine dg_pure rfl (fun H hH => yv_build (cs := [int 1, boo false, .sl 4 v14 0 (Int.toNat x11), .sl 5 v17 0 (Int.toNat 17), .sl 6 v20 0 (Int.toNat (a1.Weights.length : Int)), .sl 7 v23 0 (Int.toNat (a1.Weights.length : Int)), .sl 8 v26 0 (Int.toNat (a1.Weights.length : Int)), .sc (.slice none 0 0)]) (ps := [(0, _), (2, _), (3, _), (4, _), (5, _), (6, _)]) rfl pl47 z47 rfl (.cons rfl (.cons rfl (.cons rfl (.cons rfl (.cons rfl (.cons rfl .nil)))))) (by kernel_rfl)) ?_
  refine dg_eff rfl rfl (fun H hH => yl_alloc1 9 rfl z47 rfl) ?_; generalize C + 11 = v27
  refine dg_store rfl rfl rfl (fun H hH => yl_ob (ob' := (⟨47, 8, true, true, v27, [[int 1, boo false, .sl 4 v14 0 (Int.toNat x11), .sl 5 v17 0 (Int.toNat 17), .sl 6 v20 0 (Int.toNat (a1.Weights.length : Int)), .sl 7 v23 0 (Int.toNat (a1.Weights.length : Int)), .sl 8 v26 0 (Int.toNat (a1.Weights.length : Int)), .sc (.slice none 0 0)]]⟩ : AObj)) (yl_store rfl sh47 rfl rfl ((hH _ rfl).trans rfl) rfl rfl rfl rfl rfl rfl) rfl) ?_
  refine dg_nil (hK _ ?_)
  refine tc tbk 5 (.mk ?_)
  refine jn h2 [1, 2, 3, 4, 5, 6, 7] [1, 2, 3, 4, 5, 6, 8, 11] (fun (a : (List Int)) (k : Unit) => []) (fun a k => [(7, ⟨3, 1, true, true, v23, a.map fI⟩), (9, ⟨47, 8, true, true, v27, [[int 1, boo false, .sl 4 v14 0 (Int.toNat x11), .sl 5 v17 0 (Int.toNat 17), .sl 6 v20 0 (Int.toNat (a1.Weights.length : Int)), .sl 7 v23 0 a.length, .sl 8 v26 0 (Int.toNat (a1.Weights.length : Int)), .sc (.slice none 0 0)]]⟩)]) ⟨fun j28 h3 => ?_, ?_⟩
  refine tc tbk 1 (.mk ?_)
  refine lp (fun n (a : Int × (List Int)) => d_ref04_Start_L1 a1 n a.1 a.2) ((0 : Int), (x22 : List Int)) () h3 [1, 2, 3, 4, 5, 6, 7] [1, 2, 3, 4, 5, 6, 8, 11] (fun (a : Int × (List Int)) (k : Unit) => [(8, int a.1)]) (fun a k => [(7, ⟨3, 1, true, true, v23, a.2.map fI⟩), (9, ⟨47, 8, true, true, v27, [[int 1, boo false, .sl 4 v14 0 (Int.toNat x11), .sl 5 v17 0 (Int.toNat 17), .sl 6 v20 0 (Int.toNat (a1.Weights.length : Int)), .sl 7 v23 0 a.2.length, .sl 8 v26 0 (Int.toNat (a1.Weights.length : Int)), .sc (.slice none 0 0)]]⟩)]) (fun _ => rfl) ⟨leH_kn ⟨⟨_, rfl, (.refl _)⟩, ⟨_, rfl, (.refl _)⟩, ⟨_, rfl, (.refl _)⟩, ⟨_, rfl, (.refl _)⟩, ⟨_, rfl, (.refl _)⟩, ⟨_, rfl, (.refl _)⟩, ⟨_, rfl, (.refl _)⟩, ⟨_, rfl, (.refl _)⟩, trivial⟩ ⟨⟨_, rfl, (.refl _)⟩, ⟨_, rfl, ⟨rfl, (.cons (.cons (.refl _) (.cons (.refl _) (.cons (.refl _) (.cons (.refl _) (.cons (.refl _) (.cons (cv_slen (Eq.symm lx22)) (.cons (.refl _) (.cons (.refl _) .nil)))))))) .nil)⟩⟩, ⟨_, rfl, (.refl _)⟩, ⟨_, rfl, (.refl _)⟩, ⟨_, rfl, (.refl _)⟩, ⟨_, rfl, (.refl _)⟩, ⟨_, rfl, (.refl _)⟩, ⟨_, rfl, (.refl _)⟩, ⟨_, rfl, (.refl _)⟩, ⟨_, rfl, (.refl _)⟩, trivial⟩, ?_⟩
  rintro n ⟨y1_1, y1_2⟩ _ hm h3
  replace h3 : d_ref04_Start_L1 a1 (n + 1) y1_1 y1_2 = some _ := h3
  rw [d_ref04_Start_L1] at h3
  refine tc tbk 5 (.mk ?_)
  refine nb tbk h3 fun x29 h3 => ?_
  refine tr tbk 1 (.mk ?_)
  cases x29
  replace h3 := cf h3
  refine tc tbk 2 (.mk ?_)
  exact lf h3 () leA
  replace h3 := ct h3
  refine tc tbk 8 (.mk ?_)
  obtain ⟨x30, e30, h3⟩ := bind_e h3
  refine sY (yv_ixO rfl Tryz.underlying22 sh3 rfl rfl rfl rfl rfl (Eq.symm rfl) (List.length_map _) e30) ?_
  obtain ⟨x31, e31, h3⟩ := bnd_e h3
  have fx31 := ix_set e30 e31; have lx31 := len_setV e31 (rfl : y1_2.length = y1_2.length)
  refine rsstore rfl rfl (yl_ob (ob' := (⟨3, 1, true, true, v23, x31.map fI⟩ : AObj)) (yl_store rfl sh3 rfl rfl rfl rfl rfl (ix_get e30) rfl rfl rfl) (ob_eq (map_setV e31))) ?_
  refine tr tbk 4 (.mk ?_)
  refine ni tbk h3 fun x32 h3 => ?_
  refine tr tbk 2 (.mk ?_)
  exact bk (x32, x31) () h3 (leH_kn ⟨⟨_, rfl, (.refl _)⟩, ⟨_, rfl, (.refl _)⟩, ⟨_, rfl, (.refl _)⟩, ⟨_, rfl, (.refl _)⟩, ⟨_, rfl, (.refl _)⟩, ⟨_, rfl, (.refl _)⟩, ⟨_, rfl, (.refl _)⟩, ⟨_, rfl, (.refl _)⟩, trivial⟩ ⟨⟨_, rfl, (.refl _)⟩, ⟨_, rfl, ⟨rfl, (.cons (.cons (.refl _) (.cons (.refl _) (.cons (.refl _) (.cons (.refl _) (.cons (.refl _) (.cons (cv_slen (Eq.symm lx31)) (.cons (.refl _) (.cons (.refl _) .nil)))))))) .nil)⟩⟩, ⟨_, rfl, (.refl _)⟩, ⟨_, rfl, (.refl _)⟩, ⟨_, rfl, (.refl _)⟩, ⟨_, rfl, (.refl _)⟩, ⟨_, rfl, (.refl _)⟩, ⟨_, rfl, (.refl _)⟩, ⟨_, rfl, (.refl _)⟩, ⟨_, rfl, (.refl _)⟩, trivial⟩)
  rintro y2_1 _ h2
  refine tc tbk 4 (.mk ?_)
  refine sY (yv_buildSlice (ps := [(0, _)]) (rows := [[int 1, boo false, .sl 4 v14 0 (Int.toNat x11), .sl 5 v17 0 (Int.toNat 17), .sl 6 v20 0 (Int.toNat (a1.Weights.length : Int)), .sl 7 v23 0 y2_1.length, .sl 8 v26 0 (Int.toNat (a1.Weights.length : Int)), .sc (.slice none 0 0)]]) rfl Tryz.underlying26 bz47 (.cons rfl .nil) (by kernel_rfl) rfl rfl rfl) ?_
  obtain ⟨x33, e33, h2⟩ := bnd_e h2
  obtain ⟨p34, h2⟩ := asrt_e h2
  refine rse rfl rfl rfl (Yield.frz 4 rfl (Yield.frz 5 rfl (Yield.frz 6 rfl (Yield.frz 7 rfl (Yield.frz 8 rfl (yl_appT (g := GEnt.av) (l := y0_3) (m := [(⟨1, false, x13, x16, x19, y2_1, x25, []⟩ : GEnt)]) .any rfl Tryz.underlying26 bz47 by47 rfl rfl rfl rfl rfl rfl rfl rfl rfl rfl (Eq.symm rfl) (CvLL.list (ys := [GEnt.av (⟨1, false, x13, x16, x19, y2_1, x25, []⟩ : GEnt)]) (.cons (cvl_to (.cons (.refl _) (.cons (.refl _) (.cons (cv_lst rfl rfl rfl rfl rfl (Eq.symm lx13)) (.cons (cv_lst rfl rfl rfl rfl rfl (Eq.symm lx16)) (.cons (cv_lst rfl rfl rfl rfl rfl (Eq.symm lx19)) (.cons (cv_lst rfl rfl rfl rfl rfl (Eq.symm rfl)) (.cons (cv_lst rfl rfl rfl rfl rfl (Eq.symm lx25)) (.cons (.nil _) .nil)))))))) (GEnt.av_eq _)) .nil)) GEnt.one e33 p34)))))) ?_; rintro _ _ ⟨v35, -, rfl, rfl⟩
  refine tr tbk 1 (.mk ?_)
  refine sS ⟨31, 10, true, true, v6, [[int a1.Entities, int a1.Periods, lst 1 fI a1.Weights, lst 1 (fL 1 fI) a1.Methods, lst 1 (fL 1 fI) a1.Costs, .sl 11 v35 0 x33.length, .sc (.slice none 0 0), .sc (.slice none 0 0), .sc (.slice none 0 0), int 0]]⟩ sh26 ?_
  refine tr tbk 2 (.mk ?_)
  exact lf h2 v35 leA
  rintro y3_2 w3_1 h1
  refine tc tbk 2 (.mk ?_)
  refine ni tbk h1 fun x36 h1 => ?_
  refine tr tbk 2 (.mk ?_)
  exact bk (x36, y3_2) w3_1 h1 leA
  rintro y4_2 w4_1 h0
  refine tc tbk 3 (.mk ?_)
  refine sS ⟨31, 10, true, true, v3, [[int a1.Entities, int a1.Periods, lst 1 fI a1.Weights, lst 1 (fL 1 fI) a1.Methods, lst 1 (fL 1 fI) a1.Costs, .sl 11 w4_1 0 y4_2.length, .sc (.slice none 0 0), .sc (.slice none 0 0), .sc (.slice none 0 0), int 0]]⟩ sh31 ?_
  refine tr tbk 2 (.mk ?_)
  obtain rfl := nxt_e h0
  refine wR hret (rC sh31 (rT .nil)) ?_
  exact CvL.tup (.cons (CvL.agg (.cons (.refl _) (.cons (.refl _) (.cons (.refl _) (.cons (.refl _) (.cons (.refl _) (.cons (cv_lst rfl rfl rfl rfl rfl (Eq.symm rfl)) (.cons (.nil _) (.cons (.nil _) (.cons (.nil _) (.cons (.refl _) .nil))))))))))) (.cons (.refl _) .nil))
def d_top_start (n : Nat) (a1 : GMaster) : Option (GState) :=
(d_ref04_Start n a1).bind fun x4 =>
some ((x4.1 : GState))
theorem d_top_start_c {n : Nat} {a1 : GMaster} {r : GState} (h0 : d_top_start n a1 = some r) : PP Tryz.prog 4 [.agg (GMaster.av a1)] (fun y => y = .agg (GState.av r)) := by
  unfold d_top_start at h0
  refine pp_of_pc (R0 := fun y H => Cv (frzH H) y (.agg (GState.av r))) ?_ (fun y H hc => ⟨_, rfl, (fun (a : GState) => PV.agg (GState.pvc a)) r, hc⟩)
  refine pcw (c := _) Tryz.func4 rfl rfl ?_; intro Q hret hnorm
  refine tc tbk 2 (.mk ?_)
  refine sB 1 fun v2 => ?_
  refine sA 2 z31 fun v3 => ?_
  refine tr tbk 4 (.mk ?_)
  obtain ⟨x4, e4, h0⟩ := bind_e h0
  refine sC cal10 (d_ref04_Start_c e4) ?_
  refine tr tbk 3 (.mk ?_)
  refine sA 3 z31 fun v5 => ?_
  refine sS ⟨31, 10, true, true, v5, [(GState.av x4.1)]⟩ sh31 ?_
  refine tr tbk 5 (.mk ?_)
  refine sS ⟨31, 10, true, true, v3, [(GState.av x4.1)]⟩ sh31 ?_
  refine tr tbk 1 (.mk ?_)
  obtain rfl := nxt_e h0
  refine wR hret (rC sh31 .nil) ?_
  exact .refl _
def d_law00_Place (a1 : Int) (a2 : Int) : Option (Int) :=
asrt (a2 ≠ 0) <|
bnd (a1.tmod a2) fun x4 =>
bnd (decide (x4 < 0)) fun x5 =>
(show Option (Int) from
cond x5 (bnd (w64 (x4 + a2)) fun x7 =>
some (x7 : Int)) (some (x4 : Int))).bind <| fun y0_1 =>
some ((y0_1 : Int))
theorem d_law00_Place_c {a1 : Int} {a2 : Int} {r : Int} (h0 : d_law00_Place a1 a2 = some r) : PP Tryz.prog 6 [int a1, int a2] (fun y => y = int r) := by
  unfold d_law00_Place at h0
  refine pp_of_pc (R0 := fun y H => Cv (frzH H) y (int r)) ?_ (fun y H hc => ⟨_, rfl, pvI r, hc⟩)
  refine pcw (c := _) Tryz.func6 rfl rfl ?_; intro Q hret hnorm
  refine tc tbk 8 (.mk ?_)
  obtain ⟨p3, h0⟩ := asrt_e h0
  obtain ⟨x4, e4, h0⟩ := bnd_e h0
  refine sY (yv_rem rfl rfl rfl p3 e4) ?_
  refine tr tbk 6 (.mk ?_)
  refine nb tbk h0 fun x5 h0 => ?_
  refine tr tbk 1 (.mk ?_)
  refine jn h0 [4] [] (fun (a : Int) (k : Unit) => [(5, int a)]) (fun a k => []) ⟨fun j6 h1 => ?_, ?_⟩
  cases x5
  replace h1 := cf h1
  refine tc tbk 2 (.mk ?_)
  exact lf h1 () leA
  replace h1 := ct h1
  refine tc tbk 4 (.mk ?_)
  refine ni tbk h1 fun x7 h1 => ?_
  refine tr tbk 2 (.mk ?_)
  exact lf h1 () leA
  rintro y0_1 _ h0
  refine tc tbk 5 (.mk ?_)
  obtain rfl := nxt_e h0
  refine wR hret (rT .nil) ?_
  exact .refl _
def d_ops_forms  : Option (A17_List_UInt8) :=
some (((⟨([] : List UInt8), ([69, 73, 76, 81, 65] : List UInt8), ([81, 65, 82] : List UInt8), ([81, 82] : List UInt8), ([69, 73, 76, 81, 65] : List UInt8), ([81, 65, 82] : List UInt8), ([69, 73, 76, 81] : List UInt8), ([69, 73, 76, 81] : List UInt8), ([69, 73, 76, 84, 81] : List UInt8), ([69, 73, 65] : List UInt8), ([69, 73, 65] : List UInt8), ([84, 65, 83] : List UInt8), ([69, 73, 76, 84, 81, 65] : List UInt8), ([76, 81, 82] : List UInt8), ([69] : List UInt8), ([69] : List UInt8), ([69] : List UInt8)⟩ : A17_List_UInt8) : A17_List_UInt8))
theorem d_ops_forms_c  {r : A17_List_UInt8} (h0 : d_ops_forms  = some r) : PP Tryz.prog 20 [] (fun y => y = .agg (A17_List_UInt8.av r)) := by
  unfold d_ops_forms at h0
  refine pp_of_pc (R0 := fun y H => Cv (frzH H) y (.agg (A17_List_UInt8.av r))) ?_ (fun y H hc => ⟨_, rfl, (fun (a : A17_List_UInt8) => PV.agg (A17_List_UInt8.pvc a)) r, hc⟩)
  refine pcw (c := _) Tryz.func20 rfl rfl ?_; intro Q hret hnorm
  refine tc tbk 2 (.mk ?_)
  refine sA 1 z62 fun v1 => ?_
  refine tr tbk 3 (.mk ?_)
  refine sY (yv_buildA (cs := [str ([] : List UInt8), str ([69, 73, 76, 81, 65] : List UInt8), str ([81, 65, 82] : List UInt8), str ([81, 82] : List UInt8), str ([69, 73, 76, 81, 65] : List UInt8), str ([81, 65, 82] : List UInt8), str ([69, 73, 76, 81] : List UInt8), str ([69, 73, 76, 81] : List UInt8), str ([69, 73, 76, 84, 81] : List UInt8), str ([69, 73, 65] : List UInt8), str ([69, 73, 65] : List UInt8), str ([84, 65, 83] : List UInt8), str ([69, 73, 76, 84, 81, 65] : List UInt8), str ([76, 81, 82] : List UInt8), str ([69] : List UInt8), str ([69] : List UInt8), str ([69] : List UInt8)]) (ps := [(1, _), (2, _), (3, _), (4, _), (5, _), (6, _), (7, _), (8, _), (9, _), (10, _), (11, _), (12, _), (13, _), (14, _), (15, _), (16, _)]) rfl Tryz.underlying62 sh61 z62 rfl (.cons rfl (.cons rfl (.cons rfl (.cons rfl (.cons rfl (.cons rfl (.cons rfl (.cons rfl (.cons rfl (.cons rfl (.cons rfl (.cons rfl (.cons rfl (.cons rfl (.cons rfl (.cons rfl .nil)))))))))))))))) (by kernel_rfl)) ?_
  refine sS ⟨62, 17, true, true, v1, [[str ([] : List UInt8), str ([69, 73, 76, 81, 65] : List UInt8), str ([81, 65, 82] : List UInt8), str ([81, 82] : List UInt8), str ([69, 73, 76, 81, 65] : List UInt8), str ([81, 65, 82] : List UInt8), str ([69, 73, 76, 81] : List UInt8), str ([69, 73, 76, 81] : List UInt8), str ([69, 73, 76, 84, 81] : List UInt8), str ([69, 73, 65] : List UInt8), str ([69, 73, 65] : List UInt8), str ([84, 65, 83] : List UInt8), str ([69, 73, 76, 84, 81, 65] : List UInt8), str ([76, 81, 82] : List UInt8), str ([69] : List UInt8), str ([69] : List UInt8), str ([69] : List UInt8)]]⟩ sh62 ?_
  refine tr tbk 1 (.mk ?_)
  obtain rfl := nxt_e h0
  refine wR hret (rC sh62 .nil) ?_
  exact .refl _
def d_internal_stringslite_IndexByte (a1 : List UInt8) (a2 : Int) : Option (Int) :=
bnd (ixB a1 a2) fun x3 =>
some ((x3 : Int))
theorem d_internal_stringslite_IndexByte_c {a1 : List UInt8} {a2 : Int} {r : Int} (h0 : d_internal_stringslite_IndexByte a1 a2 = some r) : PP Tryz.prog 125 [str a1, .sc (.int .u8 a2)] (fun y => y = int r) := by
  unfold d_internal_stringslite_IndexByte at h0
  refine pp_of_pc (R0 := fun y H => Cv (frzH H) y (int r)) ?_ (fun y H hc => ⟨_, rfl, pvI r, hc⟩)
  refine pcw (c := _) Tryz.func125 rfl rfl ?_; intro Q hret hnorm
  refine tc tbk 8 (.mk ?_)
  obtain ⟨x3, e3, h0⟩ := bnd_e h0
  refine sY (yv_to (y := int x3) (yv_indexByte rfl Tryz.func172 rfl rfl ibx iby rfl rfl) (congrArg int e3)) ?_
  refine tr tbk 2 (.mk ?_)
  obtain rfl := nxt_e h0
  refine wR hret (rT .nil) ?_
  exact .refl _
def d_strings_IndexByte (a1 : List UInt8) (a2 : Int) : Option (Int) :=
(d_internal_stringslite_IndexByte a1 a2).bind fun x3 =>
some ((x3 : Int))
theorem d_strings_IndexByte_c {a1 : List UInt8} {a2 : Int} {r : Int} (h0 : d_strings_IndexByte a1 a2 = some r) : PP Tryz.prog 76 [str a1, .sc (.int .u8 a2)] (fun y => y = int r) := by
  unfold d_strings_IndexByte at h0
  refine pp_of_pc (R0 := fun y H => Cv (frzH H) y (int r)) ?_ (fun y H hc => ⟨_, rfl, pvI r, hc⟩)
  refine pcw (c := _) Tryz.func76 rfl rfl ?_; intro Q hret hnorm
  refine tc tbk 8 (.mk ?_)
  obtain ⟨x3, e3, h0⟩ := bind_e h0
  refine sC cal125 (d_internal_stringslite_IndexByte_c e3) ?_
  refine tr tbk 2 (.mk ?_)
  obtain rfl := nxt_e h0
  refine wR hret (rT .nil) ?_
  exact .refl _
def d_ops_bounds (a1 : Int) (a2 : Int) : Option (Int × Int) :=
bnd (decide (a2 = 69)) fun x3 =>
cond x3 (some ((0 : Int), (3 : Int))) (bnd (decide (a2 = 73)) fun x4 =>
cond x4 (some ((0 : Int), (4 : Int))) (bnd (decide (a2 = 76)) fun x5 =>
cond x5 (some ((0 : Int), (1 : Int))) (bnd (decide (a2 = 84)) fun x6 =>
asrt (x6 = false) <|
bnd (decide (a2 = 81)) fun x7 =>
cond x7 (bnd (decide (a1 = 7)) fun x12 =>
asrt (x12 = false) <|
some ((1 : Int), (1073741824 : Int))) (bnd (decide (a2 = 65)) fun x8 =>
cond x8 ((show Option (Bool) from
bnd (decide (a1 = 9)) fun x10 =>
cond x10 (some (true : Bool)) (bnd (decide (a1 = 10)) fun x11 =>
some (x11 : Bool))).bind <| fun y0_1 =>
asrt (y0_1 = false) <|
some ((0 : Int), (1125899906842624 : Int))) (some ((0 : Int), (39 : Int)))))))
theorem d_ops_bounds_c {a1 : Int} {a2 : Int} {r : Int × Int} (h0 : d_ops_bounds a1 a2 = some r) : PP Tryz.prog 22 [int a1, .sc (.int .i32 a2)] (fun y => y = .tup [int r.1, int r.2]) := by
  unfold d_ops_bounds at h0
  refine pp_of_pc (R0 := fun y H => Cv (frzH H) y (.tup [int r.1, int r.2])) ?_ (fun y H hc => ⟨_, rfl, .tup (pvl2 (pvI (r.1)) (pvI (r.2))), hc⟩)
  refine pcw (c := _) Tryz.func22 rfl rfl ?_; intro Q hret hnorm
  refine tc tbk 13 (.mk ?_)
  refine nb tbk h0 fun x3 h0 => ?_
  refine tr tbk 2 (.mk ?_)
  cases x3
  replace h0 := cf h0
  refine tc tbk 3 (.mk ?_)
  refine nb tbk h0 fun x4 h0 => ?_
  refine tr tbk 2 (.mk ?_)
  cases x4
  replace h0 := cf h0
  refine tc tbk 3 (.mk ?_)
  refine nb tbk h0 fun x5 h0 => ?_
  refine tr tbk 2 (.mk ?_)
  cases x5
  replace h0 := cf h0
  refine tc tbk 3 (.mk ?_)
  refine nb tbk h0 fun x6 h0 => ?_
  refine tr tbk 2 (.mk ?_)
  replace h0 := asrt_e h0
  obtain ⟨rfl, h0⟩ := h0
  refine tc tbk 3 (.mk ?_)
  refine nb tbk h0 fun x7 h0 => ?_
  refine tr tbk 2 (.mk ?_)
  cases x7
  replace h0 := cf h0
  refine tc tbk 3 (.mk ?_)
  refine nb tbk h0 fun x8 h0 => ?_
  refine tr tbk 2 (.mk ?_)
  cases x8
  replace h0 := cf h0
  refine tc tbk 8 (.mk ?_)
  obtain rfl := nxt_e h0
  refine wR hret (rT (rT .nil)) ?_
  exact .refl _
  replace h0 := ct h0
  refine tc tbk 3 (.mk ?_)
  refine jn h0 [4, 5] [] (fun (a : Bool) (k : Unit) => [(30, boo a)]) (fun a k => []) ⟨fun j9 h1 => ?_, ?_⟩
  refine tc tbk 2 (.mk ?_)
  refine nb tbk h1 fun x10 h1 => ?_
  refine tr tbk 1 (.mk ?_)
  cases x10
  replace h1 := cf h1
  refine tr tbk 1 (.mk ?_)
  refine nb tbk h1 fun x11 h1 => ?_
  refine tr tbk 2 (.mk ?_)
  exact lf h1 () leA
  replace h1 := ct h1
  refine tr tbk 4 (.mk ?_)
  exact lf h1 () leA
  rintro y0_1 _ h0
  replace h0 := asrt_e h0
  obtain ⟨rfl, h0⟩ := h0
  refine tc tbk 7 (.mk ?_)
  obtain rfl := nxt_e h0
  refine wR hret (rT (rT .nil)) ?_
  exact .refl _
  replace h0 := ct h0
  refine tc tbk 5 (.mk ?_)
  refine nb tbk h0 fun x12 h0 => ?_
  refine tr tbk 1 (.mk ?_)
  replace h0 := asrt_e h0
  obtain ⟨rfl, h0⟩ := h0
  refine tc tbk 7 (.mk ?_)
  obtain rfl := nxt_e h0
  refine wR hret (rT (rT .nil)) ?_
  exact .refl _
  replace h0 := ct h0
  refine tc tbk 6 (.mk ?_)
  obtain rfl := nxt_e h0
  refine wR hret (rT (rT .nil)) ?_
  exact .refl _
  replace h0 := ct h0
  refine tc tbk 6 (.mk ?_)
  obtain rfl := nxt_e h0
  refine wR hret (rT (rT .nil)) ?_
  exact .refl _
  replace h0 := ct h0
  refine tc tbk 6 (.mk ?_)
  obtain rfl := nxt_e h0
  refine wR hret (rT (rT .nil)) ?_
  exact .refl _
def d_ops_Check (a1 : GOp) : Option (Bool) :=
(show Option (Bool) from
bnd (decide (a1.Kind < 1)) fun x4 =>
cond x4 (some (true : Bool)) (bnd (decide (a1.Kind > 16)) fun x5 =>
some (x5 : Bool))).bind <| fun y0_1 =>
asrt (y0_1 = false) <|
d_ops_forms.bind fun x6 =>
(ix ([x6.a0, x6.a1, x6.a2, x6.a3, x6.a4, x6.a5, x6.a6, x6.a7, x6.a8, x6.a9, x6.a10, x6.a11, x6.a12, x6.a13, x6.a14, x6.a15, x6.a16] : List (List UInt8)) a1.Kind).bind fun x7 =>
(show Option ((Bool)) from
(show Option ((Int)) from
(d_strings_IndexByte x7 69).bind fun x11 =>
some (x11 : Int)).bind <| fun y2_1 =>
bnd (decide (y2_1 ≥ 0)) fun x12 =>
some (x12 : Bool)).bind <| fun y4_1 =>
(show Option (Int × Int) from
cond y4_1 ((d_ops_bounds a1.Kind 69).bind fun x14 =>
some ((x14.1 : Int), (x14.2 : Int))) (some ((0 : Int), (0 : Int)))).bind <| p2 fun (y5_1 : Int) (y5_2 : Int) =>
(show Option ((Unit)) from
some ()).bind <| fun _ =>
(show Option (Bool) from
bnd (decide (a1.E < y5_1)) fun x17 =>
cond x17 (some (true : Bool)) (bnd (decide (a1.E > y5_2)) fun x18 =>
some (x18 : Bool))).bind <| fun y8_1 =>
asrt (y8_1 = false) <|
(show Option ((Bool)) from
(show Option ((Int)) from
(d_strings_IndexByte x7 73).bind fun x21 =>
some (x21 : Int)).bind <| fun y2_1 =>
bnd (decide (y2_1 ≥ 0)) fun x22 =>
some (x22 : Bool)).bind <| fun y4_1_1 =>
(show Option (Int × Int) from
cond y4_1_1 ((d_ops_bounds a1.Kind 73).bind fun x24 =>
some ((x24.1 : Int), (x24.2 : Int))) (some ((0 : Int), (0 : Int)))).bind <| p2 fun (y5_1_1 : Int) (y5_2_1 : Int) =>
(show Option ((Unit)) from
some ()).bind <| fun _ =>
(show Option (Bool) from
bnd (decide (a1.Item < y5_1_1)) fun x27 =>
cond x27 (some (true : Bool)) (bnd (decide (a1.Item > y5_2_1)) fun x28 =>
some (x28 : Bool))).bind <| fun y8_1_1 =>
asrt (y8_1_1 = false) <|
(show Option ((Bool)) from
(show Option ((Int)) from
(d_strings_IndexByte x7 76).bind fun x31 =>
some (x31 : Int)).bind <| fun y2_1 =>
bnd (decide (y2_1 ≥ 0)) fun x32 =>
some (x32 : Bool)).bind <| fun y4_1_2 =>
(show Option (Int × Int) from
cond y4_1_2 ((d_ops_bounds a1.Kind 76).bind fun x34 =>
some ((x34.1 : Int), (x34.2 : Int))) (some ((0 : Int), (0 : Int)))).bind <| p2 fun (y5_1_2 : Int) (y5_2_2 : Int) =>
(show Option ((Unit)) from
some ()).bind <| fun _ =>
(show Option (Bool) from
bnd (decide (a1.Loc < y5_1_2)) fun x37 =>
cond x37 (some (true : Bool)) (bnd (decide (a1.Loc > y5_2_2)) fun x38 =>
some (x38 : Bool))).bind <| fun y8_1_2 =>
asrt (y8_1_2 = false) <|
(show Option ((Bool)) from
(show Option ((Int)) from
(d_strings_IndexByte x7 84).bind fun x41 =>
some (x41 : Int)).bind <| fun y2_1 =>
bnd (decide (y2_1 ≥ 0)) fun x42 =>
some (x42 : Bool)).bind <| fun y4_1_3 =>
(show Option (Int × Int) from
cond y4_1_3 ((d_ops_bounds a1.Kind 84).bind fun x44 =>
some ((x44.1 : Int), (x44.2 : Int))) (some ((0 : Int), (0 : Int)))).bind <| p2 fun (y5_1_3 : Int) (y5_2_3 : Int) =>
(show Option ((Unit)) from
some ()).bind <| fun _ =>
(show Option (Bool) from
bnd (decide (a1.To < y5_1_3)) fun x47 =>
cond x47 (some (true : Bool)) (bnd (decide (a1.To > y5_2_3)) fun x48 =>
some (x48 : Bool))).bind <| fun y8_1_3 =>
asrt (y8_1_3 = false) <|
(show Option ((Bool)) from
(show Option ((Int)) from
(d_strings_IndexByte x7 81).bind fun x51 =>
some (x51 : Int)).bind <| fun y2_1 =>
bnd (decide (y2_1 ≥ 0)) fun x52 =>
some (x52 : Bool)).bind <| fun y4_1_4 =>
(show Option (Int × Int) from
cond y4_1_4 ((d_ops_bounds a1.Kind 81).bind fun x54 =>
some ((x54.1 : Int), (x54.2 : Int))) (some ((0 : Int), (0 : Int)))).bind <| p2 fun (y5_1_4 : Int) (y5_2_4 : Int) =>
(show Option ((Unit)) from
some ()).bind <| fun _ =>
(show Option (Bool) from
bnd (decide (a1.Qty < y5_1_4)) fun x57 =>
cond x57 (some (true : Bool)) (bnd (decide (a1.Qty > y5_2_4)) fun x58 =>
some (x58 : Bool))).bind <| fun y8_1_4 =>
asrt (y8_1_4 = false) <|
(show Option ((Bool)) from
(show Option ((Int)) from
(d_strings_IndexByte x7 65).bind fun x61 =>
some (x61 : Int)).bind <| fun y2_1 =>
bnd (decide (y2_1 ≥ 0)) fun x62 =>
some (x62 : Bool)).bind <| fun y4_1_5 =>
(show Option (Int × Int) from
cond y4_1_5 ((d_ops_bounds a1.Kind 65).bind fun x64 =>
some ((x64.1 : Int), (x64.2 : Int))) (some ((0 : Int), (0 : Int)))).bind <| p2 fun (y5_1_5 : Int) (y5_2_5 : Int) =>
(show Option ((Unit)) from
some ()).bind <| fun _ =>
(show Option (Bool) from
bnd (decide (a1.Amount < y5_1_5)) fun x67 =>
cond x67 (some (true : Bool)) (bnd (decide (a1.Amount > y5_2_5)) fun x68 =>
some (x68 : Bool))).bind <| fun y8_1_5 =>
asrt (y8_1_5 = false) <|
(show Option ((Bool)) from
(show Option ((Int)) from
(d_strings_IndexByte x7 82).bind fun x71 =>
some (x71 : Int)).bind <| fun y2_1 =>
bnd (decide (y2_1 ≥ 0)) fun x72 =>
some (x72 : Bool)).bind <| fun y4_1_6 =>
(show Option (Int × Int) from
cond y4_1_6 ((d_ops_bounds a1.Kind 82).bind fun x74 =>
some ((x74.1 : Int), (x74.2 : Int))) (some ((0 : Int), (0 : Int)))).bind <| p2 fun (y5_1_6 : Int) (y5_2_6 : Int) =>
(show Option ((Unit)) from
some ()).bind <| fun _ =>
(show Option (Bool) from
bnd (decide (a1.Ref < y5_1_6)) fun x77 =>
cond x77 (some (true : Bool)) (bnd (decide (a1.Ref > y5_2_6)) fun x78 =>
some (x78 : Bool))).bind <| fun y8_1_6 =>
asrt (y8_1_6 = false) <|
bnd (decide (a1.Kind = 11)) fun x79 =>
asrt (x79 = false) <|
(show Option (Bool) from
bnd (decide ((a1.Refs.length : Int) = 0)) fun x81 =>
cond x81 (bnd (decide (a1.Kind = 8)) fun x82 =>
cond x82 (bnd (decide (a1.To = a1.Loc)) fun x86 =>
bnd (!x86) fun x87 =>
cond x87 (bnd (decide (a1.Kind = 12)) fun x88 =>
cond x88 (bnd (decide (a1.To = a1.E)) fun x89 =>
bnd (!x89) fun x90 =>
some (x90 : Bool)) (some (true : Bool))) (some (false : Bool))) (bnd (decide (a1.Kind = 12)) fun x83 =>
cond x83 (bnd (decide (a1.To = a1.E)) fun x84 =>
bnd (!x84) fun x85 =>
some (x85 : Bool)) (some (true : Bool)))) (some (false : Bool))).bind <| fun y9_1 =>
some ((y9_1 : Bool))
theorem d_ops_Check_c {a1 : GOp} {r : Bool} (h0 : d_ops_Check a1 = some r) : PP Tryz.prog 11 [.agg (GOp.av a1)] (fun y => y = boo r) := by
  unfold d_ops_Check at h0
  refine pp_of_pc (R0 := fun y H => Cv (frzH H) y (boo r)) ?_ (fun y H hc => ⟨_, rfl, pvB r, hc⟩)
  refine pcw (c := _) Tryz.func11 rfl rfl ?_; intro Q hret hnorm
  refine tc tbk 2 (.mk ?_)
  refine sB 1 fun v2 => ?_
  refine tr tbk 4 (.mk ?_)
  refine jn h0 [1, 2] [1] (fun (a : Bool) (k : Unit) => [(16, boo a)]) (fun a k => []) ⟨fun j3 h1 => ?_, ?_⟩
  refine tc tbk 3 (.mk ?_)
  refine nb tbk h1 fun x4 h1 => ?_
  refine tr tbk 1 (.mk ?_)
  cases x4
  replace h1 := cf h1
  refine tr tbk 2 (.mk ?_)
  refine nb tbk h1 fun x5 h1 => ?_
  refine tr tbk 2 (.mk ?_)
  exact lf h1 () leA
  replace h1 := ct h1
  refine tr tbk 5 (.mk ?_)
  exact lf h1 () leA
  rintro y0_1 _ h0
  replace h0 := asrt_e h0
  obtain ⟨rfl, h0⟩ := h0
  refine tc tbk 3 (.mk ?_)
  refine c_drawE [0, 0, 2, 7, 15] (rl [(1, [1]), (2, [1])] []) (fun i => [1]) (fun i => true) [0, 1, 2, 3, 4] mixed (by kernel_rfl) ?_; intro K hK
  obtain ⟨x6, e6, h0⟩ := bind_e h0
  refine eP (fun H hH => yv_callP rfl rfl .nil cal20 (CvL.refl _) (d_ops_forms_c e6)) ?_
  refine eF fo36_0 ?_
  refine eL sh3 ?_
  obtain ⟨x7, e7, h0⟩ := bind_e h0
  refine eP (fun H hH => yv_indexAT (g := fS) (l := ([x6.a0, x6.a1, x6.a2, x6.a3, x6.a4, x6.a5, x6.a6, x6.a7, x6.a8, x6.a9, x6.a10, x6.a11, x6.a12, x6.a13, x6.a14, x6.a15, x6.a16] : List (List UInt8))) (v := x7) (w := str x7) rfl Tryz.underlying62 sh61 rfl rfl rfl e7 (fun _ => rfl) hw1) ?_
  refine eA ?_
  refine de_nil (hK _ ?_)
  refine tc tbk 1 (.mk ?_)
  refine w_range rfl rfl rfl rfl rfl rfl rfl rfl ?_
  refine rgi_end rfl rfl rfl rfl Tryz.underlying9 rfl fun b8 => ⟨rfl, ?_⟩
  refine tc tbk 20 (.mk ?_)
  obtain ⟨j9, h1, h0⟩ := bind_e h0
  refine rse (Out := fun y H' => (∃ (a : Bool) (k : Unit), a = j9 ∧ y = boo a ∧ H' = hk [(1, ⟨36, 9, true, true, v2, [[int a1.Kind, int a1.E, int a1.Item, int a1.Loc, int a1.To, int a1.Qty, int a1.Amount, int a1.Ref, lst 1 fI a1.Refs]]⟩)])) rfl rfl rfl (yl_call rfl rfl (.cons rfl (.cons rfl .nil)) cal21 ?_) ?_
  refine pcw (c := _) Tryz.func21 rfl rfl ?_; intro Q hret hnorm
  refine tc tbk 8 (.mk ?_)
  obtain ⟨j10, h2, h1⟩ := bind_e h1
  refine rse (Out := fun y H' => (∃ (a : Int) (k : Unit), a = j10 ∧ y = int a ∧ H' = hk [(1, ⟨36, 9, true, true, v2, [[int a1.Kind, int a1.E, int a1.Item, int a1.Loc, int a1.To, int a1.Qty, int a1.Amount, int a1.Ref, lst 1 fI a1.Refs]]⟩)])) rfl rfl rfl (yl_call rfl rfl (.cons rfl (.cons rfl .nil)) cal46 ?_) ?_
  refine pcw (c := _) Tryz.func46 rfl rfl ?_; intro Q hret hnorm
  refine tc tbk 8 (.mk ?_)
  refine sY (yv_to (y := boo true) (yv_leq rfl rfl rfl) (congrArg boo (by decide))) ?_
  refine tr tbk 2 (.mk ?_)
  refine sY (yv_to (y := boo true) (yv_lss rfl rfl rfl) (congrArg boo (by decide))) ?_
  refine tr tbk 8 (.mk ?_)
  refine sY (yv_convInt (r := 69) rfl Tryz.underlying21 Tryz.underlying5 rfl (by decide)) ?_
  obtain ⟨x11, e11, h2⟩ := bind_e h2
  refine sC cal76 (d_strings_IndexByte_c e11) ?_
  refine tr tbk 2 (.mk ?_)
  obtain rfl := nxt_e h2
  refine w_ret (hret _ _ (hk [(1, ⟨36, 9, true, true, v2, [[int a1.Kind, int a1.E, int a1.Item, int a1.Loc, int a1.To, int a1.Qty, int a1.Amount, int a1.Ref, lst 1 fI a1.Refs]]⟩)]) (.tmp rfl .nil) (HK.le ⟨rfl, trivial⟩) ?_)
  exact ⟨x11, (), rfl, rfl, rfl⟩
  rintro y _ ⟨y2_1, _, rfl, hc, rfl⟩
  subst hc
  refine nb tbk h1 fun x12 h1 => ?_
  refine tr tbk 2 (.mk ?_)
  obtain rfl := nxt_e h1
  refine w_ret (hret _ _ (hk [(1, ⟨36, 9, true, true, v2, [[int a1.Kind, int a1.E, int a1.Item, int a1.Loc, int a1.To, int a1.Qty, int a1.Amount, int a1.Ref, lst 1 fI a1.Refs]]⟩)]) (.tmp rfl .nil) (HK.le ⟨rfl, trivial⟩) ?_)
  exact ⟨x12, (), rfl, rfl, rfl⟩
  rintro y _ ⟨y4_1, _, rfl, hc, rfl⟩
  subst hc
  refine tr tbk 1 (.mk ?_)
  refine jn h0 [1, 2, 3, 5, 21, 22, 23] [1] (fun (a : Int × Int) (k : Unit) => [(6, int a.1), (7, int a.2)]) (fun a k => []) ⟨fun j13 h1 => ?_, ?_⟩
  cases y4_1
  replace h1 := cf h1
  refine tc tbk 2 (.mk ?_)
  exact lf h1 () leA
  replace h1 := ct h1
  refine tc tbk 5 (.mk ?_)
  obtain ⟨x14, e14, h1⟩ := bind_e h1
  refine sC cal22 (d_ops_bounds_c e14) ?_
  refine tr tbk 6 (.mk ?_)
  exact lf h1 () leA
  rintro ⟨y5_1, y5_2⟩ _ h0
  replace h0 := p2_e h0
  refine tc tbk 3 (.mk ?_)
  obtain ⟨j15, h1, h0⟩ := bind_e h0
  refine rse (Out := fun y H' => (∃ (a : Unit) (k : Unit), a = j15 ∧ y = .pt 1 v2 0 1 ∧ H' = hk [(1, ⟨36, 9, true, true, v2, [[int a1.Kind, int a1.E, int a1.Item, int a1.Loc, int a1.To, int a1.Qty, int a1.Amount, int a1.Ref, lst 1 fI a1.Refs]]⟩)])) rfl rfl rfl (yl_call rfl rfl (.cons rfl (.cons rfl .nil)) cal23 ?_) ?_
  refine pcw (c := _) Tryz.func23 rfl rfl ?_; intro Q hret hnorm
  refine tc tbk 12 (.mk ?_)
  refine sY (yv_to (y := boo true) (yv_eql rfl rfl rfl) (congrArg boo (by decide))) ?_
  refine tr tbk 10 (.mk ?_)
  obtain rfl := nxt_e h1
  refine w_ret (hret _ _ (hk [(1, ⟨36, 9, true, true, v2, [[int a1.Kind, int a1.E, int a1.Item, int a1.Loc, int a1.To, int a1.Qty, int a1.Amount, int a1.Ref, lst 1 fI a1.Refs]]⟩)]) (.tmp rfl .nil) (HK.le ⟨rfl, trivial⟩) ?_)
  exact ⟨(), (), rfl, rfl, rfl⟩
  rintro y _ ⟨_, _, rfl, hc, rfl⟩
  subst hc
  refine tr tbk 5 (.mk ?_)
  refine jn h0 [1, 2, 3, 21, 22, 23] [1] (fun (a : Bool) (k : Unit) => [(46, boo a)]) (fun a k => []) ⟨fun j16 h1 => ?_, ?_⟩
  refine tc tbk 3 (.mk ?_)
  refine nb tbk h1 fun x17 h1 => ?_
  refine tr tbk 1 (.mk ?_)
  cases x17
  replace h1 := cf h1
  refine tr tbk 2 (.mk ?_)
  refine nb tbk h1 fun x18 h1 => ?_
  refine tr tbk 2 (.mk ?_)
  exact lf h1 () leA
  replace h1 := ct h1
  refine tr tbk 5 (.mk ?_)
  exact lf h1 () leA
  rintro y8_1 _ h0
  replace h0 := asrt_e h0
  obtain ⟨rfl, h0⟩ := h0
  refine tc tbk 23 (.mk ?_)
  obtain ⟨j19, h1, h0⟩ := bind_e h0
  refine rse (Out := fun y H' => (∃ (a : Bool) (k : Unit), a = j19 ∧ y = boo a ∧ H' = hk [(1, ⟨36, 9, true, true, v2, [[int a1.Kind, int a1.E, int a1.Item, int a1.Loc, int a1.To, int a1.Qty, int a1.Amount, int a1.Ref, lst 1 fI a1.Refs]]⟩)])) rfl rfl rfl (yl_call rfl rfl (.cons rfl (.cons rfl .nil)) cal21 ?_) ?_
  refine pcw (c := _) Tryz.func21 rfl rfl ?_; intro Q hret hnorm
  refine tc tbk 8 (.mk ?_)
  obtain ⟨j20, h2, h1⟩ := bind_e h1
  refine rse (Out := fun y H' => (∃ (a : Int) (k : Unit), a = j20 ∧ y = int a ∧ H' = hk [(1, ⟨36, 9, true, true, v2, [[int a1.Kind, int a1.E, int a1.Item, int a1.Loc, int a1.To, int a1.Qty, int a1.Amount, int a1.Ref, lst 1 fI a1.Refs]]⟩)])) rfl rfl rfl (yl_call rfl rfl (.cons rfl (.cons rfl .nil)) cal46 ?_) ?_
  refine pcw (c := _) Tryz.func46 rfl rfl ?_; intro Q hret hnorm
  refine tc tbk 8 (.mk ?_)
  refine sY (yv_to (y := boo true) (yv_leq rfl rfl rfl) (congrArg boo (by decide))) ?_
  refine tr tbk 2 (.mk ?_)
  refine sY (yv_to (y := boo true) (yv_lss rfl rfl rfl) (congrArg boo (by decide))) ?_
  refine tr tbk 8 (.mk ?_)
  refine sY (yv_convInt (r := 73) rfl Tryz.underlying21 Tryz.underlying5 rfl (by decide)) ?_
  obtain ⟨x21, e21, h2⟩ := bind_e h2
  refine sC cal76 (d_strings_IndexByte_c e21) ?_
  refine tr tbk 2 (.mk ?_)
  obtain rfl := nxt_e h2
  refine w_ret (hret _ _ (hk [(1, ⟨36, 9, true, true, v2, [[int a1.Kind, int a1.E, int a1.Item, int a1.Loc, int a1.To, int a1.Qty, int a1.Amount, int a1.Ref, lst 1 fI a1.Refs]]⟩)]) (.tmp rfl .nil) (HK.le ⟨rfl, trivial⟩) ?_)
  exact ⟨x21, (), rfl, rfl, rfl⟩
  rintro y _ ⟨y2_1, _, rfl, hc, rfl⟩
  subst hc
  refine nb tbk h1 fun x22 h1 => ?_
  refine tr tbk 2 (.mk ?_)
  obtain rfl := nxt_e h1
  refine w_ret (hret _ _ (hk [(1, ⟨36, 9, true, true, v2, [[int a1.Kind, int a1.E, int a1.Item, int a1.Loc, int a1.To, int a1.Qty, int a1.Amount, int a1.Ref, lst 1 fI a1.Refs]]⟩)]) (.tmp rfl .nil) (HK.le ⟨rfl, trivial⟩) ?_)
  exact ⟨x22, (), rfl, rfl, rfl⟩
  rintro y _ ⟨y4_1_1, _, rfl, hc, rfl⟩
  subst hc
  refine tr tbk 1 (.mk ?_)
  refine jn h0 [1, 2, 3, 5, 21, 22, 23] [1] (fun (a : Int × Int) (k : Unit) => [(6, int a.1), (7, int a.2)]) (fun a k => []) ⟨fun j23 h1 => ?_, ?_⟩
  cases y4_1_1
  replace h1 := cf h1
  refine tc tbk 2 (.mk ?_)
  exact lf h1 () leA
  replace h1 := ct h1
  refine tc tbk 5 (.mk ?_)
  obtain ⟨x24, e24, h1⟩ := bind_e h1
  refine sC cal22 (d_ops_bounds_c e24) ?_
  refine tr tbk 6 (.mk ?_)
  exact lf h1 () leA
  rintro ⟨y5_1_1, y5_2_1⟩ _ h0
  replace h0 := p2_e h0
  refine tc tbk 3 (.mk ?_)
  obtain ⟨j25, h1, h0⟩ := bind_e h0
  refine rse (Out := fun y H' => (∃ (a : Unit) (k : Unit), a = j25 ∧ y = .pt 1 v2 0 2 ∧ H' = hk [(1, ⟨36, 9, true, true, v2, [[int a1.Kind, int a1.E, int a1.Item, int a1.Loc, int a1.To, int a1.Qty, int a1.Amount, int a1.Ref, lst 1 fI a1.Refs]]⟩)])) rfl rfl rfl (yl_call rfl rfl (.cons rfl (.cons rfl .nil)) cal23 ?_) ?_
  refine pcw (c := _) Tryz.func23 rfl rfl ?_; intro Q hret hnorm
  refine tc tbk 12 (.mk ?_)
  refine sY (yv_to (y := boo false) (yv_eql rfl rfl rfl) (congrArg boo (by decide))) ?_
  refine tr tbk 5 (.mk ?_)
  refine sY (yv_to (y := boo true) (yv_eql rfl rfl rfl) (congrArg boo (by decide))) ?_
  refine tr tbk 10 (.mk ?_)
  obtain rfl := nxt_e h1
  refine w_ret (hret _ _ (hk [(1, ⟨36, 9, true, true, v2, [[int a1.Kind, int a1.E, int a1.Item, int a1.Loc, int a1.To, int a1.Qty, int a1.Amount, int a1.Ref, lst 1 fI a1.Refs]]⟩)]) (.tmp rfl .nil) (HK.le ⟨rfl, trivial⟩) ?_)
  exact ⟨(), (), rfl, rfl, rfl⟩
  rintro y _ ⟨_, _, rfl, hc, rfl⟩
  subst hc
  refine tr tbk 5 (.mk ?_)
  refine jn h0 [1, 2, 3, 21, 22, 23] [1] (fun (a : Bool) (k : Unit) => [(46, boo a)]) (fun a k => []) ⟨fun j26 h1 => ?_, ?_⟩
  refine tc tbk 3 (.mk ?_)
  refine nb tbk h1 fun x27 h1 => ?_
  refine tr tbk 1 (.mk ?_)
  cases x27
  replace h1 := cf h1
  refine tr tbk 2 (.mk ?_)
  refine nb tbk h1 fun x28 h1 => ?_
  refine tr tbk 2 (.mk ?_)
  exact lf h1 () leA
  replace h1 := ct h1
  refine tr tbk 5 (.mk ?_)
  exact lf h1 () leA
  rintro y8_1_1 _ h0
  replace h0 := asrt_e h0
  obtain ⟨rfl, h0⟩ := h0
  refine tc tbk 23 (.mk ?_)
  obtain ⟨j29, h1, h0⟩ := bind_e h0
  refine rse (Out := fun y H' => (∃ (a : Bool) (k : Unit), a = j29 ∧ y = boo a ∧ H' = hk [(1, ⟨36, 9, true, true, v2, [[int a1.Kind, int a1.E, int a1.Item, int a1.Loc, int a1.To, int a1.Qty, int a1.Amount, int a1.Ref, lst 1 fI a1.Refs]]⟩)])) rfl rfl rfl (yl_call rfl rfl (.cons rfl (.cons rfl .nil)) cal21 ?_) ?_
  refine pcw (c := _) Tryz.func21 rfl rfl ?_; intro Q hret hnorm
  refine tc tbk 8 (.mk ?_)
  obtain ⟨j30, h2, h1⟩ := bind_e h1
  refine rse (Out := fun y H' => (∃ (a : Int) (k : Unit), a = j30 ∧ y = int a ∧ H' = hk [(1, ⟨36, 9, true, true, v2, [[int a1.Kind, int a1.E, int a1.Item, int a1.Loc, int a1.To, int a1.Qty, int a1.Amount, int a1.Ref, lst 1 fI a1.Refs]]⟩)])) rfl rfl rfl (yl_call rfl rfl (.cons rfl (.cons rfl .nil)) cal46 ?_) ?_
  refine pcw (c := _) Tryz.func46 rfl rfl ?_; intro Q hret hnorm
  refine tc tbk 8 (.mk ?_)
  refine sY (yv_to (y := boo true) (yv_leq rfl rfl rfl) (congrArg boo (by decide))) ?_
  refine tr tbk 2 (.mk ?_)
  refine sY (yv_to (y := boo true) (yv_lss rfl rfl rfl) (congrArg boo (by decide))) ?_
  refine tr tbk 8 (.mk ?_)
  refine sY (yv_convInt (r := 76) rfl Tryz.underlying21 Tryz.underlying5 rfl (by decide)) ?_
  obtain ⟨x31, e31, h2⟩ := bind_e h2
  refine sC cal76 (d_strings_IndexByte_c e31) ?_
  refine tr tbk 2 (.mk ?_)
  obtain rfl := nxt_e h2
  refine w_ret (hret _ _ (hk [(1, ⟨36, 9, true, true, v2, [[int a1.Kind, int a1.E, int a1.Item, int a1.Loc, int a1.To, int a1.Qty, int a1.Amount, int a1.Ref, lst 1 fI a1.Refs]]⟩)]) (.tmp rfl .nil) (HK.le ⟨rfl, trivial⟩) ?_)
  exact ⟨x31, (), rfl, rfl, rfl⟩
  rintro y _ ⟨y2_1, _, rfl, hc, rfl⟩
  subst hc
  refine nb tbk h1 fun x32 h1 => ?_
  refine tr tbk 2 (.mk ?_)
  obtain rfl := nxt_e h1
  refine w_ret (hret _ _ (hk [(1, ⟨36, 9, true, true, v2, [[int a1.Kind, int a1.E, int a1.Item, int a1.Loc, int a1.To, int a1.Qty, int a1.Amount, int a1.Ref, lst 1 fI a1.Refs]]⟩)]) (.tmp rfl .nil) (HK.le ⟨rfl, trivial⟩) ?_)
  exact ⟨x32, (), rfl, rfl, rfl⟩
  rintro y _ ⟨y4_1_2, _, rfl, hc, rfl⟩
  subst hc
  refine tr tbk 1 (.mk ?_)
  refine jn h0 [1, 2, 3, 5, 21, 22, 23] [1] (fun (a : Int × Int) (k : Unit) => [(6, int a.1), (7, int a.2)]) (fun a k => []) ⟨fun j33 h1 => ?_, ?_⟩
  cases y4_1_2
  replace h1 := cf h1
  refine tc tbk 2 (.mk ?_)
  exact lf h1 () leA
  replace h1 := ct h1
  refine tc tbk 5 (.mk ?_)
  obtain ⟨x34, e34, h1⟩ := bind_e h1
  refine sC cal22 (d_ops_bounds_c e34) ?_
  refine tr tbk 6 (.mk ?_)
  exact lf h1 () leA
  rintro ⟨y5_1_2, y5_2_2⟩ _ h0
  replace h0 := p2_e h0
  refine tc tbk 3 (.mk ?_)
  obtain ⟨j35, h1, h0⟩ := bind_e h0
  refine rse (Out := fun y H' => (∃ (a : Unit) (k : Unit), a = j35 ∧ y = .pt 1 v2 0 3 ∧ H' = hk [(1, ⟨36, 9, true, true, v2, [[int a1.Kind, int a1.E, int a1.Item, int a1.Loc, int a1.To, int a1.Qty, int a1.Amount, int a1.Ref, lst 1 fI a1.Refs]]⟩)])) rfl rfl rfl (yl_call rfl rfl (.cons rfl (.cons rfl .nil)) cal23 ?_) ?_
  refine pcw (c := _) Tryz.func23 rfl rfl ?_; intro Q hret hnorm
  refine tc tbk 12 (.mk ?_)
  refine sY (yv_to (y := boo false) (yv_eql rfl rfl rfl) (congrArg boo (by decide))) ?_
  refine tr tbk 5 (.mk ?_)
  refine sY (yv_to (y := boo false) (yv_eql rfl rfl rfl) (congrArg boo (by decide))) ?_
  refine tr tbk 5 (.mk ?_)
  refine sY (yv_to (y := boo true) (yv_eql rfl rfl rfl) (congrArg boo (by decide))) ?_
  refine tr tbk 10 (.mk ?_)
  obtain rfl := nxt_e h1
  refine w_ret (hret _ _ (hk [(1, ⟨36, 9, true, true, v2, [[int a1.Kind, int a1.E, int a1.Item, int a1.Loc, int a1.To, int a1.Qty, int a1.Amount, int a1.Ref, lst 1 fI a1.Refs]]⟩)]) (.tmp rfl .nil) (HK.le ⟨rfl, trivial⟩) ?_)
  exact ⟨(), (), rfl, rfl, rfl⟩
  rintro y _ ⟨_, _, rfl, hc, rfl⟩
  subst hc
  refine tr tbk 5 (.mk ?_)
  refine jn h0 [1, 2, 3, 21, 22, 23] [1] (fun (a : Bool) (k : Unit) => [(46, boo a)]) (fun a k => []) ⟨fun j36 h1 => ?_, ?_⟩
  refine tc tbk 3 (.mk ?_)
  refine nb tbk h1 fun x37 h1 => ?_
  refine tr tbk 1 (.mk ?_)
  cases x37
  replace h1 := cf h1
  refine tr tbk 2 (.mk ?_)
  refine nb tbk h1 fun x38 h1 => ?_
  refine tr tbk 2 (.mk ?_)
  exact lf h1 () leA
  replace h1 := ct h1
  refine tr tbk 5 (.mk ?_)
  exact lf h1 () leA
  rintro y8_1_2 _ h0
  replace h0 := asrt_e h0
  obtain ⟨rfl, h0⟩ := h0
  refine tc tbk 23 (.mk ?_)
  obtain ⟨j39, h1, h0⟩ := bind_e h0
  refine rse (Out := fun y H' => (∃ (a : Bool) (k : Unit), a = j39 ∧ y = boo a ∧ H' = hk [(1, ⟨36, 9, true, true, v2, [[int a1.Kind, int a1.E, int a1.Item, int a1.Loc, int a1.To, int a1.Qty, int a1.Amount, int a1.Ref, lst 1 fI a1.Refs]]⟩)])) rfl rfl rfl (yl_call rfl rfl (.cons rfl (.cons rfl .nil)) cal21 ?_) ?_
  refine pcw (c := _) Tryz.func21 rfl rfl ?_; intro Q hret hnorm
  refine tc tbk 8 (.mk ?_)
  obtain ⟨j40, h2, h1⟩ := bind_e h1
  refine rse (Out := fun y H' => (∃ (a : Int) (k : Unit), a = j40 ∧ y = int a ∧ H' = hk [(1, ⟨36, 9, true, true, v2, [[int a1.Kind, int a1.E, int a1.Item, int a1.Loc, int a1.To, int a1.Qty, int a1.Amount, int a1.Ref, lst 1 fI a1.Refs]]⟩)])) rfl rfl rfl (yl_call rfl rfl (.cons rfl (.cons rfl .nil)) cal46 ?_) ?_
  refine pcw (c := _) Tryz.func46 rfl rfl ?_; intro Q hret hnorm
  refine tc tbk 8 (.mk ?_)
  refine sY (yv_to (y := boo true) (yv_leq rfl rfl rfl) (congrArg boo (by decide))) ?_
  refine tr tbk 2 (.mk ?_)
  refine sY (yv_to (y := boo true) (yv_lss rfl rfl rfl) (congrArg boo (by decide))) ?_
  refine tr tbk 8 (.mk ?_)
  refine sY (yv_convInt (r := 84) rfl Tryz.underlying21 Tryz.underlying5 rfl (by decide)) ?_
  obtain ⟨x41, e41, h2⟩ := bind_e h2
  refine sC cal76 (d_strings_IndexByte_c e41) ?_
  refine tr tbk 2 (.mk ?_)
  obtain rfl := nxt_e h2
  refine w_ret (hret _ _ (hk [(1, ⟨36, 9, true, true, v2, [[int a1.Kind, int a1.E, int a1.Item, int a1.Loc, int a1.To, int a1.Qty, int a1.Amount, int a1.Ref, lst 1 fI a1.Refs]]⟩)]) (.tmp rfl .nil) (HK.le ⟨rfl, trivial⟩) ?_)
  exact ⟨x41, (), rfl, rfl, rfl⟩
  rintro y _ ⟨y2_1, _, rfl, hc, rfl⟩
  subst hc
  refine nb tbk h1 fun x42 h1 => ?_
  refine tr tbk 2 (.mk ?_)
  obtain rfl := nxt_e h1
  refine w_ret (hret _ _ (hk [(1, ⟨36, 9, true, true, v2, [[int a1.Kind, int a1.E, int a1.Item, int a1.Loc, int a1.To, int a1.Qty, int a1.Amount, int a1.Ref, lst 1 fI a1.Refs]]⟩)]) (.tmp rfl .nil) (HK.le ⟨rfl, trivial⟩) ?_)
  exact ⟨x42, (), rfl, rfl, rfl⟩
  rintro y _ ⟨y4_1_3, _, rfl, hc, rfl⟩
  subst hc
  refine tr tbk 1 (.mk ?_)
  refine jn h0 [1, 2, 3, 5, 21, 22, 23] [1] (fun (a : Int × Int) (k : Unit) => [(6, int a.1), (7, int a.2)]) (fun a k => []) ⟨fun j43 h1 => ?_, ?_⟩
  cases y4_1_3
  replace h1 := cf h1
  refine tc tbk 2 (.mk ?_)
  exact lf h1 () leA
  replace h1 := ct h1
  refine tc tbk 5 (.mk ?_)
  obtain ⟨x44, e44, h1⟩ := bind_e h1
  refine sC cal22 (d_ops_bounds_c e44) ?_
  refine tr tbk 6 (.mk ?_)
  exact lf h1 () leA
  rintro ⟨y5_1_3, y5_2_3⟩ _ h0
  replace h0 := p2_e h0
  refine tc tbk 3 (.mk ?_)
  obtain ⟨j45, h1, h0⟩ := bind_e h0
  refine rse (Out := fun y H' => (∃ (a : Unit) (k : Unit), a = j45 ∧ y = .pt 1 v2 0 4 ∧ H' = hk [(1, ⟨36, 9, true, true, v2, [[int a1.Kind, int a1.E, int a1.Item, int a1.Loc, int a1.To, int a1.Qty, int a1.Amount, int a1.Ref, lst 1 fI a1.Refs]]⟩)])) rfl rfl rfl (yl_call rfl rfl (.cons rfl (.cons rfl .nil)) cal23 ?_) ?_
  refine pcw (c := _) Tryz.func23 rfl rfl ?_; intro Q hret hnorm
  refine tc tbk 12 (.mk ?_)
  refine sY (yv_to (y := boo false) (yv_eql rfl rfl rfl) (congrArg boo (by decide))) ?_
  refine tr tbk 5 (.mk ?_)
  refine sY (yv_to (y := boo false) (yv_eql rfl rfl rfl) (congrArg boo (by decide))) ?_
  refine tr tbk 5 (.mk ?_)
  refine sY (yv_to (y := boo false) (yv_eql rfl rfl rfl) (congrArg boo (by decide))) ?_
  refine tr tbk 5 (.mk ?_)
  refine sY (yv_to (y := boo true) (yv_eql rfl rfl rfl) (congrArg boo (by decide))) ?_
  refine tr tbk 10 (.mk ?_)
  obtain rfl := nxt_e h1
  refine w_ret (hret _ _ (hk [(1, ⟨36, 9, true, true, v2, [[int a1.Kind, int a1.E, int a1.Item, int a1.Loc, int a1.To, int a1.Qty, int a1.Amount, int a1.Ref, lst 1 fI a1.Refs]]⟩)]) (.tmp rfl .nil) (HK.le ⟨rfl, trivial⟩) ?_)
  exact ⟨(), (), rfl, rfl, rfl⟩
  rintro y _ ⟨_, _, rfl, hc, rfl⟩
  subst hc
  refine tr tbk 5 (.mk ?_)
  refine jn h0 [1, 2, 3, 21, 22, 23] [1] (fun (a : Bool) (k : Unit) => [(46, boo a)]) (fun a k => []) ⟨fun j46 h1 => ?_, ?_⟩
  refine tc tbk 3 (.mk ?_)
  refine nb tbk h1 fun x47 h1 => ?_
  refine tr tbk 1 (.mk ?_)
  cases x47
  replace h1 := cf h1
  refine tr tbk 2 (.mk ?_)
  refine nb tbk h1 fun x48 h1 => ?_
  refine tr tbk 2 (.mk ?_)
  exact lf h1 () leA
  replace h1 := ct h1
  refine tr tbk 5 (.mk ?_)
  exact lf h1 () leA
  rintro y8_1_3 _ h0
  replace h0 := asrt_e h0
  obtain ⟨rfl, h0⟩ := h0
  refine tc tbk 23 (.mk ?_)
  obtain ⟨j49, h1, h0⟩ := bind_e h0
  refine rse (Out := fun y H' => (∃ (a : Bool) (k : Unit), a = j49 ∧ y = boo a ∧ H' = hk [(1, ⟨36, 9, true, true, v2, [[int a1.Kind, int a1.E, int a1.Item, int a1.Loc, int a1.To, int a1.Qty, int a1.Amount, int a1.Ref, lst 1 fI a1.Refs]]⟩)])) rfl rfl rfl (yl_call rfl rfl (.cons rfl (.cons rfl .nil)) cal21 ?_) ?_
  refine pcw (c := _) Tryz.func21 rfl rfl ?_; intro Q hret hnorm
  refine tc tbk 8 (.mk ?_)
  obtain ⟨j50, h2, h1⟩ := bind_e h1
  refine rse (Out := fun y H' => (∃ (a : Int) (k : Unit), a = j50 ∧ y = int a ∧ H' = hk [(1, ⟨36, 9, true, true, v2, [[int a1.Kind, int a1.E, int a1.Item, int a1.Loc, int a1.To, int a1.Qty, int a1.Amount, int a1.Ref, lst 1 fI a1.Refs]]⟩)])) rfl rfl rfl (yl_call rfl rfl (.cons rfl (.cons rfl .nil)) cal46 ?_) ?_
  refine pcw (c := _) Tryz.func46 rfl rfl ?_; intro Q hret hnorm
  refine tc tbk 8 (.mk ?_)
  refine sY (yv_to (y := boo true) (yv_leq rfl rfl rfl) (congrArg boo (by decide))) ?_
  refine tr tbk 2 (.mk ?_)
  refine sY (yv_to (y := boo true) (yv_lss rfl rfl rfl) (congrArg boo (by decide))) ?_
  refine tr tbk 8 (.mk ?_)
  refine sY (yv_convInt (r := 81) rfl Tryz.underlying21 Tryz.underlying5 rfl (by decide)) ?_
  obtain ⟨x51, e51, h2⟩ := bind_e h2
  refine sC cal76 (d_strings_IndexByte_c e51) ?_
  refine tr tbk 2 (.mk ?_)
  obtain rfl := nxt_e h2
  refine w_ret (hret _ _ (hk [(1, ⟨36, 9, true, true, v2, [[int a1.Kind, int a1.E, int a1.Item, int a1.Loc, int a1.To, int a1.Qty, int a1.Amount, int a1.Ref, lst 1 fI a1.Refs]]⟩)]) (.tmp rfl .nil) (HK.le ⟨rfl, trivial⟩) ?_)
  exact ⟨x51, (), rfl, rfl, rfl⟩
  rintro y _ ⟨y2_1, _, rfl, hc, rfl⟩
  subst hc
  refine nb tbk h1 fun x52 h1 => ?_
  refine tr tbk 2 (.mk ?_)
  obtain rfl := nxt_e h1
  refine w_ret (hret _ _ (hk [(1, ⟨36, 9, true, true, v2, [[int a1.Kind, int a1.E, int a1.Item, int a1.Loc, int a1.To, int a1.Qty, int a1.Amount, int a1.Ref, lst 1 fI a1.Refs]]⟩)]) (.tmp rfl .nil) (HK.le ⟨rfl, trivial⟩) ?_)
  exact ⟨x52, (), rfl, rfl, rfl⟩
  rintro y _ ⟨y4_1_4, _, rfl, hc, rfl⟩
  subst hc
  refine tr tbk 1 (.mk ?_)
  refine jn h0 [1, 2, 3, 5, 21, 22, 23] [1] (fun (a : Int × Int) (k : Unit) => [(6, int a.1), (7, int a.2)]) (fun a k => []) ⟨fun j53 h1 => ?_, ?_⟩
  cases y4_1_4
  replace h1 := cf h1
  refine tc tbk 2 (.mk ?_)
  exact lf h1 () leA
  replace h1 := ct h1
  refine tc tbk 5 (.mk ?_)
  obtain ⟨x54, e54, h1⟩ := bind_e h1
  refine sC cal22 (d_ops_bounds_c e54) ?_
  refine tr tbk 6 (.mk ?_)
  exact lf h1 () leA
  rintro ⟨y5_1_4, y5_2_4⟩ _ h0
  replace h0 := p2_e h0
  refine tc tbk 3 (.mk ?_)
  obtain ⟨j55, h1, h0⟩ := bind_e h0
  refine rse (Out := fun y H' => (∃ (a : Unit) (k : Unit), a = j55 ∧ y = .pt 1 v2 0 5 ∧ H' = hk [(1, ⟨36, 9, true, true, v2, [[int a1.Kind, int a1.E, int a1.Item, int a1.Loc, int a1.To, int a1.Qty, int a1.Amount, int a1.Ref, lst 1 fI a1.Refs]]⟩)])) rfl rfl rfl (yl_call rfl rfl (.cons rfl (.cons rfl .nil)) cal23 ?_) ?_
  refine pcw (c := _) Tryz.func23 rfl rfl ?_; intro Q hret hnorm
  refine tc tbk 12 (.mk ?_)
  refine sY (yv_to (y := boo false) (yv_eql rfl rfl rfl) (congrArg boo (by decide))) ?_
  refine tr tbk 5 (.mk ?_)
  refine sY (yv_to (y := boo false) (yv_eql rfl rfl rfl) (congrArg boo (by decide))) ?_
  refine tr tbk 5 (.mk ?_)
  refine sY (yv_to (y := boo false) (yv_eql rfl rfl rfl) (congrArg boo (by decide))) ?_
  refine tr tbk 5 (.mk ?_)
  refine sY (yv_to (y := boo false) (yv_eql rfl rfl rfl) (congrArg boo (by decide))) ?_
  refine tr tbk 5 (.mk ?_)
  refine sY (yv_to (y := boo true) (yv_eql rfl rfl rfl) (congrArg boo (by decide))) ?_
  refine tr tbk 10 (.mk ?_)
  obtain rfl := nxt_e h1
  refine w_ret (hret _ _ (hk [(1, ⟨36, 9, true, true, v2, [[int a1.Kind, int a1.E, int a1.Item, int a1.Loc, int a1.To, int a1.Qty, int a1.Amount, int a1.Ref, lst 1 fI a1.Refs]]⟩)]) (.tmp rfl .nil) (HK.le ⟨rfl, trivial⟩) ?_)
  exact ⟨(), (), rfl, rfl, rfl⟩
  rintro y _ ⟨_, _, rfl, hc, rfl⟩
  subst hc
  refine tr tbk 5 (.mk ?_)
  refine jn h0 [1, 2, 3, 21, 22, 23] [1] (fun (a : Bool) (k : Unit) => [(46, boo a)]) (fun a k => []) ⟨fun j56 h1 => ?_, ?_⟩
  refine tc tbk 3 (.mk ?_)
  refine nb tbk h1 fun x57 h1 => ?_
  refine tr tbk 1 (.mk ?_)
  cases x57
  replace h1 := cf h1
  refine tr tbk 2 (.mk ?_)
  refine nb tbk h1 fun x58 h1 => ?_
  refine tr tbk 2 (.mk ?_)
  exact lf h1 () leA
  replace h1 := ct h1
  refine tr tbk 5 (.mk ?_)
  exact lf h1 () leA
  rintro y8_1_4 _ h0
  replace h0 := asrt_e h0
  obtain ⟨rfl, h0⟩ := h0
  refine tc tbk 23 (.mk ?_)
  obtain ⟨j59, h1, h0⟩ := bind_e h0
  refine rse (Out := fun y H' => (∃ (a : Bool) (k : Unit), a = j59 ∧ y = boo a ∧ H' = hk [(1, ⟨36, 9, true, true, v2, [[int a1.Kind, int a1.E, int a1.Item, int a1.Loc, int a1.To, int a1.Qty, int a1.Amount, int a1.Ref, lst 1 fI a1.Refs]]⟩)])) rfl rfl rfl (yl_call rfl rfl (.cons rfl (.cons rfl .nil)) cal21 ?_) ?_
  refine pcw (c := _) Tryz.func21 rfl rfl ?_; intro Q hret hnorm
  refine tc tbk 8 (.mk ?_)
  obtain ⟨j60, h2, h1⟩ := bind_e h1
  refine rse (Out := fun y H' => (∃ (a : Int) (k : Unit), a = j60 ∧ y = int a ∧ H' = hk [(1, ⟨36, 9, true, true, v2, [[int a1.Kind, int a1.E, int a1.Item, int a1.Loc, int a1.To, int a1.Qty, int a1.Amount, int a1.Ref, lst 1 fI a1.Refs]]⟩)])) rfl rfl rfl (yl_call rfl rfl (.cons rfl (.cons rfl .nil)) cal46 ?_) ?_
  refine pcw (c := _) Tryz.func46 rfl rfl ?_; intro Q hret hnorm
  refine tc tbk 8 (.mk ?_)
  refine sY (yv_to (y := boo true) (yv_leq rfl rfl rfl) (congrArg boo (by decide))) ?_
  refine tr tbk 2 (.mk ?_)
  refine sY (yv_to (y := boo true) (yv_lss rfl rfl rfl) (congrArg boo (by decide))) ?_
  refine tr tbk 8 (.mk ?_)
  refine sY (yv_convInt (r := 65) rfl Tryz.underlying21 Tryz.underlying5 rfl (by decide)) ?_
  obtain ⟨x61, e61, h2⟩ := bind_e h2
  refine sC cal76 (d_strings_IndexByte_c e61) ?_
  refine tr tbk 2 (.mk ?_)
  obtain rfl := nxt_e h2
  refine w_ret (hret _ _ (hk [(1, ⟨36, 9, true, true, v2, [[int a1.Kind, int a1.E, int a1.Item, int a1.Loc, int a1.To, int a1.Qty, int a1.Amount, int a1.Ref, lst 1 fI a1.Refs]]⟩)]) (.tmp rfl .nil) (HK.le ⟨rfl, trivial⟩) ?_)
  exact ⟨x61, (), rfl, rfl, rfl⟩
  rintro y _ ⟨y2_1, _, rfl, hc, rfl⟩
  subst hc
  refine nb tbk h1 fun x62 h1 => ?_
  refine tr tbk 2 (.mk ?_)
  obtain rfl := nxt_e h1
  refine w_ret (hret _ _ (hk [(1, ⟨36, 9, true, true, v2, [[int a1.Kind, int a1.E, int a1.Item, int a1.Loc, int a1.To, int a1.Qty, int a1.Amount, int a1.Ref, lst 1 fI a1.Refs]]⟩)]) (.tmp rfl .nil) (HK.le ⟨rfl, trivial⟩) ?_)
  exact ⟨x62, (), rfl, rfl, rfl⟩
  rintro y _ ⟨y4_1_5, _, rfl, hc, rfl⟩
  subst hc
  refine tr tbk 1 (.mk ?_)
  refine jn h0 [1, 2, 3, 5, 21, 22, 23] [1] (fun (a : Int × Int) (k : Unit) => [(6, int a.1), (7, int a.2)]) (fun a k => []) ⟨fun j63 h1 => ?_, ?_⟩
  cases y4_1_5
  replace h1 := cf h1
  refine tc tbk 2 (.mk ?_)
  exact lf h1 () leA
  replace h1 := ct h1
  refine tc tbk 5 (.mk ?_)
  obtain ⟨x64, e64, h1⟩ := bind_e h1
  refine sC cal22 (d_ops_bounds_c e64) ?_
  refine tr tbk 6 (.mk ?_)
  exact lf h1 () leA
  rintro ⟨y5_1_5, y5_2_5⟩ _ h0
  replace h0 := p2_e h0
  refine tc tbk 3 (.mk ?_)
  obtain ⟨j65, h1, h0⟩ := bind_e h0
  refine rse (Out := fun y H' => (∃ (a : Unit) (k : Unit), a = j65 ∧ y = .pt 1 v2 0 6 ∧ H' = hk [(1, ⟨36, 9, true, true, v2, [[int a1.Kind, int a1.E, int a1.Item, int a1.Loc, int a1.To, int a1.Qty, int a1.Amount, int a1.Ref, lst 1 fI a1.Refs]]⟩)])) rfl rfl rfl (yl_call rfl rfl (.cons rfl (.cons rfl .nil)) cal23 ?_) ?_
  refine pcw (c := _) Tryz.func23 rfl rfl ?_; intro Q hret hnorm
  refine tc tbk 12 (.mk ?_)
  refine sY (yv_to (y := boo false) (yv_eql rfl rfl rfl) (congrArg boo (by decide))) ?_
  refine tr tbk 5 (.mk ?_)
  refine sY (yv_to (y := boo false) (yv_eql rfl rfl rfl) (congrArg boo (by decide))) ?_
  refine tr tbk 5 (.mk ?_)
  refine sY (yv_to (y := boo false) (yv_eql rfl rfl rfl) (congrArg boo (by decide))) ?_
  refine tr tbk 5 (.mk ?_)
  refine sY (yv_to (y := boo false) (yv_eql rfl rfl rfl) (congrArg boo (by decide))) ?_
  refine tr tbk 5 (.mk ?_)
  refine sY (yv_to (y := boo false) (yv_eql rfl rfl rfl) (congrArg boo (by decide))) ?_
  refine tr tbk 5 (.mk ?_)
  refine sY (yv_to (y := boo true) (yv_eql rfl rfl rfl) (congrArg boo (by decide))) ?_
  refine tr tbk 10 (.mk ?_)
  obtain rfl := nxt_e h1
  refine w_ret (hret _ _ (hk [(1, ⟨36, 9, true, true, v2, [[int a1.Kind, int a1.E, int a1.Item, int a1.Loc, int a1.To, int a1.Qty, int a1.Amount, int a1.Ref, lst 1 fI a1.Refs]]⟩)]) (.tmp rfl .nil) (HK.le ⟨rfl, trivial⟩) ?_)
  exact ⟨(), (), rfl, rfl, rfl⟩
  rintro y _ ⟨_, _, rfl, hc, rfl⟩
  subst hc
  refine tr tbk 5 (.mk ?_)
  refine jn h0 [1, 2, 3, 21, 22, 23] [1] (fun (a : Bool) (k : Unit) => [(46, boo a)]) (fun a k => []) ⟨fun j66 h1 => ?_, ?_⟩
  refine tc tbk 3 (.mk ?_)
  refine nb tbk h1 fun x67 h1 => ?_
  refine tr tbk 1 (.mk ?_)
  cases x67
  replace h1 := cf h1
  refine tr tbk 2 (.mk ?_)
  refine nb tbk h1 fun x68 h1 => ?_
  refine tr tbk 2 (.mk ?_)
  exact lf h1 () leA
  replace h1 := ct h1
  refine tr tbk 5 (.mk ?_)
  exact lf h1 () leA
  rintro y8_1_5 _ h0
  replace h0 := asrt_e h0
  obtain ⟨rfl, h0⟩ := h0
  refine tc tbk 23 (.mk ?_)
  obtain ⟨j69, h1, h0⟩ := bind_e h0
  refine rse (Out := fun y H' => (∃ (a : Bool) (k : Unit), a = j69 ∧ y = boo a ∧ H' = hk [(1, ⟨36, 9, true, true, v2, [[int a1.Kind, int a1.E, int a1.Item, int a1.Loc, int a1.To, int a1.Qty, int a1.Amount, int a1.Ref, lst 1 fI a1.Refs]]⟩)])) rfl rfl rfl (yl_call rfl rfl (.cons rfl (.cons rfl .nil)) cal21 ?_) ?_
  refine pcw (c := _) Tryz.func21 rfl rfl ?_; intro Q hret hnorm
  refine tc tbk 8 (.mk ?_)
  obtain ⟨j70, h2, h1⟩ := bind_e h1
  refine rse (Out := fun y H' => (∃ (a : Int) (k : Unit), a = j70 ∧ y = int a ∧ H' = hk [(1, ⟨36, 9, true, true, v2, [[int a1.Kind, int a1.E, int a1.Item, int a1.Loc, int a1.To, int a1.Qty, int a1.Amount, int a1.Ref, lst 1 fI a1.Refs]]⟩)])) rfl rfl rfl (yl_call rfl rfl (.cons rfl (.cons rfl .nil)) cal46 ?_) ?_
  refine pcw (c := _) Tryz.func46 rfl rfl ?_; intro Q hret hnorm
  refine tc tbk 8 (.mk ?_)
  refine sY (yv_to (y := boo true) (yv_leq rfl rfl rfl) (congrArg boo (by decide))) ?_
  refine tr tbk 2 (.mk ?_)
  refine sY (yv_to (y := boo true) (yv_lss rfl rfl rfl) (congrArg boo (by decide))) ?_
  refine tr tbk 8 (.mk ?_)
  refine sY (yv_convInt (r := 82) rfl Tryz.underlying21 Tryz.underlying5 rfl (by decide)) ?_
  obtain ⟨x71, e71, h2⟩ := bind_e h2
  refine sC cal76 (d_strings_IndexByte_c e71) ?_
  refine tr tbk 2 (.mk ?_)
  obtain rfl := nxt_e h2
  refine w_ret (hret _ _ (hk [(1, ⟨36, 9, true, true, v2, [[int a1.Kind, int a1.E, int a1.Item, int a1.Loc, int a1.To, int a1.Qty, int a1.Amount, int a1.Ref, lst 1 fI a1.Refs]]⟩)]) (.tmp rfl .nil) (HK.le ⟨rfl, trivial⟩) ?_)
  exact ⟨x71, (), rfl, rfl, rfl⟩
  rintro y _ ⟨y2_1, _, rfl, hc, rfl⟩
  subst hc
  refine nb tbk h1 fun x72 h1 => ?_
  refine tr tbk 2 (.mk ?_)
  obtain rfl := nxt_e h1
  refine w_ret (hret _ _ (hk [(1, ⟨36, 9, true, true, v2, [[int a1.Kind, int a1.E, int a1.Item, int a1.Loc, int a1.To, int a1.Qty, int a1.Amount, int a1.Ref, lst 1 fI a1.Refs]]⟩)]) (.tmp rfl .nil) (HK.le ⟨rfl, trivial⟩) ?_)
  exact ⟨x72, (), rfl, rfl, rfl⟩
  rintro y _ ⟨y4_1_6, _, rfl, hc, rfl⟩
  subst hc
  refine tr tbk 1 (.mk ?_)
  refine jn h0 [1, 2, 3, 5, 21, 22, 23] [1] (fun (a : Int × Int) (k : Unit) => [(6, int a.1), (7, int a.2)]) (fun a k => []) ⟨fun j73 h1 => ?_, ?_⟩
  cases y4_1_6
  replace h1 := cf h1
  refine tc tbk 2 (.mk ?_)
  exact lf h1 () leA
  replace h1 := ct h1
  refine tc tbk 5 (.mk ?_)
  obtain ⟨x74, e74, h1⟩ := bind_e h1
  refine sC cal22 (d_ops_bounds_c e74) ?_
  refine tr tbk 6 (.mk ?_)
  exact lf h1 () leA
  rintro ⟨y5_1_6, y5_2_6⟩ _ h0
  replace h0 := p2_e h0
  refine tc tbk 3 (.mk ?_)
  obtain ⟨j75, h1, h0⟩ := bind_e h0
  refine rse (Out := fun y H' => (∃ (a : Unit) (k : Unit), a = j75 ∧ y = .pt 1 v2 0 7 ∧ H' = hk [(1, ⟨36, 9, true, true, v2, [[int a1.Kind, int a1.E, int a1.Item, int a1.Loc, int a1.To, int a1.Qty, int a1.Amount, int a1.Ref, lst 1 fI a1.Refs]]⟩)])) rfl rfl rfl (yl_call rfl rfl (.cons rfl (.cons rfl .nil)) cal23 ?_) ?_
  refine pcw (c := _) Tryz.func23 rfl rfl ?_; intro Q hret hnorm
  refine tc tbk 12 (.mk ?_)
  refine sY (yv_to (y := boo false) (yv_eql rfl rfl rfl) (congrArg boo (by decide))) ?_
  refine tr tbk 5 (.mk ?_)
  refine sY (yv_to (y := boo false) (yv_eql rfl rfl rfl) (congrArg boo (by decide))) ?_
  refine tr tbk 5 (.mk ?_)
  refine sY (yv_to (y := boo false) (yv_eql rfl rfl rfl) (congrArg boo (by decide))) ?_
  refine tr tbk 5 (.mk ?_)
  refine sY (yv_to (y := boo false) (yv_eql rfl rfl rfl) (congrArg boo (by decide))) ?_
  refine tr tbk 5 (.mk ?_)
  refine sY (yv_to (y := boo false) (yv_eql rfl rfl rfl) (congrArg boo (by decide))) ?_
  refine tr tbk 5 (.mk ?_)
  refine sY (yv_to (y := boo false) (yv_eql rfl rfl rfl) (congrArg boo (by decide))) ?_
  refine tr tbk 12 (.mk ?_)
  obtain rfl := nxt_e h1
  refine w_ret (hret _ _ (hk [(1, ⟨36, 9, true, true, v2, [[int a1.Kind, int a1.E, int a1.Item, int a1.Loc, int a1.To, int a1.Qty, int a1.Amount, int a1.Ref, lst 1 fI a1.Refs]]⟩)]) (.tmp rfl .nil) (HK.le ⟨rfl, trivial⟩) ?_)
  exact ⟨(), (), rfl, rfl, rfl⟩
  rintro y _ ⟨_, _, rfl, hc, rfl⟩
  subst hc
  refine tr tbk 5 (.mk ?_)
  refine jn h0 [1, 2, 3, 21, 22, 23] [1] (fun (a : Bool) (k : Unit) => [(46, boo a)]) (fun a k => []) ⟨fun j76 h1 => ?_, ?_⟩
  refine tc tbk 3 (.mk ?_)
  refine nb tbk h1 fun x77 h1 => ?_
  refine tr tbk 1 (.mk ?_)
  cases x77
  replace h1 := cf h1
  refine tr tbk 2 (.mk ?_)
  refine nb tbk h1 fun x78 h1 => ?_
  refine tr tbk 2 (.mk ?_)
  exact lf h1 () leA
  replace h1 := ct h1
  refine tr tbk 5 (.mk ?_)
  exact lf h1 () leA
  rintro y8_1_6 _ h0
  replace h0 := asrt_e h0
  obtain ⟨rfl, h0⟩ := h0
  refine tc tbk 12 (.mk ?_)
  refine nb tbk h0 fun x79 h0 => ?_
  refine tr tbk 1 (.mk ?_)
  replace h0 := asrt_e h0
  obtain ⟨rfl, h0⟩ := h0
  refine tc tbk 3 (.mk ?_)
  refine jn h0 [] [] (fun (a : Bool) (k : Unit) => [(2, boo a)]) (fun a k => []) ⟨fun j80 h1 => ?_, ?_⟩
  refine tc tbk 3 (.mk ?_)
  refine sY (yv_len_sl rfl Tryz.underlying22 rfl (lst_len _)) ?_
  refine nb tbk h1 fun x81 h1 => ?_
  refine tr tbk 1 (.mk ?_)
  cases x81
  replace h1 := cf h1
  refine tr tbk 27 (.mk ?_)
  exact lf h1 () leA
  replace h1 := ct h1
  refine tr tbk 2 (.mk ?_)
  refine nb tbk h1 fun x82 h1 => ?_
  refine tr tbk 1 (.mk ?_)
  cases x82
  replace h1 := cf h1
  refine tr tbk 11 (.mk ?_)
  refine nb tbk h1 fun x83 h1 => ?_
  refine tr tbk 1 (.mk ?_)
  cases x83
  replace h1 := cf h1
  refine tr tbk 10 (.mk ?_)
  exact lf h1 () leA
  replace h1 := ct h1
  refine tr tbk 4 (.mk ?_)
  refine nb tbk h1 fun x84 h1 => ?_
  refine tr tbk 1 (.mk ?_)
  refine nb tbk h1 fun x85 h1 => ?_
  refine tr tbk 3 (.mk ?_)
  exact lf h1 () leA
  replace h1 := ct h1
  refine tr tbk 4 (.mk ?_)
  refine nb tbk h1 fun x86 h1 => ?_
  refine tr tbk 1 (.mk ?_)
  refine nb tbk h1 fun x87 h1 => ?_
  refine tr tbk 2 (.mk ?_)
  cases x87
  replace h1 := cf h1
  refine tr tbk 14 (.mk ?_)
  exact lf h1 () leA
  replace h1 := ct h1
  refine tr tbk 2 (.mk ?_)
  refine nb tbk h1 fun x88 h1 => ?_
  refine tr tbk 1 (.mk ?_)
  cases x88
  replace h1 := cf h1
  refine tr tbk 10 (.mk ?_)
  exact lf h1 () leA
  replace h1 := ct h1
  refine tr tbk 4 (.mk ?_)
  refine nb tbk h1 fun x89 h1 => ?_
  refine tr tbk 1 (.mk ?_)
  refine nb tbk h1 fun x90 h1 => ?_
  refine tr tbk 3 (.mk ?_)
  exact lf h1 () leA
  rintro y9_1 _ h0
  obtain rfl := nxt_e h0
  refine wR hret (rT .nil) ?_
  exact .refl _
theorem map104_c : PP Tryz.prog 104 [] (fun y => y = .mp [6, 7, 8, 9] [.agg [.fn (.func 152) [] []], .agg [.fn (.func 153) [] []], .agg [.fn (.func 154) [] []], .agg [.fn (.func 155) [] []]]) := by
  refine pp_of_pc (R0 := fun y H => Cv (frzH H) y (.mp [6, 7, 8, 9] [.agg [.fn (.func 152) [] []], .agg [.fn (.func 153) [] []], .agg [.fn (.func 154) [] []], .agg [.fn (.func 155) [] []]])) ?_ (fun y H hc => ⟨_, rfl, .mp (by intro x hx; simp only [List.mem_cons, List.not_mem_nil, or_false] at hx; rcases hx with rfl | rfl | rfl | rfl <;> exact .agg (by intro x hx; simp only [List.mem_cons, List.not_mem_nil, or_false] at hx; subst hx; exact .fn (by intro x hx; cases hx) (by intro x hx; cases hx))), hc⟩)
  refine pcw (c := _) Tryz.func104 rfl rfl ?_; intro Q hret hnorm
  refine tc tbk 6 (.mk ?_)
  refine mmk rfl rfl rfl rfl ?_; intro b0
  refine mpu rfl rfl rfl (yv_build (cs := [.fn (.func 152) [] []]) (ps := [(0, _)]) rfl pl171 z171 rfl (.cons rfl .nil) (by kernel_rfl)) ?_
  refine mins rfl rfl rfl Tryz.underlying173 Tryz.underlying3 rfl rfl rfl rfl ?_
  refine mpu rfl rfl rfl (yv_build (cs := [.fn (.func 153) [] []]) (ps := [(0, _)]) rfl pl171 z171 rfl (.cons rfl .nil) (by kernel_rfl)) ?_
  refine mins rfl rfl rfl Tryz.underlying173 Tryz.underlying3 rfl rfl rfl rfl ?_
  refine mpu rfl rfl rfl (yv_build (cs := [.fn (.func 154) [] []]) (ps := [(0, _)]) rfl pl171 z171 rfl (.cons rfl .nil) (by kernel_rfl)) ?_
  refine mins rfl rfl rfl Tryz.underlying173 Tryz.underlying3 rfl rfl rfl rfl ?_
  refine mpu rfl rfl rfl (yv_build (cs := [.fn (.func 155) [] []]) (ps := [(0, _)]) rfl pl171 z171 rfl (.cons rfl .nil) (by kernel_rfl)) ?_
  refine mins rfl rfl rfl Tryz.underlying173 Tryz.underlying3 rfl rfl rfl rfl ?_
  refine mend 1 rfl ?_
  refine tr tbk 3 (.mk ?_)
  refine wR hret (rT .nil) ?_
  exact .refl _
def d_stock_is (a1 : GState) (a2 : Int) (a3 : Int) : Option (Bool) :=
(show Option (Bool) from
bnd (decide (a2 < 0)) fun x6 =>
cond x6 (some (true : Bool)) (bnd (decide (a2 ≥ (a1.Ents.length : Int))) fun x7 =>
cond x7 (some (true : Bool)) (bnd (decide (a3 < 0)) fun x8 =>
cond x8 (some (true : Bool)) (bnd (decide (a3 ≥ (a1.Master.Weights.length : Int))) fun x9 =>
some (x9 : Bool))))).bind <| fun y0_1 =>
asrt (y0_1 = false) <|
(ix a1.Ents a2).bind fun x10 =>
(show Option (Bool) from
bnd (w64 ((a1.Master.Weights.length : Int) * 2)) fun x13 =>
bnd (decide ((x10.Pools.length : Int) ≥ x13)) fun x14 =>
cond x14 (bnd (decide ((x10.Rolls.length : Int) ≥ (a1.Master.Weights.length : Int))) fun x15 =>
cond x15 (bnd (decide (a2 < (a1.Master.Methods.length : Int))) fun x16 =>
cond x16 (bnd (decide (a2 < (a1.Master.Costs.length : Int))) fun x17 =>
cond x17 ((ix a1.Master.Methods a2).bind fun x18 =>
bnd (decide ((x18.length : Int) ≥ (a1.Master.Weights.length : Int))) fun x19 =>
cond x19 ((ix a1.Master.Costs a2).bind fun x20 =>
bnd (decide ((x20.length : Int) ≥ (a1.Master.Weights.length : Int))) fun x21 =>
some (x21 : Bool)) (some (false : Bool))) (some (false : Bool))) (some (false : Bool))) (some (false : Bool))) (some (false : Bool))).bind <| fun y1_1 =>
some ((y1_1 : Bool))
theorem d_stock_is_c {a1 : GState} {a2 : Int} {a3 : Int} {r : Bool} (h0 : d_stock_is a1 a2 a3 = some r) : PP Tryz.prog 87 [.agg (GState.av a1), int a2, int a3] (fun y => y = boo r) := by
  unfold d_stock_is at h0
  refine pp_of_pc (R0 := fun y H => Cv (frzH H) y (boo r)) ?_ (fun y H hc => ⟨_, rfl, pvB r, hc⟩)
  refine pcw (c := _) Tryz.func87 rfl rfl ?_; intro Q hret hnorm
  refine tc tbk 2 (.mk ?_)
  refine sB 1 fun v4 => ?_
  refine tr tbk 4 (.mk ?_)
  refine jn h0 [1, 3, 6] [1] (fun (a : Bool) (k : Unit) => [(29, boo a)]) (fun a k => []) ⟨fun j5 h1 => ?_, ?_⟩
  refine tc tbk 2 (.mk ?_)
  refine nb tbk h1 fun x6 h1 => ?_
  refine tr tbk 1 (.mk ?_)
  cases x6
  replace h1 := cf h1
  refine tr tbk 3 (.mk ?_)
  refine sY (yv_len_sl rfl Tryz.underlying26 rfl (lst_len _)) ?_
  refine nb tbk h1 fun x7 h1 => ?_
  refine tr tbk 2 (.mk ?_)
  cases x7
  replace h1 := cf h1
  refine tr tbk 1 (.mk ?_)
  refine nb tbk h1 fun x8 h1 => ?_
  refine tr tbk 2 (.mk ?_)
  cases x8
  replace h1 := cf h1
  refine tr tbk 4 (.mk ?_)
  refine sY (yv_len_sl rfl Tryz.underlying22 rfl (lst_len _)) ?_
  refine nb tbk h1 fun x9 h1 => ?_
  refine tr tbk 2 (.mk ?_)
  exact lf h1 () leA
  replace h1 := ct h1
  refine tr tbk 8 (.mk ?_)
  exact lf h1 () leA
  replace h1 := ct h1
  refine tr tbk 12 (.mk ?_)
  exact lf h1 () leA
  replace h1 := ct h1
  refine tr tbk 19 (.mk ?_)
  exact lf h1 () leA
  rintro y0_1 _ h0
  replace h0 := asrt_e h0
  obtain ⟨rfl, h0⟩ := h0
  refine tc tbk 3 (.mk ?_)
  refine c_drawE [0, 1, 0, 7, 15, 0, 32, 96, 224, 0, 543, 2047] (rl [(0, [1]), (1, [1]), (5, [1]), (6, [1]), (7, [1])] []) (fun i => [1]) (rl [(9, false), (10, false)] true) [0, 1, 2, 3, 4, 5, 6, 7, 8, 9, 10, 11] mixed (by kernel_rfl) ?_; intro K hK
  refine eF fo31_1 ?_
  refine eL sh26 ?_
  refine eM ?_
  obtain ⟨x10, e10, h0⟩ := bind_e h0
  refine eP (fun H hH => yv_to (y := .pp [int x10.Now, boo x10.Closed, lst 4 GPool.av x10.Pools, lst 1 fI x10.Bal, lst 11 GRoll.av x10.Rolls, lst 1 fI x10.Prices, lst 1 fI x10.Down, lst 8 GEnt.av x10.Ahead]) (yv_ixT rfl Tryz.underlying26 sh47 rfl rfl e10) (congrArg AV.pp (GEnt.av_eq x10))) ?_
  refine eP (fun H hH => yv_load rfl sh47 rfl (.pp _) rfl) ?_
  refine eF fo31_0 ?_
  refine eF fo25_2 ?_
  refine eL sh22 ?_
  refine eP (fun H hH => yv_len_sl rfl Tryz.underlying22 rfl (lst_len _)) ?_
  refine de_eff rfl rfl rfl rfl (yl_alloc 2 .any rfl z47 rfl) (by rintro _ _ ⟨v11, -, rfl, rfl⟩; exact ⟨rfl, trivial⟩) ?_; rintro _ _ ⟨v11, -, rfl, rfl⟩
  refine de_eff0 rfl rfl rfl rfl (Yield.weak (yl_ob (ob' := (⟨47, 8, true, true, v11, [[int x10.Now, boo x10.Closed, lst 4 GPool.av x10.Pools, lst 1 fI x10.Bal, lst 11 GRoll.av x10.Rolls, lst 1 fI x10.Prices, lst 1 fI x10.Down, lst 8 GEnt.av x10.Ahead]]⟩ : AObj)) (yl_store rfl sh47 rfl rfl rfl rfl rfl rfl rfl rfl rfl) rfl) (fun _ h => h) (fun _ _ => trivial)) (by rintro _ _ ⟨rfl, rfl⟩; exact ⟨rfl, trivial⟩) ?_; rintro _ _ ⟨rfl, rfl⟩
  refine eA ?_
  refine de_nil (hK _ ?_)
  refine tc tbk 1 (.mk ?_)
  refine jn h0 [] [] (fun (a : Bool) (k : Unit) => [(6, boo a)]) (fun a k => []) ⟨fun j12 h1 => ?_, ?_⟩
  refine tc tbk 3 (.mk ?_)
  refine sY (yv_len_sl rfl Tryz.underlying44 rfl (lst_len _)) ?_
  refine tr tbk 1 (.mk ?_)
  refine ni tbk h1 fun x13 h1 => ?_
  refine nb tbk h1 fun x14 h1 => ?_
  refine tr tbk 1 (.mk ?_)
  cases x14
  replace h1 := cf h1
  refine tr tbk 46 (.mk ?_)
  exact lf h1 () leA
  replace h1 := ct h1
  refine tr tbk 2 (.mk ?_)
  refine sY (yv_len_sl rfl Tryz.underlying45 rfl (lst_len _)) ?_
  refine tr tbk 1 (.mk ?_)
  refine nb tbk h1 fun x15 h1 => ?_
  refine tr tbk 2 (.mk ?_)
  cases x15
  replace h1 := cf h1
  refine tr tbk 39 (.mk ?_)
  exact lf h1 () leA
  replace h1 := ct h1
  refine tr tbk 4 (.mk ?_)
  refine sY (yv_len_sl rfl Tryz.underlying23 rfl (lst_len _)) ?_
  refine nb tbk h1 fun x16 h1 => ?_
  refine tr tbk 2 (.mk ?_)
  cases x16
  replace h1 := cf h1
  refine tr tbk 31 (.mk ?_)
  exact lf h1 () leA
  replace h1 := ct h1
  refine tr tbk 4 (.mk ?_)
  refine sY (yv_len_sl rfl Tryz.underlying23 rfl (lst_len _)) ?_
  refine nb tbk h1 fun x17 h1 => ?_
  refine tr tbk 2 (.mk ?_)
  cases x17
  replace h1 := cf h1
  refine tr tbk 23 (.mk ?_)
  exact lf h1 () leA
  replace h1 := ct h1
  refine tr tbk 4 (.mk ?_)
  obtain ⟨x18, e18, h1⟩ := bind_e h1
  refine sY (yv_ixT rfl Tryz.underlying23 sh22 rfl rfl e18) ?_
  refine tr tbk 1 (.mk ?_)
  refine sY (yv_len_sl rfl Tryz.underlying22 rfl (lst_len _)) ?_
  refine tr tbk 1 (.mk ?_)
  refine nb tbk h1 fun x19 h1 => ?_
  refine tr tbk 2 (.mk ?_)
  cases x19
  replace h1 := cf h1
  refine tr tbk 12 (.mk ?_)
  exact lf h1 () leA
  replace h1 := ct h1
  refine tr tbk 4 (.mk ?_)
  obtain ⟨x20, e20, h1⟩ := bind_e h1
  refine sY (yv_ixT rfl Tryz.underlying23 sh22 rfl rfl e20) ?_
  refine tr tbk 1 (.mk ?_)
  refine sY (yv_len_sl rfl Tryz.underlying22 rfl (lst_len _)) ?_
  refine tr tbk 1 (.mk ?_)
  refine nb tbk h1 fun x21 h1 => ?_
  refine tr tbk 3 (.mk ?_)
  exact lf h1 () leA
  rintro y1_1 _ h0
  obtain rfl := nxt_e h0
  refine wR hret (rT .nil) ?_
  exact .refl _
def d_stock_Ready (a1 : GState) (a2 : Int) (a3 : Int) : Option (Int) :=
(d_stock_is a1 a2 a3).bind fun x5 =>
bnd (!x5) fun x6 =>
asrt (x6 = false) <|
(ix a1.Ents a2).bind fun x7 =>
bnd x7.Closed fun x8 =>
asrt (x8 = false) <|
some ((0 : Int))
theorem d_stock_Ready_c {a1 : GState} {a2 : Int} {a3 : Int} {r : Int} (h0 : d_stock_Ready a1 a2 a3 = some r) : PP Tryz.prog 94 [.agg (GState.av a1), int a2, int a3] (fun y => y = int r) := by
  unfold d_stock_Ready at h0
  refine pp_of_pc (R0 := fun y H => Cv (frzH H) y (int r)) ?_ (fun y H hc => ⟨_, rfl, pvI r, hc⟩)
  refine pcw (c := _) Tryz.func94 rfl rfl ?_; intro Q hret hnorm
  refine tc tbk 2 (.mk ?_)
  refine sB 1 fun v4 => ?_
  refine tr tbk 9 (.mk ?_)
  obtain ⟨x5, e5, h0⟩ := bind_e h0
  refine sC cal87 (d_stock_is_c e5) ?_
  refine nb tbk h0 fun x6 h0 => ?_
  refine tr tbk 2 (.mk ?_)
  replace h0 := asrt_e h0
  obtain ⟨rfl, h0⟩ := h0
  refine tc tbk 6 (.mk ?_)
  obtain ⟨x7, e7, h0⟩ := bind_e h0
  refine sY (yv_to (y := .pp [int x7.Now, boo x7.Closed, lst 4 GPool.av x7.Pools, lst 1 fI x7.Bal, lst 11 GRoll.av x7.Rolls, lst 1 fI x7.Prices, lst 1 fI x7.Down, lst 8 GEnt.av x7.Ahead]) (yv_ixT rfl Tryz.underlying26 sh47 rfl rfl e7) (congrArg AV.pp (GEnt.av_eq x7))) ?_
  refine tr tbk 4 (.mk ?_)
  obtain ⟨x8, e8, h0⟩ := bnd_e h0
  refine c_as (t := 13) (boo x8) rfl (congrArg boo e8) ?_
  refine c_as (t := 19) (boo x8) rfl (congrArg boo e8) ?_
  replace h0 := asrt_e h0
  obtain ⟨rfl, h0⟩ := h0
  refine tc tbk 7 (.mk ?_)
  obtain rfl := nxt_e h0
  refine wR hret (rT .nil) ?_
  exact .refl _
def d_stock_in (a1 : Int) (a2 : Int) (a3 : Int) : Option (Bool) :=
(show Option (Bool) from
bnd (decide (a1 ≥ a2)) fun x5 =>
cond x5 (bnd (decide (a1 ≤ a3)) fun x6 =>
some (x6 : Bool)) (some (false : Bool))).bind <| fun y0_1 =>
some ((y0_1 : Bool))
theorem d_stock_in_c {a1 : Int} {a2 : Int} {a3 : Int} {r : Bool} (h0 : d_stock_in a1 a2 a3 = some r) : PP Tryz.prog 71 [int a1, int a2, int a3] (fun y => y = boo r) := by
  unfold d_stock_in at h0
  refine pp_of_pc (R0 := fun y H => Cv (frzH H) y (boo r)) ?_ (fun y H hc => ⟨_, rfl, pvB r, hc⟩)
  refine pcw (c := _) Tryz.func71 rfl rfl ?_; intro Q hret hnorm
  refine tc tbk 5 (.mk ?_)
  refine jn h0 [] [] (fun (a : Bool) (k : Unit) => [(6, boo a)]) (fun a k => []) ⟨fun j4 h1 => ?_, ?_⟩
  refine tc tbk 3 (.mk ?_)
  refine nb tbk h1 fun x5 h1 => ?_
  refine tr tbk 1 (.mk ?_)
  cases x5
  replace h1 := cf h1
  refine tr tbk 6 (.mk ?_)
  exact lf h1 () leA
  replace h1 := ct h1
  refine tr tbk 2 (.mk ?_)
  refine nb tbk h1 fun x6 h1 => ?_
  refine tr tbk 3 (.mk ?_)
  exact lf h1 () leA
  rintro y0_1 _ h0
  obtain rfl := nxt_e h0
  refine wR hret (rT .nil) ?_
  exact .refl _
def d_stock_place (a1 : GState) (a2 : Int) (a3 : Int) (a4 : Int) : Option (Int) :=
(show Option (Bool) from
(d_stock_is a1 a2 a3).bind fun x7 =>
bnd (!x7) fun x8 =>
cond x8 (some (true : Bool)) ((d_stock_in a4 0 1).bind fun x9 =>
bnd (!x9) fun x10 =>
some (x10 : Bool))).bind <| fun y0_1 =>
asrt (y0_1 = false) <|
bnd (w64 (a3 * 2)) fun x11 =>
bnd (w64 (x11 + a4)) fun x12 =>
some ((x12 : Int))
theorem d_stock_place_c {a1 : GState} {a2 : Int} {a3 : Int} {a4 : Int} {r : Int} (h0 : d_stock_place a1 a2 a3 a4 = some r) : PP Tryz.prog 62 [.agg (GState.av a1), int a2, int a3, int a4] (fun y => y = int r) := by
  unfold d_stock_place at h0
  refine pp_of_pc (R0 := fun y H => Cv (frzH H) y (int r)) ?_ (fun y H hc => ⟨_, rfl, pvI r, hc⟩)
  refine pcw (c := _) Tryz.func62 rfl rfl ?_; intro Q hret hnorm
  refine tc tbk 2 (.mk ?_)
  refine sB 1 fun v5 => ?_
  refine tr tbk 4 (.mk ?_)
  refine jn h0 [2, 3, 8] [] (fun (a : Bool) (k : Unit) => [(18, boo a)]) (fun a k => []) ⟨fun j6 h1 => ?_, ?_⟩
  refine tc tbk 4 (.mk ?_)
  obtain ⟨x7, e7, h1⟩ := bind_e h1
  refine sC cal87 (d_stock_is_c e7) ?_
  refine nb tbk h1 fun x8 h1 => ?_
  refine tr tbk 1 (.mk ?_)
  cases x8
  replace h1 := cf h1
  refine tr tbk 1 (.mk ?_)
  obtain ⟨x9, e9, h1⟩ := bind_e h1
  refine sC cal71 (d_stock_in_c e9) ?_
  refine nb tbk h1 fun x10 h1 => ?_
  refine tr tbk 2 (.mk ?_)
  exact lf h1 () leA
  replace h1 := ct h1
  refine tr tbk 5 (.mk ?_)
  exact lf h1 () leA
  rintro y0_1 _ h0
  replace h0 := asrt_e h0
  obtain ⟨rfl, h0⟩ := h0
  refine tc tbk 5 (.mk ?_)
  refine ni tbk h0 fun x11 h0 => ?_
  refine tr tbk 1 (.mk ?_)
  refine ni tbk h0 fun x12 h0 => ?_
  refine tr tbk 2 (.mk ?_)
  obtain rfl := nxt_e h0
  refine wR hret (rT .nil) ?_
  exact .refl _
def d_pool_with (a1 : GPool) (a2 : List GLayer) : Option (GPool) :=
some (((⟨a2, a1.Pend⟩ : GPool) : GPool))
theorem d_pool_with_c {a1 : GPool} {a2 : List GLayer} {r : GPool} (h0 : d_pool_with a1 a2 = some r) : PP Tryz.prog 202 [.agg (GPool.av a1), lst 3 GLayer.av a2] (fun y => y = .agg (GPool.av r)) := by
  unfold d_pool_with at h0
  refine pp_of_pc (R0 := fun y H => Cv (frzH H) y (.agg (GPool.av r))) ?_ (fun y H hc => ⟨_, rfl, (fun (a : GPool) => PV.agg (GPool.pvc a)) r, hc⟩)
  refine pcw (c := _) Tryz.func202 rfl rfl ?_; intro Q hret hnorm
  refine tc tbk 2 (.mk ?_)
  refine sB 1 fun v3 => ?_
  refine sA 2 z74 fun v4 => ?_
  refine tr tbk 5 (.mk ?_)
  refine sS ⟨74, 4, true, true, v3, [[lst 3 GLayer.av a2, int a1.Pend.a0, int a1.Pend.a1, int a1.Pend.a2]]⟩ sh71 ?_
  refine tr tbk 4 (.mk ?_)
  refine sS ⟨74, 4, true, true, v4, [[lst 3 GLayer.av a2, int a1.Pend.a0, int a1.Pend.a1, int a1.Pend.a2]]⟩ sh74 ?_
  refine tr tbk 1 (.mk ?_)
  obtain rfl := nxt_e h0
  refine wR hret (rC sh74 .nil) ?_
  exact .refl _
def d_pool_own (a1 : GPool) : Option (GPool) :=
asrt (a1.Layers.length ≤ 68719476736) <|
(show Option ((Unit)) from
some ()).bind <| fun _ =>
some ((a1 : GPool))
theorem d_pool_own_c {a1 : GPool} {r : GPool} (h0 : d_pool_own a1 = some r) : PP Tryz.prog 184 [.agg (GPool.av a1)] (fun y => y = .agg (GPool.av r)) := by
  unfold d_pool_own at h0
  refine pp_of_pc (R0 := fun y H => Cv (frzH H) y (.agg (GPool.av r))) ?_ (fun y H hc => ⟨_, rfl, (fun (a : GPool) => PV.agg (GPool.pvc a)) r, hc⟩)
  refine pcw (c := _) Tryz.func184 rfl rfl ?_; intro Q hret hnorm
  refine tc tbk 2 (.mk ?_)
  refine sB 1 fun v2 => ?_
  refine sA 2 z74 fun v3 => ?_
  refine tr tbk 2 (.mk ?_)
  refine c_drawE [0, 0, 2, 6, 15, 31] (rl [(0, [1]), (1, [1]), (2, [1])] []) (rl [(4, []), (5, [])] [1]) (rl [(3, false), (4, false), (5, false)] true) [0, 1, 2, 3, 4, 5] mixed (by kernel_rfl) ?_; intro K hK
  refine eL sh74 ?_
  refine eF fo74_0 ?_
  refine eL sh71 ?_
  obtain ⟨p4, h0⟩ := asrt_e h0
  refine de_eff rfl rfl rfl rfl (yl_call rfl rfl (.cons rfl .nil) cal63 (pc_cv (clone63_c (id := 3) (l := a1.Layers) rfl p4) (.cons (.refl _) .nil))) (by rintro _ _ ⟨v5, rfl, rfl⟩; exact ⟨rfl, trivial⟩) ?_; rintro _ _ ⟨v5, rfl, rfl⟩
  obtain ⟨j6, h1, h0⟩ := bind_e h0
  refine de_eff (Out := fun y H' => (∃ (a : Unit) (k : Unit), a = j6 ∧ y = .agg [.sl 3 v5 0 a1.Layers.length, int a1.Pend.a0, int a1.Pend.a1, int a1.Pend.a2] ∧ H' = hk [(1, ⟨74, 4, true, true, v2, [[lst 3 GLayer.av a1.Layers, int a1.Pend.a0, int a1.Pend.a1, int a1.Pend.a2]]⟩), (2, ⟨74, 4, true, true, v3, [[.sc (.slice none 0 0), int 0, int 0, int 0]]⟩), (3, ⟨42, 3, true, true, v5, a1.Layers.map GLayer.av⟩)])) rfl rfl rfl rfl (yl_call rfl rfl (.cons rfl (.cons rfl .nil)) cal202 ?_) (by rintro y _ ⟨_, _, rfl, hc, rfl⟩ <;> exact trivial) ?_
  refine pcw (c := _) Tryz.func202 rfl rfl ?_; intro Q hret hnorm
  refine tc tbk 2 (.mk ?_)
  refine sB 4 fun v7 => ?_
  refine sA 5 z74 fun v8 => ?_
  refine tr tbk 5 (.mk ?_)
  refine sS ⟨74, 4, true, true, v7, [[.sl 3 v5 0 a1.Layers.length, int a1.Pend.a0, int a1.Pend.a1, int a1.Pend.a2]]⟩ sh71 ?_
  refine tr tbk 4 (.mk ?_)
  refine sS ⟨74, 4, true, true, v8, [[.sl 3 v5 0 a1.Layers.length, int a1.Pend.a0, int a1.Pend.a1, int a1.Pend.a2]]⟩ sh74 ?_
  refine tr tbk 1 (.mk ?_)
  obtain rfl := nxt_e h1
  refine w_ret (hret _ _ (hk [(1, ⟨74, 4, true, true, v2, [[lst 3 GLayer.av a1.Layers, int a1.Pend.a0, int a1.Pend.a1, int a1.Pend.a2]]⟩), (2, ⟨74, 4, true, true, v3, [[.sc (.slice none 0 0), int 0, int 0, int 0]]⟩), (3, ⟨42, 3, true, true, v5, a1.Layers.map GLayer.av⟩)]) (.cell rfl (.pt rfl rfl rfl) sh74 rfl .nil) (HK.le ⟨rfl, rfl, rfl, trivial⟩) ?_)
  exact ⟨(), (), rfl, rfl, rfl⟩
  rintro y _ ⟨_, _, rfl, hc, rfl⟩
  subst hc
  refine de_eff0 rfl rfl rfl rfl (Yield.weak (yl_ob (ob' := (⟨74, 4, true, true, v3, [[.sl 3 v5 0 a1.Layers.length, int a1.Pend.a0, int a1.Pend.a1, int a1.Pend.a2]]⟩ : AObj)) (yl_store rfl sh74 rfl rfl rfl rfl rfl rfl rfl rfl rfl) rfl) (fun _ h => h) (fun _ _ => trivial)) (by rintro _ _ ⟨rfl, rfl⟩; exact trivial) ?_; rintro _ _ ⟨rfl, rfl⟩
  refine de_nil (hK _ ?_)
  obtain rfl := nxt_e h0
  refine wR hret (rC sh74 .nil) ?_
  exact (CvL.agg (.cons (cv_lst rfl rfl rfl rfl rfl (Eq.symm rfl)) (.cons (.refl _) (.cons (.refl _) (.cons (.refl _) .nil)))))
def d_fifo_has_L0 (a1 : List GLayer) : Nat → Int → Int → Option ((Unit) ⊕ (Bool))
  | 0, _, _ => none
  | n + 1, y0_1, y0_2 =>
    bnd (decide (y0_2 < (a1.length : Int))) fun x4 =>
    cond x4 ((ix a1 y0_2).bind fun x5 =>
    bnd (if 0 > x5.Qty then 0 else x5.Qty) fun x7 =>
    bnd (if y0_1 < x7 then y0_1 else x7) fun x8 =>
    bnd (w64 (y0_1 - x8)) fun x9 =>
    bnd (decide (x9 = 0)) fun x10 =>
    cond x10 (esc (some ((true : Bool)))) (bnd (w64 (y0_2 + 1)) fun x11 =>
    d_fifo_has_L0 a1 n (x9 : Int) (x11 : Int))) (brk ())
def d_fifo_has (n : Nat) (a1 : List GLayer) (a2 : Int) : Option (Bool) :=
(show Option ((Unit) ⊕ (Bool)) from
d_fifo_has_L0 a1 n (a2 : Int) (0 : Int)).bind <| sel <| fun _ =>
some ((false : Bool))
theorem d_fifo_has_c {n : Nat} {a1 : List GLayer} {a2 : Int} {r : Bool} (h0 : d_fifo_has n a1 a2 = some r) : PP Tryz.prog 197 [lst 3 GLayer.av a1, int a2] (fun y => y = boo r) := by
  unfold d_fifo_has at h0
  refine pp_of_pc (R0 := fun y H => Cv (frzH H) y (boo r)) ?_ (fun y H hc => ⟨_, rfl, pvB r, hc⟩)
  refine pcw (c := _) Tryz.func197 rfl rfl ?_; intro Q hret hnorm
  refine tc tbk 8 (.mk ?_)
  refine sY (yv_len_sl rfl Tryz.underlying71 rfl (lst_len _)) ?_
  refine tr tbk 2 (.mk ?_)
  refine jnE h0 [4] [] (fun (a : Unit) (k : Unit) => []) (fun a k => []) ⟨fun j3 h1 h0 => ?_, ?_⟩
  refine tc tbk 1 (.mk ?_)
  refine lp (fun n (a : Int × Int) => d_fifo_has_L0 a1 n a.1 a.2) ((a2 : Int), (0 : Int)) () h1 [4, 7, 8] [] (fun (a : Int × Int) (k : Unit) => [(1, int a.1), (9, int a.2)]) (fun a k => []) (fun _ => rfl) ⟨leA, ?_⟩
  rintro n ⟨y0_1, y0_2⟩ _ hm h1
  replace h1 : d_fifo_has_L0 a1 (n + 1) y0_1 y0_2 = some _ := h1
  rw [d_fifo_has_L0] at h1
  refine tc tbk 2 (.mk ?_)
  refine nb tbk h1 fun x4 h1 => ?_
  refine tr tbk 2 (.mk ?_)
  cases x4
  replace h1 := cf h1
  refine tc tbk 2 (.mk ?_)
  exact lfE h1 () leA
  replace h1 := ct h1
  refine tc tbk 6 (.mk ?_)
  obtain ⟨x5, e5, h1⟩ := bind_e h1
  refine sY (yv_ixT rfl Tryz.underlying71 sh42 rfl rfl e5) ?_
  refine tr tbk 1 (.mk ?_)
  refine sA 1 z42 fun v6 => ?_
  refine sS ⟨42, 3, true, true, v6, [[int x5.Qty, int x5.Value, int x5.Profit]]⟩ sh42 ?_
  refine tr tbk 6 (.mk ?_)
  obtain ⟨x7, e7, h1⟩ := bnd_e h1
  refine sY (yv_max rfl rfl rfl e7) ?_
  refine tr tbk 1 (.mk ?_)
  obtain ⟨x8, e8, h1⟩ := bnd_e h1
  refine sY (yv_min rfl rfl rfl e8) ?_
  refine ni tbk h1 fun x9 h1 => ?_
  refine tr tbk 5 (.mk ?_)
  refine nb tbk h1 fun x10 h1 => ?_
  refine tr tbk 1 (.mk ?_)
  cases x10
  replace h1 := cf h1
  refine tc tbk 4 (.mk ?_)
  refine ni tbk h1 fun x11 h1 => ?_
  refine tr tbk 2 (.mk ?_)
  exact bk (x9, x11) () h1 leA
  replace h1 := ct h1
  refine tc tbk 5 (.mk ?_)
  obtain ⟨c12, hX, hj⟩ := esc_e h1; subst hj; replace h0 := hX.trans (sel_r h0)
  obtain rfl := nxt_e h0
  refine wR hret (rT .nil) ?_
  exact .refl _
  rintro _ _ h0
  refine tc tbk 4 (.mk ?_)
  obtain rfl := nxt_e h0
  refine wR hret (rT .nil) ?_
  exact .refl _
def d_money_in (a1 : Int) : Option (Bool) :=
(show Option (Bool) from
bnd (decide (a1 ≥ (-288230376151711744))) fun x3 =>
cond x3 (bnd (decide (a1 ≤ 288230376151711744)) fun x4 =>
some (x4 : Bool)) (some (false : Bool))).bind <| fun y0_1 =>
some ((y0_1 : Bool))
theorem d_money_in_c {a1 : Int} {r : Bool} (h0 : d_money_in a1 = some r) : PP Tryz.prog 113 [int a1] (fun y => y = boo r) := by
  unfold d_money_in at h0
  refine pp_of_pc (R0 := fun y H => Cv (frzH H) y (boo r)) ?_ (fun y H hc => ⟨_, rfl, pvB r, hc⟩)
  refine pcw (c := _) Tryz.func113 rfl rfl ?_; intro Q hret hnorm
  refine tc tbk 5 (.mk ?_)
  refine jn h0 [] [] (fun (a : Bool) (k : Unit) => [(2, boo a)]) (fun a k => []) ⟨fun j2 h1 => ?_, ?_⟩
  refine tc tbk 2 (.mk ?_)
  refine nb tbk h1 fun x3 h1 => ?_
  refine tr tbk 1 (.mk ?_)
  cases x3
  replace h1 := cf h1
  refine tr tbk 5 (.mk ?_)
  exact lf h1 () leA
  replace h1 := ct h1
  refine tr tbk 1 (.mk ?_)
  refine nb tbk h1 fun x4 h1 => ?_
  refine tr tbk 3 (.mk ?_)
  exact lf h1 () leA
  rintro y0_1 _ h0
  obtain rfl := nxt_e h0
  refine wR hret (rT .nil) ?_
  exact .refl _
def d_money_Wide (a1 : Int) (a2 : Int) : Option (Int × Int) :=
bnd (wu64 a1) fun x3 =>
bnd (wu64 a2) fun x4 =>
bnd (x3.tmod 4294967296) fun x5 =>
bnd (x4.tmod 4294967296) fun x6 =>
bnd (wu64 (x5 * x6)) fun x7 =>
bnd (wu64 (x3.tdiv 4294967296)) fun x8 =>
bnd (x4.tmod 4294967296) fun x9 =>
bnd (wu64 (x8 * x9)) fun x10 =>
bnd (x3.tmod 4294967296) fun x11 =>
bnd (wu64 (x4.tdiv 4294967296)) fun x12 =>
bnd (wu64 (x11 * x12)) fun x13 =>
bnd (wu64 (x3.tdiv 4294967296)) fun x14 =>
bnd (wu64 (x4.tdiv 4294967296)) fun x15 =>
bnd (wu64 (x14 * x15)) fun x16 =>
bnd (wu64 (x7.tdiv 4294967296)) fun x18 =>
bnd (x10.tmod 4294967296) fun x19 =>
bnd (wu64 (x18 + x19)) fun x20 =>
bnd (x13.tmod 4294967296) fun x21 =>
bnd (wu64 (x20 + x21)) fun x22 =>
bnd (wu64 (x10.tdiv 4294967296)) fun x23 =>
bnd (wu64 (x16 + x23)) fun x24 =>
bnd (wu64 (x13.tdiv 4294967296)) fun x25 =>
bnd (wu64 (x24 + x25)) fun x26 =>
bnd (wu64 (x22.tdiv 4294967296)) fun x27 =>
bnd (wu64 (x26 + x27)) fun x28 =>
bnd (wu64 (x3 * x4)) fun x29 =>
some ((x28 : Int), (x29 : Int))
theorem d_money_Wide_c {a1 : Int} {a2 : Int} {r : Int × Int} (h0 : d_money_Wide a1 a2 = some r) : PP Tryz.prog 92 [int a1, int a2] (fun y => y = .tup [.sc (.int .u64 r.1), .sc (.int .u64 r.2)]) := by
  unfold d_money_Wide at h0
  refine pp_of_pc (R0 := fun y H => Cv (frzH H) y (.tup [.sc (.int .u64 r.1), .sc (.int .u64 r.2)])) ?_ (fun y H hc => ⟨_, rfl, .tup (pvl2 ((pvK .u64) (r.1)) ((pvK .u64) (r.2))), hc⟩)
  refine pcw (c := _) Tryz.func92 rfl rfl ?_; intro Q hret hnorm
  refine tc tbk 8 (.mk ?_)
  refine ni tbk h0 fun x3 h0 => ?_
  refine tr tbk 1 (.mk ?_)
  refine ni tbk h0 fun x4 h0 => ?_
  refine tr tbk 6 (.mk ?_)
  refine ni tbk h0 fun x5 h0 => ?_
  refine tr tbk 1 (.mk ?_)
  refine ni tbk h0 fun x6 h0 => ?_
  refine ni tbk h0 fun x7 h0 => ?_
  refine tr tbk 1 (.mk ?_)
  refine ni tbk h0 fun x8 h0 => ?_
  refine tr tbk 1 (.mk ?_)
  refine ni tbk h0 fun x9 h0 => ?_
  refine ni tbk h0 fun x10 h0 => ?_
  refine tr tbk 1 (.mk ?_)
  refine ni tbk h0 fun x11 h0 => ?_
  refine tr tbk 1 (.mk ?_)
  refine ni tbk h0 fun x12 h0 => ?_
  refine ni tbk h0 fun x13 h0 => ?_
  refine tr tbk 1 (.mk ?_)
  refine ni tbk h0 fun x14 h0 => ?_
  refine tr tbk 1 (.mk ?_)
  refine ni tbk h0 fun x15 h0 => ?_
  refine ni tbk h0 fun x16 h0 => ?_
  refine sY (yv_buildA (cs := [.sc (.int .u64 x7), .sc (.int .u64 x10), .sc (.int .u64 x13), .sc (.int .u64 x16)]) (ps := [(0, _), (1, _), (2, _), (3, _)]) rfl Tryz.underlying205 sh161 z205 rfl (.cons rfl (.cons rfl (.cons rfl (.cons rfl .nil)))) (by kernel_rfl)) ?_
  refine sA 1 z205 fun v17 => ?_
  refine sS ⟨205, 4, true, true, v17, [[.sc (.int .u64 x7), .sc (.int .u64 x10), .sc (.int .u64 x13), .sc (.int .u64 x16)]]⟩ sh205 ?_
  refine tr tbk 3 (.mk ?_)
  refine sY (yv_to (y := .pt 1 v17 0 0) (yv_indexAddrA rfl Tryz.underlying205 sh161 rfl rfl rfl rfl rfl (by decide)) rfl) ?_
  refine tr tbk 1 (.mk ?_)
  refine ni tbk h0 fun x18 h0 => ?_
  refine sY (yv_to (y := .pt 1 v17 0 1) (yv_indexAddrA rfl Tryz.underlying205 sh161 rfl rfl rfl rfl rfl (by decide)) rfl) ?_
  refine tr tbk 1 (.mk ?_)
  refine ni tbk h0 fun x19 h0 => ?_
  refine ni tbk h0 fun x20 h0 => ?_
  refine sY (yv_to (y := .pt 1 v17 0 2) (yv_indexAddrA rfl Tryz.underlying205 sh161 rfl rfl rfl rfl rfl (by decide)) rfl) ?_
  refine tr tbk 1 (.mk ?_)
  refine ni tbk h0 fun x21 h0 => ?_
  refine ni tbk h0 fun x22 h0 => ?_
  refine tr tbk 4 (.mk ?_)
  refine sY (yv_to (y := .pt 1 v17 0 3) (yv_indexAddrA rfl Tryz.underlying205 sh161 rfl rfl rfl rfl rfl (by decide)) rfl) ?_
  refine tr tbk 1 (.mk ?_)
  refine sY (yv_to (y := .pt 1 v17 0 1) (yv_indexAddrA rfl Tryz.underlying205 sh161 rfl rfl rfl rfl rfl (by decide)) rfl) ?_
  refine tr tbk 1 (.mk ?_)
  refine ni tbk h0 fun x23 h0 => ?_
  refine ni tbk h0 fun x24 h0 => ?_
  refine sY (yv_to (y := .pt 1 v17 0 2) (yv_indexAddrA rfl Tryz.underlying205 sh161 rfl rfl rfl rfl rfl (by decide)) rfl) ?_
  refine tr tbk 1 (.mk ?_)
  refine ni tbk h0 fun x25 h0 => ?_
  refine ni tbk h0 fun x26 h0 => ?_
  refine tr tbk 1 (.mk ?_)
  refine ni tbk h0 fun x27 h0 => ?_
  refine ni tbk h0 fun x28 h0 => ?_
  refine tr tbk 2 (.mk ?_)
  refine ni tbk h0 fun x29 h0 => ?_
  refine tr tbk 3 (.mk ?_)
  obtain rfl := nxt_e h0
  refine wR hret (rT (rT .nil)) ?_
  exact .refl _
def d_math_bits_Len64 (a1 : Int) : Option (Int) :=
bnd (decide (a1 ≥ 4294967296)) fun x2 =>
(show Option (Int × Int) from
cond x2 (bnd (a1.fdiv (2 ^ (min (32 : Int).toNat IntKind.u64.bits))) fun x4 =>
some ((x4 : Int), (32 : Int))) (some ((a1 : Int), (0 : Int)))).bind <| p2 fun (y0_1 : Int) (y0_2 : Int) =>
bnd (decide (y0_1 ≥ 65536)) fun x5 =>
(show Option (Int × Int) from
cond x5 (bnd (y0_1.fdiv (2 ^ (min (16 : Int).toNat IntKind.u64.bits))) fun x7 =>
bnd (w64 (y0_2 + 16)) fun x8 =>
some ((x7 : Int), (x8 : Int))) (some ((y0_1 : Int), (y0_2 : Int)))).bind <| p2 fun (y1_1 : Int) (y1_2 : Int) =>
bnd (decide (y1_1 ≥ 256)) fun x9 =>
(show Option (Int × Int) from
cond x9 (bnd (y1_1.fdiv (2 ^ (min (8 : Int).toNat IntKind.u64.bits))) fun x11 =>
bnd (w64 (y1_2 + 8)) fun x12 =>
some ((x11 : Int), (x12 : Int))) (some ((y1_1 : Int), (y1_2 : Int)))).bind <| p2 fun (y2_1 : Int) (y2_2 : Int) =>
bnd (wu8 y2_1) fun x13 =>
(ix ([0, 1, 2, 2, 3, 3, 3, 3, 4, 4, 4, 4, 4, 4, 4, 4, 5, 5, 5, 5, 5, 5, 5, 5, 5, 5, 5, 5, 5, 5, 5, 5, 6, 6, 6, 6, 6, 6, 6, 6, 6, 6, 6, 6, 6, 6, 6, 6, 6, 6, 6, 6, 6, 6, 6, 6, 6, 6, 6, 6, 6, 6, 6, 6, 7, 7, 7, 7, 7, 7, 7, 7, 7, 7, 7, 7, 7, 7, 7, 7, 7, 7, 7, 7, 7, 7, 7, 7, 7, 7, 7, 7, 7, 7, 7, 7, 7, 7, 7, 7, 7, 7, 7, 7, 7, 7, 7, 7, 7, 7, 7, 7, 7, 7, 7, 7, 7, 7, 7, 7, 7, 7, 7, 7, 7, 7, 7, 7, 8, 8, 8, 8, 8, 8, 8, 8, 8, 8, 8, 8, 8, 8, 8, 8, 8, 8, 8, 8, 8, 8, 8, 8, 8, 8, 8, 8, 8, 8, 8, 8, 8, 8, 8, 8, 8, 8, 8, 8, 8, 8, 8, 8, 8, 8, 8, 8, 8, 8, 8, 8, 8, 8, 8, 8, 8, 8, 8, 8, 8, 8, 8, 8, 8, 8, 8, 8, 8, 8, 8, 8, 8, 8, 8, 8, 8, 8, 8, 8, 8, 8, 8, 8, 8, 8, 8, 8, 8, 8, 8, 8, 8, 8, 8, 8, 8, 8, 8, 8, 8, 8, 8, 8, 8, 8, 8, 8, 8, 8, 8, 8, 8, 8, 8, 8, 8, 8, 8, 8, 8, 8, 8, 8, 8, 8, 8, 8] : List UInt8) x13).bind fun x14 =>
bnd (w64 (x14.toNat : Int)) fun x15 =>
bnd (w64 (y2_2 + x15)) fun x16 =>
some ((x16 : Int))
theorem d_math_bits_Len64_c {a1 : Int} {r : Int} (h0 : d_math_bits_Len64 a1 = some r) : PP Tryz.prog 210 [.sc (.int .u64 a1)] (fun y => y = int r) := by
  unfold d_math_bits_Len64 at h0
  refine pp_of_pc (R0 := fun y H => Cv (frzH H) y (int r)) ?_ (fun y H hc => ⟨_, rfl, pvI r, hc⟩)
  refine pcw (c := _) Tryz.func210 rfl rfl ?_; intro Q hret hnorm
  refine tc tbk 8 (.mk ?_)
  refine nb tbk h0 fun x2 h0 => ?_
  refine tr tbk 1 (.mk ?_)
  refine jn h0 [] [] (fun (a : Int × Int) (k : Unit) => [(0, .sc (.int .u64 a.1)), (2, int a.2)]) (fun a k => []) ⟨fun j3 h1 => ?_, ?_⟩
  cases x2
  replace h1 := cf h1
  refine tc tbk 2 (.mk ?_)
  exact lf h1 () leA
  replace h1 := ct h1
  refine tc tbk 4 (.mk ?_)
  refine ni tbk h1 fun x4 h1 => ?_
  refine tr tbk 5 (.mk ?_)
  exact lf h1 () leA
  rintro ⟨y0_1, y0_2⟩ _ h0
  replace h0 := p2_e h0
  refine tc tbk 4 (.mk ?_)
  refine nb tbk h0 fun x5 h0 => ?_
  refine tr tbk 1 (.mk ?_)
  refine jn h0 [] [] (fun (a : Int × Int) (k : Unit) => [(0, .sc (.int .u64 a.1)), (2, int a.2)]) (fun a k => []) ⟨fun j6 h1 => ?_, ?_⟩
  cases x5
  replace h1 := cf h1
  refine tc tbk 2 (.mk ?_)
  exact lf h1 () leA
  replace h1 := ct h1
  refine tc tbk 4 (.mk ?_)
  refine ni tbk h1 fun x7 h1 => ?_
  refine tr tbk 4 (.mk ?_)
  refine ni tbk h1 fun x8 h1 => ?_
  refine tr tbk 2 (.mk ?_)
  exact lf h1 () leA
  rintro ⟨y1_1, y1_2⟩ _ h0
  replace h0 := p2_e h0
  refine tc tbk 4 (.mk ?_)
  refine nb tbk h0 fun x9 h0 => ?_
  refine tr tbk 1 (.mk ?_)
  refine jn h0 [] [] (fun (a : Int × Int) (k : Unit) => [(0, .sc (.int .u64 a.1)), (2, int a.2)]) (fun a k => []) ⟨fun j10 h1 => ?_, ?_⟩
  cases x9
  replace h1 := cf h1
  refine tc tbk 2 (.mk ?_)
  exact lf h1 () leA
  replace h1 := ct h1
  refine tc tbk 4 (.mk ?_)
  refine ni tbk h1 fun x11 h1 => ?_
  refine tr tbk 4 (.mk ?_)
  refine ni tbk h1 fun x12 h1 => ?_
  refine tr tbk 2 (.mk ?_)
  exact lf h1 () leA
  rintro ⟨y2_1, y2_2⟩ _ h0
  replace h0 := p2_e h0
  refine tc tbk 4 (.mk ?_)
  refine ni tbk h0 fun x13 h0 => ?_
  obtain ⟨x14, e14, h0⟩ := bind_e h0
  refine sY (yv_index_str rfl Tryz.underlying9 rfl rfl (ix_e e14).1 (ix_e e14).2) ?_
  refine ni tbk h0 fun x15 h0 => ?_
  refine ni tbk h0 fun x16 h0 => ?_
  refine tr tbk 2 (.mk ?_)
  obtain rfl := nxt_e h0
  refine wR hret (rT .nil) ?_
  exact .refl _
def d_math_bits_LeadingZeros64 (a1 : Int) : Option (Int) :=
(d_math_bits_Len64 a1).bind fun x2 =>
bnd (w64 (64 - x2)) fun x3 =>
some ((x3 : Int))
theorem d_math_bits_LeadingZeros64_c {a1 : Int} {r : Int} (h0 : d_math_bits_LeadingZeros64 a1 = some r) : PP Tryz.prog 200 [.sc (.int .u64 a1)] (fun y => y = int r) := by
  unfold d_math_bits_LeadingZeros64 at h0
  refine pp_of_pc (R0 := fun y H => Cv (frzH H) y (int r)) ?_ (fun y H hc => ⟨_, rfl, pvI r, hc⟩)
  refine pcw (c := _) Tryz.func200 rfl rfl ?_; intro Q hret hnorm
  refine tc tbk 7 (.mk ?_)
  obtain ⟨x2, e2, h0⟩ := bind_e h0
  refine sC cal210 (d_math_bits_Len64_c e2) ?_
  refine ni tbk h0 fun x3 h0 => ?_
  refine tr tbk 2 (.mk ?_)
  obtain rfl := nxt_e h0
  refine wR hret (rT .nil) ?_
  exact .refl _
def d_math_bits_Div64_L0 (x11 : Int) (x12 : Int) (x21 : Int) : Nat → Int → Int → Option (Int)
  | 0, _, _ => none
  | n + 1, y0_1, y0_2 =>
    (show Option (Bool) from
    bnd (decide (y0_1 ≥ 4294967296)) fun x29 =>
    cond x29 (some (true : Bool)) (bnd (wu64 (y0_1 * x12)) fun x30 =>
    bnd (wu64 (4294967296 * y0_2)) fun x31 =>
    bnd (wu64 (x31 + x21)) fun x32 =>
    bnd (decide (x30 > x32)) fun x33 =>
    some (x33 : Bool))).bind <| fun y1_1 =>
    cond y1_1 (bnd (wu64 (y0_1 - 1)) fun x34 =>
    bnd (wu64 (y0_2 + x11)) fun x35 =>
    bnd (decide (x35 ≥ 4294967296)) fun x36 =>
    cond x36 (some (x34 : Int)) (d_math_bits_Div64_L0 x11 x12 x21 n (x34 : Int) (x35 : Int))) (some (y0_1 : Int))
def d_math_bits_Div64_L1 (x11 : Int) (x12 : Int) (x22 : Int) : Nat → Int → Int → Option (Int)
  | 0, _, _ => none
  | n + 1, y3_1, y3_2 =>
    (show Option (Bool) from
    bnd (decide (y3_2 ≥ 4294967296)) fun x47 =>
    cond x47 (some (true : Bool)) (bnd (wu64 (y3_2 * x12)) fun x48 =>
    bnd (wu64 (4294967296 * y3_1)) fun x49 =>
    bnd (wu64 (x49 + x22)) fun x50 =>
    bnd (decide (x48 > x50)) fun x51 =>
    some (x51 : Bool))).bind <| fun y4_1 =>
    cond y4_1 (bnd (wu64 (y3_2 - 1)) fun x52 =>
    bnd (wu64 (y3_1 + x11)) fun x53 =>
    bnd (decide (x53 ≥ 4294967296)) fun x54 =>
    cond x54 (some (x52 : Int)) (d_math_bits_Div64_L1 x11 x12 x22 n (x53 : Int) (x52 : Int))) (some (y3_2 : Int))
def d_math_bits_Div64 (n : Nat) (a1 : Int) (a2 : Int) (a3 : Int) : Option (Int × Int) :=
bnd (decide (a3 = 0)) fun x4 =>
cond x4 (none) (bnd (decide (a3 ≤ a1)) fun x5 =>
cond x5 (none) (bnd (decide (a1 = 0)) fun x6 =>
cond x6 (asrt (a3 ≠ 0) <|
bnd (wu64 (a2.tdiv a3)) fun x64 =>
asrt (a3 ≠ 0) <|
bnd (a2.tmod a3) fun x66 =>
some ((x64 : Int), (x66 : Int))) ((d_math_bits_LeadingZeros64 a3).bind fun x7 =>
bnd (wu64 x7) fun x8 =>
asrt ((0 : Int) ≤ x8) <|
bnd (wu64 (a3 * (2 ^ (min x8.toNat IntKind.u64.bits)))) fun x10 =>
bnd (x10.fdiv (2 ^ (min (32 : Int).toNat IntKind.u64.bits))) fun x11 =>
bnd (wu64 ((BitVec.ofInt IntKind.u64.bits x10 &&& BitVec.ofInt IntKind.u64.bits 4294967295).toNat : Int)) fun x12 =>
asrt ((0 : Int) ≤ x8) <|
bnd (wu64 (a1 * (2 ^ (min x8.toNat IntKind.u64.bits)))) fun x14 =>
bnd (wu64 (64 - x8)) fun x15 =>
asrt ((0 : Int) ≤ x15) <|
bnd (a2.fdiv (2 ^ (min x15.toNat IntKind.u64.bits))) fun x17 =>
bnd (wu64 ((BitVec.ofInt IntKind.u64.bits x14 ||| BitVec.ofInt IntKind.u64.bits x17).toNat : Int)) fun x18 =>
asrt ((0 : Int) ≤ x8) <|
bnd (wu64 (a2 * (2 ^ (min x8.toNat IntKind.u64.bits)))) fun x20 =>
bnd (x20.fdiv (2 ^ (min (32 : Int).toNat IntKind.u64.bits))) fun x21 =>
bnd (wu64 ((BitVec.ofInt IntKind.u64.bits x20 &&& BitVec.ofInt IntKind.u64.bits 4294967295).toNat : Int)) fun x22 =>
asrt (x11 ≠ 0) <|
bnd (wu64 (x18.tdiv x11)) fun x24 =>
bnd (wu64 (x24 * x11)) fun x25 =>
bnd (wu64 (x18 - x25)) fun x26 =>
(show Option (Int) from
d_math_bits_Div64_L0 x11 x12 x21 n (x24 : Int) (x26 : Int)).bind <| fun y2_1 =>
bnd (wu64 (x18 * 4294967296)) fun x37 =>
bnd (wu64 (x37 + x21)) fun x38 =>
bnd (wu64 (y2_1 * x10)) fun x39 =>
bnd (wu64 (x38 - x39)) fun x40 =>
asrt (x11 ≠ 0) <|
bnd (wu64 (x40.tdiv x11)) fun x42 =>
bnd (wu64 (x42 * x11)) fun x43 =>
bnd (wu64 (x40 - x43)) fun x44 =>
(show Option (Int) from
d_math_bits_Div64_L1 x11 x12 x22 n (x44 : Int) (x42 : Int)).bind <| fun y5_1 =>
bnd (wu64 (y2_1 * 4294967296)) fun x55 =>
bnd (wu64 (x55 + y5_1)) fun x56 =>
bnd (wu64 (x40 * 4294967296)) fun x57 =>
bnd (wu64 (x57 + x22)) fun x58 =>
bnd (wu64 (y5_1 * x10)) fun x59 =>
bnd (wu64 (x58 - x59)) fun x60 =>
asrt ((0 : Int) ≤ x8) <|
bnd (x60.fdiv (2 ^ (min x8.toNat IntKind.u64.bits))) fun x62 =>
some ((x56 : Int), (x62 : Int)))))
theorem d_math_bits_Div64_c {n : Nat} {a1 : Int} {a2 : Int} {a3 : Int} {r : Int × Int} (h0 : d_math_bits_Div64 n a1 a2 a3 = some r) : PP Tryz.prog 181 [.sc (.int .u64 a1), .sc (.int .u64 a2), .sc (.int .u64 a3)] (fun y => y = .tup [.sc (.int .u64 r.1), .sc (.int .u64 r.2)]) := by
  unfold d_math_bits_Div64 at h0
  refine pp_of_pc (R0 := fun y H => Cv (frzH H) y (.tup [.sc (.int .u64 r.1), .sc (.int .u64 r.2)])) ?_ (fun y H hc => ⟨_, rfl, .tup (pvl2 ((pvK .u64) (r.1)) ((pvK .u64) (r.2))), hc⟩)
  refine pcw (c := _) Tryz.func181 rfl rfl ?_; intro Q hret hnorm
  refine tc tbk 9 (.mk ?_)
  refine nb tbk h0 fun x4 h0 => ?_
  refine tr tbk 1 (.mk ?_)
  cases x4
  replace h0 := cf h0
  refine tc tbk 7 (.mk ?_)
  refine nb tbk h0 fun x5 h0 => ?_
  refine tr tbk 1 (.mk ?_)
  cases x5
  replace h0 := cf h0
  refine tc tbk 6 (.mk ?_)
  refine nb tbk h0 fun x6 h0 => ?_
  refine tr tbk 1 (.mk ?_)
  cases x6
  replace h0 := cf h0
  refine tc tbk 5 (.mk ?_)
  obtain ⟨x7, e7, h0⟩ := bind_e h0
  refine sC cal200 (d_math_bits_LeadingZeros64_c e7) ?_
  refine ni tbk h0 fun x8 h0 => ?_
  refine tr tbk 6 (.mk ?_)
  obtain ⟨p9, h0⟩ := asrt_e h0
  obtain ⟨x10, e10, h0⟩ := bnd_e h0
  refine sY (yv_shl rfl rfl rfl p9 e10) ?_
  refine tr tbk 5 (.mk ?_)
  refine ni tbk h0 fun x11 h0 => ?_
  refine tr tbk 5 (.mk ?_)
  obtain ⟨x12, e12, h0⟩ := bnd_e h0
  refine sY (yv_and rfl rfl rfl e12) ?_
  refine tr tbk 6 (.mk ?_)
  obtain ⟨p13, h0⟩ := asrt_e h0
  obtain ⟨x14, e14, h0⟩ := bnd_e h0
  refine sY (yv_shl rfl rfl rfl p13 e14) ?_
  refine tr tbk 2 (.mk ?_)
  refine ni tbk h0 fun x15 h0 => ?_
  obtain ⟨p16, h0⟩ := asrt_e h0
  obtain ⟨x17, e17, h0⟩ := bnd_e h0
  refine sY (yv_shr rfl rfl rfl p16 e17) ?_
  obtain ⟨x18, e18, h0⟩ := bnd_e h0
  refine sY (yv_or rfl rfl rfl e18) ?_
  refine tr tbk 6 (.mk ?_)
  obtain ⟨p19, h0⟩ := asrt_e h0
  obtain ⟨x20, e20, h0⟩ := bnd_e h0
  refine sY (yv_shl rfl rfl rfl p19 e20) ?_
  refine tr tbk 5 (.mk ?_)
  refine ni tbk h0 fun x21 h0 => ?_
  refine tr tbk 5 (.mk ?_)
  obtain ⟨x22, e22, h0⟩ := bnd_e h0
  refine sY (yv_and rfl rfl rfl e22) ?_
  refine tr tbk 6 (.mk ?_)
  obtain ⟨p23, h0⟩ := asrt_e h0
  obtain ⟨x24, e24, h0⟩ := bnd_e h0
  refine sY (yv_quo rfl rfl rfl p23 e24) ?_
  refine tr tbk 7 (.mk ?_)
  refine ni tbk h0 fun x25 h0 => ?_
  refine ni tbk h0 fun x26 h0 => ?_
  refine tr tbk 3 (.mk ?_)
  refine jn h0 [2, 6, 7, 8, 9, 10, 11, 13, 14] [] (fun (a : Int) (k : Unit) => [(15, .sc (.int .u64 a))]) (fun a k => []) ⟨fun j27 h1 => ?_, ?_⟩
  refine tc tbk 1 (.mk ?_)
  refine lp (fun n (a : Int × Int) => d_math_bits_Div64_L0 x11 x12 x21 n a.1 a.2) ((x24 : Int), (x26 : Int)) () h1 [2, 6, 7, 8, 9, 10, 11, 13, 14] [] (fun (a : Int × Int) (k : Unit) => [(15, .sc (.int .u64 a.1)), (16, .sc (.int .u64 a.2))]) (fun a k => []) (fun _ => rfl) ⟨leA, ?_⟩
  rintro n ⟨y0_1, y0_2⟩ _ hm h1
  replace h1 : d_math_bits_Div64_L0 x11 x12 x21 (n + 1) y0_1 y0_2 = some _ := h1
  rw [d_math_bits_Div64_L0] at h1
  refine tc tbk 2 (.mk ?_)
  refine jn h1 [2, 6, 7, 8, 9, 10, 11, 13, 14, 15, 16] [] (fun (a : Bool) (k : Unit) => [(78, boo a)]) (fun a k => []) ⟨fun j28 h2 => ?_, ?_⟩
  refine tc tbk 2 (.mk ?_)
  refine nb tbk h2 fun x29 h2 => ?_
  refine tr tbk 1 (.mk ?_)
  cases x29
  replace h2 := cf h2
  refine tr tbk 2 (.mk ?_)
  refine ni tbk h2 fun x30 h2 => ?_
  refine tr tbk 1 (.mk ?_)
  refine ni tbk h2 fun x31 h2 => ?_
  refine tr tbk 1 (.mk ?_)
  refine ni tbk h2 fun x32 h2 => ?_
  refine nb tbk h2 fun x33 h2 => ?_
  refine tr tbk 2 (.mk ?_)
  exact lf h2 () leA
  replace h2 := ct h2
  refine tr tbk 10 (.mk ?_)
  exact lf h2 () leA
  rintro y1_1 _ h1
  cases y1_1
  replace h1 := cf h1
  refine tc tbk 2 (.mk ?_)
  exact lf h1 () leA
  replace h1 := ct h1
  refine tc tbk 6 (.mk ?_)
  refine ni tbk h1 fun x34 h1 => ?_
  refine tr tbk 6 (.mk ?_)
  refine ni tbk h1 fun x35 h1 => ?_
  refine tr tbk 5 (.mk ?_)
  refine nb tbk h1 fun x36 h1 => ?_
  refine tr tbk 1 (.mk ?_)
  cases x36
  replace h1 := cf h1
  refine tc tbk 3 (.mk ?_)
  exact bk (x34, x35) () h1 leA
  replace h1 := ct h1
  refine tc tbk 2 (.mk ?_)
  exact lf h1 () leA
  rintro y2_1 _ h0
  refine tc tbk 3 (.mk ?_)
  refine ni tbk h0 fun x37 h0 => ?_
  refine tr tbk 1 (.mk ?_)
  refine ni tbk h0 fun x38 h0 => ?_
  refine tr tbk 2 (.mk ?_)
  refine ni tbk h0 fun x39 h0 => ?_
  refine ni tbk h0 fun x40 h0 => ?_
  refine tr tbk 6 (.mk ?_)
  obtain ⟨p41, h0⟩ := asrt_e h0
  obtain ⟨x42, e42, h0⟩ := bnd_e h0
  refine sY (yv_quo rfl rfl rfl p41 e42) ?_
  refine tr tbk 7 (.mk ?_)
  refine ni tbk h0 fun x43 h0 => ?_
  refine ni tbk h0 fun x44 h0 => ?_
  refine tr tbk 3 (.mk ?_)
  refine jn h0 [2, 6, 7, 8, 14, 15, 17] [] (fun (a : Int) (k : Unit) => [(18, .sc (.int .u64 a))]) (fun a k => []) ⟨fun j45 h1 => ?_, ?_⟩
  refine tc tbk 1 (.mk ?_)
  refine lp (fun n (a : Int × Int) => d_math_bits_Div64_L1 x11 x12 x22 n a.1 a.2) ((x44 : Int), (x42 : Int)) () h1 [2, 6, 7, 8, 9, 10, 14, 15, 17] [] (fun (a : Int × Int) (k : Unit) => [(16, .sc (.int .u64 a.1)), (18, .sc (.int .u64 a.2))]) (fun a k => []) (fun _ => rfl) ⟨leA, ?_⟩
  rintro n ⟨y3_1, y3_2⟩ _ hm h1
  replace h1 : d_math_bits_Div64_L1 x11 x12 x22 (n + 1) y3_1 y3_2 = some _ := h1
  rw [d_math_bits_Div64_L1] at h1
  refine tc tbk 2 (.mk ?_)
  refine jn h1 [2, 6, 7, 8, 9, 10, 14, 15, 16, 17, 18] [] (fun (a : Bool) (k : Unit) => [(113, boo a)]) (fun a k => []) ⟨fun j46 h2 => ?_, ?_⟩
  refine tc tbk 2 (.mk ?_)
  refine nb tbk h2 fun x47 h2 => ?_
  refine tr tbk 1 (.mk ?_)
  cases x47
  replace h2 := cf h2
  refine tr tbk 2 (.mk ?_)
  refine ni tbk h2 fun x48 h2 => ?_
  refine tr tbk 1 (.mk ?_)
  refine ni tbk h2 fun x49 h2 => ?_
  refine tr tbk 1 (.mk ?_)
  refine ni tbk h2 fun x50 h2 => ?_
  refine nb tbk h2 fun x51 h2 => ?_
  refine tr tbk 2 (.mk ?_)
  exact lf h2 () leA
  replace h2 := ct h2
  refine tr tbk 10 (.mk ?_)
  exact lf h2 () leA
  rintro y4_1 _ h1
  cases y4_1
  replace h1 := cf h1
  refine tc tbk 2 (.mk ?_)
  exact lf h1 () leA
  replace h1 := ct h1
  refine tc tbk 6 (.mk ?_)
  refine ni tbk h1 fun x52 h1 => ?_
  refine tr tbk 6 (.mk ?_)
  refine ni tbk h1 fun x53 h1 => ?_
  refine tr tbk 5 (.mk ?_)
  refine nb tbk h1 fun x54 h1 => ?_
  refine tr tbk 1 (.mk ?_)
  cases x54
  replace h1 := cf h1
  refine tc tbk 3 (.mk ?_)
  exact bk (x53, x52) () h1 leA
  replace h1 := ct h1
  refine tc tbk 2 (.mk ?_)
  exact lf h1 () leA
  rintro y5_1 _ h0
  refine tc tbk 3 (.mk ?_)
  refine ni tbk h0 fun x55 h0 => ?_
  refine tr tbk 1 (.mk ?_)
  refine ni tbk h0 fun x56 h0 => ?_
  refine tr tbk 1 (.mk ?_)
  refine ni tbk h0 fun x57 h0 => ?_
  refine tr tbk 1 (.mk ?_)
  refine ni tbk h0 fun x58 h0 => ?_
  refine tr tbk 2 (.mk ?_)
  refine ni tbk h0 fun x59 h0 => ?_
  refine ni tbk h0 fun x60 h0 => ?_
  refine tr tbk 1 (.mk ?_)
  obtain ⟨p61, h0⟩ := asrt_e h0
  obtain ⟨x62, e62, h0⟩ := bnd_e h0
  refine sY (yv_shr rfl rfl rfl p61 e62) ?_
  refine tr tbk 3 (.mk ?_)
  obtain rfl := nxt_e h0
  refine wR hret (rT (rT .nil)) ?_
  exact .refl _
  replace h0 := ct h0
  refine tc tbk 2 (.mk ?_)
  refine c_drawE [0, 0, 3, 0, 0, 24, 7, 127] (fun i => []) (fun i => []) (fun i => true) [0, 1, 2, 3, 4, 5, 6, 7] mixed (by kernel_rfl) ?_; intro K hK
  iterate 2 refine eM ?_
  obtain ⟨p63, h0⟩ := asrt_e h0
  obtain ⟨x64, e64, h0⟩ := bnd_e h0
  refine eP (fun H hH => yv_quo rfl rfl rfl p63 e64) ?_
  iterate 2 refine eM ?_
  obtain ⟨p65, h0⟩ := asrt_e h0
  obtain ⟨x66, e66, h0⟩ := bnd_e h0
  refine eP (fun H hH => yv_rem rfl rfl rfl p65 e66) ?_
  iterate 2 refine eA ?_
  refine de_nil (hK _ ?_)
  obtain rfl := nxt_e h0
  refine wR hret (rT (rT .nil)) ?_
  exact .refl _
  replace h0 := ct h0
  refine tc tbk 1 (.mk ?_)
  cases h0
  replace h0 := ct h0
  refine tc tbk 1 (.mk ?_)
  cases h0
def d_money_MulDiv (n : Nat) (a1 : Int) (a2 : Int) (a3 : Int) : Option (Int × Int × Int) :=
(show Option (Bool) from
bnd (decide (a1 < 0)) fun x5 =>
cond x5 (some (true : Bool)) (bnd (decide (a2 < 0)) fun x6 =>
cond x6 (some (true : Bool)) (bnd (decide (a3 < 1)) fun x7 =>
some (x7 : Bool)))).bind <| fun y0_1 =>
asrt (y0_1 = false) <|
(d_money_Wide a1 a2).bind fun x8 =>
bnd (wu64 a3) fun x9 =>
bnd (decide (x8.1 ≥ x9)) fun x10 =>
asrt (x10 = false) <|
bnd (wu64 a3) fun x11 =>
(d_math_bits_Div64 n x8.1 x8.2 x11).bind fun x12 =>
bnd (decide (x12.1 > 288230376151711744)) fun x13 =>
asrt (x13 = false) <|
bnd (w64 x12.1) fun x14 =>
bnd (w64 x12.2) fun x15 =>
some ((x14 : Int), (x15 : Int), (0 : Int))
theorem d_money_MulDiv_c {n : Nat} {a1 : Int} {a2 : Int} {a3 : Int} {r : Int × Int × Int} (h0 : d_money_MulDiv n a1 a2 a3 = some r) : PP Tryz.prog 141 [int a1, int a2, int a3] (fun y => y = .tup [int r.1, int r.2.1, int r.2.2]) := by
  unfold d_money_MulDiv at h0
  refine pp_of_pc (R0 := fun y H => Cv (frzH H) y (.tup [int r.1, int r.2.1, int r.2.2])) ?_ (fun y H hc => ⟨_, rfl, .tup (pvl3 (pvI (r.1)) (pvI (r.2.1)) (pvI (r.2.2))), hc⟩)
  refine pcw (c := _) Tryz.func141 rfl rfl ?_; intro Q hret hnorm
  refine tc tbk 8 (.mk ?_)
  refine jn h0 [0, 1, 2, 6, 7, 8] [] (fun (a : Bool) (k : Unit) => [(22, boo a)]) (fun a k => []) ⟨fun j4 h1 => ?_, ?_⟩
  refine tc tbk 2 (.mk ?_)
  refine nb tbk h1 fun x5 h1 => ?_
  refine tr tbk 1 (.mk ?_)
  cases x5
  replace h1 := cf h1
  refine tr tbk 1 (.mk ?_)
  refine nb tbk h1 fun x6 h1 => ?_
  refine tr tbk 2 (.mk ?_)
  cases x6
  replace h1 := cf h1
  refine tr tbk 1 (.mk ?_)
  refine nb tbk h1 fun x7 h1 => ?_
  refine tr tbk 2 (.mk ?_)
  exact lf h1 () leA
  replace h1 := ct h1
  refine tr tbk 4 (.mk ?_)
  exact lf h1 () leA
  replace h1 := ct h1
  refine tr tbk 8 (.mk ?_)
  exact lf h1 () leA
  rintro y0_1 _ h0
  replace h0 := asrt_e h0
  obtain ⟨rfl, h0⟩ := h0
  refine tc tbk 6 (.mk ?_)
  obtain ⟨x8, e8, h0⟩ := bind_e h0
  refine sC cal92 (d_money_Wide_c e8) ?_
  refine tr tbk 11 (.mk ?_)
  refine ni tbk h0 fun x9 h0 => ?_
  refine nb tbk h0 fun x10 h0 => ?_
  refine tr tbk 1 (.mk ?_)
  replace h0 := asrt_e h0
  obtain ⟨rfl, h0⟩ := h0
  refine tc tbk 7 (.mk ?_)
  refine ni tbk h0 fun x11 h0 => ?_
  obtain ⟨x12, e12, h0⟩ := bind_e h0
  refine sC cal181 (d_math_bits_Div64_c e12) ?_
  refine tr tbk 10 (.mk ?_)
  refine nb tbk h0 fun x13 h0 => ?_
  refine tr tbk 1 (.mk ?_)
  replace h0 := asrt_e h0
  obtain ⟨rfl, h0⟩ := h0
  refine tc tbk 5 (.mk ?_)
  refine ni tbk h0 fun x14 h0 => ?_
  refine tr tbk 1 (.mk ?_)
  refine ni tbk h0 fun x15 h0 => ?_
  refine tr tbk 4 (.mk ?_)
  obtain rfl := nxt_e h0
  refine wR hret (rT (rT (rT .nil))) ?_
  exact .refl _
def d_money_Part (n : Nat) (a1 : Int) (a2 : Int) (a3 : Int) : Option (Int) :=
(show Option (Bool) from
bnd (decide (a3 < 1)) fun x5 =>
cond x5 (some (true : Bool)) (bnd (decide (a2 < 0)) fun x6 =>
cond x6 (some (true : Bool)) (bnd (decide (a2 > a3)) fun x7 =>
cond x7 (some (true : Bool)) ((d_money_in a1).bind fun x8 =>
bnd (!x8) fun x9 =>
some (x9 : Bool))))).bind <| fun y0_1 =>
asrt (y0_1 = false) <|
bnd (decide (a2 = a3)) fun x10 =>
asrt (x10 = false) <|
bnd (decide (a1 < 0)) fun x11 =>
asrt (x11 = false) <|
(d_money_MulDiv n a1 a2 a3).bind fun x12 =>
some ((x12.1 : Int))
theorem d_money_Part_c {n : Nat} {a1 : Int} {a2 : Int} {a3 : Int} {r : Int} (h0 : d_money_Part n a1 a2 a3 = some r) : PP Tryz.prog 151 [int a1, int a2, int a3] (fun y => y = int r) := by
  unfold d_money_Part at h0
  refine pp_of_pc (R0 := fun y H => Cv (frzH H) y (int r)) ?_ (fun y H hc => ⟨_, rfl, pvI r, hc⟩)
  refine pcw (c := _) Tryz.func151 rfl rfl ?_; intro Q hret hnorm
  refine tc tbk 7 (.mk ?_)
  refine jn h0 [0, 1, 2, 6] [] (fun (a : Bool) (k : Unit) => [(13, boo a)]) (fun a k => []) ⟨fun j4 h1 => ?_, ?_⟩
  refine tc tbk 2 (.mk ?_)
  refine nb tbk h1 fun x5 h1 => ?_
  refine tr tbk 1 (.mk ?_)
  cases x5
  replace h1 := cf h1
  refine tr tbk 1 (.mk ?_)
  refine nb tbk h1 fun x6 h1 => ?_
  refine tr tbk 2 (.mk ?_)
  cases x6
  replace h1 := cf h1
  refine tr tbk 2 (.mk ?_)
  refine nb tbk h1 fun x7 h1 => ?_
  refine tr tbk 2 (.mk ?_)
  cases x7
  replace h1 := cf h1
  refine tr tbk 1 (.mk ?_)
  obtain ⟨x8, e8, h1⟩ := bind_e h1
  refine sC cal113 (d_money_in_c e8) ?_
  refine nb tbk h1 fun x9 h1 => ?_
  refine tr tbk 3 (.mk ?_)
  exact lf h1 () leA
  replace h1 := ct h1
  refine tr tbk 6 (.mk ?_)
  exact lf h1 () leA
  replace h1 := ct h1
  refine tr tbk 11 (.mk ?_)
  exact lf h1 () leA
  replace h1 := ct h1
  refine tr tbk 15 (.mk ?_)
  exact lf h1 () leA
  rintro y0_1 _ h0
  replace h0 := asrt_e h0
  obtain ⟨rfl, h0⟩ := h0
  refine tc tbk 5 (.mk ?_)
  refine nb tbk h0 fun x10 h0 => ?_
  refine tr tbk 2 (.mk ?_)
  replace h0 := asrt_e h0
  obtain ⟨rfl, h0⟩ := h0
  refine tc tbk 4 (.mk ?_)
  refine nb tbk h0 fun x11 h0 => ?_
  refine tr tbk 2 (.mk ?_)
  replace h0 := asrt_e h0
  obtain ⟨rfl, h0⟩ := h0
  refine tc tbk 8 (.mk ?_)
  obtain ⟨x12, e12, h0⟩ := bind_e h0
  refine sC cal141 (d_money_MulDiv_c e12) ?_
  refine tr tbk 13 (.mk ?_)
  obtain rfl := nxt_e h0
  refine wR hret (rT .nil) ?_
  exact .refl _
def d_fifo_Out_L0 : Nat → Nat → Nat → Int → (List GLayer) → GLayer → Option (Nat × Nat × (List GLayer) × GLayer)
  | 0, _, _, _, _, _ => none
  | n + 1, y0_1, y0_2, y0_3, y0_4, y0_5 =>
    (show Option (Bool) from
    bnd (decide ((y0_2 : Int) > 0)) fun x12 =>
    cond x12 (bnd (decide (y0_3 > 0)) fun x13 =>
    some (x13 : Bool)) (some (false : Bool))).bind <| fun y1_1 =>
    cond y1_1 (asrt ((0 : Int) ≤ 0 ∧ 0 < (y0_2 : Int)) <|
    (ix y0_4 (((y0_1 : Nat) : Int) + 0)).bind fun x15 =>
    bnd (decide (x15.Qty > y0_3)) fun x17 =>
    (show Option (Nat × Nat × (List GLayer) × GLayer) from
    cond x17 ((d_money_Part n x15.Value y0_3 x15.Qty).bind fun x21 =>
    (d_money_Part n x15.Profit y0_3 x15.Qty).bind fun x22 =>
    asrt ((0 : Int) ≤ 0 ∧ 0 < (y0_2 : Int)) <|
    bnd (w64 (x15.Qty - y0_3)) fun x24 =>
    asrt ((0 : Int) ≤ 0 ∧ 0 < (y0_2 : Int)) <|
    bnd (w64 (x15.Value - x21)) fun x26 =>
    asrt ((0 : Int) ≤ 0 ∧ 0 < (y0_2 : Int)) <|
    bnd (w64 (x15.Profit - x22)) fun x28 =>
    asrt ((0 : Int) ≤ 0 ∧ 0 < (y0_2 : Int)) <|
    bnd (y0_4.set (Int.toNat (((y0_1 : Nat) : Int) + 0)) ((⟨x24, x15.Value, x15.Profit⟩ : GLayer) : GLayer)) fun x30 =>
    asrt ((0 : Int) ≤ 0 ∧ 0 < (y0_2 : Int)) <|
    bnd (x30.set (Int.toNat (((y0_1 : Nat) : Int) + 0)) ((⟨x24, x26, x15.Profit⟩ : GLayer) : GLayer)) fun x32 =>
    asrt ((0 : Int) ≤ 0 ∧ 0 < (y0_2 : Int)) <|
    bnd (x32.set (Int.toNat (((y0_1 : Nat) : Int) + 0)) ((⟨x24, x26, x28⟩ : GLayer) : GLayer)) fun x34 =>
    some ((y0_1 : Nat), (y0_2 : Nat), (x34 : List GLayer), ((⟨y0_3, x21, x22⟩ : GLayer) : GLayer))) (asrt ((0 : Int) ≤ 1 ∧ 1 ≤ (y0_2 : Int) ∧ (y0_2 : Int) ≤ (y0_2 : Int) ∧ 1 < (y0_2 + 1 : Int)) <|
    bnd (if (Int.toNat (y0_2 : Int)) = 1 then y0_1 else y0_1 + 1) fun x20 =>
    some ((x20 : Nat), (((Int.toNat (y0_2 : Int)) - 1) : Nat), (y0_4 : List GLayer), (x15 : GLayer)))).bind <| p2 fun (y2_1 : Nat) (q0 : Nat × (List GLayer) × GLayer) => (p2 fun (y2_2 : Nat) (q1 : (List GLayer) × GLayer) => (p2 fun (y2_3 : List GLayer) (y2_4 : GLayer) =>
    bnd (w64 (y0_5.Qty + y2_4.Qty)) fun x35 =>
    bnd (w64 (y0_5.Value + y2_4.Value)) fun x36 =>
    bnd (w64 (y0_5.Profit + y2_4.Profit)) fun x37 =>
    bnd (w64 (y0_3 - y2_4.Qty)) fun x38 =>
    d_fifo_Out_L0 n (y2_1 : Nat) (y2_2 : Nat) (x38 : Int) (y2_3 : List GLayer) ((⟨x35, x36, x37⟩ : GLayer) : GLayer)) q1) q0) (some ((y0_1 : Nat), (y0_2 : Nat), (y0_4 : List GLayer), (y0_5 : GLayer)))
def d_fifo_Out (n : Nat) (a1 : List GLayer) (a2 : Int) : Option ((List GLayer) × GLayer × Int) :=
asrt (a1.length ≤ 68719476736) <|
bnd (decide (a2 < 1)) fun x6 =>
asrt (x6 = false) <|
(d_fifo_has n a1 a2).bind fun x7 =>
bnd (!x7) fun x8 =>
cond x8 (some ((a1 : List GLayer), ((⟨0, 0, 0⟩ : GLayer) : GLayer), (5 : Int))) ((show Option (Nat × Nat × (List GLayer) × GLayer) from
d_fifo_Out_L0 n (0 : Nat) (a1.length : Nat) (a2 : Int) (a1 : List GLayer) ((⟨0, 0, 0⟩ : GLayer) : GLayer)).bind <| p2 fun (y3_1 : Nat) (q0 : Nat × (List GLayer) × GLayer) => (p2 fun (y3_2 : Nat) (q1 : (List GLayer) × GLayer) => (p2 fun (y3_3 : List GLayer) (y3_4 : GLayer) =>
asrt (y3_1 + y3_2 ≤ y3_3.length) <|
some (((((y3_3).drop y3_1).take y3_2) : List GLayer), (y3_4 : GLayer), (0 : Int))) q1) q0)
theorem d_fifo_Out_c {n : Nat} {a1 : List GLayer} {a2 : Int} {r : (List GLayer) × GLayer × Int} (h0 : d_fifo_Out n a1 a2 = some r) : PP Tryz.prog 174 [lst 3 GLayer.av a1, int a2] (fun y => y = .tup [lst 3 GLayer.av r.1, .agg (GLayer.av r.2.1), int r.2.2]) := by
  unfold d_fifo_Out at h0
  refine pp_of_pc (R0 := fun y H => Cv (frzH H) y (.tup [lst 3 GLayer.av r.1, .agg (GLayer.av r.2.1), int r.2.2])) ?_ (fun y H hc => ⟨_, rfl, .tup (pvl3 ((pvLs GLayer.pvc) (r.1)) ((fun (a : GLayer) => PV.agg (GLayer.pvc a)) (r.2.1)) (pvI (r.2.2))), hc⟩)
  refine pcw (c := _) Tryz.func174 rfl rfl ?_; intro Q hret hnorm
  refine tc tbk 3 (.mk ?_)
  refine sA 1 z42 fun v3 => ?_
  refine tr tbk 5 (.mk ?_)
  obtain ⟨p4, h0⟩ := asrt_e h0
  refine rse rfl rfl rfl (yl_call rfl rfl (.cons rfl .nil) cal63 (pc_cv (clone63_c (id := 2) (l := a1) rfl p4) (.cons (.refl _) .nil))) ?_; rintro _ _ ⟨v5, rfl, rfl⟩
  refine tr tbk 6 (.mk ?_)
  refine nb tbk h0 fun x6 h0 => ?_
  refine tr tbk 1 (.mk ?_)
  replace h0 := asrt_e h0
  obtain ⟨rfl, h0⟩ := h0
  refine tc tbk 7 (.mk ?_)
  obtain ⟨x7, e7, h0⟩ := bind_e h0
  refine sY (yv_callT (v := boo x7) rfl rfl (.cons rfl (.cons rfl .nil)) cal197 (.cons (cv_lst rfl rfl rfl rfl rfl (Eq.symm rfl)) (.cons (.refl _) .nil)) (d_fifo_has_c e7) rfl) ?_
  refine nb tbk h0 fun x8 h0 => ?_
  refine tr tbk 1 (.mk ?_)
  cases x8
  replace h0 := cf h0
  refine tc tbk 4 (.mk ?_)
  refine sA 3 z42 fun v9 => ?_
  refine tr tbk 2 (.mk ?_)
  refine jn h0 [4, 5, 6, 7] [1] (fun (a : Nat × Nat × (List GLayer) × GLayer) (k : Unit) => [(0, .sl 2 v5 a.1 a.2.1)]) (fun a k => [(2, ⟨42, 3, true, true, v5, a.2.2.1.map GLayer.av⟩), (3, ⟨42, 3, true, true, v9, [[int a.2.2.2.Qty, int a.2.2.2.Value, int a.2.2.2.Profit]]⟩)]) ⟨fun j10 h1 => ?_, ?_⟩
  refine tc tbk 1 (.mk ?_)
  refine lp (fun n (a : Nat × Nat × Int × (List GLayer) × GLayer) => d_fifo_Out_L0 n a.1 a.2.1 a.2.2.1 a.2.2.2.1 a.2.2.2.2) ((0 : Nat), (a1.length : Nat), (a2 : Int), (a1 : List GLayer), ((⟨0, 0, 0⟩ : GLayer) : GLayer)) () h1 [4, 5, 6, 7] [1] (fun (a : Nat × Nat × Int × (List GLayer) × GLayer) (k : Unit) => [(0, .sl 2 v5 a.1 a.2.1), (1, int a.2.2.1)]) (fun a k => [(2, ⟨42, 3, true, true, v5, a.2.2.2.1.map GLayer.av⟩), (3, ⟨42, 3, true, true, v9, [[int a.2.2.2.2.Qty, int a.2.2.2.2.Value, int a.2.2.2.2.Profit]]⟩)]) (fun _ => rfl) ⟨leA, ?_⟩
  rintro n ⟨y0_1, y0_2, y0_3, y0_4, y0_5⟩ _ hm h1
  replace h1 : d_fifo_Out_L0 (n + 1) y0_1 y0_2 y0_3 y0_4 y0_5 = some _ := h1
  rw [d_fifo_Out_L0] at h1
  refine tc tbk 2 (.mk ?_)
  refine jn h1 [0, 1, 4, 5, 6, 7] [1, 2, 3] (fun (a : Bool) (k : Unit) => [(27, boo a)]) (fun a k => []) ⟨fun j11 h2 => ?_, ?_⟩
  refine tc tbk 2 (.mk ?_)
  refine sY (yv_len_sl rfl Tryz.underlying71 rfl (.sl rfl rfl)) ?_
  refine nb tbk h2 fun x12 h2 => ?_
  refine tr tbk 1 (.mk ?_)
  cases x12
  replace h2 := cf h2
  refine tr tbk 4 (.mk ?_)
  exact lf h2 () leA
  replace h2 := ct h2
  refine tr tbk 1 (.mk ?_)
  refine nb tbk h2 fun x13 h2 => ?_
  refine tr tbk 2 (.mk ?_)
  exact lf h2 () leA
  rintro y1_1 _ h1
  cases y1_1
  replace h1 := cf h1
  refine tc tbk 2 (.mk ?_)
  exact lf h1 () leA
  replace h1 := ct h1
  refine tc tbk 6 (.mk ?_)
  obtain ⟨p14, h1⟩ := asrt_e h1
  obtain ⟨x15, e15, h1⟩ := bind_e h1
  refine sY (yv_ixW rfl Tryz.underlying71 sh42 rfl rfl rfl rfl rfl p14 (List.length_map _) e15) ?_
  refine sY (yv_load rfl sh42 rfl (.pt rfl rfl (ix_get e15)) rfl) ?_
  refine sA 4 z42 fun v16 => ?_
  refine sS ⟨42, 3, true, true, v16, [[int x15.Qty, int x15.Value, int x15.Profit]]⟩ sh42 ?_
  refine tr tbk 7 (.mk ?_)
  refine nb tbk h1 fun x17 h1 => ?_
  refine tr tbk 1 (.mk ?_)
  refine jn h1 [1, 4, 5, 6, 7, 8] [1, 3] (fun (a : Nat × Nat × (List GLayer) × GLayer) (k : Unit) => [(0, .sl 2 v5 a.1 a.2.1)]) (fun a k => [(2, ⟨42, 3, true, true, v5, a.2.2.1.map GLayer.av⟩), (4, ⟨42, 3, true, true, v16, [[int a.2.2.2.Qty, int a.2.2.2.Value, int a.2.2.2.Profit]]⟩)]) ⟨fun j18 h2 => ?_, ?_⟩
  cases x17
  replace h2 := cf h2
  refine tc tbk 4 (.mk ?_)
  refine sY (yv_len_sl rfl Tryz.underlying71 rfl (.sl rfl rfl)) ?_
  refine tr tbk 1 (.mk ?_)
  refine sY (yv_len_sl rfl Tryz.underlying71 rfl (.sl rfl rfl)) ?_
  obtain ⟨p19, h2⟩ := asrt_e h2
  obtain ⟨x20, e20, h2⟩ := bnd_e h2
  refine sY (yv_slO3 (len := y0_2) (i := 1) (j := (Int.toNat (y0_2 : Int))) rfl Tryz.underlying71 sh42 rfl rfl rfl rfl (.yes rfl (by first | omega | (dsimp only; omega) | (dsimp only at *; omega))) (.yes rfl (by first | omega | (dsimp only; omega) | (dsimp only at *; omega))) (.yes rfl (by first | omega | (dsimp only; omega) | (dsimp only at *; omega))) (by first | omega | (dsimp only; omega) | (dsimp only at *; omega)) (by first | omega | (dsimp only; omega) | (dsimp only at *; omega)) e20) ?_
  refine tr tbk 2 (.mk ?_)
  exact lf h2 () leA
  replace h2 := ct h2
  refine tc tbk 2 (.mk ?_)
  refine c_drawE [0, 0, 2, 0, 0, 16, 62, 0, 128, 0, 0, 1024, 4094, 8191, 16383] (rl [(1, [4]), (2, [4]), (4, [4]), (5, [4]), (7, [4]), (8, [4]), (10, [4]), (11, [4])] []) (rl [(14, [])] [4]) (rl [(14, false)] true) [0, 1, 2, 3, 4, 5, 6, 7, 8, 9, 10, 11, 12, 13, 14] mixed (by kernel_rfl) ?_; intro K hK
  refine eM ?_
  refine eF fo42_1 ?_
  refine eL sh3 ?_
  refine eM ?_
  refine eF fo42_0 ?_
  refine eL sh3 ?_
  obtain ⟨x21, e21, h2⟩ := bind_e h2
  refine eP (fun H hH => yv_callP rfl rfl (.cons rfl (.cons rfl (.cons rfl .nil))) cal151 (CvL.refl _) (d_money_Part_c e21)) ?_
  refine eF fo42_2 ?_
  refine eL sh3 ?_
  refine eM ?_
  refine eF fo42_0 ?_
  refine eL sh3 ?_
  obtain ⟨x22, e22, h2⟩ := bind_e h2
  refine eP (fun H hH => yv_callP rfl rfl (.cons rfl (.cons rfl (.cons rfl .nil))) cal151 (CvL.refl _) (d_money_Part_c e22)) ?_
  refine eP (fun H hH => yv_build (cs := [int y0_3, int x21, int x22]) (ps := [(0, _), (1, _), (2, _)]) rfl pl42 z42 rfl (.cons rfl (.cons rfl (.cons rfl .nil))) (by kernel_rfl)) ?_
  refine de_eff0 rfl rfl rfl rfl (Yield.weak (yl_ob (ob' := (⟨42, 3, true, true, v16, [[int y0_3, int x21, int x22]]⟩ : AObj)) (yl_store rfl sh42 rfl rfl rfl rfl rfl rfl rfl rfl rfl) rfl) (fun _ h => h) (fun _ _ => trivial)) (by rintro _ _ ⟨rfl, rfl⟩; exact trivial) ?_; rintro _ _ ⟨rfl, rfl⟩
  refine de_nil (hK _ ?_)
  refine c_drawE [0, 0, 0, 0, 8, 24, 56, 0, 128, 504, 0, 1024, 3072, 7168, 0, 16384, 64512, 0, 131072, 393216, 917504, 0, 2097152, 8257536, 1982457, 18759673, 52314105, 119537659, 253755387, 522190843, 1073741823, 2147483647, 4294967295] (rl [(4, [2]), (5, [2]), (6, [2]), (7, [4]), (8, [4]), (11, [2]), (12, [2]), (13, [2]), (14, [4]), (15, [4]), (18, [2]), (19, [2]), (20, [2]), (21, [4]), (22, [4]), (24, [2]), (25, [2]), (27, [2]), (28, [2]), (30, [2]), (31, [2])] []) (rl [(26, [4]), (29, [4]), (32, [])] [2, 4]) (rl [(26, false), (29, false), (32, false)] true) [0, 1, 2, 3, 4, 5, 6, 7, 8, 9, 10, 11, 12, 13, 14, 15, 16, 17, 18, 19, 20, 21, 22, 23, 24, 25, 26, 27, 28, 29, 30, 31, 32] mixed (by kernel_rfl) ?_; intro K hK
  iterate 4 refine eM ?_
  obtain ⟨p23, h2⟩ := asrt_e h2
  refine de_pure rfl rfl rfl rfl (fun H hH => yv_ixW rfl Tryz.underlying71 sh42 rfl rfl ((hH _ (by decide)).trans rfl) rfl rfl p23 (List.length_map _) e15) ?_
  refine eF fo42_0 (hr := ix_get e15) ?_
  refine eL sh3 (hr := ix_get e15) ?_
  refine eF fo42_0 ?_
  refine eL sh3 ?_
  obtain ⟨x24, e24, h2⟩ := bnd_e h2
  refine eP (fun H hH => yv_sub rfl rfl rfl e24) ?_
  refine eM ?_
  obtain ⟨p25, h2⟩ := asrt_e h2
  refine de_pure rfl rfl rfl rfl (fun H hH => yv_ixW rfl Tryz.underlying71 sh42 rfl rfl ((hH _ (by decide)).trans rfl) rfl rfl p25 (List.length_map _) e15) ?_
  refine eF fo42_1 (hr := ix_get e15) ?_
  refine eL sh3 (hr := ix_get e15) ?_
  refine eF fo42_1 ?_
  refine eL sh3 ?_
  obtain ⟨x26, e26, h2⟩ := bnd_e h2
  refine eP (fun H hH => yv_sub rfl rfl rfl e26) ?_
  refine eM ?_
  obtain ⟨p27, h2⟩ := asrt_e h2
  refine de_pure rfl rfl rfl rfl (fun H hH => yv_ixW rfl Tryz.underlying71 sh42 rfl rfl ((hH _ (by decide)).trans rfl) rfl rfl p27 (List.length_map _) e15) ?_
  refine eF fo42_2 (hr := ix_get e15) ?_
  refine eL sh3 (hr := ix_get e15) ?_
  refine eF fo42_2 ?_
  refine eL sh3 ?_
  obtain ⟨x28, e28, h2⟩ := bnd_e h2
  refine eP (fun H hH => yv_sub rfl rfl rfl e28) ?_
  obtain ⟨p29, h2⟩ := asrt_e h2
  refine de_pure rfl rfl rfl rfl (fun H hH => yv_ixW rfl Tryz.underlying71 sh42 rfl rfl ((hH _ (by decide)).trans rfl) rfl rfl p29 (List.length_map _) e15) ?_
  refine eF fo42_0 (hr := ix_get e15) ?_
  obtain ⟨x30, e30, h2⟩ := bnd_e h2
  have fx30 := ix_set e15 e30; have lx30 := len_setV e30 (rfl : y0_4.length = y0_4.length)
  refine de_eff0 rfl rfl rfl rfl (Yield.weak (yl_ob (ob' := (⟨42, 3, true, true, v5, x30.map GLayer.av⟩ : AObj)) (yl_store rfl sh3 rfl rfl rfl rfl rfl (ix_get e15) rfl rfl rfl) (ob_eq (map_setV e30))) (fun _ h => h) (fun _ _ => trivial)) (by rintro _ _ ⟨rfl, rfl⟩; exact ⟨rfl, trivial⟩) ?_; rintro _ _ ⟨rfl, rfl⟩
  obtain ⟨p31, h2⟩ := asrt_e h2
  refine de_pure rfl rfl rfl rfl (fun H hH => yv_ixW rfl Tryz.underlying71 sh42 rfl rfl ((hH _ (by decide)).trans rfl) rfl rfl p31 (List.length_map _) fx30) ?_
  refine eF fo42_1 (hr := ix_get fx30) ?_
  obtain ⟨x32, e32, h2⟩ := bnd_e h2
  have fx32 := ix_set fx30 e32; have lx32 := len_setV e32 lx30
  refine de_eff0 rfl rfl rfl rfl (Yield.weak (yl_ob (ob' := (⟨42, 3, true, true, v5, x32.map GLayer.av⟩ : AObj)) (yl_store rfl sh3 rfl rfl rfl rfl rfl (ix_get fx30) rfl rfl rfl) (ob_eq (map_setV e32))) (fun _ h => h) (fun _ _ => trivial)) (by rintro _ _ ⟨rfl, rfl⟩; exact ⟨rfl, trivial⟩) ?_; rintro _ _ ⟨rfl, rfl⟩
  obtain ⟨p33, h2⟩ := asrt_e h2
  refine de_pure rfl rfl rfl rfl (fun H hH => yv_ixW rfl Tryz.underlying71 sh42 rfl rfl ((hH _ (by decide)).trans rfl) rfl rfl p33 (List.length_map _) fx32) ?_
  refine eF fo42_2 (hr := ix_get fx32) ?_
  obtain ⟨x34, e34, h2⟩ := bnd_e h2
  have fx34 := ix_set fx32 e34; have lx34 := len_setV e34 lx32
  refine de_eff0 rfl rfl rfl rfl (Yield.weak (yl_ob (ob' := (⟨42, 3, true, true, v5, x34.map GLayer.av⟩ : AObj)) (yl_store rfl sh3 rfl rfl rfl rfl rfl (ix_get fx32) rfl rfl rfl) (ob_eq (map_setV e34))) (fun _ h => h) (fun _ _ => trivial)) (by rintro _ _ ⟨rfl, rfl⟩; exact trivial) ?_; rintro _ _ ⟨rfl, rfl⟩
  refine de_nil (hK _ ?_)
  exact lf h2 () leA
  rintro ⟨y2_1, y2_2, y2_3, y2_4⟩ _ h1
  replace h1 := p2_e h1
  replace h1 := p2_e h1
  replace h1 := p2_e h1
  refine tc tbk 1 (.mk ?_)
  refine c_drawE [0, 1, 0, 4, 15, 0, 32, 0, 128, 480, 0, 1024, 0, 4096, 15360, 3199, 35967, 102399, 233471, 524287, 1048575] (rl [(0, [3]), (1, [3]), (2, [4]), (3, [4]), (5, [3]), (6, [3]), (7, [4]), (8, [4]), (10, [3]), (11, [3]), (12, [4]), (13, [4]), (15, [3]), (17, [3]), (19, [3])] []) (rl [(16, [4]), (18, [4]), (20, [])] [3, 4]) (rl [(16, false), (18, false), (20, false)] true) [0, 1, 2, 3, 4, 5, 6, 7, 8, 9, 10, 11, 12, 13, 14, 15, 16, 17, 18, 19, 20] mixed (by kernel_rfl) ?_; intro K hK
  refine eF fo42_0 ?_
  refine eL sh3 ?_
  refine eF fo42_0 ?_
  refine eL sh3 ?_
  obtain ⟨x35, e35, h1⟩ := bnd_e h1
  refine eP (fun H hH => yv_add rfl rfl rfl e35) ?_
  refine eF fo42_1 ?_
  refine eL sh3 ?_
  refine eF fo42_1 ?_
  refine eL sh3 ?_
  obtain ⟨x36, e36, h1⟩ := bnd_e h1
  refine eP (fun H hH => yv_add rfl rfl rfl e36) ?_
  refine eF fo42_2 ?_
  refine eL sh3 ?_
  refine eF fo42_2 ?_
  refine eL sh3 ?_
  obtain ⟨x37, e37, h1⟩ := bnd_e h1
  refine eP (fun H hH => yv_add rfl rfl rfl e37) ?_
  refine eF fo42_0 ?_
  refine de_eff0 rfl rfl rfl rfl (Yield.weak (yl_ob (ob' := (⟨42, 3, true, true, v9, [[int x35, int y0_5.Value, int y0_5.Profit]]⟩ : AObj)) (yl_store rfl sh3 rfl rfl rfl rfl rfl rfl rfl rfl rfl) rfl) (fun _ h => h) (fun _ _ => trivial)) (by rintro _ _ ⟨rfl, rfl⟩; exact ⟨rfl, trivial⟩) ?_; rintro _ _ ⟨rfl, rfl⟩
  refine eF fo42_1 ?_
  refine de_eff0 rfl rfl rfl rfl (Yield.weak (yl_ob (ob' := (⟨42, 3, true, true, v9, [[int x35, int x36, int y0_5.Profit]]⟩ : AObj)) (yl_store rfl sh3 rfl rfl rfl rfl rfl rfl rfl rfl rfl) rfl) (fun _ h => h) (fun _ _ => trivial)) (by rintro _ _ ⟨rfl, rfl⟩; exact ⟨rfl, trivial⟩) ?_; rintro _ _ ⟨rfl, rfl⟩
  refine eF fo42_2 ?_
  refine de_eff0 rfl rfl rfl rfl (Yield.weak (yl_ob (ob' := (⟨42, 3, true, true, v9, [[int x35, int x36, int x37]]⟩ : AObj)) (yl_store rfl sh3 rfl rfl rfl rfl rfl rfl rfl rfl rfl) rfl) (fun _ h => h) (fun _ _ => trivial)) (by rintro _ _ ⟨rfl, rfl⟩; exact trivial) ?_; rintro _ _ ⟨rfl, rfl⟩
  refine de_nil (hK _ ?_)
  refine tc tbk 4 (.mk ?_)
  refine ni tbk h1 fun x38 h1 => ?_
  refine tr tbk 3 (.mk ?_)
  exact bk (y2_1, y2_2, x38, y2_3, (⟨x35, x36, x37⟩ : GLayer)) () h1 leA
  rintro ⟨y3_1, y3_2, y3_3, y3_4⟩ _ h0
  replace h0 := p2_e h0
  replace h0 := p2_e h0
  replace h0 := p2_e h0
  refine tc tbk 1 (.mk ?_)
  refine c_drawE [0, 0, 1, 7, 15] (rl [(1, [3])] []) (rl [(3, [])] [3]) (rl [(3, false)] true) [0, 1, 2, 3, 4] mixed (by kernel_rfl) ?_; intro K hK
  refine eM ?_
  refine eL sh42 ?_
  refine eA ?_
  refine de_eff0 rfl rfl rfl rfl (Yield.weak (yl_ob (ob' := (⟨42, 3, true, true, v3, [[int y3_4.Qty, int y3_4.Value, int y3_4.Profit]]⟩ : AObj)) (yl_store rfl sh42 rfl rfl rfl rfl rfl rfl rfl rfl rfl) rfl) (fun _ h => h) (fun _ _ => trivial)) (by rintro _ _ ⟨rfl, rfl⟩; exact trivial) ?_; rintro _ _ ⟨rfl, rfl⟩
  refine eA ?_
  refine de_nil (hK _ ?_)
  obtain ⟨p39, h0⟩ := asrt_e h0
  obtain rfl := nxt_e h0
  refine wR hret (rT (rC sh42 (rT .nil))) ?_
  exact CvL.tup (.cons (cv_win (l := y3_3) rfl rfl rfl rfl (CvLL.refl _) (by first | omega | (simp only [List.length_set]; omega)) rfl) (.cons (.refl _) (.cons (.refl _) .nil)))
  replace h0 := ct h0
  refine tc tbk 6 (.mk ?_)
  refine sS ⟨42, 3, true, true, v3, [[int 0, int 0, int 0]]⟩ sh42 ?_
  refine tr tbk 2 (.mk ?_)
  obtain rfl := nxt_e h0
  refine wR hret (rT (rC sh42 (rT .nil))) ?_
  exact CvL.tup (.cons (cv_lst rfl rfl rfl rfl rfl (Eq.symm rfl)) (.cons (.refl _) (.cons (.refl _) .nil)))
def d_pool_Out (n : Nat) (a1 : Int) (a2 : Int) (a3 : GPool) (a4 : Int) (a5 : Int) : Option (GPool × GLayer × Bool × Int) :=
(show Option ((Unit) ⊕ (Unit)) from
bnd (decide (a1 = 1)) fun x10 =>
cond x10 (some (.inr ())) (bnd (decide (a1 = 2)) fun x11 =>
asrt (x11 = false) <|
bnd (decide (a1 = 3)) fun x12 =>
asrt (x12 = false) <|
bnd (decide (a1 = 4)) fun x13 =>
asrt (x13 = false) <|
some (.inl ()))).bind <| selr (fun _ =>
(d_pool_own a3).bind fun x14 =>
some ((x14 : GPool), ((⟨0, 0, 0⟩ : GLayer) : GLayer), (false : Bool), (12 : Int))) <| fun _ =>
(show Option (Bool) from
bnd (decide (a4 < 0)) fun x16 =>
cond x16 (some (true : Bool)) (bnd (decide (a4 > 3)) fun x17 =>
some (x17 : Bool))).bind <| fun y2_1 =>
asrt (y2_1 = false) <|
(show Option ((Unit)) from
some ()).bind <| fun _ =>
(show Option ((GPool × GLayer × Int)) from
(d_fifo_Out n a3.Layers a5).bind fun x27 =>
(d_pool_with a3 x27.1).bind fun x29 =>
some ((x29 : GPool), (x27.2.1 : GLayer), (x27.2.2 : Int))).bind <| p2 fun (y5_1 : GPool) (q0 : GLayer × Int) => (p2 fun (y5_2 : GLayer) (y5_3 : Int) =>
bnd (decide (y5_3 ≠ 0)) fun x30 =>
cond x30 ((d_pool_own a3).bind fun x31 =>
some ((x31 : GPool), ((⟨0, 0, 0⟩ : GLayer) : GLayer), (false : Bool), (y5_3 : Int))) (some ((y5_1 : GPool), (y5_2 : GLayer), (false : Bool), (0 : Int)))) q0
theorem d_pool_Out_c {n : Nat} {a1 : Int} {a2 : Int} {a3 : GPool} {a4 : Int} {a5 : Int} {r : GPool × GLayer × Bool × Int} (h0 : d_pool_Out n a1 a2 a3 a4 a5 = some r) : PP Tryz.prog 185 [int a1, int a2, .agg (GPool.av a3), int a4, int a5] (fun y => y = .tup [.agg (GPool.av r.1), .agg (GLayer.av r.2.1), boo r.2.2.1, int r.2.2.2]) := by
  unfold d_pool_Out at h0
  refine pp_of_pc (R0 := fun y H => Cv (frzH H) y (.tup [.agg (GPool.av r.1), .agg (GLayer.av r.2.1), boo r.2.2.1, int r.2.2.2])) ?_ (fun y H hc => ⟨_, rfl, .tup (pvl4 ((fun (a : GPool) => PV.agg (GPool.pvc a)) (r.1)) ((fun (a : GLayer) => PV.agg (GLayer.pvc a)) (r.2.1)) (pvB (r.2.2.1)) (pvI (r.2.2.2))), hc⟩)
  refine pcw (c := _) Tryz.func185 rfl rfl ?_; intro Q hret hnorm
  refine tc tbk 2 (.mk ?_)
  refine sB 1 fun v6 => ?_
  refine sA 2 z74 fun v7 => ?_
  refine sA 3 z42 fun v8 => ?_
  refine tr tbk 7 (.mk ?_)
  obtain ⟨j9, h1, h0⟩ := bind_e h0
  refine rse (Out := fun y H' => (∃ (a : Unit) (k : Unit), (.inl a) = j9 ∧ y = .sc .nilIface ∧ H' = hk [(1, ⟨74, 4, true, true, v6, [[lst 3 GLayer.av a3.Layers, int a3.Pend.a0, int a3.Pend.a1, int a3.Pend.a2]]⟩), (2, ⟨74, 4, true, true, v7, [[.sc (.slice none 0 0), int 0, int 0, int 0]]⟩), (3, ⟨42, 3, true, true, v8, [[int 0, int 0, int 0]]⟩)]) ∨ (∃ (a : Unit) (k : Unit), (.inr a) = j9 ∧ y = .ifc 249 (.agg []) ∧ H' = hk [(1, ⟨74, 4, true, true, v6, [[lst 3 GLayer.av a3.Layers, int a3.Pend.a0, int a3.Pend.a1, int a3.Pend.a2]]⟩), (2, ⟨74, 4, true, true, v7, [[.sc (.slice none 0 0), int 0, int 0, int 0]]⟩), (3, ⟨42, 3, true, true, v8, [[int 0, int 0, int 0]]⟩)])) rfl rfl rfl (yl_call rfl rfl (.cons rfl (.cons rfl .nil)) cal169 ?_) ?_
  refine pcw (c := _) Tryz.func169 rfl rfl ?_; intro Q hret hnorm
  refine tc tbk 12 (.mk ?_)
  refine nb tbk h1 fun x10 h1 => ?_
  refine tr tbk 2 (.mk ?_)
  cases x10
  replace h1 := cf h1
  refine tc tbk 3 (.mk ?_)
  refine nb tbk h1 fun x11 h1 => ?_
  refine tr tbk 2 (.mk ?_)
  replace h1 := asrt_e h1
  obtain ⟨rfl, h1⟩ := h1
  refine tc tbk 3 (.mk ?_)
  refine nb tbk h1 fun x12 h1 => ?_
  refine tr tbk 2 (.mk ?_)
  replace h1 := asrt_e h1
  obtain ⟨rfl, h1⟩ := h1
  refine tc tbk 3 (.mk ?_)
  refine nb tbk h1 fun x13 h1 => ?_
  refine tr tbk 2 (.mk ?_)
  replace h1 := asrt_e h1
  obtain ⟨rfl, h1⟩ := h1
  refine tc tbk 7 (.mk ?_)
  obtain rfl := nxt_e h1
  refine w_ret (hret _ _ (hk [(1, ⟨74, 4, true, true, v6, [[lst 3 GLayer.av a3.Layers, int a3.Pend.a0, int a3.Pend.a1, int a3.Pend.a2]]⟩), (2, ⟨74, 4, true, true, v7, [[.sc (.slice none 0 0), int 0, int 0, int 0]]⟩), (3, ⟨42, 3, true, true, v8, [[int 0, int 0, int 0]]⟩)]) (.tmp rfl .nil) (HK.le ⟨rfl, rfl, rfl, trivial⟩) ?_)
  exact (.inl ⟨(), (), rfl, rfl, rfl⟩)
  replace h1 := ct h1
  refine tc tbk 4 (.mk ?_)
  refine sY (yv_makeIface rfl Tryz.underlying249 (by intro _ h; cases h) rfl) ?_
  refine tr tbk 2 (.mk ?_)
  obtain rfl := nxt_e h1
  refine w_ret (hret _ _ (hk [(1, ⟨74, 4, true, true, v6, [[lst 3 GLayer.av a3.Layers, int a3.Pend.a0, int a3.Pend.a1, int a3.Pend.a2]]⟩), (2, ⟨74, 4, true, true, v7, [[.sc (.slice none 0 0), int 0, int 0, int 0]]⟩), (3, ⟨42, 3, true, true, v8, [[int 0, int 0, int 0]]⟩)]) (.tmp rfl .nil) (HK.le ⟨rfl, rfl, rfl, trivial⟩) ?_)
  exact (.inr ⟨(), (), rfl, rfl, rfl⟩)
  rintro y _ (⟨_, _, rfl, hc, rfl⟩ | ⟨_, _, rfl, hc, rfl⟩)
  replace h0 := selr_l h0
  subst hc
  refine tr tbk 6 (.mk ?_)
  refine sY (yv_ifeqN rfl Tryz.underlying228 rfl rfl) ?_
  refine tr tbk 5 (.mk ?_)
  obtain ⟨x14, e14, h0⟩ := bind_e h0
  refine sC cal184 (d_pool_own_c e14) ?_
  refine tr tbk 1 (.mk ?_)
  refine sS ⟨74, 4, true, true, v7, [[lst 3 GLayer.av x14.Layers, int x14.Pend.a0, int x14.Pend.a1, int x14.Pend.a2]]⟩ sh74 ?_
  refine sS ⟨42, 3, true, true, v8, [[int 0, int 0, int 0]]⟩ sh42 ?_
  refine tr tbk 3 (.mk ?_)
  obtain rfl := nxt_e h0
  refine wR hret (rC sh74 (rC sh42 (rT (rT .nil)))) ?_
  exact .refl _
  replace h0 := selr_r h0
  subst hc
  refine tr tbk 6 (.mk ?_)
  refine sY (yv_ifeq rfl Tryz.underlying228 rfl rfl) ?_
  refine tr tbk 5 (.mk ?_)
  refine jn h0 [3, 4, 7, 10, 11, 12, 13, 14] [1, 2, 3] (fun (a : Bool) (k : Unit) => [(32, boo a)]) (fun a k => []) ⟨fun j15 h1 => ?_, ?_⟩
  refine tc tbk 2 (.mk ?_)
  refine nb tbk h1 fun x16 h1 => ?_
  refine tr tbk 1 (.mk ?_)
  cases x16
  replace h1 := cf h1
  refine tr tbk 1 (.mk ?_)
  refine nb tbk h1 fun x17 h1 => ?_
  refine tr tbk 2 (.mk ?_)
  exact lf h1 () leA
  replace h1 := ct h1
  refine tr tbk 4 (.mk ?_)
  exact lf h1 () leA
  rintro y2_1 _ h0
  replace h0 := asrt_e h0
  obtain ⟨rfl, h0⟩ := h0
  refine tc tbk 4 (.mk ?_)
  refine sA 4 z42 fun v18 => ?_
  refine tr tbk 3 (.mk ?_)
  refine sA 5 z74 fun v19 => ?_
  refine tr tbk 8 (.mk ?_)
  obtain ⟨j20, h1, h0⟩ := bind_e h0
  refine rse (Out := fun y H' => (∃ (a : Unit) (k : Unit), a = j20 ∧ y = boo false ∧ H' = hk [(1, ⟨74, 4, true, true, v6, [[lst 3 GLayer.av a3.Layers, int a3.Pend.a0, int a3.Pend.a1, int a3.Pend.a2]]⟩), (2, ⟨74, 4, true, true, v7, [[.sc (.slice none 0 0), int 0, int 0, int 0]]⟩), (3, ⟨42, 3, true, true, v8, [[int 0, int 0, int 0]]⟩), (4, ⟨42, 3, true, true, v18, [[int 0, int 0, int 0]]⟩), (5, ⟨74, 4, true, true, v19, [[.sc (.slice none 0 0), int 0, int 0, int 0]]⟩)])) rfl rfl rfl (yl_call rfl rfl (.cons rfl .nil) cal171 ?_) ?_
  refine pcw (c := _) Tryz.func171 rfl rfl ?_; intro Q hret hnorm
  refine tc tbk 7 (.mk ?_)
  refine sY (yv_tassF rfl Tryz.underlying251 rfl rfl rfl zag251) ?_
  refine tr tbk 3 (.mk ?_)
  refine sA 6 z251 fun v21 => ?_
  refine sS ⟨251, 0, true, true, v21, [[]]⟩ sh251 ?_
  refine tr tbk 7 (.mk ?_)
  obtain rfl := nxt_e h1
  refine w_ret (hret _ _ (hk [(1, ⟨74, 4, true, true, v6, [[lst 3 GLayer.av a3.Layers, int a3.Pend.a0, int a3.Pend.a1, int a3.Pend.a2]]⟩), (2, ⟨74, 4, true, true, v7, [[.sc (.slice none 0 0), int 0, int 0, int 0]]⟩), (3, ⟨42, 3, true, true, v8, [[int 0, int 0, int 0]]⟩), (4, ⟨42, 3, true, true, v18, [[int 0, int 0, int 0]]⟩), (5, ⟨74, 4, true, true, v19, [[.sc (.slice none 0 0), int 0, int 0, int 0]]⟩)]) (.tmp rfl .nil) (HK.le ⟨rfl, rfl, rfl, rfl, rfl, trivial⟩) ?_)
  exact ⟨(), (), rfl, rfl, rfl⟩
  rintro y _ ⟨_, _, rfl, hc, rfl⟩
  subst hc
  refine tr tbk 16 (.mk ?_)
  obtain ⟨j22, h1, h0⟩ := bind_e h0
  refine rse (Out := fun y H' => (∃ (a : GPool × GLayer × Int) (k : Unit), a = j22 ∧ y = .tup [.agg [lst 3 GLayer.av a.1.Layers, int a.1.Pend.a0, int a.1.Pend.a1, int a.1.Pend.a2], .agg [int a.2.1.Qty, int a.2.1.Value, int a.2.1.Profit], int a.2.2] ∧ H' = hk [(1, ⟨74, 4, true, true, v6, [[lst 3 GLayer.av a3.Layers, int a3.Pend.a0, int a3.Pend.a1, int a3.Pend.a2]]⟩), (2, ⟨74, 4, true, true, v7, [[.sc (.slice none 0 0), int 0, int 0, int 0]]⟩), (3, ⟨42, 3, true, true, v8, [[int 0, int 0, int 0]]⟩), (4, ⟨42, 3, true, true, v18, [[int 0, int 0, int 0]]⟩), (5, ⟨74, 4, true, true, v19, [[.sc (.slice none 0 0), int 0, int 0, int 0]]⟩)])) rfl rfl rfl (yl_callI rfl rfl mth249_234 (.cons rfl (.cons rfl .nil)) cal234 ?_) ?_
  refine pcw (c := _) Tryz.func234 rfl rfl ?_; intro Q hret hnorm
  refine tc tbk 2 (.mk ?_)
  refine sB 12 fun v23 => ?_
  refine sB 13 fun v24 => ?_
  refine sA 14 z74 fun v25 => ?_
  refine sA 15 z42 fun v26 => ?_
  refine tr tbk 7 (.mk ?_)
  obtain ⟨x27, e27, h1⟩ := bind_e h1
  refine sC cal174 (d_fifo_Out_c e27) ?_
  refine tr tbk 4 (.mk ?_)
  refine sA 16 z42 fun v28 => ?_
  refine tr tbk 1 (.mk ?_)
  refine sS ⟨42, 3, true, true, v28, [[int x27.2.1.Qty, int x27.2.1.Value, int x27.2.1.Profit]]⟩ sh42 ?_
  refine tr tbk 3 (.mk ?_)
  refine c_drawE [0, 0, 3, 0, 0, 7, 47, 127] (rl [(0, [13]), (3, [16])] []) (rl [(5, [16]), (6, [])] [13, 16]) (rl [(5, false), (6, false)] true) [0, 1, 2, 3, 4, 5, 6, 7] mixed (by kernel_rfl) ?_; intro K hK
  refine eL sh74 ?_
  refine eM ?_
  obtain ⟨x29, e29, h1⟩ := bind_e h1
  refine eP (fun H hH => yv_callP rfl rfl (.cons rfl (.cons rfl .nil)) cal202 (CvL.refl _) (d_pool_with_c e29)) ?_
  refine eL sh42 ?_
  refine eM ?_
  refine de_eff0 rfl rfl rfl rfl (Yield.weak (yl_ob (ob' := (⟨74, 4, true, true, v25, [[lst 3 GLayer.av x29.Layers, int x29.Pend.a0, int x29.Pend.a1, int x29.Pend.a2]]⟩ : AObj)) (yl_store rfl sh74 rfl rfl rfl rfl rfl rfl rfl rfl rfl) rfl) (fun _ h => h) (fun _ _ => trivial)) (by rintro _ _ ⟨rfl, rfl⟩; exact ⟨rfl, trivial⟩) ?_; rintro _ _ ⟨rfl, rfl⟩
  refine de_eff0 rfl rfl rfl rfl (Yield.weak (yl_ob (ob' := (⟨42, 3, true, true, v26, [[int x27.2.1.Qty, int x27.2.1.Value, int x27.2.1.Profit]]⟩ : AObj)) (yl_store rfl sh42 rfl rfl rfl rfl rfl rfl rfl rfl rfl) rfl) (fun _ h => h) (fun _ _ => trivial)) (by rintro _ _ ⟨rfl, rfl⟩; exact trivial) ?_; rintro _ _ ⟨rfl, rfl⟩
  refine eA ?_
  refine de_nil (hK _ ?_)
  obtain rfl := nxt_e h1
  refine w_ret (hret _ _ (hk [(1, ⟨74, 4, true, true, v6, [[lst 3 GLayer.av a3.Layers, int a3.Pend.a0, int a3.Pend.a1, int a3.Pend.a2]]⟩), (2, ⟨74, 4, true, true, v7, [[.sc (.slice none 0 0), int 0, int 0, int 0]]⟩), (3, ⟨42, 3, true, true, v8, [[int 0, int 0, int 0]]⟩), (4, ⟨42, 3, true, true, v18, [[int 0, int 0, int 0]]⟩), (5, ⟨74, 4, true, true, v19, [[.sc (.slice none 0 0), int 0, int 0, int 0]]⟩)]) (.cell rfl (.pt rfl rfl rfl) sh74 rfl (.cell rfl (.pt rfl rfl rfl) sh42 rfl (.tmp rfl .nil))) (HK.le ⟨rfl, rfl, rfl, rfl, rfl, trivial⟩) ?_)
  exact ⟨(x29, x27.2.1, x27.2.2), (), rfl, rfl, rfl⟩
  rintro y _ ⟨⟨y5_1, y5_2, y5_3⟩, _, rfl, hc, rfl⟩
  replace h0 := p2_e h0
  replace h0 := p2_e h0
  subst hc
  refine tr tbk 4 (.mk ?_)
  refine sS ⟨74, 4, true, true, v19, [[lst 3 GLayer.av y5_1.Layers, int y5_1.Pend.a0, int y5_1.Pend.a1, int y5_1.Pend.a2]]⟩ sh74 ?_
  refine sS ⟨42, 3, true, true, v18, [[int y5_2.Qty, int y5_2.Value, int y5_2.Profit]]⟩ sh42 ?_
  refine tr tbk 6 (.mk ?_)
  refine nb tbk h0 fun x30 h0 => ?_
  refine tr tbk 1 (.mk ?_)
  cases x30
  replace h0 := cf h0
  refine tc tbk 3 (.mk ?_)
  refine c_drawE [0, 0, 0, 1, 11, 31, 63] (rl [(0, [5]), (1, [4])] []) (rl [(3, [4]), (4, [])] [4, 5]) (rl [(3, false), (4, false)] true) [0, 1, 2, 3, 4, 5, 6] mixed (by kernel_rfl) ?_; intro K hK
  refine eL sh74 ?_
  refine eL sh42 ?_
  refine eM ?_
  refine de_eff0 rfl rfl rfl rfl (Yield.weak (yl_ob (ob' := (⟨74, 4, true, true, v7, [[lst 3 GLayer.av y5_1.Layers, int y5_1.Pend.a0, int y5_1.Pend.a1, int y5_1.Pend.a2]]⟩ : AObj)) (yl_store rfl sh74 rfl rfl rfl rfl rfl rfl rfl rfl rfl) rfl) (fun _ h => h) (fun _ _ => trivial)) (by rintro _ _ ⟨rfl, rfl⟩; exact ⟨rfl, trivial⟩) ?_; rintro _ _ ⟨rfl, rfl⟩
  refine de_eff0 rfl rfl rfl rfl (Yield.weak (yl_ob (ob' := (⟨42, 3, true, true, v8, [[int y5_2.Qty, int y5_2.Value, int y5_2.Profit]]⟩ : AObj)) (yl_store rfl sh42 rfl rfl rfl rfl rfl rfl rfl rfl rfl) rfl) (fun _ h => h) (fun _ _ => trivial)) (by rintro _ _ ⟨rfl, rfl⟩; exact trivial) ?_; rintro _ _ ⟨rfl, rfl⟩
  iterate 2 refine eA ?_
  refine de_nil (hK _ ?_)
  obtain rfl := nxt_e h0
  refine wR hret (rC sh74 (rC sh42 (rT (rT .nil)))) ?_
  exact .refl _
  replace h0 := ct h0
  refine tc tbk 4 (.mk ?_)
  obtain ⟨x31, e31, h0⟩ := bind_e h0
  refine sC cal184 (d_pool_own_c e31) ?_
  refine tr tbk 2 (.mk ?_)
  refine sS ⟨74, 4, true, true, v7, [[lst 3 GLayer.av x31.Layers, int x31.Pend.a0, int x31.Pend.a1, int x31.Pend.a2]]⟩ sh74 ?_
  refine sS ⟨42, 3, true, true, v8, [[int 0, int 0, int 0]]⟩ sh42 ?_
  refine tr tbk 3 (.mk ?_)
  obtain rfl := nxt_e h0
  refine wR hret (rC sh74 (rC sh42 (rT (rT .nil)))) ?_
  exact .refl _
def d_stock_Fetch (n : Nat) (a1 : GState) (a2 : Int) (a3 : Int) (a4 : Int) (a5 : Int) (a6 : Int) : Option (GState × GLayer × Bool × Int) :=
(d_stock_place a1 a2 a3 a4).bind fun x10 =>
bnd (decide (x10 < 0)) fun x11 =>
asrt (x11 = false) <|
(ix a1.Master.Methods a2).bind fun x12 =>
(ix x12 a3).bind fun x13 =>
(ix a1.Master.Costs a2).bind fun x14 =>
(ix x14 a3).bind fun x15 =>
(ix a1.Ents a2).bind fun x16 =>
(ix x16.Pools x10).bind fun x17 =>
(d_pool_Out n x13 x15 x17 a5 a6).bind fun x18 =>
bnd x18.2.2.1 fun x20 =>
bnd (decide (x18.2.2.2 ≠ 0)) fun x21 =>
cond x21 (some ((a1 : GState), ((⟨0, 0, 0⟩ : GLayer) : GLayer), (false : Bool), (x18.2.2.2 : Int))) ((show Option ((Int × Bool × (List Int) × (List GRoll) × (List Int) × (List Int) × (List GEnt) × (List GPool))) from
(show Option ((Unit)) from
asrt (a1.Ents.length ≤ 68719476736) <|
(ix a1.Ents a2).bind fun x28 =>
some ()).bind <| fun _ =>
(ix a1.Ents a2).bind fun x29 =>
asrt (x29.Pools.length ≤ 68719476736) <|
(ix x29.Pools x10).bind fun x32 =>
bnd (x29.Pools.set (Int.toNat x10) (x18.1 : GPool)) fun x33 =>
some ((x29.Now : Int), (x29.Closed : Bool), (x29.Bal : List Int), (x29.Rolls : List GRoll), (x29.Prices : List Int), (x29.Down : List Int), (x29.Ahead : List GEnt), (x33 : List GPool))).bind <| p2 fun (y3_2 : Int) (q0 : Bool × (List Int) × (List GRoll) × (List Int) × (List Int) × (List GEnt) × (List GPool)) => (p2 fun (y3_3 : Bool) (q1 : (List Int) × (List GRoll) × (List Int) × (List Int) × (List GEnt) × (List GPool)) => (p2 fun (y3_5 : List Int) (q2 : (List GRoll) × (List Int) × (List Int) × (List GEnt) × (List GPool)) => (p2 fun (y3_6 : List GRoll) (q3 : (List Int) × (List Int) × (List GEnt) × (List GPool)) => (p2 fun (y3_7 : List Int) (q4 : (List Int) × (List GEnt) × (List GPool)) => (p2 fun (y3_8 : List Int) (q5 : (List GEnt) × (List GPool)) => (p2 fun (y3_9 : List GEnt) (y3_10 : List GPool) =>
(ix a1.Ents a2).bind fun x34 =>
some (((⟨a1.Master, (a1.Ents.set (Int.toNat a2) (⟨y3_2, y3_3, y3_10, y3_5, y3_6, y3_7, y3_8, y3_9⟩ : GEnt)), a1.Receipts, a1.Sales, a1.Transits, a1.Done⟩ : GState) : GState), (x18.2.1 : GLayer), (x20 : Bool), (0 : Int))) q5) q4) q3) q2) q1) q0)
theorem d_stock_Fetch_c {n : Nat} {a1 : GState} {a2 : Int} {a3 : Int} {a4 : Int} {a5 : Int} {a6 : Int} {r : GState × GLayer × Bool × Int} (h0 : d_stock_Fetch n a1 a2 a3 a4 a5 a6 = some r) : PP Tryz.prog 147 [.agg (GState.av a1), int a2, int a3, int a4, int a5, int a6] (fun y => y = .tup [.agg (GState.av r.1), .agg (GLayer.av r.2.1), boo r.2.2.1, int r.2.2.2]) := by
  unfold d_stock_Fetch at h0
  refine pp_of_pc (R0 := fun y H => Cv (frzH H) y (.tup [.agg (GState.av r.1), .agg (GLayer.av r.2.1), boo r.2.2.1, int r.2.2.2])) ?_ (fun y H hc => ⟨_, rfl, .tup (pvl4 ((fun (a : GState) => PV.agg (GState.pvc a)) (r.1)) ((fun (a : GLayer) => PV.agg (GLayer.pvc a)) (r.2.1)) (pvB (r.2.2.1)) (pvI (r.2.2.2))), hc⟩)
  refine pcw (c := _) Tryz.func147 rfl rfl ?_; intro Q hret hnorm
  refine tc tbk 2 (.mk ?_)
  refine sB 1 fun v7 => ?_
  refine sA 2 z31 fun v8 => ?_
  refine sA 3 z42 fun v9 => ?_
  refine tr tbk 9 (.mk ?_)
  obtain ⟨x10, e10, h0⟩ := bind_e h0
  refine sC cal62 (d_stock_place_c e10) ?_
  refine tr tbk 6 (.mk ?_)
  refine nb tbk h0 fun x11 h0 => ?_
  refine tr tbk 1 (.mk ?_)
  replace h0 := asrt_e h0
  obtain ⟨rfl, h0⟩ := h0
  refine tc tbk 3 (.mk ?_)
  refine c_drawE [0, 1, 3, 0, 15, 31, 0, 127, 255, 0, 512, 1536, 0, 7680, 15872, 0, 65024, 130560, 0, 262144, 0, 1835008, 3932160, 8126464, 0, 33292288, 66846720, 0, 0, 536870911, 1073741823, 2147483647, 2147483647, 2147483647, 2147483647, 0, 38654705663, 111669149695, 257698037759, 549755813887] (rl [(0, [1]), (1, [1]), (2, [1]), (9, [1]), (10, [1]), (11, [1]), (18, [1]), (19, [1])] []) (rl [(36, []), (37, [])] [1]) (rl [(35, false), (36, false), (37, false)] true) [0, 1, 2, 3, 4, 5, 6, 7, 8, 9, 10, 11, 12, 13, 14, 15, 16, 17, 18, 19, 20, 21, 22, 23, 24, 25, 26, 27, 28, 29, 30, 31, 32, 33, 34, 35, 36, 37, 38, 39] mixed (by kernel_rfl) ?_; intro K hK
  refine eF fo31_0 ?_
  refine eF fo25_3 ?_
  refine eL sh23 ?_
  refine eM ?_
  obtain ⟨x12, e12, h0⟩ := bind_e h0
  refine eP (fun H hH => yv_ixT rfl Tryz.underlying23 sh22 rfl rfl e12) ?_
  refine eP (fun H hH => yv_load rfl sh22 rfl (.pp _) rfl) ?_
  refine eM ?_
  obtain ⟨x13, e13, h0⟩ := bind_e h0
  refine eP (fun H hH => yv_ixT rfl Tryz.underlying22 sh3 rfl rfl e13) ?_
  refine eP (fun H hH => yv_load rfl sh3 rfl (.pp _) rfl) ?_
  refine eF fo31_0 ?_
  refine eF fo25_4 ?_
  refine eL sh23 ?_
  refine eM ?_
  obtain ⟨x14, e14, h0⟩ := bind_e h0
  refine eP (fun H hH => yv_ixT rfl Tryz.underlying23 sh22 rfl rfl e14) ?_
  refine eP (fun H hH => yv_load rfl sh22 rfl (.pp _) rfl) ?_
  refine eM ?_
  obtain ⟨x15, e15, h0⟩ := bind_e h0
  refine eP (fun H hH => yv_ixT rfl Tryz.underlying22 sh3 rfl rfl e15) ?_
  refine eP (fun H hH => yv_load rfl sh3 rfl (.pp _) rfl) ?_
  refine eF fo31_1 ?_
  refine eL sh26 ?_
  refine eM ?_
  obtain ⟨x16, e16, h0⟩ := bind_e h0
  refine eP (fun H hH => yv_to (y := .pp [int x16.Now, boo x16.Closed, lst 4 GPool.av x16.Pools, lst 1 fI x16.Bal, lst 11 GRoll.av x16.Rolls, lst 1 fI x16.Prices, lst 1 fI x16.Down, lst 8 GEnt.av x16.Ahead]) (yv_ixT rfl Tryz.underlying26 sh47 rfl rfl e16) (congrArg AV.pp (GEnt.av_eq x16))) ?_
  refine eP (fun H hH => yv_fieldAddr rfl fo47_2 rfl (.pp _) (.pp _ _)) ?_
  refine eP (fun H hH => yv_load rfl sh44 rfl (.pp _) rfl) ?_
  refine eM ?_
  obtain ⟨x17, e17, h0⟩ := bind_e h0
  refine eP (fun H hH => yv_ixT rfl Tryz.underlying44 sh74 rfl rfl e17) ?_
  refine eP (fun H hH => yv_load rfl sh74 rfl (.pp _) rfl) ?_
  iterate 2 refine eM ?_
  obtain ⟨x18, e18, h0⟩ := bind_e h0
  refine eP (fun H hH => yv_callP rfl rfl (.cons rfl (.cons rfl (.cons rfl (.cons rfl (.cons rfl .nil))))) cal185 (CvL.refl _) (d_pool_Out_c e18)) ?_
  refine eM ?_
  iterate 4 refine eX ?_
  refine de_eff rfl rfl rfl rfl (yl_alloc 4 .any rfl z74 rfl) (by rintro _ _ ⟨v19, -, rfl, rfl⟩; exact ⟨rfl, trivial⟩) ?_; rintro _ _ ⟨v19, -, rfl, rfl⟩
  refine de_eff0 rfl rfl rfl rfl (Yield.weak (yl_ob (ob' := (⟨74, 4, true, true, v19, [[lst 3 GLayer.av x18.1.Layers, int x18.1.Pend.a0, int x18.1.Pend.a1, int x18.1.Pend.a2]]⟩ : AObj)) (yl_store rfl sh74 rfl rfl rfl rfl rfl rfl rfl rfl rfl) rfl) (fun _ h => h) (fun _ _ => trivial)) (by rintro _ _ ⟨rfl, rfl⟩; exact trivial) ?_; rintro _ _ ⟨rfl, rfl⟩
  refine de_eff0 rfl rfl rfl rfl (Yield.weak (yl_ob (ob' := (⟨42, 3, true, true, v9, [[int x18.2.1.Qty, int x18.2.1.Value, int x18.2.1.Profit]]⟩ : AObj)) (yl_store rfl sh42 rfl rfl rfl rfl rfl rfl rfl rfl rfl) rfl) (fun _ h => h) (fun _ _ => trivial)) (by rintro _ _ ⟨rfl, rfl⟩; exact trivial) ?_; rintro _ _ ⟨rfl, rfl⟩
  obtain ⟨x20, e20, h0⟩ := bnd_e h0
  refine eP (fun H hH => yv_to (y := boo x20) (yv_assign rfl rfl) (congrArg boo e20)) ?_
  refine eA ?_
  refine de_nil (hK _ ?_)
  refine tc tbk 4 (.mk ?_)
  refine nb tbk h0 fun x21 h0 => ?_
  refine tr tbk 1 (.mk ?_)
  cases x21
  replace h0 := cf h0
  refine tc tbk 5 (.mk ?_)
  refine sY (yv_build (cs := (GState.av a1)) (ps := [(0, _)]) rfl pl153 z153 rfl (.cons rfl .nil) (by kernel_rfl)) ?_
  refine sA 5 z153 fun v22 => ?_
  refine sS ⟨153, 10, true, true, v22, [(GState.av a1)]⟩ sh153 ?_
  refine tr tbk 6 (.mk ?_)
  obtain ⟨j23, h1, h0⟩ := bind_e h0
  refine rse (Out := fun y H' => (∃ (a : Int × Bool × (List Int) × (List GRoll) × (List Int) × (List Int) × (List GEnt) × (List GPool)) (k : Nat × Nat), a = j23 ∧ y = .tup [] ∧ H' = hk [(1, ⟨31, 10, true, true, v7, [(GState.av a1)]⟩), (2, ⟨31, 10, true, true, v8, [[int 0, int 0, .sc (.slice none 0 0), .sc (.slice none 0 0), .sc (.slice none 0 0), .sc (.slice none 0 0), .sc (.slice none 0 0), .sc (.slice none 0 0), .sc (.slice none 0 0), int 0]]⟩), (3, ⟨42, 3, true, true, v9, [[int x18.2.1.Qty, int x18.2.1.Value, int x18.2.1.Profit]]⟩), (4, ⟨74, 4, true, true, v19, [[lst 3 GLayer.av x18.1.Layers, int x18.1.Pend.a0, int x18.1.Pend.a1, int x18.1.Pend.a2]]⟩), (5, ⟨153, 10, true, true, v22, [[int a1.Master.Entities, int a1.Master.Periods, lst 1 fI a1.Master.Weights, lst 1 (fL 1 fI) a1.Master.Methods, lst 1 (fL 1 fI) a1.Master.Costs, .sl 7 k.1 0 a1.Ents.length, lst 8 GReceipt.av a1.Receipts, lst 9 GSale.av a1.Sales, lst 6 GTransit.av a1.Transits, int a1.Done]]⟩), (7, ⟨47, 8, true, true, k.1, (a1.Ents.map GEnt.av).set (Int.toNat a2) [int a.1, boo a.2.1, .sl 8 k.2 0 a.2.2.2.2.2.2.2.length, lst 1 fI a.2.2.1, lst 11 GRoll.av a.2.2.2.1, lst 1 fI a.2.2.2.2.1, lst 1 fI a.2.2.2.2.2.1, lst 8 GEnt.av a.2.2.2.2.2.2.1]⟩), (8, ⟨74, 4, true, true, k.2, a.2.2.2.2.2.2.2.map GPool.av⟩)])) rfl rfl rfl (yl_call rfl rfl (.cons rfl (.cons rfl (.cons rfl (.cons rfl .nil)))) cal145 ?_) ?_
  refine pcw (c := _) Tryz.func145 rfl rfl ?_; intro Q hret hnorm
  refine tc tbk 2 (.mk ?_)
  refine sB 6 fun v24 => ?_
  refine tr tbk 5 (.mk ?_)
  obtain ⟨j25, h2, h1⟩ := bind_e h1
  refine rse (Out := fun y H' => (∃ (a : Unit) (k : Nat), a = j25 ∧ y = .pt 7 k (Int.toNat a2) 0 ∧ H' = hk [(1, ⟨31, 10, true, true, v7, [(GState.av a1)]⟩), (2, ⟨31, 10, true, true, v8, [[int 0, int 0, .sc (.slice none 0 0), .sc (.slice none 0 0), .sc (.slice none 0 0), .sc (.slice none 0 0), .sc (.slice none 0 0), .sc (.slice none 0 0), .sc (.slice none 0 0), int 0]]⟩), (3, ⟨42, 3, true, true, v9, [[int x18.2.1.Qty, int x18.2.1.Value, int x18.2.1.Profit]]⟩), (4, ⟨74, 4, true, true, v19, [[lst 3 GLayer.av x18.1.Layers, int x18.1.Pend.a0, int x18.1.Pend.a1, int x18.1.Pend.a2]]⟩), (5, ⟨153, 10, true, true, v22, [[int a1.Master.Entities, int a1.Master.Periods, lst 1 fI a1.Master.Weights, lst 1 (fL 1 fI) a1.Master.Methods, lst 1 (fL 1 fI) a1.Master.Costs, .sl 7 k 0 a1.Ents.length, lst 8 GReceipt.av a1.Receipts, lst 9 GSale.av a1.Sales, lst 6 GTransit.av a1.Transits, int a1.Done]]⟩), (6, ⟨74, 4, true, true, v24, [[lst 3 GLayer.av x18.1.Layers, int x18.1.Pend.a0, int x18.1.Pend.a1, int x18.1.Pend.a2]]⟩), (7, ⟨47, 8, true, true, k, a1.Ents.map GEnt.av⟩)])) rfl rfl rfl (yl_call rfl rfl (.cons rfl (.cons rfl .nil)) cal86 ?_) ?_
  refine pcw (c := _) Tryz.func86 rfl rfl ?_; intro Q hret hnorm
  refine tc tbk 12 (.mk ?_)
  obtain ⟨p26, h2⟩ := asrt_e h2
  refine rse rfl rfl rfl (yl_call rfl rfl (.cons rfl .nil) cal28 (pc_cv (clone28_c (id := 7) (l := a1.Ents) rfl p26) (.cons (.refl _) .nil))) ?_; rintro _ _ ⟨v27, rfl, rfl⟩
  refine tr tbk 3 (.mk ?_)
  refine sS ⟨153, 10, true, true, v22, [[int a1.Master.Entities, int a1.Master.Periods, lst 1 fI a1.Master.Weights, lst 1 (fL 1 fI) a1.Master.Methods, lst 1 (fL 1 fI) a1.Master.Costs, .sl 7 v27 0 a1.Ents.length, lst 8 GReceipt.av a1.Receipts, lst 9 GSale.av a1.Sales, lst 6 GTransit.av a1.Transits, int a1.Done]]⟩ sh26 ?_
  refine tr tbk 9 (.mk ?_)
  obtain ⟨x28, e28, h2⟩ := bind_e h2
  refine sY (yv_ixO rfl Tryz.underlying26 sh47 rfl rfl rfl rfl rfl (Eq.symm rfl) (List.length_map _) e28) ?_
  refine tr tbk 2 (.mk ?_)
  obtain rfl := nxt_e h2
  refine w_ret (hret _ _ (hk [(1, ⟨31, 10, true, true, v7, [(GState.av a1)]⟩), (2, ⟨31, 10, true, true, v8, [[int 0, int 0, .sc (.slice none 0 0), .sc (.slice none 0 0), .sc (.slice none 0 0), .sc (.slice none 0 0), .sc (.slice none 0 0), .sc (.slice none 0 0), .sc (.slice none 0 0), int 0]]⟩), (3, ⟨42, 3, true, true, v9, [[int x18.2.1.Qty, int x18.2.1.Value, int x18.2.1.Profit]]⟩), (4, ⟨74, 4, true, true, v19, [[lst 3 GLayer.av x18.1.Layers, int x18.1.Pend.a0, int x18.1.Pend.a1, int x18.1.Pend.a2]]⟩), (5, ⟨153, 10, true, true, v22, [[int a1.Master.Entities, int a1.Master.Periods, lst 1 fI a1.Master.Weights, lst 1 (fL 1 fI) a1.Master.Methods, lst 1 (fL 1 fI) a1.Master.Costs, .sl 7 v27 0 a1.Ents.length, lst 8 GReceipt.av a1.Receipts, lst 9 GSale.av a1.Sales, lst 6 GTransit.av a1.Transits, int a1.Done]]⟩), (6, ⟨74, 4, true, true, v24, [[lst 3 GLayer.av x18.1.Layers, int x18.1.Pend.a0, int x18.1.Pend.a1, int x18.1.Pend.a2]]⟩), (7, ⟨47, 8, true, true, v27, a1.Ents.map GEnt.av⟩)]) (.tmp rfl .nil) (HK.le ⟨rfl, rfl, rfl, rfl, rfl, rfl, rfl, trivial⟩) ?_)
  exact ⟨(), v27, rfl, rfl, rfl⟩
  rintro y _ ⟨_, w1_1, rfl, hc, rfl⟩
  subst hc
  refine tr tbk 6 (.mk ?_)
  obtain ⟨x29, e29, h1⟩ := bind_e h1
  refine sY (yv_nilCheck rfl rfl (.pt rfl rfl (ix_get' e29 (GEnt.av_eq _)))) ?_
  refine sY (yv_fieldAddr rfl fo47_2 rfl (.pt rfl rfl (ix_get' e29 (GEnt.av_eq _))) (.pt _ _ _ _ _)) ?_
  refine sY (yv_load rfl sh44 rfl (.pt rfl rfl (ix_get' e29 (GEnt.av_eq _))) rfl) ?_
  obtain ⟨p30, h1⟩ := asrt_e h1
  refine rse rfl rfl rfl (yl_call rfl rfl (.cons rfl .nil) cal48 (pc_cv (clone48_c (id := 8) (l := x29.Pools) rfl p30) (.cons (.refl _) .nil))) ?_; rintro _ _ ⟨v31, rfl, rfl⟩
  refine sY (yv_nilCheck rfl rfl (.pt rfl rfl (ix_get' e29 (GEnt.av_eq _)))) ?_
  refine sY (yv_fieldAddr rfl fo47_2 rfl (.pt rfl rfl (ix_get' e29 (GEnt.av_eq _))) (.pt _ _ _ _ _)) ?_
  refine rsstore rfl rfl (yl_ob (ob' := (⟨47, 8, true, true, w1_1, (a1.Ents.map GEnt.av).set (Int.toNat a2) [int x29.Now, boo x29.Closed, .sl 8 v31 0 x29.Pools.length, lst 1 fI x29.Bal, lst 11 GRoll.av x29.Rolls, lst 1 fI x29.Prices, lst 1 fI x29.Down, lst 8 GEnt.av x29.Ahead]⟩ : AObj)) (yl_store rfl sh44 rfl rfl rfl rfl rfl (ix_get' e29 (GEnt.av_eq _)) rfl rfl rfl) (ob_eq rfl)) ?_
  refine tr tbk 1 (.mk ?_)
  refine c_drawE [0, 1, 3, 7, 0, 0, 63, 127] (rl [(1, [7]), (2, [7]), (3, [7]), (5, [6]), (6, [8])] []) (rl [(7, [])] [6, 7, 8]) (rl [(7, false)] true) [0, 1, 2, 3, 4, 5, 6, 7] mixed (by kernel_rfl) ?_; intro K hK
  refine eM ?_
  refine eN (hr := set_get e29) ?_
  refine eF fo47_2 (hr := set_get e29) ?_
  refine eL sh44 (hr := set_get e29) ?_
  refine eM ?_
  refine eL sh74 ?_
  obtain ⟨x32, e32, h1⟩ := bind_e h1
  refine de_pure rfl rfl rfl rfl (fun H hH => yv_ixO rfl Tryz.underlying44 sh74 rfl rfl ((hH _ (by decide)).trans rfl) rfl rfl (Eq.symm rfl) (List.length_map _) e32) ?_
  obtain ⟨x33, e33, h1⟩ := bnd_e h1
  have fx33 := ix_set e32 e33; have lx33 := len_setV e33 (rfl : x29.Pools.length = x29.Pools.length)
  refine de_eff0 rfl rfl rfl rfl (Yield.weak (yl_ob (ob' := (⟨74, 4, true, true, v31, x33.map GPool.av⟩ : AObj)) (yl_store rfl sh74 rfl rfl rfl rfl rfl (ix_get e32) rfl rfl rfl) (ob_eq (map_setV e33))) (fun _ h => h) (fun _ _ => trivial)) (by rintro _ _ ⟨rfl, rfl⟩; exact trivial) ?_; rintro _ _ ⟨rfl, rfl⟩
  refine de_nil (hK _ ?_)
  obtain rfl := nxt_e h1
  refine c_nil (hnorm _ _ (hk [(1, ⟨31, 10, true, true, v7, [(GState.av a1)]⟩), (2, ⟨31, 10, true, true, v8, [[int 0, int 0, .sc (.slice none 0 0), .sc (.slice none 0 0), .sc (.slice none 0 0), .sc (.slice none 0 0), .sc (.slice none 0 0), .sc (.slice none 0 0), .sc (.slice none 0 0), int 0]]⟩), (3, ⟨42, 3, true, true, v9, [[int x18.2.1.Qty, int x18.2.1.Value, int x18.2.1.Profit]]⟩), (4, ⟨74, 4, true, true, v19, [[lst 3 GLayer.av x18.1.Layers, int x18.1.Pend.a0, int x18.1.Pend.a1, int x18.1.Pend.a2]]⟩), (5, ⟨153, 10, true, true, v22, [[int a1.Master.Entities, int a1.Master.Periods, lst 1 fI a1.Master.Weights, lst 1 (fL 1 fI) a1.Master.Methods, lst 1 (fL 1 fI) a1.Master.Costs, .sl 7 w1_1 0 a1.Ents.length, lst 8 GReceipt.av a1.Receipts, lst 9 GSale.av a1.Sales, lst 6 GTransit.av a1.Transits, int a1.Done]]⟩), (7, ⟨47, 8, true, true, w1_1, (a1.Ents.map GEnt.av).set (Int.toNat a2) [int x29.Now, boo x29.Closed, .sl 8 v31 0 x33.length, lst 1 fI x29.Bal, lst 11 GRoll.av x29.Rolls, lst 1 fI x29.Prices, lst 1 fI x29.Down, lst 8 GEnt.av x29.Ahead]⟩), (8, ⟨74, 4, true, true, v31, x33.map GPool.av⟩)]) .nil (HK.le ⟨rfl, rfl, rfl, rfl, rfl, (by first | rfl | exact lx33 ▸ rfl), rfl, trivial⟩) ?_)
  exact ⟨(x29.Now, x29.Closed, x29.Bal, x29.Rolls, x29.Prices, x29.Down, x29.Ahead, x33), (w1_1, v31), rfl, rfl, rfl⟩
  rintro y _ ⟨⟨y3_2, y3_3, y3_5, y3_6, y3_7, y3_8, y3_9, y3_10⟩, ⟨w3_1, w3_4⟩, rfl, hc, rfl⟩
  replace h0 := p2_e h0
  replace h0 := p2_e h0
  replace h0 := p2_e h0
  replace h0 := p2_e h0
  replace h0 := p2_e h0
  replace h0 := p2_e h0
  replace h0 := p2_e h0
  subst hc
  obtain ⟨x34, e34, h0⟩ := bind_e h0
  refine tr tbk 2 (.mk ?_)
  refine c_drawE [0, 1, 0, 0, 3, 23, 63, 127] (rl [(0, [5]), (1, [5]), (2, [3])] []) (rl [(4, [3]), (5, [])] [3, 5]) (rl [(4, false), (5, false)] true) [0, 1, 2, 3, 4, 5, 6, 7] mixed (by kernel_rfl) ?_; intro K hK
  refine eF fo153_0 ?_
  refine eL sh31 ?_
  refine eL sh42 ?_
  refine eM ?_
  refine de_eff0 rfl rfl rfl rfl (Yield.weak (yl_ob (ob' := (⟨31, 10, true, true, v8, [[int a1.Master.Entities, int a1.Master.Periods, lst 1 fI a1.Master.Weights, lst 1 (fL 1 fI) a1.Master.Methods, lst 1 (fL 1 fI) a1.Master.Costs, .sl 7 w3_1 0 a1.Ents.length, lst 8 GReceipt.av a1.Receipts, lst 9 GSale.av a1.Sales, lst 6 GTransit.av a1.Transits, int a1.Done]]⟩ : AObj)) (yl_store rfl sh31 rfl rfl rfl rfl rfl rfl rfl rfl rfl) rfl) (fun _ h => h) (fun _ _ => trivial)) (by rintro _ _ ⟨rfl, rfl⟩; exact ⟨rfl, trivial⟩) ?_; rintro _ _ ⟨rfl, rfl⟩
  refine de_eff0 rfl rfl rfl rfl (Yield.weak (yl_ob (ob' := (⟨42, 3, true, true, v9, [[int x18.2.1.Qty, int x18.2.1.Value, int x18.2.1.Profit]]⟩ : AObj)) (yl_store rfl sh42 rfl rfl rfl rfl rfl rfl rfl rfl rfl) rfl) (fun _ h => h) (fun _ _ => trivial)) (by rintro _ _ ⟨rfl, rfl⟩; exact trivial) ?_; rintro _ _ ⟨rfl, rfl⟩
  iterate 2 refine eA ?_
  refine de_nil (hK _ ?_)
  obtain rfl := nxt_e h0
  refine wR hret (rC sh31 (rC sh42 (rT (rT .nil)))) ?_
  exact CvL.tup (.cons (CvL.agg (.cons (.refl _) (.cons (.refl _) (.cons (.refl _) (.cons (.refl _) (.cons (.refl _) (.cons (cv_ov rfl rfl rfl rfl rfl (Eq.symm rfl) e34 (cvl_to (.cons (.refl _) (.cons (.refl _) (.cons (cv_lst rfl rfl rfl rfl rfl (Eq.symm rfl)) (.cons (.refl _) (.cons (.refl _) (.cons (.refl _) (.cons (.refl _) (.cons (.refl _) .nil)))))))) (GEnt.av_eq _))) (.cons (.refl _) (.cons (.refl _) (.cons (.refl _) (.cons (.refl _) .nil))))))))))) (.cons (.refl _) (.cons (.refl _) (.cons (.refl _) .nil))))
  replace h0 := ct h0
  refine tc tbk 6 (.mk ?_)
  refine sS ⟨31, 10, true, true, v8, [(GState.av a1)]⟩ sh31 ?_
  refine sS ⟨42, 3, true, true, v9, [[int 0, int 0, int 0]]⟩ sh42 ?_
  refine tr tbk 3 (.mk ?_)
  obtain rfl := nxt_e h0
  refine wR hret (rC sh31 (rC sh42 (rT (rT .nil)))) ?_
  exact .refl _
def d_adjust_line (a1 : Int) (a2 : Int) : Option (GLine) :=
some (((⟨a1, a2⟩ : GLine) : GLine))
theorem d_adjust_line_c {a1 : Int} {a2 : Int} {r : GLine} (h0 : d_adjust_line a1 a2 = some r) : PP Tryz.prog 188 [int a1, int a2] (fun y => y = .agg (GLine.av r)) := by
  unfold d_adjust_line at h0
  refine pp_of_pc (R0 := fun y H => Cv (frzH H) y (.agg (GLine.av r))) ?_ (fun y H hc => ⟨_, rfl, (fun (a : GLine) => PV.agg (GLine.pvc a)) r, hc⟩)
  refine pcw (c := _) Tryz.func188 rfl rfl ?_; intro Q hret hnorm
  refine tc tbk 2 (.mk ?_)
  refine sA 1 z108 fun v3 => ?_
  refine tr tbk 6 (.mk ?_)
  refine sS ⟨108, 2, true, true, v3, [[int a1, int a2]]⟩ sh108 ?_
  refine tr tbk 1 (.mk ?_)
  obtain rfl := nxt_e h0
  refine wR hret (rC sh108 .nil) ?_
  exact .refl _
def d_voucher_is (a1 : Int) : Option (Bool) :=
(show Option (Bool) from
bnd (decide (a1 ≥ 0)) fun x3 =>
cond x3 (bnd (decide (a1 < 17)) fun x4 =>
some (x4 : Bool)) (some (false : Bool))).bind <| fun y0_1 =>
some ((y0_1 : Bool))
theorem d_voucher_is_c {a1 : Int} {r : Bool} (h0 : d_voucher_is a1 = some r) : PP Tryz.prog 129 [int a1] (fun y => y = boo r) := by
  unfold d_voucher_is at h0
  refine pp_of_pc (R0 := fun y H => Cv (frzH H) y (boo r)) ?_ (fun y H hc => ⟨_, rfl, pvB r, hc⟩)
  refine pcw (c := _) Tryz.func129 rfl rfl ?_; intro Q hret hnorm
  refine tc tbk 5 (.mk ?_)
  refine jn h0 [] [] (fun (a : Bool) (k : Unit) => [(2, boo a)]) (fun a k => []) ⟨fun j2 h1 => ?_, ?_⟩
  refine tc tbk 2 (.mk ?_)
  refine nb tbk h1 fun x3 h1 => ?_
  refine tr tbk 1 (.mk ?_)
  cases x3
  replace h1 := cf h1
  refine tr tbk 5 (.mk ?_)
  exact lf h1 () leA
  replace h1 := ct h1
  refine tr tbk 1 (.mk ?_)
  refine nb tbk h1 fun x4 h1 => ?_
  refine tr tbk 3 (.mk ?_)
  exact lf h1 () leA
  rintro y0_1 _ h0
  obtain rfl := nxt_e h0
  refine wR hret (rT .nil) ?_
  exact .refl _
def d_voucher_in (a1 : Int) : Option (Bool) :=
(show Option (Bool) from
bnd (decide (a1 ≥ (-288230376151711744))) fun x3 =>
cond x3 (bnd (decide (a1 ≤ 288230376151711744)) fun x4 =>
some (x4 : Bool)) (some (false : Bool))).bind <| fun y0_1 =>
some ((y0_1 : Bool))
theorem d_voucher_in_c {a1 : Int} {r : Bool} (h0 : d_voucher_in a1 = some r) : PP Tryz.prog 130 [int a1] (fun y => y = boo r) := by
  unfold d_voucher_in at h0
  refine pp_of_pc (R0 := fun y H => Cv (frzH H) y (boo r)) ?_ (fun y H hc => ⟨_, rfl, pvB r, hc⟩)
  refine pcw (c := _) Tryz.func130 rfl rfl ?_; intro Q hret hnorm
  refine tc tbk 5 (.mk ?_)
  refine jn h0 [] [] (fun (a : Bool) (k : Unit) => [(2, boo a)]) (fun a k => []) ⟨fun j2 h1 => ?_, ?_⟩
  refine tc tbk 2 (.mk ?_)
  refine nb tbk h1 fun x3 h1 => ?_
  refine tr tbk 1 (.mk ?_)
  cases x3
  replace h1 := cf h1
  refine tr tbk 5 (.mk ?_)
  exact lf h1 () leA
  replace h1 := ct h1
  refine tr tbk 1 (.mk ?_)
  refine nb tbk h1 fun x4 h1 => ?_
  refine tr tbk 3 (.mk ?_)
  exact lf h1 () leA
  rintro y0_1 _ h0
  obtain rfl := nxt_e h0
  refine wR hret (rT .nil) ?_
  exact .refl _
def d_voucher_Plain_1 (a1 : GLine) : Option (Bool) :=
(show Option (Bool) from
(d_voucher_is a1.Account).bind fun x4 =>
bnd (!x4) fun x5 =>
cond x5 (some (true : Bool)) ((d_voucher_in a1.Amount).bind fun x6 =>
bnd (!x6) fun x7 =>
some (x7 : Bool))).bind <| fun y0_1 =>
some ((y0_1 : Bool))
theorem d_voucher_Plain_1_c {a1 : GLine} {r : Bool} (h0 : d_voucher_Plain_1 a1 = some r) : PP Tryz.prog 128 [.agg (GLine.av a1)] (fun y => y = boo r) := by
  unfold d_voucher_Plain_1 at h0
  refine pp_of_pc (R0 := fun y H => Cv (frzH H) y (boo r)) ?_ (fun y H hc => ⟨_, rfl, pvB r, hc⟩)
  refine pcw (c := _) Tryz.func128 rfl rfl ?_; intro Q hret hnorm
  refine tc tbk 2 (.mk ?_)
  refine sB 1 fun v2 => ?_
  refine tr tbk 3 (.mk ?_)
  refine jn h0 [] [] (fun (a : Bool) (k : Unit) => [(2, boo a)]) (fun a k => []) ⟨fun j3 h1 => ?_, ?_⟩
  refine tc tbk 3 (.mk ?_)
  obtain ⟨x4, e4, h1⟩ := bind_e h1
  refine sC cal129 (d_voucher_is_c e4) ?_
  refine nb tbk h1 fun x5 h1 => ?_
  refine tr tbk 1 (.mk ?_)
  cases x5
  replace h1 := cf h1
  refine tr tbk 2 (.mk ?_)
  obtain ⟨x6, e6, h1⟩ := bind_e h1
  refine sC cal130 (d_voucher_in_c e6) ?_
  refine nb tbk h1 fun x7 h1 => ?_
  refine tr tbk 3 (.mk ?_)
  exact lf h1 () leA
  replace h1 := ct h1
  refine tr tbk 7 (.mk ?_)
  exact lf h1 () leA
  rintro y0_1 _ h0
  obtain rfl := nxt_e h0
  refine wR hret (rT .nil) ?_
  exact .refl _
def d_voucher_Plain_2 (a1 : GLine) : Option (Int) :=
some ((a1.Account : Int))
theorem d_voucher_Plain_2_c {a1 : GLine} {r : Int} (h0 : d_voucher_Plain_2 a1 = some r) : PP Tryz.prog 133 [.agg (GLine.av a1)] (fun y => y = int r) := by
  unfold d_voucher_Plain_2 at h0
  refine pp_of_pc (R0 := fun y H => Cv (frzH H) y (int r)) ?_ (fun y H hc => ⟨_, rfl, pvI r, hc⟩)
  refine pcw (c := _) Tryz.func133 rfl rfl ?_; intro Q hret hnorm
  refine tc tbk 2 (.mk ?_)
  refine sB 1 fun v2 => ?_
  refine tr tbk 8 (.mk ?_)
  obtain rfl := nxt_e h0
  refine wR hret (rT .nil) ?_
  exact .refl _
def d_cmp_isNaN_int (a1 : Int) : Option (Bool) :=
bnd (decide (a1 ≠ a1)) fun x2 =>
some ((x2 : Bool))
theorem d_cmp_isNaN_int_c {a1 : Int} {r : Bool} (h0 : d_cmp_isNaN_int a1 = some r) : PP Tryz.prog 199 [int a1] (fun y => y = boo r) := by
  unfold d_cmp_isNaN_int at h0
  refine pp_of_pc (R0 := fun y H => Cv (frzH H) y (boo r)) ?_ (fun y H hc => ⟨_, rfl, pvB r, hc⟩)
  refine pcw (c := _) Tryz.func199 rfl rfl ?_; intro Q hret hnorm
  refine tc tbk 8 (.mk ?_)
  refine nb tbk h0 fun x2 h0 => ?_
  refine tr tbk 2 (.mk ?_)
  obtain rfl := nxt_e h0
  refine wR hret (rT .nil) ?_
  exact .refl _
def d_cmp_Compare_int (a1 : Int) (a2 : Int) : Option (Int) :=
(d_cmp_isNaN_int a1).bind fun x3 =>
(d_cmp_isNaN_int a2).bind fun x4 =>
cond x3 (cond x4 (some ((0 : Int))) (some (((-1) : Int)))) (cond x4 (some ((1 : Int))) (bnd (decide (a1 < a2)) fun x5 =>
cond x5 (some (((-1) : Int))) (bnd (decide (a1 > a2)) fun x6 =>
cond x6 (some ((1 : Int))) (some ((0 : Int))))))
theorem d_cmp_Compare_int_c {a1 : Int} {a2 : Int} {r : Int} (h0 : d_cmp_Compare_int a1 a2 = some r) : PP Tryz.prog 178 [int a1, int a2] (fun y => y = int r) := by
  unfold d_cmp_Compare_int at h0
  refine pp_of_pc (R0 := fun y H => Cv (frzH H) y (int r)) ?_ (fun y H hc => ⟨_, rfl, pvI r, hc⟩)
  refine pcw (c := _) Tryz.func178 rfl rfl ?_; intro Q hret hnorm
  refine tc tbk 7 (.mk ?_)
  obtain ⟨x3, e3, h0⟩ := bind_e h0
  refine sC cal199 (d_cmp_isNaN_int_c e3) ?_
  refine tr tbk 5 (.mk ?_)
  obtain ⟨x4, e4, h0⟩ := bind_e h0
  refine sC cal199 (d_cmp_isNaN_int_c e4) ?_
  refine tr tbk 7 (.mk ?_)
  cases x3
  replace h0 := cf h0
  refine tc tbk 7 (.mk ?_)
  cases x4
  replace h0 := cf h0
  refine tc tbk 7 (.mk ?_)
  refine nb tbk h0 fun x5 h0 => ?_
  refine tr tbk 1 (.mk ?_)
  cases x5
  replace h0 := cf h0
  refine tc tbk 7 (.mk ?_)
  refine nb tbk h0 fun x6 h0 => ?_
  refine tr tbk 1 (.mk ?_)
  cases x6
  replace h0 := cf h0
  refine tc tbk 6 (.mk ?_)
  obtain rfl := nxt_e h0
  refine wR hret (rT .nil) ?_
  exact .refl _
  replace h0 := ct h0
  refine tc tbk 5 (.mk ?_)
  obtain rfl := nxt_e h0
  refine wR hret (rT .nil) ?_
  exact .refl _
  replace h0 := ct h0
  refine tc tbk 5 (.mk ?_)
  obtain rfl := nxt_e h0
  refine wR hret (rT .nil) ?_
  exact .refl _
  replace h0 := ct h0
  refine tc tbk 5 (.mk ?_)
  obtain rfl := nxt_e h0
  refine wR hret (rT .nil) ?_
  exact .refl _
  replace h0 := ct h0
  refine tc tbk 6 (.mk ?_)
  cases x4
  replace h0 := cf h0
  refine tc tbk 6 (.mk ?_)
  obtain rfl := nxt_e h0
  refine wR hret (rT .nil) ?_
  exact .refl _
  replace h0 := ct h0
  refine tc tbk 5 (.mk ?_)
  obtain rfl := nxt_e h0
  refine wR hret (rT .nil) ?_
  exact .refl _
def d_voucher_Plain_3 (a1 : GLine) : Option (Bool) :=
bnd (decide (a1.Amount = 0)) fun x3 =>
some ((x3 : Bool))
theorem d_voucher_Plain_3_c {a1 : GLine} {r : Bool} (h0 : d_voucher_Plain_3 a1 = some r) : PP Tryz.prog 135 [.agg (GLine.av a1)] (fun y => y = boo r) := by
  unfold d_voucher_Plain_3 at h0
  refine pp_of_pc (R0 := fun y H => Cv (frzH H) y (boo r)) ?_ (fun y H hc => ⟨_, rfl, pvB r, hc⟩)
  refine pcw (c := _) Tryz.func135 rfl rfl ?_; intro Q hret hnorm
  refine tc tbk 2 (.mk ?_)
  refine sB 1 fun v2 => ?_
  refine tr tbk 6 (.mk ?_)
  refine nb tbk h0 fun x3 h0 => ?_
  refine tr tbk 2 (.mk ?_)
  obtain rfl := nxt_e h0
  refine wR hret (rT .nil) ?_
  exact .refl _
end Go.Pv
