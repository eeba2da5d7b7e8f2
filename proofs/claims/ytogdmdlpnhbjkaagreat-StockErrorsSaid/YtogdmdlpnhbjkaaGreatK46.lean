import Derived.Test.YtogdmdlpnhbjkaaGreatPvAE
import Derived.Test.YtogdmdlpnhbjkaaGreatPvAF
import Derived.Test.YtogdmdlpnhbjkaaGreatProg
set_option linter.unusedVariables false
set_option linter.unusedSimpArgs false
namespace Go.Pv
open Go.Proofs
theorem mixed : Tryz.prog.follows .mixedOrders = true := by kernel_rfl
set_option maxRecDepth 10000
set_option maxHeartbeats 1000000
structure GMaster where
  Entities : Int
  Periods : Int
  Weights : List Int
  Methods : List (List Int)
  Costs : List (List Int)
  deriving DecidableEq, Inhabited
@[reducible] def GMaster.av (x : GMaster) : List AV := [int x.Entities, int x.Periods, lst 1 fI x.Weights, lst 1 (fL 1 fI) x.Methods, lst 1 (fL 1 fI) x.Costs]
theorem GMaster.pvc (x : GMaster) : ∀ a ∈ x.av, PV a := by
  intro a ha; simp only [GMaster.av, List.mem_cons, List.not_mem_nil, or_false] at ha
  rcases ha with rfl | rfl | rfl | rfl | rfl
  · exact pvI x.Entities
  · exact pvI x.Periods
  · exact (pvLs pvcI) x.Weights
  · exact (pvLs (pvcLs pvcI)) x.Methods
  · exact (pvLs (pvcLs pvcI)) x.Costs
structure GLayer where
  Qty : Int
  Value : Int
  Profit : Int
  deriving DecidableEq, Inhabited
@[reducible] def GLayer.av (x : GLayer) : List AV := [int x.Qty, int x.Value, int x.Profit]
theorem GLayer.pvc (x : GLayer) : ∀ a ∈ x.av, PV a := by
  intro a ha; simp only [GLayer.av, List.mem_cons, List.not_mem_nil, or_false] at ha
  rcases ha with rfl | rfl | rfl
  · exact pvI x.Qty
  · exact pvI x.Value
  · exact pvI x.Profit
theorem GLayer.eqv (x y : GLayer) : (decide (x.Qty = y.Qty) && (decide (x.Value = y.Value) && (decide (x.Profit = y.Profit) && true))) = decide (x = y) := by
  cases x; cases y; rw [Bool.eq_iff_iff]; simp only [Bool.and_eq_true, decide_eq_true_eq, GLayer.mk.injEq, and_true]
structure A3_Int where
  a0 : Int
  a1 : Int
  a2 : Int
  deriving DecidableEq, Inhabited
@[reducible] def A3_Int.av (x : A3_Int) : List AV := [int x.a0, int x.a1, int x.a2]
theorem A3_Int.pvc (x : A3_Int) : ∀ a ∈ x.av, PV a := by
  intro a ha; simp only [A3_Int.av, List.mem_cons, List.not_mem_nil, or_false] at ha
  rcases ha with rfl | rfl | rfl
  · exact pvI x.a0
  · exact pvI x.a1
  · exact pvI x.a2
theorem A3_Int.eqv (x y : A3_Int) : (decide (x.a0 = y.a0) && (decide (x.a1 = y.a1) && (decide (x.a2 = y.a2) && true))) = decide (x = y) := by
  cases x; cases y; rw [Bool.eq_iff_iff]; simp only [Bool.and_eq_true, decide_eq_true_eq, A3_Int.mk.injEq, and_true]
structure GPool where
  Layers : List GLayer
  Pend : A3_Int
  deriving DecidableEq, Inhabited
@[reducible] def GPool.av (x : GPool) : List AV := [lst 3 GLayer.av x.Layers, int x.Pend.a0, int x.Pend.a1, int x.Pend.a2]
theorem GPool.pvc (x : GPool) : ∀ a ∈ x.av, PV a := by
  intro a ha; simp only [GPool.av, List.mem_cons, List.not_mem_nil, or_false] at ha
  rcases ha with rfl | rfl | rfl | rfl
  · exact (pvLs GLayer.pvc) x.Layers
  · exact pvI x.Pend.a0
  · exact pvI x.Pend.a1
  · exact pvI x.Pend.a2
structure GRoll where
  Open : Int
  Bought : Int
  Landed : Int
  Arrived : Int
  Returned : Int
  Sold : Int
  Shipped : Int
  SentBack : Int
  Scrapped : Int
  Lost : Int
  Revalued : Int
  deriving DecidableEq, Inhabited
@[reducible] def GRoll.av (x : GRoll) : List AV := [int x.Open, int x.Bought, int x.Landed, int x.Arrived, int x.Returned, int x.Sold, int x.Shipped, int x.SentBack, int x.Scrapped, int x.Lost, int x.Revalued]
theorem GRoll.pvc (x : GRoll) : ∀ a ∈ x.av, PV a := by
  intro a ha; simp only [GRoll.av, List.mem_cons, List.not_mem_nil, or_false] at ha
  rcases ha with rfl | rfl | rfl | rfl | rfl | rfl | rfl | rfl | rfl | rfl | rfl
  · exact pvI x.Open
  · exact pvI x.Bought
  · exact pvI x.Landed
  · exact pvI x.Arrived
  · exact pvI x.Returned
  · exact pvI x.Sold
  · exact pvI x.Shipped
  · exact pvI x.SentBack
  · exact pvI x.Scrapped
  · exact pvI x.Lost
  · exact pvI x.Revalued
theorem GRoll.eqv (x y : GRoll) : (decide (x.Open = y.Open) && (decide (x.Bought = y.Bought) && (decide (x.Landed = y.Landed) && (decide (x.Arrived = y.Arrived) && (decide (x.Returned = y.Returned) && (decide (x.Sold = y.Sold) && (decide (x.Shipped = y.Shipped) && (decide (x.SentBack = y.SentBack) && (decide (x.Scrapped = y.Scrapped) && (decide (x.Lost = y.Lost) && (decide (x.Revalued = y.Revalued) && true))))))))))) = decide (x = y) := by
  cases x; cases y; rw [Bool.eq_iff_iff]; simp only [Bool.and_eq_true, decide_eq_true_eq, GRoll.mk.injEq, and_true]
structure GEnt where
  Now : Int
  Closed : Bool
  Pools : List GPool
  Bal : List Int
  Rolls : List GRoll
  Prices : List Int
  Down : List Int
  Ahead : List GEnt
  deriving Inhabited
mutual
def GEnt.av : GEnt → List AV
  | ⟨Now, Closed, Pools, Bal, Rolls, Prices, Down, Ahead⟩ => [int Now, boo Closed, lst 4 GPool.av Pools, lst 1 fI Bal, lst 11 GRoll.av Rolls, lst 1 fI Prices, lst 1 fI Down, .list 8 (GEnt.avs Ahead)]
def GEnt.avs : List GEnt → List (List AV)
  | [] => []
  | x :: r => GEnt.av x :: GEnt.avs r
end
theorem GEnt.avs_map (l : List GEnt) : GEnt.avs l = l.map GEnt.av := by
  induction l with
  | nil => unfold GEnt.avs; rfl
  | cons x r ih => unfold GEnt.avs; rw [ih]; rfl
theorem GEnt.av_eq (x : GEnt) : GEnt.av x = [int x.Now, boo x.Closed, lst 4 GPool.av x.Pools, lst 1 fI x.Bal, lst 11 GRoll.av x.Rolls, lst 1 fI x.Prices, lst 1 fI x.Down, lst 8 GEnt.av x.Ahead] := by
  cases x; unfold GEnt.av; rw [GEnt.avs_map]
theorem GEnt.one (x : GEnt) : allOne (GEnt.av x) = true := by rw [GEnt.av_eq]; rfl
mutual
theorem GEnt.pvc : ∀ (x : GEnt), ∀ a ∈ x.av, PV a
  | ⟨Now, Closed, Pools, Bal, Rolls, Prices, Down, Ahead⟩ => by
    intro a ha; unfold GEnt.av at ha; simp only [List.mem_cons, List.not_mem_nil, or_false] at ha
    rcases ha with rfl | rfl | rfl | rfl | rfl | rfl | rfl | rfl
    · exact pvI Now
    · exact pvB Closed
    · exact (pvLs GPool.pvc) Pools
    · exact (pvLs pvcI) Bal
    · exact (pvLs GRoll.pvc) Rolls
    · exact (pvLs pvcI) Prices
    · exact (pvLs pvcI) Down
    · exact .list (fun r hr => GEnt.pvcs Ahead r hr)
theorem GEnt.pvcs : ∀ (l : List GEnt), ∀ r ∈ GEnt.avs l, ∀ a ∈ r, PV a
  | [] => by intro r hr; unfold GEnt.avs at hr; cases hr
  | x :: l => by
    intro r hr; unfold GEnt.avs at hr
    rcases List.mem_cons.1 hr with e | h
    · rw [e]; exact GEnt.pvc x
    · exact GEnt.pvcs l r h
end
structure GReceipt where
  Entity : Int
  Item : Int
  Loc : Int
  Qty : Int
  Value : Int
  Open : Int
  Accrued : Int
  Back : Int
  deriving DecidableEq, Inhabited
@[reducible] def GReceipt.av (x : GReceipt) : List AV := [int x.Entity, int x.Item, int x.Loc, int x.Qty, int x.Value, int x.Open, int x.Accrued, int x.Back]
theorem GReceipt.pvc (x : GReceipt) : ∀ a ∈ x.av, PV a := by
  intro a ha; simp only [GReceipt.av, List.mem_cons, List.not_mem_nil, or_false] at ha
  rcases ha with rfl | rfl | rfl | rfl | rfl | rfl | rfl | rfl
  · exact pvI x.Entity
  · exact pvI x.Item
  · exact pvI x.Loc
  · exact pvI x.Qty
  · exact pvI x.Value
  · exact pvI x.Open
  · exact pvI x.Accrued
  · exact pvI x.Back
theorem GReceipt.eqv (x y : GReceipt) : (decide (x.Entity = y.Entity) && (decide (x.Item = y.Item) && (decide (x.Loc = y.Loc) && (decide (x.Qty = y.Qty) && (decide (x.Value = y.Value) && (decide (x.Open = y.Open) && (decide (x.Accrued = y.Accrued) && (decide (x.Back = y.Back) && true)))))))) = decide (x = y) := by
  cases x; cases y; rw [Bool.eq_iff_iff]; simp only [Bool.and_eq_true, decide_eq_true_eq, GReceipt.mk.injEq, and_true]
structure GSale where
  Entity : Int
  Item : Int
  Loc : Int
  Qty : Int
  Back : Int
  Cost : Int
  Profit : Int
  Period : Int
  Waits : Bool
  deriving DecidableEq, Inhabited
@[reducible] def GSale.av (x : GSale) : List AV := [int x.Entity, int x.Item, int x.Loc, int x.Qty, int x.Back, int x.Cost, int x.Profit, int x.Period, boo x.Waits]
theorem GSale.pvc (x : GSale) : ∀ a ∈ x.av, PV a := by
  intro a ha; simp only [GSale.av, List.mem_cons, List.not_mem_nil, or_false] at ha
  rcases ha with rfl | rfl | rfl | rfl | rfl | rfl | rfl | rfl | rfl
  · exact pvI x.Entity
  · exact pvI x.Item
  · exact pvI x.Loc
  · exact pvI x.Qty
  · exact pvI x.Back
  · exact pvI x.Cost
  · exact pvI x.Profit
  · exact pvI x.Period
  · exact pvB x.Waits
theorem GSale.eqv (x y : GSale) : (decide (x.Entity = y.Entity) && (decide (x.Item = y.Item) && (decide (x.Loc = y.Loc) && (decide (x.Qty = y.Qty) && (decide (x.Back = y.Back) && (decide (x.Cost = y.Cost) && (decide (x.Profit = y.Profit) && (decide (x.Period = y.Period) && (decide (x.Waits = y.Waits) && true))))))))) = decide (x = y) := by
  cases x; cases y; rw [Bool.eq_iff_iff]; simp only [Bool.and_eq_true, decide_eq_true_eq, GSale.mk.injEq, and_true]
structure GTransit where
  From : Int
  To : Int
  Item : Int
  Qty : Int
  Value : Int
  Profit : Int
  deriving DecidableEq, Inhabited
@[reducible] def GTransit.av (x : GTransit) : List AV := [int x.From, int x.To, int x.Item, int x.Qty, int x.Value, int x.Profit]
theorem GTransit.pvc (x : GTransit) : ∀ a ∈ x.av, PV a := by
  intro a ha; simp only [GTransit.av, List.mem_cons, List.not_mem_nil, or_false] at ha
  rcases ha with rfl | rfl | rfl | rfl | rfl | rfl
  · exact pvI x.From
  · exact pvI x.To
  · exact pvI x.Item
  · exact pvI x.Qty
  · exact pvI x.Value
  · exact pvI x.Profit
theorem GTransit.eqv (x y : GTransit) : (decide (x.From = y.From) && (decide (x.To = y.To) && (decide (x.Item = y.Item) && (decide (x.Qty = y.Qty) && (decide (x.Value = y.Value) && (decide (x.Profit = y.Profit) && true)))))) = decide (x = y) := by
  cases x; cases y; rw [Bool.eq_iff_iff]; simp only [Bool.and_eq_true, decide_eq_true_eq, GTransit.mk.injEq, and_true]
structure GState where
  Master : GMaster
  Ents : List GEnt
  Receipts : List GReceipt
  Sales : List GSale
  Transits : List GTransit
  Done : Int
  deriving Inhabited
@[reducible] def GState.av (x : GState) : List AV := [int x.Master.Entities, int x.Master.Periods, lst 1 fI x.Master.Weights, lst 1 (fL 1 fI) x.Master.Methods, lst 1 (fL 1 fI) x.Master.Costs, lst 8 GEnt.av x.Ents, lst 8 GReceipt.av x.Receipts, lst 9 GSale.av x.Sales, lst 6 GTransit.av x.Transits, int x.Done]
theorem GState.pvc (x : GState) : ∀ a ∈ x.av, PV a := by
  intro a ha; simp only [GState.av, List.mem_cons, List.not_mem_nil, or_false] at ha
  rcases ha with rfl | rfl | rfl | rfl | rfl | rfl | rfl | rfl | rfl | rfl
  · exact pvI x.Master.Entities
  · exact pvI x.Master.Periods
  · exact (pvLs pvcI) x.Master.Weights
  · exact (pvLs (pvcLs pvcI)) x.Master.Methods
  · exact (pvLs (pvcLs pvcI)) x.Master.Costs
  · exact (pvLs GEnt.pvc) x.Ents
  · exact (pvLs GReceipt.pvc) x.Receipts
  · exact (pvLs GSale.pvc) x.Sales
  · exact (pvLs GTransit.pvc) x.Transits
  · exact pvI x.Done
structure GOp where
  Kind : Int
  E : Int
  Item : Int
  Loc : Int
  To : Int
  Qty : Int
  Amount : Int
  Ref : Int
  Refs : List Int
  deriving DecidableEq, Inhabited
@[reducible] def GOp.av (x : GOp) : List AV := [int x.Kind, int x.E, int x.Item, int x.Loc, int x.To, int x.Qty, int x.Amount, int x.Ref, lst 1 fI x.Refs]
theorem GOp.pvc (x : GOp) : ∀ a ∈ x.av, PV a := by
  intro a ha; simp only [GOp.av, List.mem_cons, List.not_mem_nil, or_false] at ha
  rcases ha with rfl | rfl | rfl | rfl | rfl | rfl | rfl | rfl | rfl
  · exact pvI x.Kind
  · exact pvI x.E
  · exact pvI x.Item
  · exact pvI x.Loc
  · exact pvI x.To
  · exact pvI x.Qty
  · exact pvI x.Amount
  · exact pvI x.Ref
  · exact (pvLs pvcI) x.Refs
structure Gstandard where
  cost : Int
  deriving DecidableEq, Inhabited
@[reducible] def Gstandard.av (x : Gstandard) : List AV := [int x.cost]
theorem Gstandard.pvc (x : Gstandard) : ∀ a ∈ x.av, PV a := by
  intro a ha; simp only [Gstandard.av, List.mem_cons, List.not_mem_nil, or_false] at ha
  subst ha; exact pvI x.cost
structure Gperiodic where
  deriving DecidableEq, Inhabited
@[reducible] def Gperiodic.av (x : Gperiodic) : List AV := []
theorem Gperiodic.pvc (x : Gperiodic) : ∀ a ∈ x.av, PV a := by
  intro a ha; cases ha
structure Gmoving where
  deriving DecidableEq, Inhabited
@[reducible] def Gmoving.av (x : Gmoving) : List AV := []
theorem Gmoving.pvc (x : Gmoving) : ∀ a ∈ x.av, PV a := by
  intro a ha; cases ha
structure Gfirst where
  deriving DecidableEq, Inhabited
@[reducible] def Gfirst.av (x : Gfirst) : List AV := []
theorem Gfirst.pvc (x : Gfirst) : ∀ a ∈ x.av, PV a := by
  intro a ha; cases ha
structure GLine where
  Account : Int
  Amount : Int
  deriving DecidableEq, Inhabited
@[reducible] def GLine.av (x : GLine) : List AV := [int x.Account, int x.Amount]
theorem GLine.pvc (x : GLine) : ∀ a ∈ x.av, PV a := by
  intro a ha; simp only [GLine.av, List.mem_cons, List.not_mem_nil, or_false] at ha
  rcases ha with rfl | rfl
  · exact pvI x.Account
  · exact pvI x.Amount
theorem sh3 : tySh Tryz.prog 3 = some (1, false) := by kernel_rfl
theorem sh4 : tySh Tryz.prog 4 = some (1, false) := by kernel_rfl
theorem sh22 : tySh Tryz.prog 22 = some (1, false) := by kernel_rfl
theorem sh23 : tySh Tryz.prog 23 = some (1, false) := by kernel_rfl
theorem sh25 : tySh Tryz.prog 25 = some (5, true) := by kernel_rfl
theorem sh27 : tySh Tryz.prog 27 = some (1, false) := by kernel_rfl
theorem sh32 : tySh Tryz.prog 32 = some (10, true) := by kernel_rfl
theorem sh38 : tySh Tryz.prog 38 = some (3, true) := by kernel_rfl
theorem sh43 : tySh Tryz.prog 43 = some (1, false) := by kernel_rfl
theorem sh46 : tySh Tryz.prog 46 = some (4, true) := by kernel_rfl
theorem sh61 : tySh Tryz.prog 61 = some (1, false) := by kernel_rfl
theorem sh64 : tySh Tryz.prog 64 = some (8, true) := by kernel_rfl
theorem sh66 : tySh Tryz.prog 66 = some (10, true) := by kernel_rfl
theorem sh78 : tySh Tryz.prog 78 = some (8, true) := by kernel_rfl
theorem sh81 : tySh Tryz.prog 81 = some (9, true) := by kernel_rfl
theorem sh84 : tySh Tryz.prog 84 = some (6, true) := by kernel_rfl
theorem sh119 : tySh Tryz.prog 119 = some (11, true) := by kernel_rfl
theorem sh138 : tySh Tryz.prog 138 = some (0, true) := by kernel_rfl
theorem sh144 : tySh Tryz.prog 144 = some (2, true) := by kernel_rfl
theorem sh148 : tySh Tryz.prog 148 = some (1, false) := by kernel_rfl
theorem sh193 : tySh Tryz.prog 193 = some (1, false) := by kernel_rfl
theorem sh221 : tySh Tryz.prog 221 = some (1, false) := by kernel_rfl
theorem sh245 : tySh Tryz.prog 245 = some (4, true) := by kernel_rfl
theorem sh251 : tySh Tryz.prog 251 = some (3, true) := by kernel_rfl
theorem by119 : bby Tryz.prog 119 = some 88 := by kernel_rfl
theorem by22 : bby Tryz.prog 22 = some 24 := by kernel_rfl
theorem by3 : bby Tryz.prog 3 = some 8 := by kernel_rfl
theorem by38 : bby Tryz.prog 38 = some 24 := by kernel_rfl
theorem by46 : bby Tryz.prog 46 = some 48 := by kernel_rfl
theorem by64 : bby Tryz.prog 64 = some 160 := by kernel_rfl
theorem bz119 : bsz Tryz.prog 119 = some (11, [.int .i64 0, .int .i64 0, .int .i64 0, .int .i64 0, .int .i64 0, .int .i64 0, .int .i64 0, .int .i64 0, .int .i64 0, .int .i64 0, .int .i64 0]) := by kernel_rfl
theorem bz144 : bsz Tryz.prog 144 = some (2, [.pointer none, .slice none 0 0]) := by kernel_rfl
theorem bz22 : bsz Tryz.prog 22 = some (1, [.slice none 0 0]) := by kernel_rfl
theorem bz3 : bsz Tryz.prog 3 = some (1, [.int .i64 0]) := by kernel_rfl
theorem bz38 : bsz Tryz.prog 38 = some (3, [.int .i64 0, .int .i64 0, .int .i64 0]) := by kernel_rfl
theorem bz46 : bsz Tryz.prog 46 = some (4, [.slice none 0 0, .int .i64 0, .int .i64 0, .int .i64 0]) := by kernel_rfl
theorem bz64 : bsz Tryz.prog 64 = some (8, [.int .i64 0, .bool false, .slice none 0 0, .slice none 0 0, .slice none 0 0, .slice none 0 0, .slice none 0 0, .slice none 0 0]) := by kernel_rfl
theorem c3 : Tryz.prog.cellsOf 3 = 1 := by kernel_rfl
theorem cal10 : cal Tryz.prog 10 = true := by kernel_rfl
theorem cal11 : cal Tryz.prog 11 = true := by kernel_rfl
theorem cal118 : cal Tryz.prog 118 = true := by kernel_rfl
theorem cal12 : cal Tryz.prog 12 = true := by kernel_rfl
theorem cal126 : cal Tryz.prog 126 = true := by kernel_rfl
theorem cal127 : cal Tryz.prog 127 = true := by kernel_rfl
theorem cal128 : cal Tryz.prog 128 = true := by kernel_rfl
theorem cal129 : cal Tryz.prog 129 = true := by kernel_rfl
theorem cal13 : cal Tryz.prog 13 = true := by kernel_rfl
theorem cal130 : cal Tryz.prog 130 = true := by kernel_rfl
theorem cal131 : cal Tryz.prog 131 = true := by kernel_rfl
theorem cal14 : cal Tryz.prog 14 = true := by kernel_rfl
theorem cal16 : cal Tryz.prog 16 = true := by kernel_rfl
theorem cal162 : cal Tryz.prog 162 = true := by kernel_rfl
theorem cal163 : cal Tryz.prog 163 = true := by kernel_rfl
theorem cal164 : cal Tryz.prog 164 = true := by kernel_rfl
theorem cal165 : cal Tryz.prog 165 = true := by kernel_rfl
theorem cal17 : cal Tryz.prog 17 = true := by kernel_rfl
theorem cal18 : cal Tryz.prog 18 = true := by kernel_rfl
theorem cal186 : cal Tryz.prog 186 = true := by kernel_rfl
theorem cal19 : cal Tryz.prog 19 = true := by kernel_rfl
theorem cal20 : cal Tryz.prog 20 = true := by kernel_rfl
theorem cal21 : cal Tryz.prog 21 = true := by kernel_rfl
theorem cal215 : cal Tryz.prog 215 = true := by kernel_rfl
theorem cal216 : cal Tryz.prog 216 = true := by kernel_rfl
theorem cal217 : cal Tryz.prog 217 = true := by kernel_rfl
theorem cal218 : cal Tryz.prog 218 = true := by kernel_rfl
theorem cal219 : cal Tryz.prog 219 = true := by kernel_rfl
theorem cal22 : cal Tryz.prog 22 = true := by kernel_rfl
theorem cal221 : cal Tryz.prog 221 = true := by kernel_rfl
theorem cal222 : cal Tryz.prog 222 = true := by kernel_rfl
theorem cal223 : cal Tryz.prog 223 = true := by kernel_rfl
theorem cal224 : cal Tryz.prog 224 = true := by kernel_rfl
theorem cal225 : cal Tryz.prog 225 = true := by kernel_rfl
theorem cal226 : cal Tryz.prog 226 = true := by kernel_rfl
theorem cal227 : cal Tryz.prog 227 = true := by kernel_rfl
theorem cal228 : cal Tryz.prog 228 = true := by kernel_rfl
theorem cal229 : cal Tryz.prog 229 = true := by kernel_rfl
theorem cal23 : cal Tryz.prog 23 = true := by kernel_rfl
theorem cal230 : cal Tryz.prog 230 = true := by kernel_rfl
theorem cal231 : cal Tryz.prog 231 = true := by kernel_rfl
theorem cal232 : cal Tryz.prog 232 = true := by kernel_rfl
theorem cal233 : cal Tryz.prog 233 = true := by kernel_rfl
theorem cal234 : cal Tryz.prog 234 = true := by kernel_rfl
theorem cal235 : cal Tryz.prog 235 = true := by kernel_rfl
theorem cal236 : cal Tryz.prog 236 = true := by kernel_rfl
theorem cal237 : cal Tryz.prog 237 = true := by kernel_rfl
theorem cal238 : cal Tryz.prog 238 = true := by kernel_rfl
theorem cal239 : cal Tryz.prog 239 = true := by kernel_rfl
theorem cal24 : cal Tryz.prog 24 = true := by kernel_rfl
theorem cal240 : cal Tryz.prog 240 = true := by kernel_rfl
theorem cal25 : cal Tryz.prog 25 = true := by kernel_rfl
theorem cal26 : cal Tryz.prog 26 = true := by kernel_rfl
theorem cal27 : cal Tryz.prog 27 = true := by kernel_rfl
theorem cal28 : cal Tryz.prog 28 = true := by kernel_rfl
theorem cal29 : cal Tryz.prog 29 = true := by kernel_rfl
theorem cal30 : cal Tryz.prog 30 = true := by kernel_rfl
theorem cal31 : cal Tryz.prog 31 = true := by kernel_rfl
theorem cal32 : cal Tryz.prog 32 = true := by kernel_rfl
theorem cal33 : cal Tryz.prog 33 = true := by kernel_rfl
theorem cal34 : cal Tryz.prog 34 = true := by kernel_rfl
theorem cal4 : cal Tryz.prog 4 = true := by kernel_rfl
theorem cal41 : cal Tryz.prog 41 = true := by kernel_rfl
theorem cal42 : cal Tryz.prog 42 = true := by kernel_rfl
theorem cal43 : cal Tryz.prog 43 = true := by kernel_rfl
theorem cal44 : cal Tryz.prog 44 = true := by kernel_rfl
theorem cal45 : cal Tryz.prog 45 = true := by kernel_rfl
theorem cal46 : cal Tryz.prog 46 = true := by kernel_rfl
theorem cal47 : cal Tryz.prog 47 = true := by kernel_rfl
theorem cal48 : cal Tryz.prog 48 = true := by kernel_rfl
theorem cal5 : cal Tryz.prog 5 = true := by kernel_rfl
theorem cal50 : cal Tryz.prog 50 = true := by kernel_rfl
theorem cal51 : cal Tryz.prog 51 = true := by kernel_rfl
theorem cal52 : cal Tryz.prog 52 = true := by kernel_rfl
theorem cal53 : cal Tryz.prog 53 = true := by kernel_rfl
theorem cal54 : cal Tryz.prog 54 = true := by kernel_rfl
theorem cal57 : cal Tryz.prog 57 = true := by kernel_rfl
theorem cal58 : cal Tryz.prog 58 = true := by kernel_rfl
theorem cal59 : cal Tryz.prog 59 = true := by kernel_rfl
theorem cal6 : cal Tryz.prog 6 = true := by kernel_rfl
theorem cal60 : cal Tryz.prog 60 = true := by kernel_rfl
theorem cal61 : cal Tryz.prog 61 = true := by kernel_rfl
theorem cal7 : cal Tryz.prog 7 = true := by kernel_rfl
theorem cal70 : cal Tryz.prog 70 = true := by kernel_rfl
theorem cal71 : cal Tryz.prog 71 = true := by kernel_rfl
theorem cal72 : cal Tryz.prog 72 = true := by kernel_rfl
theorem cal73 : cal Tryz.prog 73 = true := by kernel_rfl
theorem cal75 : cal Tryz.prog 75 = true := by kernel_rfl
theorem cal76 : cal Tryz.prog 76 = true := by kernel_rfl
theorem cal8 : cal Tryz.prog 8 = true := by kernel_rfl
theorem cal89 : cal Tryz.prog 89 = true := by kernel_rfl
theorem cal9 : cal Tryz.prog 9 = true := by kernel_rfl
theorem cal90 : cal Tryz.prog 90 = true := by kernel_rfl
theorem cal91 : cal Tryz.prog 91 = true := by kernel_rfl
theorem cal92 : cal Tryz.prog 92 = true := by kernel_rfl
theorem cal93 : cal Tryz.prog 93 = true := by kernel_rfl
theorem cal94 : cal Tryz.prog 94 = true := by kernel_rfl
theorem cal95 : cal Tryz.prog 95 = true := by kernel_rfl
theorem cal96 : cal Tryz.prog 96 = true := by kernel_rfl
theorem cal97 : cal Tryz.prog 97 = true := by kernel_rfl
theorem cal98 : cal Tryz.prog 98 = true := by kernel_rfl
theorem cal99 : cal Tryz.prog 99 = true := by kernel_rfl
theorem fl119 : flds Tryz.prog 119 = some [(3, 0), (3, 1), (3, 2), (3, 3), (3, 4), (3, 5), (3, 6), (3, 7), (3, 8), (3, 9), (3, 10)] := by kernel_rfl
theorem fl38 : flds Tryz.prog 38 = some [(3, 0), (3, 1), (3, 2)] := by kernel_rfl
theorem fl78 : flds Tryz.prog 78 = some [(3, 0), (3, 1), (3, 2), (3, 3), (3, 4), (3, 5), (3, 6), (3, 7)] := by kernel_rfl
theorem fl81 : flds Tryz.prog 81 = some [(3, 0), (3, 1), (3, 2), (3, 3), (3, 4), (3, 5), (3, 6), (3, 7), (4, 8)] := by kernel_rfl
theorem fl84 : flds Tryz.prog 84 = some [(3, 0), (3, 1), (3, 2), (3, 3), (3, 4), (3, 5)] := by kernel_rfl
theorem fo25_2 : fOff Tryz.prog 25 2 = some 2 := by kernel_rfl
theorem fo25_3 : fOff Tryz.prog 25 3 = some 3 := by kernel_rfl
theorem fo25_4 : fOff Tryz.prog 25 4 = some 4 := by kernel_rfl
theorem fo32_0 : fOff Tryz.prog 32 0 = some 0 := by kernel_rfl
theorem fo32_1 : fOff Tryz.prog 32 1 = some 5 := by kernel_rfl
theorem fo38_0 : fOff Tryz.prog 38 0 = some 0 := by kernel_rfl
theorem fo38_1 : fOff Tryz.prog 38 1 = some 1 := by kernel_rfl
theorem fo38_2 : fOff Tryz.prog 38 2 = some 2 := by kernel_rfl
theorem fo46_0 : fOff Tryz.prog 46 0 = some 0 := by kernel_rfl
theorem fo64_1 : fOff Tryz.prog 64 1 = some 1 := by kernel_rfl
theorem fo64_2 : fOff Tryz.prog 64 2 = some 2 := by kernel_rfl
theorem fo64_7 : fOff Tryz.prog 64 7 = some 7 := by kernel_rfl
theorem fo66_0 : fOff Tryz.prog 66 0 = some 0 := by kernel_rfl
theorem fp251_0 : fPart Tryz.prog 251 0 = some (0, 221) := by kernel_rfl
theorem mth136_215 : mth Tryz.prog 136 "purveyor/pool.in" = some 215 := by kernel_rfl
theorem mth136_216 : mth Tryz.prog 136 "purveyor/pool.out" = some 216 := by kernel_rfl
theorem mth137_226 : mth Tryz.prog 137 "purveyor/pool.in" = some 226 := by kernel_rfl
theorem mth137_227 : mth Tryz.prog 137 "purveyor/pool.out" = some 227 := by kernel_rfl
theorem mth138_231 : mth Tryz.prog 138 "purveyor/pool.in" = some 231 := by kernel_rfl
theorem mth138_232 : mth Tryz.prog 138 "purveyor/pool.out" = some 232 := by kernel_rfl
theorem mth140_235 : mth Tryz.prog 140 "purveyor/pool.in" = some 235 := by kernel_rfl
theorem mth140_236 : mth Tryz.prog 140 "purveyor/pool.out" = some 236 := by kernel_rfl
theorem pl32 : plc Tryz.prog 32 = some [(0, 5), (5, 1), (6, 1), (7, 1), (8, 1), (9, 1)] := by kernel_rfl
theorem pl64 : plc Tryz.prog 64 = some [(0, 1), (1, 1), (2, 1), (3, 1), (4, 1), (5, 1), (6, 1), (7, 1)] := by kernel_rfl
theorem pl66 : plc Tryz.prog 66 = some [(0, 10)] := by kernel_rfl
theorem sz3 : ((Tryz.prog.info? 3).map (·.size)) = some 1 := by kernel_rfl
theorem z119 : zeroOf Tryz.prog 119 = some [.int .i64 0, .int .i64 0, .int .i64 0, .int .i64 0, .int .i64 0, .int .i64 0, .int .i64 0, .int .i64 0, .int .i64 0, .int .i64 0, .int .i64 0] := by kernel_rfl
theorem z136 : zeroOf Tryz.prog 136 = some [] := by kernel_rfl
theorem z137 : zeroOf Tryz.prog 137 = some [] := by kernel_rfl
theorem z138 : zeroOf Tryz.prog 138 = some [] := by kernel_rfl
theorem z140 : zeroOf Tryz.prog 140 = some [.int .i64 0] := by kernel_rfl
theorem z144 : zeroOf Tryz.prog 144 = some [.pointer none, .slice none 0 0] := by kernel_rfl
theorem z148 : zeroOf Tryz.prog 148 = some [.nilFunc] := by kernel_rfl
theorem z245 : zeroOf Tryz.prog 245 = some [.int .u64 0, .int .u64 0, .int .u64 0, .int .u64 0] := by kernel_rfl
theorem z25 : zeroOf Tryz.prog 25 = some [.int .i64 0, .int .i64 0, .slice none 0 0, .slice none 0 0, .slice none 0 0] := by kernel_rfl
theorem z251 : zeroOf Tryz.prog 251 = some [.nilFunc, .nilFunc, .nilFunc] := by kernel_rfl
theorem z3 : zeroOf Tryz.prog 3 = some [.int .i64 0] := by kernel_rfl
theorem z32 : zeroOf Tryz.prog 32 = some [.int .i64 0, .int .i64 0, .slice none 0 0, .slice none 0 0, .slice none 0 0, .slice none 0 0, .slice none 0 0, .slice none 0 0, .slice none 0 0, .int .i64 0] := by kernel_rfl
theorem z38 : zeroOf Tryz.prog 38 = some [.int .i64 0, .int .i64 0, .int .i64 0] := by kernel_rfl
theorem z46 : zeroOf Tryz.prog 46 = some [.slice none 0 0, .int .i64 0, .int .i64 0, .int .i64 0] := by kernel_rfl
theorem z64 : zeroOf Tryz.prog 64 = some [.int .i64 0, .bool false, .slice none 0 0, .slice none 0 0, .slice none 0 0, .slice none 0 0, .slice none 0 0, .slice none 0 0] := by kernel_rfl
theorem z66 : zeroOf Tryz.prog 66 = some [.int .i64 0, .int .i64 0, .slice none 0 0, .slice none 0 0, .slice none 0 0, .slice none 0 0, .slice none 0 0, .slice none 0 0, .slice none 0 0, .int .i64 0] := by kernel_rfl
theorem z78 : zeroOf Tryz.prog 78 = some [.int .i64 0, .int .i64 0, .int .i64 0, .int .i64 0, .int .i64 0, .int .i64 0, .int .i64 0, .int .i64 0] := by kernel_rfl
theorem z81 : zeroOf Tryz.prog 81 = some [.int .i64 0, .int .i64 0, .int .i64 0, .int .i64 0, .int .i64 0, .int .i64 0, .int .i64 0, .int .i64 0, .bool false] := by kernel_rfl
theorem z84 : zeroOf Tryz.prog 84 = some [.int .i64 0, .int .i64 0, .int .i64 0, .int .i64 0, .int .i64 0, .int .i64 0] := by kernel_rfl
theorem zag138 : zAgg Tryz.prog 138 = true := by kernel_rfl
def tb : Tab2 := { sh := [(3, (1, false)), (4, (1, false)), (22, (1, false)), (23, (1, false)), (25, (5, true)), (27, (1, false)), (28, (1, false)), (29, (1, false)), (30, (1, false)), (32, (10, true)), (38, (3, true)), (43, (1, false)), (44, (3, true)), (46, (4, true)), (61, (1, false)), (62, (1, false)), (64, (8, true)), (78, (8, true)), (81, (9, true)), (84, (6, true)), (105, (1, false)), (119, (11, true)), (143, (1, false)), (144, (2, true)), (148, (1, false)), (163, (1, false)), (187, (1, false)), (193, (1, false))], fo := [((25, 0), 0), ((25, 1), 1), ((25, 2), 2), ((25, 3), 3), ((25, 4), 4), ((32, 0), 0), ((32, 1), 5), ((32, 2), 6), ((32, 3), 7), ((32, 4), 8), ((32, 5), 9), ((38, 0), 0), ((38, 1), 1), ((38, 2), 2), ((46, 0), 0), ((46, 1), 1), ((64, 0), 0), ((64, 1), 1), ((64, 2), 2), ((64, 3), 3), ((64, 4), 4), ((64, 5), 5), ((64, 6), 6), ((64, 7), 7), ((66, 0), 0), ((78, 0), 0), ((78, 1), 1), ((78, 2), 2), ((78, 3), 3), ((78, 4), 4), ((78, 5), 5), ((78, 6), 6), ((78, 7), 7), ((81, 0), 0), ((81, 1), 1), ((81, 2), 2), ((81, 3), 3), ((81, 4), 4), ((81, 5), 5), ((81, 6), 6), ((81, 7), 7), ((84, 0), 0), ((84, 1), 1), ((84, 2), 2), ((84, 3), 3), ((84, 4), 4), ((84, 5), 5), ((119, 0), 0), ((119, 1), 1), ((119, 2), 2), ((119, 3), 3), ((119, 4), 4), ((119, 5), 5), ((119, 6), 6), ((119, 7), 7), ((119, 8), 8), ((119, 9), 9), ((119, 10), 10), ((140, 0), 0), ((144, 0), 0), ((144, 1), 1)], fp := [((38, 0), (0, 3)), ((38, 1), (1, 3)), ((46, 0), (0, 43)), ((251, 1), (1, 187)), ((251, 2), (2, 105))], ki := [(3, .i64), (5, .u8), (193, .u64), (205, .u64)], se := [], bl := [(25, [(0, 1), (1, 1), (2, 1), (3, 1), (4, 1)]), (38, [(0, 1), (1, 1), (2, 1)]), (46, [(0, 1), (1, 3)]), (136, []), (137, []), (138, []), (140, [(0, 1)]), (144, [(0, 1), (1, 1)]), (251, [(0, 1), (1, 1), (2, 1)])], zs := [(25, [.int .i64 0, .int .i64 0, .slice none 0 0, .slice none 0 0, .slice none 0 0]), (38, [.int .i64 0, .int .i64 0, .int .i64 0]), (46, [.slice none 0 0, .int .i64 0, .int .i64 0, .int .i64 0]), (136, []), (137, []), (138, []), (140, [.int .i64 0]), (144, [.pointer none, .slice none 0 0]), (251, [.nilFunc, .nilFunc, .nilFunc])] }
theorem tbk : Tab2Ok Tryz.prog tb := ⟨⟨by kernel_rfl, by kernel_rfl, by kernel_rfl⟩, by kernel_rfl, by kernel_rfl, by kernel_rfl, ⟨z25, z38, z46, z136, z137, z138, z140, z144, z251, trivial⟩⟩
theorem clone29_c {H : AH} {id : Nat} {l : List GLayer} (hid : H id = none) (hl : l.length ≤ 68719476736) : PC Tryz.prog 29 [lst 3 GLayer.av l] H (fun y H' => ∃ ver, y = .sl id ver 0 l.length ∧ H' = upd H id (some ⟨38, 3, true, true, ver, l.map GLayer.av⟩)) := by
  refine pc_of' (c := _) Tryz.func29 rfl rfl ?_; intro Q hret hnorm
  repeat (refine c_seq ?_)
  refine c_reg ?_; intro K hK
  refine st rfl rfl rfl (yv_assign rfl rfl) ?_
  refine rg_nil (hK _ ?_)
  repeat (refine c_seq ?_)
  refine c_reg ?_; intro K hK
  refine st rfl rfl rfl (yv_move rfl rfl) ?_
  refine se rfl rfl rfl (Yield.weak (yl_slnil (xs := l.map GLayer.av) (sz := 3) rfl Tryz.underlying43 rfl rfl) (fun _ h => h) (fun _ _ => trivial)) ?_; rintro _ _ ⟨b, rfl, hb, rfl⟩
  refine rg_nil (hK _ ?_)
  refine c_if (b := b) rfl ?_ ?_
  · intro h; subst h
    have hl0 : l = [] := List.map_eq_nil_iff.1 (hb rfl)
    subst hl0
    repeat (refine c_seq ?_)
    refine c_reg ?_; intro K hK
    refine st rfl rfl rfl (yv_assign rfl rfl) ?_
    refine rg_nil (hK _ ?_)
    refine c_nilobj 2 id 38 3 rfl hid ?_; intro v
    refine c_ret (hret _ _ _ (.tmp rfl .nil) (fun _ _ h => h) ?_)
    exact ⟨v, rfl, rfl⟩
  · intro h; subst h
    refine c_skip ?_
    repeat (refine c_seq ?_)
    refine c_reg ?_; intro K hK
    refine se rfl rfl rfl (yl_buildO (ps := []) id [] .any rfl Tryz.underlying43 bz38 .nil rfl rfl rfl rfl) ?_; rintro _ _ ⟨v, -, rfl, rfl⟩
    refine st rfl rfl rfl (yv_move rfl rfl) ?_
    refine se rfl rfl rfl (yl_appT (g := GLayer.av) (l := []) (m := l) (l' := l) .any rfl Tryz.underlying43 bz38 by38 rfl rfl rfl (upd_same _ _ _) rfl rfl rfl rfl rfl rfl rfl (.refl _) (fun _ => rfl) rfl hl) ?_; rintro _ _ ⟨v2, -, rfl, rfl⟩
    refine st rfl rfl rfl (yv_assign rfl rfl) ?_
    refine rg_nil (hK _ ?_)
    refine c_ret (hret _ _ _ (.tmp rfl .nil) (fun _ _ h => h) ?_)
    exact ⟨v2, rfl, upd_updV⟩
theorem clone45_c {H : AH} {id : Nat} {l : List GPool} (hid : H id = none) (hl : l.length ≤ 68719476736) : PC Tryz.prog 45 [lst 4 GPool.av l] H (fun y H' => ∃ ver, y = .sl id ver 0 l.length ∧ H' = upd H id (some ⟨46, 4, true, true, ver, l.map GPool.av⟩)) := by
  refine pc_of' (c := _) Tryz.func45 rfl rfl ?_; intro Q hret hnorm
  repeat (refine c_seq ?_)
  refine c_reg ?_; intro K hK
  refine st rfl rfl rfl (yv_assign rfl rfl) ?_
  refine rg_nil (hK _ ?_)
  repeat (refine c_seq ?_)
  refine c_reg ?_; intro K hK
  refine st rfl rfl rfl (yv_move rfl rfl) ?_
  refine se rfl rfl rfl (Yield.weak (yl_slnil (xs := l.map GPool.av) (sz := 4) rfl Tryz.underlying61 rfl rfl) (fun _ h => h) (fun _ _ => trivial)) ?_; rintro _ _ ⟨b, rfl, hb, rfl⟩
  refine rg_nil (hK _ ?_)
  refine c_if (b := b) rfl ?_ ?_
  · intro h; subst h
    have hl0 : l = [] := List.map_eq_nil_iff.1 (hb rfl)
    subst hl0
    repeat (refine c_seq ?_)
    refine c_reg ?_; intro K hK
    refine st rfl rfl rfl (yv_assign rfl rfl) ?_
    refine rg_nil (hK _ ?_)
    refine c_nilobj 2 id 46 4 rfl hid ?_; intro v
    refine c_ret (hret _ _ _ (.tmp rfl .nil) (fun _ _ h => h) ?_)
    exact ⟨v, rfl, rfl⟩
  · intro h; subst h
    refine c_skip ?_
    repeat (refine c_seq ?_)
    refine c_reg ?_; intro K hK
    refine se rfl rfl rfl (yl_buildO (ps := []) id [] .any rfl Tryz.underlying61 bz46 .nil rfl rfl rfl rfl) ?_; rintro _ _ ⟨v, -, rfl, rfl⟩
    refine st rfl rfl rfl (yv_move rfl rfl) ?_
    refine se rfl rfl rfl (yl_appT (g := GPool.av) (l := []) (m := l) (l' := l) .any rfl Tryz.underlying61 bz46 by46 rfl rfl rfl (upd_same _ _ _) rfl rfl rfl rfl rfl rfl rfl (.refl _) (fun _ => rfl) rfl hl) ?_; rintro _ _ ⟨v2, -, rfl, rfl⟩
    refine st rfl rfl rfl (yv_assign rfl rfl) ?_
    refine rg_nil (hK _ ?_)
    refine c_ret (hret _ _ _ (.tmp rfl .nil) (fun _ _ h => h) ?_)
    exact ⟨v2, rfl, upd_updV⟩
theorem clone71_c {H : AH} {id : Nat} {l : List GEnt} (hid : H id = none) (hl : l.length ≤ 68719476736) : PC Tryz.prog 71 [lst 8 GEnt.av l] H (fun y H' => ∃ ver, y = .sl id ver 0 l.length ∧ H' = upd H id (some ⟨64, 8, true, true, ver, l.map GEnt.av⟩)) := by
  refine pc_of' (c := _) Tryz.func71 rfl rfl ?_; intro Q hret hnorm
  repeat (refine c_seq ?_)
  refine c_reg ?_; intro K hK
  refine st rfl rfl rfl (yv_assign rfl rfl) ?_
  refine rg_nil (hK _ ?_)
  repeat (refine c_seq ?_)
  refine c_reg ?_; intro K hK
  refine st rfl rfl rfl (yv_move rfl rfl) ?_
  refine se rfl rfl rfl (Yield.weak (yl_slnil (xs := l.map GEnt.av) (sz := 8) rfl Tryz.underlying27 rfl rfl) (fun _ h => h) (fun _ _ => trivial)) ?_; rintro _ _ ⟨b, rfl, hb, rfl⟩
  refine rg_nil (hK _ ?_)
  refine c_if (b := b) rfl ?_ ?_
  · intro h; subst h
    have hl0 : l = [] := List.map_eq_nil_iff.1 (hb rfl)
    subst hl0
    repeat (refine c_seq ?_)
    refine c_reg ?_; intro K hK
    refine st rfl rfl rfl (yv_assign rfl rfl) ?_
    refine rg_nil (hK _ ?_)
    refine c_nilobj 2 id 64 8 rfl hid ?_; intro v
    refine c_ret (hret _ _ _ (.tmp rfl .nil) (fun _ _ h => h) ?_)
    exact ⟨v, rfl, rfl⟩
  · intro h; subst h
    refine c_skip ?_
    repeat (refine c_seq ?_)
    refine c_reg ?_; intro K hK
    refine se rfl rfl rfl (yl_buildO (ps := []) id [] .any rfl Tryz.underlying27 bz64 .nil rfl rfl rfl rfl) ?_; rintro _ _ ⟨v, -, rfl, rfl⟩
    refine st rfl rfl rfl (yv_move rfl rfl) ?_
    refine se rfl rfl rfl (yl_appT (g := GEnt.av) (l := []) (m := l) (l' := l) .any rfl Tryz.underlying27 bz64 by64 rfl rfl rfl (upd_same _ _ _) rfl rfl rfl rfl rfl rfl rfl (.refl _) GEnt.one rfl hl) ?_; rintro _ _ ⟨v2, -, rfl, rfl⟩
    refine st rfl rfl rfl (yv_assign rfl rfl) ?_
    refine rg_nil (hK _ ?_)
    refine c_ret (hret _ _ _ (.tmp rfl .nil) (fun _ _ h => h) ?_)
    exact ⟨v2, rfl, upd_updV⟩
def d_law00_Place (a1 : Int) (a2 : Int) : Option (Int) :=
asrt (a2 ≠ 0) <|
bnd (a1.tmod a2) fun x4 =>
bnd (decide (x4 < 0)) fun x5 =>
(show Option (Int) from
cond x5 (bnd (w64 (x4 + a2)) fun x7 =>
some (x7 : Int)) (some (x4 : Int))).bind <| fun y0_1 =>
some ((y0_1 : Int))
theorem d_law00_Place_c {a1 : Int} {a2 : Int} {r : Int} (h0 : d_law00_Place a1 a2 = some r) : PP Tryz.prog 12 [int a1, int a2] (fun y => y = int r) := by
  unfold d_law00_Place at h0
  refine pp_of_pc (R0 := fun y H => Cv (frzH H) y (int r)) ?_ (fun y H hc => ⟨_, rfl, pvI r, hc⟩)
  refine pcw (c := _) Tryz.func12 rfl rfl ?_; intro Q hret hnorm
  refine tc tbk 8 (.mk ?_)
  obtain ⟨p3, h0⟩ := asrt_e h0
  obtain ⟨x4, e4, h0⟩ := bnd_e h0
  refine sY (yv_rem rfl rfl rfl p3 e4) ?_
  refine tr tbk 6 (.mk ?_)
  refine nb tbk h0 fun x5 h0 => ?_
  refine tr tbk 1 (.mk ?_)
  refine jn h0 [4] [] (fun (a : Int) (k : Unit) => [(5, int a)]) (fun a k => []) ⟨fun j6 h1 => ?_, ?_⟩
  cases x5
  replace h1 := cf h1
  refine tc tbk 2 (.mk ?_)
  exact lf h1 () leA
  replace h1 := ct h1
  refine tc tbk 4 (.mk ?_)
  refine ni tbk h1 fun x7 h1 => ?_
  refine tr tbk 2 (.mk ?_)
  exact lf h1 () leA
  rintro y0_1 _ h0
  refine tc tbk 5 (.mk ?_)
  obtain rfl := nxt_e h0
  refine wR hret (rT .nil) ?_
  exact .refl _
def d_law00_Master_L0 (x3 : Int) (x8 : Int) : Nat → Int → (List Int) → Option ((List Int))
  | 0, _, _ => none
  | n + 1, y0_1, y0_3 =>
    bnd (decide (y0_1 < x8)) fun x15 =>
    cond x15 (bnd (w64 (x3.tdiv 24)) fun x16 =>
    bnd (x16.tmod 7) fun x17 =>
    bnd (w64 (x17 + y0_1)) fun x18 =>
    bnd (y0_3 ++ ([x18] : List Int)) fun x19 =>
    asrt (x19.length ≤ 68719476736) <|
    bnd (w64 (y0_1 + 1)) fun x22 =>
    d_law00_Master_L0 x3 x8 n (x22 : Int) (x19 : List Int)) (some (y0_3 : List Int))
def d_law00_Master_L2 (x3 : Int) (x8 : Int) (y2_1 : Int) : Nat → Int → (List Int) → (List Int) → Option ((List Int) × (List Int))
  | 0, _, _, _ => none
  | n + 1, y3_3, y3_4, y3_5 =>
    bnd (decide (y3_3 < x8)) fun x31 =>
    cond x31 (bnd (w64 (x3.tdiv 168)) fun x32 =>
    bnd (w64 (x32 + y3_3)) fun x33 =>
    bnd (w64 (x3.tdiv 672)) fun x34 =>
    bnd (x34.tmod 4) fun x35 =>
    bnd (w64 (y2_1 * x35)) fun x36 =>
    bnd (w64 (x33 + x36)) fun x37 =>
    bnd (x37.tmod 4) fun x38 =>
    bnd (w64 (1 + x38)) fun x39 =>
    bnd (y3_4 ++ ([x39] : List Int)) fun x40 =>
    asrt (x40.length ≤ 68719476736) <|
    bnd (w64 (x3.tdiv 2688)) fun x43 =>
    bnd (w64 (7 * y3_3)) fun x44 =>
    bnd (w64 (x43 + x44)) fun x45 =>
    bnd (w64 (x45 + y2_1)) fun x46 =>
    bnd (x46.tmod 40) fun x47 =>
    bnd (y3_5 ++ ([x47] : List Int)) fun x48 =>
    asrt (x48.length ≤ 68719476736) <|
    bnd (w64 (y3_3 + 1)) fun x51 =>
    d_law00_Master_L2 x3 x8 y2_1 n (x51 : Int) (x40 : List Int) (x48 : List Int)) (some ((y3_4 : List Int), (y3_5 : List Int)))
def d_law00_Master_L1 (x3 : Int) (x5 : Int) (x8 : Int) : Nat → Int → (List (List Int)) → (List (List Int)) → Option ((List (List Int)) × (List (List Int)))
  | 0, _, _, _ => none
  | n + 1, y2_1, y2_4, y2_5 =>
    bnd (decide (y2_1 < x5)) fun x26 =>
    cond x26 ((show Option ((List (List Int)) × (List (List Int))) from
    (show Option ((List Int) × (List Int)) from
    d_law00_Master_L2 x3 x8 y2_1 n (0 : Int) (([] : List Int) : List Int) (([] : List Int) : List Int)).bind <| p2 fun (y4_3 : List Int) (y4_4 : List Int) =>
    bnd (y2_4 ++ [y4_3]) fun x52 =>
    asrt (x52.length ≤ 68719476736) <|
    bnd (y2_5 ++ [y4_4]) fun x55 =>
    asrt (x55.length ≤ 68719476736) <|
    some ((x52 : List (List Int)), (x55 : List (List Int)))).bind <| p2 fun (y5_3 : List (List Int)) (y5_4 : List (List Int)) =>
    bnd (w64 (y2_1 + 1)) fun x58 =>
    d_law00_Master_L1 x3 x5 x8 n (x58 : Int) (y5_3 : List (List Int)) (y5_4 : List (List Int))) (some ((y2_4 : List (List Int)), (y2_5 : List (List Int))))
def d_law00_Master (n : Nat) (a1 : Int) : Option (GMaster) :=
(d_law00_Place a1 1073741824).bind fun x3 =>
bnd (x3.tmod 2) fun x4 =>
bnd (w64 (2 + x4)) fun x5 =>
bnd (w64 (x3.tdiv 2)) fun x6 =>
bnd (x6.tmod 3) fun x7 =>
bnd (w64 (2 + x7)) fun x8 =>
bnd (w64 (x3.tdiv 6)) fun x9 =>
bnd (x9.tmod 4) fun x10 =>
bnd (w64 (1 + x10)) fun x11 =>
(show Option ((List Int)) from
d_law00_Master_L0 x3 x8 n (0 : Int) (([] : List Int) : List Int)).bind <| fun y1_2 =>
(show Option ((List (List Int)) × (List (List Int))) from
d_law00_Master_L1 x3 x5 x8 n (0 : Int) (([] : List (List Int)) : List (List Int)) (([] : List (List Int)) : List (List Int))).bind <| p2 fun (y6_3 : List (List Int)) (y6_4 : List (List Int)) =>
some (((⟨x5, x11, y1_2, y6_3, y6_4⟩ : GMaster) : GMaster))
theorem d_law00_Master_c {n : Nat} {a1 : Int} {r : GMaster} (h0 : d_law00_Master n a1 = some r) : PP Tryz.prog 4 [int a1] (fun y => y = .agg (GMaster.av r)) := by
  unfold d_law00_Master at h0
  refine pp_of_pc (R0 := fun y H => Cv (frzH H) y (.agg (GMaster.av r))) ?_ (fun y H hc => ⟨_, rfl, (fun (a : GMaster) => PV.agg (GMaster.pvc a)) r, hc⟩)
  refine pcw (c := _) Tryz.func4 rfl rfl ?_; intro Q hret hnorm
  refine tc tbk 2 (.mk ?_)
  refine sA 1 z25 fun v2 => ?_
  refine tr tbk 4 (.mk ?_)
  obtain ⟨x3, e3, h0⟩ := bind_e h0
  refine sC cal12 (d_law00_Place_c e3) ?_
  refine tr tbk 5 (.mk ?_)
  refine ni tbk h0 fun x4 h0 => ?_
  refine ni tbk h0 fun x5 h0 => ?_
  refine tr tbk 1 (.mk ?_)
  refine ni tbk h0 fun x6 h0 => ?_
  refine ni tbk h0 fun x7 h0 => ?_
  refine ni tbk h0 fun x8 h0 => ?_
  refine tr tbk 7 (.mk ?_)
  refine ni tbk h0 fun x9 h0 => ?_
  refine ni tbk h0 fun x10 h0 => ?_
  refine ni tbk h0 fun x11 h0 => ?_
  refine tr tbk 1 (.mk ?_)
  refine sA 2 z25 fun v12 => ?_
  refine sS ⟨25, 5, true, true, v12, [[int x5, int x11, .sc (.slice none 0 0), .sc (.slice none 0 0), .sc (.slice none 0 0)]]⟩ sh25 ?_
  refine tr tbk 6 (.mk ?_)
  refine jn h0 [2, 3, 4, 5, 6] [1] (fun (a : (List Int)) (k : Nat) => []) (fun a k => [(2, ⟨25, 5, true, true, v12, [[int x5, int x11, .sl 4 k 0 a.length, .sc (.slice none 0 0), .sc (.slice none 0 0)]]⟩), (4, ⟨3, 1, true, true, k, a.map fI⟩)]) ⟨fun j13 h1 => ?_, ?_⟩
  refine tc tbk 1 (.mk ?_)
  refine c_nilcell 2 0 2 4 3 1 (rows := fun v14 => [[int x5, int x11, .sl 4 v14 0 0, .sc (.slice none 0 0), .sc (.slice none 0 0)]]) rfl rfl rfl rfl (fun _ => rfl) ?_; intro v14
  refine lp (fun n (a : Int × (List Int)) => d_law00_Master_L0 x3 x8 n a.1 a.2) ((0 : Int), (([] : List Int) : List Int)) v14 h1 [2, 3, 4, 5, 6] [1] (fun (a : Int × (List Int)) (k : Nat) => [(7, int a.1)]) (fun a k => [(2, ⟨25, 5, true, true, v12, [[int x5, int x11, .sl 4 k 0 a.2.length, .sc (.slice none 0 0), .sc (.slice none 0 0)]]⟩), (4, ⟨3, 1, true, true, k, a.2.map fI⟩)]) (fun _ => rfl) ⟨leA, ?_⟩
  rintro n ⟨y0_1, y0_3⟩ w0_2 hm h1
  replace h1 : d_law00_Master_L0 x3 x8 (n + 1) y0_1 y0_3 = some _ := h1
  rw [d_law00_Master_L0] at h1
  refine tc tbk 5 (.mk ?_)
  refine nb tbk h1 fun x15 h1 => ?_
  refine tr tbk 1 (.mk ?_)
  cases x15
  replace h1 := cf h1
  refine tc tbk 2 (.mk ?_)
  exact lf h1 w0_2 leA
  replace h1 := ct h1
  refine tc tbk 8 (.mk ?_)
  refine ni tbk h1 fun x16 h1 => ?_
  refine ni tbk h1 fun x17 h1 => ?_
  refine tr tbk 1 (.mk ?_)
  refine ni tbk h1 fun x18 h1 => ?_
  refine sY (yv_to (y := lst 1 fI ([x18] : List Int)) (yv_buildSlice (ps := [(0, _)]) (rows := [[int x18]]) rfl Tryz.underlying22 bz3 (.cons rfl .nil) (by kernel_rfl) rfl rfl rfl) rfl) ?_
  obtain ⟨x19, e19, h1⟩ := bnd_e h1
  obtain ⟨p20, h1⟩ := asrt_e h1
  refine rse rfl rfl rfl (yl_appT (g := fI) (l := y0_3) (m := ([x18] : List Int)) .any rfl Tryz.underlying22 bz3 by3 rfl rfl rfl rfl rfl rfl rfl rfl rfl rfl (Eq.symm rfl) (.refl _) (fun _ => rfl) e19 p20) ?_; rintro _ _ ⟨v21, -, rfl, rfl⟩
  refine tr tbk 1 (.mk ?_)
  refine sS ⟨25, 5, true, true, v12, [[int x5, int x11, .sl 4 v21 0 x19.length, .sc (.slice none 0 0), .sc (.slice none 0 0)]]⟩ sh22 ?_
  refine tr tbk 4 (.mk ?_)
  refine ni tbk h1 fun x22 h1 => ?_
  refine tr tbk 2 (.mk ?_)
  exact bk (x22, x19) v21 h1 leA
  rintro y1_2 w1_1 h0
  refine tc tbk 5 (.mk ?_)
  refine jn h0 [2, 6] [1, 4] (fun (a : (List (List Int)) × (List (List Int))) (k : Nat × Nat) => []) (fun a k => [(2, ⟨25, 5, true, true, v12, [[int x5, int x11, .sl 4 w1_1 0 y1_2.length, .sl 11 k.1 0 a.1.length, .sl 12 k.2 0 a.2.length]]⟩), (11, ⟨22, 1, true, true, k.1, a.1.map (fL 1 fI)⟩), (12, ⟨22, 1, true, true, k.2, a.2.map (fL 1 fI)⟩)]) ⟨fun j23 h1 => ?_, ?_⟩
  refine tc tbk 1 (.mk ?_)
  refine c_nilcell 2 0 3 11 22 1 (rows := fun v24 => [[int x5, int x11, .sl 4 w1_1 0 y1_2.length, .sl 11 v24 0 0, .sc (.slice none 0 0)]]) rfl rfl rfl rfl (fun _ => rfl) ?_; intro v24
  refine c_nilcell 2 0 4 12 22 1 (rows := fun v25 => [[int x5, int x11, .sl 4 w1_1 0 y1_2.length, .sl 11 v24 0 0, .sl 12 v25 0 0]]) rfl rfl rfl rfl (fun _ => rfl) ?_; intro v25
  refine lp (fun n (a : Int × (List (List Int)) × (List (List Int))) => d_law00_Master_L1 x3 x5 x8 n a.1 a.2.1 a.2.2) ((0 : Int), (([] : List (List Int)) : List (List Int)), (([] : List (List Int)) : List (List Int))) (v24, v25) h1 [2, 3, 4, 5, 6] [1, 4] (fun (a : Int × (List (List Int)) × (List (List Int))) (k : Nat × Nat) => [(8, int a.1)]) (fun a k => [(2, ⟨25, 5, true, true, v12, [[int x5, int x11, .sl 4 w1_1 0 y1_2.length, .sl 11 k.1 0 a.2.1.length, .sl 12 k.2 0 a.2.2.length]]⟩), (11, ⟨22, 1, true, true, k.1, a.2.1.map (fL 1 fI)⟩), (12, ⟨22, 1, true, true, k.2, a.2.2.map (fL 1 fI)⟩)]) (fun _ => rfl) ⟨leA, ?_⟩
  rintro n ⟨y2_1, y2_4, y2_5⟩ ⟨w2_2, w2_3⟩ hm h1
  replace h1 : d_law00_Master_L1 x3 x5 x8 (n + 1) y2_1 y2_4 y2_5 = some _ := h1
  rw [d_law00_Master_L1] at h1
  refine tc tbk 5 (.mk ?_)
  refine nb tbk h1 fun x26 h1 => ?_
  refine tr tbk 1 (.mk ?_)
  cases x26
  replace h1 := cf h1
  refine tc tbk 2 (.mk ?_)
  exact lf h1 (w2_2, w2_3) leA
  replace h1 := ct h1
  refine tc tbk 3 (.mk ?_)
  refine jn h1 [2, 3, 4, 5, 6, 8] [1, 4] (fun (a : (List (List Int)) × (List (List Int))) (k : Nat × Nat) => []) (fun a k => [(2, ⟨25, 5, true, true, v12, [[int x5, int x11, .sl 4 w1_1 0 y1_2.length, .sl 11 k.1 0 a.1.length, .sl 12 k.2 0 a.2.length]]⟩), (11, ⟨22, 1, true, true, k.1, a.1.map (fL 1 fI)⟩), (12, ⟨22, 1, true, true, k.2, a.2.map (fL 1 fI)⟩)]) ⟨fun j27 h2 => ?_, ?_⟩
  refine tc tbk 11 (.mk ?_)
  refine jn h2 [2, 3, 4, 5, 6, 8] [1, 2, 4, 11, 12] (fun (a : (List Int) × (List Int)) (k : Nat × Nat) => [(9, .sl 7 k.1 0 a.1.length), (10, .sl 8 k.2 0 a.2.length)]) (fun a k => [(7, ⟨3, 1, true, true, k.1, a.1.map fI⟩), (8, ⟨3, 1, true, true, k.2, a.2.map fI⟩)]) ⟨fun j28 h3 => ?_, ?_⟩
  refine tc tbk 1 (.mk ?_)
  refine c_nilobj 9 7 3 1 rfl rfl ?_; intro v29
  refine c_nilobj 10 8 3 1 rfl rfl ?_; intro v30
  refine lp (fun n (a : Int × (List Int) × (List Int)) => d_law00_Master_L2 x3 x8 y2_1 n a.1 a.2.1 a.2.2) ((0 : Int), (([] : List Int) : List Int), (([] : List Int) : List Int)) (v29, v30) h3 [2, 3, 4, 5, 6, 8] [1, 2, 4, 11, 12] (fun (a : Int × (List Int) × (List Int)) (k : Nat × Nat) => [(9, .sl 7 k.1 0 a.2.1.length), (10, .sl 8 k.2 0 a.2.2.length), (11, int a.1)]) (fun a k => [(7, ⟨3, 1, true, true, k.1, a.2.1.map fI⟩), (8, ⟨3, 1, true, true, k.2, a.2.2.map fI⟩)]) (fun _ => rfl) ⟨leA, ?_⟩
  rintro n ⟨y3_3, y3_4, y3_5⟩ ⟨w3_1, w3_2⟩ hm h3
  replace h3 : d_law00_Master_L2 x3 x8 y2_1 (n + 1) y3_3 y3_4 y3_5 = some _ := h3
  rw [d_law00_Master_L2] at h3
  refine tc tbk 5 (.mk ?_)
  refine nb tbk h3 fun x31 h3 => ?_
  refine tr tbk 1 (.mk ?_)
  cases x31
  replace h3 := cf h3
  refine tc tbk 2 (.mk ?_)
  exact lf h3 (w3_1, w3_2) leA
  replace h3 := ct h3
  refine tc tbk 7 (.mk ?_)
  refine ni tbk h3 fun x32 h3 => ?_
  refine tr tbk 1 (.mk ?_)
  refine ni tbk h3 fun x33 h3 => ?_
  refine tr tbk 2 (.mk ?_)
  refine ni tbk h3 fun x34 h3 => ?_
  refine ni tbk h3 fun x35 h3 => ?_
  refine ni tbk h3 fun x36 h3 => ?_
  refine ni tbk h3 fun x37 h3 => ?_
  refine ni tbk h3 fun x38 h3 => ?_
  refine ni tbk h3 fun x39 h3 => ?_
  refine sY (yv_to (y := lst 1 fI ([x39] : List Int)) (yv_buildSlice (ps := [(0, _)]) (rows := [[int x39]]) rfl Tryz.underlying22 bz3 (.cons rfl .nil) (by kernel_rfl) rfl rfl rfl) rfl) ?_
  obtain ⟨x40, e40, h3⟩ := bnd_e h3
  obtain ⟨p41, h3⟩ := asrt_e h3
  refine rse rfl rfl rfl (yl_appT (g := fI) (l := y3_4) (m := ([x39] : List Int)) .any rfl Tryz.underlying22 bz3 by3 rfl rfl rfl rfl rfl rfl rfl rfl rfl rfl (Eq.symm rfl) (.refl _) (fun _ => rfl) e40 p41) ?_; rintro _ _ ⟨v42, -, rfl, rfl⟩
  refine tr tbk 2 (.mk ?_)
  refine ni tbk h3 fun x43 h3 => ?_
  refine tr tbk 1 (.mk ?_)
  refine ni tbk h3 fun x44 h3 => ?_
  refine ni tbk h3 fun x45 h3 => ?_
  refine tr tbk 1 (.mk ?_)
  refine ni tbk h3 fun x46 h3 => ?_
  refine ni tbk h3 fun x47 h3 => ?_
  refine sY (yv_to (y := lst 1 fI ([x47] : List Int)) (yv_buildSlice (ps := [(0, _)]) (rows := [[int x47]]) rfl Tryz.underlying22 bz3 (.cons rfl .nil) (by kernel_rfl) rfl rfl rfl) rfl) ?_
  obtain ⟨x48, e48, h3⟩ := bnd_e h3
  obtain ⟨p49, h3⟩ := asrt_e h3
  refine rse rfl rfl rfl (yl_appT (g := fI) (l := y3_5) (m := ([x47] : List Int)) .any rfl Tryz.underlying22 bz3 by3 rfl rfl rfl rfl rfl rfl rfl rfl rfl rfl (Eq.symm rfl) (.refl _) (fun _ => rfl) e48 p49) ?_; rintro _ _ ⟨v50, -, rfl, rfl⟩
  refine tr tbk 6 (.mk ?_)
  refine ni tbk h3 fun x51 h3 => ?_
  refine tr tbk 2 (.mk ?_)
  exact bk (x51, x40, x48) (v42, v50) h3 leA
  rintro ⟨y4_3, y4_4⟩ ⟨w4_1, w4_2⟩ h2
  replace h2 := p2_e h2
  refine c_drawE [0, 1, 0, 4, 15, 0, 32, 0, 128, 511, 127, 2047, 4095, 8191] (rl [(0, [2]), (1, [2]), (5, [2]), (6, [2]), (10, [2]), (12, [2])] []) (rl [(11, []), (13, [])] [2]) (rl [(4, false), (9, false), (11, false), (13, false)] true) [0, 1, 2, 3, 5, 6, 7, 8, 4, 10, 9, 11, 12, 13] mixed (by kernel_rfl) ?_; intro K hK
  refine eF fo25_3 ?_
  refine eL sh23 ?_
  refine eM ?_
  refine eP (fun H hH => yv_buildSlice (ps := [(0, _)]) (rows := [[.sl 7 w4_1 0 y4_3.length]]) rfl Tryz.underlying23 bz22 (.cons rfl .nil) (by kernel_rfl) rfl rfl rfl) ?_
  refine eF fo25_4 ?_
  refine eL sh23 ?_
  refine eM ?_
  refine eP (fun H hH => yv_buildSlice (ps := [(0, _)]) (rows := [[.sl 8 w4_2 0 y4_4.length]]) rfl Tryz.underlying23 bz22 (.cons rfl .nil) (by kernel_rfl) rfl rfl rfl) ?_
  obtain ⟨x52, e52, h2⟩ := bnd_e h2
  obtain ⟨p53, h2⟩ := asrt_e h2
  refine de_eff rfl rfl rfl rfl (Yield.frz 7 rfl (yl_appT (g := (fL 1 fI)) (l := y2_4) (m := [y4_3]) .any rfl Tryz.underlying23 bz22 by22 rfl rfl rfl rfl rfl rfl rfl rfl rfl rfl (Eq.symm rfl) (CvLL.list (.cons (.cons (cv_lst rfl rfl rfl rfl rfl (Eq.symm rfl)) .nil) .nil)) (fun _ => rfl) e52 p53)) (by rintro _ _ ⟨v54, -, rfl, rfl⟩; exact ⟨rfl, trivial⟩) ?_; rintro _ _ ⟨v54, -, rfl, rfl⟩
  refine eF fo25_3 ?_
  obtain ⟨x55, e55, h2⟩ := bnd_e h2
  obtain ⟨p56, h2⟩ := asrt_e h2
  refine de_eff rfl rfl rfl rfl (Yield.frz 8 rfl (yl_appT (g := (fL 1 fI)) (l := y2_5) (m := [y4_4]) .any rfl Tryz.underlying23 bz22 by22 rfl rfl rfl rfl rfl rfl rfl rfl rfl rfl (Eq.symm rfl) (CvLL.list (.cons (.cons (cv_lst rfl rfl rfl rfl rfl (Eq.symm rfl)) .nil) .nil)) (fun _ => rfl) e55 p56)) (by rintro _ _ ⟨v57, -, rfl, rfl⟩; exact ⟨rfl, trivial⟩) ?_; rintro _ _ ⟨v57, -, rfl, rfl⟩
  refine de_eff0 rfl rfl rfl rfl (Yield.weak (yl_ob (ob' := (⟨25, 5, true, true, v12, [[int x5, int x11, .sl 4 w1_1 0 y1_2.length, .sl 11 v54 0 x52.length, .sl 12 w2_3 0 y2_5.length]]⟩ : AObj)) (yl_store rfl sh23 rfl rfl rfl rfl rfl rfl rfl rfl rfl) rfl) (fun _ h => h) (fun _ _ => trivial)) (by rintro _ _ ⟨rfl, rfl⟩; exact trivial) ?_; rintro _ _ ⟨rfl, rfl⟩
  refine eF fo25_4 ?_
  refine de_eff0 rfl rfl rfl rfl (Yield.weak (yl_ob (ob' := (⟨25, 5, true, true, v12, [[int x5, int x11, .sl 4 w1_1 0 y1_2.length, .sl 11 v54 0 x52.length, .sl 12 v57 0 x55.length]]⟩ : AObj)) (yl_store rfl sh23 rfl rfl rfl rfl rfl rfl rfl rfl rfl) rfl) (fun _ h => h) (fun _ _ => trivial)) (by rintro _ _ ⟨rfl, rfl⟩; exact trivial) ?_; rintro _ _ ⟨rfl, rfl⟩
  refine de_nil (hK _ ?_)
  refine tc tbk 1 (.mk ?_)
  exact lf h2 (v54, v57) leA
  rintro ⟨y5_3, y5_4⟩ ⟨w5_1, w5_2⟩ h1
  replace h1 := p2_e h1
  refine tc tbk 2 (.mk ?_)
  refine ni tbk h1 fun x58 h1 => ?_
  refine tr tbk 2 (.mk ?_)
  exact bk (x58, y5_3, y5_4) (w5_1, w5_2) h1 leA
  rintro ⟨y6_3, y6_4⟩ ⟨w6_1, w6_2⟩ h0
  replace h0 := p2_e h0
  refine tc tbk 3 (.mk ?_)
  refine sS ⟨25, 5, true, true, v2, [[int x5, int x11, .sl 4 w1_1 0 y1_2.length, .sl 11 w6_1 0 y6_3.length, .sl 12 w6_2 0 y6_4.length]]⟩ sh25 ?_
  refine tr tbk 1 (.mk ?_)
  obtain rfl := nxt_e h0
  refine wR hret (rC sh25 .nil) ?_
  exact (CvL.agg (.cons (.refl _) (.cons (.refl _) (.cons (cv_lst rfl rfl rfl rfl rfl (Eq.symm rfl)) (.cons (cv_lst rfl rfl rfl rfl rfl (Eq.symm rfl)) (.cons (cv_lst rfl rfl rfl rfl rfl (Eq.symm rfl)) .nil))))))
def d_ref04_all_L0 (a1 : List Int) (a2 : Int) (a3 : Int) (a4 : Int) : Nat → Int → Option (Unit)
  | 0, _ => none
  | n + 1, y0_1 =>
    bnd (decide (y0_1 < a2)) fun x7 =>
    cond x7 ((show Option (Bool) from
    (ix a1 y0_1).bind fun x9 =>
    bnd (decide (x9 < a3)) fun x10 =>
    cond x10 (some (true : Bool)) ((ix a1 y0_1).bind fun x11 =>
    bnd (decide (x11 > a4)) fun x12 =>
    some (x12 : Bool))).bind <| fun y1_1 =>
    asrt (y1_1 = false) <|
    bnd (w64 (y0_1 + 1)) fun x13 =>
    d_ref04_all_L0 a1 a2 a3 a4 n (x13 : Int)) (some ())
def d_ref04_all (n : Nat) (a1 : List Int) (a2 : Int) (a3 : Int) (a4 : Int) : Option (Bool) :=
bnd (decide ((a1.length : Int) ≠ a2)) fun x5 =>
asrt (x5 = false) <|
(show Option (Unit) from
d_ref04_all_L0 a1 a2 a3 a4 n (0 : Int)).bind <| fun _ =>
some ((true : Bool))
theorem d_ref04_all_c {n : Nat} {a1 : List Int} {a2 : Int} {a3 : Int} {a4 : Int} {r : Bool} (h0 : d_ref04_all n a1 a2 a3 a4 = some r) : PP Tryz.prog 61 [lst 1 fI a1, int a2, int a3, int a4] (fun y => y = boo r) := by
  unfold d_ref04_all at h0
  refine pp_of_pc (R0 := fun y H => Cv (frzH H) y (boo r)) ?_ (fun y H hc => ⟨_, rfl, pvB r, hc⟩)
  refine pcw (c := _) Tryz.func61 rfl rfl ?_; intro Q hret hnorm
  refine tc tbk 8 (.mk ?_)
  refine sY (yv_len_sl rfl Tryz.underlying22 rfl (lst_len _)) ?_
  refine tr tbk 1 (.mk ?_)
  refine nb tbk h0 fun x5 h0 => ?_
  refine tr tbk 1 (.mk ?_)
  replace h0 := asrt_e h0
  obtain ⟨rfl, h0⟩ := h0
  refine tc tbk 7 (.mk ?_)
  refine jn h0 [8] [] (fun (a : Unit) (k : Unit) => []) (fun a k => []) ⟨fun j6 h1 => ?_, ?_⟩
  refine tc tbk 1 (.mk ?_)
  refine lp (fun n (a : Int) => d_ref04_all_L0 a1 a2 a3 a4 n a) (0 : Int) () h1 [0, 1, 2, 3, 8] [] (fun (a : Int) (k : Unit) => [(9, int a)]) (fun a k => []) (fun _ => rfl) ⟨leA, ?_⟩
  rintro n y0_1 _ hm h1
  replace h1 : d_ref04_all_L0 a1 a2 a3 a4 (n + 1) y0_1 = some _ := h1
  rw [d_ref04_all_L0] at h1
  refine tc tbk 5 (.mk ?_)
  refine nb tbk h1 fun x7 h1 => ?_
  refine tr tbk 1 (.mk ?_)
  cases x7
  replace h1 := cf h1
  refine tc tbk 2 (.mk ?_)
  exact lf h1 () leA
  replace h1 := ct h1
  refine tc tbk 5 (.mk ?_)
  refine jn h1 [0, 1, 2, 3, 8, 9] [] (fun (a : Bool) (k : Unit) => [(32, boo a)]) (fun a k => []) ⟨fun j8 h2 => ?_, ?_⟩
  refine tc tbk 3 (.mk ?_)
  obtain ⟨x9, e9, h2⟩ := bind_e h2
  refine sY (yv_ixT rfl Tryz.underlying22 sh3 rfl rfl e9) ?_
  refine tr tbk 2 (.mk ?_)
  refine nb tbk h2 fun x10 h2 => ?_
  refine tr tbk 1 (.mk ?_)
  cases x10
  replace h2 := cf h2
  refine tr tbk 2 (.mk ?_)
  obtain ⟨x11, e11, h2⟩ := bind_e h2
  refine sY (yv_ixT rfl Tryz.underlying22 sh3 rfl rfl e11) ?_
  refine tr tbk 2 (.mk ?_)
  refine nb tbk h2 fun x12 h2 => ?_
  refine tr tbk 2 (.mk ?_)
  exact lf h2 () leA
  replace h2 := ct h2
  refine tr tbk 8 (.mk ?_)
  exact lf h2 () leA
  rintro y1_1 _ h1
  replace h1 := asrt_e h1
  obtain ⟨rfl, h1⟩ := h1
  refine tc tbk 5 (.mk ?_)
  refine ni tbk h1 fun x13 h1 => ?_
  refine tr tbk 2 (.mk ?_)
  exact bk x13 () h1 leA
  rintro _ _ h0
  refine tc tbk 4 (.mk ?_)
  obtain rfl := nxt_e h0
  refine wR hret (rT .nil) ?_
  exact .refl _
def d_ref04_Check_L0 (a1 : GMaster) : Nat → Int → Option (Unit)
  | 0, _ => none
  | n + 1, y1_1 =>
    bnd (decide (y1_1 < a1.Entities)) fun x15 =>
    cond x15 ((show Option (Bool) from
    (ix a1.Methods y1_1).bind fun x17 =>
    (d_ref04_all n x17 (a1.Weights.length : Int) 1 4).bind fun x18 =>
    bnd (!x18) fun x19 =>
    cond x19 (some (true : Bool)) ((ix a1.Costs y1_1).bind fun x20 =>
    (d_ref04_all n x20 (a1.Weights.length : Int) 0 1073741824).bind fun x21 =>
    bnd (!x21) fun x22 =>
    some (x22 : Bool))).bind <| fun y2_1 =>
    asrt (y2_1 = false) <|
    bnd (w64 (y1_1 + 1)) fun x23 =>
    d_ref04_Check_L0 a1 n (x23 : Int)) (some ())
def d_ref04_Check (n : Nat) (a1 : GMaster) : Option (Bool) :=
(show Option (Bool) from
bnd (decide (a1.Entities < 1)) fun x4 =>
cond x4 (some (true : Bool)) (bnd (decide (a1.Entities > 4)) fun x5 =>
cond x5 (some (true : Bool)) (bnd (decide (a1.Periods < 1)) fun x6 =>
cond x6 (some (true : Bool)) (bnd (decide (a1.Periods > 12)) fun x7 =>
cond x7 (some (true : Bool)) (bnd (decide ((a1.Weights.length : Int) < 1)) fun x8 =>
cond x8 (some (true : Bool)) (bnd (decide ((a1.Weights.length : Int) > 5)) fun x9 =>
cond x9 (some (true : Bool)) ((d_ref04_all n a1.Weights (a1.Weights.length : Int) 0 1073741824).bind fun x10 =>
bnd (!x10) fun x11 =>
cond x11 (some (true : Bool)) (bnd (decide ((a1.Methods.length : Int) ≠ a1.Entities)) fun x12 =>
cond x12 (some (true : Bool)) (bnd (decide ((a1.Costs.length : Int) ≠ a1.Entities)) fun x13 =>
some (x13 : Bool)))))))))).bind <| fun y0_1 =>
asrt (y0_1 = false) <|
(show Option (Unit) from
d_ref04_Check_L0 a1 n (0 : Int)).bind <| fun _ =>
some ((true : Bool))
theorem d_ref04_Check_c {n : Nat} {a1 : GMaster} {r : Bool} (h0 : d_ref04_Check n a1 = some r) : PP Tryz.prog 34 [.agg (GMaster.av a1)] (fun y => y = boo r) := by
  unfold d_ref04_Check at h0
  refine pp_of_pc (R0 := fun y H => Cv (frzH H) y (boo r)) ?_ (fun y H hc => ⟨_, rfl, pvB r, hc⟩)
  refine pcw (c := _) Tryz.func34 rfl rfl ?_; intro Q hret hnorm
  refine tc tbk 2 (.mk ?_)
  refine sB 1 fun v2 => ?_
  refine tr tbk 6 (.mk ?_)
  refine sY (yv_len_sl rfl Tryz.underlying22 rfl (lst_len _)) ?_
  refine tr tbk 4 (.mk ?_)
  refine jn h0 [1, 2, 3] [1] (fun (a : Bool) (k : Unit) => [(56, boo a)]) (fun a k => []) ⟨fun j3 h1 => ?_, ?_⟩
  refine tc tbk 3 (.mk ?_)
  refine nb tbk h1 fun x4 h1 => ?_
  refine tr tbk 1 (.mk ?_)
  cases x4
  replace h1 := cf h1
  refine tr tbk 2 (.mk ?_)
  refine nb tbk h1 fun x5 h1 => ?_
  refine tr tbk 2 (.mk ?_)
  cases x5
  replace h1 := cf h1
  refine tr tbk 2 (.mk ?_)
  refine nb tbk h1 fun x6 h1 => ?_
  refine tr tbk 2 (.mk ?_)
  cases x6
  replace h1 := cf h1
  refine tr tbk 2 (.mk ?_)
  refine nb tbk h1 fun x7 h1 => ?_
  refine tr tbk 2 (.mk ?_)
  cases x7
  replace h1 := cf h1
  refine tr tbk 1 (.mk ?_)
  refine nb tbk h1 fun x8 h1 => ?_
  refine tr tbk 2 (.mk ?_)
  cases x8
  replace h1 := cf h1
  refine tr tbk 1 (.mk ?_)
  refine nb tbk h1 fun x9 h1 => ?_
  refine tr tbk 2 (.mk ?_)
  cases x9
  replace h1 := cf h1
  refine tr tbk 3 (.mk ?_)
  obtain ⟨x10, e10, h1⟩ := bind_e h1
  refine sC cal61 (d_ref04_all_c e10) ?_
  refine nb tbk h1 fun x11 h1 => ?_
  refine tr tbk 2 (.mk ?_)
  cases x11
  replace h1 := cf h1
  refine tr tbk 2 (.mk ?_)
  refine sY (yv_len_sl rfl Tryz.underlying23 rfl (lst_len _)) ?_
  refine tr tbk 2 (.mk ?_)
  refine nb tbk h1 fun x12 h1 => ?_
  refine tr tbk 2 (.mk ?_)
  cases x12
  replace h1 := cf h1
  refine tr tbk 2 (.mk ?_)
  refine sY (yv_len_sl rfl Tryz.underlying23 rfl (lst_len _)) ?_
  refine tr tbk 2 (.mk ?_)
  refine nb tbk h1 fun x13 h1 => ?_
  refine tr tbk 2 (.mk ?_)
  exact lf h1 () leA
  replace h1 := ct h1
  refine tr tbk 8 (.mk ?_)
  exact lf h1 () leA
  replace h1 := ct h1
  refine tr tbk 16 (.mk ?_)
  exact lf h1 () leA
  replace h1 := ct h1
  refine tr tbk 23 (.mk ?_)
  exact lf h1 () leA
  replace h1 := ct h1
  refine tr tbk 27 (.mk ?_)
  exact lf h1 () leA
  replace h1 := ct h1
  refine tr tbk 31 (.mk ?_)
  exact lf h1 () leA
  replace h1 := ct h1
  refine tr tbk 36 (.mk ?_)
  exact lf h1 () leA
  replace h1 := ct h1
  refine tr tbk 41 (.mk ?_)
  exact lf h1 () leA
  replace h1 := ct h1
  refine tr tbk 46 (.mk ?_)
  exact lf h1 () leA
  rintro y0_1 _ h0
  replace h0 := asrt_e h0
  obtain ⟨rfl, h0⟩ := h0
  refine tc tbk 7 (.mk ?_)
  refine jn h0 [2] [] (fun (a : Unit) (k : Unit) => []) (fun a k => []) ⟨fun j14 h1 => ?_, ?_⟩
  refine tc tbk 1 (.mk ?_)
  refine lp (fun n (a : Int) => d_ref04_Check_L0 a1 n a) (0 : Int) () h1 [1, 2, 3] [1] (fun (a : Int) (k : Unit) => [(4, int a)]) (fun a k => []) (fun _ => rfl) ⟨leA, ?_⟩
  rintro n y1_1 _ hm h1
  replace h1 : d_ref04_Check_L0 a1 (n + 1) y1_1 = some _ := h1
  rw [d_ref04_Check_L0] at h1
  refine tc tbk 6 (.mk ?_)
  refine nb tbk h1 fun x15 h1 => ?_
  refine tr tbk 1 (.mk ?_)
  cases x15
  replace h1 := cf h1
  refine tc tbk 2 (.mk ?_)
  exact lf h1 () leA
  replace h1 := ct h1
  refine tc tbk 5 (.mk ?_)
  refine jn h1 [1, 2, 3, 4] [1] (fun (a : Bool) (k : Unit) => [(80, boo a)]) (fun a k => []) ⟨fun j16 h2 => ?_, ?_⟩
  refine tc tbk 4 (.mk ?_)
  obtain ⟨x17, e17, h2⟩ := bind_e h2
  refine sY (yv_ixT rfl Tryz.underlying23 sh22 rfl rfl e17) ?_
  refine tr tbk 2 (.mk ?_)
  obtain ⟨x18, e18, h2⟩ := bind_e h2
  refine sC cal61 (d_ref04_all_c e18) ?_
  refine nb tbk h2 fun x19 h2 => ?_
  refine tr tbk 1 (.mk ?_)
  cases x19
  replace h2 := cf h2
  refine tr tbk 3 (.mk ?_)
  obtain ⟨x20, e20, h2⟩ := bind_e h2
  refine sY (yv_ixT rfl Tryz.underlying23 sh22 rfl rfl e20) ?_
  refine tr tbk 2 (.mk ?_)
  obtain ⟨x21, e21, h2⟩ := bind_e h2
  refine sC cal61 (d_ref04_all_c e21) ?_
  refine nb tbk h2 fun x22 h2 => ?_
  refine tr tbk 2 (.mk ?_)
  exact lf h2 () leA
  replace h2 := ct h2
  refine tr tbk 10 (.mk ?_)
  exact lf h2 () leA
  rintro y2_1 _ h1
  replace h1 := asrt_e h1
  obtain ⟨rfl, h1⟩ := h1
  refine tc tbk 5 (.mk ?_)
  refine ni tbk h1 fun x23 h1 => ?_
  refine tr tbk 2 (.mk ?_)
  exact bk x23 () h1 leA
  rintro _ _ h0
  refine tc tbk 4 (.mk ?_)
  obtain rfl := nxt_e h0
  refine wR hret (rT .nil) ?_
  exact .refl _
def d_ref04_Start_L1 (a1 : GMaster) : Nat → Int → (List Int) → Option ((List Int))
  | 0, _, _ => none
  | n + 1, y1_1, y1_2 =>
    bnd (decide (y1_1 < (a1.Weights.length : Int))) fun x29 =>
    cond x29 ((ix y1_2 y1_1).bind fun x30 =>
    bnd (y1_2.set (Int.toNat y1_1) ((-1) : Int)) fun x31 =>
    bnd (w64 (y1_1 + 1)) fun x32 =>
    d_ref04_Start_L1 a1 n (x32 : Int) (x31 : List Int)) (some (y1_2 : List Int))
def d_ref04_Start_L0 (a1 : GMaster) : Nat → Int → (List GEnt) → Option ((List GEnt))
  | 0, _, _ => none
  | n + 1, y0_1, y0_3 =>
    bnd (decide (y0_1 < a1.Entities)) fun x9 =>
    cond x9 ((show Option ((List GEnt)) from
    bnd (w64 ((a1.Weights.length : Int) * 2)) fun x11 =>
    asrt ((0 : Int) ≤ x11 ∧ (x11 : Int) ≤ 1048576) <|
    bnd (List.replicate (Int.toNat x11) ((⟨[], (⟨0, 0, 0⟩ : A3_Int)⟩ : GPool) : GPool)) fun x13 =>
    asrt ((0 : Int) ≤ 17 ∧ (17 : Int) ≤ 1048576) <|
    bnd (List.replicate (Int.toNat 17) (0 : Int)) fun x16 =>
    asrt ((0 : Int) ≤ (a1.Weights.length : Int) ∧ ((a1.Weights.length : Int) : Int) ≤ 1048576) <|
    bnd (List.replicate (Int.toNat (a1.Weights.length : Int)) ((⟨0, 0, 0, 0, 0, 0, 0, 0, 0, 0, 0⟩ : GRoll) : GRoll)) fun x19 =>
    asrt ((0 : Int) ≤ (a1.Weights.length : Int) ∧ ((a1.Weights.length : Int) : Int) ≤ 1048576) <|
    bnd (List.replicate (Int.toNat (a1.Weights.length : Int)) (0 : Int)) fun x22 =>
    asrt ((0 : Int) ≤ (a1.Weights.length : Int) ∧ ((a1.Weights.length : Int) : Int) ≤ 1048576) <|
    bnd (List.replicate (Int.toNat (a1.Weights.length : Int)) (0 : Int)) fun x25 =>
    (show Option ((List Int)) from
    d_ref04_Start_L1 a1 n (0 : Int) (x22 : List Int)).bind <| fun y2_1 =>
    bnd (y0_3 ++ [(⟨1, false, x13, x16, x19, y2_1, x25, []⟩ : GEnt)]) fun x33 =>
    asrt (x33.length ≤ 68719476736) <|
    some (x33 : List GEnt)).bind <| fun y3_2 =>
    bnd (w64 (y0_1 + 1)) fun x36 =>
    d_ref04_Start_L0 a1 n (x36 : Int) (y3_2 : List GEnt)) (some (y0_3 : List GEnt))
def d_ref04_Start (n : Nat) (a1 : GMaster) : Option (GState × Int) :=
(d_ref04_Check n a1).bind fun x4 =>
bnd (!x4) fun x5 =>
asrt (x5 = false) <|
(show Option ((List GEnt)) from
d_ref04_Start_L0 a1 n (0 : Int) (([] : List GEnt) : List GEnt)).bind <| fun y4_2 =>
some (((⟨a1, y4_2, [], [], [], 0⟩ : GState) : GState), (0 : Int))
theorem d_ref04_Start_c {n : Nat} {a1 : GMaster} {r : GState × Int} (h0 : d_ref04_Start n a1 = some r) : PP Tryz.prog 13 [.agg (GMaster.av a1)] (fun y => y = .tup [.agg (GState.av r.1), int r.2]) := by
  unfold d_ref04_Start at h0
  refine pp_of_pc (R0 := fun y H => Cv (frzH H) y (.tup [.agg (GState.av r.1), int r.2])) ?_ (fun y H hc => ⟨_, rfl, .tup (pvl2 ((fun (a : GState) => PV.agg (GState.pvc a)) (r.1)) (pvI (r.2))), hc⟩)
  refine pcw (c := _) Tryz.func13 rfl rfl ?_; intro Q hret hnorm
  refine tc tbk 2 (.mk ?_)
  refine sB 1 fun v2 => ?_
  refine sA 2 z32 fun v3 => ?_
  refine tr tbk 6 (.mk ?_)
  obtain ⟨x4, e4, h0⟩ := bind_e h0
  refine sC cal34 (d_ref04_Check_c e4) ?_
  refine nb tbk h0 fun x5 h0 => ?_
  refine tr tbk 1 (.mk ?_)
  replace h0 := asrt_e h0
  obtain ⟨rfl, h0⟩ := h0
  refine tc tbk 5 (.mk ?_)
  refine sY (yv_build (cs := [int a1.Entities, int a1.Periods, lst 1 fI a1.Weights, lst 1 (fL 1 fI) a1.Methods, lst 1 (fL 1 fI) a1.Costs, .sc (.slice none 0 0), .sc (.slice none 0 0), .sc (.slice none 0 0), .sc (.slice none 0 0), int 0]) (ps := [(0, _)]) rfl pl32 z32 rfl (.cons rfl .nil) (by kernel_rfl)) ?_
  refine sA 3 z32 fun v6 => ?_
  refine sS ⟨32, 10, true, true, v6, [[int a1.Entities, int a1.Periods, lst 1 fI a1.Weights, lst 1 (fL 1 fI) a1.Methods, lst 1 (fL 1 fI) a1.Costs, .sc (.slice none 0 0), .sc (.slice none 0 0), .sc (.slice none 0 0), .sc (.slice none 0 0), int 0]]⟩ sh32 ?_
  refine tr tbk 5 (.mk ?_)
  refine sY (yv_len_sl rfl Tryz.underlying22 rfl (lst_len _)) ?_
  refine tr tbk 7 (.mk ?_)
  refine jn h0 [2, 3, 4] [2] (fun (a : (List GEnt)) (k : Nat) => []) (fun a k => [(3, ⟨32, 10, true, true, v6, [[int a1.Entities, int a1.Periods, lst 1 fI a1.Weights, lst 1 (fL 1 fI) a1.Methods, lst 1 (fL 1 fI) a1.Costs, .sl 11 k 0 a.length, .sc (.slice none 0 0), .sc (.slice none 0 0), .sc (.slice none 0 0), int 0]]⟩), (11, ⟨64, 8, true, true, k, a.map GEnt.av⟩)]) ⟨fun j7 h1 => ?_, ?_⟩
  refine tc tbk 1 (.mk ?_)
  refine c_nilcell 3 0 5 11 64 8 (rows := fun v8 => [[int a1.Entities, int a1.Periods, lst 1 fI a1.Weights, lst 1 (fL 1 fI) a1.Methods, lst 1 (fL 1 fI) a1.Costs, .sl 11 v8 0 0, .sc (.slice none 0 0), .sc (.slice none 0 0), .sc (.slice none 0 0), int 0]]) rfl rfl rfl rfl (fun _ => rfl) ?_; intro v8
  refine lp (fun n (a : Int × (List GEnt)) => d_ref04_Start_L0 a1 n a.1 a.2) ((0 : Int), (([] : List GEnt) : List GEnt)) v8 h1 [1, 2, 3, 4, 5] [1, 2] (fun (a : Int × (List GEnt)) (k : Nat) => [(6, int a.1)]) (fun a k => [(3, ⟨32, 10, true, true, v6, [[int a1.Entities, int a1.Periods, lst 1 fI a1.Weights, lst 1 (fL 1 fI) a1.Methods, lst 1 (fL 1 fI) a1.Costs, .sl 11 k 0 a.2.length, .sc (.slice none 0 0), .sc (.slice none 0 0), .sc (.slice none 0 0), int 0]]⟩), (11, ⟨64, 8, true, true, k, a.2.map GEnt.av⟩)]) (fun _ => rfl) ⟨leA, ?_⟩
  rintro n ⟨y0_1, y0_3⟩ w0_2 hm h1
  replace h1 : d_ref04_Start_L0 a1 (n + 1) y0_1 y0_3 = some _ := h1
  rw [d_ref04_Start_L0] at h1
  refine tc tbk 6 (.mk ?_)
  refine nb tbk h1 fun x9 h1 => ?_
  refine tr tbk 1 (.mk ?_)
  cases x9
  replace h1 := cf h1
  refine tc tbk 2 (.mk ?_)
  exact lf h1 w0_2 leA
  replace h1 := ct h1
  refine tc tbk 3 (.mk ?_)
  refine jn h1 [1, 2, 3, 4, 5, 6] [1, 2] (fun (a : (List GEnt)) (k : Nat) => []) (fun a k => [(3, ⟨32, 10, true, true, v6, [[int a1.Entities, int a1.Periods, lst 1 fI a1.Weights, lst 1 (fL 1 fI) a1.Methods, lst 1 (fL 1 fI) a1.Costs, .sl 11 k 0 a.length, .sc (.slice none 0 0), .sc (.slice none 0 0), .sc (.slice none 0 0), int 0]]⟩), (11, ⟨64, 8, true, true, k, a.map GEnt.av⟩)]) ⟨fun j10 h2 => ?_, ?_⟩
  refine tc tbk 2 (.mk ?_)
  refine c_draw [0, 1, 3, 0, 0, 16, 0, 64, 0, 256, 1023, 0, 4095] (fun i k => bif Nat.beq i 12 then (Nat.beq k 4 || Nat.beq k 5 || Nat.beq k 6 || Nat.beq k 7 || Nat.beq k 8 || Nat.beq k 9) else false) (fun i => bif Nat.beq i 2 then (some 4) else bif Nat.beq i 3 then (some 5) else bif Nat.beq i 5 then (some 6) else bif Nat.beq i 7 then (some 7) else bif Nat.beq i 9 then (some 8) else bif Nat.beq i 11 then (some 9) else bif Nat.beq i 12 then (some 9) else none) mixed (by kernel_rfl) ?_; intro C K hK
  refine dg_pure rfl (fun H hH => yv_move rfl rfl) ?_
  obtain ⟨x11, e11, h2⟩ := bnd_e h2
  refine dg_pure rfl (fun H hH => yv_mul rfl rfl rfl e11) ?_
  obtain ⟨p12, h2⟩ := asrt_e h2
  obtain ⟨x13, e13, h2⟩ := bnd_e h2
  have lx13 : x13.length = (Int.toNat x11) := by rw [← e13]; exact List.length_replicate
  refine dg_eff rfl rfl (fun H hH => yl_one (yl_make 4 (g := GPool.av) (z0 := ((⟨[], (⟨0, 0, 0⟩ : A3_Int)⟩ : GPool) : GPool)) (.one _) rfl Tryz.underlying61 bz46 by46 rfl rfl rfl p12 (.cons (.nil _) (.cons (.sc _) (.cons (.sc _) (.cons (.sc _) .nil)))) e13)) ?_; generalize C + 2 = v14
  obtain ⟨p15, h2⟩ := asrt_e h2
  obtain ⟨x16, e16, h2⟩ := bnd_e h2
  have lx16 : x16.length = (Int.toNat 17) := by rw [← e16]; exact List.length_replicate
  refine dg_eff rfl rfl (fun H hH => yl_one (yl_make 5 (g := fI) (z0 := (0 : Int)) (.one _) rfl Tryz.underlying22 bz3 by3 rfl rfl rfl p15 (.cons (.sc _) .nil) e16)) ?_; generalize C + 3 = v17
  refine dg_pure rfl (fun H hH => yv_move rfl rfl) ?_
  obtain ⟨p18, h2⟩ := asrt_e h2
  obtain ⟨x19, e19, h2⟩ := bnd_e h2
  have lx19 : x19.length = (Int.toNat (a1.Weights.length : Int)) := by rw [← e19]; exact List.length_replicate
  refine dg_eff rfl rfl (fun H hH => yl_one (yl_make 6 (g := GRoll.av) (z0 := ((⟨0, 0, 0, 0, 0, 0, 0, 0, 0, 0, 0⟩ : GRoll) : GRoll)) (.one _) rfl Tryz.underlying62 bz119 by119 rfl rfl rfl p18 (.cons (.sc _) (.cons (.sc _) (.cons (.sc _) (.cons (.sc _) (.cons (.sc _) (.cons (.sc _) (.cons (.sc _) (.cons (.sc _) (.cons (.sc _) (.cons (.sc _) (.cons (.sc _) .nil))))))))))) e19)) ?_; generalize C + 5 = v20
  refine dg_pure rfl (fun H hH => yv_move rfl rfl) ?_
  obtain ⟨p21, h2⟩ := asrt_e h2
  obtain ⟨x22, e22, h2⟩ := bnd_e h2
  have lx22 : x22.length = (Int.toNat (a1.Weights.length : Int)) := by rw [← e22]; exact List.length_replicate
  refine dg_eff rfl rfl (fun H hH => yl_one (yl_make 7 (g := fI) (z0 := (0 : Int)) (.one _) rfl Tryz.underlying22 bz3 by3 rfl rfl rfl p21 (.cons (.sc _) .nil) e22)) ?_; generalize C + 7 = v23
  refine dg_pure rfl (fun H hH => yv_move rfl rfl) ?_
  obtain ⟨p24, h2⟩ := asrt_e h2
  obtain ⟨x25, e25, h2⟩ := bnd_e h2
  have lx25 : x25.length = (Int.toNat (a1.Weights.length : Int)) := by rw [← e25]; exact List.length_replicate
  refine dg_eff rfl rfl (fun H hH => yl_one (yl_make 8 (g := fI) (z0 := (0 : Int)) (.one _) rfl Tryz.underlying22 bz3 by3 rfl rfl rfl p24 (.cons (.sc _) .nil) e25)) ?_; generalize C + 9 = v26
  refine dg_pure rfl (fun H hH => yv_build (cs := [int 1, boo false, .sl 4 v14 0 (Int.toNat x11), .sl 5 v17 0 (Int.toNat 17), .sl 6 v20 0 (Int.toNat (a1.Weights.length : Int)), .sl 7 v23 0 (Int.toNat (a1.Weights.length : Int)), .sl 8 v26 0 (Int.toNat (a1.Weights.length : Int)), .sc (.slice none 0 0)]) (ps := [(0, _), (2, _), (3, _), (4, _), (5, _), (6, _)]) rfl pl64 z64 rfl (.cons rfl (.cons rfl (.cons rfl (.cons rfl (.cons rfl (.cons rfl .nil)))))) (by kernel_rfl)) ?_
  refine dg_eff rfl rfl (fun H hH => yl_alloc1 9 rfl z64 rfl) ?_; generalize C + 11 = v27
  refine dg_store rfl rfl rfl (fun H hH => yl_ob (ob' := (⟨64, 8, true, true, v27, [[int 1, boo false, .sl 4 v14 0 (Int.toNat x11), .sl 5 v17 0 (Int.toNat 17), .sl 6 v20 0 (Int.toNat (a1.Weights.length : Int)), .sl 7 v23 0 (Int.toNat (a1.Weights.length : Int)), .sl 8 v26 0 (Int.toNat (a1.Weights.length : Int)), .sc (.slice none 0 0)]]⟩ : AObj)) (yl_store rfl sh64 rfl rfl ((hH _ rfl).trans rfl) rfl rfl rfl rfl rfl rfl) rfl) ?_
  refine dg_nil (hK _ ?_)
  refine tc tbk 5 (.mk ?_)
  refine jn h2 [1, 2, 3, 4, 5, 6, 7] [1, 2, 3, 4, 5, 6, 8, 11] (fun (a : (List Int)) (k : Unit) => []) (fun a k => [(7, ⟨3, 1, true, true, v23, a.map fI⟩), (9, ⟨64, 8, true, true, v27, [[int 1, boo false, .sl 4 v14 0 (Int.toNat x11), .sl 5 v17 0 (Int.toNat 17), .sl 6 v20 0 (Int.toNat (a1.Weights.length : Int)), .sl 7 v23 0 a.length, .sl 8 v26 0 (Int.toNat (a1.Weights.length : Int)), .sc (.slice none 0 0)]]⟩)]) ⟨fun j28 h3 => ?_, ?_⟩
  refine tc tbk 1 (.mk ?_)
  refine lp (fun n (a : Int × (List Int)) => d_ref04_Start_L1 a1 n a.1 a.2) ((0 : Int), (x22 : List Int)) () h3 [1, 2, 3, 4, 5, 6, 7] [1, 2, 3, 4, 5, 6, 8, 11] (fun (a : Int × (List Int)) (k : Unit) => [(8, int a.1)]) (fun a k => [(7, ⟨3, 1, true, true, v23, a.2.map fI⟩), (9, ⟨64, 8, true, true, v27, [[int 1, boo false, .sl 4 v14 0 (Int.toNat x11), .sl 5 v17 0 (Int.toNat 17), .sl 6 v20 0 (Int.toNat (a1.Weights.length : Int)), .sl 7 v23 0 a.2.length, .sl 8 v26 0 (Int.toNat (a1.Weights.length : Int)), .sc (.slice none 0 0)]]⟩)]) (fun _ => rfl) ⟨leH_kn ⟨⟨_, rfl, (.refl _)⟩, ⟨_, rfl, (.refl _)⟩, ⟨_, rfl, (.refl _)⟩, ⟨_, rfl, (.refl _)⟩, ⟨_, rfl, (.refl _)⟩, ⟨_, rfl, (.refl _)⟩, ⟨_, rfl, (.refl _)⟩, ⟨_, rfl, (.refl _)⟩, trivial⟩ ⟨⟨_, rfl, (.refl _)⟩, ⟨_, rfl, ⟨rfl, (.cons (.cons (.refl _) (.cons (.refl _) (.cons (.refl _) (.cons (.refl _) (.cons (.refl _) (.cons (cv_slen (Eq.symm lx22)) (.cons (.refl _) (.cons (.refl _) .nil)))))))) .nil)⟩⟩, ⟨_, rfl, (.refl _)⟩, ⟨_, rfl, (.refl _)⟩, ⟨_, rfl, (.refl _)⟩, ⟨_, rfl, (.refl _)⟩, ⟨_, rfl, (.refl _)⟩, ⟨_, rfl, (.refl _)⟩, ⟨_, rfl, (.refl _)⟩, ⟨_, rfl, (.refl _)⟩, trivial⟩, ?_⟩
  rintro n ⟨y1_1, y1_2⟩ _ hm h3
  replace h3 : d_ref04_Start_L1 a1 (n + 1) y1_1 y1_2 = some _ := h3
  rw [d_ref04_Start_L1] at h3
  refine tc tbk 5 (.mk ?_)
  refine nb tbk h3 fun x29 h3 => ?_
  refine tr tbk 1 (.mk ?_)
  cases x29
  replace h3 := cf h3
  refine tc tbk 2 (.mk ?_)
  exact lf h3 () leA
  replace h3 := ct h3
  refine tc tbk 8 (.mk ?_)
  obtain ⟨x30, e30, h3⟩ := bind_e h3
  refine sY (yv_ixO rfl Tryz.underlying22 sh3 rfl rfl rfl rfl rfl (Eq.symm rfl) (List.length_map _) e30) ?_
  obtain ⟨x31, e31, h3⟩ := bnd_e h3
  have fx31 := ix_set e30 e31; have lx31 := len_setV e31 (rfl : y1_2.length = y1_2.length)
  refine rsstore rfl rfl (yl_ob (ob' := (⟨3, 1, true, true, v23, x31.map fI⟩ : AObj)) (yl_store rfl sh3 rfl rfl rfl rfl rfl (ix_get e30) rfl rfl rfl) (ob_eq (map_setV e31))) ?_
  refine tr tbk 4 (.mk ?_)
  refine ni tbk h3 fun x32 h3 => ?_
  refine tr tbk 2 (.mk ?_)
  exact bk (x32, x31) () h3 (leH_kn ⟨⟨_, rfl, (.refl _)⟩, ⟨_, rfl, (.refl _)⟩, ⟨_, rfl, (.refl _)⟩, ⟨_, rfl, (.refl _)⟩, ⟨_, rfl, (.refl _)⟩, ⟨_, rfl, (.refl _)⟩, ⟨_, rfl, (.refl _)⟩, ⟨_, rfl, (.refl _)⟩, trivial⟩ ⟨⟨_, rfl, (.refl _)⟩, ⟨_, rfl, ⟨rfl, (.cons (.cons (.refl _) (.cons (.refl _) (.cons (.refl _) (.cons (.refl _) (.cons (.refl _) (.cons (cv_slen (Eq.symm lx31)) (.cons (.refl _) (.cons (.refl _) .nil)))))))) .nil)⟩⟩, ⟨_, rfl, (.refl _)⟩, ⟨_, rfl, (.refl _)⟩, ⟨_, rfl, (.refl _)⟩, ⟨_, rfl, (.refl _)⟩, ⟨_, rfl, (.refl _)⟩, ⟨_, rfl, (.refl _)⟩, ⟨_, rfl, (.refl _)⟩, ⟨_, rfl, (.refl _)⟩, trivial⟩)
  rintro y2_1 _ h2
  refine tc tbk 4 (.mk ?_)
  refine sY (yv_buildSlice (ps := [(0, _)]) (rows := [[int 1, boo false, .sl 4 v14 0 (Int.toNat x11), .sl 5 v17 0 (Int.toNat 17), .sl 6 v20 0 (Int.toNat (a1.Weights.length : Int)), .sl 7 v23 0 y2_1.length, .sl 8 v26 0 (Int.toNat (a1.Weights.length : Int)), .sc (.slice none 0 0)]]) rfl Tryz.underlying27 bz64 (.cons rfl .nil) (by kernel_rfl) rfl rfl rfl) ?_
  obtain ⟨x33, e33, h2⟩ := bnd_e h2
  obtain ⟨p34, h2⟩ := asrt_e h2
  refine rse rfl rfl rfl (Yield.frz 4 rfl (Yield.frz 5 rfl (Yield.frz 6 rfl (Yield.frz 7 rfl (Yield.frz 8 rfl (yl_appT (g := GEnt.av) (l := y0_3) (m := [(⟨1, false, x13, x16, x19, y2_1, x25, []⟩ : GEnt)]) .any rfl Tryz.underlying27 bz64 by64 rfl rfl rfl rfl rfl rfl rfl rfl rfl rfl (Eq.symm rfl) (CvLL.list (ys := [GEnt.av (⟨1, false, x13, x16, x19, y2_1, x25, []⟩ : GEnt)]) (.cons (cvl_to (.cons (.refl _) (.cons (.refl _) (.cons (cv_lst rfl rfl rfl rfl rfl (Eq.symm lx13)) (.cons (cv_lst rfl rfl rfl rfl rfl (Eq.symm lx16)) (.cons (cv_lst rfl rfl rfl rfl rfl (Eq.symm lx19)) (.cons (cv_lst rfl rfl rfl rfl rfl (Eq.symm rfl)) (.cons (cv_lst rfl rfl rfl rfl rfl (Eq.symm lx25)) (.cons (.nil _) .nil)))))))) (GEnt.av_eq _)) .nil)) GEnt.one e33 p34)))))) ?_; rintro _ _ ⟨v35, -, rfl, rfl⟩
  refine tr tbk 1 (.mk ?_)
  refine sS ⟨32, 10, true, true, v6, [[int a1.Entities, int a1.Periods, lst 1 fI a1.Weights, lst 1 (fL 1 fI) a1.Methods, lst 1 (fL 1 fI) a1.Costs, .sl 11 v35 0 x33.length, .sc (.slice none 0 0), .sc (.slice none 0 0), .sc (.slice none 0 0), int 0]]⟩ sh27 ?_
  refine tr tbk 2 (.mk ?_)
  exact lf h2 v35 leA
  rintro y3_2 w3_1 h1
  refine tc tbk 2 (.mk ?_)
  refine ni tbk h1 fun x36 h1 => ?_
  refine tr tbk 2 (.mk ?_)
  exact bk (x36, y3_2) w3_1 h1 leA
  rintro y4_2 w4_1 h0
  refine tc tbk 3 (.mk ?_)
  refine sS ⟨32, 10, true, true, v3, [[int a1.Entities, int a1.Periods, lst 1 fI a1.Weights, lst 1 (fL 1 fI) a1.Methods, lst 1 (fL 1 fI) a1.Costs, .sl 11 w4_1 0 y4_2.length, .sc (.slice none 0 0), .sc (.slice none 0 0), .sc (.slice none 0 0), int 0]]⟩ sh32 ?_
  refine tr tbk 2 (.mk ?_)
  obtain rfl := nxt_e h0
  refine wR hret (rC sh32 (rT .nil)) ?_
  exact CvL.tup (.cons (CvL.agg (.cons (.refl _) (.cons (.refl _) (.cons (.refl _) (.cons (.refl _) (.cons (.refl _) (.cons (cv_lst rfl rfl rfl rfl rfl (Eq.symm rfl)) (.cons (.nil _) (.cons (.nil _) (.cons (.nil _) (.cons (.refl _) .nil))))))))))) (.cons (.refl _) .nil))
def d_law00_Ops_L0 (a2 : List Int) : Nat → Option (Unit)
  | 0 => none
  | n + 1 =>
    (show Option (Bool) from
    bnd (decide (0 < (a2.length : Int))) fun x6 =>
    cond x6 (some (true : Bool)) (some (false : Bool))).bind <| fun y1_1 =>
    asrt (y1_1 = false) <|
    some ()
def d_law00_Ops (n : Nat) (a1 : GMaster) (a2 : List Int) : Option ((List GOp)) :=
(show Option (Unit) from
d_law00_Ops_L0 a2 n).bind <| fun _ =>
some (([] : List GOp))
theorem d_law00_Ops_c {n : Nat} {a1 : GMaster} {a2 : List Int} {r : (List GOp)} (h0 : d_law00_Ops n a1 a2 = some r) : PP Tryz.prog 14 [.agg (GMaster.av a1), lst 1 fI a2] (fun y => y = lst 9 GOp.av r) := by
  unfold d_law00_Ops at h0
  refine pp_of_pc (R0 := fun y H => Cv (frzH H) y (lst 9 GOp.av r)) ?_ (fun y H hc => ⟨_, rfl, (pvLs GOp.pvc) r, hc⟩)
  refine pcw (c := _) Tryz.func14 rfl rfl ?_; intro Q hret hnorm
  refine tc tbk 2 (.mk ?_)
  refine sB 1 fun v3 => ?_
  refine tr tbk 11 (.mk ?_)
  refine jn h0 [4, 5] [] (fun (a : Unit) (k : Unit) => []) (fun a k => []) ⟨fun j4 h1 => ?_, ?_⟩
  refine tc tbk 1 (.mk ?_)
  refine lp (fun n (a : Unit) => d_law00_Ops_L0 a2 n) () () h1 [1, 2, 4, 5, 6] [1] (fun (a : Unit) (k : Unit) => []) (fun a k => []) (fun _ => rfl) ⟨leA, ?_⟩
  rintro n _ _ hm h1
  replace h1 : d_law00_Ops_L0 a2 (n + 1) = some _ := h1
  rw [d_law00_Ops_L0] at h1
  refine tc tbk 2 (.mk ?_)
  refine jn h1 [1, 2, 4, 5, 6] [1] (fun (a : Bool) (k : Unit) => [(14, boo a)]) (fun a k => []) ⟨fun j5 h2 => ?_, ?_⟩
  refine tc tbk 3 (.mk ?_)
  refine sY (yv_len_sl rfl Tryz.underlying22 rfl (lst_len _)) ?_
  refine nb tbk h2 fun x6 h2 => ?_
  refine tr tbk 1 (.mk ?_)
  cases x6
  replace h2 := cf h2
  refine tr tbk 4 (.mk ?_)
  exact lf h2 () leA
  replace h2 := ct h2
  refine tr tbk 1 (.mk ?_)
  refine sY (yv_to (y := boo true) (yv_lss rfl rfl rfl) (congrArg boo (by decide))) ?_
  refine tr tbk 2 (.mk ?_)
  exact lf h2 () leA
  rintro y1_1 _ h1
  replace h1 := asrt_e h1
  obtain ⟨rfl, h1⟩ := h1
  refine tc tbk 2 (.mk ?_)
  exact lf h1 () leA
  rintro _ _ h0
  refine tc tbk 5 (.mk ?_)
  obtain rfl := nxt_e h0
  refine wR hret (rT .nil) ?_
  exact (.nil _)
def d_law00_State_L0 (x7 : (List GOp)) : Nat → Option (Unit)
  | 0 => none
  | n + 1 =>
    bnd (decide (0 < (x7.length : Int))) fun x9 =>
    asrt (x9 = false) <|
    some ()
def d_law00_State (n : Nat) (a1 : GMaster) (a2 : List Int) : Option (GState) :=
(d_ref04_Start n a1).bind fun x5 =>
(d_law00_Ops n a1 a2).bind fun x7 =>
(show Option (Unit) from
d_law00_State_L0 x7 n).bind <| fun _ =>
some ((x5.1 : GState))
theorem d_law00_State_c {n : Nat} {a1 : GMaster} {a2 : List Int} {r : GState} (h0 : d_law00_State n a1 a2 = some r) : PP Tryz.prog 5 [.agg (GMaster.av a1), lst 1 fI a2] (fun y => y = .agg (GState.av r)) := by
  unfold d_law00_State at h0
  refine pp_of_pc (R0 := fun y H => Cv (frzH H) y (.agg (GState.av r))) ?_ (fun y H hc => ⟨_, rfl, (fun (a : GState) => PV.agg (GState.pvc a)) r, hc⟩)
  refine pcw (c := _) Tryz.func5 rfl rfl ?_; intro Q hret hnorm
  refine tc tbk 2 (.mk ?_)
  refine sB 1 fun v3 => ?_
  refine sA 2 z32 fun v4 => ?_
  refine tr tbk 4 (.mk ?_)
  obtain ⟨x5, e5, h0⟩ := bind_e h0
  refine sC cal13 (d_ref04_Start_c e5) ?_
  refine tr tbk 3 (.mk ?_)
  refine sA 3 z32 fun v6 => ?_
  refine sS ⟨32, 10, true, true, v6, [(GState.av x5.1)]⟩ sh32 ?_
  refine tr tbk 6 (.mk ?_)
  obtain ⟨x7, e7, h0⟩ := bind_e h0
  refine sC cal14 (d_law00_Ops_c e7) ?_
  refine tr tbk 7 (.mk ?_)
  refine jn h0 [4, 5] [2, 3] (fun (a : Unit) (k : Unit) => []) (fun a k => []) ⟨fun j8 h1 => ?_, ?_⟩
  refine tc tbk 1 (.mk ?_)
  refine lp (fun n (a : Unit) => d_law00_State_L0 x7 n) () () h1 [4, 5, 7, 8] [2, 3] (fun (a : Unit) (k : Unit) => []) (fun a k => []) (fun _ => rfl) ⟨leA, ?_⟩
  rintro n _ _ hm h1
  replace h1 : d_law00_State_L0 x7 (n + 1) = some _ := h1
  rw [d_law00_State_L0] at h1
  refine tc tbk 5 (.mk ?_)
  refine sY (yv_len_sl rfl Tryz.underlying53 rfl (lst_len _)) ?_
  refine nb tbk h1 fun x9 h1 => ?_
  refine tr tbk 1 (.mk ?_)
  replace h1 := asrt_e h1
  obtain ⟨rfl, h1⟩ := h1
  refine tc tbk 2 (.mk ?_)
  exact lf h1 () leA
  rintro _ _ h0
  refine tc tbk 3 (.mk ?_)
  refine sS ⟨32, 10, true, true, v4, [(GState.av x5.1)]⟩ sh32 ?_
  refine tr tbk 1 (.mk ?_)
  obtain rfl := nxt_e h0
  refine wR hret (rC sh32 .nil) ?_
  exact .refl _
def d_stock_is (a1 : GState) (a2 : Int) (a3 : Int) : Option (Bool) :=
(show Option (Bool) from
bnd (decide (a2 < 0)) fun x6 =>
cond x6 (some (true : Bool)) (bnd (decide (a2 ≥ (a1.Ents.length : Int))) fun x7 =>
cond x7 (some (true : Bool)) (bnd (decide (a3 < 0)) fun x8 =>
cond x8 (some (true : Bool)) (bnd (decide (a3 ≥ (a1.Master.Weights.length : Int))) fun x9 =>
some (x9 : Bool))))).bind <| fun y0_1 =>
cond y0_1 (some ((false : Bool))) ((ix a1.Ents a2).bind fun x10 =>
(show Option (Bool) from
bnd (w64 ((a1.Master.Weights.length : Int) * 2)) fun x13 =>
bnd (decide ((x10.Pools.length : Int) ≥ x13)) fun x14 =>
cond x14 (bnd (decide ((x10.Rolls.length : Int) ≥ (a1.Master.Weights.length : Int))) fun x15 =>
cond x15 (bnd (decide (a2 < (a1.Master.Methods.length : Int))) fun x16 =>
cond x16 (bnd (decide (a2 < (a1.Master.Costs.length : Int))) fun x17 =>
cond x17 ((ix a1.Master.Methods a2).bind fun x18 =>
bnd (decide ((x18.length : Int) ≥ (a1.Master.Weights.length : Int))) fun x19 =>
cond x19 ((ix a1.Master.Costs a2).bind fun x20 =>
bnd (decide ((x20.length : Int) ≥ (a1.Master.Weights.length : Int))) fun x21 =>
some (x21 : Bool)) (some (false : Bool))) (some (false : Bool))) (some (false : Bool))) (some (false : Bool))) (some (false : Bool))).bind <| fun y1_1 =>
some ((y1_1 : Bool)))
theorem d_stock_is_c {a1 : GState} {a2 : Int} {a3 : Int} {r : Bool} (h0 : d_stock_is a1 a2 a3 = some r) : PP Tryz.prog 22 [.agg (GState.av a1), int a2, int a3] (fun y => y = boo r) := by
  unfold d_stock_is at h0
  refine pp_of_pc (R0 := fun y H => Cv (frzH H) y (boo r)) ?_ (fun y H hc => ⟨_, rfl, pvB r, hc⟩)
  refine pcw (c := _) Tryz.func22 rfl rfl ?_; intro Q hret hnorm
  refine tc tbk 2 (.mk ?_)
  refine sB 1 fun v4 => ?_
  refine tr tbk 4 (.mk ?_)
  refine jn h0 [1, 3, 6] [1] (fun (a : Bool) (k : Unit) => [(29, boo a)]) (fun a k => []) ⟨fun j5 h1 => ?_, ?_⟩
  refine tc tbk 2 (.mk ?_)
  refine nb tbk h1 fun x6 h1 => ?_
  refine tr tbk 1 (.mk ?_)
  cases x6
  replace h1 := cf h1
  refine tr tbk 3 (.mk ?_)
  refine sY (yv_len_sl rfl Tryz.underlying27 rfl (lst_len _)) ?_
  refine nb tbk h1 fun x7 h1 => ?_
  refine tr tbk 2 (.mk ?_)
  cases x7
  replace h1 := cf h1
  refine tr tbk 1 (.mk ?_)
  refine nb tbk h1 fun x8 h1 => ?_
  refine tr tbk 2 (.mk ?_)
  cases x8
  replace h1 := cf h1
  refine tr tbk 4 (.mk ?_)
  refine sY (yv_len_sl rfl Tryz.underlying22 rfl (lst_len _)) ?_
  refine nb tbk h1 fun x9 h1 => ?_
  refine tr tbk 2 (.mk ?_)
  exact lf h1 () leA
  replace h1 := ct h1
  refine tr tbk 8 (.mk ?_)
  exact lf h1 () leA
  replace h1 := ct h1
  refine tr tbk 12 (.mk ?_)
  exact lf h1 () leA
  replace h1 := ct h1
  refine tr tbk 19 (.mk ?_)
  exact lf h1 () leA
  rintro y0_1 _ h0
  cases y0_1
  replace h0 := cf h0
  refine tc tbk 3 (.mk ?_)
  refine c_drawE [0, 1, 0, 7, 15, 0, 32, 96, 224, 0, 543, 2047] (rl [(0, [1]), (1, [1]), (5, [1]), (6, [1]), (7, [1])] []) (fun i => [1]) (rl [(9, false), (10, false)] true) [0, 1, 2, 3, 4, 5, 6, 7, 8, 9, 10, 11] mixed (by kernel_rfl) ?_; intro K hK
  refine eF fo32_1 ?_
  refine eL sh27 ?_
  refine eM ?_
  obtain ⟨x10, e10, h0⟩ := bind_e h0
  refine eP (fun H hH => yv_to (y := .pp [int x10.Now, boo x10.Closed, lst 4 GPool.av x10.Pools, lst 1 fI x10.Bal, lst 11 GRoll.av x10.Rolls, lst 1 fI x10.Prices, lst 1 fI x10.Down, lst 8 GEnt.av x10.Ahead]) (yv_ixT rfl Tryz.underlying27 sh64 rfl rfl e10) (congrArg AV.pp (GEnt.av_eq x10))) ?_
  refine eP (fun H hH => yv_load rfl sh64 rfl (.pp _) rfl) ?_
  refine eF fo32_0 ?_
  refine eF fo25_2 ?_
  refine eL sh22 ?_
  refine eP (fun H hH => yv_len_sl rfl Tryz.underlying22 rfl (lst_len _)) ?_
  refine de_eff rfl rfl rfl rfl (yl_alloc 2 .any rfl z64 rfl) (by rintro _ _ ⟨v11, -, rfl, rfl⟩; exact ⟨rfl, trivial⟩) ?_; rintro _ _ ⟨v11, -, rfl, rfl⟩
  refine de_eff0 rfl rfl rfl rfl (Yield.weak (yl_ob (ob' := (⟨64, 8, true, true, v11, [[int x10.Now, boo x10.Closed, lst 4 GPool.av x10.Pools, lst 1 fI x10.Bal, lst 11 GRoll.av x10.Rolls, lst 1 fI x10.Prices, lst 1 fI x10.Down, lst 8 GEnt.av x10.Ahead]]⟩ : AObj)) (yl_store rfl sh64 rfl rfl rfl rfl rfl rfl rfl rfl rfl) rfl) (fun _ h => h) (fun _ _ => trivial)) (by rintro _ _ ⟨rfl, rfl⟩; exact ⟨rfl, trivial⟩) ?_; rintro _ _ ⟨rfl, rfl⟩
  refine eA ?_
  refine de_nil (hK _ ?_)
  refine tc tbk 1 (.mk ?_)
  refine jn h0 [] [] (fun (a : Bool) (k : Unit) => [(6, boo a)]) (fun a k => []) ⟨fun j12 h1 => ?_, ?_⟩
  refine tc tbk 3 (.mk ?_)
  refine sY (yv_len_sl rfl Tryz.underlying61 rfl (lst_len _)) ?_
  refine tr tbk 1 (.mk ?_)
  refine ni tbk h1 fun x13 h1 => ?_
  refine nb tbk h1 fun x14 h1 => ?_
  refine tr tbk 1 (.mk ?_)
  cases x14
  replace h1 := cf h1
  refine tr tbk 46 (.mk ?_)
  exact lf h1 () leA
  replace h1 := ct h1
  refine tr tbk 2 (.mk ?_)
  refine sY (yv_len_sl rfl Tryz.underlying62 rfl (lst_len _)) ?_
  refine tr tbk 1 (.mk ?_)
  refine nb tbk h1 fun x15 h1 => ?_
  refine tr tbk 2 (.mk ?_)
  cases x15
  replace h1 := cf h1
  refine tr tbk 39 (.mk ?_)
  exact lf h1 () leA
  replace h1 := ct h1
  refine tr tbk 4 (.mk ?_)
  refine sY (yv_len_sl rfl Tryz.underlying23 rfl (lst_len _)) ?_
  refine nb tbk h1 fun x16 h1 => ?_
  refine tr tbk 2 (.mk ?_)
  cases x16
  replace h1 := cf h1
  refine tr tbk 31 (.mk ?_)
  exact lf h1 () leA
  replace h1 := ct h1
  refine tr tbk 4 (.mk ?_)
  refine sY (yv_len_sl rfl Tryz.underlying23 rfl (lst_len _)) ?_
  refine nb tbk h1 fun x17 h1 => ?_
  refine tr tbk 2 (.mk ?_)
  cases x17
  replace h1 := cf h1
  refine tr tbk 23 (.mk ?_)
  exact lf h1 () leA
  replace h1 := ct h1
  refine tr tbk 4 (.mk ?_)
  obtain ⟨x18, e18, h1⟩ := bind_e h1
  refine sY (yv_ixT rfl Tryz.underlying23 sh22 rfl rfl e18) ?_
  refine tr tbk 1 (.mk ?_)
  refine sY (yv_len_sl rfl Tryz.underlying22 rfl (lst_len _)) ?_
  refine tr tbk 1 (.mk ?_)
  refine nb tbk h1 fun x19 h1 => ?_
  refine tr tbk 2 (.mk ?_)
  cases x19
  replace h1 := cf h1
  refine tr tbk 12 (.mk ?_)
  exact lf h1 () leA
  replace h1 := ct h1
  refine tr tbk 4 (.mk ?_)
  obtain ⟨x20, e20, h1⟩ := bind_e h1
  refine sY (yv_ixT rfl Tryz.underlying23 sh22 rfl rfl e20) ?_
  refine tr tbk 1 (.mk ?_)
  refine sY (yv_len_sl rfl Tryz.underlying22 rfl (lst_len _)) ?_
  refine tr tbk 1 (.mk ?_)
  refine nb tbk h1 fun x21 h1 => ?_
  refine tr tbk 3 (.mk ?_)
  exact lf h1 () leA
  rintro y1_1 _ h0
  obtain rfl := nxt_e h0
  refine wR hret (rT .nil) ?_
  exact .refl _
  replace h0 := ct h0
  refine tc tbk 5 (.mk ?_)
  obtain rfl := nxt_e h0
  refine wR hret (rT .nil) ?_
  exact .refl _
def d_stock_in (a1 : Int) (a2 : Int) (a3 : Int) : Option (Bool) :=
(show Option (Bool) from
bnd (decide (a1 ≥ a2)) fun x5 =>
cond x5 (bnd (decide (a1 ≤ a3)) fun x6 =>
some (x6 : Bool)) (some (false : Bool))).bind <| fun y0_1 =>
some ((y0_1 : Bool))
theorem d_stock_in_c {a1 : Int} {a2 : Int} {a3 : Int} {r : Bool} (h0 : d_stock_in a1 a2 a3 = some r) : PP Tryz.prog 41 [int a1, int a2, int a3] (fun y => y = boo r) := by
  unfold d_stock_in at h0
  refine pp_of_pc (R0 := fun y H => Cv (frzH H) y (boo r)) ?_ (fun y H hc => ⟨_, rfl, pvB r, hc⟩)
  refine pcw (c := _) Tryz.func41 rfl rfl ?_; intro Q hret hnorm
  refine tc tbk 5 (.mk ?_)
  refine jn h0 [] [] (fun (a : Bool) (k : Unit) => [(6, boo a)]) (fun a k => []) ⟨fun j4 h1 => ?_, ?_⟩
  refine tc tbk 3 (.mk ?_)
  refine nb tbk h1 fun x5 h1 => ?_
  refine tr tbk 1 (.mk ?_)
  cases x5
  replace h1 := cf h1
  refine tr tbk 6 (.mk ?_)
  exact lf h1 () leA
  replace h1 := ct h1
  refine tr tbk 2 (.mk ?_)
  refine nb tbk h1 fun x6 h1 => ?_
  refine tr tbk 3 (.mk ?_)
  exact lf h1 () leA
  rintro y0_1 _ h0
  obtain rfl := nxt_e h0
  refine wR hret (rT .nil) ?_
  exact .refl _
def d_stock_place (a1 : GState) (a2 : Int) (a3 : Int) (a4 : Int) : Option (Int) :=
(show Option (Bool) from
(d_stock_is a1 a2 a3).bind fun x7 =>
bnd (!x7) fun x8 =>
cond x8 (some (true : Bool)) ((d_stock_in a4 0 1).bind fun x9 =>
bnd (!x9) fun x10 =>
some (x10 : Bool))).bind <| fun y0_1 =>
cond y0_1 (some (((-1) : Int))) (bnd (w64 (a3 * 2)) fun x11 =>
bnd (w64 (x11 + a4)) fun x12 =>
some ((x12 : Int)))
theorem d_stock_place_c {a1 : GState} {a2 : Int} {a3 : Int} {a4 : Int} {r : Int} (h0 : d_stock_place a1 a2 a3 a4 = some r) : PP Tryz.prog 16 [.agg (GState.av a1), int a2, int a3, int a4] (fun y => y = int r) := by
  unfold d_stock_place at h0
  refine pp_of_pc (R0 := fun y H => Cv (frzH H) y (int r)) ?_ (fun y H hc => ⟨_, rfl, pvI r, hc⟩)
  refine pcw (c := _) Tryz.func16 rfl rfl ?_; intro Q hret hnorm
  refine tc tbk 2 (.mk ?_)
  refine sB 1 fun v5 => ?_
  refine tr tbk 4 (.mk ?_)
  refine jn h0 [2, 3, 8] [] (fun (a : Bool) (k : Unit) => [(18, boo a)]) (fun a k => []) ⟨fun j6 h1 => ?_, ?_⟩
  refine tc tbk 4 (.mk ?_)
  obtain ⟨x7, e7, h1⟩ := bind_e h1
  refine sC cal22 (d_stock_is_c e7) ?_
  refine nb tbk h1 fun x8 h1 => ?_
  refine tr tbk 1 (.mk ?_)
  cases x8
  replace h1 := cf h1
  refine tr tbk 1 (.mk ?_)
  obtain ⟨x9, e9, h1⟩ := bind_e h1
  refine sC cal41 (d_stock_in_c e9) ?_
  refine nb tbk h1 fun x10 h1 => ?_
  refine tr tbk 2 (.mk ?_)
  exact lf h1 () leA
  replace h1 := ct h1
  refine tr tbk 5 (.mk ?_)
  exact lf h1 () leA
  rintro y0_1 _ h0
  cases y0_1
  replace h0 := cf h0
  refine tc tbk 5 (.mk ?_)
  refine ni tbk h0 fun x11 h0 => ?_
  refine tr tbk 1 (.mk ?_)
  refine ni tbk h0 fun x12 h0 => ?_
  refine tr tbk 2 (.mk ?_)
  obtain rfl := nxt_e h0
  refine wR hret (rT .nil) ?_
  exact .refl _
  replace h0 := ct h0
  refine tc tbk 5 (.mk ?_)
  obtain rfl := nxt_e h0
  refine wR hret (rT .nil) ?_
  exact .refl _
def d_pool_with (a1 : GPool) (a2 : List GLayer) : Option (GPool) :=
some (((⟨a2, a1.Pend⟩ : GPool) : GPool))
theorem d_pool_with_c {a1 : GPool} {a2 : List GLayer} {r : GPool} (h0 : d_pool_with a1 a2 = some r) : PP Tryz.prog 70 [.agg (GPool.av a1), lst 3 GLayer.av a2] (fun y => y = .agg (GPool.av r)) := by
  unfold d_pool_with at h0
  refine pp_of_pc (R0 := fun y H => Cv (frzH H) y (.agg (GPool.av r))) ?_ (fun y H hc => ⟨_, rfl, (fun (a : GPool) => PV.agg (GPool.pvc a)) r, hc⟩)
  refine pcw (c := _) Tryz.func70 rfl rfl ?_; intro Q hret hnorm
  refine tc tbk 2 (.mk ?_)
  refine sB 1 fun v3 => ?_
  refine sA 2 z46 fun v4 => ?_
  refine tr tbk 5 (.mk ?_)
  refine sS ⟨46, 4, true, true, v3, [[lst 3 GLayer.av a2, int a1.Pend.a0, int a1.Pend.a1, int a1.Pend.a2]]⟩ sh43 ?_
  refine tr tbk 4 (.mk ?_)
  refine sS ⟨46, 4, true, true, v4, [[lst 3 GLayer.av a2, int a1.Pend.a0, int a1.Pend.a1, int a1.Pend.a2]]⟩ sh46 ?_
  refine tr tbk 1 (.mk ?_)
  obtain rfl := nxt_e h0
  refine wR hret (rC sh46 .nil) ?_
  exact .refl _
def d_pool_own (a1 : GPool) : Option (GPool) :=
asrt (a1.Layers.length ≤ 68719476736) <|
(show Option ((Unit)) from
some ()).bind <| fun _ =>
some ((a1 : GPool))
theorem d_pool_own_c {a1 : GPool} {r : GPool} (h0 : d_pool_own a1 = some r) : PP Tryz.prog 43 [.agg (GPool.av a1)] (fun y => y = .agg (GPool.av r)) := by
  unfold d_pool_own at h0
  refine pp_of_pc (R0 := fun y H => Cv (frzH H) y (.agg (GPool.av r))) ?_ (fun y H hc => ⟨_, rfl, (fun (a : GPool) => PV.agg (GPool.pvc a)) r, hc⟩)
  refine pcw (c := _) Tryz.func43 rfl rfl ?_; intro Q hret hnorm
  refine tc tbk 2 (.mk ?_)
  refine sB 1 fun v2 => ?_
  refine sA 2 z46 fun v3 => ?_
  refine tr tbk 2 (.mk ?_)
  refine c_drawE [0, 0, 2, 6, 15, 31] (rl [(0, [1]), (1, [1]), (2, [1])] []) (rl [(4, []), (5, [])] [1]) (rl [(3, false), (4, false), (5, false)] true) [0, 1, 2, 3, 4, 5] mixed (by kernel_rfl) ?_; intro K hK
  refine eL sh46 ?_
  refine eF fo46_0 ?_
  refine eL sh43 ?_
  obtain ⟨p4, h0⟩ := asrt_e h0
  refine de_eff rfl rfl rfl rfl (yl_call rfl rfl (.cons rfl .nil) cal29 (pc_cv (clone29_c (id := 3) (l := a1.Layers) rfl p4) (.cons (.refl _) .nil))) (by rintro _ _ ⟨v5, rfl, rfl⟩; exact ⟨rfl, trivial⟩) ?_; rintro _ _ ⟨v5, rfl, rfl⟩
  obtain ⟨j6, h1, h0⟩ := bind_e h0
  refine de_eff (Out := fun y H' => (∃ (a : Unit) (k : Unit), a = j6 ∧ y = .agg [.sl 3 v5 0 a1.Layers.length, int a1.Pend.a0, int a1.Pend.a1, int a1.Pend.a2] ∧ H' = hk [(1, ⟨46, 4, true, true, v2, [[lst 3 GLayer.av a1.Layers, int a1.Pend.a0, int a1.Pend.a1, int a1.Pend.a2]]⟩), (2, ⟨46, 4, true, true, v3, [[.sc (.slice none 0 0), int 0, int 0, int 0]]⟩), (3, ⟨38, 3, true, true, v5, a1.Layers.map GLayer.av⟩)])) rfl rfl rfl rfl (yl_call rfl rfl (.cons rfl (.cons rfl .nil)) cal70 ?_) (by rintro y _ ⟨_, _, rfl, hc, rfl⟩ <;> exact trivial) ?_
  refine pcw (c := _) Tryz.func70 rfl rfl ?_; intro Q hret hnorm
  refine tc tbk 2 (.mk ?_)
  refine sB 4 fun v7 => ?_
  refine sA 5 z46 fun v8 => ?_
  refine tr tbk 5 (.mk ?_)
  refine sS ⟨46, 4, true, true, v7, [[.sl 3 v5 0 a1.Layers.length, int a1.Pend.a0, int a1.Pend.a1, int a1.Pend.a2]]⟩ sh43 ?_
  refine tr tbk 4 (.mk ?_)
  refine sS ⟨46, 4, true, true, v8, [[.sl 3 v5 0 a1.Layers.length, int a1.Pend.a0, int a1.Pend.a1, int a1.Pend.a2]]⟩ sh46 ?_
  refine tr tbk 1 (.mk ?_)
  obtain rfl := nxt_e h1
  refine w_ret (hret _ _ (hk [(1, ⟨46, 4, true, true, v2, [[lst 3 GLayer.av a1.Layers, int a1.Pend.a0, int a1.Pend.a1, int a1.Pend.a2]]⟩), (2, ⟨46, 4, true, true, v3, [[.sc (.slice none 0 0), int 0, int 0, int 0]]⟩), (3, ⟨38, 3, true, true, v5, a1.Layers.map GLayer.av⟩)]) (.cell rfl (.pt rfl rfl rfl) sh46 rfl .nil) (HK.le ⟨rfl, rfl, rfl, trivial⟩) ?_)
  exact ⟨(), (), rfl, rfl, rfl⟩
  rintro y _ ⟨_, _, rfl, hc, rfl⟩
  subst hc
  refine de_eff0 rfl rfl rfl rfl (Yield.weak (yl_ob (ob' := (⟨46, 4, true, true, v3, [[.sl 3 v5 0 a1.Layers.length, int a1.Pend.a0, int a1.Pend.a1, int a1.Pend.a2]]⟩ : AObj)) (yl_store rfl sh46 rfl rfl rfl rfl rfl rfl rfl rfl rfl) rfl) (fun _ h => h) (fun _ _ => trivial)) (by rintro _ _ ⟨rfl, rfl⟩; exact trivial) ?_; rintro _ _ ⟨rfl, rfl⟩
  refine de_nil (hK _ ?_)
  obtain rfl := nxt_e h0
  refine wR hret (rC sh46 .nil) ?_
  exact (CvL.agg (.cons (cv_lst rfl rfl rfl rfl rfl (Eq.symm rfl)) (.cons (.refl _) (.cons (.refl _) (.cons (.refl _) .nil)))))
def d_stdcost_rate_fits (a1 : Int) : Option (Bool) :=
(show Option (Bool) from
bnd (decide (a1 ≥ 0)) fun x3 =>
cond x3 (bnd (decide (a1 ≤ 1073741824)) fun x4 =>
some (x4 : Bool)) (some (false : Bool))).bind <| fun y0_1 =>
some ((y0_1 : Bool))
theorem d_stdcost_rate_fits_c {a1 : Int} {r : Bool} (h0 : d_stdcost_rate_fits a1 = some r) : PP Tryz.prog 239 [int a1] (fun y => y = boo r) := by
  unfold d_stdcost_rate_fits at h0
  refine pp_of_pc (R0 := fun y H => Cv (frzH H) y (boo r)) ?_ (fun y H hc => ⟨_, rfl, pvB r, hc⟩)
  refine pcw (c := _) Tryz.func239 rfl rfl ?_; intro Q hret hnorm
  refine tc tbk 5 (.mk ?_)
  refine jn h0 [] [] (fun (a : Bool) (k : Unit) => [(2, boo a)]) (fun a k => []) ⟨fun j2 h1 => ?_, ?_⟩
  refine tc tbk 2 (.mk ?_)
  refine nb tbk h1 fun x3 h1 => ?_
  refine tr tbk 1 (.mk ?_)
  cases x3
  replace h1 := cf h1
  refine tr tbk 5 (.mk ?_)
  exact lf h1 () leA
  replace h1 := ct h1
  refine tr tbk 1 (.mk ?_)
  refine nb tbk h1 fun x4 h1 => ?_
  refine tr tbk 3 (.mk ?_)
  exact lf h1 () leA
  rintro y0_1 _ h0
  obtain rfl := nxt_e h0
  refine wR hret (rT .nil) ?_
  exact .refl _
def d_money_Wide (a1 : Int) (a2 : Int) : Option (Int × Int) :=
bnd (wu64 a1) fun x3 =>
bnd (wu64 a2) fun x4 =>
bnd (x3.tmod 4294967296) fun x5 =>
bnd (x4.tmod 4294967296) fun x6 =>
bnd (wu64 (x5 * x6)) fun x7 =>
bnd (wu64 (x3.tdiv 4294967296)) fun x8 =>
bnd (x4.tmod 4294967296) fun x9 =>
bnd (wu64 (x8 * x9)) fun x10 =>
bnd (x3.tmod 4294967296) fun x11 =>
bnd (wu64 (x4.tdiv 4294967296)) fun x12 =>
bnd (wu64 (x11 * x12)) fun x13 =>
bnd (wu64 (x3.tdiv 4294967296)) fun x14 =>
bnd (wu64 (x4.tdiv 4294967296)) fun x15 =>
bnd (wu64 (x14 * x15)) fun x16 =>
bnd (wu64 (x7.tdiv 4294967296)) fun x18 =>
bnd (x10.tmod 4294967296) fun x19 =>
bnd (wu64 (x18 + x19)) fun x20 =>
bnd (x13.tmod 4294967296) fun x21 =>
bnd (wu64 (x20 + x21)) fun x22 =>
bnd (wu64 (x10.tdiv 4294967296)) fun x23 =>
bnd (wu64 (x16 + x23)) fun x24 =>
bnd (wu64 (x13.tdiv 4294967296)) fun x25 =>
bnd (wu64 (x24 + x25)) fun x26 =>
bnd (wu64 (x22.tdiv 4294967296)) fun x27 =>
bnd (wu64 (x26 + x27)) fun x28 =>
bnd (wu64 (x3 * x4)) fun x29 =>
some ((x28 : Int), (x29 : Int))
theorem d_money_Wide_c {a1 : Int} {a2 : Int} {r : Int × Int} (h0 : d_money_Wide a1 a2 = some r) : PP Tryz.prog 222 [int a1, int a2] (fun y => y = .tup [.sc (.int .u64 r.1), .sc (.int .u64 r.2)]) := by
  unfold d_money_Wide at h0
  refine pp_of_pc (R0 := fun y H => Cv (frzH H) y (.tup [.sc (.int .u64 r.1), .sc (.int .u64 r.2)])) ?_ (fun y H hc => ⟨_, rfl, .tup (pvl2 ((pvK .u64) (r.1)) ((pvK .u64) (r.2))), hc⟩)
  refine pcw (c := _) Tryz.func222 rfl rfl ?_; intro Q hret hnorm
  refine tc tbk 8 (.mk ?_)
  refine ni tbk h0 fun x3 h0 => ?_
  refine tr tbk 1 (.mk ?_)
  refine ni tbk h0 fun x4 h0 => ?_
  refine tr tbk 6 (.mk ?_)
  refine ni tbk h0 fun x5 h0 => ?_
  refine tr tbk 1 (.mk ?_)
  refine ni tbk h0 fun x6 h0 => ?_
  refine ni tbk h0 fun x7 h0 => ?_
  refine tr tbk 1 (.mk ?_)
  refine ni tbk h0 fun x8 h0 => ?_
  refine tr tbk 1 (.mk ?_)
  refine ni tbk h0 fun x9 h0 => ?_
  refine ni tbk h0 fun x10 h0 => ?_
  refine tr tbk 1 (.mk ?_)
  refine ni tbk h0 fun x11 h0 => ?_
  refine tr tbk 1 (.mk ?_)
  refine ni tbk h0 fun x12 h0 => ?_
  refine ni tbk h0 fun x13 h0 => ?_
  refine tr tbk 1 (.mk ?_)
  refine ni tbk h0 fun x14 h0 => ?_
  refine tr tbk 1 (.mk ?_)
  refine ni tbk h0 fun x15 h0 => ?_
  refine ni tbk h0 fun x16 h0 => ?_
  refine sY (yv_buildA (cs := [.sc (.int .u64 x7), .sc (.int .u64 x10), .sc (.int .u64 x13), .sc (.int .u64 x16)]) (ps := [(0, _), (1, _), (2, _), (3, _)]) rfl Tryz.underlying245 sh193 z245 rfl (.cons rfl (.cons rfl (.cons rfl (.cons rfl .nil)))) (by kernel_rfl)) ?_
  refine sA 1 z245 fun v17 => ?_
  refine sS ⟨245, 4, true, true, v17, [[.sc (.int .u64 x7), .sc (.int .u64 x10), .sc (.int .u64 x13), .sc (.int .u64 x16)]]⟩ sh245 ?_
  refine tr tbk 3 (.mk ?_)
  refine sY (yv_to (y := .pt 1 v17 0 0) (yv_indexAddrA rfl Tryz.underlying245 sh193 rfl rfl rfl rfl rfl (by decide)) rfl) ?_
  refine tr tbk 1 (.mk ?_)
  refine ni tbk h0 fun x18 h0 => ?_
  refine sY (yv_to (y := .pt 1 v17 0 1) (yv_indexAddrA rfl Tryz.underlying245 sh193 rfl rfl rfl rfl rfl (by decide)) rfl) ?_
  refine tr tbk 1 (.mk ?_)
  refine ni tbk h0 fun x19 h0 => ?_
  refine ni tbk h0 fun x20 h0 => ?_
  refine sY (yv_to (y := .pt 1 v17 0 2) (yv_indexAddrA rfl Tryz.underlying245 sh193 rfl rfl rfl rfl rfl (by decide)) rfl) ?_
  refine tr tbk 1 (.mk ?_)
  refine ni tbk h0 fun x21 h0 => ?_
  refine ni tbk h0 fun x22 h0 => ?_
  refine tr tbk 4 (.mk ?_)
  refine sY (yv_to (y := .pt 1 v17 0 3) (yv_indexAddrA rfl Tryz.underlying245 sh193 rfl rfl rfl rfl rfl (by decide)) rfl) ?_
  refine tr tbk 1 (.mk ?_)
  refine sY (yv_to (y := .pt 1 v17 0 1) (yv_indexAddrA rfl Tryz.underlying245 sh193 rfl rfl rfl rfl rfl (by decide)) rfl) ?_
  refine tr tbk 1 (.mk ?_)
  refine ni tbk h0 fun x23 h0 => ?_
  refine ni tbk h0 fun x24 h0 => ?_
  refine sY (yv_to (y := .pt 1 v17 0 2) (yv_indexAddrA rfl Tryz.underlying245 sh193 rfl rfl rfl rfl rfl (by decide)) rfl) ?_
  refine tr tbk 1 (.mk ?_)
  refine ni tbk h0 fun x25 h0 => ?_
  refine ni tbk h0 fun x26 h0 => ?_
  refine tr tbk 1 (.mk ?_)
  refine ni tbk h0 fun x27 h0 => ?_
  refine ni tbk h0 fun x28 h0 => ?_
  refine tr tbk 2 (.mk ?_)
  refine ni tbk h0 fun x29 h0 => ?_
  refine tr tbk 3 (.mk ?_)
  obtain rfl := nxt_e h0
  refine wR hret (rT (rT .nil)) ?_
  exact .refl _
def d_math_bits_Len64 (a1 : Int) : Option (Int) :=
bnd (decide (a1 ≥ 4294967296)) fun x2 =>
(show Option (Int × Int) from
cond x2 (bnd (a1.fdiv (2 ^ (min (32 : Int).toNat IntKind.u64.bits))) fun x4 =>
some ((x4 : Int), (32 : Int))) (some ((a1 : Int), (0 : Int)))).bind <| p2 fun (y0_1 : Int) (y0_2 : Int) =>
bnd (decide (y0_1 ≥ 65536)) fun x5 =>
(show Option (Int × Int) from
cond x5 (bnd (y0_1.fdiv (2 ^ (min (16 : Int).toNat IntKind.u64.bits))) fun x7 =>
bnd (w64 (y0_2 + 16)) fun x8 =>
some ((x7 : Int), (x8 : Int))) (some ((y0_1 : Int), (y0_2 : Int)))).bind <| p2 fun (y1_1 : Int) (y1_2 : Int) =>
bnd (decide (y1_1 ≥ 256)) fun x9 =>
(show Option (Int × Int) from
cond x9 (bnd (y1_1.fdiv (2 ^ (min (8 : Int).toNat IntKind.u64.bits))) fun x11 =>
bnd (w64 (y1_2 + 8)) fun x12 =>
some ((x11 : Int), (x12 : Int))) (some ((y1_1 : Int), (y1_2 : Int)))).bind <| p2 fun (y2_1 : Int) (y2_2 : Int) =>
bnd (wu8 y2_1) fun x13 =>
(ix ([0, 1, 2, 2, 3, 3, 3, 3, 4, 4, 4, 4, 4, 4, 4, 4, 5, 5, 5, 5, 5, 5, 5, 5, 5, 5, 5, 5, 5, 5, 5, 5, 6, 6, 6, 6, 6, 6, 6, 6, 6, 6, 6, 6, 6, 6, 6, 6, 6, 6, 6, 6, 6, 6, 6, 6, 6, 6, 6, 6, 6, 6, 6, 6, 7, 7, 7, 7, 7, 7, 7, 7, 7, 7, 7, 7, 7, 7, 7, 7, 7, 7, 7, 7, 7, 7, 7, 7, 7, 7, 7, 7, 7, 7, 7, 7, 7, 7, 7, 7, 7, 7, 7, 7, 7, 7, 7, 7, 7, 7, 7, 7, 7, 7, 7, 7, 7, 7, 7, 7, 7, 7, 7, 7, 7, 7, 7, 7, 8, 8, 8, 8, 8, 8, 8, 8, 8, 8, 8, 8, 8, 8, 8, 8, 8, 8, 8, 8, 8, 8, 8, 8, 8, 8, 8, 8, 8, 8, 8, 8, 8, 8, 8, 8, 8, 8, 8, 8, 8, 8, 8, 8, 8, 8, 8, 8, 8, 8, 8, 8, 8, 8, 8, 8, 8, 8, 8, 8, 8, 8, 8, 8, 8, 8, 8, 8, 8, 8, 8, 8, 8, 8, 8, 8, 8, 8, 8, 8, 8, 8, 8, 8, 8, 8, 8, 8, 8, 8, 8, 8, 8, 8, 8, 8, 8, 8, 8, 8, 8, 8, 8, 8, 8, 8, 8, 8, 8, 8, 8, 8, 8, 8, 8, 8, 8, 8, 8, 8, 8, 8, 8, 8, 8, 8, 8, 8] : List UInt8) x13).bind fun x14 =>
bnd (w64 (x14.toNat : Int)) fun x15 =>
bnd (w64 (y2_2 + x15)) fun x16 =>
some ((x16 : Int))
theorem d_math_bits_Len64_c {a1 : Int} {r : Int} (h0 : d_math_bits_Len64 a1 = some r) : PP Tryz.prog 225 [.sc (.int .u64 a1)] (fun y => y = int r) := by
  unfold d_math_bits_Len64 at h0
  refine pp_of_pc (R0 := fun y H => Cv (frzH H) y (int r)) ?_ (fun y H hc => ⟨_, rfl, pvI r, hc⟩)
  refine pcw (c := _) Tryz.func225 rfl rfl ?_; intro Q hret hnorm
  refine tc tbk 8 (.mk ?_)
  refine nb tbk h0 fun x2 h0 => ?_
  refine tr tbk 1 (.mk ?_)
  refine jn h0 [] [] (fun (a : Int × Int) (k : Unit) => [(0, .sc (.int .u64 a.1)), (2, int a.2)]) (fun a k => []) ⟨fun j3 h1 => ?_, ?_⟩
  cases x2
  replace h1 := cf h1
  refine tc tbk 2 (.mk ?_)
  exact lf h1 () leA
  replace h1 := ct h1
  refine tc tbk 4 (.mk ?_)
  refine ni tbk h1 fun x4 h1 => ?_
  refine tr tbk 5 (.mk ?_)
  exact lf h1 () leA
  rintro ⟨y0_1, y0_2⟩ _ h0
  replace h0 := p2_e h0
  refine tc tbk 4 (.mk ?_)
  refine nb tbk h0 fun x5 h0 => ?_
  refine tr tbk 1 (.mk ?_)
  refine jn h0 [] [] (fun (a : Int × Int) (k : Unit) => [(0, .sc (.int .u64 a.1)), (2, int a.2)]) (fun a k => []) ⟨fun j6 h1 => ?_, ?_⟩
  cases x5
  replace h1 := cf h1
  refine tc tbk 2 (.mk ?_)
  exact lf h1 () leA
  replace h1 := ct h1
  refine tc tbk 4 (.mk ?_)
  refine ni tbk h1 fun x7 h1 => ?_
  refine tr tbk 4 (.mk ?_)
  refine ni tbk h1 fun x8 h1 => ?_
  refine tr tbk 2 (.mk ?_)
  exact lf h1 () leA
  rintro ⟨y1_1, y1_2⟩ _ h0
  replace h0 := p2_e h0
  refine tc tbk 4 (.mk ?_)
  refine nb tbk h0 fun x9 h0 => ?_
  refine tr tbk 1 (.mk ?_)
  refine jn h0 [] [] (fun (a : Int × Int) (k : Unit) => [(0, .sc (.int .u64 a.1)), (2, int a.2)]) (fun a k => []) ⟨fun j10 h1 => ?_, ?_⟩
  cases x9
  replace h1 := cf h1
  refine tc tbk 2 (.mk ?_)
  exact lf h1 () leA
  replace h1 := ct h1
  refine tc tbk 4 (.mk ?_)
  refine ni tbk h1 fun x11 h1 => ?_
  refine tr tbk 4 (.mk ?_)
  refine ni tbk h1 fun x12 h1 => ?_
  refine tr tbk 2 (.mk ?_)
  exact lf h1 () leA
  rintro ⟨y2_1, y2_2⟩ _ h0
  replace h0 := p2_e h0
  refine tc tbk 4 (.mk ?_)
  refine ni tbk h0 fun x13 h0 => ?_
  obtain ⟨x14, e14, h0⟩ := bind_e h0
  refine sY (yv_index_str rfl Tryz.underlying9 rfl rfl (ix_e e14).1 (ix_e e14).2) ?_
  refine ni tbk h0 fun x15 h0 => ?_
  refine ni tbk h0 fun x16 h0 => ?_
  refine tr tbk 2 (.mk ?_)
  obtain rfl := nxt_e h0
  refine wR hret (rT .nil) ?_
  exact .refl _
def d_math_bits_LeadingZeros64 (a1 : Int) : Option (Int) :=
(d_math_bits_Len64 a1).bind fun x2 =>
bnd (w64 (64 - x2)) fun x3 =>
some ((x3 : Int))
theorem d_math_bits_LeadingZeros64_c {a1 : Int} {r : Int} (h0 : d_math_bits_LeadingZeros64 a1 = some r) : PP Tryz.prog 224 [.sc (.int .u64 a1)] (fun y => y = int r) := by
  unfold d_math_bits_LeadingZeros64 at h0
  refine pp_of_pc (R0 := fun y H => Cv (frzH H) y (int r)) ?_ (fun y H hc => ⟨_, rfl, pvI r, hc⟩)
  refine pcw (c := _) Tryz.func224 rfl rfl ?_; intro Q hret hnorm
  refine tc tbk 7 (.mk ?_)
  obtain ⟨x2, e2, h0⟩ := bind_e h0
  refine sC cal225 (d_math_bits_Len64_c e2) ?_
  refine ni tbk h0 fun x3 h0 => ?_
  refine tr tbk 2 (.mk ?_)
  obtain rfl := nxt_e h0
  refine wR hret (rT .nil) ?_
  exact .refl _
def d_math_bits_Div64_L0 (x11 : Int) (x12 : Int) (x21 : Int) : Nat → Int → Int → Option (Int)
  | 0, _, _ => none
  | n + 1, y0_1, y0_2 =>
    (show Option (Bool) from
    bnd (decide (y0_1 ≥ 4294967296)) fun x29 =>
    cond x29 (some (true : Bool)) (bnd (wu64 (y0_1 * x12)) fun x30 =>
    bnd (wu64 (4294967296 * y0_2)) fun x31 =>
    bnd (wu64 (x31 + x21)) fun x32 =>
    bnd (decide (x30 > x32)) fun x33 =>
    some (x33 : Bool))).bind <| fun y1_1 =>
    cond y1_1 (bnd (wu64 (y0_1 - 1)) fun x34 =>
    bnd (wu64 (y0_2 + x11)) fun x35 =>
    bnd (decide (x35 ≥ 4294967296)) fun x36 =>
    cond x36 (some (x34 : Int)) (d_math_bits_Div64_L0 x11 x12 x21 n (x34 : Int) (x35 : Int))) (some (y0_1 : Int))
def d_math_bits_Div64_L1 (x11 : Int) (x12 : Int) (x22 : Int) : Nat → Int → Int → Option (Int)
  | 0, _, _ => none
  | n + 1, y3_1, y3_2 =>
    (show Option (Bool) from
    bnd (decide (y3_2 ≥ 4294967296)) fun x47 =>
    cond x47 (some (true : Bool)) (bnd (wu64 (y3_2 * x12)) fun x48 =>
    bnd (wu64 (4294967296 * y3_1)) fun x49 =>
    bnd (wu64 (x49 + x22)) fun x50 =>
    bnd (decide (x48 > x50)) fun x51 =>
    some (x51 : Bool))).bind <| fun y4_1 =>
    cond y4_1 (bnd (wu64 (y3_2 - 1)) fun x52 =>
    bnd (wu64 (y3_1 + x11)) fun x53 =>
    bnd (decide (x53 ≥ 4294967296)) fun x54 =>
    cond x54 (some (x52 : Int)) (d_math_bits_Div64_L1 x11 x12 x22 n (x53 : Int) (x52 : Int))) (some (y3_2 : Int))
def d_math_bits_Div64 (n : Nat) (a1 : Int) (a2 : Int) (a3 : Int) : Option (Int × Int) :=
bnd (decide (a3 = 0)) fun x4 =>
cond x4 (none) (bnd (decide (a3 ≤ a1)) fun x5 =>
cond x5 (none) (bnd (decide (a1 = 0)) fun x6 =>
cond x6 (asrt (a3 ≠ 0) <|
bnd (wu64 (a2.tdiv a3)) fun x64 =>
asrt (a3 ≠ 0) <|
bnd (a2.tmod a3) fun x66 =>
some ((x64 : Int), (x66 : Int))) ((d_math_bits_LeadingZeros64 a3).bind fun x7 =>
bnd (wu64 x7) fun x8 =>
asrt ((0 : Int) ≤ x8) <|
bnd (wu64 (a3 * (2 ^ (min x8.toNat IntKind.u64.bits)))) fun x10 =>
bnd (x10.fdiv (2 ^ (min (32 : Int).toNat IntKind.u64.bits))) fun x11 =>
bnd (wu64 ((BitVec.ofInt IntKind.u64.bits x10 &&& BitVec.ofInt IntKind.u64.bits 4294967295).toNat : Int)) fun x12 =>
asrt ((0 : Int) ≤ x8) <|
bnd (wu64 (a1 * (2 ^ (min x8.toNat IntKind.u64.bits)))) fun x14 =>
bnd (wu64 (64 - x8)) fun x15 =>
asrt ((0 : Int) ≤ x15) <|
bnd (a2.fdiv (2 ^ (min x15.toNat IntKind.u64.bits))) fun x17 =>
bnd (wu64 ((BitVec.ofInt IntKind.u64.bits x14 ||| BitVec.ofInt IntKind.u64.bits x17).toNat : Int)) fun x18 =>
asrt ((0 : Int) ≤ x8) <|
bnd (wu64 (a2 * (2 ^ (min x8.toNat IntKind.u64.bits)))) fun x20 =>
bnd (x20.fdiv (2 ^ (min (32 : Int).toNat IntKind.u64.bits))) fun x21 =>
bnd (wu64 ((BitVec.ofInt IntKind.u64.bits x20 &&& BitVec.ofInt IntKind.u64.bits 4294967295).toNat : Int)) fun x22 =>
asrt (x11 ≠ 0) <|
bnd (wu64 (x18.tdiv x11)) fun x24 =>
bnd (wu64 (x24 * x11)) fun x25 =>
bnd (wu64 (x18 - x25)) fun x26 =>
(show Option (Int) from
d_math_bits_Div64_L0 x11 x12 x21 n (x24 : Int) (x26 : Int)).bind <| fun y2_1 =>
bnd (wu64 (x18 * 4294967296)) fun x37 =>
bnd (wu64 (x37 + x21)) fun x38 =>
bnd (wu64 (y2_1 * x10)) fun x39 =>
bnd (wu64 (x38 - x39)) fun x40 =>
asrt (x11 ≠ 0) <|
bnd (wu64 (x40.tdiv x11)) fun x42 =>
bnd (wu64 (x42 * x11)) fun x43 =>
bnd (wu64 (x40 - x43)) fun x44 =>
(show Option (Int) from
d_math_bits_Div64_L1 x11 x12 x22 n (x44 : Int) (x42 : Int)).bind <| fun y5_1 =>
bnd (wu64 (y2_1 * 4294967296)) fun x55 =>
bnd (wu64 (x55 + y5_1)) fun x56 =>
bnd (wu64 (x40 * 4294967296)) fun x57 =>
bnd (wu64 (x57 + x22)) fun x58 =>
bnd (wu64 (y5_1 * x10)) fun x59 =>
bnd (wu64 (x58 - x59)) fun x60 =>
asrt ((0 : Int) ≤ x8) <|
bnd (x60.fdiv (2 ^ (min x8.toNat IntKind.u64.bits))) fun x62 =>
some ((x56 : Int), (x62 : Int)))))
theorem d_math_bits_Div64_c {n : Nat} {a1 : Int} {a2 : Int} {a3 : Int} {r : Int × Int} (h0 : d_math_bits_Div64 n a1 a2 a3 = some r) : PP Tryz.prog 223 [.sc (.int .u64 a1), .sc (.int .u64 a2), .sc (.int .u64 a3)] (fun y => y = .tup [.sc (.int .u64 r.1), .sc (.int .u64 r.2)]) := by
  unfold d_math_bits_Div64 at h0
  refine pp_of_pc (R0 := fun y H => Cv (frzH H) y (.tup [.sc (.int .u64 r.1), .sc (.int .u64 r.2)])) ?_ (fun y H hc => ⟨_, rfl, .tup (pvl2 ((pvK .u64) (r.1)) ((pvK .u64) (r.2))), hc⟩)
  refine pcw (c := _) Tryz.func223 rfl rfl ?_; intro Q hret hnorm
  refine tc tbk 9 (.mk ?_)
  refine nb tbk h0 fun x4 h0 => ?_
  refine tr tbk 1 (.mk ?_)
  cases x4
  replace h0 := cf h0
  refine tc tbk 7 (.mk ?_)
  refine nb tbk h0 fun x5 h0 => ?_
  refine tr tbk 1 (.mk ?_)
  cases x5
  replace h0 := cf h0
  refine tc tbk 6 (.mk ?_)
  refine nb tbk h0 fun x6 h0 => ?_
  refine tr tbk 1 (.mk ?_)
  cases x6
  replace h0 := cf h0
  refine tc tbk 5 (.mk ?_)
  obtain ⟨x7, e7, h0⟩ := bind_e h0
  refine sC cal224 (d_math_bits_LeadingZeros64_c e7) ?_
  refine ni tbk h0 fun x8 h0 => ?_
  refine tr tbk 6 (.mk ?_)
  obtain ⟨p9, h0⟩ := asrt_e h0
  obtain ⟨x10, e10, h0⟩ := bnd_e h0
  refine sY (yv_shl rfl rfl rfl p9 e10) ?_
  refine tr tbk 5 (.mk ?_)
  refine ni tbk h0 fun x11 h0 => ?_
  refine tr tbk 5 (.mk ?_)
  obtain ⟨x12, e12, h0⟩ := bnd_e h0
  refine sY (yv_and rfl rfl rfl e12) ?_
  refine tr tbk 6 (.mk ?_)
  obtain ⟨p13, h0⟩ := asrt_e h0
  obtain ⟨x14, e14, h0⟩ := bnd_e h0
  refine sY (yv_shl rfl rfl rfl p13 e14) ?_
  refine tr tbk 2 (.mk ?_)
  refine ni tbk h0 fun x15 h0 => ?_
  obtain ⟨p16, h0⟩ := asrt_e h0
  obtain ⟨x17, e17, h0⟩ := bnd_e h0
  refine sY (yv_shr rfl rfl rfl p16 e17) ?_
  obtain ⟨x18, e18, h0⟩ := bnd_e h0
  refine sY (yv_or rfl rfl rfl e18) ?_
  refine tr tbk 6 (.mk ?_)
  obtain ⟨p19, h0⟩ := asrt_e h0
  obtain ⟨x20, e20, h0⟩ := bnd_e h0
  refine sY (yv_shl rfl rfl rfl p19 e20) ?_
  refine tr tbk 5 (.mk ?_)
  refine ni tbk h0 fun x21 h0 => ?_
  refine tr tbk 5 (.mk ?_)
  obtain ⟨x22, e22, h0⟩ := bnd_e h0
  refine sY (yv_and rfl rfl rfl e22) ?_
  refine tr tbk 6 (.mk ?_)
  obtain ⟨p23, h0⟩ := asrt_e h0
  obtain ⟨x24, e24, h0⟩ := bnd_e h0
  refine sY (yv_quo rfl rfl rfl p23 e24) ?_
  refine tr tbk 7 (.mk ?_)
  refine ni tbk h0 fun x25 h0 => ?_
  refine ni tbk h0 fun x26 h0 => ?_
  refine tr tbk 3 (.mk ?_)
  refine jn h0 [2, 6, 7, 8, 9, 10, 11, 13, 14] [] (fun (a : Int) (k : Unit) => [(15, .sc (.int .u64 a))]) (fun a k => []) ⟨fun j27 h1 => ?_, ?_⟩
  refine tc tbk 1 (.mk ?_)
  refine lp (fun n (a : Int × Int) => d_math_bits_Div64_L0 x11 x12 x21 n a.1 a.2) ((x24 : Int), (x26 : Int)) () h1 [2, 6, 7, 8, 9, 10, 11, 13, 14] [] (fun (a : Int × Int) (k : Unit) => [(15, .sc (.int .u64 a.1)), (16, .sc (.int .u64 a.2))]) (fun a k => []) (fun _ => rfl) ⟨leA, ?_⟩
  rintro n ⟨y0_1, y0_2⟩ _ hm h1
  replace h1 : d_math_bits_Div64_L0 x11 x12 x21 (n + 1) y0_1 y0_2 = some _ := h1
  rw [d_math_bits_Div64_L0] at h1
  refine tc tbk 2 (.mk ?_)
  refine jn h1 [2, 6, 7, 8, 9, 10, 11, 13, 14, 15, 16] [] (fun (a : Bool) (k : Unit) => [(78, boo a)]) (fun a k => []) ⟨fun j28 h2 => ?_, ?_⟩
  refine tc tbk 2 (.mk ?_)
  refine nb tbk h2 fun x29 h2 => ?_
  refine tr tbk 1 (.mk ?_)
  cases x29
  replace h2 := cf h2
  refine tr tbk 2 (.mk ?_)
  refine ni tbk h2 fun x30 h2 => ?_
  refine tr tbk 1 (.mk ?_)
  refine ni tbk h2 fun x31 h2 => ?_
  refine tr tbk 1 (.mk ?_)
  refine ni tbk h2 fun x32 h2 => ?_
  refine nb tbk h2 fun x33 h2 => ?_
  refine tr tbk 2 (.mk ?_)
  exact lf h2 () leA
  replace h2 := ct h2
  refine tr tbk 10 (.mk ?_)
  exact lf h2 () leA
  rintro y1_1 _ h1
  cases y1_1
  replace h1 := cf h1
  refine tc tbk 2 (.mk ?_)
  exact lf h1 () leA
  replace h1 := ct h1
  refine tc tbk 6 (.mk ?_)
  refine ni tbk h1 fun x34 h1 => ?_
  refine tr tbk 6 (.mk ?_)
  refine ni tbk h1 fun x35 h1 => ?_
  refine tr tbk 5 (.mk ?_)
  refine nb tbk h1 fun x36 h1 => ?_
  refine tr tbk 1 (.mk ?_)
  cases x36
  replace h1 := cf h1
  refine tc tbk 3 (.mk ?_)
  exact bk (x34, x35) () h1 leA
  replace h1 := ct h1
  refine tc tbk 2 (.mk ?_)
  exact lf h1 () leA
  rintro y2_1 _ h0
  refine tc tbk 3 (.mk ?_)
  refine ni tbk h0 fun x37 h0 => ?_
  refine tr tbk 1 (.mk ?_)
  refine ni tbk h0 fun x38 h0 => ?_
  refine tr tbk 2 (.mk ?_)
  refine ni tbk h0 fun x39 h0 => ?_
  refine ni tbk h0 fun x40 h0 => ?_
  refine tr tbk 6 (.mk ?_)
  obtain ⟨p41, h0⟩ := asrt_e h0
  obtain ⟨x42, e42, h0⟩ := bnd_e h0
  refine sY (yv_quo rfl rfl rfl p41 e42) ?_
  refine tr tbk 7 (.mk ?_)
  refine ni tbk h0 fun x43 h0 => ?_
  refine ni tbk h0 fun x44 h0 => ?_
  refine tr tbk 3 (.mk ?_)
  refine jn h0 [2, 6, 7, 8, 14, 15, 17] [] (fun (a : Int) (k : Unit) => [(18, .sc (.int .u64 a))]) (fun a k => []) ⟨fun j45 h1 => ?_, ?_⟩
  refine tc tbk 1 (.mk ?_)
  refine lp (fun n (a : Int × Int) => d_math_bits_Div64_L1 x11 x12 x22 n a.1 a.2) ((x44 : Int), (x42 : Int)) () h1 [2, 6, 7, 8, 9, 10, 14, 15, 17] [] (fun (a : Int × Int) (k : Unit) => [(16, .sc (.int .u64 a.1)), (18, .sc (.int .u64 a.2))]) (fun a k => []) (fun _ => rfl) ⟨leA, ?_⟩
  rintro n ⟨y3_1, y3_2⟩ _ hm h1
  replace h1 : d_math_bits_Div64_L1 x11 x12 x22 (n + 1) y3_1 y3_2 = some _ := h1
  rw [d_math_bits_Div64_L1] at h1
  refine tc tbk 2 (.mk ?_)
  refine jn h1 [2, 6, 7, 8, 9, 10, 14, 15, 16, 17, 18] [] (fun (a : Bool) (k : Unit) => [(113, boo a)]) (fun a k => []) ⟨fun j46 h2 => ?_, ?_⟩
  refine tc tbk 2 (.mk ?_)
  refine nb tbk h2 fun x47 h2 => ?_
  refine tr tbk 1 (.mk ?_)
  cases x47
  replace h2 := cf h2
  refine tr tbk 2 (.mk ?_)
  refine ni tbk h2 fun x48 h2 => ?_
  refine tr tbk 1 (.mk ?_)
  refine ni tbk h2 fun x49 h2 => ?_
  refine tr tbk 1 (.mk ?_)
  refine ni tbk h2 fun x50 h2 => ?_
  refine nb tbk h2 fun x51 h2 => ?_
  refine tr tbk 2 (.mk ?_)
  exact lf h2 () leA
  replace h2 := ct h2
  refine tr tbk 10 (.mk ?_)
  exact lf h2 () leA
  rintro y4_1 _ h1
  cases y4_1
  replace h1 := cf h1
  refine tc tbk 2 (.mk ?_)
  exact lf h1 () leA
  replace h1 := ct h1
  refine tc tbk 6 (.mk ?_)
  refine ni tbk h1 fun x52 h1 => ?_
  refine tr tbk 6 (.mk ?_)
  refine ni tbk h1 fun x53 h1 => ?_
  refine tr tbk 5 (.mk ?_)
  refine nb tbk h1 fun x54 h1 => ?_
  refine tr tbk 1 (.mk ?_)
  cases x54
  replace h1 := cf h1
  refine tc tbk 3 (.mk ?_)
  exact bk (x53, x52) () h1 leA
  replace h1 := ct h1
  refine tc tbk 2 (.mk ?_)
  exact lf h1 () leA
  rintro y5_1 _ h0
  refine tc tbk 3 (.mk ?_)
  refine ni tbk h0 fun x55 h0 => ?_
  refine tr tbk 1 (.mk ?_)
  refine ni tbk h0 fun x56 h0 => ?_
  refine tr tbk 1 (.mk ?_)
  refine ni tbk h0 fun x57 h0 => ?_
  refine tr tbk 1 (.mk ?_)
  refine ni tbk h0 fun x58 h0 => ?_
  refine tr tbk 2 (.mk ?_)
  refine ni tbk h0 fun x59 h0 => ?_
  refine ni tbk h0 fun x60 h0 => ?_
  refine tr tbk 1 (.mk ?_)
  obtain ⟨p61, h0⟩ := asrt_e h0
  obtain ⟨x62, e62, h0⟩ := bnd_e h0
  refine sY (yv_shr rfl rfl rfl p61 e62) ?_
  refine tr tbk 3 (.mk ?_)
  obtain rfl := nxt_e h0
  refine wR hret (rT (rT .nil)) ?_
  exact .refl _
  replace h0 := ct h0
  refine tc tbk 2 (.mk ?_)
  refine c_drawE [0, 0, 3, 0, 0, 24, 7, 127] (fun i => []) (fun i => []) (fun i => true) [0, 1, 2, 3, 4, 5, 6, 7] mixed (by kernel_rfl) ?_; intro K hK
  iterate 2 refine eM ?_
  obtain ⟨p63, h0⟩ := asrt_e h0
  obtain ⟨x64, e64, h0⟩ := bnd_e h0
  refine eP (fun H hH => yv_quo rfl rfl rfl p63 e64) ?_
  iterate 2 refine eM ?_
  obtain ⟨p65, h0⟩ := asrt_e h0
  obtain ⟨x66, e66, h0⟩ := bnd_e h0
  refine eP (fun H hH => yv_rem rfl rfl rfl p65 e66) ?_
  iterate 2 refine eA ?_
  refine de_nil (hK _ ?_)
  obtain rfl := nxt_e h0
  refine wR hret (rT (rT .nil)) ?_
  exact .refl _
  replace h0 := ct h0
  refine tc tbk 1 (.mk ?_)
  cases h0
  replace h0 := ct h0
  refine tc tbk 1 (.mk ?_)
  cases h0
def d_money_MulDiv (n : Nat) (a1 : Int) (a2 : Int) (a3 : Int) : Option (Int × Int × Int) :=
(show Option (Bool) from
bnd (decide (a1 < 0)) fun x5 =>
cond x5 (some (true : Bool)) (bnd (decide (a2 < 0)) fun x6 =>
cond x6 (some (true : Bool)) (bnd (decide (a3 < 1)) fun x7 =>
some (x7 : Bool)))).bind <| fun y0_1 =>
asrt (y0_1 = false) <|
(d_money_Wide a1 a2).bind fun x8 =>
bnd (wu64 a3) fun x9 =>
bnd (decide (x8.1 ≥ x9)) fun x10 =>
asrt (x10 = false) <|
bnd (wu64 a3) fun x11 =>
(d_math_bits_Div64 n x8.1 x8.2 x11).bind fun x12 =>
bnd (decide (x12.1 > 288230376151711744)) fun x13 =>
asrt (x13 = false) <|
bnd (w64 x12.1) fun x14 =>
bnd (w64 x12.2) fun x15 =>
some ((x14 : Int), (x15 : Int), (0 : Int))
theorem d_money_MulDiv_c {n : Nat} {a1 : Int} {a2 : Int} {a3 : Int} {r : Int × Int × Int} (h0 : d_money_MulDiv n a1 a2 a3 = some r) : PP Tryz.prog 221 [int a1, int a2, int a3] (fun y => y = .tup [int r.1, int r.2.1, int r.2.2]) := by
  unfold d_money_MulDiv at h0
  refine pp_of_pc (R0 := fun y H => Cv (frzH H) y (.tup [int r.1, int r.2.1, int r.2.2])) ?_ (fun y H hc => ⟨_, rfl, .tup (pvl3 (pvI (r.1)) (pvI (r.2.1)) (pvI (r.2.2))), hc⟩)
  refine pcw (c := _) Tryz.func221 rfl rfl ?_; intro Q hret hnorm
  refine tc tbk 8 (.mk ?_)
  refine jn h0 [0, 1, 2, 6, 7, 8] [] (fun (a : Bool) (k : Unit) => [(22, boo a)]) (fun a k => []) ⟨fun j4 h1 => ?_, ?_⟩
  refine tc tbk 2 (.mk ?_)
  refine nb tbk h1 fun x5 h1 => ?_
  refine tr tbk 1 (.mk ?_)
  cases x5
  replace h1 := cf h1
  refine tr tbk 1 (.mk ?_)
  refine nb tbk h1 fun x6 h1 => ?_
  refine tr tbk 2 (.mk ?_)
  cases x6
  replace h1 := cf h1
  refine tr tbk 1 (.mk ?_)
  refine nb tbk h1 fun x7 h1 => ?_
  refine tr tbk 2 (.mk ?_)
  exact lf h1 () leA
  replace h1 := ct h1
  refine tr tbk 4 (.mk ?_)
  exact lf h1 () leA
  replace h1 := ct h1
  refine tr tbk 8 (.mk ?_)
  exact lf h1 () leA
  rintro y0_1 _ h0
  replace h0 := asrt_e h0
  obtain ⟨rfl, h0⟩ := h0
  refine tc tbk 6 (.mk ?_)
  obtain ⟨x8, e8, h0⟩ := bind_e h0
  refine sC cal222 (d_money_Wide_c e8) ?_
  refine tr tbk 11 (.mk ?_)
  refine ni tbk h0 fun x9 h0 => ?_
  refine nb tbk h0 fun x10 h0 => ?_
  refine tr tbk 1 (.mk ?_)
  replace h0 := asrt_e h0
  obtain ⟨rfl, h0⟩ := h0
  refine tc tbk 7 (.mk ?_)
  refine ni tbk h0 fun x11 h0 => ?_
  obtain ⟨x12, e12, h0⟩ := bind_e h0
  refine sC cal223 (d_math_bits_Div64_c e12) ?_
  refine tr tbk 10 (.mk ?_)
  refine nb tbk h0 fun x13 h0 => ?_
  refine tr tbk 1 (.mk ?_)
  replace h0 := asrt_e h0
  obtain ⟨rfl, h0⟩ := h0
  refine tc tbk 5 (.mk ?_)
  refine ni tbk h0 fun x14 h0 => ?_
  refine tr tbk 1 (.mk ?_)
  refine ni tbk h0 fun x15 h0 => ?_
  refine tr tbk 4 (.mk ?_)
  obtain rfl := nxt_e h0
  refine wR hret (rT (rT (rT .nil))) ?_
  exact .refl _
def d_stdcost_rate_of (n : Nat) (a1 : Int) (a2 : Int) : Option (Int × Int) :=
bnd (if 0 > a2 then 0 else a2) fun x3 =>
(d_money_MulDiv n x3 a1 1).bind fun x4 =>
some ((x4.1 : Int), (x4.2.2 : Int))
theorem d_stdcost_rate_of_c {n : Nat} {a1 : Int} {a2 : Int} {r : Int × Int} (h0 : d_stdcost_rate_of n a1 a2 = some r) : PP Tryz.prog 240 [int a1, int a2] (fun y => y = .tup [int r.1, int r.2]) := by
  unfold d_stdcost_rate_of at h0
  refine pp_of_pc (R0 := fun y H => Cv (frzH H) y (.tup [int r.1, int r.2])) ?_ (fun y H hc => ⟨_, rfl, .tup (pvl2 (pvI (r.1)) (pvI (r.2))), hc⟩)
  refine pcw (c := _) Tryz.func240 rfl rfl ?_; intro Q hret hnorm
  refine tc tbk 8 (.mk ?_)
  obtain ⟨x3, e3, h0⟩ := bnd_e h0
  refine sY (yv_max rfl rfl rfl e3) ?_
  refine tr tbk 1 (.mk ?_)
  obtain ⟨x4, e4, h0⟩ := bind_e h0
  refine sC cal221 (d_money_MulDiv_c e4) ?_
  refine tr tbk 15 (.mk ?_)
  obtain rfl := nxt_e h0
  refine wR hret (rT (rT .nil)) ?_
  exact .refl _
def d_fifo_wrong (a1 : GLayer) : Option (Bool) :=
(show Option (Bool) from
bnd (decide (a1.Qty < 1)) fun x4 =>
cond x4 (some (true : Bool)) (bnd (decide (a1.Qty > 288230376151711744)) fun x5 =>
cond x5 (some (true : Bool)) (bnd (decide (a1.Value < 0)) fun x6 =>
cond x6 (some (true : Bool)) (bnd (decide (a1.Value > 288230376151711744)) fun x7 =>
cond x7 (some (true : Bool)) (bnd (decide (a1.Profit < (-288230376151711744))) fun x8 =>
cond x8 (some (true : Bool)) (bnd (decide (a1.Profit > 288230376151711744)) fun x9 =>
some (x9 : Bool))))))).bind <| fun y0_1 =>
some ((y0_1 : Bool))
theorem d_fifo_wrong_c {a1 : GLayer} {r : Bool} (h0 : d_fifo_wrong a1 = some r) : PP Tryz.prog 164 [.agg (GLayer.av a1)] (fun y => y = boo r) := by
  unfold d_fifo_wrong at h0
  refine pp_of_pc (R0 := fun y H => Cv (frzH H) y (boo r)) ?_ (fun y H hc => ⟨_, rfl, pvB r, hc⟩)
  refine pcw (c := _) Tryz.func164 rfl rfl ?_; intro Q hret hnorm
  refine tc tbk 2 (.mk ?_)
  refine sB 1 fun v2 => ?_
  refine tr tbk 3 (.mk ?_)
  refine jn h0 [] [] (fun (a : Bool) (k : Unit) => [(2, boo a)]) (fun a k => []) ⟨fun j3 h1 => ?_, ?_⟩
  refine tc tbk 3 (.mk ?_)
  refine nb tbk h1 fun x4 h1 => ?_
  refine tr tbk 1 (.mk ?_)
  cases x4
  replace h1 := cf h1
  refine tr tbk 2 (.mk ?_)
  refine nb tbk h1 fun x5 h1 => ?_
  refine tr tbk 2 (.mk ?_)
  cases x5
  replace h1 := cf h1
  refine tr tbk 2 (.mk ?_)
  refine nb tbk h1 fun x6 h1 => ?_
  refine tr tbk 2 (.mk ?_)
  cases x6
  replace h1 := cf h1
  refine tr tbk 2 (.mk ?_)
  refine nb tbk h1 fun x7 h1 => ?_
  refine tr tbk 2 (.mk ?_)
  cases x7
  replace h1 := cf h1
  refine tr tbk 2 (.mk ?_)
  refine nb tbk h1 fun x8 h1 => ?_
  refine tr tbk 2 (.mk ?_)
  cases x8
  replace h1 := cf h1
  refine tr tbk 2 (.mk ?_)
  refine nb tbk h1 fun x9 h1 => ?_
  refine tr tbk 3 (.mk ?_)
  exact lf h1 () leA
  replace h1 := ct h1
  refine tr tbk 6 (.mk ?_)
  exact lf h1 () leA
  replace h1 := ct h1
  refine tr tbk 11 (.mk ?_)
  exact lf h1 () leA
  replace h1 := ct h1
  refine tr tbk 16 (.mk ?_)
  exact lf h1 () leA
  replace h1 := ct h1
  refine tr tbk 21 (.mk ?_)
  exact lf h1 () leA
  replace h1 := ct h1
  refine tr tbk 26 (.mk ?_)
  exact lf h1 () leA
  rintro y0_1 _ h0
  obtain rfl := nxt_e h0
  refine wR hret (rT .nil) ?_
  exact .refl _
def d_money_in (a1 : Int) : Option (Bool) :=
(show Option (Bool) from
bnd (decide (a1 ≥ (-288230376151711744))) fun x3 =>
cond x3 (bnd (decide (a1 ≤ 288230376151711744)) fun x4 =>
some (x4 : Bool)) (some (false : Bool))).bind <| fun y0_1 =>
some ((y0_1 : Bool))
theorem d_money_in_c {a1 : Int} {r : Bool} (h0 : d_money_in a1 = some r) : PP Tryz.prog 118 [int a1] (fun y => y = boo r) := by
  unfold d_money_in at h0
  refine pp_of_pc (R0 := fun y H => Cv (frzH H) y (boo r)) ?_ (fun y H hc => ⟨_, rfl, pvB r, hc⟩)
  refine pcw (c := _) Tryz.func118 rfl rfl ?_; intro Q hret hnorm
  refine tc tbk 5 (.mk ?_)
  refine jn h0 [] [] (fun (a : Bool) (k : Unit) => [(2, boo a)]) (fun a k => []) ⟨fun j2 h1 => ?_, ?_⟩
  refine tc tbk 2 (.mk ?_)
  refine nb tbk h1 fun x3 h1 => ?_
  refine tr tbk 1 (.mk ?_)
  cases x3
  replace h1 := cf h1
  refine tr tbk 5 (.mk ?_)
  exact lf h1 () leA
  replace h1 := ct h1
  refine tr tbk 1 (.mk ?_)
  refine nb tbk h1 fun x4 h1 => ?_
  refine tr tbk 3 (.mk ?_)
  exact lf h1 () leA
  rintro y0_1 _ h0
  obtain rfl := nxt_e h0
  refine wR hret (rT .nil) ?_
  exact .refl _
def d_money_Add (a1 : Int) (a2 : Int) : Option (Int × Int) :=
(show Option (Bool) from
(d_money_in a1).bind fun x4 =>
bnd (!x4) fun x5 =>
cond x5 (some (true : Bool)) ((d_money_in a2).bind fun x6 =>
bnd (!x6) fun x7 =>
cond x7 (some (true : Bool)) (bnd (w64 (a1 + a2)) fun x8 =>
(d_money_in x8).bind fun x9 =>
bnd (!x9) fun x10 =>
some (x10 : Bool)))).bind <| fun y0_1 =>
asrt (y0_1 = false) <|
bnd (w64 (a1 + a2)) fun x11 =>
some ((x11 : Int), (0 : Int))
theorem d_money_Add_c {a1 : Int} {a2 : Int} {r : Int × Int} (h0 : d_money_Add a1 a2 = some r) : PP Tryz.prog 72 [int a1, int a2] (fun y => y = .tup [int r.1, int r.2]) := by
  unfold d_money_Add at h0
  refine pp_of_pc (R0 := fun y H => Cv (frzH H) y (.tup [int r.1, int r.2])) ?_ (fun y H hc => ⟨_, rfl, .tup (pvl2 (pvI (r.1)) (pvI (r.2))), hc⟩)
  refine pcw (c := _) Tryz.func72 rfl rfl ?_; intro Q hret hnorm
  refine tc tbk 7 (.mk ?_)
  refine jn h0 [0, 1, 4, 5] [] (fun (a : Bool) (k : Unit) => [(20, boo a)]) (fun a k => []) ⟨fun j3 h1 => ?_, ?_⟩
  refine tc tbk 2 (.mk ?_)
  obtain ⟨x4, e4, h1⟩ := bind_e h1
  refine sC cal118 (d_money_in_c e4) ?_
  refine nb tbk h1 fun x5 h1 => ?_
  refine tr tbk 1 (.mk ?_)
  cases x5
  replace h1 := cf h1
  refine tr tbk 1 (.mk ?_)
  obtain ⟨x6, e6, h1⟩ := bind_e h1
  refine sC cal118 (d_money_in_c e6) ?_
  refine nb tbk h1 fun x7 h1 => ?_
  refine tr tbk 2 (.mk ?_)
  cases x7
  replace h1 := cf h1
  refine tr tbk 2 (.mk ?_)
  refine ni tbk h1 fun x8 h1 => ?_
  obtain ⟨x9, e9, h1⟩ := bind_e h1
  refine sC cal118 (d_money_in_c e9) ?_
  refine nb tbk h1 fun x10 h1 => ?_
  refine tr tbk 2 (.mk ?_)
  exact lf h1 () leA
  replace h1 := ct h1
  refine tr tbk 7 (.mk ?_)
  exact lf h1 () leA
  replace h1 := ct h1
  refine tr tbk 12 (.mk ?_)
  exact lf h1 () leA
  rintro y0_1 _ h0
  replace h0 := asrt_e h0
  obtain ⟨rfl, h0⟩ := h0
  refine tc tbk 6 (.mk ?_)
  refine ni tbk h0 fun x11 h0 => ?_
  refine tr tbk 3 (.mk ?_)
  obtain rfl := nxt_e h0
  refine wR hret (rT (rT .nil)) ?_
  exact .refl _
def d_money_Sum_L0 (a1 : List Int) : Nat → Int → Int → Option (Int)
  | 0, _, _ => none
  | n + 1, y0_1, y0_2 =>
    bnd (decide (y0_2 < (a1.length : Int))) fun x3 =>
    cond x3 ((ix a1 y0_2).bind fun x4 =>
    (d_money_Add y0_1 x4).bind fun x5 =>
    bnd (decide (x5.2 ≠ 0)) fun x6 =>
    asrt (x6 = false) <|
    bnd (w64 (y0_2 + 1)) fun x7 =>
    d_money_Sum_L0 a1 n (x5.1 : Int) (x7 : Int)) (some (y0_1 : Int))
def d_money_Sum (n : Nat) (a1 : List Int) : Option (Int × Int) :=
(show Option (Int) from
d_money_Sum_L0 a1 n (0 : Int) (0 : Int)).bind <| fun y1_1 =>
some ((y1_1 : Int), (0 : Int))
theorem d_money_Sum_c {n : Nat} {a1 : List Int} {r : Int × Int} (h0 : d_money_Sum n a1 = some r) : PP Tryz.prog 47 [lst 1 fI a1] (fun y => y = .tup [int r.1, int r.2]) := by
  unfold d_money_Sum at h0
  refine pp_of_pc (R0 := fun y H => Cv (frzH H) y (.tup [int r.1, int r.2])) ?_ (fun y H hc => ⟨_, rfl, .tup (pvl2 (pvI (r.1)) (pvI (r.2))), hc⟩)
  refine pcw (c := _) Tryz.func47 rfl rfl ?_; intro Q hret hnorm
  refine tc tbk 13 (.mk ?_)
  refine sY (yv_len_sl rfl Tryz.underlying22 rfl (lst_len _)) ?_
  refine tr tbk 2 (.mk ?_)
  refine jn h0 [2, 3] [] (fun (a : Int) (k : Unit) => [(4, int a)]) (fun a k => []) ⟨fun j2 h1 => ?_, ?_⟩
  refine tc tbk 1 (.mk ?_)
  refine lp (fun n (a : Int × Int) => d_money_Sum_L0 a1 n a.1 a.2) ((0 : Int), (0 : Int)) () h1 [2, 3, 8, 9] [] (fun (a : Int × Int) (k : Unit) => [(4, int a.1), (10, int a.2)]) (fun a k => []) (fun _ => rfl) ⟨leA, ?_⟩
  rintro n ⟨y0_1, y0_2⟩ _ hm h1
  replace h1 : d_money_Sum_L0 a1 (n + 1) y0_1 y0_2 = some _ := h1
  rw [d_money_Sum_L0] at h1
  refine tc tbk 2 (.mk ?_)
  refine nb tbk h1 fun x3 h1 => ?_
  refine tr tbk 2 (.mk ?_)
  cases x3
  replace h1 := cf h1
  refine tc tbk 2 (.mk ?_)
  exact lf h1 () leA
  replace h1 := ct h1
  refine tc tbk 6 (.mk ?_)
  obtain ⟨x4, e4, h1⟩ := bind_e h1
  refine sY (yv_ixT rfl Tryz.underlying22 sh3 rfl rfl e4) ?_
  refine tr tbk 11 (.mk ?_)
  obtain ⟨x5, e5, h1⟩ := bind_e h1
  refine sC cal72 (d_money_Add_c e5) ?_
  refine tr tbk 9 (.mk ?_)
  refine nb tbk h1 fun x6 h1 => ?_
  refine tr tbk 1 (.mk ?_)
  replace h1 := asrt_e h1
  obtain ⟨rfl, h1⟩ := h1
  refine tc tbk 4 (.mk ?_)
  refine ni tbk h1 fun x7 h1 => ?_
  refine tr tbk 2 (.mk ?_)
  exact bk (x5.1, x7) () h1 leA
  rintro y1_1 _ h0
  refine tc tbk 6 (.mk ?_)
  obtain rfl := nxt_e h0
  refine wR hret (rT (rT .nil)) ?_
  exact .refl _
def d_fifo_Total_L0 (a1 : List GLayer) : Nat → Int → (List Int) → (List Int) → (List Int) → Option ((List Int) × (List Int) × (List Int))
  | 0, _, _, _, _ => none
  | n + 1, y0_4, y0_5, y0_6, y0_7 =>
    bnd (decide (y0_4 < (a1.length : Int))) fun x7 =>
    cond x7 ((ix a1 y0_4).bind fun x8 =>
    bnd (y0_5 ++ ([x8.Qty] : List Int)) fun x10 =>
    asrt (x10.length ≤ 68719476736) <|
    bnd (y0_6 ++ ([x8.Value] : List Int)) fun x13 =>
    asrt (x13.length ≤ 68719476736) <|
    bnd (y0_7 ++ ([x8.Profit] : List Int)) fun x16 =>
    asrt (x16.length ≤ 68719476736) <|
    bnd (w64 (y0_4 + 1)) fun x19 =>
    d_fifo_Total_L0 a1 n (x19 : Int) (x10 : List Int) (x13 : List Int) (x16 : List Int)) (some ((y0_5 : List Int), (y0_6 : List Int), (y0_7 : List Int)))
def d_fifo_Total (n : Nat) (a1 : List GLayer) : Option (GLayer × Int) :=
(show Option ((List Int) × (List Int) × (List Int)) from
d_fifo_Total_L0 a1 n (0 : Int) (([] : List Int) : List Int) (([] : List Int) : List Int) (([] : List Int) : List Int)).bind <| p2 fun (y1_4 : List Int) (q0 : (List Int) × (List Int)) => (p2 fun (y1_5 : List Int) (y1_6 : List Int) =>
(show Option (GLayer) from
(d_money_Sum n y1_4).bind fun x23 =>
bnd (decide (x23.2 ≠ 0)) fun x24 =>
asrt (x24 = false) <|
(d_money_Sum n y1_5).bind fun x26 =>
bnd (decide (x26.2 ≠ 0)) fun x27 =>
asrt (x27 = false) <|
(d_money_Sum n y1_6).bind fun x29 =>
bnd (decide (x29.2 ≠ 0)) fun x30 =>
asrt (x30 = false) <|
some ((⟨x23.1, x26.1, x29.1⟩ : GLayer) : GLayer)).bind <| fun y2_1 =>
some ((y2_1 : GLayer), (0 : Int))) q0
theorem d_fifo_Total_c {n : Nat} {a1 : List GLayer} {r : GLayer × Int} (h0 : d_fifo_Total n a1 = some r) : PP Tryz.prog 46 [lst 3 GLayer.av a1] (fun y => y = .tup [.agg (GLayer.av r.1), int r.2]) := by
  unfold d_fifo_Total at h0
  refine pp_of_pc (R0 := fun y H => Cv (frzH H) y (.tup [.agg (GLayer.av r.1), int r.2])) ?_ (fun y H hc => ⟨_, rfl, .tup (pvl2 ((fun (a : GLayer) => PV.agg (GLayer.pvc a)) (r.1)) (pvI (r.2))), hc⟩)
  refine pcw (c := _) Tryz.func46 rfl rfl ?_; intro Q hret hnorm
  refine tc tbk 2 (.mk ?_)
  refine sA 1 z38 fun v2 => ?_
  refine tr tbk 12 (.mk ?_)
  refine sY (yv_len_sl rfl Tryz.underlying43 rfl (lst_len _)) ?_
  refine tr tbk 2 (.mk ?_)
  refine jn h0 [2, 3] [1] (fun (a : (List Int) × (List Int) × (List Int)) (k : Nat × Nat × Nat) => [(4, .sl 6 k.1 0 a.1.length), (5, .sl 7 k.2.1 0 a.2.1.length), (6, .sl 8 k.2.2 0 a.2.2.length)]) (fun a k => [(6, ⟨3, 1, true, true, k.1, a.1.map fI⟩), (7, ⟨3, 1, true, true, k.2.1, a.2.1.map fI⟩), (8, ⟨3, 1, true, true, k.2.2, a.2.2.map fI⟩)]) ⟨fun j3 h1 => ?_, ?_⟩
  refine tc tbk 1 (.mk ?_)
  refine c_nilobj 4 6 3 1 rfl rfl ?_; intro v4
  refine c_nilobj 5 7 3 1 rfl rfl ?_; intro v5
  refine c_nilobj 6 8 3 1 rfl rfl ?_; intro v6
  refine lp (fun n (a : Int × (List Int) × (List Int) × (List Int)) => d_fifo_Total_L0 a1 n a.1 a.2.1 a.2.2.1 a.2.2.2) ((0 : Int), (([] : List Int) : List Int), (([] : List Int) : List Int), (([] : List Int) : List Int)) (v4, v5, v6) h1 [2, 3, 14, 15] [1] (fun (a : Int × (List Int) × (List Int) × (List Int)) (k : Nat × Nat × Nat) => [(4, .sl 6 k.1 0 a.2.1.length), (5, .sl 7 k.2.1 0 a.2.2.1.length), (6, .sl 8 k.2.2 0 a.2.2.2.length), (16, int a.1)]) (fun a k => [(6, ⟨3, 1, true, true, k.1, a.2.1.map fI⟩), (7, ⟨3, 1, true, true, k.2.1, a.2.2.1.map fI⟩), (8, ⟨3, 1, true, true, k.2.2, a.2.2.2.map fI⟩)]) (fun _ => rfl) ⟨leA, ?_⟩
  rintro n ⟨y0_4, y0_5, y0_6, y0_7⟩ ⟨w0_1, w0_2, w0_3⟩ hm h1
  replace h1 : d_fifo_Total_L0 a1 (n + 1) y0_4 y0_5 y0_6 y0_7 = some _ := h1
  rw [d_fifo_Total_L0] at h1
  refine tc tbk 2 (.mk ?_)
  refine nb tbk h1 fun x7 h1 => ?_
  refine tr tbk 2 (.mk ?_)
  cases x7
  replace h1 := cf h1
  refine tc tbk 2 (.mk ?_)
  exact lf h1 (w0_1, w0_2, w0_3) leA
  replace h1 := ct h1
  refine tc tbk 6 (.mk ?_)
  obtain ⟨x8, e8, h1⟩ := bind_e h1
  refine sY (yv_ixT rfl Tryz.underlying43 sh38 rfl rfl e8) ?_
  refine tr tbk 1 (.mk ?_)
  refine sA 2 z38 fun v9 => ?_
  refine sS ⟨38, 3, true, true, v9, [[int x8.Qty, int x8.Value, int x8.Profit]]⟩ sh38 ?_
  refine tr tbk 1 (.mk ?_)
  refine c_drawE [0, 0, 2, 6, 15, 0, 0, 64, 192, 511, 0, 0, 2048, 6144, 16383, 32767, 65535, 131071] (rl [(1, [2]), (2, [2]), (6, [2]), (7, [2]), (11, [2]), (12, [2])] []) (rl [(14, [])] [2]) (rl [(4, false), (9, false), (14, false)] true) [0, 1, 2, 3, 5, 6, 7, 8, 10, 11, 12, 13, 4, 9, 14, 15, 16, 17] mixed (by kernel_rfl) ?_; intro K hK
  refine eM ?_
  refine eF fo38_0 ?_
  refine eL sh3 ?_
  refine eP (fun H hH => yv_to (y := lst 1 fI ([x8.Qty] : List Int)) (yv_buildSlice (ps := [(0, _)]) (rows := [[int x8.Qty]]) rfl Tryz.underlying22 bz3 (.cons rfl .nil) (by kernel_rfl) rfl rfl rfl) rfl) ?_
  refine eM ?_
  refine eF fo38_1 ?_
  refine eL sh3 ?_
  refine eP (fun H hH => yv_to (y := lst 1 fI ([x8.Value] : List Int)) (yv_buildSlice (ps := [(0, _)]) (rows := [[int x8.Value]]) rfl Tryz.underlying22 bz3 (.cons rfl .nil) (by kernel_rfl) rfl rfl rfl) rfl) ?_
  refine eM ?_
  refine eF fo38_2 ?_
  refine eL sh3 ?_
  refine eP (fun H hH => yv_to (y := lst 1 fI ([x8.Profit] : List Int)) (yv_buildSlice (ps := [(0, _)]) (rows := [[int x8.Profit]]) rfl Tryz.underlying22 bz3 (.cons rfl .nil) (by kernel_rfl) rfl rfl rfl) rfl) ?_
  obtain ⟨x10, e10, h1⟩ := bnd_e h1
  obtain ⟨p11, h1⟩ := asrt_e h1
  refine de_eff rfl rfl rfl rfl (yl_appT (g := fI) (l := y0_5) (m := ([x8.Qty] : List Int)) .any rfl Tryz.underlying22 bz3 by3 rfl rfl rfl rfl rfl rfl rfl rfl rfl rfl (Eq.symm rfl) (.refl _) (fun _ => rfl) e10 p11) (by rintro _ _ ⟨v12, -, rfl, rfl⟩; exact ⟨rfl, trivial⟩) ?_; rintro _ _ ⟨v12, -, rfl, rfl⟩
  obtain ⟨x13, e13, h1⟩ := bnd_e h1
  obtain ⟨p14, h1⟩ := asrt_e h1
  refine de_eff rfl rfl rfl rfl (yl_appT (g := fI) (l := y0_6) (m := ([x8.Value] : List Int)) .any rfl Tryz.underlying22 bz3 by3 rfl rfl rfl rfl rfl rfl rfl rfl rfl rfl (Eq.symm rfl) (.refl _) (fun _ => rfl) e13 p14) (by rintro _ _ ⟨v15, -, rfl, rfl⟩; exact ⟨rfl, trivial⟩) ?_; rintro _ _ ⟨v15, -, rfl, rfl⟩
  obtain ⟨x16, e16, h1⟩ := bnd_e h1
  obtain ⟨p17, h1⟩ := asrt_e h1
  refine de_eff rfl rfl rfl rfl (yl_appT (g := fI) (l := y0_7) (m := ([x8.Profit] : List Int)) .any rfl Tryz.underlying22 bz3 by3 rfl rfl rfl rfl rfl rfl rfl rfl rfl rfl (Eq.symm rfl) (.refl _) (fun _ => rfl) e16 p17) (by rintro _ _ ⟨v18, -, rfl, rfl⟩; exact trivial) ?_; rintro _ _ ⟨v18, -, rfl, rfl⟩
  iterate 3 refine eA ?_
  refine de_nil (hK _ ?_)
  refine tc tbk 2 (.mk ?_)
  refine ni tbk h1 fun x19 h1 => ?_
  refine tr tbk 2 (.mk ?_)
  exact bk (x19, x10, x13, x16) (v12, v15, v18) h1 leA
  rintro ⟨y1_4, y1_5, y1_6⟩ ⟨w1_1, w1_2, w1_3⟩ h0
  replace h0 := p2_e h0
  replace h0 := p2_e h0
  refine tc tbk 2 (.mk ?_)
  refine sA 9 z38 fun v20 => ?_
  refine tr tbk 13 (.mk ?_)
  refine sY (yv_buildSlice (ps := [(0, _), (1, _), (2, _)]) (rows := [[.pt 9 v20 0 0, .sl 6 w1_1 0 y1_4.length], [.pt 9 v20 0 1, .sl 7 w1_2 0 y1_5.length], [.pt 9 v20 0 2, .sl 8 w1_3 0 y1_6.length]]) rfl Tryz.underlying145 bz144 (.cons rfl (.cons rfl (.cons rfl .nil))) (by kernel_rfl) rfl rfl rfl) ?_
  refine sY (yv_to (y := int 3) (yv_len_sl rfl Tryz.underlying145 rfl (.list _ _)) rfl) ?_
  refine tr tbk 2 (.mk ?_)
  refine jn h0 [2, 3, 9] [1] (fun (a : GLayer) (k : Unit) => []) (fun a k => [(9, ⟨38, 3, true, true, v20, [[int a.Qty, int a.Value, int a.Profit]]⟩)]) ⟨fun j21 h1 => ?_, ?_⟩
  refine tc tbk 4 (.mk ?_)
  refine sY (yv_to (y := boo true) (yv_lss rfl rfl rfl) (congrArg boo (by decide))) ?_
  refine tr tbk 8 (.mk ?_)
  refine sY (yv_indexAddr (j := 0) rfl Tryz.underlying145 sh144 rfl rfl rfl (.list rfl)) ?_
  refine tr tbk 1 (.mk ?_)
  refine sA 10 z144 fun v22 => ?_
  refine sS ⟨144, 2, true, true, v22, [[.pt 9 v20 0 0, .sl 6 w1_1 0 y1_4.length]]⟩ sh144 ?_
  refine tr tbk 5 (.mk ?_)
  obtain ⟨x23, e23, h1⟩ := bind_e h1
  refine sY (yv_callT (v := .tup [int x23.1, int x23.2]) rfl rfl (.cons rfl .nil) cal47 (.cons (cv_lst rfl rfl rfl rfl rfl (Eq.symm rfl)) .nil) (d_money_Sum_c e23) rfl) ?_
  refine tr tbk 10 (.mk ?_)
  refine nb tbk h1 fun x24 h1 => ?_
  refine tr tbk 1 (.mk ?_)
  replace h1 := asrt_e h1
  obtain ⟨rfl, h1⟩ := h1
  refine tc tbk 7 (.mk ?_)
  refine sS ⟨38, 3, true, true, v20, [[int x23.1, int 0, int 0]]⟩ sh3 ?_
  refine tr tbk 3 (.mk ?_)
  refine sY (yv_add (r := 1) rfl rfl rfl (by decide)) ?_
  refine tr tbk 5 (.mk ?_)
  refine sY (yv_to (y := boo true) (yv_lss rfl rfl rfl) (congrArg boo (by decide))) ?_
  refine tr tbk 8 (.mk ?_)
  refine sY (yv_indexAddr (j := 1) rfl Tryz.underlying145 sh144 rfl rfl rfl (.list rfl)) ?_
  refine tr tbk 1 (.mk ?_)
  refine sA 11 z144 fun v25 => ?_
  refine sS ⟨144, 2, true, true, v25, [[.pt 9 v20 0 1, .sl 7 w1_2 0 y1_5.length]]⟩ sh144 ?_
  refine tr tbk 5 (.mk ?_)
  obtain ⟨x26, e26, h1⟩ := bind_e h1
  refine sY (yv_callT (v := .tup [int x26.1, int x26.2]) rfl rfl (.cons rfl .nil) cal47 (.cons (cv_lst rfl rfl rfl rfl rfl (Eq.symm rfl)) .nil) (d_money_Sum_c e26) rfl) ?_
  refine tr tbk 10 (.mk ?_)
  refine nb tbk h1 fun x27 h1 => ?_
  refine tr tbk 1 (.mk ?_)
  replace h1 := asrt_e h1
  obtain ⟨rfl, h1⟩ := h1
  refine tc tbk 7 (.mk ?_)
  refine sS ⟨38, 3, true, true, v20, [[int x23.1, int x26.1, int 0]]⟩ sh3 ?_
  refine tr tbk 3 (.mk ?_)
  refine sY (yv_add (r := 2) rfl rfl rfl (by decide)) ?_
  refine tr tbk 5 (.mk ?_)
  refine sY (yv_to (y := boo true) (yv_lss rfl rfl rfl) (congrArg boo (by decide))) ?_
  refine tr tbk 8 (.mk ?_)
  refine sY (yv_indexAddr (j := 2) rfl Tryz.underlying145 sh144 rfl rfl rfl (.list rfl)) ?_
  refine tr tbk 1 (.mk ?_)
  refine sA 12 z144 fun v28 => ?_
  refine sS ⟨144, 2, true, true, v28, [[.pt 9 v20 0 2, .sl 8 w1_3 0 y1_6.length]]⟩ sh144 ?_
  refine tr tbk 5 (.mk ?_)
  obtain ⟨x29, e29, h1⟩ := bind_e h1
  refine sY (yv_callT (v := .tup [int x29.1, int x29.2]) rfl rfl (.cons rfl .nil) cal47 (.cons (cv_lst rfl rfl rfl rfl rfl (Eq.symm rfl)) .nil) (d_money_Sum_c e29) rfl) ?_
  refine tr tbk 10 (.mk ?_)
  refine nb tbk h1 fun x30 h1 => ?_
  refine tr tbk 1 (.mk ?_)
  replace h1 := asrt_e h1
  obtain ⟨rfl, h1⟩ := h1
  refine tc tbk 7 (.mk ?_)
  refine sS ⟨38, 3, true, true, v20, [[int x23.1, int x26.1, int x29.1]]⟩ sh3 ?_
  refine tr tbk 3 (.mk ?_)
  refine sY (yv_add (r := 3) rfl rfl rfl (by decide)) ?_
  refine tr tbk 5 (.mk ?_)
  refine sY (yv_to (y := boo false) (yv_lss rfl rfl rfl) (congrArg boo (by decide))) ?_
  refine tr tbk 4 (.mk ?_)
  exact lf h1 () leA
  rintro y2_1 _ h0
  refine tc tbk 3 (.mk ?_)
  refine sS ⟨38, 3, true, true, v2, [[int y2_1.Qty, int y2_1.Value, int y2_1.Profit]]⟩ sh38 ?_
  refine tr tbk 2 (.mk ?_)
  obtain rfl := nxt_e h0
  refine wR hret (rC sh38 (rT .nil)) ?_
  exact .refl _
def d_fifo_steady_L0 (a1 : List GLayer) : Nat → Int → (List Int) → Option ((List Int))
  | 0, _, _ => none
  | n + 1, y0_2, y0_3 =>
    bnd (decide (y0_2 < (a1.length : Int))) fun x4 =>
    cond x4 ((ix a1 y0_2).bind fun x5 =>
    bnd (w64 (0 - x5.Profit)) fun x7 =>
    bnd (if x7 > x5.Profit then x7 else x5.Profit) fun x8 =>
    bnd (y0_3 ++ ([x8] : List Int)) fun x9 =>
    asrt (x9.length ≤ 68719476736) <|
    bnd (w64 (y0_2 + 1)) fun x12 =>
    d_fifo_steady_L0 a1 n (x12 : Int) (x9 : List Int)) (some (y0_3 : List Int))
def d_fifo_steady (n : Nat) (a1 : List GLayer) : Option (Bool) :=
(show Option ((List Int)) from
d_fifo_steady_L0 a1 n (0 : Int) (([] : List Int) : List Int)).bind <| fun y1_2 =>
(d_money_Sum n y1_2).bind fun x13 =>
bnd (decide (x13.2 = 0)) fun x14 =>
some ((x14 : Bool))
theorem d_fifo_steady_c {n : Nat} {a1 : List GLayer} {r : Bool} (h0 : d_fifo_steady n a1 = some r) : PP Tryz.prog 165 [lst 3 GLayer.av a1] (fun y => y = boo r) := by
  unfold d_fifo_steady at h0
  refine pp_of_pc (R0 := fun y H => Cv (frzH H) y (boo r)) ?_ (fun y H hc => ⟨_, rfl, pvB r, hc⟩)
  refine pcw (c := _) Tryz.func165 rfl rfl ?_; intro Q hret hnorm
  refine tc tbk 12 (.mk ?_)
  refine sY (yv_len_sl rfl Tryz.underlying43 rfl (lst_len _)) ?_
  refine tr tbk 2 (.mk ?_)
  refine jn h0 [2] [] (fun (a : (List Int)) (k : Nat) => [(3, .sl 3 k 0 a.length)]) (fun a k => [(3, ⟨3, 1, true, true, k, a.map fI⟩)]) ⟨fun j2 h1 => ?_, ?_⟩
  refine tc tbk 1 (.mk ?_)
  refine c_nilobj 3 3 3 1 rfl rfl ?_; intro v3
  refine lp (fun n (a : Int × (List Int)) => d_fifo_steady_L0 a1 n a.1 a.2) ((0 : Int), (([] : List Int) : List Int)) v3 h1 [2, 8, 9] [] (fun (a : Int × (List Int)) (k : Nat) => [(3, .sl 3 k 0 a.2.length), (10, int a.1)]) (fun a k => [(3, ⟨3, 1, true, true, k, a.2.map fI⟩)]) (fun _ => rfl) ⟨leA, ?_⟩
  rintro n ⟨y0_2, y0_3⟩ w0_1 hm h1
  replace h1 : d_fifo_steady_L0 a1 (n + 1) y0_2 y0_3 = some _ := h1
  rw [d_fifo_steady_L0] at h1
  refine tc tbk 2 (.mk ?_)
  refine nb tbk h1 fun x4 h1 => ?_
  refine tr tbk 2 (.mk ?_)
  cases x4
  replace h1 := cf h1
  refine tc tbk 2 (.mk ?_)
  exact lf h1 w0_1 leA
  replace h1 := ct h1
  refine tc tbk 6 (.mk ?_)
  obtain ⟨x5, e5, h1⟩ := bind_e h1
  refine sY (yv_ixT rfl Tryz.underlying43 sh38 rfl rfl e5) ?_
  refine tr tbk 1 (.mk ?_)
  refine sA 1 z38 fun v6 => ?_
  refine sS ⟨38, 3, true, true, v6, [[int x5.Qty, int x5.Value, int x5.Profit]]⟩ sh38 ?_
  refine tr tbk 7 (.mk ?_)
  refine ni tbk h1 fun x7 h1 => ?_
  obtain ⟨x8, e8, h1⟩ := bnd_e h1
  refine sY (yv_max rfl rfl rfl e8) ?_
  refine sY (yv_to (y := lst 1 fI ([x8] : List Int)) (yv_buildSlice (ps := [(0, _)]) (rows := [[int x8]]) rfl Tryz.underlying22 bz3 (.cons rfl .nil) (by kernel_rfl) rfl rfl rfl) rfl) ?_
  obtain ⟨x9, e9, h1⟩ := bnd_e h1
  obtain ⟨p10, h1⟩ := asrt_e h1
  refine rse rfl rfl rfl (yl_appT (g := fI) (l := y0_3) (m := ([x8] : List Int)) .any rfl Tryz.underlying22 bz3 by3 rfl rfl rfl rfl rfl rfl rfl rfl rfl rfl (Eq.symm rfl) (.refl _) (fun _ => rfl) e9 p10) ?_; rintro _ _ ⟨v11, -, rfl, rfl⟩
  refine tr tbk 4 (.mk ?_)
  refine ni tbk h1 fun x12 h1 => ?_
  refine tr tbk 2 (.mk ?_)
  exact bk (x12, x9) v11 h1 leA
  rintro y1_2 w1_1 h0
  refine tc tbk 3 (.mk ?_)
  obtain ⟨x13, e13, h0⟩ := bind_e h0
  refine sY (yv_callT (v := .tup [int x13.1, int x13.2]) rfl rfl (.cons rfl .nil) cal47 (.cons (cv_lst rfl rfl rfl rfl rfl (Eq.symm rfl)) .nil) (d_money_Sum_c e13) rfl) ?_
  refine tr tbk 9 (.mk ?_)
  refine nb tbk h0 fun x14 h0 => ?_
  refine tr tbk 2 (.mk ?_)
  obtain rfl := nxt_e h0
  refine wR hret (rT .nil) ?_
  exact .refl _
def d_fifo_Right_L0 (a1 : List GLayer) : Nat → Int → Option ((Unit) ⊕ ((Int)))
  | 0, _ => none
  | n + 1, y0_1 =>
    bnd (decide (y0_1 < (a1.length : Int))) fun x7 =>
    cond x7 ((ix a1 y0_1).bind fun x8 =>
    (d_fifo_wrong x8).bind fun x9 =>
    cond x9 (esc (some (y0_1 : Int))) (bnd (w64 (y0_1 + 1)) fun x10 =>
    d_fifo_Right_L0 a1 n (x10 : Int))) (brk ())
def d_fifo_Right (n : Nat) (a1 : List GLayer) : Option (Bool) :=
(show Option (Bool) from
bnd (decide ((a1.length : Int) > 30)) fun x3 =>
cond x3 (some (true : Bool)) ((show Option ((Bool)) from
(show Option ((Int)) from
(show Option ((Unit) ⊕ ((Int))) from
d_fifo_Right_L0 a1 n (0 : Int)).bind <| sel <| fun _ =>
some ((-1) : Int)).bind <| fun y2_1 =>
bnd (decide (y2_1 ≥ 0)) fun x12 =>
some (x12 : Bool)).bind <| fun y3_1 =>
some (y3_1 : Bool))).bind <| fun y4_1 =>
asrt (y4_1 = false) <|
(d_fifo_Total n a1).bind fun x13 =>
(show Option (Bool) from
bnd (decide (x13.2 = 0)) fun x16 =>
cond x16 ((d_fifo_steady n a1).bind fun x17 =>
some (x17 : Bool)) (some (false : Bool))).bind <| fun y5_1 =>
some ((y5_1 : Bool))
theorem d_fifo_Right_c {n : Nat} {a1 : List GLayer} {r : Bool} (h0 : d_fifo_Right n a1 = some r) : PP Tryz.prog 130 [lst 3 GLayer.av a1] (fun y => y = boo r) := by
  unfold d_fifo_Right at h0
  refine pp_of_pc (R0 := fun y H => Cv (frzH H) y (boo r)) ?_ (fun y H hc => ⟨_, rfl, pvB r, hc⟩)
  refine pcw (c := _) Tryz.func130 rfl rfl ?_; intro Q hret hnorm
  refine tc tbk 6 (.mk ?_)
  refine jn h0 [0, 2] [] (fun (a : Bool) (k : Unit) => [(11, boo a)]) (fun a k => []) ⟨fun j2 h1 => ?_, ?_⟩
  refine tc tbk 2 (.mk ?_)
  refine sY (yv_len_sl rfl Tryz.underlying43 rfl (lst_len _)) ?_
  refine nb tbk h1 fun x3 h1 => ?_
  refine tr tbk 1 (.mk ?_)
  cases x3
  replace h1 := cf h1
  refine tr tbk 1 (.mk ?_)
  obtain ⟨j4, h2, h1⟩ := bind_e h1
  refine rse (Out := fun y H' => (∃ (a : Bool) (k : Unit), a = j4 ∧ y = boo a ∧ H' = hk [])) rfl rfl rfl (yl_call rfl rfl (.cons rfl (.cons rfl .nil)) cal163 ?_) ?_
  refine pcw (c := _) Tryz.func163 rfl rfl ?_; intro Q hret hnorm
  refine tc tbk 8 (.mk ?_)
  obtain ⟨j5, h3, h2⟩ := bind_e h2
  refine rse (Out := fun y H' => (∃ (a : Int) (k : Unit), a = j5 ∧ y = int a ∧ H' = hk [])) rfl rfl rfl (yl_call rfl rfl (.cons rfl (.cons rfl .nil)) cal186 ?_) ?_
  refine pcw (c := _) Tryz.func186 rfl rfl ?_; intro Q hret hnorm
  refine tc tbk 8 (.mk ?_)
  refine sY (yv_len_sl rfl Tryz.underlying43 rfl (lst_len _)) ?_
  refine tr tbk 2 (.mk ?_)
  refine jnE h3 [4] [] (fun (a : Unit) (k : Unit) => []) (fun a k => []) ⟨fun j6 h4 h3 => ?_, ?_⟩
  refine tc tbk 1 (.mk ?_)
  refine lp (fun n (a : Int) => d_fifo_Right_L0 a1 n a) (0 : Int) () h4 [0, 1, 4, 7] [] (fun (a : Int) (k : Unit) => [(8, int a)]) (fun a k => []) (fun _ => rfl) ⟨leA, ?_⟩
  rintro n y0_1 _ hm h4
  replace h4 : d_fifo_Right_L0 a1 (n + 1) y0_1 = some _ := h4
  rw [d_fifo_Right_L0] at h4
  refine tc tbk 2 (.mk ?_)
  refine nb tbk h4 fun x7 h4 => ?_
  refine tr tbk 2 (.mk ?_)
  cases x7
  replace h4 := cf h4
  refine tc tbk 2 (.mk ?_)
  exact lfE h4 () leA
  replace h4 := ct h4
  refine tc tbk 14 (.mk ?_)
  obtain ⟨x8, e8, h4⟩ := bind_e h4
  refine sY (yv_ixT rfl Tryz.underlying43 sh38 rfl rfl e8) ?_
  refine tr tbk 1 (.mk ?_)
  obtain ⟨x9, e9, h4⟩ := bind_e h4
  refine sC cal164 (d_fifo_wrong_c e9) ?_
  refine tr tbk 1 (.mk ?_)
  cases x9
  replace h4 := cf h4
  refine tc tbk 4 (.mk ?_)
  refine ni tbk h4 fun x10 h4 => ?_
  refine tr tbk 2 (.mk ?_)
  exact bk x10 () h4 leA
  replace h4 := ct h4
  refine tc tbk 6 (.mk ?_)
  obtain ⟨c11, hX, hj⟩ := esc_e h4; subst hj; replace h3 := hX.trans (sel_r h3)
  obtain rfl := nxt_e h3
  refine w_ret (hret _ _ (hk []) (.tmp rfl .nil) (fun _ _ h => nomatch h) ?_)
  exact ⟨y0_1, (), rfl, rfl, rfl⟩
  rintro _ _ h3
  refine tc tbk 4 (.mk ?_)
  obtain rfl := nxt_e h3
  refine w_ret (hret _ _ (hk []) (.tmp rfl .nil) (fun _ _ h => nomatch h) ?_)
  exact ⟨(-1), (), rfl, rfl, rfl⟩
  rintro y _ ⟨y2_1, _, rfl, hc, rfl⟩
  subst hc
  refine nb tbk h2 fun x12 h2 => ?_
  refine tr tbk 2 (.mk ?_)
  obtain rfl := nxt_e h2
  refine w_ret (hret _ _ (hk []) (.tmp rfl .nil) (fun _ _ h => nomatch h) ?_)
  exact ⟨x12, (), rfl, rfl, rfl⟩
  rintro y _ ⟨y3_1, _, rfl, hc, rfl⟩
  subst hc
  refine tr tbk 2 (.mk ?_)
  exact lf h1 () leA
  replace h1 := ct h1
  refine tr tbk 4 (.mk ?_)
  exact lf h1 () leA
  rintro y4_1 _ h0
  replace h0 := asrt_e h0
  obtain ⟨rfl, h0⟩ := h0
  refine tc tbk 5 (.mk ?_)
  obtain ⟨x13, e13, h0⟩ := bind_e h0
  refine sC cal46 (d_fifo_Total_c e13) ?_
  refine tr tbk 3 (.mk ?_)
  refine sA 1 z38 fun v14 => ?_
  refine sS ⟨38, 3, true, true, v14, [[int x13.1.Qty, int x13.1.Value, int x13.1.Profit]]⟩ sh38 ?_
  refine tr tbk 3 (.mk ?_)
  refine jn h0 [] [] (fun (a : Bool) (k : Unit) => [(2, boo a)]) (fun a k => []) ⟨fun j15 h1 => ?_, ?_⟩
  refine tc tbk 2 (.mk ?_)
  refine nb tbk h1 fun x16 h1 => ?_
  refine tr tbk 1 (.mk ?_)
  cases x16
  replace h1 := cf h1
  refine tr tbk 5 (.mk ?_)
  exact lf h1 () leA
  replace h1 := ct h1
  refine tr tbk 1 (.mk ?_)
  obtain ⟨x17, e17, h1⟩ := bind_e h1
  refine sC cal165 (d_fifo_steady_c e17) ?_
  refine tr tbk 3 (.mk ?_)
  exact lf h1 () leA
  rintro y5_1 _ h0
  obtain rfl := nxt_e h0
  refine wR hret (rT .nil) ?_
  exact .refl _
def d_fifo_In (n : Nat) (a1 : List GLayer) (a2 : GLayer) : Option ((List GLayer) × Int) :=
asrt (a1.length ≤ 68719476736) <|
(show Option (Bool) from
bnd (decide (a2.Qty < 1)) fun x7 =>
cond x7 (some (true : Bool)) (bnd (decide (a2.Value < 0)) fun x8 =>
some (x8 : Bool))).bind <| fun y0_1 =>
asrt (y0_1 = false) <|
bnd (decide ((a1.length : Int) ≥ 30)) fun x9 =>
asrt (x9 = false) <|
asrt (a1.length ≤ 68719476736) <|
bnd (a1 ++ ([a2] : List GLayer)) fun x12 =>
asrt (x12.length ≤ 68719476736) <|
(d_fifo_Right n x12).bind fun x15 =>
bnd (!x15) fun x16 =>
asrt (x16 = false) <|
some ((x12 : List GLayer), (0 : Int))
theorem d_fifo_In_c {n : Nat} {a1 : List GLayer} {a2 : GLayer} {r : (List GLayer) × Int} (h0 : d_fifo_In n a1 a2 = some r) : PP Tryz.prog 217 [lst 3 GLayer.av a1, .agg (GLayer.av a2)] (fun y => y = .tup [lst 3 GLayer.av r.1, int r.2]) := by
  unfold d_fifo_In at h0
  refine pp_of_pc (R0 := fun y H => Cv (frzH H) y (.tup [lst 3 GLayer.av r.1, int r.2])) ?_ (fun y H hc => ⟨_, rfl, .tup (pvl2 ((pvLs GLayer.pvc) (r.1)) (pvI (r.2))), hc⟩)
  refine pcw (c := _) Tryz.func217 rfl rfl ?_; intro Q hret hnorm
  refine tc tbk 2 (.mk ?_)
  refine sB 1 fun v3 => ?_
  refine tr tbk 6 (.mk ?_)
  obtain ⟨p4, h0⟩ := asrt_e h0
  refine rse rfl rfl rfl (yl_call rfl rfl (.cons rfl .nil) cal29 (pc_cv (clone29_c (id := 2) (l := a1) rfl p4) (.cons (.refl _) .nil))) ?_; rintro _ _ ⟨v5, rfl, rfl⟩
  refine tr tbk 5 (.mk ?_)
  refine jn h0 [0, 3, 4, 5] [1, 2] (fun (a : Bool) (k : Unit) => [(9, boo a)]) (fun a k => []) ⟨fun j6 h1 => ?_, ?_⟩
  refine tc tbk 3 (.mk ?_)
  refine nb tbk h1 fun x7 h1 => ?_
  refine tr tbk 1 (.mk ?_)
  cases x7
  replace h1 := cf h1
  refine tr tbk 2 (.mk ?_)
  refine nb tbk h1 fun x8 h1 => ?_
  refine tr tbk 3 (.mk ?_)
  exact lf h1 () leA
  replace h1 := ct h1
  refine tr tbk 6 (.mk ?_)
  exact lf h1 () leA
  rintro y0_1 _ h0
  replace h0 := asrt_e h0
  obtain ⟨rfl, h0⟩ := h0
  refine tc tbk 4 (.mk ?_)
  refine sY (yv_len_sl rfl Tryz.underlying43 rfl (.sl rfl rfl)) ?_
  refine nb tbk h0 fun x9 h0 => ?_
  refine tr tbk 2 (.mk ?_)
  replace h0 := asrt_e h0
  obtain ⟨rfl, h0⟩ := h0
  refine tc tbk 4 (.mk ?_)
  refine c_drawE [0, 1, 0, 4, 15, 31] (rl [(2, [1])] []) (rl [(4, [])] [1]) (rl [(1, false), (4, false)] true) [0, 2, 3, 1, 4, 5] mixed (by kernel_rfl) ?_; intro K hK
  refine eM ?_
  refine eL sh38 ?_
  refine eP (fun H hH => yv_to (y := lst 3 GLayer.av ([a2] : List GLayer)) (yv_buildSlice (ps := [(0, _)]) (rows := [[int a2.Qty, int a2.Value, int a2.Profit]]) rfl Tryz.underlying43 bz38 (.cons rfl .nil) (by kernel_rfl) rfl rfl rfl) rfl) ?_
  obtain ⟨p10, h0⟩ := asrt_e h0
  refine de_eff rfl rfl rfl rfl (Yield.frz 2 rfl (yl_call rfl rfl (.cons rfl .nil) cal29 (pc_cv (clone29_c (id := 3) (l := a1) rfl p10) (.cons (cv_lst rfl rfl rfl rfl rfl (Eq.symm rfl)) .nil)))) (by rintro _ _ ⟨v11, rfl, rfl⟩; exact ⟨rfl, trivial⟩) ?_; rintro _ _ ⟨v11, rfl, rfl⟩
  obtain ⟨x12, e12, h0⟩ := bnd_e h0
  obtain ⟨p13, h0⟩ := asrt_e h0
  refine de_eff rfl rfl rfl rfl (yl_appT (g := GLayer.av) (l := a1) (m := ([a2] : List GLayer)) .any rfl Tryz.underlying43 bz38 by38 rfl rfl rfl rfl rfl rfl rfl rfl rfl rfl (Eq.symm rfl) (.refl _) (fun _ => rfl) e12 p13) (by rintro _ _ ⟨v14, -, rfl, rfl⟩; exact trivial) ?_; rintro _ _ ⟨v14, -, rfl, rfl⟩
  refine eA ?_
  refine de_nil (hK _ ?_)
  refine tc tbk 4 (.mk ?_)
  obtain ⟨x15, e15, h0⟩ := bind_e h0
  refine sY (yv_callT (v := boo x15) rfl rfl (.cons rfl .nil) cal130 (.cons (cv_lst rfl rfl rfl rfl rfl (Eq.symm rfl)) .nil) (d_fifo_Right_c e15) rfl) ?_
  refine nb tbk h0 fun x16 h0 => ?_
  refine tr tbk 1 (.mk ?_)
  replace h0 := asrt_e h0
  obtain ⟨rfl, h0⟩ := h0
  refine tc tbk 8 (.mk ?_)
  obtain rfl := nxt_e h0
  refine wR hret (rT (rT .nil)) ?_
  exact CvL.tup (.cons (cv_lst rfl rfl rfl rfl rfl (Eq.symm rfl)) (.cons (.refl _) .nil))
def d_mavg_In (n : Nat) (a1 : List GLayer) (a2 : GLayer) : Option ((List GLayer) × Int) :=
(show Option ((Unit)) from
some ()).bind <| fun _ =>
(d_fifo_In n a1 a2).bind fun x6 =>
bnd (decide (x6.2 ≠ 0)) fun x7 =>
asrt (x7 = false) <|
(show Option ((Unit)) from
some ()).bind <| fun _ =>
(d_fifo_Total n x6.1).bind fun x10 =>
bnd (decide (x10.2 ≠ 0)) fun x12 =>
asrt (x12 = false) <|
some ((([x10.1] : List GLayer) : List GLayer), (0 : Int))
theorem d_mavg_In_c {n : Nat} {a1 : List GLayer} {a2 : GLayer} {r : (List GLayer) × Int} (h0 : d_mavg_In n a1 a2 = some r) : PP Tryz.prog 228 [lst 3 GLayer.av a1, .agg (GLayer.av a2)] (fun y => y = .tup [lst 3 GLayer.av r.1, int r.2]) := by
  unfold d_mavg_In at h0
  refine pp_of_pc (R0 := fun y H => Cv (frzH H) y (.tup [lst 3 GLayer.av r.1, int r.2])) ?_ (fun y H hc => ⟨_, rfl, .tup (pvl2 ((pvLs GLayer.pvc) (r.1)) (pvI (r.2))), hc⟩)
  refine pcw (c := _) Tryz.func228 rfl rfl ?_; intro Q hret hnorm
  refine tc tbk 2 (.mk ?_)
  refine sB 1 fun v3 => ?_
  refine tr tbk 4 (.mk ?_)
  refine c_drawE [0, 1, 0, 0, 15, 31, 63, 63, 127, 511] (rl [(3, [1])] []) (fun i => [1]) (rl [(0, false)] true) [2, 3, 0, 1, 4, 5, 6, 7, 8, 9] mixed (by kernel_rfl) ?_; intro K hK
  refine eM ?_
  refine eL sh38 ?_
  obtain ⟨j4, h1, h0⟩ := bind_e h0
  refine de_eff (Out := fun y H' => (∃ (a : Unit) (k : Unit), a = j4 ∧ y = .agg [.fn (.func 217) [] [], .fn (.func 218) [] [], .fn (.func 46) [] []] ∧ H' = hk [(1, ⟨38, 3, true, true, v3, [[int a2.Qty, int a2.Value, int a2.Profit]]⟩)])) rfl rfl rfl rfl (yl_call rfl rfl .nil cal230 ?_) (by rintro y _ ⟨_, _, rfl, hc, rfl⟩ <;> exact ⟨rfl, trivial⟩) ?_
  refine pcw (c := _) Tryz.func230 rfl rfl ?_; intro Q hret hnorm
  refine tc tbk 2 (.mk ?_)
  refine sA 2 z251 fun v5 => ?_
  refine tr tbk 4 (.mk ?_)
  refine sS ⟨251, 3, true, true, v5, [[.fn (.func 217) [] [], .fn (.func 218) [] [], .fn (.func 46) [] []]]⟩ sh251 ?_
  refine tr tbk 1 (.mk ?_)
  obtain rfl := nxt_e h1
  refine w_ret (hret _ _ (hk [(1, ⟨38, 3, true, true, v3, [[int a2.Qty, int a2.Value, int a2.Profit]]⟩)]) (.cell rfl (.pt rfl rfl rfl) sh251 rfl .nil) (HK.le ⟨rfl, trivial⟩) ?_)
  exact ⟨(), (), rfl, rfl, rfl⟩
  rintro y _ ⟨_, _, rfl, hc, rfl⟩
  subst hc
  refine eP (fun H hH => yv_field rfl fp251_0 sh221 rfl rfl) ?_
  obtain ⟨x6, e6, h0⟩ := bind_e h0
  refine eP (fun H hH => yv_callP rfl rfl (.cons rfl (.cons rfl .nil)) cal217 (CvL.refl _) (d_fifo_In_c e6)) ?_
  refine eM ?_
  iterate 2 refine eX ?_
  iterate 2 refine eA ?_
  refine de_nil (hK _ ?_)
  refine tc tbk 4 (.mk ?_)
  refine nb tbk h0 fun x7 h0 => ?_
  refine tr tbk 1 (.mk ?_)
  replace h0 := asrt_e h0
  obtain ⟨rfl, h0⟩ := h0
  refine tc tbk 4 (.mk ?_)
  obtain ⟨j8, h1, h0⟩ := bind_e h0
  refine rse (Out := fun y H' => (∃ (a : Unit) (k : Unit), a = j8 ∧ y = .agg [.fn (.func 217) [] [], .fn (.func 218) [] [], .fn (.func 46) [] []] ∧ H' = hk [(1, ⟨38, 3, true, true, v3, [[int a2.Qty, int a2.Value, int a2.Profit]]⟩)])) rfl rfl rfl (yl_call rfl rfl .nil cal230 ?_) ?_
  refine pcw (c := _) Tryz.func230 rfl rfl ?_; intro Q hret hnorm
  refine tc tbk 2 (.mk ?_)
  refine sA 3 z251 fun v9 => ?_
  refine tr tbk 4 (.mk ?_)
  refine sS ⟨251, 3, true, true, v9, [[.fn (.func 217) [] [], .fn (.func 218) [] [], .fn (.func 46) [] []]]⟩ sh251 ?_
  refine tr tbk 1 (.mk ?_)
  obtain rfl := nxt_e h1
  refine w_ret (hret _ _ (hk [(1, ⟨38, 3, true, true, v3, [[int a2.Qty, int a2.Value, int a2.Profit]]⟩)]) (.cell rfl (.pt rfl rfl rfl) sh251 rfl .nil) (HK.le ⟨rfl, trivial⟩) ?_)
  exact ⟨(), (), rfl, rfl, rfl⟩
  rintro y _ ⟨_, _, rfl, hc, rfl⟩
  subst hc
  refine tr tbk 2 (.mk ?_)
  obtain ⟨x10, e10, h0⟩ := bind_e h0
  refine sC cal46 (d_fifo_Total_c e10) ?_
  refine tr tbk 3 (.mk ?_)
  refine sA 4 z38 fun v11 => ?_
  refine sS ⟨38, 3, true, true, v11, [[int x10.1.Qty, int x10.1.Value, int x10.1.Profit]]⟩ sh38 ?_
  refine tr tbk 6 (.mk ?_)
  refine nb tbk h0 fun x12 h0 => ?_
  refine tr tbk 1 (.mk ?_)
  replace h0 := asrt_e h0
  obtain ⟨rfl, h0⟩ := h0
  refine tc tbk 5 (.mk ?_)
  refine sY (yv_to (y := lst 3 GLayer.av ([x10.1] : List GLayer)) (yv_buildSlice (ps := [(0, _)]) (rows := [[int x10.1.Qty, int x10.1.Value, int x10.1.Profit]]) rfl Tryz.underlying43 bz38 (.cons rfl .nil) (by kernel_rfl) rfl rfl rfl) rfl) ?_
  refine tr tbk 3 (.mk ?_)
  obtain rfl := nxt_e h0
  refine wR hret (rT (rT .nil)) ?_
  exact .refl _
def d_stdcost_In (n : Nat) (a1 : List GLayer) (a2 : GLayer) (a3 : Int) : Option ((List GLayer) × Int × Int) :=
asrt (a1.length ≤ 68719476736) <|
(show Option (Bool) from
(d_stdcost_rate_fits a3).bind fun x8 =>
bnd (!x8) fun x9 =>
cond x9 (some (true : Bool)) (bnd (decide (a2.Qty < 1)) fun x10 =>
cond x10 (some (true : Bool)) (bnd (decide (a2.Value < 0)) fun x11 =>
some (x11 : Bool)))).bind <| fun y0_1 =>
asrt (y0_1 = false) <|
(d_stdcost_rate_of n a3 a2.Qty).bind fun x12 =>
(show Option (Bool) from
bnd (decide (x12.2 ≠ 0)) fun x14 =>
cond x14 (some (true : Bool)) (bnd (decide (a2.Value > 288230376151711744)) fun x15 =>
some (x15 : Bool))).bind <| fun y1_1 =>
asrt (y1_1 = false) <|
bnd (w64 (a2.Value - x12.1)) fun x16 =>
(show Option (((List GLayer))) from
(show Option ((Unit)) from
some ()).bind <| fun _ =>
(show Option (((List GLayer))) from
asrt (a1.length ≤ 68719476736) <|
(show Option (Bool) from
bnd (decide (a2.Qty < 1)) fun x26 =>
cond x26 (some (true : Bool)) (bnd (decide (x12.1 < 0)) fun x27 =>
some (x27 : Bool))).bind <| fun y3_1 =>
asrt (y3_1 = false) <|
bnd (decide ((a1.length : Int) ≥ 30)) fun x28 =>
asrt (x28 = false) <|
asrt (a1.length ≤ 68719476736) <|
bnd (a1 ++ ([(⟨a2.Qty, x12.1, a2.Profit⟩ : GLayer)] : List GLayer)) fun x31 =>
asrt (x31.length ≤ 68719476736) <|
(d_fifo_Right n x31).bind fun x34 =>
bnd (!x34) fun x35 =>
asrt (x35 = false) <|
some (x31 : List GLayer)).bind <| fun y4_2 =>
(show Option ((Unit)) from
some ()).bind <| fun _ =>
(d_fifo_Total n y4_2).bind fun x38 =>
bnd (decide (x38.2 ≠ 0)) fun x40 =>
asrt (x40 = false) <|
some (([x38.1] : List GLayer) : List GLayer)).bind <| fun y8_1 =>
some ((y8_1 : List GLayer), (x16 : Int), (0 : Int))
theorem d_stdcost_In_c {n : Nat} {a1 : List GLayer} {a2 : GLayer} {a3 : Int} {r : (List GLayer) × Int × Int} (h0 : d_stdcost_In n a1 a2 a3 = some r) : PP Tryz.prog 237 [lst 3 GLayer.av a1, .agg (GLayer.av a2), int a3] (fun y => y = .tup [lst 3 GLayer.av r.1, int r.2.1, int r.2.2]) := by
  unfold d_stdcost_In at h0
  refine pp_of_pc (R0 := fun y H => Cv (frzH H) y (.tup [lst 3 GLayer.av r.1, int r.2.1, int r.2.2])) ?_ (fun y H hc => ⟨_, rfl, .tup (pvl3 ((pvLs GLayer.pvc) (r.1)) (pvI (r.2.1)) (pvI (r.2.2))), hc⟩)
  refine pcw (c := _) Tryz.func237 rfl rfl ?_; intro Q hret hnorm
  refine tc tbk 2 (.mk ?_)
  refine sB 1 fun v4 => ?_
  refine tr tbk 7 (.mk ?_)
  obtain ⟨p5, h0⟩ := asrt_e h0
  refine rse rfl rfl rfl (yl_call rfl rfl (.cons rfl .nil) cal29 (pc_cv (clone29_c (id := 2) (l := a1) rfl p5) (.cons (.refl _) .nil))) ?_; rintro _ _ ⟨v6, rfl, rfl⟩
  refine tr tbk 9 (.mk ?_)
  refine jn h0 [0, 2, 4, 6, 7, 8, 10] [1, 2] (fun (a : Bool) (k : Unit) => [(30, boo a)]) (fun a k => []) ⟨fun j7 h1 => ?_, ?_⟩
  refine tc tbk 3 (.mk ?_)
  obtain ⟨x8, e8, h1⟩ := bind_e h1
  refine sC cal239 (d_stdcost_rate_fits_c e8) ?_
  refine nb tbk h1 fun x9 h1 => ?_
  refine tr tbk 1 (.mk ?_)
  cases x9
  replace h1 := cf h1
  refine tr tbk 2 (.mk ?_)
  refine nb tbk h1 fun x10 h1 => ?_
  refine tr tbk 2 (.mk ?_)
  cases x10
  replace h1 := cf h1
  refine tr tbk 2 (.mk ?_)
  refine nb tbk h1 fun x11 h1 => ?_
  refine tr tbk 2 (.mk ?_)
  exact lf h1 () leA
  replace h1 := ct h1
  refine tr tbk 5 (.mk ?_)
  exact lf h1 () leA
  replace h1 := ct h1
  refine tr tbk 10 (.mk ?_)
  exact lf h1 () leA
  rintro y0_1 _ h0
  replace h0 := asrt_e h0
  obtain ⟨rfl, h0⟩ := h0
  refine tc tbk 8 (.mk ?_)
  obtain ⟨x12, e12, h0⟩ := bind_e h0
  refine sC cal240 (d_stdcost_rate_of_c e12) ?_
  refine tr tbk 8 (.mk ?_)
  refine jn h0 [0, 4, 6, 7, 8, 11] [1, 2] (fun (a : Bool) (k : Unit) => [(46, boo a)]) (fun a k => []) ⟨fun j13 h1 => ?_, ?_⟩
  refine tc tbk 2 (.mk ?_)
  refine nb tbk h1 fun x14 h1 => ?_
  refine tr tbk 1 (.mk ?_)
  cases x14
  replace h1 := cf h1
  refine tr tbk 2 (.mk ?_)
  refine nb tbk h1 fun x15 h1 => ?_
  refine tr tbk 2 (.mk ?_)
  exact lf h1 () leA
  replace h1 := ct h1
  refine tr tbk 5 (.mk ?_)
  exact lf h1 () leA
  rintro y1_1 _ h0
  replace h0 := asrt_e h0
  obtain ⟨rfl, h0⟩ := h0
  refine tc tbk 7 (.mk ?_)
  refine ni tbk h0 fun x16 h0 => ?_
  refine tr tbk 6 (.mk ?_)
  refine sS ⟨38, 3, true, true, v4, [[int a2.Qty, int x12.1, int a2.Profit]]⟩ sh3 ?_
  refine tr tbk 5 (.mk ?_)
  obtain ⟨j17, h1, h0⟩ := bind_e h0
  refine rse (Out := fun y H' => (∃ (a : (List GLayer)) (k : Unit), a = j17 ∧ y = .tup [lst 3 GLayer.av a, int 0] ∧ H' = hk [(1, ⟨38, 3, true, true, v4, [[int a2.Qty, int x12.1, int a2.Profit]]⟩), (2, ⟨38, 3, false, true, v6, a1.map GLayer.av⟩)])) rfl rfl rfl (yl_call rfl rfl (.cons rfl (.cons rfl .nil)) cal228 ?_) ?_
  refine pcw (c := _) Tryz.func228 rfl rfl ?_; intro Q hret hnorm
  refine tc tbk 2 (.mk ?_)
  refine sB 3 fun v18 => ?_
  refine tr tbk 4 (.mk ?_)
  refine c_drawE [0, 1, 0, 0, 15, 31, 63, 63, 127, 511] (rl [(3, [3])] []) (rl [(4, [])] [3]) (rl [(0, false), (4, false)] true) [2, 3, 0, 1, 4, 5, 6, 7, 8, 9] mixed (by kernel_rfl) ?_; intro K hK
  refine eM ?_
  refine eL sh38 ?_
  obtain ⟨j19, h2, h1⟩ := bind_e h1
  refine de_eff (Out := fun y H' => (∃ (a : Unit) (k : Unit), a = j19 ∧ y = .agg [.fn (.func 217) [] [], .fn (.func 218) [] [], .fn (.func 46) [] []] ∧ H' = hk [(1, ⟨38, 3, true, true, v4, [[int a2.Qty, int x12.1, int a2.Profit]]⟩), (2, ⟨38, 3, true, true, v6, a1.map GLayer.av⟩), (3, ⟨38, 3, true, true, v18, [[int a2.Qty, int x12.1, int a2.Profit]]⟩)])) rfl rfl rfl rfl (yl_call rfl rfl .nil cal230 ?_) (by rintro y _ ⟨_, _, rfl, hc, rfl⟩ <;> exact ⟨rfl, trivial⟩) ?_
  refine pcw (c := _) Tryz.func230 rfl rfl ?_; intro Q hret hnorm
  refine tc tbk 2 (.mk ?_)
  refine sA 4 z251 fun v20 => ?_
  refine tr tbk 4 (.mk ?_)
  refine sS ⟨251, 3, true, true, v20, [[.fn (.func 217) [] [], .fn (.func 218) [] [], .fn (.func 46) [] []]]⟩ sh251 ?_
  refine tr tbk 1 (.mk ?_)
  obtain rfl := nxt_e h2
  refine w_ret (hret _ _ (hk [(1, ⟨38, 3, true, true, v4, [[int a2.Qty, int x12.1, int a2.Profit]]⟩), (2, ⟨38, 3, true, true, v6, a1.map GLayer.av⟩), (3, ⟨38, 3, true, true, v18, [[int a2.Qty, int x12.1, int a2.Profit]]⟩)]) (.cell rfl (.pt rfl rfl rfl) sh251 rfl .nil) (HK.le ⟨rfl, rfl, rfl, trivial⟩) ?_)
  exact ⟨(), (), rfl, rfl, rfl⟩
  rintro y _ ⟨_, _, rfl, hc, rfl⟩
  subst hc
  refine eP (fun H hH => yv_field rfl fp251_0 sh221 rfl rfl) ?_
  obtain ⟨j21, h2, h1⟩ := bind_e h1
  refine de_eff (Out := fun y H' => (∃ (a : (List GLayer)) (k : Nat), a = j21 ∧ y = .tup [.sl 7 k 0 a.length, int 0] ∧ H' = hk [(1, ⟨38, 3, true, true, v4, [[int a2.Qty, int x12.1, int a2.Profit]]⟩), (2, ⟨38, 3, false, true, v6, a1.map GLayer.av⟩), (3, ⟨38, 3, true, true, v18, [[int a2.Qty, int x12.1, int a2.Profit]]⟩), (7, ⟨38, 3, true, true, k, a.map GLayer.av⟩)])) rfl rfl rfl rfl (yl_call rfl rfl (.cons rfl (.cons rfl .nil)) cal217 ?_) (by rintro y _ ⟨y4_2, w4_1, rfl, hc, rfl⟩ <;> exact trivial) ?_
  refine pcw (c := _) Tryz.func217 rfl rfl ?_; intro Q hret hnorm
  refine tc tbk 2 (.mk ?_)
  refine sB 5 fun v22 => ?_
  refine tr tbk 6 (.mk ?_)
  obtain ⟨p23, h2⟩ := asrt_e h2
  refine rse rfl rfl rfl (Yield.frz 2 rfl (yl_call rfl rfl (.cons rfl .nil) cal29 (pc_cv (clone29_c (id := 6) (l := a1) rfl p23) (.cons (cv_lst rfl rfl rfl rfl rfl (Eq.symm rfl)) .nil)))) ?_; rintro _ _ ⟨v24, rfl, rfl⟩
  refine tr tbk 5 (.mk ?_)
  refine jn h2 [0, 3, 4, 5] [1, 2, 3, 5, 6] (fun (a : Bool) (k : Unit) => [(9, boo a)]) (fun a k => []) ⟨fun j25 h3 => ?_, ?_⟩
  refine tc tbk 3 (.mk ?_)
  refine nb tbk h3 fun x26 h3 => ?_
  refine tr tbk 1 (.mk ?_)
  cases x26
  replace h3 := cf h3
  refine tr tbk 2 (.mk ?_)
  refine nb tbk h3 fun x27 h3 => ?_
  refine tr tbk 3 (.mk ?_)
  exact lf h3 () leA
  replace h3 := ct h3
  refine tr tbk 6 (.mk ?_)
  exact lf h3 () leA
  rintro y3_1 _ h2
  replace h2 := asrt_e h2
  obtain ⟨rfl, h2⟩ := h2
  refine tc tbk 4 (.mk ?_)
  refine sY (yv_len_sl rfl Tryz.underlying43 rfl (.sl rfl rfl)) ?_
  refine nb tbk h2 fun x28 h2 => ?_
  refine tr tbk 2 (.mk ?_)
  replace h2 := asrt_e h2
  obtain ⟨rfl, h2⟩ := h2
  refine tc tbk 4 (.mk ?_)
  refine c_drawE [0, 1, 0, 4, 15, 31] (rl [(2, [5])] []) (rl [(4, [])] [5]) (rl [(1, false), (4, false)] true) [0, 2, 3, 1, 4, 5] mixed (by kernel_rfl) ?_; intro K hK
  refine eM ?_
  refine eL sh38 ?_
  refine eP (fun H hH => yv_to (y := lst 3 GLayer.av ([(⟨a2.Qty, x12.1, a2.Profit⟩ : GLayer)] : List GLayer)) (yv_buildSlice (ps := [(0, _)]) (rows := [[int a2.Qty, int x12.1, int a2.Profit]]) rfl Tryz.underlying43 bz38 (.cons rfl .nil) (by kernel_rfl) rfl rfl rfl) rfl) ?_
  obtain ⟨p29, h2⟩ := asrt_e h2
  refine de_eff rfl rfl rfl rfl (Yield.frz 6 rfl (yl_call rfl rfl (.cons rfl .nil) cal29 (pc_cv (clone29_c (id := 7) (l := a1) rfl p29) (.cons (cv_lst rfl rfl rfl rfl rfl (Eq.symm rfl)) .nil)))) (by rintro _ _ ⟨v30, rfl, rfl⟩; exact ⟨rfl, trivial⟩) ?_; rintro _ _ ⟨v30, rfl, rfl⟩
  obtain ⟨x31, e31, h2⟩ := bnd_e h2
  obtain ⟨p32, h2⟩ := asrt_e h2
  refine de_eff rfl rfl rfl rfl (yl_appT (g := GLayer.av) (l := a1) (m := ([(⟨a2.Qty, x12.1, a2.Profit⟩ : GLayer)] : List GLayer)) .any rfl Tryz.underlying43 bz38 by38 rfl rfl rfl rfl rfl rfl rfl rfl rfl rfl (Eq.symm rfl) (.refl _) (fun _ => rfl) e31 p32) (by rintro _ _ ⟨v33, -, rfl, rfl⟩; exact trivial) ?_; rintro _ _ ⟨v33, -, rfl, rfl⟩
  refine eA ?_
  refine de_nil (hK _ ?_)
  refine tc tbk 4 (.mk ?_)
  obtain ⟨x34, e34, h2⟩ := bind_e h2
  refine sY (yv_callT (v := boo x34) rfl rfl (.cons rfl .nil) cal130 (.cons (cv_lst rfl rfl rfl rfl rfl (Eq.symm rfl)) .nil) (d_fifo_Right_c e34) rfl) ?_
  refine nb tbk h2 fun x35 h2 => ?_
  refine tr tbk 1 (.mk ?_)
  replace h2 := asrt_e h2
  obtain ⟨rfl, h2⟩ := h2
  refine tc tbk 8 (.mk ?_)
  obtain rfl := nxt_e h2
  refine w_ret (hret _ _ (hk [(1, ⟨38, 3, true, true, v4, [[int a2.Qty, int x12.1, int a2.Profit]]⟩), (2, ⟨38, 3, false, true, v6, a1.map GLayer.av⟩), (3, ⟨38, 3, true, true, v18, [[int a2.Qty, int x12.1, int a2.Profit]]⟩), (7, ⟨38, 3, true, true, v33, x31.map GLayer.av⟩)]) (.tmp rfl (.tmp rfl .nil)) (HK.le ⟨rfl, rfl, rfl, rfl, trivial⟩) ?_)
  exact ⟨x31, v33, rfl, rfl, rfl⟩
  rintro y _ ⟨y4_2, w4_1, rfl, hc, rfl⟩
  subst hc
  refine eM ?_
  iterate 2 refine eX ?_
  iterate 2 refine eA ?_
  refine de_nil (hK _ ?_)
  refine tc tbk 4 (.mk ?_)
  refine sY (yv_to (y := boo false) (yv_neq rfl rfl rfl) (congrArg boo (by decide))) ?_
  refine tr tbk 5 (.mk ?_)
  obtain ⟨j36, h2, h1⟩ := bind_e h1
  refine rse (Out := fun y H' => (∃ (a : Unit) (k : Unit), a = j36 ∧ y = .agg [.fn (.func 217) [] [], .fn (.func 218) [] [], .fn (.func 46) [] []] ∧ H' = hk [(1, ⟨38, 3, true, true, v4, [[int a2.Qty, int x12.1, int a2.Profit]]⟩), (2, ⟨38, 3, false, true, v6, a1.map GLayer.av⟩), (3, ⟨38, 3, true, true, v18, [[int a2.Qty, int x12.1, int a2.Profit]]⟩), (7, ⟨38, 3, true, true, w4_1, y4_2.map GLayer.av⟩)])) rfl rfl rfl (yl_call rfl rfl .nil cal230 ?_) ?_
  refine pcw (c := _) Tryz.func230 rfl rfl ?_; intro Q hret hnorm
  refine tc tbk 2 (.mk ?_)
  refine sA 8 z251 fun v37 => ?_
  refine tr tbk 4 (.mk ?_)
  refine sS ⟨251, 3, true, true, v37, [[.fn (.func 217) [] [], .fn (.func 218) [] [], .fn (.func 46) [] []]]⟩ sh251 ?_
  refine tr tbk 1 (.mk ?_)
  obtain rfl := nxt_e h2
  refine w_ret (hret _ _ (hk [(1, ⟨38, 3, true, true, v4, [[int a2.Qty, int x12.1, int a2.Profit]]⟩), (2, ⟨38, 3, false, true, v6, a1.map GLayer.av⟩), (3, ⟨38, 3, true, true, v18, [[int a2.Qty, int x12.1, int a2.Profit]]⟩), (7, ⟨38, 3, true, true, w4_1, y4_2.map GLayer.av⟩)]) (.cell rfl (.pt rfl rfl rfl) sh251 rfl .nil) (HK.le ⟨rfl, rfl, rfl, rfl, trivial⟩) ?_)
  exact ⟨(), (), rfl, rfl, rfl⟩
  rintro y _ ⟨_, _, rfl, hc, rfl⟩
  subst hc
  refine tr tbk 2 (.mk ?_)
  obtain ⟨x38, e38, h1⟩ := bind_e h1
  refine sY (yv_callT (v := .tup [.agg [int x38.1.Qty, int x38.1.Value, int x38.1.Profit], int x38.2]) rfl rfl (.cons rfl .nil) cal46 (.cons (cv_lst rfl rfl rfl rfl rfl (Eq.symm rfl)) .nil) (d_fifo_Total_c e38) rfl) ?_
  refine tr tbk 3 (.mk ?_)
  refine sA 9 z38 fun v39 => ?_
  refine sS ⟨38, 3, true, true, v39, [[int x38.1.Qty, int x38.1.Value, int x38.1.Profit]]⟩ sh38 ?_
  refine tr tbk 6 (.mk ?_)
  refine nb tbk h1 fun x40 h1 => ?_
  refine tr tbk 1 (.mk ?_)
  replace h1 := asrt_e h1
  obtain ⟨rfl, h1⟩ := h1
  refine tc tbk 5 (.mk ?_)
  refine sY (yv_to (y := lst 3 GLayer.av ([x38.1] : List GLayer)) (yv_buildSlice (ps := [(0, _)]) (rows := [[int x38.1.Qty, int x38.1.Value, int x38.1.Profit]]) rfl Tryz.underlying43 bz38 (.cons rfl .nil) (by kernel_rfl) rfl rfl rfl) rfl) ?_
  refine tr tbk 3 (.mk ?_)
  obtain rfl := nxt_e h1
  refine w_ret (hret _ _ (hk [(1, ⟨38, 3, true, true, v4, [[int a2.Qty, int x12.1, int a2.Profit]]⟩), (2, ⟨38, 3, false, true, v6, a1.map GLayer.av⟩)]) (.tmp rfl (.tmp rfl .nil)) (HK.le ⟨rfl, rfl, trivial⟩) ?_)
  exact ⟨([x38.1] : List GLayer), (), rfl, rfl, rfl⟩
  rintro y _ ⟨y8_1, _, rfl, hc, rfl⟩
  subst hc
  refine tr tbk 10 (.mk ?_)
  refine sY (yv_to (y := boo false) (yv_neq rfl rfl rfl) (congrArg boo (by decide))) ?_
  refine tr tbk 11 (.mk ?_)
  obtain rfl := nxt_e h0
  refine wR hret (rT (rT (rT .nil))) ?_
  exact .refl _
def d_pavg_own (a1 : GPool) (a2 : List GLayer) : Option (GPool) :=
asrt (a2.length ≤ 68719476736) <|
some (((⟨a2, a1.Pend⟩ : GPool) : GPool))
theorem d_pavg_own_c {a1 : GPool} {a2 : List GLayer} {r : GPool} (h0 : d_pavg_own a1 a2 = some r) : PP Tryz.prog 73 [.agg (GPool.av a1), lst 3 GLayer.av a2] (fun y => y = .agg (GPool.av r)) := by
  unfold d_pavg_own at h0
  refine pp_of_pc (R0 := fun y H => Cv (frzH H) y (.agg (GPool.av r))) ?_ (fun y H hc => ⟨_, rfl, (fun (a : GPool) => PV.agg (GPool.pvc a)) r, hc⟩)
  refine pcw (c := _) Tryz.func73 rfl rfl ?_; intro Q hret hnorm
  refine tc tbk 2 (.mk ?_)
  refine sB 1 fun v3 => ?_
  refine sA 2 z46 fun v4 => ?_
  refine tr tbk 4 (.mk ?_)
  obtain ⟨p5, h0⟩ := asrt_e h0
  refine rse rfl rfl rfl (yl_app0T (g := GLayer.av) (m := a2) 3 rfl Tryz.underlying43 bz38 by38 rfl rfl rfl rfl (.refl _) (fun _ => rfl) p5) ?_; rintro _ _ ⟨v6, rfl, rfl⟩
  refine tr tbk 1 (.mk ?_)
  refine sS ⟨46, 4, true, true, v3, [[.sl 3 v6 0 a2.length, int a1.Pend.a0, int a1.Pend.a1, int a1.Pend.a2]]⟩ sh43 ?_
  refine tr tbk 4 (.mk ?_)
  refine sS ⟨46, 4, true, true, v4, [[.sl 3 v6 0 a2.length, int a1.Pend.a0, int a1.Pend.a1, int a1.Pend.a2]]⟩ sh46 ?_
  refine tr tbk 1 (.mk ?_)
  obtain rfl := nxt_e h0
  refine wR hret (rC sh46 .nil) ?_
  exact (CvL.agg (.cons (cv_lst rfl rfl rfl rfl rfl (Eq.symm rfl)) (.cons (.refl _) (.cons (.refl _) (.cons (.refl _) .nil)))))
def d_pavg_In (n : Nat) (a1 : GPool) (a2 : GLayer) : Option (GPool × Int) :=
(d_mavg_In n a1.Layers a2).bind fun x6 =>
(d_pavg_own a1 x6.1).bind fun x7 =>
some ((x7 : GPool), (x6.2 : Int))
theorem d_pavg_In_c {n : Nat} {a1 : GPool} {a2 : GLayer} {r : GPool × Int} (h0 : d_pavg_In n a1 a2 = some r) : PP Tryz.prog 233 [.agg (GPool.av a1), .agg (GLayer.av a2)] (fun y => y = .tup [.agg (GPool.av r.1), int r.2]) := by
  unfold d_pavg_In at h0
  refine pp_of_pc (R0 := fun y H => Cv (frzH H) y (.tup [.agg (GPool.av r.1), int r.2])) ?_ (fun y H hc => ⟨_, rfl, .tup (pvl2 ((fun (a : GPool) => PV.agg (GPool.pvc a)) (r.1)) (pvI (r.2))), hc⟩)
  refine pcw (c := _) Tryz.func233 rfl rfl ?_; intro Q hret hnorm
  refine tc tbk 2 (.mk ?_)
  refine sB 1 fun v3 => ?_
  refine sB 2 fun v4 => ?_
  refine sA 3 z46 fun v5 => ?_
  refine tr tbk 7 (.mk ?_)
  obtain ⟨x6, e6, h0⟩ := bind_e h0
  refine sC cal228 (d_mavg_In_c e6) ?_
  refine tr tbk 10 (.mk ?_)
  obtain ⟨x7, e7, h0⟩ := bind_e h0
  refine sC cal73 (d_pavg_own_c e7) ?_
  refine tr tbk 1 (.mk ?_)
  refine sS ⟨46, 4, true, true, v5, [[lst 3 GLayer.av x7.Layers, int x7.Pend.a0, int x7.Pend.a1, int x7.Pend.a2]]⟩ sh46 ?_
  refine tr tbk 2 (.mk ?_)
  obtain rfl := nxt_e h0
  refine wR hret (rC sh46 (rT .nil)) ?_
  exact .refl _
def d_pool_In (n : Nat) (a1 : Int) (a2 : Int) (a3 : GPool) (a4 : GLayer) : Option (GPool × Int × Int) :=
(show Option ((Unit) ⊕ (Unit) ⊕ (Unit) ⊕ (Unit) ⊕ (Unit)) from
bnd (decide (a1 = 1)) fun x9 =>
cond x9 (some (.inr (.inr (.inr (.inr ()))))) (bnd (decide (a1 = 2)) fun x10 =>
cond x10 (some (.inr (.inr (.inr (.inl ()))))) (bnd (decide (a1 = 3)) fun x11 =>
cond x11 (some (.inr (.inr (.inl ())))) (bnd (decide (a1 = 4)) fun x12 =>
cond x12 (some (.inr (.inl ()))) (some (.inl ())))))).bind <| selr (fun _ =>
(d_pool_own a3).bind fun x13 =>
some ((x13 : GPool), (0 : Int), (12 : Int))) <| selr (fun _ =>
(show Option ((GPool × Int × Int)) from
(d_stdcost_In n a3.Layers a4 a2).bind fun x19 =>
(d_pool_with a3 x19.1).bind fun x20 =>
some ((x20 : GPool), (x19.2.1 : Int), (x19.2.2 : Int))).bind <| p2 fun (y5_1 : GPool) (q0 : Int × Int) => (p2 fun (y5_2 : Int) (y5_3 : Int) =>
bnd (decide (y5_3 ≠ 0)) fun x22 =>
asrt (x22 = false) <|
some ((y5_1 : GPool), (y5_2 : Int), (0 : Int))) q0) <| selr (fun _ =>
(show Option ((GPool × Int)) from
(d_pavg_In n a3 a4).bind fun x28 =>
some ((x28.1 : GPool), (x28.2 : Int))).bind <| p2 fun (y6_1 : GPool) (y6_2 : Int) =>
bnd (decide (y6_2 ≠ 0)) fun x30 =>
asrt (x30 = false) <|
some ((y6_1 : GPool), (0 : Int), (0 : Int))) <| selr (fun _ =>
(show Option ((GPool × Int)) from
(d_mavg_In n a3.Layers a4).bind fun x36 =>
(d_pool_with a3 x36.1).bind fun x37 =>
some ((x37 : GPool), (x36.2 : Int))).bind <| p2 fun (y7_1 : GPool) (y7_2 : Int) =>
bnd (decide (y7_2 ≠ 0)) fun x39 =>
asrt (x39 = false) <|
some ((y7_1 : GPool), (0 : Int), (0 : Int))) <| fun _ =>
(show Option ((GPool × Int)) from
(d_fifo_In n a3.Layers a4).bind fun x45 =>
(d_pool_with a3 x45.1).bind fun x46 =>
some ((x46 : GPool), (x45.2 : Int))).bind <| p2 fun (y8_1 : GPool) (y8_2 : Int) =>
bnd (decide (y8_2 ≠ 0)) fun x48 =>
asrt (x48 = false) <|
some ((y8_1 : GPool), (0 : Int), (0 : Int))
theorem d_pool_In_c {n : Nat} {a1 : Int} {a2 : Int} {a3 : GPool} {a4 : GLayer} {r : GPool × Int × Int} (h0 : d_pool_In n a1 a2 a3 a4 = some r) : PP Tryz.prog 17 [int a1, int a2, .agg (GPool.av a3), .agg (GLayer.av a4)] (fun y => y = .tup [.agg (GPool.av r.1), int r.2.1, int r.2.2]) := by
  unfold d_pool_In at h0
  refine pp_of_pc (R0 := fun y H => Cv (frzH H) y (.tup [.agg (GPool.av r.1), int r.2.1, int r.2.2])) ?_ (fun y H hc => ⟨_, rfl, .tup (pvl3 ((fun (a : GPool) => PV.agg (GPool.pvc a)) (r.1)) (pvI (r.2.1)) (pvI (r.2.2))), hc⟩)
  refine pcw (c := _) Tryz.func17 rfl rfl ?_; intro Q hret hnorm
  refine tc tbk 2 (.mk ?_)
  refine sB 1 fun v5 => ?_
  refine sB 2 fun v6 => ?_
  refine sA 3 z46 fun v7 => ?_
  refine tr tbk 7 (.mk ?_)
  obtain ⟨j8, h1, h0⟩ := bind_e h0
  refine rse (Out := fun y H' => (∃ (a : Unit) (k : Unit), (.inl a) = j8 ∧ y = .sc .nilIface ∧ H' = hk [(1, ⟨46, 4, true, true, v5, [[lst 3 GLayer.av a3.Layers, int a3.Pend.a0, int a3.Pend.a1, int a3.Pend.a2]]⟩), (2, ⟨38, 3, true, true, v6, [[int a4.Qty, int a4.Value, int a4.Profit]]⟩), (3, ⟨46, 4, true, true, v7, [[.sc (.slice none 0 0), int 0, int 0, int 0]]⟩)]) ∨ (∃ (a : Unit) (k : Unit), (.inr (.inl a)) = j8 ∧ y = .ifc 140 (.agg [int a2]) ∧ H' = hk [(1, ⟨46, 4, true, true, v5, [[lst 3 GLayer.av a3.Layers, int a3.Pend.a0, int a3.Pend.a1, int a3.Pend.a2]]⟩), (2, ⟨38, 3, true, true, v6, [[int a4.Qty, int a4.Value, int a4.Profit]]⟩), (3, ⟨46, 4, true, true, v7, [[.sc (.slice none 0 0), int 0, int 0, int 0]]⟩)]) ∨ (∃ (a : Unit) (k : Unit), (.inr (.inr (.inl a))) = j8 ∧ y = .ifc 138 (.agg []) ∧ H' = hk [(1, ⟨46, 4, true, true, v5, [[lst 3 GLayer.av a3.Layers, int a3.Pend.a0, int a3.Pend.a1, int a3.Pend.a2]]⟩), (2, ⟨38, 3, true, true, v6, [[int a4.Qty, int a4.Value, int a4.Profit]]⟩), (3, ⟨46, 4, true, true, v7, [[.sc (.slice none 0 0), int 0, int 0, int 0]]⟩)]) ∨ (∃ (a : Unit) (k : Unit), (.inr (.inr (.inr (.inl a)))) = j8 ∧ y = .ifc 137 (.agg []) ∧ H' = hk [(1, ⟨46, 4, true, true, v5, [[lst 3 GLayer.av a3.Layers, int a3.Pend.a0, int a3.Pend.a1, int a3.Pend.a2]]⟩), (2, ⟨38, 3, true, true, v6, [[int a4.Qty, int a4.Value, int a4.Profit]]⟩), (3, ⟨46, 4, true, true, v7, [[.sc (.slice none 0 0), int 0, int 0, int 0]]⟩)]) ∨ (∃ (a : Unit) (k : Unit), (.inr (.inr (.inr (.inr a)))) = j8 ∧ y = .ifc 136 (.agg []) ∧ H' = hk [(1, ⟨46, 4, true, true, v5, [[lst 3 GLayer.av a3.Layers, int a3.Pend.a0, int a3.Pend.a1, int a3.Pend.a2]]⟩), (2, ⟨38, 3, true, true, v6, [[int a4.Qty, int a4.Value, int a4.Profit]]⟩), (3, ⟨46, 4, true, true, v7, [[.sc (.slice none 0 0), int 0, int 0, int 0]]⟩)])) rfl rfl rfl (yl_call rfl rfl (.cons rfl (.cons rfl .nil)) cal42 ?_) ?_
  refine pcw (c := _) Tryz.func42 rfl rfl ?_; intro Q hret hnorm
  refine tc tbk 12 (.mk ?_)
  refine nb tbk h1 fun x9 h1 => ?_
  refine tr tbk 2 (.mk ?_)
  cases x9
  replace h1 := cf h1
  refine tc tbk 3 (.mk ?_)
  refine nb tbk h1 fun x10 h1 => ?_
  refine tr tbk 2 (.mk ?_)
  cases x10
  replace h1 := cf h1
  refine tc tbk 3 (.mk ?_)
  refine nb tbk h1 fun x11 h1 => ?_
  refine tr tbk 2 (.mk ?_)
  cases x11
  replace h1 := cf h1
  refine tc tbk 3 (.mk ?_)
  refine nb tbk h1 fun x12 h1 => ?_
  refine tr tbk 2 (.mk ?_)
  cases x12
  replace h1 := cf h1
  refine tc tbk 7 (.mk ?_)
  obtain rfl := nxt_e h1
  refine w_ret (hret _ _ (hk [(1, ⟨46, 4, true, true, v5, [[lst 3 GLayer.av a3.Layers, int a3.Pend.a0, int a3.Pend.a1, int a3.Pend.a2]]⟩), (2, ⟨38, 3, true, true, v6, [[int a4.Qty, int a4.Value, int a4.Profit]]⟩), (3, ⟨46, 4, true, true, v7, [[.sc (.slice none 0 0), int 0, int 0, int 0]]⟩)]) (.tmp rfl .nil) (HK.le ⟨rfl, rfl, rfl, trivial⟩) ?_)
  exact (.inl ⟨(), (), rfl, rfl, rfl⟩)
  replace h1 := ct h1
  refine tc tbk 5 (.mk ?_)
  refine sY (yv_makeIface rfl Tryz.underlying140 (by intro _ h; cases h) rfl) ?_
  refine tr tbk 2 (.mk ?_)
  obtain rfl := nxt_e h1
  refine w_ret (hret _ _ (hk [(1, ⟨46, 4, true, true, v5, [[lst 3 GLayer.av a3.Layers, int a3.Pend.a0, int a3.Pend.a1, int a3.Pend.a2]]⟩), (2, ⟨38, 3, true, true, v6, [[int a4.Qty, int a4.Value, int a4.Profit]]⟩), (3, ⟨46, 4, true, true, v7, [[.sc (.slice none 0 0), int 0, int 0, int 0]]⟩)]) (.tmp rfl .nil) (HK.le ⟨rfl, rfl, rfl, trivial⟩) ?_)
  exact (.inr (.inl ⟨(), (), rfl, rfl, rfl⟩))
  replace h1 := ct h1
  refine tc tbk 4 (.mk ?_)
  refine sY (yv_makeIface rfl Tryz.underlying138 (by intro _ h; cases h) rfl) ?_
  refine tr tbk 2 (.mk ?_)
  obtain rfl := nxt_e h1
  refine w_ret (hret _ _ (hk [(1, ⟨46, 4, true, true, v5, [[lst 3 GLayer.av a3.Layers, int a3.Pend.a0, int a3.Pend.a1, int a3.Pend.a2]]⟩), (2, ⟨38, 3, true, true, v6, [[int a4.Qty, int a4.Value, int a4.Profit]]⟩), (3, ⟨46, 4, true, true, v7, [[.sc (.slice none 0 0), int 0, int 0, int 0]]⟩)]) (.tmp rfl .nil) (HK.le ⟨rfl, rfl, rfl, trivial⟩) ?_)
  exact (.inr (.inr (.inl ⟨(), (), rfl, rfl, rfl⟩)))
  replace h1 := ct h1
  refine tc tbk 4 (.mk ?_)
  refine sY (yv_makeIface rfl Tryz.underlying137 (by intro _ h; cases h) rfl) ?_
  refine tr tbk 2 (.mk ?_)
  obtain rfl := nxt_e h1
  refine w_ret (hret _ _ (hk [(1, ⟨46, 4, true, true, v5, [[lst 3 GLayer.av a3.Layers, int a3.Pend.a0, int a3.Pend.a1, int a3.Pend.a2]]⟩), (2, ⟨38, 3, true, true, v6, [[int a4.Qty, int a4.Value, int a4.Profit]]⟩), (3, ⟨46, 4, true, true, v7, [[.sc (.slice none 0 0), int 0, int 0, int 0]]⟩)]) (.tmp rfl .nil) (HK.le ⟨rfl, rfl, rfl, trivial⟩) ?_)
  exact (.inr (.inr (.inr (.inl ⟨(), (), rfl, rfl, rfl⟩))))
  replace h1 := ct h1
  refine tc tbk 4 (.mk ?_)
  refine sY (yv_makeIface rfl Tryz.underlying136 (by intro _ h; cases h) rfl) ?_
  refine tr tbk 2 (.mk ?_)
  obtain rfl := nxt_e h1
  refine w_ret (hret _ _ (hk [(1, ⟨46, 4, true, true, v5, [[lst 3 GLayer.av a3.Layers, int a3.Pend.a0, int a3.Pend.a1, int a3.Pend.a2]]⟩), (2, ⟨38, 3, true, true, v6, [[int a4.Qty, int a4.Value, int a4.Profit]]⟩), (3, ⟨46, 4, true, true, v7, [[.sc (.slice none 0 0), int 0, int 0, int 0]]⟩)]) (.tmp rfl .nil) (HK.le ⟨rfl, rfl, rfl, trivial⟩) ?_)
  exact (.inr (.inr (.inr (.inr ⟨(), (), rfl, rfl, rfl⟩))))
  rintro y _ (⟨_, _, rfl, hc, rfl⟩ | ⟨_, _, rfl, hc, rfl⟩ | ⟨_, _, rfl, hc, rfl⟩ | ⟨_, _, rfl, hc, rfl⟩ | ⟨_, _, rfl, hc, rfl⟩)
  replace h0 := selr_l h0
  subst hc
  refine tr tbk 6 (.mk ?_)
  refine sY (yv_ifeqN rfl Tryz.underlying96 rfl rfl) ?_
  refine tr tbk 5 (.mk ?_)
  obtain ⟨x13, e13, h0⟩ := bind_e h0
  refine sC cal43 (d_pool_own_c e13) ?_
  refine sS ⟨46, 4, true, true, v7, [[lst 3 GLayer.av x13.Layers, int x13.Pend.a0, int x13.Pend.a1, int x13.Pend.a2]]⟩ sh46 ?_
  refine tr tbk 3 (.mk ?_)
  obtain rfl := nxt_e h0
  refine wR hret (rC sh46 (rT (rT .nil))) ?_
  exact .refl _
  replace h0 := selr_r h0
  replace h0 := selr_l h0
  subst hc
  refine tr tbk 6 (.mk ?_)
  refine sY (yv_ifeq rfl Tryz.underlying96 rfl rfl) ?_
  refine tr tbk 8 (.mk ?_)
  obtain ⟨j14, h1, h0⟩ := bind_e h0
  refine rse (Out := fun y H' => (∃ (a : GPool × Int × Int) (k : Unit), a = j14 ∧ y = .tup [.agg [lst 3 GLayer.av a.1.Layers, int a.1.Pend.a0, int a.1.Pend.a1, int a.1.Pend.a2], int a.2.1, int a.2.2] ∧ H' = hk [(1, ⟨46, 4, true, true, v5, [[lst 3 GLayer.av a3.Layers, int a3.Pend.a0, int a3.Pend.a1, int a3.Pend.a2]]⟩), (2, ⟨38, 3, true, true, v6, [[int a4.Qty, int a4.Value, int a4.Profit]]⟩), (3, ⟨46, 4, true, true, v7, [[.sc (.slice none 0 0), int 0, int 0, int 0]]⟩)])) rfl rfl rfl (yl_callI rfl rfl mth140_235 (.cons rfl (.cons rfl .nil)) cal235 ?_) ?_
  refine pcw (c := _) Tryz.func235 rfl rfl ?_; intro Q hret hnorm
  refine tc tbk 2 (.mk ?_)
  refine sB 4 fun v15 => ?_
  refine sB 5 fun v16 => ?_
  refine sB 6 fun v17 => ?_
  refine sA 7 z46 fun v18 => ?_
  refine tr tbk 10 (.mk ?_)
  obtain ⟨x19, e19, h1⟩ := bind_e h1
  refine sC cal237 (d_stdcost_In_c e19) ?_
  refine tr tbk 12 (.mk ?_)
  obtain ⟨x20, e20, h1⟩ := bind_e h1
  refine sC cal70 (d_pool_with_c e20) ?_
  refine tr tbk 2 (.mk ?_)
  refine sS ⟨46, 4, true, true, v18, [[lst 3 GLayer.av x20.Layers, int x20.Pend.a0, int x20.Pend.a1, int x20.Pend.a2]]⟩ sh46 ?_
  refine tr tbk 3 (.mk ?_)
  obtain rfl := nxt_e h1
  refine w_ret (hret _ _ (hk [(1, ⟨46, 4, true, true, v5, [[lst 3 GLayer.av a3.Layers, int a3.Pend.a0, int a3.Pend.a1, int a3.Pend.a2]]⟩), (2, ⟨38, 3, true, true, v6, [[int a4.Qty, int a4.Value, int a4.Profit]]⟩), (3, ⟨46, 4, true, true, v7, [[.sc (.slice none 0 0), int 0, int 0, int 0]]⟩)]) (.cell rfl (.pt rfl rfl rfl) sh46 rfl (.tmp rfl (.tmp rfl .nil))) (HK.le ⟨rfl, rfl, rfl, trivial⟩) ?_)
  exact ⟨(x20, x19.2.1, x19.2.2), (), rfl, rfl, rfl⟩
  rintro y _ ⟨⟨y5_1, y5_2, y5_3⟩, _, rfl, hc, rfl⟩
  replace h0 := p2_e h0
  replace h0 := p2_e h0
  subst hc
  refine tr tbk 4 (.mk ?_)
  refine sA 8 z46 fun v21 => ?_
  refine sS ⟨46, 4, true, true, v21, [[lst 3 GLayer.av y5_1.Layers, int y5_1.Pend.a0, int y5_1.Pend.a1, int y5_1.Pend.a2]]⟩ sh46 ?_
  refine tr tbk 7 (.mk ?_)
  refine nb tbk h0 fun x22 h0 => ?_
  refine tr tbk 1 (.mk ?_)
  replace h0 := asrt_e h0
  obtain ⟨rfl, h0⟩ := h0
  refine tc tbk 6 (.mk ?_)
  refine sS ⟨46, 4, true, true, v7, [[lst 3 GLayer.av y5_1.Layers, int y5_1.Pend.a0, int y5_1.Pend.a1, int y5_1.Pend.a2]]⟩ sh46 ?_
  refine tr tbk 3 (.mk ?_)
  obtain rfl := nxt_e h0
  refine wR hret (rC sh46 (rT (rT .nil))) ?_
  exact .refl _
  replace h0 := selr_r h0
  replace h0 := selr_r h0
  replace h0 := selr_l h0
  subst hc
  refine tr tbk 6 (.mk ?_)
  refine sY (yv_ifeq rfl Tryz.underlying96 rfl rfl) ?_
  refine tr tbk 8 (.mk ?_)
  obtain ⟨j23, h1, h0⟩ := bind_e h0
  refine rse (Out := fun y H' => (∃ (a : GPool × Int) (k : Unit), a = j23 ∧ y = .tup [.agg [lst 3 GLayer.av a.1.Layers, int a.1.Pend.a0, int a.1.Pend.a1, int a.1.Pend.a2], int 0, int a.2] ∧ H' = hk [(1, ⟨46, 4, true, true, v5, [[lst 3 GLayer.av a3.Layers, int a3.Pend.a0, int a3.Pend.a1, int a3.Pend.a2]]⟩), (2, ⟨38, 3, true, true, v6, [[int a4.Qty, int a4.Value, int a4.Profit]]⟩), (3, ⟨46, 4, true, true, v7, [[.sc (.slice none 0 0), int 0, int 0, int 0]]⟩)])) rfl rfl rfl (yl_callI rfl rfl mth138_231 (.cons rfl (.cons rfl .nil)) cal231 ?_) ?_
  refine pcw (c := _) Tryz.func231 rfl rfl ?_; intro Q hret hnorm
  refine tc tbk 2 (.mk ?_)
  refine sB 9 fun v24 => ?_
  refine sB 10 fun v25 => ?_
  refine sB 11 fun v26 => ?_
  refine sA 12 z46 fun v27 => ?_
  refine tr tbk 7 (.mk ?_)
  obtain ⟨x28, e28, h1⟩ := bind_e h1
  refine sC cal233 (d_pavg_In_c e28) ?_
  refine tr tbk 3 (.mk ?_)
  refine sS ⟨46, 4, true, true, v25, [[lst 3 GLayer.av x28.1.Layers, int x28.1.Pend.a0, int x28.1.Pend.a1, int x28.1.Pend.a2]]⟩ sh46 ?_
  refine tr tbk 6 (.mk ?_)
  refine sS ⟨46, 4, true, true, v27, [[lst 3 GLayer.av x28.1.Layers, int x28.1.Pend.a0, int x28.1.Pend.a1, int x28.1.Pend.a2]]⟩ sh46 ?_
  refine tr tbk 3 (.mk ?_)
  obtain rfl := nxt_e h1
  refine w_ret (hret _ _ (hk [(1, ⟨46, 4, true, true, v5, [[lst 3 GLayer.av a3.Layers, int a3.Pend.a0, int a3.Pend.a1, int a3.Pend.a2]]⟩), (2, ⟨38, 3, true, true, v6, [[int a4.Qty, int a4.Value, int a4.Profit]]⟩), (3, ⟨46, 4, true, true, v7, [[.sc (.slice none 0 0), int 0, int 0, int 0]]⟩)]) (.cell rfl (.pt rfl rfl rfl) sh46 rfl (.tmp rfl (.tmp rfl .nil))) (HK.le ⟨rfl, rfl, rfl, trivial⟩) ?_)
  exact ⟨(x28.1, x28.2), (), rfl, rfl, rfl⟩
  rintro y _ ⟨⟨y6_1, y6_2⟩, _, rfl, hc, rfl⟩
  replace h0 := p2_e h0
  subst hc
  refine tr tbk 4 (.mk ?_)
  refine sA 8 z46 fun v29 => ?_
  refine sS ⟨46, 4, true, true, v29, [[lst 3 GLayer.av y6_1.Layers, int y6_1.Pend.a0, int y6_1.Pend.a1, int y6_1.Pend.a2]]⟩ sh46 ?_
  refine tr tbk 7 (.mk ?_)
  refine nb tbk h0 fun x30 h0 => ?_
  refine tr tbk 1 (.mk ?_)
  replace h0 := asrt_e h0
  obtain ⟨rfl, h0⟩ := h0
  refine tc tbk 6 (.mk ?_)
  refine sS ⟨46, 4, true, true, v7, [[lst 3 GLayer.av y6_1.Layers, int y6_1.Pend.a0, int y6_1.Pend.a1, int y6_1.Pend.a2]]⟩ sh46 ?_
  refine tr tbk 3 (.mk ?_)
  obtain rfl := nxt_e h0
  refine wR hret (rC sh46 (rT (rT .nil))) ?_
  exact .refl _
  replace h0 := selr_r h0
  replace h0 := selr_r h0
  replace h0 := selr_r h0
  replace h0 := selr_l h0
  subst hc
  refine tr tbk 6 (.mk ?_)
  refine sY (yv_ifeq rfl Tryz.underlying96 rfl rfl) ?_
  refine tr tbk 8 (.mk ?_)
  obtain ⟨j31, h1, h0⟩ := bind_e h0
  refine rse (Out := fun y H' => (∃ (a : GPool × Int) (k : Unit), a = j31 ∧ y = .tup [.agg [lst 3 GLayer.av a.1.Layers, int a.1.Pend.a0, int a.1.Pend.a1, int a.1.Pend.a2], int 0, int a.2] ∧ H' = hk [(1, ⟨46, 4, true, true, v5, [[lst 3 GLayer.av a3.Layers, int a3.Pend.a0, int a3.Pend.a1, int a3.Pend.a2]]⟩), (2, ⟨38, 3, true, true, v6, [[int a4.Qty, int a4.Value, int a4.Profit]]⟩), (3, ⟨46, 4, true, true, v7, [[.sc (.slice none 0 0), int 0, int 0, int 0]]⟩)])) rfl rfl rfl (yl_callI rfl rfl mth137_226 (.cons rfl (.cons rfl .nil)) cal226 ?_) ?_
  refine pcw (c := _) Tryz.func226 rfl rfl ?_; intro Q hret hnorm
  refine tc tbk 2 (.mk ?_)
  refine sB 13 fun v32 => ?_
  refine sB 14 fun v33 => ?_
  refine sB 15 fun v34 => ?_
  refine sA 16 z46 fun v35 => ?_
  refine tr tbk 8 (.mk ?_)
  obtain ⟨x36, e36, h1⟩ := bind_e h1
  refine sC cal228 (d_mavg_In_c e36) ?_
  refine tr tbk 10 (.mk ?_)
  obtain ⟨x37, e37, h1⟩ := bind_e h1
  refine sC cal70 (d_pool_with_c e37) ?_
  refine tr tbk 1 (.mk ?_)
  refine sS ⟨46, 4, true, true, v35, [[lst 3 GLayer.av x37.Layers, int x37.Pend.a0, int x37.Pend.a1, int x37.Pend.a2]]⟩ sh46 ?_
  refine tr tbk 3 (.mk ?_)
  obtain rfl := nxt_e h1
  refine w_ret (hret _ _ (hk [(1, ⟨46, 4, true, true, v5, [[lst 3 GLayer.av a3.Layers, int a3.Pend.a0, int a3.Pend.a1, int a3.Pend.a2]]⟩), (2, ⟨38, 3, true, true, v6, [[int a4.Qty, int a4.Value, int a4.Profit]]⟩), (3, ⟨46, 4, true, true, v7, [[.sc (.slice none 0 0), int 0, int 0, int 0]]⟩)]) (.cell rfl (.pt rfl rfl rfl) sh46 rfl (.tmp rfl (.tmp rfl .nil))) (HK.le ⟨rfl, rfl, rfl, trivial⟩) ?_)
  exact ⟨(x37, x36.2), (), rfl, rfl, rfl⟩
  rintro y _ ⟨⟨y7_1, y7_2⟩, _, rfl, hc, rfl⟩
  replace h0 := p2_e h0
  subst hc
  refine tr tbk 4 (.mk ?_)
  refine sA 8 z46 fun v38 => ?_
  refine sS ⟨46, 4, true, true, v38, [[lst 3 GLayer.av y7_1.Layers, int y7_1.Pend.a0, int y7_1.Pend.a1, int y7_1.Pend.a2]]⟩ sh46 ?_
  refine tr tbk 7 (.mk ?_)
  refine nb tbk h0 fun x39 h0 => ?_
  refine tr tbk 1 (.mk ?_)
  replace h0 := asrt_e h0
  obtain ⟨rfl, h0⟩ := h0
  refine tc tbk 6 (.mk ?_)
  refine sS ⟨46, 4, true, true, v7, [[lst 3 GLayer.av y7_1.Layers, int y7_1.Pend.a0, int y7_1.Pend.a1, int y7_1.Pend.a2]]⟩ sh46 ?_
  refine tr tbk 3 (.mk ?_)
  obtain rfl := nxt_e h0
  refine wR hret (rC sh46 (rT (rT .nil))) ?_
  exact .refl _
  replace h0 := selr_r h0
  replace h0 := selr_r h0
  replace h0 := selr_r h0
  replace h0 := selr_r h0
  subst hc
  refine tr tbk 6 (.mk ?_)
  refine sY (yv_ifeq rfl Tryz.underlying96 rfl rfl) ?_
  refine tr tbk 8 (.mk ?_)
  obtain ⟨j40, h1, h0⟩ := bind_e h0
  refine rse (Out := fun y H' => (∃ (a : GPool × Int) (k : Unit), a = j40 ∧ y = .tup [.agg [lst 3 GLayer.av a.1.Layers, int a.1.Pend.a0, int a.1.Pend.a1, int a.1.Pend.a2], int 0, int a.2] ∧ H' = hk [(1, ⟨46, 4, true, true, v5, [[lst 3 GLayer.av a3.Layers, int a3.Pend.a0, int a3.Pend.a1, int a3.Pend.a2]]⟩), (2, ⟨38, 3, true, true, v6, [[int a4.Qty, int a4.Value, int a4.Profit]]⟩), (3, ⟨46, 4, true, true, v7, [[.sc (.slice none 0 0), int 0, int 0, int 0]]⟩)])) rfl rfl rfl (yl_callI rfl rfl mth136_215 (.cons rfl (.cons rfl .nil)) cal215 ?_) ?_
  refine pcw (c := _) Tryz.func215 rfl rfl ?_; intro Q hret hnorm
  refine tc tbk 2 (.mk ?_)
  refine sB 17 fun v41 => ?_
  refine sB 18 fun v42 => ?_
  refine sB 19 fun v43 => ?_
  refine sA 20 z46 fun v44 => ?_
  refine tr tbk 8 (.mk ?_)
  obtain ⟨x45, e45, h1⟩ := bind_e h1
  refine sC cal217 (d_fifo_In_c e45) ?_
  refine tr tbk 10 (.mk ?_)
  obtain ⟨x46, e46, h1⟩ := bind_e h1
  refine sC cal70 (d_pool_with_c e46) ?_
  refine tr tbk 1 (.mk ?_)
  refine sS ⟨46, 4, true, true, v44, [[lst 3 GLayer.av x46.Layers, int x46.Pend.a0, int x46.Pend.a1, int x46.Pend.a2]]⟩ sh46 ?_
  refine tr tbk 3 (.mk ?_)
  obtain rfl := nxt_e h1
  refine w_ret (hret _ _ (hk [(1, ⟨46, 4, true, true, v5, [[lst 3 GLayer.av a3.Layers, int a3.Pend.a0, int a3.Pend.a1, int a3.Pend.a2]]⟩), (2, ⟨38, 3, true, true, v6, [[int a4.Qty, int a4.Value, int a4.Profit]]⟩), (3, ⟨46, 4, true, true, v7, [[.sc (.slice none 0 0), int 0, int 0, int 0]]⟩)]) (.cell rfl (.pt rfl rfl rfl) sh46 rfl (.tmp rfl (.tmp rfl .nil))) (HK.le ⟨rfl, rfl, rfl, trivial⟩) ?_)
  exact ⟨(x46, x45.2), (), rfl, rfl, rfl⟩
  rintro y _ ⟨⟨y8_1, y8_2⟩, _, rfl, hc, rfl⟩
  replace h0 := p2_e h0
  subst hc
  refine tr tbk 4 (.mk ?_)
  refine sA 8 z46 fun v47 => ?_
  refine sS ⟨46, 4, true, true, v47, [[lst 3 GLayer.av y8_1.Layers, int y8_1.Pend.a0, int y8_1.Pend.a1, int y8_1.Pend.a2]]⟩ sh46 ?_
  refine tr tbk 7 (.mk ?_)
  refine nb tbk h0 fun x48 h0 => ?_
  refine tr tbk 1 (.mk ?_)
  replace h0 := asrt_e h0
  obtain ⟨rfl, h0⟩ := h0
  refine tc tbk 6 (.mk ?_)
  refine sS ⟨46, 4, true, true, v7, [[lst 3 GLayer.av y8_1.Layers, int y8_1.Pend.a0, int y8_1.Pend.a1, int y8_1.Pend.a2]]⟩ sh46 ?_
  refine tr tbk 3 (.mk ?_)
  obtain rfl := nxt_e h0
  refine wR hret (rC sh46 (rT (rT .nil))) ?_
  exact .refl _
def d_stock_At (a1 : GState) (a2 : Int) (a3 : Int) (a4 : Int) : Option (GPool) :=
(d_stock_place a1 a2 a3 a4).bind fun x7 =>
bnd (decide (x7 < 0)) fun x8 =>
cond x8 (some (((⟨[], (⟨0, 0, 0⟩ : A3_Int)⟩ : GPool) : GPool))) ((ix a1.Ents a2).bind fun x9 =>
(ix x9.Pools x7).bind fun x10 =>
asrt (x10.Layers.length ≤ 68719476736) <|
some ((x10 : GPool)))
theorem d_stock_At_c {a1 : GState} {a2 : Int} {a3 : Int} {a4 : Int} {r : GPool} (h0 : d_stock_At a1 a2 a3 a4 = some r) : PP Tryz.prog 10 [.agg (GState.av a1), int a2, int a3, int a4] (fun y => y = .agg (GPool.av r)) := by
  unfold d_stock_At at h0
  refine pp_of_pc (R0 := fun y H => Cv (frzH H) y (.agg (GPool.av r))) ?_ (fun y H hc => ⟨_, rfl, (fun (a : GPool) => PV.agg (GPool.pvc a)) r, hc⟩)
  refine pcw (c := _) Tryz.func10 rfl rfl ?_; intro Q hret hnorm
  refine tc tbk 2 (.mk ?_)
  refine sB 1 fun v5 => ?_
  refine sA 2 z46 fun v6 => ?_
  refine tr tbk 7 (.mk ?_)
  obtain ⟨x7, e7, h0⟩ := bind_e h0
  refine sC cal16 (d_stock_place_c e7) ?_
  refine tr tbk 6 (.mk ?_)
  refine nb tbk h0 fun x8 h0 => ?_
  refine tr tbk 1 (.mk ?_)
  cases x8
  replace h0 := cf h0
  refine tc tbk 7 (.mk ?_)
  obtain ⟨x9, e9, h0⟩ := bind_e h0
  refine sY (yv_to (y := .pp [int x9.Now, boo x9.Closed, lst 4 GPool.av x9.Pools, lst 1 fI x9.Bal, lst 11 GRoll.av x9.Rolls, lst 1 fI x9.Prices, lst 1 fI x9.Down, lst 8 GEnt.av x9.Ahead]) (yv_ixT rfl Tryz.underlying27 sh64 rfl rfl e9) (congrArg AV.pp (GEnt.av_eq x9))) ?_
  refine tr tbk 3 (.mk ?_)
  obtain ⟨x10, e10, h0⟩ := bind_e h0
  refine sY (yv_ixT rfl Tryz.underlying61 sh46 rfl rfl e10) ?_
  refine tr tbk 1 (.mk ?_)
  refine sA 3 z46 fun v11 => ?_
  refine sS ⟨46, 4, true, true, v11, [[lst 3 GLayer.av x10.Layers, int x10.Pend.a0, int x10.Pend.a1, int x10.Pend.a2]]⟩ sh46 ?_
  refine tr tbk 5 (.mk ?_)
  obtain ⟨p12, h0⟩ := asrt_e h0
  refine rse rfl rfl rfl (yl_call rfl rfl (.cons rfl .nil) cal29 (pc_cv (clone29_c (id := 4) (l := x10.Layers) rfl p12) (.cons (.refl _) .nil))) ?_; rintro _ _ ⟨v13, rfl, rfl⟩
  refine tr tbk 1 (.mk ?_)
  refine sS ⟨46, 4, true, true, v11, [[.sl 4 v13 0 x10.Layers.length, int x10.Pend.a0, int x10.Pend.a1, int x10.Pend.a2]]⟩ sh43 ?_
  refine tr tbk 4 (.mk ?_)
  refine sS ⟨46, 4, true, true, v6, [[.sl 4 v13 0 x10.Layers.length, int x10.Pend.a0, int x10.Pend.a1, int x10.Pend.a2]]⟩ sh46 ?_
  refine tr tbk 1 (.mk ?_)
  obtain rfl := nxt_e h0
  refine wR hret (rC sh46 .nil) ?_
  exact (CvL.agg (.cons (cv_lst rfl rfl rfl rfl rfl (Eq.symm rfl)) (.cons (.refl _) (.cons (.refl _) (.cons (.refl _) .nil)))))
  replace h0 := ct h0
  refine tc tbk 4 (.mk ?_)
  refine sS ⟨46, 4, true, true, v6, [[.sc (.slice none 0 0), int 0, int 0, int 0]]⟩ sh46 ?_
  refine tr tbk 1 (.mk ?_)
  obtain rfl := nxt_e h0
  refine wR hret (rC sh46 .nil) ?_
  exact (CvL.agg (.cons (.nil _) (.cons (.refl _) (.cons (.refl _) (.cons (.refl _) .nil)))))
def d_stock_worth_L0 (a1 : GState) (a2 : Int) (a3 : Int) : Nat → Int → (List Int) → (List Int) → (List Int) → Option ((List Int) × (List Int) × (List Int))
  | 0, _, _, _, _ => none
  | n + 1, y0_4, y0_5, y0_6, y0_7 =>
    bnd (decide (y0_4 < 2)) fun x10 =>
    cond x10 ((d_stock_At a1 a2 a3 y0_4).bind fun x11 =>
    (d_fifo_Total n x11.Layers).bind fun x12 =>
    bnd (y0_5 ++ ([x12.1.Qty] : List Int)) fun x14 =>
    asrt (x14.length ≤ 68719476736) <|
    bnd (y0_6 ++ ([x12.1.Value] : List Int)) fun x17 =>
    asrt (x17.length ≤ 68719476736) <|
    bnd (y0_7 ++ ([x12.1.Profit] : List Int)) fun x20 =>
    asrt (x20.length ≤ 68719476736) <|
    bnd (w64 (y0_4 + 1)) fun x23 =>
    d_stock_worth_L0 a1 a2 a3 n (x23 : Int) (x14 : List Int) (x17 : List Int) (x20 : List Int)) (some ((y0_5 : List Int), (y0_6 : List Int), (y0_7 : List Int)))
def d_stock_worth (n : Nat) (a1 : GState) (a2 : Int) (a3 : Int) : Option (GLayer × Bool) :=
(show Option ((List Int) × (List Int) × (List Int)) from
d_stock_worth_L0 a1 a2 a3 n (0 : Int) (([] : List Int) : List Int) (([] : List Int) : List Int) (([] : List Int) : List Int)).bind <| p2 fun (y1_4 : List Int) (q0 : (List Int) × (List Int)) => (p2 fun (y1_5 : List Int) (y1_6 : List Int) =>
(d_money_Sum n y1_4).bind fun x24 =>
(d_money_Sum n y1_5).bind fun x25 =>
(d_money_Sum n y1_6).bind fun x26 =>
bnd (if x26.2 > (if x25.2 > x24.2 then x25.2 else x24.2) then x26.2 else (if x25.2 > x24.2 then x25.2 else x24.2)) fun x27 =>
bnd (decide (x27 = 0)) fun x28 =>
some (((⟨x24.1, x25.1, x26.1⟩ : GLayer) : GLayer), (x28 : Bool))) q0
theorem d_stock_worth_c {n : Nat} {a1 : GState} {a2 : Int} {a3 : Int} {r : GLayer × Bool} (h0 : d_stock_worth n a1 a2 a3 = some r) : PP Tryz.prog 19 [.agg (GState.av a1), int a2, int a3] (fun y => y = .tup [.agg (GLayer.av r.1), boo r.2]) := by
  unfold d_stock_worth at h0
  refine pp_of_pc (R0 := fun y H => Cv (frzH H) y (.tup [.agg (GLayer.av r.1), boo r.2])) ?_ (fun y H hc => ⟨_, rfl, .tup (pvl2 ((fun (a : GLayer) => PV.agg (GLayer.pvc a)) (r.1)) (pvB (r.2))), hc⟩)
  refine pcw (c := _) Tryz.func19 rfl rfl ?_; intro Q hret hnorm
  refine tc tbk 2 (.mk ?_)
  refine sB 1 fun v4 => ?_
  refine sA 2 z38 fun v5 => ?_
  refine tr tbk 13 (.mk ?_)
  refine jn h0 [6, 7] [2] (fun (a : (List Int) × (List Int) × (List Int)) (k : Nat × Nat × Nat) => [(8, .sl 7 k.1 0 a.1.length), (9, .sl 8 k.2.1 0 a.2.1.length), (10, .sl 9 k.2.2 0 a.2.2.length)]) (fun a k => [(7, ⟨3, 1, true, true, k.1, a.1.map fI⟩), (8, ⟨3, 1, true, true, k.2.1, a.2.1.map fI⟩), (9, ⟨3, 1, true, true, k.2.2, a.2.2.map fI⟩)]) ⟨fun j6 h1 => ?_, ?_⟩
  refine tc tbk 1 (.mk ?_)
  refine c_nilobj 8 7 3 1 rfl rfl ?_; intro v7
  refine c_nilobj 9 8 3 1 rfl rfl ?_; intro v8
  refine c_nilobj 10 9 3 1 rfl rfl ?_; intro v9
  refine lp (fun n (a : Int × (List Int) × (List Int) × (List Int)) => d_stock_worth_L0 a1 a2 a3 n a.1 a.2.1 a.2.2.1 a.2.2.2) ((0 : Int), (([] : List Int) : List Int), (([] : List Int) : List Int), (([] : List Int) : List Int)) (v7, v8, v9) h1 [1, 2, 3, 6, 7] [1, 2] (fun (a : Int × (List Int) × (List Int) × (List Int)) (k : Nat × Nat × Nat) => [(8, .sl 7 k.1 0 a.2.1.length), (9, .sl 8 k.2.1 0 a.2.2.1.length), (10, .sl 9 k.2.2 0 a.2.2.2.length), (20, int a.1)]) (fun a k => [(7, ⟨3, 1, true, true, k.1, a.2.1.map fI⟩), (8, ⟨3, 1, true, true, k.2.1, a.2.2.1.map fI⟩), (9, ⟨3, 1, true, true, k.2.2, a.2.2.2.map fI⟩)]) (fun _ => rfl) ⟨leA, ?_⟩
  rintro n ⟨y0_4, y0_5, y0_6, y0_7⟩ ⟨w0_1, w0_2, w0_3⟩ hm h1
  replace h1 : d_stock_worth_L0 a1 a2 a3 (n + 1) y0_4 y0_5 y0_6 y0_7 = some _ := h1
  rw [d_stock_worth_L0] at h1
  refine tc tbk 2 (.mk ?_)
  refine nb tbk h1 fun x10 h1 => ?_
  refine tr tbk 2 (.mk ?_)
  cases x10
  replace h1 := cf h1
  refine tc tbk 2 (.mk ?_)
  exact lf h1 (w0_1, w0_2, w0_3) leA
  replace h1 := ct h1
  refine tc tbk 15 (.mk ?_)
  obtain ⟨x11, e11, h1⟩ := bind_e h1
  refine sC cal10 (d_stock_At_c e11) ?_
  refine tr tbk 1 (.mk ?_)
  obtain ⟨x12, e12, h1⟩ := bind_e h1
  refine sC cal46 (d_fifo_Total_c e12) ?_
  refine tr tbk 3 (.mk ?_)
  refine sA 3 z38 fun v13 => ?_
  refine sS ⟨38, 3, true, true, v13, [[int x12.1.Qty, int x12.1.Value, int x12.1.Profit]]⟩ sh38 ?_
  refine tr tbk 2 (.mk ?_)
  refine c_drawE [0, 0, 2, 6, 15, 0, 0, 64, 192, 511, 0, 0, 2048, 6144, 16383, 32767, 65535, 131071] (rl [(1, [3]), (2, [3]), (6, [3]), (7, [3]), (11, [3]), (12, [3])] []) (rl [(14, [])] [3]) (rl [(4, false), (9, false), (14, false)] true) [0, 1, 2, 3, 5, 6, 7, 8, 10, 11, 12, 13, 4, 9, 14, 15, 16, 17] mixed (by kernel_rfl) ?_; intro K hK
  refine eM ?_
  refine eF fo38_0 ?_
  refine eL sh3 ?_
  refine eP (fun H hH => yv_to (y := lst 1 fI ([x12.1.Qty] : List Int)) (yv_buildSlice (ps := [(0, _)]) (rows := [[int x12.1.Qty]]) rfl Tryz.underlying22 bz3 (.cons rfl .nil) (by kernel_rfl) rfl rfl rfl) rfl) ?_
  refine eM ?_
  refine eF fo38_1 ?_
  refine eL sh3 ?_
  refine eP (fun H hH => yv_to (y := lst 1 fI ([x12.1.Value] : List Int)) (yv_buildSlice (ps := [(0, _)]) (rows := [[int x12.1.Value]]) rfl Tryz.underlying22 bz3 (.cons rfl .nil) (by kernel_rfl) rfl rfl rfl) rfl) ?_
  refine eM ?_
  refine eF fo38_2 ?_
  refine eL sh3 ?_
  refine eP (fun H hH => yv_to (y := lst 1 fI ([x12.1.Profit] : List Int)) (yv_buildSlice (ps := [(0, _)]) (rows := [[int x12.1.Profit]]) rfl Tryz.underlying22 bz3 (.cons rfl .nil) (by kernel_rfl) rfl rfl rfl) rfl) ?_
  obtain ⟨x14, e14, h1⟩ := bnd_e h1
  obtain ⟨p15, h1⟩ := asrt_e h1
  refine de_eff rfl rfl rfl rfl (yl_appT (g := fI) (l := y0_5) (m := ([x12.1.Qty] : List Int)) .any rfl Tryz.underlying22 bz3 by3 rfl rfl rfl rfl rfl rfl rfl rfl rfl rfl (Eq.symm rfl) (.refl _) (fun _ => rfl) e14 p15) (by rintro _ _ ⟨v16, -, rfl, rfl⟩; exact ⟨rfl, trivial⟩) ?_; rintro _ _ ⟨v16, -, rfl, rfl⟩
  obtain ⟨x17, e17, h1⟩ := bnd_e h1
  obtain ⟨p18, h1⟩ := asrt_e h1
  refine de_eff rfl rfl rfl rfl (yl_appT (g := fI) (l := y0_6) (m := ([x12.1.Value] : List Int)) .any rfl Tryz.underlying22 bz3 by3 rfl rfl rfl rfl rfl rfl rfl rfl rfl rfl (Eq.symm rfl) (.refl _) (fun _ => rfl) e17 p18) (by rintro _ _ ⟨v19, -, rfl, rfl⟩; exact ⟨rfl, trivial⟩) ?_; rintro _ _ ⟨v19, -, rfl, rfl⟩
  obtain ⟨x20, e20, h1⟩ := bnd_e h1
  obtain ⟨p21, h1⟩ := asrt_e h1
  refine de_eff rfl rfl rfl rfl (yl_appT (g := fI) (l := y0_7) (m := ([x12.1.Profit] : List Int)) .any rfl Tryz.underlying22 bz3 by3 rfl rfl rfl rfl rfl rfl rfl rfl rfl rfl (Eq.symm rfl) (.refl _) (fun _ => rfl) e20 p21) (by rintro _ _ ⟨v22, -, rfl, rfl⟩; exact trivial) ?_; rintro _ _ ⟨v22, -, rfl, rfl⟩
  iterate 3 refine eA ?_
  refine de_nil (hK _ ?_)
  refine tc tbk 2 (.mk ?_)
  refine ni tbk h1 fun x23 h1 => ?_
  refine tr tbk 2 (.mk ?_)
  exact bk (x23, x14, x17, x20) (v16, v19, v22) h1 leA
  rintro ⟨y1_4, y1_5, y1_6⟩ ⟨w1_1, w1_2, w1_3⟩ h0
  replace h0 := p2_e h0
  replace h0 := p2_e h0
  refine tc tbk 3 (.mk ?_)
  obtain ⟨x24, e24, h0⟩ := bind_e h0
  refine sY (yv_callT (v := .tup [int x24.1, int x24.2]) rfl rfl (.cons rfl .nil) cal47 (.cons (cv_lst rfl rfl rfl rfl rfl (Eq.symm rfl)) .nil) (d_money_Sum_c e24) rfl) ?_
  refine tr tbk 9 (.mk ?_)
  obtain ⟨x25, e25, h0⟩ := bind_e h0
  refine sY (yv_callT (v := .tup [int x25.1, int x25.2]) rfl rfl (.cons rfl .nil) cal47 (.cons (cv_lst rfl rfl rfl rfl rfl (Eq.symm rfl)) .nil) (d_money_Sum_c e25) rfl) ?_
  refine tr tbk 9 (.mk ?_)
  obtain ⟨x26, e26, h0⟩ := bind_e h0
  refine sY (yv_callT (v := .tup [int x26.1, int x26.2]) rfl rfl (.cons rfl .nil) cal47 (.cons (cv_lst rfl rfl rfl rfl rfl (Eq.symm rfl)) .nil) (d_money_Sum_c e26) rfl) ?_
  refine tr tbk 15 (.mk ?_)
  obtain ⟨x27, e27, h0⟩ := bnd_e h0
  refine sY (yv_max3 rfl rfl rfl rfl e27) ?_
  refine nb tbk h0 fun x28 h0 => ?_
  refine sS ⟨38, 3, true, true, v5, [[int x24.1, int x25.1, int x26.1]]⟩ sh38 ?_
  refine tr tbk 2 (.mk ?_)
  obtain rfl := nxt_e h0
  refine wR hret (rC sh38 (rT .nil)) ?_
  exact .refl _
def d_stock_steady_L1 (x9 : GPool) : Nat → Int → (List Int) → Option ((List Int))
  | 0, _, _ => none
  | n + 1, y1_2, y1_3 =>
    bnd (decide (y1_2 < (x9.Layers.length : Int))) fun x11 =>
    cond x11 ((ix x9.Layers y1_2).bind fun x12 =>
    bnd (w64 (0 - x12.Profit)) fun x14 =>
    bnd (if x14 > x12.Profit then x14 else x12.Profit) fun x15 =>
    bnd (y1_3 ++ ([x15] : List Int)) fun x16 =>
    asrt (x16.length ≤ 68719476736) <|
    bnd (w64 (y1_2 + 1)) fun x19 =>
    d_stock_steady_L1 x9 n (x19 : Int) (x16 : List Int)) (some (y1_3 : List Int))
def d_stock_steady_L0 (a1 : GState) (a2 : Int) (a3 : Int) : Nat → Int → (List Int) → Option ((List Int))
  | 0, _, _ => none
  | n + 1, y0_2, y0_3 =>
    bnd (decide (y0_2 < 2)) fun x7 =>
    cond x7 ((show Option ((List Int)) from
    (d_stock_At a1 a2 a3 y0_2).bind fun x9 =>
    (show Option ((List Int)) from
    d_stock_steady_L1 x9 n (0 : Int) (y0_3 : List Int)).bind <| fun y2_2 =>
    some (y2_2 : List Int)).bind <| fun y3_2 =>
    bnd (w64 (y0_2 + 1)) fun x20 =>
    d_stock_steady_L0 a1 a2 a3 n (x20 : Int) (y3_2 : List Int)) (some (y0_3 : List Int))
def d_stock_steady (n : Nat) (a1 : GState) (a2 : Int) (a3 : Int) : Option (Bool) :=
(show Option ((List Int)) from
d_stock_steady_L0 a1 a2 a3 n (0 : Int) (([] : List Int) : List Int)).bind <| fun y4_2 =>
(d_money_Sum n y4_2).bind fun x21 =>
bnd (decide (x21.2 = 0)) fun x22 =>
some ((x22 : Bool))
theorem d_stock_steady_c {n : Nat} {a1 : GState} {a2 : Int} {a3 : Int} {r : Bool} (h0 : d_stock_steady n a1 a2 a3 = some r) : PP Tryz.prog 20 [.agg (GState.av a1), int a2, int a3] (fun y => y = boo r) := by
  unfold d_stock_steady at h0
  refine pp_of_pc (R0 := fun y H => Cv (frzH H) y (boo r)) ?_ (fun y H hc => ⟨_, rfl, pvB r, hc⟩)
  refine pcw (c := _) Tryz.func20 rfl rfl ?_; intro Q hret hnorm
  refine tc tbk 2 (.mk ?_)
  refine sB 1 fun v4 => ?_
  refine tr tbk 11 (.mk ?_)
  refine jn h0 [6] [] (fun (a : (List Int)) (k : Nat) => [(7, .sl 4 k 0 a.length)]) (fun a k => [(4, ⟨3, 1, true, true, k, a.map fI⟩)]) ⟨fun j5 h1 => ?_, ?_⟩
  refine tc tbk 1 (.mk ?_)
  refine c_nilobj 7 4 3 1 rfl rfl ?_; intro v6
  refine lp (fun n (a : Int × (List Int)) => d_stock_steady_L0 a1 a2 a3 n a.1 a.2) ((0 : Int), (([] : List Int) : List Int)) v6 h1 [1, 2, 3, 6] [1] (fun (a : Int × (List Int)) (k : Nat) => [(7, .sl 4 k 0 a.2.length), (13, int a.1)]) (fun a k => [(4, ⟨3, 1, true, true, k, a.2.map fI⟩)]) (fun _ => rfl) ⟨leA, ?_⟩
  rintro n ⟨y0_2, y0_3⟩ w0_1 hm h1
  replace h1 : d_stock_steady_L0 a1 a2 a3 (n + 1) y0_2 y0_3 = some _ := h1
  rw [d_stock_steady_L0] at h1
  refine tc tbk 2 (.mk ?_)
  refine nb tbk h1 fun x7 h1 => ?_
  refine tr tbk 2 (.mk ?_)
  cases x7
  replace h1 := cf h1
  refine tc tbk 2 (.mk ?_)
  exact lf h1 w0_1 leA
  replace h1 := ct h1
  refine tc tbk 3 (.mk ?_)
  refine jn h1 [1, 2, 3, 6, 13] [1] (fun (a : (List Int)) (k : Nat) => [(7, .sl 4 k 0 a.length)]) (fun a k => [(4, ⟨3, 1, true, true, k, a.map fI⟩)]) ⟨fun j8 h2 => ?_, ?_⟩
  refine tc tbk 12 (.mk ?_)
  obtain ⟨x9, e9, h2⟩ := bind_e h2
  refine sC cal10 (d_stock_At_c e9) ?_
  refine tr tbk 1 (.mk ?_)
  refine sY (yv_len_sl rfl Tryz.underlying43 rfl (lst_len _)) ?_
  refine tr tbk 2 (.mk ?_)
  refine jn h2 [1, 2, 3, 6, 13] [1] (fun (a : (List Int)) (k : Nat) => [(7, .sl 4 k 0 a.length)]) (fun a k => [(4, ⟨3, 1, true, true, k, a.map fI⟩)]) ⟨fun j10 h3 => ?_, ?_⟩
  refine tc tbk 1 (.mk ?_)
  refine lp (fun n (a : Int × (List Int)) => d_stock_steady_L1 x9 n a.1 a.2) ((0 : Int), (y0_3 : List Int)) w0_1 h3 [1, 2, 3, 6, 13, 21, 22] [1] (fun (a : Int × (List Int)) (k : Nat) => [(7, .sl 4 k 0 a.2.length), (23, int a.1)]) (fun a k => [(4, ⟨3, 1, true, true, k, a.2.map fI⟩)]) (fun _ => rfl) ⟨leA, ?_⟩
  rintro n ⟨y1_2, y1_3⟩ w1_1 hm h3
  replace h3 : d_stock_steady_L1 x9 (n + 1) y1_2 y1_3 = some _ := h3
  rw [d_stock_steady_L1] at h3
  refine tc tbk 2 (.mk ?_)
  refine nb tbk h3 fun x11 h3 => ?_
  refine tr tbk 2 (.mk ?_)
  cases x11
  replace h3 := cf h3
  refine tc tbk 2 (.mk ?_)
  exact lf h3 w1_1 leA
  replace h3 := ct h3
  refine tc tbk 6 (.mk ?_)
  obtain ⟨x12, e12, h3⟩ := bind_e h3
  refine sY (yv_ixT rfl Tryz.underlying43 sh38 rfl rfl e12) ?_
  refine tr tbk 1 (.mk ?_)
  refine sA 2 z38 fun v13 => ?_
  refine sS ⟨38, 3, true, true, v13, [[int x12.Qty, int x12.Value, int x12.Profit]]⟩ sh38 ?_
  refine tr tbk 7 (.mk ?_)
  refine ni tbk h3 fun x14 h3 => ?_
  obtain ⟨x15, e15, h3⟩ := bnd_e h3
  refine sY (yv_max rfl rfl rfl e15) ?_
  refine sY (yv_to (y := lst 1 fI ([x15] : List Int)) (yv_buildSlice (ps := [(0, _)]) (rows := [[int x15]]) rfl Tryz.underlying22 bz3 (.cons rfl .nil) (by kernel_rfl) rfl rfl rfl) rfl) ?_
  obtain ⟨x16, e16, h3⟩ := bnd_e h3
  obtain ⟨p17, h3⟩ := asrt_e h3
  refine rse rfl rfl rfl (yl_appT (g := fI) (l := y1_3) (m := ([x15] : List Int)) .any rfl Tryz.underlying22 bz3 by3 rfl rfl rfl rfl rfl rfl rfl rfl rfl rfl (Eq.symm rfl) (.refl _) (fun _ => rfl) e16 p17) ?_; rintro _ _ ⟨v18, -, rfl, rfl⟩
  refine tr tbk 4 (.mk ?_)
  refine ni tbk h3 fun x19 h3 => ?_
  refine tr tbk 2 (.mk ?_)
  exact bk (x19, x16) v18 h3 leA
  rintro y2_2 w2_1 h2
  refine tc tbk 1 (.mk ?_)
  exact lf h2 w2_1 leA
  rintro y3_2 w3_1 h1
  refine tc tbk 1 (.mk ?_)
  refine ni tbk h1 fun x20 h1 => ?_
  refine tr tbk 2 (.mk ?_)
  exact bk (x20, y3_2) w3_1 h1 leA
  rintro y4_2 w4_1 h0
  refine tc tbk 3 (.mk ?_)
  obtain ⟨x21, e21, h0⟩ := bind_e h0
  refine sY (yv_callT (v := .tup [int x21.1, int x21.2]) rfl rfl (.cons rfl .nil) cal47 (.cons (cv_lst rfl rfl rfl rfl rfl (Eq.symm rfl)) .nil) (d_money_Sum_c e21) rfl) ?_
  refine tr tbk 9 (.mk ?_)
  refine nb tbk h0 fun x22 h0 => ?_
  refine tr tbk 2 (.mk ?_)
  obtain rfl := nxt_e h0
  refine wR hret (rT .nil) ?_
  exact .refl _
def d_stock_Bring (n : Nat) (a1 : GState) (a2 : Int) (a3 : Int) (a4 : Int) (a5 : GLayer) : Option (GState × Int × Int × Int) :=
(d_stock_place a1 a2 a3 a4).bind fun x9 =>
bnd (decide (x9 < 0)) fun x10 =>
cond x10 (some ((a1 : GState), (0 : Int), (0 : Int), (4 : Int))) ((ix a1.Master.Methods a2).bind fun x11 =>
(ix x11 a3).bind fun x12 =>
(ix a1.Master.Costs a2).bind fun x13 =>
(ix x13 a3).bind fun x14 =>
(ix a1.Ents a2).bind fun x15 =>
(ix x15.Pools x9).bind fun x16 =>
(d_pool_In n x12 x14 x16 a5).bind fun x17 =>
bnd (decide (x17.2.2 ≠ 0)) fun x19 =>
asrt (x19 = false) <|
(show Option ((Int × Bool × (List Int) × (List GRoll) × (List Int) × (List Int) × (List GEnt) × (List GPool))) from
(show Option ((Unit)) from
asrt (a1.Ents.length ≤ 68719476736) <|
(ix a1.Ents a2).bind fun x26 =>
some ()).bind <| fun _ =>
(ix a1.Ents a2).bind fun x27 =>
asrt (x27.Pools.length ≤ 68719476736) <|
(ix x27.Pools x9).bind fun x30 =>
bnd (x27.Pools.set (Int.toNat x9) (x17.1 : GPool)) fun x31 =>
some ((x27.Now : Int), (x27.Closed : Bool), (x27.Bal : List Int), (x27.Rolls : List GRoll), (x27.Prices : List Int), (x27.Down : List Int), (x27.Ahead : List GEnt), (x31 : List GPool))).bind <| p2 fun (y1_2 : Int) (q0 : Bool × (List Int) × (List GRoll) × (List Int) × (List Int) × (List GEnt) × (List GPool)) => (p2 fun (y1_3 : Bool) (q1 : (List Int) × (List GRoll) × (List Int) × (List Int) × (List GEnt) × (List GPool)) => (p2 fun (y1_5 : List Int) (q2 : (List GRoll) × (List Int) × (List Int) × (List GEnt) × (List GPool)) => (p2 fun (y1_6 : List GRoll) (q3 : (List Int) × (List Int) × (List GEnt) × (List GPool)) => (p2 fun (y1_7 : List Int) (q4 : (List Int) × (List GEnt) × (List GPool)) => (p2 fun (y1_8 : List Int) (q5 : (List GEnt) × (List GPool)) => (p2 fun (y1_9 : List GEnt) (y1_10 : List GPool) =>
(ix a1.Ents a2).bind fun x32 =>
(d_stock_worth n (⟨a1.Master, (a1.Ents.set (Int.toNat a2) (⟨y1_2, y1_3, y1_10, y1_5, y1_6, y1_7, y1_8, y1_9⟩ : GEnt)), a1.Receipts, a1.Sales, a1.Transits, a1.Done⟩ : GState) a2 a3).bind fun x33 =>
(show Option (Bool) from
bnd (!x33.2) fun x36 =>
cond x36 (some (true : Bool)) ((d_stock_steady n (⟨a1.Master, (a1.Ents.set (Int.toNat a2) (⟨y1_2, y1_3, y1_10, y1_5, y1_6, y1_7, y1_8, y1_9⟩ : GEnt)), a1.Receipts, a1.Sales, a1.Transits, a1.Done⟩ : GState) a2 a3).bind fun x37 =>
bnd (!x37) fun x38 =>
some (x38 : Bool))).bind <| fun y2_1 =>
asrt (y2_1 = false) <|
bnd (w64 (a5.Value - x17.2.1)) fun x39 =>
some (((⟨a1.Master, (a1.Ents.set (Int.toNat a2) (⟨y1_2, y1_3, y1_10, y1_5, y1_6, y1_7, y1_8, y1_9⟩ : GEnt)), a1.Receipts, a1.Sales, a1.Transits, a1.Done⟩ : GState) : GState), (x39 : Int), (x17.2.1 : Int), (0 : Int))) q5) q4) q3) q2) q1) q0)
theorem d_stock_Bring_c {n : Nat} {a1 : GState} {a2 : Int} {a3 : Int} {a4 : Int} {a5 : GLayer} {r : GState × Int × Int × Int} (h0 : d_stock_Bring n a1 a2 a3 a4 a5 = some r) : PP Tryz.prog 6 [.agg (GState.av a1), int a2, int a3, int a4, .agg (GLayer.av a5)] (fun y => y = .tup [.agg (GState.av r.1), int r.2.1, int r.2.2.1, int r.2.2.2]) := by
  unfold d_stock_Bring at h0
  refine pp_of_pc (R0 := fun y H => Cv (frzH H) y (.tup [.agg (GState.av r.1), int r.2.1, int r.2.2.1, int r.2.2.2])) ?_ (fun y H hc => ⟨_, rfl, .tup (pvl4 ((fun (a : GState) => PV.agg (GState.pvc a)) (r.1)) (pvI (r.2.1)) (pvI (r.2.2.1)) (pvI (r.2.2.2))), hc⟩)
  refine pcw (c := _) Tryz.func6 rfl rfl ?_; intro Q hret hnorm
  refine tc tbk 2 (.mk ?_)
  refine sB 1 fun v6 => ?_
  refine sB 2 fun v7 => ?_
  refine sA 3 z32 fun v8 => ?_
  refine tr tbk 10 (.mk ?_)
  obtain ⟨x9, e9, h0⟩ := bind_e h0
  refine sC cal16 (d_stock_place_c e9) ?_
  refine tr tbk 6 (.mk ?_)
  refine nb tbk h0 fun x10 h0 => ?_
  refine tr tbk 1 (.mk ?_)
  cases x10
  replace h0 := cf h0
  refine tc tbk 3 (.mk ?_)
  refine c_drawE [0, 1, 3, 0, 15, 31, 0, 127, 255, 0, 512, 1536, 0, 7680, 15872, 0, 65024, 130560, 0, 262144, 0, 1835008, 3932160, 8126464, 0, 33292288, 66846720, 0, 268435455, 536870911, 1073741823, 1073741823, 1073741823, 0, 10737418239, 30064771071, 68719476735] (rl [(0, [1]), (1, [1]), (2, [1]), (9, [1]), (10, [1]), (11, [1]), (18, [1]), (19, [1]), (27, [2])] []) (rl [(34, [])] [1, 2]) (rl [(33, false), (34, false)] true) [0, 1, 2, 3, 4, 5, 6, 7, 8, 9, 10, 11, 12, 13, 14, 15, 16, 17, 18, 19, 20, 21, 22, 23, 24, 25, 26, 27, 28, 29, 30, 31, 32, 33, 34, 35, 36] mixed (by kernel_rfl) ?_; intro K hK
  refine eF fo32_0 ?_
  refine eF fo25_3 ?_
  refine eL sh23 ?_
  refine eM ?_
  obtain ⟨x11, e11, h0⟩ := bind_e h0
  refine eP (fun H hH => yv_ixT rfl Tryz.underlying23 sh22 rfl rfl e11) ?_
  refine eP (fun H hH => yv_load rfl sh22 rfl (.pp _) rfl) ?_
  refine eM ?_
  obtain ⟨x12, e12, h0⟩ := bind_e h0
  refine eP (fun H hH => yv_ixT rfl Tryz.underlying22 sh3 rfl rfl e12) ?_
  refine eP (fun H hH => yv_load rfl sh3 rfl (.pp _) rfl) ?_
  refine eF fo32_0 ?_
  refine eF fo25_4 ?_
  refine eL sh23 ?_
  refine eM ?_
  obtain ⟨x13, e13, h0⟩ := bind_e h0
  refine eP (fun H hH => yv_ixT rfl Tryz.underlying23 sh22 rfl rfl e13) ?_
  refine eP (fun H hH => yv_load rfl sh22 rfl (.pp _) rfl) ?_
  refine eM ?_
  obtain ⟨x14, e14, h0⟩ := bind_e h0
  refine eP (fun H hH => yv_ixT rfl Tryz.underlying22 sh3 rfl rfl e14) ?_
  refine eP (fun H hH => yv_load rfl sh3 rfl (.pp _) rfl) ?_
  refine eF fo32_1 ?_
  refine eL sh27 ?_
  refine eM ?_
  obtain ⟨x15, e15, h0⟩ := bind_e h0
  refine eP (fun H hH => yv_to (y := .pp [int x15.Now, boo x15.Closed, lst 4 GPool.av x15.Pools, lst 1 fI x15.Bal, lst 11 GRoll.av x15.Rolls, lst 1 fI x15.Prices, lst 1 fI x15.Down, lst 8 GEnt.av x15.Ahead]) (yv_ixT rfl Tryz.underlying27 sh64 rfl rfl e15) (congrArg AV.pp (GEnt.av_eq x15))) ?_
  refine eP (fun H hH => yv_fieldAddr rfl fo64_2 rfl (.pp _) (.pp _ _)) ?_
  refine eP (fun H hH => yv_load rfl sh61 rfl (.pp _) rfl) ?_
  refine eM ?_
  obtain ⟨x16, e16, h0⟩ := bind_e h0
  refine eP (fun H hH => yv_ixT rfl Tryz.underlying61 sh46 rfl rfl e16) ?_
  refine eP (fun H hH => yv_load rfl sh46 rfl (.pp _) rfl) ?_
  refine eL sh38 ?_
  obtain ⟨x17, e17, h0⟩ := bind_e h0
  refine eP (fun H hH => yv_callP rfl rfl (.cons rfl (.cons rfl (.cons rfl (.cons rfl .nil)))) cal17 (CvL.refl _) (d_pool_In_c e17)) ?_
  refine eM ?_
  iterate 3 refine eX ?_
  refine de_eff rfl rfl rfl rfl (yl_alloc 4 .any rfl z46 rfl) (by rintro _ _ ⟨v18, -, rfl, rfl⟩; exact ⟨rfl, rfl, trivial⟩) ?_; rintro _ _ ⟨v18, -, rfl, rfl⟩
  refine de_eff0 rfl rfl rfl rfl (Yield.weak (yl_ob (ob' := (⟨46, 4, true, true, v18, [[lst 3 GLayer.av x17.1.Layers, int x17.1.Pend.a0, int x17.1.Pend.a1, int x17.1.Pend.a2]]⟩ : AObj)) (yl_store rfl sh46 rfl rfl rfl rfl rfl rfl rfl rfl rfl) rfl) (fun _ h => h) (fun _ _ => trivial)) (by rintro _ _ ⟨rfl, rfl⟩; exact trivial) ?_; rintro _ _ ⟨rfl, rfl⟩
  iterate 2 refine eA ?_
  refine de_nil (hK _ ?_)
  refine tc tbk 4 (.mk ?_)
  refine nb tbk h0 fun x19 h0 => ?_
  refine tr tbk 1 (.mk ?_)
  replace h0 := asrt_e h0
  obtain ⟨rfl, h0⟩ := h0
  refine tc tbk 5 (.mk ?_)
  refine sY (yv_build (cs := (GState.av a1)) (ps := [(0, _)]) rfl pl66 z66 rfl (.cons rfl .nil) (by kernel_rfl)) ?_
  refine sA 5 z66 fun v20 => ?_
  refine sS ⟨66, 10, true, true, v20, [(GState.av a1)]⟩ sh66 ?_
  refine tr tbk 6 (.mk ?_)
  obtain ⟨j21, h1, h0⟩ := bind_e h0
  refine rse (Out := fun y H' => (∃ (a : Int × Bool × (List Int) × (List GRoll) × (List Int) × (List Int) × (List GEnt) × (List GPool)) (k : Nat × Nat), a = j21 ∧ y = .tup [] ∧ H' = hk [(1, ⟨32, 10, true, true, v6, [(GState.av a1)]⟩), (2, ⟨38, 3, true, true, v7, [[int a5.Qty, int a5.Value, int a5.Profit]]⟩), (3, ⟨32, 10, true, true, v8, [[int 0, int 0, .sc (.slice none 0 0), .sc (.slice none 0 0), .sc (.slice none 0 0), .sc (.slice none 0 0), .sc (.slice none 0 0), .sc (.slice none 0 0), .sc (.slice none 0 0), int 0]]⟩), (4, ⟨46, 4, true, true, v18, [[lst 3 GLayer.av x17.1.Layers, int x17.1.Pend.a0, int x17.1.Pend.a1, int x17.1.Pend.a2]]⟩), (5, ⟨66, 10, true, true, v20, [[int a1.Master.Entities, int a1.Master.Periods, lst 1 fI a1.Master.Weights, lst 1 (fL 1 fI) a1.Master.Methods, lst 1 (fL 1 fI) a1.Master.Costs, .sl 7 k.1 0 a1.Ents.length, lst 8 GReceipt.av a1.Receipts, lst 9 GSale.av a1.Sales, lst 6 GTransit.av a1.Transits, int a1.Done]]⟩), (7, ⟨64, 8, true, true, k.1, (a1.Ents.map GEnt.av).set (Int.toNat a2) [int a.1, boo a.2.1, .sl 8 k.2 0 a.2.2.2.2.2.2.2.length, lst 1 fI a.2.2.1, lst 11 GRoll.av a.2.2.2.1, lst 1 fI a.2.2.2.2.1, lst 1 fI a.2.2.2.2.2.1, lst 8 GEnt.av a.2.2.2.2.2.2.1]⟩), (8, ⟨46, 4, true, true, k.2, a.2.2.2.2.2.2.2.map GPool.av⟩)])) rfl rfl rfl (yl_call rfl rfl (.cons rfl (.cons rfl (.cons rfl (.cons rfl .nil)))) cal18 ?_) ?_
  refine pcw (c := _) Tryz.func18 rfl rfl ?_; intro Q hret hnorm
  refine tc tbk 2 (.mk ?_)
  refine sB 6 fun v22 => ?_
  refine tr tbk 5 (.mk ?_)
  obtain ⟨j23, h2, h1⟩ := bind_e h1
  refine rse (Out := fun y H' => (∃ (a : Unit) (k : Nat), a = j23 ∧ y = .pt 7 k (Int.toNat a2) 0 ∧ H' = hk [(1, ⟨32, 10, true, true, v6, [(GState.av a1)]⟩), (2, ⟨38, 3, true, true, v7, [[int a5.Qty, int a5.Value, int a5.Profit]]⟩), (3, ⟨32, 10, true, true, v8, [[int 0, int 0, .sc (.slice none 0 0), .sc (.slice none 0 0), .sc (.slice none 0 0), .sc (.slice none 0 0), .sc (.slice none 0 0), .sc (.slice none 0 0), .sc (.slice none 0 0), int 0]]⟩), (4, ⟨46, 4, true, true, v18, [[lst 3 GLayer.av x17.1.Layers, int x17.1.Pend.a0, int x17.1.Pend.a1, int x17.1.Pend.a2]]⟩), (5, ⟨66, 10, true, true, v20, [[int a1.Master.Entities, int a1.Master.Periods, lst 1 fI a1.Master.Weights, lst 1 (fL 1 fI) a1.Master.Methods, lst 1 (fL 1 fI) a1.Master.Costs, .sl 7 k 0 a1.Ents.length, lst 8 GReceipt.av a1.Receipts, lst 9 GSale.av a1.Sales, lst 6 GTransit.av a1.Transits, int a1.Done]]⟩), (6, ⟨46, 4, true, true, v22, [[lst 3 GLayer.av x17.1.Layers, int x17.1.Pend.a0, int x17.1.Pend.a1, int x17.1.Pend.a2]]⟩), (7, ⟨64, 8, true, true, k, a1.Ents.map GEnt.av⟩)])) rfl rfl rfl (yl_call rfl rfl (.cons rfl (.cons rfl .nil)) cal44 ?_) ?_
  refine pcw (c := _) Tryz.func44 rfl rfl ?_; intro Q hret hnorm
  refine tc tbk 12 (.mk ?_)
  obtain ⟨p24, h2⟩ := asrt_e h2
  refine rse rfl rfl rfl (yl_call rfl rfl (.cons rfl .nil) cal71 (pc_cv (clone71_c (id := 7) (l := a1.Ents) rfl p24) (.cons (.refl _) .nil))) ?_; rintro _ _ ⟨v25, rfl, rfl⟩
  refine tr tbk 3 (.mk ?_)
  refine sS ⟨66, 10, true, true, v20, [[int a1.Master.Entities, int a1.Master.Periods, lst 1 fI a1.Master.Weights, lst 1 (fL 1 fI) a1.Master.Methods, lst 1 (fL 1 fI) a1.Master.Costs, .sl 7 v25 0 a1.Ents.length, lst 8 GReceipt.av a1.Receipts, lst 9 GSale.av a1.Sales, lst 6 GTransit.av a1.Transits, int a1.Done]]⟩ sh27 ?_
  refine tr tbk 9 (.mk ?_)
  obtain ⟨x26, e26, h2⟩ := bind_e h2
  refine sY (yv_ixO rfl Tryz.underlying27 sh64 rfl rfl rfl rfl rfl (Eq.symm rfl) (List.length_map _) e26) ?_
  refine tr tbk 2 (.mk ?_)
  obtain rfl := nxt_e h2
  refine w_ret (hret _ _ (hk [(1, ⟨32, 10, true, true, v6, [(GState.av a1)]⟩), (2, ⟨38, 3, true, true, v7, [[int a5.Qty, int a5.Value, int a5.Profit]]⟩), (3, ⟨32, 10, true, true, v8, [[int 0, int 0, .sc (.slice none 0 0), .sc (.slice none 0 0), .sc (.slice none 0 0), .sc (.slice none 0 0), .sc (.slice none 0 0), .sc (.slice none 0 0), .sc (.slice none 0 0), int 0]]⟩), (4, ⟨46, 4, true, true, v18, [[lst 3 GLayer.av x17.1.Layers, int x17.1.Pend.a0, int x17.1.Pend.a1, int x17.1.Pend.a2]]⟩), (5, ⟨66, 10, true, true, v20, [[int a1.Master.Entities, int a1.Master.Periods, lst 1 fI a1.Master.Weights, lst 1 (fL 1 fI) a1.Master.Methods, lst 1 (fL 1 fI) a1.Master.Costs, .sl 7 v25 0 a1.Ents.length, lst 8 GReceipt.av a1.Receipts, lst 9 GSale.av a1.Sales, lst 6 GTransit.av a1.Transits, int a1.Done]]⟩), (6, ⟨46, 4, true, true, v22, [[lst 3 GLayer.av x17.1.Layers, int x17.1.Pend.a0, int x17.1.Pend.a1, int x17.1.Pend.a2]]⟩), (7, ⟨64, 8, true, true, v25, a1.Ents.map GEnt.av⟩)]) (.tmp rfl .nil) (HK.le ⟨rfl, rfl, rfl, rfl, rfl, rfl, rfl, trivial⟩) ?_)
  exact ⟨(), v25, rfl, rfl, rfl⟩
  rintro y _ ⟨_, w0_1, rfl, hc, rfl⟩
  subst hc
  refine tr tbk 6 (.mk ?_)
  obtain ⟨x27, e27, h1⟩ := bind_e h1
  refine sY (yv_nilCheck rfl rfl (.pt rfl rfl (ix_get' e27 (GEnt.av_eq _)))) ?_
  refine sY (yv_fieldAddr rfl fo64_2 rfl (.pt rfl rfl (ix_get' e27 (GEnt.av_eq _))) (.pt _ _ _ _ _)) ?_
  refine sY (yv_load rfl sh61 rfl (.pt rfl rfl (ix_get' e27 (GEnt.av_eq _))) rfl) ?_
  obtain ⟨p28, h1⟩ := asrt_e h1
  refine rse rfl rfl rfl (yl_call rfl rfl (.cons rfl .nil) cal45 (pc_cv (clone45_c (id := 8) (l := x27.Pools) rfl p28) (.cons (.refl _) .nil))) ?_; rintro _ _ ⟨v29, rfl, rfl⟩
  refine sY (yv_nilCheck rfl rfl (.pt rfl rfl (ix_get' e27 (GEnt.av_eq _)))) ?_
  refine sY (yv_fieldAddr rfl fo64_2 rfl (.pt rfl rfl (ix_get' e27 (GEnt.av_eq _))) (.pt _ _ _ _ _)) ?_
  refine rsstore rfl rfl (yl_ob (ob' := (⟨64, 8, true, true, w0_1, (a1.Ents.map GEnt.av).set (Int.toNat a2) [int x27.Now, boo x27.Closed, .sl 8 v29 0 x27.Pools.length, lst 1 fI x27.Bal, lst 11 GRoll.av x27.Rolls, lst 1 fI x27.Prices, lst 1 fI x27.Down, lst 8 GEnt.av x27.Ahead]⟩ : AObj)) (yl_store rfl sh61 rfl rfl rfl rfl rfl (ix_get' e27 (GEnt.av_eq _)) rfl rfl rfl) (ob_eq rfl)) ?_
  refine tr tbk 1 (.mk ?_)
  refine c_drawE [0, 1, 3, 7, 0, 0, 63, 127] (rl [(1, [7]), (2, [7]), (3, [7]), (5, [6]), (6, [8])] []) (rl [(7, [])] [6, 7, 8]) (rl [(7, false)] true) [0, 1, 2, 3, 4, 5, 6, 7] mixed (by kernel_rfl) ?_; intro K hK
  refine eM ?_
  refine eN (hr := set_get e27) ?_
  refine eF fo64_2 (hr := set_get e27) ?_
  refine eL sh61 (hr := set_get e27) ?_
  refine eM ?_
  refine eL sh46 ?_
  obtain ⟨x30, e30, h1⟩ := bind_e h1
  refine de_pure rfl rfl rfl rfl (fun H hH => yv_ixO rfl Tryz.underlying61 sh46 rfl rfl ((hH _ (by decide)).trans rfl) rfl rfl (Eq.symm rfl) (List.length_map _) e30) ?_
  obtain ⟨x31, e31, h1⟩ := bnd_e h1
  have fx31 := ix_set e30 e31; have lx31 := len_setV e31 (rfl : x27.Pools.length = x27.Pools.length)
  refine de_eff0 rfl rfl rfl rfl (Yield.weak (yl_ob (ob' := (⟨46, 4, true, true, v29, x31.map GPool.av⟩ : AObj)) (yl_store rfl sh46 rfl rfl rfl rfl rfl (ix_get e30) rfl rfl rfl) (ob_eq (map_setV e31))) (fun _ h => h) (fun _ _ => trivial)) (by rintro _ _ ⟨rfl, rfl⟩; exact trivial) ?_; rintro _ _ ⟨rfl, rfl⟩
  refine de_nil (hK _ ?_)
  obtain rfl := nxt_e h1
  refine c_nil (hnorm _ _ (hk [(1, ⟨32, 10, true, true, v6, [(GState.av a1)]⟩), (2, ⟨38, 3, true, true, v7, [[int a5.Qty, int a5.Value, int a5.Profit]]⟩), (3, ⟨32, 10, true, true, v8, [[int 0, int 0, .sc (.slice none 0 0), .sc (.slice none 0 0), .sc (.slice none 0 0), .sc (.slice none 0 0), .sc (.slice none 0 0), .sc (.slice none 0 0), .sc (.slice none 0 0), int 0]]⟩), (4, ⟨46, 4, true, true, v18, [[lst 3 GLayer.av x17.1.Layers, int x17.1.Pend.a0, int x17.1.Pend.a1, int x17.1.Pend.a2]]⟩), (5, ⟨66, 10, true, true, v20, [[int a1.Master.Entities, int a1.Master.Periods, lst 1 fI a1.Master.Weights, lst 1 (fL 1 fI) a1.Master.Methods, lst 1 (fL 1 fI) a1.Master.Costs, .sl 7 w0_1 0 a1.Ents.length, lst 8 GReceipt.av a1.Receipts, lst 9 GSale.av a1.Sales, lst 6 GTransit.av a1.Transits, int a1.Done]]⟩), (7, ⟨64, 8, true, true, w0_1, (a1.Ents.map GEnt.av).set (Int.toNat a2) [int x27.Now, boo x27.Closed, .sl 8 v29 0 x31.length, lst 1 fI x27.Bal, lst 11 GRoll.av x27.Rolls, lst 1 fI x27.Prices, lst 1 fI x27.Down, lst 8 GEnt.av x27.Ahead]⟩), (8, ⟨46, 4, true, true, v29, x31.map GPool.av⟩)]) .nil (HK.le ⟨rfl, rfl, rfl, rfl, rfl, (by first | rfl | exact lx31 ▸ rfl), rfl, trivial⟩) ?_)
  exact ⟨(x27.Now, x27.Closed, x27.Bal, x27.Rolls, x27.Prices, x27.Down, x27.Ahead, x31), (w0_1, v29), rfl, rfl, rfl⟩
  rintro y _ ⟨⟨y1_2, y1_3, y1_5, y1_6, y1_7, y1_8, y1_9, y1_10⟩, ⟨w1_1, w1_4⟩, rfl, hc, rfl⟩
  replace h0 := p2_e h0
  replace h0 := p2_e h0
  replace h0 := p2_e h0
  replace h0 := p2_e h0
  replace h0 := p2_e h0
  replace h0 := p2_e h0
  replace h0 := p2_e h0
  subst hc
  obtain ⟨x32, e32, h0⟩ := bind_e h0
  refine tr tbk 8 (.mk ?_)
  obtain ⟨x33, e33, h0⟩ := bind_e h0
  refine sY (yv_callT (v := .tup [.agg [int x33.1.Qty, int x33.1.Value, int x33.1.Profit], boo x33.2]) rfl rfl (.cons rfl (.cons rfl (.cons rfl .nil))) cal19 (.cons (CvL.agg (.cons (.refl _) (.cons (.refl _) (.cons (.refl _) (.cons (.refl _) (.cons (.refl _) (.cons (cv_ov rfl rfl rfl rfl rfl (Eq.symm rfl) e32 (cvl_to (.cons (.refl _) (.cons (.refl _) (.cons (cv_lst rfl rfl rfl rfl rfl (Eq.symm rfl)) (.cons (.refl _) (.cons (.refl _) (.cons (.refl _) (.cons (.refl _) (.cons (.refl _) .nil)))))))) (GEnt.av_eq _))) (.cons (.refl _) (.cons (.refl _) (.cons (.refl _) (.cons (.refl _) .nil))))))))))) (.cons (.refl _) (.cons (.refl _) .nil))) (d_stock_worth_c e33) rfl) ?_
  refine tr tbk 3 (.mk ?_)
  refine sA 9 z38 fun v34 => ?_
  refine sS ⟨38, 3, true, true, v34, [[int x33.1.Qty, int x33.1.Value, int x33.1.Profit]]⟩ sh38 ?_
  refine tr tbk 3 (.mk ?_)
  refine jn h0 [5, 9, 10, 11, 12, 13, 17] [1, 2, 3, 5, 7, 8] (fun (a : Bool) (k : Unit) => [(88, boo a)]) (fun a k => []) ⟨fun j35 h1 => ?_, ?_⟩
  refine tc tbk 2 (.mk ?_)
  refine nb tbk h1 fun x36 h1 => ?_
  refine tr tbk 1 (.mk ?_)
  cases x36
  replace h1 := cf h1
  refine tr tbk 4 (.mk ?_)
  obtain ⟨x37, e37, h1⟩ := bind_e h1
  refine sY (yv_callT (v := boo x37) rfl rfl (.cons rfl (.cons rfl (.cons rfl .nil))) cal20 (.cons (CvL.agg (.cons (.refl _) (.cons (.refl _) (.cons (.refl _) (.cons (.refl _) (.cons (.refl _) (.cons (cv_ov rfl rfl rfl rfl rfl (Eq.symm rfl) e32 (cvl_to (.cons (.refl _) (.cons (.refl _) (.cons (cv_lst rfl rfl rfl rfl rfl (Eq.symm rfl)) (.cons (.refl _) (.cons (.refl _) (.cons (.refl _) (.cons (.refl _) (.cons (.refl _) .nil)))))))) (GEnt.av_eq _))) (.cons (.refl _) (.cons (.refl _) (.cons (.refl _) (.cons (.refl _) .nil))))))))))) (.cons (.refl _) (.cons (.refl _) .nil))) (d_stock_steady_c e37) rfl) ?_
  refine nb tbk h1 fun x38 h1 => ?_
  refine tr tbk 2 (.mk ?_)
  exact lf h1 () leA
  replace h1 := ct h1
  refine tr tbk 8 (.mk ?_)
  exact lf h1 () leA
  rintro y2_1 _ h0
  replace h0 := asrt_e h0
  obtain ⟨rfl, h0⟩ := h0
  refine tc tbk 3 (.mk ?_)
  refine c_drawE [0, 1, 0, 4, 0, 28, 0, 3, 191, 511, 1023] (rl [(0, [5]), (1, [5]), (2, [2]), (3, [2])] []) (rl [(7, [2])] [2, 5]) (rl [(7, false)] true) [0, 1, 2, 3, 4, 5, 6, 7, 8, 9, 10] mixed (by kernel_rfl) ?_; intro K hK
  refine eF fo66_0 ?_
  refine eL sh32 ?_
  refine eF fo38_1 ?_
  refine eL sh3 ?_
  refine eM ?_
  obtain ⟨x39, e39, h0⟩ := bnd_e h0
  refine eP (fun H hH => yv_sub rfl rfl rfl e39) ?_
  refine eM ?_
  refine de_eff0 rfl rfl rfl rfl (Yield.weak (yl_ob (ob' := (⟨32, 10, true, true, v8, [[int a1.Master.Entities, int a1.Master.Periods, lst 1 fI a1.Master.Weights, lst 1 (fL 1 fI) a1.Master.Methods, lst 1 (fL 1 fI) a1.Master.Costs, .sl 7 w1_1 0 a1.Ents.length, lst 8 GReceipt.av a1.Receipts, lst 9 GSale.av a1.Sales, lst 6 GTransit.av a1.Transits, int a1.Done]]⟩ : AObj)) (yl_store rfl sh32 rfl rfl rfl rfl rfl rfl rfl rfl rfl) rfl) (fun _ h => h) (fun _ _ => trivial)) (by rintro _ _ ⟨rfl, rfl⟩; exact ⟨rfl, trivial⟩) ?_; rintro _ _ ⟨rfl, rfl⟩
  iterate 3 refine eA ?_
  refine de_nil (hK _ ?_)
  obtain rfl := nxt_e h0
  refine wR hret (rC sh32 (rT (rT (rT .nil)))) ?_
  exact CvL.tup (.cons (CvL.agg (.cons (.refl _) (.cons (.refl _) (.cons (.refl _) (.cons (.refl _) (.cons (.refl _) (.cons (cv_ov rfl rfl rfl rfl rfl (Eq.symm rfl) e32 (cvl_to (.cons (.refl _) (.cons (.refl _) (.cons (cv_lst rfl rfl rfl rfl rfl (Eq.symm rfl)) (.cons (.refl _) (.cons (.refl _) (.cons (.refl _) (.cons (.refl _) (.cons (.refl _) .nil)))))))) (GEnt.av_eq _))) (.cons (.refl _) (.cons (.refl _) (.cons (.refl _) (.cons (.refl _) .nil))))))))))) (.cons (.refl _) (.cons (.refl _) (.cons (.refl _) .nil))))
  replace h0 := ct h0
  refine tc tbk 4 (.mk ?_)
  refine sS ⟨32, 10, true, true, v8, [(GState.av a1)]⟩ sh32 ?_
  refine tr tbk 4 (.mk ?_)
  obtain rfl := nxt_e h0
  refine wR hret (rC sh32 (rT (rT (rT .nil)))) ?_
  exact .refl _
def d_fifo_has_L0 (a1 : List GLayer) : Nat → Int → Int → Option ((Unit) ⊕ (Bool))
  | 0, _, _ => none
  | n + 1, y0_1, y0_2 =>
    bnd (decide (y0_2 < (a1.length : Int))) fun x4 =>
    cond x4 ((ix a1 y0_2).bind fun x5 =>
    bnd (if 0 > x5.Qty then 0 else x5.Qty) fun x7 =>
    bnd (if y0_1 < x7 then y0_1 else x7) fun x8 =>
    bnd (w64 (y0_1 - x8)) fun x9 =>
    bnd (decide (x9 = 0)) fun x10 =>
    cond x10 (esc (some ((true : Bool)))) (bnd (w64 (y0_2 + 1)) fun x11 =>
    d_fifo_has_L0 a1 n (x9 : Int) (x11 : Int))) (brk ())
def d_fifo_has (n : Nat) (a1 : List GLayer) (a2 : Int) : Option (Bool) :=
(show Option ((Unit) ⊕ (Bool)) from
d_fifo_has_L0 a1 n (a2 : Int) (0 : Int)).bind <| sel <| fun _ =>
some ((false : Bool))
theorem d_fifo_has_c {n : Nat} {a1 : List GLayer} {a2 : Int} {r : Bool} (h0 : d_fifo_has n a1 a2 = some r) : PP Tryz.prog 219 [lst 3 GLayer.av a1, int a2] (fun y => y = boo r) := by
  unfold d_fifo_has at h0
  refine pp_of_pc (R0 := fun y H => Cv (frzH H) y (boo r)) ?_ (fun y H hc => ⟨_, rfl, pvB r, hc⟩)
  refine pcw (c := _) Tryz.func219 rfl rfl ?_; intro Q hret hnorm
  refine tc tbk 8 (.mk ?_)
  refine sY (yv_len_sl rfl Tryz.underlying43 rfl (lst_len _)) ?_
  refine tr tbk 2 (.mk ?_)
  refine jnE h0 [4] [] (fun (a : Unit) (k : Unit) => []) (fun a k => []) ⟨fun j3 h1 h0 => ?_, ?_⟩
  refine tc tbk 1 (.mk ?_)
  refine lp (fun n (a : Int × Int) => d_fifo_has_L0 a1 n a.1 a.2) ((a2 : Int), (0 : Int)) () h1 [4, 7, 8] [] (fun (a : Int × Int) (k : Unit) => [(1, int a.1), (9, int a.2)]) (fun a k => []) (fun _ => rfl) ⟨leA, ?_⟩
  rintro n ⟨y0_1, y0_2⟩ _ hm h1
  replace h1 : d_fifo_has_L0 a1 (n + 1) y0_1 y0_2 = some _ := h1
  rw [d_fifo_has_L0] at h1
  refine tc tbk 2 (.mk ?_)
  refine nb tbk h1 fun x4 h1 => ?_
  refine tr tbk 2 (.mk ?_)
  cases x4
  replace h1 := cf h1
  refine tc tbk 2 (.mk ?_)
  exact lfE h1 () leA
  replace h1 := ct h1
  refine tc tbk 6 (.mk ?_)
  obtain ⟨x5, e5, h1⟩ := bind_e h1
  refine sY (yv_ixT rfl Tryz.underlying43 sh38 rfl rfl e5) ?_
  refine tr tbk 1 (.mk ?_)
  refine sA 1 z38 fun v6 => ?_
  refine sS ⟨38, 3, true, true, v6, [[int x5.Qty, int x5.Value, int x5.Profit]]⟩ sh38 ?_
  refine tr tbk 6 (.mk ?_)
  obtain ⟨x7, e7, h1⟩ := bnd_e h1
  refine sY (yv_max rfl rfl rfl e7) ?_
  refine tr tbk 1 (.mk ?_)
  obtain ⟨x8, e8, h1⟩ := bnd_e h1
  refine sY (yv_min rfl rfl rfl e8) ?_
  refine ni tbk h1 fun x9 h1 => ?_
  refine tr tbk 5 (.mk ?_)
  refine nb tbk h1 fun x10 h1 => ?_
  refine tr tbk 1 (.mk ?_)
  cases x10
  replace h1 := cf h1
  refine tc tbk 4 (.mk ?_)
  refine ni tbk h1 fun x11 h1 => ?_
  refine tr tbk 2 (.mk ?_)
  exact bk (x9, x11) () h1 leA
  replace h1 := ct h1
  refine tc tbk 5 (.mk ?_)
  obtain ⟨c12, hX, hj⟩ := esc_e h1; subst hj; replace h0 := hX.trans (sel_r h0)
  obtain rfl := nxt_e h0
  refine wR hret (rT .nil) ?_
  exact .refl _
  rintro _ _ h0
  refine tc tbk 4 (.mk ?_)
  obtain rfl := nxt_e h0
  refine wR hret (rT .nil) ?_
  exact .refl _
end Go.Pv
