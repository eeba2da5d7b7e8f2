import Derived.Test.YtpbcnilkippahaaGreatPvAE
import Derived.Test.YtpbcnilkippahaaGreatPvAF
import Derived.Test.YtpbcnilkippahaaGreatPvAG
import Derived.Test.YtpbcnilkippahaaGreatProg
set_option linter.unusedVariables false
set_option linter.unusedSimpArgs false
namespace Go.Pv
open Go.Proofs
theorem mixed : Tryz.prog.follows .mixedOrders = true := by kernel_rfl
set_option maxRecDepth 10000
set_option maxHeartbeats 1000000
structure GMaster where
  Entities : Int
  Periods : Int
  Weights : List Int
  Methods : List (List Int)
  Costs : List (List Int)
  deriving DecidableEq, Inhabited
@[reducible] def GMaster.av (x : GMaster) : List AV := [int x.Entities, int x.Periods, lst 1 fI x.Weights, lst 1 (fL 1 fI) x.Methods, lst 1 (fL 1 fI) x.Costs]
theorem GMaster.pvc (x : GMaster) : ∀ a ∈ x.av, PV a := by
  intro a ha; simp only [GMaster.av, List.mem_cons, List.not_mem_nil, or_false] at ha
  rcases ha with rfl | rfl | rfl | rfl | rfl
  · exact pvI x.Entities
  · exact pvI x.Periods
  · exact (pvLs pvcI) x.Weights
  · exact (pvLs (pvcLs pvcI)) x.Methods
  · exact (pvLs (pvcLs pvcI)) x.Costs
structure GLayer where
  Qty : Int
  Value : Int
  Profit : Int
  deriving DecidableEq, Inhabited
@[reducible] def GLayer.av (x : GLayer) : List AV := [int x.Qty, int x.Value, int x.Profit]
theorem GLayer.pvc (x : GLayer) : ∀ a ∈ x.av, PV a := by
  intro a ha; simp only [GLayer.av, List.mem_cons, List.not_mem_nil, or_false] at ha
  rcases ha with rfl | rfl | rfl
  · exact pvI x.Qty
  · exact pvI x.Value
  · exact pvI x.Profit
structure A3_Int where
  a0 : Int
  a1 : Int
  a2 : Int
  deriving DecidableEq, Inhabited
@[reducible] def A3_Int.av (x : A3_Int) : List AV := [int x.a0, int x.a1, int x.a2]
theorem A3_Int.pvc (x : A3_Int) : ∀ a ∈ x.av, PV a := by
  intro a ha; simp only [A3_Int.av, List.mem_cons, List.not_mem_nil, or_false] at ha
  rcases ha with rfl | rfl | rfl
  · exact pvI x.a0
  · exact pvI x.a1
  · exact pvI x.a2
structure GPool where
  Layers : List GLayer
  Pend : A3_Int
  deriving DecidableEq, Inhabited
@[reducible] def GPool.av (x : GPool) : List AV := [lst 3 GLayer.av x.Layers, int x.Pend.a0, int x.Pend.a1, int x.Pend.a2]
theorem GPool.pvc (x : GPool) : ∀ a ∈ x.av, PV a := by
  intro a ha; simp only [GPool.av, List.mem_cons, List.not_mem_nil, or_false] at ha
  rcases ha with rfl | rfl | rfl | rfl
  · exact (pvLs GLayer.pvc) x.Layers
  · exact pvI x.Pend.a0
  · exact pvI x.Pend.a1
  · exact pvI x.Pend.a2
structure GRoll where
  Open : Int
  Bought : Int
  Landed : Int
  Arrived : Int
  Returned : Int
  Sold : Int
  Shipped : Int
  SentBack : Int
  Scrapped : Int
  Lost : Int
  Revalued : Int
  deriving DecidableEq, Inhabited
@[reducible] def GRoll.av (x : GRoll) : List AV := [int x.Open, int x.Bought, int x.Landed, int x.Arrived, int x.Returned, int x.Sold, int x.Shipped, int x.SentBack, int x.Scrapped, int x.Lost, int x.Revalued]
theorem GRoll.pvc (x : GRoll) : ∀ a ∈ x.av, PV a := by
  intro a ha; simp only [GRoll.av, List.mem_cons, List.not_mem_nil, or_false] at ha
  rcases ha with rfl | rfl | rfl | rfl | rfl | rfl | rfl | rfl | rfl | rfl | rfl
  · exact pvI x.Open
  · exact pvI x.Bought
  · exact pvI x.Landed
  · exact pvI x.Arrived
  · exact pvI x.Returned
  · exact pvI x.Sold
  · exact pvI x.Shipped
  · exact pvI x.SentBack
  · exact pvI x.Scrapped
  · exact pvI x.Lost
  · exact pvI x.Revalued
structure GEnt where
  Now : Int
  Closed : Bool
  Pools : List GPool
  Bal : List Int
  Rolls : List GRoll
  Prices : List Int
  Down : List Int
  Ahead : List GEnt
  deriving Inhabited
mutual
def GEnt.av : GEnt → List AV
  | ⟨Now, Closed, Pools, Bal, Rolls, Prices, Down, Ahead⟩ => [int Now, boo Closed, lst 4 GPool.av Pools, lst 1 fI Bal, lst 11 GRoll.av Rolls, lst 1 fI Prices, lst 1 fI Down, .list 8 (GEnt.avs Ahead)]
def GEnt.avs : List GEnt → List (List AV)
  | [] => []
  | x :: r => GEnt.av x :: GEnt.avs r
end
theorem GEnt.avs_map (l : List GEnt) : GEnt.avs l = l.map GEnt.av := by
  induction l with
  | nil => unfold GEnt.avs; rfl
  | cons x r ih => unfold GEnt.avs; rw [ih]; rfl
theorem GEnt.av_eq (x : GEnt) : GEnt.av x = [int x.Now, boo x.Closed, lst 4 GPool.av x.Pools, lst 1 fI x.Bal, lst 11 GRoll.av x.Rolls, lst 1 fI x.Prices, lst 1 fI x.Down, lst 8 GEnt.av x.Ahead] := by
  cases x; unfold GEnt.av; rw [GEnt.avs_map]
theorem GEnt.one (x : GEnt) : allOne (GEnt.av x) = true := by rw [GEnt.av_eq]; rfl
mutual
theorem GEnt.pvc : ∀ (x : GEnt), ∀ a ∈ x.av, PV a
  | ⟨Now, Closed, Pools, Bal, Rolls, Prices, Down, Ahead⟩ => by
    intro a ha; unfold GEnt.av at ha; simp only [List.mem_cons, List.not_mem_nil, or_false] at ha
    rcases ha with rfl | rfl | rfl | rfl | rfl | rfl | rfl | rfl
    · exact pvI Now
    · exact pvB Closed
    · exact (pvLs GPool.pvc) Pools
    · exact (pvLs pvcI) Bal
    · exact (pvLs GRoll.pvc) Rolls
    · exact (pvLs pvcI) Prices
    · exact (pvLs pvcI) Down
    · exact .list (fun r hr => GEnt.pvcs Ahead r hr)
theorem GEnt.pvcs : ∀ (l : List GEnt), ∀ r ∈ GEnt.avs l, ∀ a ∈ r, PV a
  | [] => by intro r hr; unfold GEnt.avs at hr; cases hr
  | x :: l => by
    intro r hr; unfold GEnt.avs at hr
    rcases List.mem_cons.1 hr with e | h
    · rw [e]; exact GEnt.pvc x
    · exact GEnt.pvcs l r h
end
structure GReceipt where
  Entity : Int
  Item : Int
  Loc : Int
  Qty : Int
  Value : Int
  Open : Int
  Accrued : Int
  Back : Int
  deriving DecidableEq, Inhabited
@[reducible] def GReceipt.av (x : GReceipt) : List AV := [int x.Entity, int x.Item, int x.Loc, int x.Qty, int x.Value, int x.Open, int x.Accrued, int x.Back]
theorem GReceipt.pvc (x : GReceipt) : ∀ a ∈ x.av, PV a := by
  intro a ha; simp only [GReceipt.av, List.mem_cons, List.not_mem_nil, or_false] at ha
  rcases ha with rfl | rfl | rfl | rfl | rfl | rfl | rfl | rfl
  · exact pvI x.Entity
  · exact pvI x.Item
  · exact pvI x.Loc
  · exact pvI x.Qty
  · exact pvI x.Value
  · exact pvI x.Open
  · exact pvI x.Accrued
  · exact pvI x.Back
theorem GReceipt.eqv (x y : GReceipt) : (decide (x.Entity = y.Entity) && (decide (x.Item = y.Item) && (decide (x.Loc = y.Loc) && (decide (x.Qty = y.Qty) && (decide (x.Value = y.Value) && (decide (x.Open = y.Open) && (decide (x.Accrued = y.Accrued) && (decide (x.Back = y.Back) && true)))))))) = decide (x = y) := by
  cases x; cases y; rw [Bool.eq_iff_iff]; simp only [Bool.and_eq_true, decide_eq_true_eq, GReceipt.mk.injEq, and_true]
structure GSale where
  Entity : Int
  Item : Int
  Loc : Int
  Qty : Int
  Back : Int
  Cost : Int
  Profit : Int
  Period : Int
  Waits : Bool
  deriving DecidableEq, Inhabited
@[reducible] def GSale.av (x : GSale) : List AV := [int x.Entity, int x.Item, int x.Loc, int x.Qty, int x.Back, int x.Cost, int x.Profit, int x.Period, boo x.Waits]
theorem GSale.pvc (x : GSale) : ∀ a ∈ x.av, PV a := by
  intro a ha; simp only [GSale.av, List.mem_cons, List.not_mem_nil, or_false] at ha
  rcases ha with rfl | rfl | rfl | rfl | rfl | rfl | rfl | rfl | rfl
  · exact pvI x.Entity
  · exact pvI x.Item
  · exact pvI x.Loc
  · exact pvI x.Qty
  · exact pvI x.Back
  · exact pvI x.Cost
  · exact pvI x.Profit
  · exact pvI x.Period
  · exact pvB x.Waits
theorem GSale.eqv (x y : GSale) : (decide (x.Entity = y.Entity) && (decide (x.Item = y.Item) && (decide (x.Loc = y.Loc) && (decide (x.Qty = y.Qty) && (decide (x.Back = y.Back) && (decide (x.Cost = y.Cost) && (decide (x.Profit = y.Profit) && (decide (x.Period = y.Period) && (decide (x.Waits = y.Waits) && true))))))))) = decide (x = y) := by
  cases x; cases y; rw [Bool.eq_iff_iff]; simp only [Bool.and_eq_true, decide_eq_true_eq, GSale.mk.injEq, and_true]
structure GTransit where
  From : Int
  To : Int
  Item : Int
  Qty : Int
  Value : Int
  Profit : Int
  deriving DecidableEq, Inhabited
@[reducible] def GTransit.av (x : GTransit) : List AV := [int x.From, int x.To, int x.Item, int x.Qty, int x.Value, int x.Profit]
theorem GTransit.pvc (x : GTransit) : ∀ a ∈ x.av, PV a := by
  intro a ha; simp only [GTransit.av, List.mem_cons, List.not_mem_nil, or_false] at ha
  rcases ha with rfl | rfl | rfl | rfl | rfl | rfl
  · exact pvI x.From
  · exact pvI x.To
  · exact pvI x.Item
  · exact pvI x.Qty
  · exact pvI x.Value
  · exact pvI x.Profit
structure GState where
  Master : GMaster
  Ents : List GEnt
  Receipts : List GReceipt
  Sales : List GSale
  Transits : List GTransit
  Done : Int
  deriving Inhabited
@[reducible] def GState.av (x : GState) : List AV := [int x.Master.Entities, int x.Master.Periods, lst 1 fI x.Master.Weights, lst 1 (fL 1 fI) x.Master.Methods, lst 1 (fL 1 fI) x.Master.Costs, lst 8 GEnt.av x.Ents, lst 8 GReceipt.av x.Receipts, lst 9 GSale.av x.Sales, lst 6 GTransit.av x.Transits, int x.Done]
theorem GState.pvc (x : GState) : ∀ a ∈ x.av, PV a := by
  intro a ha; simp only [GState.av, List.mem_cons, List.not_mem_nil, or_false] at ha
  rcases ha with rfl | rfl | rfl | rfl | rfl | rfl | rfl | rfl | rfl | rfl
  · exact pvI x.Master.Entities
  · exact pvI x.Master.Periods
  · exact (pvLs pvcI) x.Master.Weights
  · exact (pvLs (pvcLs pvcI)) x.Master.Methods
  · exact (pvLs (pvcLs pvcI)) x.Master.Costs
  · exact (pvLs GEnt.pvc) x.Ents
  · exact (pvLs GReceipt.pvc) x.Receipts
  · exact (pvLs GSale.pvc) x.Sales
  · exact (pvLs GTransit.pvc) x.Transits
  · exact pvI x.Done
@[reducible] def GState.avN (x : GState) : List AV := [int x.Master.Entities, int x.Master.Periods, lst 1 fI x.Master.Weights, lst 1 (fL 1 fI) x.Master.Methods, lst 1 (fL 1 fI) x.Master.Costs, lst 8 GEnt.av x.Ents, lst 8 GReceipt.av x.Receipts, .sc (.slice none 0 0), lst 6 GTransit.av x.Transits, int x.Done]
theorem GState.pvcN (x : GState) : ∀ a ∈ x.avN, PV a := by
  intro a ha; simp only [GState.avN, List.mem_cons, List.not_mem_nil, or_false] at ha
  rcases ha with rfl | rfl | rfl | rfl | rfl | rfl | rfl | rfl | rfl | rfl
  · exact pvI x.Master.Entities
  · exact pvI x.Master.Periods
  · exact (pvLs pvcI) x.Master.Weights
  · exact (pvLs (pvcLs pvcI)) x.Master.Methods
  · exact (pvLs (pvcLs pvcI)) x.Master.Costs
  · exact (pvLs GEnt.pvc) x.Ents
  · exact (pvLs GReceipt.pvc) x.Receipts
  · exact .sc _
  · exact (pvLs GTransit.pvc) x.Transits
  · exact pvI x.Done
structure GOp where
  Kind : Int
  E : Int
  Item : Int
  Loc : Int
  To : Int
  Qty : Int
  Amount : Int
  Ref : Int
  Refs : List Int
  deriving DecidableEq, Inhabited
@[reducible] def GOp.av (x : GOp) : List AV := [int x.Kind, int x.E, int x.Item, int x.Loc, int x.To, int x.Qty, int x.Amount, int x.Ref, lst 1 fI x.Refs]
theorem GOp.pvc (x : GOp) : ∀ a ∈ x.av, PV a := by
  intro a ha; simp only [GOp.av, List.mem_cons, List.not_mem_nil, or_false] at ha
  rcases ha with rfl | rfl | rfl | rfl | rfl | rfl | rfl | rfl | rfl
  · exact pvI x.Kind
  · exact pvI x.E
  · exact pvI x.Item
  · exact pvI x.Loc
  · exact pvI x.To
  · exact pvI x.Qty
  · exact pvI x.Amount
  · exact pvI x.Ref
  · exact (pvLs pvcI) x.Refs
structure GLine where
  Account : Int
  Amount : Int
  deriving DecidableEq, Inhabited
@[reducible] def GLine.av (x : GLine) : List AV := [int x.Account, int x.Amount]
theorem GLine.pvc (x : GLine) : ∀ a ∈ x.av, PV a := by
  intro a ha; simp only [GLine.av, List.mem_cons, List.not_mem_nil, or_false] at ha
  rcases ha with rfl | rfl
  · exact pvI x.Account
  · exact pvI x.Amount
structure A11_Int where
  a0 : Int
  a1 : Int
  a2 : Int
  a3 : Int
  a4 : Int
  a5 : Int
  a6 : Int
  a7 : Int
  a8 : Int
  a9 : Int
  a10 : Int
  deriving DecidableEq, Inhabited
@[reducible] def A11_Int.av (x : A11_Int) : List AV := [int x.a0, int x.a1, int x.a2, int x.a3, int x.a4, int x.a5, int x.a6, int x.a7, int x.a8, int x.a9, int x.a10]
theorem A11_Int.pvc (x : A11_Int) : ∀ a ∈ x.av, PV a := by
  intro a ha; simp only [A11_Int.av, List.mem_cons, List.not_mem_nil, or_false] at ha
  rcases ha with rfl | rfl | rfl | rfl | rfl | rfl | rfl | rfl | rfl | rfl | rfl
  · exact pvI x.a0
  · exact pvI x.a1
  · exact pvI x.a2
  · exact pvI x.a3
  · exact pvI x.a4
  · exact pvI x.a5
  · exact pvI x.a6
  · exact pvI x.a7
  · exact pvI x.a8
  · exact pvI x.a9
  · exact pvI x.a10
theorem A11_Int.eqv (x y : A11_Int) : (decide (x.a0 = y.a0) && (decide (x.a1 = y.a1) && (decide (x.a2 = y.a2) && (decide (x.a3 = y.a3) && (decide (x.a4 = y.a4) && (decide (x.a5 = y.a5) && (decide (x.a6 = y.a6) && (decide (x.a7 = y.a7) && (decide (x.a8 = y.a8) && (decide (x.a9 = y.a9) && (decide (x.a10 = y.a10) && true))))))))))) = decide (x = y) := by
  cases x; cases y; rw [Bool.eq_iff_iff]; simp only [Bool.and_eq_true, decide_eq_true_eq, A11_Int.mk.injEq, and_true]
structure Gmoving where
  deriving DecidableEq, Inhabited
@[reducible] def Gmoving.av (x : Gmoving) : List AV := []
theorem Gmoving.pvc (x : Gmoving) : ∀ a ∈ x.av, PV a := by
  intro a ha; cases ha
structure Gfirst where
  deriving DecidableEq, Inhabited
@[reducible] def Gfirst.av (x : Gfirst) : List AV := []
theorem Gfirst.pvc (x : Gfirst) : ∀ a ∈ x.av, PV a := by
  intro a ha; cases ha
theorem sh3 : tySh Tryz.prog 3 = some (1, false) := by kernel_rfl
theorem sh4 : tySh Tryz.prog 4 = some (1, false) := by kernel_rfl
theorem sh23 : tySh Tryz.prog 23 = some (1, false) := by kernel_rfl
theorem sh24 : tySh Tryz.prog 24 = some (1, false) := by kernel_rfl
theorem sh26 : tySh Tryz.prog 26 = some (5, true) := by kernel_rfl
theorem sh27 : tySh Tryz.prog 27 = some (1, false) := by kernel_rfl
theorem sh28 : tySh Tryz.prog 28 = some (1, false) := by kernel_rfl
theorem sh29 : tySh Tryz.prog 29 = some (1, false) := by kernel_rfl
theorem sh32 : tySh Tryz.prog 32 = some (10, true) := by kernel_rfl
theorem sh35 : tySh Tryz.prog 35 = some (9, true) := by kernel_rfl
theorem sh37 : tySh Tryz.prog 37 = some (1, false) := by kernel_rfl
theorem sh38 : tySh Tryz.prog 38 = some (1, false) := by kernel_rfl
theorem sh40 : tySh Tryz.prog 40 = some (8, true) := by kernel_rfl
theorem sh49 : tySh Tryz.prog 49 = some (8, true) := by kernel_rfl
theorem sh54 : tySh Tryz.prog 54 = some (9, true) := by kernel_rfl
theorem sh60 : tySh Tryz.prog 60 = some (3, true) := by kernel_rfl
theorem sh63 : tySh Tryz.prog 63 = some (2, true) := by kernel_rfl
theorem sh67 : tySh Tryz.prog 67 = some (11, true) := by kernel_rfl
theorem sh79 : tySh Tryz.prog 79 = some (1, false) := by kernel_rfl
theorem sh82 : tySh Tryz.prog 82 = some (4, true) := by kernel_rfl
theorem sh86 : tySh Tryz.prog 86 = some (10, true) := by kernel_rfl
theorem sh97 : tySh Tryz.prog 97 = some (1, false) := by kernel_rfl
theorem sh108 : tySh Tryz.prog 108 = some (11, true) := by kernel_rfl
theorem sh139 : tySh Tryz.prog 139 = some (1, false) := by kernel_rfl
theorem sh159 : tySh Tryz.prog 159 = some (0, true) := by kernel_rfl
theorem sh162 : tySh Tryz.prog 162 = some (2, true) := by kernel_rfl
theorem sh171 : tySh Tryz.prog 171 = some (1, false) := by kernel_rfl
theorem sh179 : tySh Tryz.prog 179 = some (1, false) := by kernel_rfl
theorem sh189 : tySh Tryz.prog 189 = some (4, true) := by kernel_rfl
theorem sh220 : tySh Tryz.prog 220 = some (3, true) := by kernel_rfl
theorem by23 : bby Tryz.prog 23 = some 24 := by kernel_rfl
theorem by3 : bby Tryz.prog 3 = some 8 := by kernel_rfl
theorem by40 : bby Tryz.prog 40 = some 160 := by kernel_rfl
theorem by49 : bby Tryz.prog 49 = some 64 := by kernel_rfl
theorem by54 : bby Tryz.prog 54 = some 72 := by kernel_rfl
theorem by60 : bby Tryz.prog 60 = some 24 := by kernel_rfl
theorem by63 : bby Tryz.prog 63 = some 16 := by kernel_rfl
theorem by67 : bby Tryz.prog 67 = some 88 := by kernel_rfl
theorem by82 : bby Tryz.prog 82 = some 48 := by kernel_rfl
theorem bz162 : bsz Tryz.prog 162 = some (2, [.pointer none, .slice none 0 0]) := by kernel_rfl
theorem bz23 : bsz Tryz.prog 23 = some (1, [.slice none 0 0]) := by kernel_rfl
theorem bz3 : bsz Tryz.prog 3 = some (1, [.int .i64 0]) := by kernel_rfl
theorem bz40 : bsz Tryz.prog 40 = some (8, [.int .i64 0, .bool false, .slice none 0 0, .slice none 0 0, .slice none 0 0, .slice none 0 0, .slice none 0 0, .slice none 0 0]) := by kernel_rfl
theorem bz49 : bsz Tryz.prog 49 = some (8, [.int .i64 0, .int .i64 0, .int .i64 0, .int .i64 0, .int .i64 0, .int .i64 0, .int .i64 0, .int .i64 0]) := by kernel_rfl
theorem bz54 : bsz Tryz.prog 54 = some (9, [.int .i64 0, .int .i64 0, .int .i64 0, .int .i64 0, .int .i64 0, .int .i64 0, .int .i64 0, .int .i64 0, .bool false]) := by kernel_rfl
theorem bz60 : bsz Tryz.prog 60 = some (3, [.int .i64 0, .int .i64 0, .int .i64 0]) := by kernel_rfl
theorem bz63 : bsz Tryz.prog 63 = some (2, [.int .i64 0, .int .i64 0]) := by kernel_rfl
theorem bz67 : bsz Tryz.prog 67 = some (11, [.int .i64 0, .int .i64 0, .int .i64 0, .int .i64 0, .int .i64 0, .int .i64 0, .int .i64 0, .int .i64 0, .int .i64 0, .int .i64 0, .int .i64 0]) := by kernel_rfl
theorem bz82 : bsz Tryz.prog 82 = some (4, [.slice none 0 0, .int .i64 0, .int .i64 0, .int .i64 0]) := by kernel_rfl
theorem bz97 : bsz Tryz.prog 97 = some (1, [.pointer none]) := by kernel_rfl
theorem c3 : Tryz.prog.cellsOf 3 = 1 := by kernel_rfl
theorem cal100 : cal Tryz.prog 100 = true := by kernel_rfl
theorem cal101 : cal Tryz.prog 101 = true := by kernel_rfl
theorem cal104 : cal Tryz.prog 104 = true := by kernel_rfl
theorem cal105 : cal Tryz.prog 105 = true := by kernel_rfl
theorem cal106 : cal Tryz.prog 106 = true := by kernel_rfl
theorem cal107 : cal Tryz.prog 107 = true := by kernel_rfl
theorem cal108 : cal Tryz.prog 108 = true := by kernel_rfl
theorem cal109 : cal Tryz.prog 109 = true := by kernel_rfl
theorem cal110 : cal Tryz.prog 110 = true := by kernel_rfl
theorem cal111 : cal Tryz.prog 111 = true := by kernel_rfl
theorem cal112 : cal Tryz.prog 112 = true := by kernel_rfl
theorem cal113 : cal Tryz.prog 113 = true := by kernel_rfl
theorem cal114 : cal Tryz.prog 114 = true := by kernel_rfl
theorem cal115 : cal Tryz.prog 115 = true := by kernel_rfl
theorem cal116 : cal Tryz.prog 116 = true := by kernel_rfl
theorem cal117 : cal Tryz.prog 117 = true := by kernel_rfl
theorem cal12 : cal Tryz.prog 12 = true := by kernel_rfl
theorem cal120 : cal Tryz.prog 120 = true := by kernel_rfl
theorem cal121 : cal Tryz.prog 121 = true := by kernel_rfl
theorem cal122 : cal Tryz.prog 122 = true := by kernel_rfl
theorem cal124 : cal Tryz.prog 124 = true := by kernel_rfl
theorem cal125 : cal Tryz.prog 125 = true := by kernel_rfl
theorem cal126 : cal Tryz.prog 126 = true := by kernel_rfl
theorem cal127 : cal Tryz.prog 127 = true := by kernel_rfl
theorem cal128 : cal Tryz.prog 128 = true := by kernel_rfl
theorem cal13 : cal Tryz.prog 13 = true := by kernel_rfl
theorem cal131 : cal Tryz.prog 131 = true := by kernel_rfl
theorem cal132 : cal Tryz.prog 132 = true := by kernel_rfl
theorem cal135 : cal Tryz.prog 135 = true := by kernel_rfl
theorem cal14 : cal Tryz.prog 14 = true := by kernel_rfl
theorem cal15 : cal Tryz.prog 15 = true := by kernel_rfl
theorem cal154 : cal Tryz.prog 154 = true := by kernel_rfl
theorem cal155 : cal Tryz.prog 155 = true := by kernel_rfl
theorem cal156 : cal Tryz.prog 156 = true := by kernel_rfl
theorem cal157 : cal Tryz.prog 157 = true := by kernel_rfl
theorem cal158 : cal Tryz.prog 158 = true := by kernel_rfl
theorem cal159 : cal Tryz.prog 159 = true := by kernel_rfl
theorem cal160 : cal Tryz.prog 160 = true := by kernel_rfl
theorem cal161 : cal Tryz.prog 161 = true := by kernel_rfl
theorem cal162 : cal Tryz.prog 162 = true := by kernel_rfl
theorem cal163 : cal Tryz.prog 163 = true := by kernel_rfl
theorem cal164 : cal Tryz.prog 164 = true := by kernel_rfl
theorem cal165 : cal Tryz.prog 165 = true := by kernel_rfl
theorem cal166 : cal Tryz.prog 166 = true := by kernel_rfl
theorem cal167 : cal Tryz.prog 167 = true := by kernel_rfl
theorem cal168 : cal Tryz.prog 168 = true := by kernel_rfl
theorem cal17 : cal Tryz.prog 17 = true := by kernel_rfl
theorem cal20 : cal Tryz.prog 20 = true := by kernel_rfl
theorem cal22 : cal Tryz.prog 22 = true := by kernel_rfl
theorem cal24 : cal Tryz.prog 24 = true := by kernel_rfl
theorem cal26 : cal Tryz.prog 26 = true := by kernel_rfl
theorem cal27 : cal Tryz.prog 27 = true := by kernel_rfl
theorem cal28 : cal Tryz.prog 28 = true := by kernel_rfl
theorem cal30 : cal Tryz.prog 30 = true := by kernel_rfl
theorem cal31 : cal Tryz.prog 31 = true := by kernel_rfl
theorem cal32 : cal Tryz.prog 32 = true := by kernel_rfl
theorem cal33 : cal Tryz.prog 33 = true := by kernel_rfl
theorem cal35 : cal Tryz.prog 35 = true := by kernel_rfl
theorem cal36 : cal Tryz.prog 36 = true := by kernel_rfl
theorem cal37 : cal Tryz.prog 37 = true := by kernel_rfl
theorem cal38 : cal Tryz.prog 38 = true := by kernel_rfl
theorem cal39 : cal Tryz.prog 39 = true := by kernel_rfl
theorem cal40 : cal Tryz.prog 40 = true := by kernel_rfl
theorem cal41 : cal Tryz.prog 41 = true := by kernel_rfl
theorem cal42 : cal Tryz.prog 42 = true := by kernel_rfl
theorem cal43 : cal Tryz.prog 43 = true := by kernel_rfl
theorem cal44 : cal Tryz.prog 44 = true := by kernel_rfl
theorem cal45 : cal Tryz.prog 45 = true := by kernel_rfl
theorem cal46 : cal Tryz.prog 46 = true := by kernel_rfl
theorem cal47 : cal Tryz.prog 47 = true := by kernel_rfl
theorem cal48 : cal Tryz.prog 48 = true := by kernel_rfl
theorem cal49 : cal Tryz.prog 49 = true := by kernel_rfl
theorem cal50 : cal Tryz.prog 50 = true := by kernel_rfl
theorem cal51 : cal Tryz.prog 51 = true := by kernel_rfl
theorem cal52 : cal Tryz.prog 52 = true := by kernel_rfl
theorem cal53 : cal Tryz.prog 53 = true := by kernel_rfl
theorem cal54 : cal Tryz.prog 54 = true := by kernel_rfl
theorem cal55 : cal Tryz.prog 55 = true := by kernel_rfl
theorem cal56 : cal Tryz.prog 56 = true := by kernel_rfl
theorem cal57 : cal Tryz.prog 57 = true := by kernel_rfl
theorem cal58 : cal Tryz.prog 58 = true := by kernel_rfl
theorem cal59 : cal Tryz.prog 59 = true := by kernel_rfl
theorem cal6 : cal Tryz.prog 6 = true := by kernel_rfl
theorem cal60 : cal Tryz.prog 60 = true := by kernel_rfl
theorem cal61 : cal Tryz.prog 61 = true := by kernel_rfl
theorem cal62 : cal Tryz.prog 62 = true := by kernel_rfl
theorem cal64 : cal Tryz.prog 64 = true := by kernel_rfl
theorem cal65 : cal Tryz.prog 65 = true := by kernel_rfl
theorem cal66 : cal Tryz.prog 66 = true := by kernel_rfl
theorem cal67 : cal Tryz.prog 67 = true := by kernel_rfl
theorem cal68 : cal Tryz.prog 68 = true := by kernel_rfl
theorem cal69 : cal Tryz.prog 69 = true := by kernel_rfl
theorem cal70 : cal Tryz.prog 70 = true := by kernel_rfl
theorem cal71 : cal Tryz.prog 71 = true := by kernel_rfl
theorem cal72 : cal Tryz.prog 72 = true := by kernel_rfl
theorem cal73 : cal Tryz.prog 73 = true := by kernel_rfl
theorem cal74 : cal Tryz.prog 74 = true := by kernel_rfl
theorem cal75 : cal Tryz.prog 75 = true := by kernel_rfl
theorem cal76 : cal Tryz.prog 76 = true := by kernel_rfl
theorem cal77 : cal Tryz.prog 77 = true := by kernel_rfl
theorem cal78 : cal Tryz.prog 78 = true := by kernel_rfl
theorem cal79 : cal Tryz.prog 79 = true := by kernel_rfl
theorem cal80 : cal Tryz.prog 80 = true := by kernel_rfl
theorem cal81 : cal Tryz.prog 81 = true := by kernel_rfl
theorem cal82 : cal Tryz.prog 82 = true := by kernel_rfl
theorem cal83 : cal Tryz.prog 83 = true := by kernel_rfl
theorem cal84 : cal Tryz.prog 84 = true := by kernel_rfl
theorem cal85 : cal Tryz.prog 85 = true := by kernel_rfl
theorem cal86 : cal Tryz.prog 86 = true := by kernel_rfl
theorem cal87 : cal Tryz.prog 87 = true := by kernel_rfl
theorem cal88 : cal Tryz.prog 88 = true := by kernel_rfl
theorem cal89 : cal Tryz.prog 89 = true := by kernel_rfl
theorem cal9 : cal Tryz.prog 9 = true := by kernel_rfl
theorem cal90 : cal Tryz.prog 90 = true := by kernel_rfl
theorem cal91 : cal Tryz.prog 91 = true := by kernel_rfl
theorem cal92 : cal Tryz.prog 92 = true := by kernel_rfl
theorem cal93 : cal Tryz.prog 93 = true := by kernel_rfl
theorem cal94 : cal Tryz.prog 94 = true := by kernel_rfl
theorem cal95 : cal Tryz.prog 95 = true := by kernel_rfl
theorem cal96 : cal Tryz.prog 96 = true := by kernel_rfl
theorem cal97 : cal Tryz.prog 97 = true := by kernel_rfl
theorem cal98 : cal Tryz.prog 98 = true := by kernel_rfl
theorem cal99 : cal Tryz.prog 99 = true := by kernel_rfl
theorem fl49 : flds Tryz.prog 49 = some [(3, 0), (3, 1), (3, 2), (3, 3), (3, 4), (3, 5), (3, 6), (3, 7)] := by kernel_rfl
theorem fl54 : flds Tryz.prog 54 = some [(3, 0), (3, 1), (3, 2), (3, 3), (3, 4), (3, 5), (3, 6), (3, 7), (4, 8)] := by kernel_rfl
theorem fo26_2 : fOff Tryz.prog 26 2 = some 2 := by kernel_rfl
theorem fo26_3 : fOff Tryz.prog 26 3 = some 3 := by kernel_rfl
theorem fo26_4 : fOff Tryz.prog 26 4 = some 4 := by kernel_rfl
theorem fo32_0 : fOff Tryz.prog 32 0 = some 0 := by kernel_rfl
theorem fo32_1 : fOff Tryz.prog 32 1 = some 5 := by kernel_rfl
theorem fo32_2 : fOff Tryz.prog 32 2 = some 6 := by kernel_rfl
theorem fo32_3 : fOff Tryz.prog 32 3 = some 7 := by kernel_rfl
theorem fo35_1 : fOff Tryz.prog 35 1 = some 1 := by kernel_rfl
theorem fo35_2 : fOff Tryz.prog 35 2 = some 2 := by kernel_rfl
theorem fo35_3 : fOff Tryz.prog 35 3 = some 3 := by kernel_rfl
theorem fo35_5 : fOff Tryz.prog 35 5 = some 5 := by kernel_rfl
theorem fo35_6 : fOff Tryz.prog 35 6 = some 6 := by kernel_rfl
theorem fo40_0 : fOff Tryz.prog 40 0 = some 0 := by kernel_rfl
theorem fo40_2 : fOff Tryz.prog 40 2 = some 2 := by kernel_rfl
theorem fo40_3 : fOff Tryz.prog 40 3 = some 3 := by kernel_rfl
theorem fo40_4 : fOff Tryz.prog 40 4 = some 4 := by kernel_rfl
theorem fo40_5 : fOff Tryz.prog 40 5 = some 5 := by kernel_rfl
theorem fo40_6 : fOff Tryz.prog 40 6 = some 6 := by kernel_rfl
theorem fo54_0 : fOff Tryz.prog 54 0 = some 0 := by kernel_rfl
theorem fo54_1 : fOff Tryz.prog 54 1 = some 1 := by kernel_rfl
theorem fo54_2 : fOff Tryz.prog 54 2 = some 2 := by kernel_rfl
theorem fo54_3 : fOff Tryz.prog 54 3 = some 3 := by kernel_rfl
theorem fo54_4 : fOff Tryz.prog 54 4 = some 4 := by kernel_rfl
theorem fo54_5 : fOff Tryz.prog 54 5 = some 5 := by kernel_rfl
theorem fo54_6 : fOff Tryz.prog 54 6 = some 6 := by kernel_rfl
theorem fo54_7 : fOff Tryz.prog 54 7 = some 7 := by kernel_rfl
theorem fo54_8 : fOff Tryz.prog 54 8 = some 8 := by kernel_rfl
theorem fo60_0 : fOff Tryz.prog 60 0 = some 0 := by kernel_rfl
theorem fo60_1 : fOff Tryz.prog 60 1 = some 1 := by kernel_rfl
theorem fo60_2 : fOff Tryz.prog 60 2 = some 2 := by kernel_rfl
theorem fo63_0 : fOff Tryz.prog 63 0 = some 0 := by kernel_rfl
theorem fo63_1 : fOff Tryz.prog 63 1 = some 1 := by kernel_rfl
theorem fo67_0 : fOff Tryz.prog 67 0 = some 0 := by kernel_rfl
theorem fo67_1 : fOff Tryz.prog 67 1 = some 1 := by kernel_rfl
theorem fo67_10 : fOff Tryz.prog 67 10 = some 10 := by kernel_rfl
theorem fo67_2 : fOff Tryz.prog 67 2 = some 2 := by kernel_rfl
theorem fo67_3 : fOff Tryz.prog 67 3 = some 3 := by kernel_rfl
theorem fo67_4 : fOff Tryz.prog 67 4 = some 4 := by kernel_rfl
theorem fo67_5 : fOff Tryz.prog 67 5 = some 5 := by kernel_rfl
theorem fo67_6 : fOff Tryz.prog 67 6 = some 6 := by kernel_rfl
theorem fo67_7 : fOff Tryz.prog 67 7 = some 7 := by kernel_rfl
theorem fo67_8 : fOff Tryz.prog 67 8 = some 8 := by kernel_rfl
theorem fo67_9 : fOff Tryz.prog 67 9 = some 9 := by kernel_rfl
theorem fo82_0 : fOff Tryz.prog 82 0 = some 0 := by kernel_rfl
theorem fo86_0 : fOff Tryz.prog 86 0 = some 0 := by kernel_rfl
theorem fp220_0 : fPart Tryz.prog 220 0 = some (0, 171) := by kernel_rfl
theorem mth157_154 : mth Tryz.prog 157 "purveyor/pool.in" = some 154 := by kernel_rfl
theorem mth157_155 : mth Tryz.prog 157 "purveyor/pool.out" = some 155 := by kernel_rfl
theorem mth158_164 : mth Tryz.prog 158 "purveyor/pool.in" = some 164 := by kernel_rfl
theorem mth158_165 : mth Tryz.prog 158 "purveyor/pool.out" = some 165 := by kernel_rfl
theorem pl32 : plc Tryz.prog 32 = some [(0, 5), (5, 1), (6, 1), (7, 1), (8, 1), (9, 1)] := by kernel_rfl
theorem pl35 : plc Tryz.prog 35 = some [(0, 1), (1, 1), (2, 1), (3, 1), (4, 1), (5, 1), (6, 1), (7, 1), (8, 1)] := by kernel_rfl
theorem pl40 : plc Tryz.prog 40 = some [(0, 1), (1, 1), (2, 1), (3, 1), (4, 1), (5, 1), (6, 1), (7, 1)] := by kernel_rfl
theorem pl49 : plc Tryz.prog 49 = some [(0, 1), (1, 1), (2, 1), (3, 1), (4, 1), (5, 1), (6, 1), (7, 1)] := by kernel_rfl
theorem pl54 : plc Tryz.prog 54 = some [(0, 1), (1, 1), (2, 1), (3, 1), (4, 1), (5, 1), (6, 1), (7, 1), (8, 1)] := by kernel_rfl
theorem pl60 : plc Tryz.prog 60 = some [(0, 1), (1, 1), (2, 1)] := by kernel_rfl
theorem pl67 : plc Tryz.prog 67 = some [(0, 1), (1, 1), (2, 1), (3, 1), (4, 1), (5, 1), (6, 1), (7, 1), (8, 1), (9, 1), (10, 1)] := by kernel_rfl
theorem pl86 : plc Tryz.prog 86 = some [(0, 10)] := by kernel_rfl
theorem sz3 : ((Tryz.prog.info? 3).map (·.size)) = some 1 := by kernel_rfl
theorem z108 : zeroOf Tryz.prog 108 = some [.int .i64 0, .int .i64 0, .int .i64 0, .int .i64 0, .int .i64 0, .int .i64 0, .int .i64 0, .int .i64 0, .int .i64 0, .int .i64 0, .int .i64 0] := by kernel_rfl
theorem z157 : zeroOf Tryz.prog 157 = some [] := by kernel_rfl
theorem z158 : zeroOf Tryz.prog 158 = some [] := by kernel_rfl
theorem z159 : zeroOf Tryz.prog 159 = some [] := by kernel_rfl
theorem z162 : zeroOf Tryz.prog 162 = some [.pointer none, .slice none 0 0] := by kernel_rfl
theorem z175 : zeroOf Tryz.prog 175 = some [.int .i64 0, .int .i64 0, .int .i64 0, .int .i64 0, .int .i64 0, .int .i64 0, .int .i64 0, .int .i64 0, .int .i64 0, .int .i64 0, .int .i64 0, .int .i64 0, .int .i64 0, .int .i64 0, .int .i64 0, .int .i64 0, .int .i64 0] := by kernel_rfl
theorem z189 : zeroOf Tryz.prog 189 = some [.int .u64 0, .int .u64 0, .int .u64 0, .int .u64 0] := by kernel_rfl
theorem z220 : zeroOf Tryz.prog 220 = some [.nilFunc, .nilFunc, .nilFunc] := by kernel_rfl
theorem z26 : zeroOf Tryz.prog 26 = some [.int .i64 0, .int .i64 0, .slice none 0 0, .slice none 0 0, .slice none 0 0] := by kernel_rfl
theorem z32 : zeroOf Tryz.prog 32 = some [.int .i64 0, .int .i64 0, .slice none 0 0, .slice none 0 0, .slice none 0 0, .slice none 0 0, .slice none 0 0, .slice none 0 0, .slice none 0 0, .int .i64 0] := by kernel_rfl
theorem z35 : zeroOf Tryz.prog 35 = some [.int .i64 0, .int .i64 0, .int .i64 0, .int .i64 0, .int .i64 0, .int .i64 0, .int .i64 0, .int .i64 0, .slice none 0 0] := by kernel_rfl
theorem z40 : zeroOf Tryz.prog 40 = some [.int .i64 0, .bool false, .slice none 0 0, .slice none 0 0, .slice none 0 0, .slice none 0 0, .slice none 0 0, .slice none 0 0] := by kernel_rfl
theorem z49 : zeroOf Tryz.prog 49 = some [.int .i64 0, .int .i64 0, .int .i64 0, .int .i64 0, .int .i64 0, .int .i64 0, .int .i64 0, .int .i64 0] := by kernel_rfl
theorem z54 : zeroOf Tryz.prog 54 = some [.int .i64 0, .int .i64 0, .int .i64 0, .int .i64 0, .int .i64 0, .int .i64 0, .int .i64 0, .int .i64 0, .bool false] := by kernel_rfl
theorem z60 : zeroOf Tryz.prog 60 = some [.int .i64 0, .int .i64 0, .int .i64 0] := by kernel_rfl
theorem z63 : zeroOf Tryz.prog 63 = some [.int .i64 0, .int .i64 0] := by kernel_rfl
theorem z67 : zeroOf Tryz.prog 67 = some [.int .i64 0, .int .i64 0, .int .i64 0, .int .i64 0, .int .i64 0, .int .i64 0, .int .i64 0, .int .i64 0, .int .i64 0, .int .i64 0, .int .i64 0] := by kernel_rfl
theorem z82 : zeroOf Tryz.prog 82 = some [.slice none 0 0, .int .i64 0, .int .i64 0, .int .i64 0] := by kernel_rfl
theorem z86 : zeroOf Tryz.prog 86 = some [.int .i64 0, .int .i64 0, .slice none 0 0, .slice none 0 0, .slice none 0 0, .slice none 0 0, .slice none 0 0, .slice none 0 0, .slice none 0 0, .int .i64 0] := by kernel_rfl
theorem zag159 : zAgg Tryz.prog 159 = true := by kernel_rfl
def tb : Tab2 := { sh := [(3, (1, false)), (4, (1, false)), (23, (1, false)), (24, (1, false)), (26, (5, true)), (27, (1, false)), (28, (1, false)), (29, (1, false)), (30, (1, false)), (32, (10, true)), (35, (9, true)), (37, (1, false)), (38, (1, false)), (40, (8, true)), (54, (9, true)), (60, (3, true)), (63, (2, true)), (64, (1, false)), (67, (11, true)), (79, (1, false)), (82, (4, true)), (97, (1, false)), (133, (1, false)), (162, (2, true)), (179, (1, false)), (214, (1, false))], fo := [((26, 0), 0), ((26, 1), 1), ((26, 2), 2), ((26, 3), 3), ((26, 4), 4), ((32, 0), 0), ((32, 1), 5), ((32, 2), 6), ((32, 3), 7), ((32, 4), 8), ((32, 5), 9), ((35, 0), 0), ((35, 1), 1), ((35, 2), 2), ((35, 3), 3), ((35, 5), 5), ((35, 6), 6), ((35, 7), 7), ((40, 0), 0), ((40, 1), 1), ((40, 2), 2), ((40, 3), 3), ((40, 4), 4), ((40, 5), 5), ((40, 6), 6), ((40, 7), 7), ((54, 3), 3), ((54, 4), 4), ((54, 5), 5), ((60, 0), 0), ((60, 1), 1), ((60, 2), 2), ((63, 0), 0), ((63, 1), 1), ((67, 0), 0), ((67, 1), 1), ((67, 2), 2), ((67, 3), 3), ((67, 4), 4), ((67, 5), 5), ((67, 6), 6), ((67, 7), 7), ((67, 8), 8), ((67, 9), 9), ((67, 10), 10), ((82, 0), 0), ((82, 1), 1), ((86, 0), 0), ((162, 0), 0), ((162, 1), 1)], fp := [((82, 0), (0, 79)), ((220, 1), (1, 214)), ((220, 2), (2, 133))], ki := [(3, .i64), (5, .u8), (179, .u64), (192, .u64)], se := [], bl := [(26, [(0, 1), (1, 1), (2, 1), (3, 1), (4, 1)]), (60, [(0, 1), (1, 1), (2, 1)]), (63, [(0, 1), (1, 1)]), (157, []), (158, []), (162, [(0, 1), (1, 1)]), (220, [(0, 1), (1, 1), (2, 1)])], zs := [(26, [.int .i64 0, .int .i64 0, .slice none 0 0, .slice none 0 0, .slice none 0 0]), (60, [.int .i64 0, .int .i64 0, .int .i64 0]), (63, [.int .i64 0, .int .i64 0]), (157, []), (158, []), (162, [.pointer none, .slice none 0 0]), (220, [.nilFunc, .nilFunc, .nilFunc])] }
theorem tbk : Tab2Ok Tryz.prog tb := ⟨⟨by kernel_rfl, by kernel_rfl, by kernel_rfl⟩, by kernel_rfl, by kernel_rfl, by kernel_rfl, ⟨z26, z60, z63, z157, z158, z162, z220, trivial⟩⟩
theorem clone49_c {H : AH} {id : Nat} {l : List GRoll} (hid : H id = none) (hl : l.length ≤ 68719476736) : PC Tryz.prog 49 [lst 11 GRoll.av l] H (fun y H' => ∃ ver, y = .sl id ver 0 l.length ∧ H' = upd H id (some ⟨67, 11, true, true, ver, l.map GRoll.av⟩)) := by
  refine pc_of' (c := _) Tryz.func49 rfl rfl ?_; intro Q hret hnorm
  repeat (refine c_seq ?_)
  refine c_reg ?_; intro K hK
  refine st rfl rfl rfl (yv_assign rfl rfl) ?_
  refine rg_nil (hK _ ?_)
  repeat (refine c_seq ?_)
  refine c_reg ?_; intro K hK
  refine st rfl rfl rfl (yv_move rfl rfl) ?_
  refine se rfl rfl rfl (Yield.weak (yl_slnil (xs := l.map GRoll.av) (sz := 11) rfl Tryz.underlying38 rfl rfl) (fun _ h => h) (fun _ _ => trivial)) ?_; rintro _ _ ⟨b, rfl, hb, rfl⟩
  refine rg_nil (hK _ ?_)
  refine c_if (b := b) rfl ?_ ?_
  · intro h; subst h
    have hl0 : l = [] := List.map_eq_nil_iff.1 (hb rfl)
    subst hl0
    repeat (refine c_seq ?_)
    refine c_reg ?_; intro K hK
    refine st rfl rfl rfl (yv_assign rfl rfl) ?_
    refine rg_nil (hK _ ?_)
    refine c_nilobj 2 id 67 11 rfl hid ?_; intro v
    refine c_ret (hret _ _ _ (.tmp rfl .nil) (fun _ _ h => h) ?_)
    exact ⟨v, rfl, rfl⟩
  · intro h; subst h
    refine c_skip ?_
    repeat (refine c_seq ?_)
    refine c_reg ?_; intro K hK
    refine se rfl rfl rfl (yl_buildO (ps := []) id [] .any rfl Tryz.underlying38 bz67 .nil rfl rfl rfl rfl) ?_; rintro _ _ ⟨v, -, rfl, rfl⟩
    refine st rfl rfl rfl (yv_move rfl rfl) ?_
    refine se rfl rfl rfl (yl_appT (g := GRoll.av) (l := []) (m := l) (l' := l) .any rfl Tryz.underlying38 bz67 by67 rfl rfl rfl (upd_same _ _ _) rfl rfl rfl rfl rfl rfl rfl (.refl _) (fun _ => rfl) rfl hl) ?_; rintro _ _ ⟨v2, -, rfl, rfl⟩
    refine st rfl rfl rfl (yv_assign rfl rfl) ?_
    refine rg_nil (hK _ ?_)
    refine c_ret (hret _ _ _ (.tmp rfl .nil) (fun _ _ h => h) ?_)
    exact ⟨v2, rfl, upd_updV⟩
theorem clone62_c {H : AH} {id : Nat} {l : List GSale} (hid : H id = none) (hl : l.length ≤ 68719476736) : PC Tryz.prog 62 [lst 9 GSale.av l] H (fun y H' => ∃ ver, y = .sl id ver 0 l.length ∧ H' = upd H id (some ⟨54, 9, true, true, ver, l.map GSale.av⟩)) := by
  refine pc_of' (c := _) Tryz.func62 rfl rfl ?_; intro Q hret hnorm
  repeat (refine c_seq ?_)
  refine c_reg ?_; intro K hK
  refine st rfl rfl rfl (yv_assign rfl rfl) ?_
  refine rg_nil (hK _ ?_)
  repeat (refine c_seq ?_)
  refine c_reg ?_; intro K hK
  refine st rfl rfl rfl (yv_move rfl rfl) ?_
  refine se rfl rfl rfl (Yield.weak (yl_slnil (xs := l.map GSale.av) (sz := 9) rfl Tryz.underlying29 rfl rfl) (fun _ h => h) (fun _ _ => trivial)) ?_; rintro _ _ ⟨b, rfl, hb, rfl⟩
  refine rg_nil (hK _ ?_)
  refine c_if (b := b) rfl ?_ ?_
  · intro h; subst h
    have hl0 : l = [] := List.map_eq_nil_iff.1 (hb rfl)
    subst hl0
    repeat (refine c_seq ?_)
    refine c_reg ?_; intro K hK
    refine st rfl rfl rfl (yv_assign rfl rfl) ?_
    refine rg_nil (hK _ ?_)
    refine c_nilobj 2 id 54 9 rfl hid ?_; intro v
    refine c_ret (hret _ _ _ (.tmp rfl .nil) (fun _ _ h => h) ?_)
    exact ⟨v, rfl, rfl⟩
  · intro h; subst h
    refine c_skip ?_
    repeat (refine c_seq ?_)
    refine c_reg ?_; intro K hK
    refine se rfl rfl rfl (yl_buildO (ps := []) id [] .any rfl Tryz.underlying29 bz54 .nil rfl rfl rfl rfl) ?_; rintro _ _ ⟨v, -, rfl, rfl⟩
    refine st rfl rfl rfl (yv_move rfl rfl) ?_
    refine se rfl rfl rfl (yl_appT (g := GSale.av) (l := []) (m := l) (l' := l) .any rfl Tryz.underlying29 bz54 by54 rfl rfl rfl (upd_same _ _ _) rfl rfl rfl rfl rfl rfl rfl (.refl _) (fun _ => rfl) rfl hl) ?_; rintro _ _ ⟨v2, -, rfl, rfl⟩
    refine st rfl rfl rfl (yv_assign rfl rfl) ?_
    refine rg_nil (hK _ ?_)
    refine c_ret (hret _ _ _ (.tmp rfl .nil) (fun _ _ h => h) ?_)
    exact ⟨v2, rfl, upd_updV⟩
theorem clone65_c {H : AH} {id : Nat} {l : List GEnt} (hid : H id = none) (hl : l.length ≤ 68719476736) : PC Tryz.prog 65 [lst 8 GEnt.av l] H (fun y H' => ∃ ver, y = .sl id ver 0 l.length ∧ H' = upd H id (some ⟨40, 8, true, true, ver, l.map GEnt.av⟩)) := by
  refine pc_of' (c := _) Tryz.func65 rfl rfl ?_; intro Q hret hnorm
  repeat (refine c_seq ?_)
  refine c_reg ?_; intro K hK
  refine st rfl rfl rfl (yv_assign rfl rfl) ?_
  refine rg_nil (hK _ ?_)
  repeat (refine c_seq ?_)
  refine c_reg ?_; intro K hK
  refine st rfl rfl rfl (yv_move rfl rfl) ?_
  refine se rfl rfl rfl (Yield.weak (yl_slnil (xs := l.map GEnt.av) (sz := 8) rfl Tryz.underlying27 rfl rfl) (fun _ h => h) (fun _ _ => trivial)) ?_; rintro _ _ ⟨b, rfl, hb, rfl⟩
  refine rg_nil (hK _ ?_)
  refine c_if (b := b) rfl ?_ ?_
  · intro h; subst h
    have hl0 : l = [] := List.map_eq_nil_iff.1 (hb rfl)
    subst hl0
    repeat (refine c_seq ?_)
    refine c_reg ?_; intro K hK
    refine st rfl rfl rfl (yv_assign rfl rfl) ?_
    refine rg_nil (hK _ ?_)
    refine c_nilobj 2 id 40 8 rfl hid ?_; intro v
    refine c_ret (hret _ _ _ (.tmp rfl .nil) (fun _ _ h => h) ?_)
    exact ⟨v, rfl, rfl⟩
  · intro h; subst h
    refine c_skip ?_
    repeat (refine c_seq ?_)
    refine c_reg ?_; intro K hK
    refine se rfl rfl rfl (yl_buildO (ps := []) id [] .any rfl Tryz.underlying27 bz40 .nil rfl rfl rfl rfl) ?_; rintro _ _ ⟨v, -, rfl, rfl⟩
    refine st rfl rfl rfl (yv_move rfl rfl) ?_
    refine se rfl rfl rfl (yl_appT (g := GEnt.av) (l := []) (m := l) (l' := l) .any rfl Tryz.underlying27 bz40 by40 rfl rfl rfl (upd_same _ _ _) rfl rfl rfl rfl rfl rfl rfl (.refl _) GEnt.one rfl hl) ?_; rintro _ _ ⟨v2, -, rfl, rfl⟩
    refine st rfl rfl rfl (yv_assign rfl rfl) ?_
    refine rg_nil (hK _ ?_)
    refine c_ret (hret _ _ _ (.tmp rfl .nil) (fun _ _ h => h) ?_)
    exact ⟨v2, rfl, upd_updV⟩
theorem clone66_c {H : AH} {id : Nat} {l : List GPool} (hid : H id = none) (hl : l.length ≤ 68719476736) : PC Tryz.prog 66 [lst 4 GPool.av l] H (fun y H' => ∃ ver, y = .sl id ver 0 l.length ∧ H' = upd H id (some ⟨82, 4, true, true, ver, l.map GPool.av⟩)) := by
  refine pc_of' (c := _) Tryz.func66 rfl rfl ?_; intro Q hret hnorm
  repeat (refine c_seq ?_)
  refine c_reg ?_; intro K hK
  refine st rfl rfl rfl (yv_assign rfl rfl) ?_
  refine rg_nil (hK _ ?_)
  repeat (refine c_seq ?_)
  refine c_reg ?_; intro K hK
  refine st rfl rfl rfl (yv_move rfl rfl) ?_
  refine se rfl rfl rfl (Yield.weak (yl_slnil (xs := l.map GPool.av) (sz := 4) rfl Tryz.underlying37 rfl rfl) (fun _ h => h) (fun _ _ => trivial)) ?_; rintro _ _ ⟨b, rfl, hb, rfl⟩
  refine rg_nil (hK _ ?_)
  refine c_if (b := b) rfl ?_ ?_
  · intro h; subst h
    have hl0 : l = [] := List.map_eq_nil_iff.1 (hb rfl)
    subst hl0
    repeat (refine c_seq ?_)
    refine c_reg ?_; intro K hK
    refine st rfl rfl rfl (yv_assign rfl rfl) ?_
    refine rg_nil (hK _ ?_)
    refine c_nilobj 2 id 82 4 rfl hid ?_; intro v
    refine c_ret (hret _ _ _ (.tmp rfl .nil) (fun _ _ h => h) ?_)
    exact ⟨v, rfl, rfl⟩
  · intro h; subst h
    refine c_skip ?_
    repeat (refine c_seq ?_)
    refine c_reg ?_; intro K hK
    refine se rfl rfl rfl (yl_buildO (ps := []) id [] .any rfl Tryz.underlying37 bz82 .nil rfl rfl rfl rfl) ?_; rintro _ _ ⟨v, -, rfl, rfl⟩
    refine st rfl rfl rfl (yv_move rfl rfl) ?_
    refine se rfl rfl rfl (yl_appT (g := GPool.av) (l := []) (m := l) (l' := l) .any rfl Tryz.underlying37 bz82 by82 rfl rfl rfl (upd_same _ _ _) rfl rfl rfl rfl rfl rfl rfl (.refl _) (fun _ => rfl) rfl hl) ?_; rintro _ _ ⟨v2, -, rfl, rfl⟩
    refine st rfl rfl rfl (yv_assign rfl rfl) ?_
    refine rg_nil (hK _ ?_)
    refine c_ret (hret _ _ _ (.tmp rfl .nil) (fun _ _ h => h) ?_)
    exact ⟨v2, rfl, upd_updV⟩
theorem clone79_c {H : AH} {id : Nat} {l : List GLine} (hid : H id = none) (hl : l.length ≤ 68719476736) : PC Tryz.prog 79 [lst 2 GLine.av l] H (fun y H' => ∃ ver, y = .sl id ver 0 l.length ∧ H' = upd H id (some ⟨63, 2, true, true, ver, l.map GLine.av⟩)) := by
  refine pc_of' (c := _) Tryz.func79 rfl rfl ?_; intro Q hret hnorm
  repeat (refine c_seq ?_)
  refine c_reg ?_; intro K hK
  refine st rfl rfl rfl (yv_assign rfl rfl) ?_
  refine rg_nil (hK _ ?_)
  repeat (refine c_seq ?_)
  refine c_reg ?_; intro K hK
  refine st rfl rfl rfl (yv_move rfl rfl) ?_
  refine se rfl rfl rfl (Yield.weak (yl_slnil (xs := l.map GLine.av) (sz := 2) rfl Tryz.underlying64 rfl rfl) (fun _ h => h) (fun _ _ => trivial)) ?_; rintro _ _ ⟨b, rfl, hb, rfl⟩
  refine rg_nil (hK _ ?_)
  refine c_if (b := b) rfl ?_ ?_
  · intro h; subst h
    have hl0 : l = [] := List.map_eq_nil_iff.1 (hb rfl)
    subst hl0
    repeat (refine c_seq ?_)
    refine c_reg ?_; intro K hK
    refine st rfl rfl rfl (yv_assign rfl rfl) ?_
    refine rg_nil (hK _ ?_)
    refine c_nilobj 2 id 63 2 rfl hid ?_; intro v
    refine c_ret (hret _ _ _ (.tmp rfl .nil) (fun _ _ h => h) ?_)
    exact ⟨v, rfl, rfl⟩
  · intro h; subst h
    refine c_skip ?_
    repeat (refine c_seq ?_)
    refine c_reg ?_; intro K hK
    refine se rfl rfl rfl (yl_buildO (ps := []) id [] .any rfl Tryz.underlying64 bz63 .nil rfl rfl rfl rfl) ?_; rintro _ _ ⟨v, -, rfl, rfl⟩
    refine st rfl rfl rfl (yv_move rfl rfl) ?_
    refine se rfl rfl rfl (yl_appT (g := GLine.av) (l := []) (m := l) (l' := l) .any rfl Tryz.underlying64 bz63 by63 rfl rfl rfl (upd_same _ _ _) rfl rfl rfl rfl rfl rfl rfl (.refl _) (fun _ => rfl) rfl hl) ?_; rintro _ _ ⟨v2, -, rfl, rfl⟩
    refine st rfl rfl rfl (yv_assign rfl rfl) ?_
    refine rg_nil (hK _ ?_)
    refine c_ret (hret _ _ _ (.tmp rfl .nil) (fun _ _ h => h) ?_)
    exact ⟨v2, rfl, upd_updV⟩
theorem clone104_c {H : AH} {id : Nat} {l : List GLayer} (hid : H id = none) (hl : l.length ≤ 68719476736) : PC Tryz.prog 104 [lst 3 GLayer.av l] H (fun y H' => ∃ ver, y = .sl id ver 0 l.length ∧ H' = upd H id (some ⟨60, 3, true, true, ver, l.map GLayer.av⟩)) := by
  refine pc_of' (c := _) Tryz.func104 rfl rfl ?_; intro Q hret hnorm
  repeat (refine c_seq ?_)
  refine c_reg ?_; intro K hK
  refine st rfl rfl rfl (yv_assign rfl rfl) ?_
  refine rg_nil (hK _ ?_)
  repeat (refine c_seq ?_)
  refine c_reg ?_; intro K hK
  refine st rfl rfl rfl (yv_move rfl rfl) ?_
  refine se rfl rfl rfl (Yield.weak (yl_slnil (xs := l.map GLayer.av) (sz := 3) rfl Tryz.underlying79 rfl rfl) (fun _ h => h) (fun _ _ => trivial)) ?_; rintro _ _ ⟨b, rfl, hb, rfl⟩
  refine rg_nil (hK _ ?_)
  refine c_if (b := b) rfl ?_ ?_
  · intro h; subst h
    have hl0 : l = [] := List.map_eq_nil_iff.1 (hb rfl)
    subst hl0
    repeat (refine c_seq ?_)
    refine c_reg ?_; intro K hK
    refine st rfl rfl rfl (yv_assign rfl rfl) ?_
    refine rg_nil (hK _ ?_)
    refine c_nilobj 2 id 60 3 rfl hid ?_; intro v
    refine c_ret (hret _ _ _ (.tmp rfl .nil) (fun _ _ h => h) ?_)
    exact ⟨v, rfl, rfl⟩
  · intro h; subst h
    refine c_skip ?_
    repeat (refine c_seq ?_)
    refine c_reg ?_; intro K hK
    refine se rfl rfl rfl (yl_buildO (ps := []) id [] .any rfl Tryz.underlying79 bz60 .nil rfl rfl rfl rfl) ?_; rintro _ _ ⟨v, -, rfl, rfl⟩
    refine st rfl rfl rfl (yv_move rfl rfl) ?_
    refine se rfl rfl rfl (yl_appT (g := GLayer.av) (l := []) (m := l) (l' := l) .any rfl Tryz.underlying79 bz60 by60 rfl rfl rfl (upd_same _ _ _) rfl rfl rfl rfl rfl rfl rfl (.refl _) (fun _ => rfl) rfl hl) ?_; rintro _ _ ⟨v2, -, rfl, rfl⟩
    refine st rfl rfl rfl (yv_assign rfl rfl) ?_
    refine rg_nil (hK _ ?_)
    refine c_ret (hret _ _ _ (.tmp rfl .nil) (fun _ _ h => h) ?_)
    exact ⟨v2, rfl, upd_updV⟩
theorem clone111_c {H : AH} {id : Nat} {l : List Int} (hid : H id = none) (hl : l.length ≤ 68719476736) : PC Tryz.prog 111 [lst 1 fI l] H (fun y H' => ∃ ver, y = .sl id ver 0 l.length ∧ H' = upd H id (some ⟨3, 1, true, true, ver, l.map fI⟩)) := by
  refine pc_of' (c := _) Tryz.func111 rfl rfl ?_; intro Q hret hnorm
  repeat (refine c_seq ?_)
  refine c_reg ?_; intro K hK
  refine st rfl rfl rfl (yv_assign rfl rfl) ?_
  refine rg_nil (hK _ ?_)
  repeat (refine c_seq ?_)
  refine c_reg ?_; intro K hK
  refine st rfl rfl rfl (yv_move rfl rfl) ?_
  refine se rfl rfl rfl (Yield.weak (yl_slnil (xs := l.map fI) (sz := 1) rfl Tryz.underlying23 rfl rfl) (fun _ h => h) (fun _ _ => trivial)) ?_; rintro _ _ ⟨b, rfl, hb, rfl⟩
  refine rg_nil (hK _ ?_)
  refine c_if (b := b) rfl ?_ ?_
  · intro h; subst h
    have hl0 : l = [] := List.map_eq_nil_iff.1 (hb rfl)
    subst hl0
    repeat (refine c_seq ?_)
    refine c_reg ?_; intro K hK
    refine st rfl rfl rfl (yv_assign rfl rfl) ?_
    refine rg_nil (hK _ ?_)
    refine c_nilobj 2 id 3 1 rfl hid ?_; intro v
    refine c_ret (hret _ _ _ (.tmp rfl .nil) (fun _ _ h => h) ?_)
    exact ⟨v, rfl, rfl⟩
  · intro h; subst h
    refine c_skip ?_
    repeat (refine c_seq ?_)
    refine c_reg ?_; intro K hK
    refine se rfl rfl rfl (yl_buildO (ps := []) id [] .any rfl Tryz.underlying23 bz3 .nil rfl rfl rfl rfl) ?_; rintro _ _ ⟨v, -, rfl, rfl⟩
    refine st rfl rfl rfl (yv_move rfl rfl) ?_
    refine se rfl rfl rfl (yl_appT (g := fI) (l := []) (m := l) (l' := l) .any rfl Tryz.underlying23 bz3 by3 rfl rfl rfl (upd_same _ _ _) rfl rfl rfl rfl rfl rfl rfl (.refl _) (fun _ => rfl) rfl hl) ?_; rintro _ _ ⟨v2, -, rfl, rfl⟩
    refine st rfl rfl rfl (yv_assign rfl rfl) ?_
    refine rg_nil (hK _ ?_)
    refine c_ret (hret _ _ _ (.tmp rfl .nil) (fun _ _ h => h) ?_)
    exact ⟨v2, rfl, upd_updV⟩
def d_law00_Place (a1 : Int) (a2 : Int) : Option (Int) :=
asrt (a2 ≠ 0) <|
bnd (a1.tmod a2) fun x4 =>
bnd (decide (x4 < 0)) fun x5 =>
(show Option (Int) from
cond x5 (bnd (w64 (x4 + a2)) fun x7 =>
some (x7 : Int)) (some (x4 : Int))).bind <| fun y0_1 =>
some ((y0_1 : Int))
theorem d_law00_Place_c {a1 : Int} {a2 : Int} {r : Int} (h0 : d_law00_Place a1 a2 = some r) : PP Tryz.prog 6 [int a1, int a2] (fun y => y = int r) := by
  unfold d_law00_Place at h0
  refine pp_of_pc (R0 := fun y H => Cv (frzH H) y (int r)) ?_ (fun y H hc => ⟨_, rfl, pvI r, hc⟩)
  refine pcw (c := _) Tryz.func6 rfl rfl ?_; intro Q hret hnorm
  refine tc tbk 8 (.mk ?_)
  obtain ⟨p3, h0⟩ := asrt_e h0
  obtain ⟨x4, e4, h0⟩ := bnd_e h0
  refine sY (yv_rem rfl rfl rfl p3 e4) ?_
  refine tr tbk 6 (.mk ?_)
  refine nb tbk h0 fun x5 h0 => ?_
  refine tr tbk 1 (.mk ?_)
  refine jn h0 [4] [] (fun (a : Int) (k : Unit) => [(5, int a)]) (fun a k => []) ⟨fun j6 h1 => ?_, ?_⟩
  cases x5
  replace h1 := cf h1
  refine tc tbk 2 (.mk ?_)
  exact lf h1 () leA
  replace h1 := ct h1
  refine tc tbk 4 (.mk ?_)
  refine ni tbk h1 fun x7 h1 => ?_
  refine tr tbk 2 (.mk ?_)
  exact lf h1 () leA
  rintro y0_1 _ h0
  refine tc tbk 5 (.mk ?_)
  obtain rfl := nxt_e h0
  refine wR hret (rT .nil) ?_
  exact .refl _
def d_ref04_all_L0 (a1 : List Int) (a2 : Int) (a3 : Int) (a4 : Int) : Nat → Int → Option (Unit)
  | 0, _ => none
  | n + 1, y0_1 =>
    bnd (decide (y0_1 < a2)) fun x7 =>
    cond x7 ((show Option (Bool) from
    (ix a1 y0_1).bind fun x9 =>
    bnd (decide (x9 < a3)) fun x10 =>
    cond x10 (some (true : Bool)) ((ix a1 y0_1).bind fun x11 =>
    bnd (decide (x11 > a4)) fun x12 =>
    some (x12 : Bool))).bind <| fun y1_1 =>
    asrt (y1_1 = false) <|
    bnd (w64 (y0_1 + 1)) fun x13 =>
    d_ref04_all_L0 a1 a2 a3 a4 n (x13 : Int)) (some ())
def d_ref04_all (n : Nat) (a1 : List Int) (a2 : Int) (a3 : Int) (a4 : Int) : Option (Bool) :=
bnd (decide ((a1.length : Int) ≠ a2)) fun x5 =>
asrt (x5 = false) <|
(show Option (Unit) from
d_ref04_all_L0 a1 a2 a3 a4 n (0 : Int)).bind <| fun _ =>
some ((true : Bool))
theorem d_ref04_all_c {n : Nat} {a1 : List Int} {a2 : Int} {a3 : Int} {a4 : Int} {r : Bool} (h0 : d_ref04_all n a1 a2 a3 a4 = some r) : PP Tryz.prog 69 [lst 1 fI a1, int a2, int a3, int a4] (fun y => y = boo r) := by
  unfold d_ref04_all at h0
  refine pp_of_pc (R0 := fun y H => Cv (frzH H) y (boo r)) ?_ (fun y H hc => ⟨_, rfl, pvB r, hc⟩)
  refine pcw (c := _) Tryz.func69 rfl rfl ?_; intro Q hret hnorm
  refine tc tbk 8 (.mk ?_)
  refine sY (yv_len_sl rfl Tryz.underlying23 rfl (lst_len _)) ?_
  refine tr tbk 1 (.mk ?_)
  refine nb tbk h0 fun x5 h0 => ?_
  refine tr tbk 1 (.mk ?_)
  replace h0 := asrt_e h0
  obtain ⟨rfl, h0⟩ := h0
  refine tc tbk 7 (.mk ?_)
  refine jn h0 [8] [] (fun (a : Unit) (k : Unit) => []) (fun a k => []) ⟨fun j6 h1 => ?_, ?_⟩
  refine tc tbk 1 (.mk ?_)
  refine lp (fun n (a : Int) => d_ref04_all_L0 a1 a2 a3 a4 n a) (0 : Int) () h1 [0, 1, 2, 3, 8] [] (fun (a : Int) (k : Unit) => [(9, int a)]) (fun a k => []) (fun _ => rfl) ⟨leA, ?_⟩
  rintro n y0_1 _ hm h1
  replace h1 : d_ref04_all_L0 a1 a2 a3 a4 (n + 1) y0_1 = some _ := h1
  rw [d_ref04_all_L0] at h1
  refine tc tbk 5 (.mk ?_)
  refine nb tbk h1 fun x7 h1 => ?_
  refine tr tbk 1 (.mk ?_)
  cases x7
  replace h1 := cf h1
  refine tc tbk 2 (.mk ?_)
  exact lf h1 () leA
  replace h1 := ct h1
  refine tc tbk 5 (.mk ?_)
  refine jn h1 [0, 1, 2, 3, 8, 9] [] (fun (a : Bool) (k : Unit) => [(32, boo a)]) (fun a k => []) ⟨fun j8 h2 => ?_, ?_⟩
  refine tc tbk 3 (.mk ?_)
  obtain ⟨x9, e9, h2⟩ := bind_e h2
  refine sY (yv_ixT rfl Tryz.underlying23 sh3 rfl rfl e9) ?_
  refine tr tbk 2 (.mk ?_)
  refine nb tbk h2 fun x10 h2 => ?_
  refine tr tbk 1 (.mk ?_)
  cases x10
  replace h2 := cf h2
  refine tr tbk 2 (.mk ?_)
  obtain ⟨x11, e11, h2⟩ := bind_e h2
  refine sY (yv_ixT rfl Tryz.underlying23 sh3 rfl rfl e11) ?_
  refine tr tbk 2 (.mk ?_)
  refine nb tbk h2 fun x12 h2 => ?_
  refine tr tbk 2 (.mk ?_)
  exact lf h2 () leA
  replace h2 := ct h2
  refine tr tbk 8 (.mk ?_)
  exact lf h2 () leA
  rintro y1_1 _ h1
  replace h1 := asrt_e h1
  obtain ⟨rfl, h1⟩ := h1
  refine tc tbk 5 (.mk ?_)
  refine ni tbk h1 fun x13 h1 => ?_
  refine tr tbk 2 (.mk ?_)
  exact bk x13 () h1 leA
  rintro _ _ h0
  refine tc tbk 4 (.mk ?_)
  obtain rfl := nxt_e h0
  refine wR hret (rT .nil) ?_
  exact .refl _
def d_ref04_Check_L0 (a1 : GMaster) : Nat → Int → Option (Unit)
  | 0, _ => none
  | n + 1, y1_1 =>
    bnd (decide (y1_1 < a1.Entities)) fun x15 =>
    cond x15 ((show Option (Bool) from
    (ix a1.Methods y1_1).bind fun x17 =>
    (d_ref04_all n x17 (a1.Weights.length : Int) 1 4).bind fun x18 =>
    bnd (!x18) fun x19 =>
    cond x19 (some (true : Bool)) ((ix a1.Costs y1_1).bind fun x20 =>
    (d_ref04_all n x20 (a1.Weights.length : Int) 0 1073741824).bind fun x21 =>
    bnd (!x21) fun x22 =>
    some (x22 : Bool))).bind <| fun y2_1 =>
    asrt (y2_1 = false) <|
    bnd (w64 (y1_1 + 1)) fun x23 =>
    d_ref04_Check_L0 a1 n (x23 : Int)) (some ())
def d_ref04_Check (n : Nat) (a1 : GMaster) : Option (Bool) :=
(show Option (Bool) from
bnd (decide (a1.Entities < 1)) fun x4 =>
cond x4 (some (true : Bool)) (bnd (decide (a1.Entities > 4)) fun x5 =>
cond x5 (some (true : Bool)) (bnd (decide (a1.Periods < 1)) fun x6 =>
cond x6 (some (true : Bool)) (bnd (decide (a1.Periods > 12)) fun x7 =>
cond x7 (some (true : Bool)) (bnd (decide ((a1.Weights.length : Int) < 1)) fun x8 =>
cond x8 (some (true : Bool)) (bnd (decide ((a1.Weights.length : Int) > 5)) fun x9 =>
cond x9 (some (true : Bool)) ((d_ref04_all n a1.Weights (a1.Weights.length : Int) 0 1073741824).bind fun x10 =>
bnd (!x10) fun x11 =>
cond x11 (some (true : Bool)) (bnd (decide ((a1.Methods.length : Int) ≠ a1.Entities)) fun x12 =>
cond x12 (some (true : Bool)) (bnd (decide ((a1.Costs.length : Int) ≠ a1.Entities)) fun x13 =>
some (x13 : Bool)))))))))).bind <| fun y0_1 =>
asrt (y0_1 = false) <|
(show Option (Unit) from
d_ref04_Check_L0 a1 n (0 : Int)).bind <| fun _ =>
some ((true : Bool))
theorem d_ref04_Check_c {n : Nat} {a1 : GMaster} {r : Bool} (h0 : d_ref04_Check n a1 = some r) : PP Tryz.prog 36 [.agg (GMaster.av a1)] (fun y => y = boo r) := by
  unfold d_ref04_Check at h0
  refine pp_of_pc (R0 := fun y H => Cv (frzH H) y (boo r)) ?_ (fun y H hc => ⟨_, rfl, pvB r, hc⟩)
  refine pcw (c := _) Tryz.func36 rfl rfl ?_; intro Q hret hnorm
  refine tc tbk 2 (.mk ?_)
  refine sB 1 fun v2 => ?_
  refine tr tbk 6 (.mk ?_)
  refine sY (yv_len_sl rfl Tryz.underlying23 rfl (lst_len _)) ?_
  refine tr tbk 4 (.mk ?_)
  refine jn h0 [1, 2, 3] [1] (fun (a : Bool) (k : Unit) => [(56, boo a)]) (fun a k => []) ⟨fun j3 h1 => ?_, ?_⟩
  refine tc tbk 3 (.mk ?_)
  refine nb tbk h1 fun x4 h1 => ?_
  refine tr tbk 1 (.mk ?_)
  cases x4
  replace h1 := cf h1
  refine tr tbk 2 (.mk ?_)
  refine nb tbk h1 fun x5 h1 => ?_
  refine tr tbk 2 (.mk ?_)
  cases x5
  replace h1 := cf h1
  refine tr tbk 2 (.mk ?_)
  refine nb tbk h1 fun x6 h1 => ?_
  refine tr tbk 2 (.mk ?_)
  cases x6
  replace h1 := cf h1
  refine tr tbk 2 (.mk ?_)
  refine nb tbk h1 fun x7 h1 => ?_
  refine tr tbk 2 (.mk ?_)
  cases x7
  replace h1 := cf h1
  refine tr tbk 1 (.mk ?_)
  refine nb tbk h1 fun x8 h1 => ?_
  refine tr tbk 2 (.mk ?_)
  cases x8
  replace h1 := cf h1
  refine tr tbk 1 (.mk ?_)
  refine nb tbk h1 fun x9 h1 => ?_
  refine tr tbk 2 (.mk ?_)
  cases x9
  replace h1 := cf h1
  refine tr tbk 3 (.mk ?_)
  obtain ⟨x10, e10, h1⟩ := bind_e h1
  refine sC cal69 (d_ref04_all_c e10) ?_
  refine nb tbk h1 fun x11 h1 => ?_
  refine tr tbk 2 (.mk ?_)
  cases x11
  replace h1 := cf h1
  refine tr tbk 2 (.mk ?_)
  refine sY (yv_len_sl rfl Tryz.underlying24 rfl (lst_len _)) ?_
  refine tr tbk 2 (.mk ?_)
  refine nb tbk h1 fun x12 h1 => ?_
  refine tr tbk 2 (.mk ?_)
  cases x12
  replace h1 := cf h1
  refine tr tbk 2 (.mk ?_)
  refine sY (yv_len_sl rfl Tryz.underlying24 rfl (lst_len _)) ?_
  refine tr tbk 2 (.mk ?_)
  refine nb tbk h1 fun x13 h1 => ?_
  refine tr tbk 2 (.mk ?_)
  exact lf h1 () leA
  replace h1 := ct h1
  refine tr tbk 8 (.mk ?_)
  exact lf h1 () leA
  replace h1 := ct h1
  refine tr tbk 16 (.mk ?_)
  exact lf h1 () leA
  replace h1 := ct h1
  refine tr tbk 23 (.mk ?_)
  exact lf h1 () leA
  replace h1 := ct h1
  refine tr tbk 27 (.mk ?_)
  exact lf h1 () leA
  replace h1 := ct h1
  refine tr tbk 31 (.mk ?_)
  exact lf h1 () leA
  replace h1 := ct h1
  refine tr tbk 36 (.mk ?_)
  exact lf h1 () leA
  replace h1 := ct h1
  refine tr tbk 41 (.mk ?_)
  exact lf h1 () leA
  replace h1 := ct h1
  refine tr tbk 46 (.mk ?_)
  exact lf h1 () leA
  rintro y0_1 _ h0
  replace h0 := asrt_e h0
  obtain ⟨rfl, h0⟩ := h0
  refine tc tbk 7 (.mk ?_)
  refine jn h0 [2] [] (fun (a : Unit) (k : Unit) => []) (fun a k => []) ⟨fun j14 h1 => ?_, ?_⟩
  refine tc tbk 1 (.mk ?_)
  refine lp (fun n (a : Int) => d_ref04_Check_L0 a1 n a) (0 : Int) () h1 [1, 2, 3] [1] (fun (a : Int) (k : Unit) => [(4, int a)]) (fun a k => []) (fun _ => rfl) ⟨leA, ?_⟩
  rintro n y1_1 _ hm h1
  replace h1 : d_ref04_Check_L0 a1 (n + 1) y1_1 = some _ := h1
  rw [d_ref04_Check_L0] at h1
  refine tc tbk 6 (.mk ?_)
  refine nb tbk h1 fun x15 h1 => ?_
  refine tr tbk 1 (.mk ?_)
  cases x15
  replace h1 := cf h1
  refine tc tbk 2 (.mk ?_)
  exact lf h1 () leA
  replace h1 := ct h1
  refine tc tbk 5 (.mk ?_)
  refine jn h1 [1, 2, 3, 4] [1] (fun (a : Bool) (k : Unit) => [(80, boo a)]) (fun a k => []) ⟨fun j16 h2 => ?_, ?_⟩
  refine tc tbk 4 (.mk ?_)
  obtain ⟨x17, e17, h2⟩ := bind_e h2
  refine sY (yv_ixT rfl Tryz.underlying24 sh23 rfl rfl e17) ?_
  refine tr tbk 2 (.mk ?_)
  obtain ⟨x18, e18, h2⟩ := bind_e h2
  refine sC cal69 (d_ref04_all_c e18) ?_
  refine nb tbk h2 fun x19 h2 => ?_
  refine tr tbk 1 (.mk ?_)
  cases x19
  replace h2 := cf h2
  refine tr tbk 3 (.mk ?_)
  obtain ⟨x20, e20, h2⟩ := bind_e h2
  refine sY (yv_ixT rfl Tryz.underlying24 sh23 rfl rfl e20) ?_
  refine tr tbk 2 (.mk ?_)
  obtain ⟨x21, e21, h2⟩ := bind_e h2
  refine sC cal69 (d_ref04_all_c e21) ?_
  refine nb tbk h2 fun x22 h2 => ?_
  refine tr tbk 2 (.mk ?_)
  exact lf h2 () leA
  replace h2 := ct h2
  refine tr tbk 10 (.mk ?_)
  exact lf h2 () leA
  rintro y2_1 _ h1
  replace h1 := asrt_e h1
  obtain ⟨rfl, h1⟩ := h1
  refine tc tbk 5 (.mk ?_)
  refine ni tbk h1 fun x23 h1 => ?_
  refine tr tbk 2 (.mk ?_)
  exact bk x23 () h1 leA
  rintro _ _ h0
  refine tc tbk 4 (.mk ?_)
  obtain rfl := nxt_e h0
  refine wR hret (rT .nil) ?_
  exact .refl _
def d_ref04_Start_L1 (a1 : GMaster) : Nat → Int → (List Int) → Option ((List Int))
  | 0, _, _ => none
  | n + 1, y1_1, y1_2 =>
    bnd (decide (y1_1 < (a1.Weights.length : Int))) fun x29 =>
    cond x29 ((ix y1_2 y1_1).bind fun x30 =>
    bnd (y1_2.set (Int.toNat y1_1) ((-1) : Int)) fun x31 =>
    bnd (w64 (y1_1 + 1)) fun x32 =>
    d_ref04_Start_L1 a1 n (x32 : Int) (x31 : List Int)) (some (y1_2 : List Int))
def d_ref04_Start_L0 (a1 : GMaster) : Nat → Int → (List GEnt) → Option ((List GEnt))
  | 0, _, _ => none
  | n + 1, y0_1, y0_3 =>
    bnd (decide (y0_1 < a1.Entities)) fun x9 =>
    cond x9 ((show Option ((List GEnt)) from
    bnd (w64 ((a1.Weights.length : Int) * 2)) fun x11 =>
    asrt ((0 : Int) ≤ x11 ∧ (x11 : Int) ≤ 1048576) <|
    bnd (List.replicate (Int.toNat x11) ((⟨[], (⟨0, 0, 0⟩ : A3_Int)⟩ : GPool) : GPool)) fun x13 =>
    asrt ((0 : Int) ≤ 17 ∧ (17 : Int) ≤ 1048576) <|
    bnd (List.replicate (Int.toNat 17) (0 : Int)) fun x16 =>
    asrt ((0 : Int) ≤ (a1.Weights.length : Int) ∧ ((a1.Weights.length : Int) : Int) ≤ 1048576) <|
    bnd (List.replicate (Int.toNat (a1.Weights.length : Int)) ((⟨0, 0, 0, 0, 0, 0, 0, 0, 0, 0, 0⟩ : GRoll) : GRoll)) fun x19 =>
    asrt ((0 : Int) ≤ (a1.Weights.length : Int) ∧ ((a1.Weights.length : Int) : Int) ≤ 1048576) <|
    bnd (List.replicate (Int.toNat (a1.Weights.length : Int)) (0 : Int)) fun x22 =>
    asrt ((0 : Int) ≤ (a1.Weights.length : Int) ∧ ((a1.Weights.length : Int) : Int) ≤ 1048576) <|
    bnd (List.replicate (Int.toNat (a1.Weights.length : Int)) (0 : Int)) fun x25 =>
    (show Option ((List Int)) from
    d_ref04_Start_L1 a1 n (0 : Int) (x22 : List Int)).bind <| fun y2_1 =>
    bnd (y0_3 ++ [(⟨1, false, x13, x16, x19, y2_1, x25, []⟩ : GEnt)]) fun x33 =>
    asrt (x33.length ≤ 68719476736) <|
    some (x33 : List GEnt)).bind <| fun y3_2 =>
    bnd (w64 (y0_1 + 1)) fun x36 =>
    d_ref04_Start_L0 a1 n (x36 : Int) (y3_2 : List GEnt)) (some (y0_3 : List GEnt))
def d_ref04_Start (n : Nat) (a1 : GMaster) : Option (GState × Int) :=
(d_ref04_Check n a1).bind fun x4 =>
bnd (!x4) fun x5 =>
asrt (x5 = false) <|
(show Option ((List GEnt)) from
d_ref04_Start_L0 a1 n (0 : Int) (([] : List GEnt) : List GEnt)).bind <| fun y4_2 =>
some (((⟨a1, y4_2, [], [], [], 0⟩ : GState) : GState), (0 : Int))
theorem d_ref04_Start_c {n : Nat} {a1 : GMaster} {r : GState × Int} (h0 : d_ref04_Start n a1 = some r) : PP Tryz.prog 15 [.agg (GMaster.av a1)] (fun y => y = .tup [.agg (GState.avN r.1), int r.2]) := by
  unfold d_ref04_Start at h0
  refine pp_of_pc (R0 := fun y H => Cv (frzH H) y (.tup [.agg (GState.avN r.1), int r.2])) ?_ (fun y H hc => ⟨_, rfl, .tup (pvl2 ((fun (a : GState) => PV.agg (GState.pvcN a)) (r.1)) (pvI (r.2))), hc⟩)
  refine pcw (c := _) Tryz.func15 rfl rfl ?_; intro Q hret hnorm
  refine tc tbk 2 (.mk ?_)
  refine sB 1 fun v2 => ?_
  refine sA 2 z32 fun v3 => ?_
  refine tr tbk 6 (.mk ?_)
  obtain ⟨x4, e4, h0⟩ := bind_e h0
  refine sC cal36 (d_ref04_Check_c e4) ?_
  refine nb tbk h0 fun x5 h0 => ?_
  refine tr tbk 1 (.mk ?_)
  replace h0 := asrt_e h0
  obtain ⟨rfl, h0⟩ := h0
  refine tc tbk 5 (.mk ?_)
  refine sY (yv_build (cs := [int a1.Entities, int a1.Periods, lst 1 fI a1.Weights, lst 1 (fL 1 fI) a1.Methods, lst 1 (fL 1 fI) a1.Costs, .sc (.slice none 0 0), .sc (.slice none 0 0), .sc (.slice none 0 0), .sc (.slice none 0 0), int 0]) (ps := [(0, _)]) rfl pl32 z32 rfl (.cons rfl .nil) (by kernel_rfl)) ?_
  refine sA 3 z32 fun v6 => ?_
  refine sS ⟨32, 10, true, true, v6, [[int a1.Entities, int a1.Periods, lst 1 fI a1.Weights, lst 1 (fL 1 fI) a1.Methods, lst 1 (fL 1 fI) a1.Costs, .sc (.slice none 0 0), .sc (.slice none 0 0), .sc (.slice none 0 0), .sc (.slice none 0 0), int 0]]⟩ sh32 ?_
  refine tr tbk 5 (.mk ?_)
  refine sY (yv_len_sl rfl Tryz.underlying23 rfl (lst_len _)) ?_
  refine tr tbk 7 (.mk ?_)
  refine jn h0 [2, 3, 4] [2] (fun (a : (List GEnt)) (k : Nat) => []) (fun a k => [(3, ⟨32, 10, true, true, v6, [[int a1.Entities, int a1.Periods, lst 1 fI a1.Weights, lst 1 (fL 1 fI) a1.Methods, lst 1 (fL 1 fI) a1.Costs, .sl 11 k 0 a.length, .sc (.slice none 0 0), .sc (.slice none 0 0), .sc (.slice none 0 0), int 0]]⟩), (11, ⟨40, 8, true, true, k, a.map GEnt.av⟩)]) ⟨fun j7 h1 => ?_, ?_⟩
  refine tc tbk 1 (.mk ?_)
  refine c_nilcell 3 0 5 11 40 8 (rows := fun v8 => [[int a1.Entities, int a1.Periods, lst 1 fI a1.Weights, lst 1 (fL 1 fI) a1.Methods, lst 1 (fL 1 fI) a1.Costs, .sl 11 v8 0 0, .sc (.slice none 0 0), .sc (.slice none 0 0), .sc (.slice none 0 0), int 0]]) rfl rfl rfl rfl (fun _ => rfl) ?_; intro v8
  refine lp (fun n (a : Int × (List GEnt)) => d_ref04_Start_L0 a1 n a.1 a.2) ((0 : Int), (([] : List GEnt) : List GEnt)) v8 h1 [1, 2, 3, 4, 5] [1, 2] (fun (a : Int × (List GEnt)) (k : Nat) => [(6, int a.1)]) (fun a k => [(3, ⟨32, 10, true, true, v6, [[int a1.Entities, int a1.Periods, lst 1 fI a1.Weights, lst 1 (fL 1 fI) a1.Methods, lst 1 (fL 1 fI) a1.Costs, .sl 11 k 0 a.2.length, .sc (.slice none 0 0), .sc (.slice none 0 0), .sc (.slice none 0 0), int 0]]⟩), (11, ⟨40, 8, true, true, k, a.2.map GEnt.av⟩)]) (fun _ => rfl) ⟨leA, ?_⟩
  rintro n ⟨y0_1, y0_3⟩ w0_2 hm h1
  replace h1 : d_ref04_Start_L0 a1 (n + 1) y0_1 y0_3 = some _ := h1
  rw [d_ref04_Start_L0] at h1
  refine tc tbk 6 (.mk ?_)
  refine nb tbk h1 fun x9 h1 => ?_
  refine tr tbk 1 (.mk ?_)
  cases x9
  replace h1 := cf h1
  refine tc tbk 2 (.mk ?_)
  exact lf h1 w0_2 leA
  replace h1 := ct h1
  refine tc tbk 3 (.mk ?_)
  refine jn h1 [1, 2, 3, 4, 5, 6] [1, 2] (fun (a : (List GEnt)) (k : Nat) => []) (fun a k => [(3, ⟨32, 10, true, true, v6, [[int a1.Entities, int a1.Periods, lst 1 fI a1.Weights, lst 1 (fL 1 fI) a1.Methods, lst 1 (fL 1 fI) a1.Costs, .sl 11 k 0 a.length, .sc (.slice none 0 0), .sc (.slice none 0 0), .sc (.slice none 0 0), int 0]]⟩), (11, ⟨40, 8, true, true, k, a.map GEnt.av⟩)]) ⟨fun j10 h2 => ?_, ?_⟩
  refine tc tbk 2 (.mk ?_)
  refine c_draw [0, 1, 3, 0, 0, 16, 0, 64, 0, 256, 1023, 0, 4095] (fun i k => bif Nat.beq i 12 then (Nat.beq k 4 || Nat.beq k 5 || Nat.beq k 6 || Nat.beq k 7 || Nat.beq k 8 || Nat.beq k 9) else false) (fun i => bif Nat.beq i 2 then (some 4) else bif Nat.beq i 3 then (some 5) else bif Nat.beq i 5 then (some 6) else bif Nat.beq i 7 then (some 7) else bif Nat.beq i 9 then (some 8) else bif Nat.beq i 11 then (some 9) else bif Nat.beq i 12 then (some 9) else none) mixed (by kernel_rfl) ?_; intro C K hK
  refine dg_pure rfl (fun H hH => yv_move rfl rfl) ?_
  obtain ⟨x11, e11, h2⟩ := bnd_e h2
  refine dg_pure rfl (fun H hH => yv_mul rfl rfl rfl e11) ?_
  obtain ⟨p12, h2⟩ := asrt_e h2
  obtain ⟨x13, e13, h2⟩ := bnd_e h2
  have lx13 : x13.length = (Int.toNat x11) := by rw [← e13]; exact List.length_replicate
  refine dg_eff rfl rfl (fun H hH => yl_one (yl_make 4 (g := GPool.av) (z0 := ((⟨[], (⟨0, 0, 0⟩ : A3_Int)⟩ : GPool) : GPool)) (.one _) rfl Tryz.underlying37 bz82 by82 rfl rfl rfl p12 (.cons (.nil _) (.cons (.sc _) (.cons (.sc _) (.cons (.sc _) .nil)))) e13)) ?_; generalize C + 2 = v14
  obtain ⟨p15, h2⟩ := asrt_e h2
  obtain ⟨x16, e16, h2⟩ := bnd_e h2
  have lx16 : x16.length = (Int.toNat 17) := by rw [← e16]; exact List.length_replicate
  refine dg_eff rfl rfl (fun H hH => yl_one (yl_make 5 (g := fI) (z0 := (0 : Int)) (.one _) rfl Tryz.underlying23 bz3 by3 rfl rfl rfl p15 (.cons (.sc _) .nil) e16)) ?_; generalize C + 3 = v17
  refine dg_pure rfl (fun H hH => yv_move rfl rfl) ?_
  obtain ⟨p18, h2⟩ := asrt_e h2
  obtain ⟨x19, e19, h2⟩ := bnd_e h2
  have lx19 : x19.length = (Int.toNat (a1.Weights.length : Int)) := by rw [← e19]; exact List.length_replicate
  refine dg_eff rfl rfl (fun H hH => yl_one (yl_make 6 (g := GRoll.av) (z0 := ((⟨0, 0, 0, 0, 0, 0, 0, 0, 0, 0, 0⟩ : GRoll) : GRoll)) (.one _) rfl Tryz.underlying38 bz67 by67 rfl rfl rfl p18 (.cons (.sc _) (.cons (.sc _) (.cons (.sc _) (.cons (.sc _) (.cons (.sc _) (.cons (.sc _) (.cons (.sc _) (.cons (.sc _) (.cons (.sc _) (.cons (.sc _) (.cons (.sc _) .nil))))))))))) e19)) ?_; generalize C + 5 = v20
  refine dg_pure rfl (fun H hH => yv_move rfl rfl) ?_
  obtain ⟨p21, h2⟩ := asrt_e h2
  obtain ⟨x22, e22, h2⟩ := bnd_e h2
  have lx22 : x22.length = (Int.toNat (a1.Weights.length : Int)) := by rw [← e22]; exact List.length_replicate
  refine dg_eff rfl rfl (fun H hH => yl_one (yl_make 7 (g := fI) (z0 := (0 : Int)) (.one _) rfl Tryz.underlying23 bz3 by3 rfl rfl rfl p21 (.cons (.sc _) .nil) e22)) ?_; generalize C + 7 = v23
  refine dg_pure rfl (fun H hH => yv_move rfl rfl) ?_
  obtain ⟨p24, h2⟩ := asrt_e h2
  obtain ⟨x25, e25, h2⟩ := bnd_e h2
  have lx25 : x25.length = (Int.toNat (a1.Weights.length : Int)) := by rw [← e25]; exact List.length_replicate
  refine dg_eff rfl rfl (fun H hH => yl_one (yl_make 8 (g := fI) (z0 := (0 : Int)) (.one _) rfl Tryz.underlying23 bz3 by3 rfl rfl rfl p24 (.cons (.sc _) .nil) e25)) ?_; generalize C + 9 = v26
  refine dg_pure rfl (fun H hH => yv_build (cs := [int 1, boo false, .sl 4 v14 0 (Int.toNat x11), .sl 5 v17 0 (Int.toNat 17), .sl 6 v20 0 (Int.toNat (a1.Weights.length : Int)), .sl 7 v23 0 (Int.toNat (a1.Weights.length : Int)), .sl 8 v26 0 (Int.toNat (a1.Weights.length : Int)), .sc (.slice none 0 0)]) (ps := [(0, _), (2, _), (3, _), (4, _), (5, _), (6, _)]) rfl pl40 z40 rfl (.cons rfl (.cons rfl (.cons rfl (.cons rfl (.cons rfl (.cons rfl .nil)))))) (by kernel_rfl)) ?_
  refine dg_eff rfl rfl (fun H hH => yl_alloc1 9 rfl z40 rfl) ?_; generalize C + 11 = v27
  refine dg_store rfl rfl rfl (fun H hH => yl_ob (ob' := (⟨40, 8, true, true, v27, [[int 1, boo false, .sl 4 v14 0 (Int.toNat x11), .sl 5 v17 0 (Int.toNat 17), .sl 6 v20 0 (Int.toNat (a1.Weights.length : Int)), .sl 7 v23 0 (Int.toNat (a1.Weights.length : Int)), .sl 8 v26 0 (Int.toNat (a1.Weights.length : Int)), .sc (.slice none 0 0)]]⟩ : AObj)) (yl_store rfl sh40 rfl rfl ((hH _ rfl).trans rfl) rfl rfl rfl rfl rfl rfl) rfl) ?_
  refine dg_nil (hK _ ?_)
  refine tc tbk 5 (.mk ?_)
  refine jn h2 [1, 2, 3, 4, 5, 6, 7] [1, 2, 3, 4, 5, 6, 8, 11] (fun (a : (List Int)) (k : Unit) => []) (fun a k => [(7, ⟨3, 1, true, true, v23, a.map fI⟩), (9, ⟨40, 8, true, true, v27, [[int 1, boo false, .sl 4 v14 0 (Int.toNat x11), .sl 5 v17 0 (Int.toNat 17), .sl 6 v20 0 (Int.toNat (a1.Weights.length : Int)), .sl 7 v23 0 a.length, .sl 8 v26 0 (Int.toNat (a1.Weights.length : Int)), .sc (.slice none 0 0)]]⟩)]) ⟨fun j28 h3 => ?_, ?_⟩
  refine tc tbk 1 (.mk ?_)
  refine lp (fun n (a : Int × (List Int)) => d_ref04_Start_L1 a1 n a.1 a.2) ((0 : Int), (x22 : List Int)) () h3 [1, 2, 3, 4, 5, 6, 7] [1, 2, 3, 4, 5, 6, 8, 11] (fun (a : Int × (List Int)) (k : Unit) => [(8, int a.1)]) (fun a k => [(7, ⟨3, 1, true, true, v23, a.2.map fI⟩), (9, ⟨40, 8, true, true, v27, [[int 1, boo false, .sl 4 v14 0 (Int.toNat x11), .sl 5 v17 0 (Int.toNat 17), .sl 6 v20 0 (Int.toNat (a1.Weights.length : Int)), .sl 7 v23 0 a.2.length, .sl 8 v26 0 (Int.toNat (a1.Weights.length : Int)), .sc (.slice none 0 0)]]⟩)]) (fun _ => rfl) ⟨leH_kn ⟨⟨_, rfl, (.refl _)⟩, ⟨_, rfl, (.refl _)⟩, ⟨_, rfl, (.refl _)⟩, ⟨_, rfl, (.refl _)⟩, ⟨_, rfl, (.refl _)⟩, ⟨_, rfl, (.refl _)⟩, ⟨_, rfl, (.refl _)⟩, ⟨_, rfl, (.refl _)⟩, trivial⟩ ⟨⟨_, rfl, (.refl _)⟩, ⟨_, rfl, ⟨rfl, (.cons (.cons (.refl _) (.cons (.refl _) (.cons (.refl _) (.cons (.refl _) (.cons (.refl _) (.cons (cv_slen (Eq.symm lx22)) (.cons (.refl _) (.cons (.refl _) .nil)))))))) .nil)⟩⟩, ⟨_, rfl, (.refl _)⟩, ⟨_, rfl, (.refl _)⟩, ⟨_, rfl, (.refl _)⟩, ⟨_, rfl, (.refl _)⟩, ⟨_, rfl, (.refl _)⟩, ⟨_, rfl, (.refl _)⟩, ⟨_, rfl, (.refl _)⟩, ⟨_, rfl, (.refl _)⟩, trivial⟩, ?_⟩
  rintro n ⟨y1_1, y1_2⟩ _ hm h3
  replace h3 : d_ref04_Start_L1 a1 (n + 1) y1_1 y1_2 = some _ := h3
  rw [d_ref04_Start_L1] at h3
  refine tc tbk 5 (.mk ?_)
  refine nb tbk h3 fun x29 h3 => ?_
  refine tr tbk 1 (.mk ?_)
  cases x29
  replace h3 := cf h3
  refine tc tbk 2 (.mk ?_)
  exact lf h3 () leA
  replace h3 := ct h3
  refine tc tbk 8 (.mk ?_)
  obtain ⟨x30, e30, h3⟩ := bind_e h3
  refine sY (yv_ixO rfl Tryz.underlying23 sh3 rfl rfl rfl rfl rfl (Eq.symm rfl) (List.length_map _) e30) ?_
  obtain ⟨x31, e31, h3⟩ := bnd_e h3
  have fx31 := ix_set e30 e31; have lx31 := len_setV e31 (rfl : y1_2.length = y1_2.length)
  refine rsstore rfl rfl (yl_ob (ob' := (⟨3, 1, true, true, v23, x31.map fI⟩ : AObj)) (yl_store rfl sh3 rfl rfl rfl rfl rfl (ix_get e30) rfl rfl rfl) (ob_eq (map_setV e31))) ?_
  refine tr tbk 4 (.mk ?_)
  refine ni tbk h3 fun x32 h3 => ?_
  refine tr tbk 2 (.mk ?_)
  exact bk (x32, x31) () h3 (leH_kn ⟨⟨_, rfl, (.refl _)⟩, ⟨_, rfl, (.refl _)⟩, ⟨_, rfl, (.refl _)⟩, ⟨_, rfl, (.refl _)⟩, ⟨_, rfl, (.refl _)⟩, ⟨_, rfl, (.refl _)⟩, ⟨_, rfl, (.refl _)⟩, ⟨_, rfl, (.refl _)⟩, trivial⟩ ⟨⟨_, rfl, (.refl _)⟩, ⟨_, rfl, ⟨rfl, (.cons (.cons (.refl _) (.cons (.refl _) (.cons (.refl _) (.cons (.refl _) (.cons (.refl _) (.cons (cv_slen (Eq.symm lx31)) (.cons (.refl _) (.cons (.refl _) .nil)))))))) .nil)⟩⟩, ⟨_, rfl, (.refl _)⟩, ⟨_, rfl, (.refl _)⟩, ⟨_, rfl, (.refl _)⟩, ⟨_, rfl, (.refl _)⟩, ⟨_, rfl, (.refl _)⟩, ⟨_, rfl, (.refl _)⟩, ⟨_, rfl, (.refl _)⟩, ⟨_, rfl, (.refl _)⟩, trivial⟩)
  rintro y2_1 _ h2
  refine tc tbk 4 (.mk ?_)
  refine sY (yv_buildSlice (ps := [(0, _)]) (rows := [[int 1, boo false, .sl 4 v14 0 (Int.toNat x11), .sl 5 v17 0 (Int.toNat 17), .sl 6 v20 0 (Int.toNat (a1.Weights.length : Int)), .sl 7 v23 0 y2_1.length, .sl 8 v26 0 (Int.toNat (a1.Weights.length : Int)), .sc (.slice none 0 0)]]) rfl Tryz.underlying27 bz40 (.cons rfl .nil) (by kernel_rfl) rfl rfl rfl) ?_
  obtain ⟨x33, e33, h2⟩ := bnd_e h2
  obtain ⟨p34, h2⟩ := asrt_e h2
  refine rse rfl rfl rfl (Yield.frz 4 rfl (Yield.frz 5 rfl (Yield.frz 6 rfl (Yield.frz 7 rfl (Yield.frz 8 rfl (yl_appT (g := GEnt.av) (l := y0_3) (m := [(⟨1, false, x13, x16, x19, y2_1, x25, []⟩ : GEnt)]) .any rfl Tryz.underlying27 bz40 by40 rfl rfl rfl rfl rfl rfl rfl rfl rfl rfl (Eq.symm rfl) (CvLL.list (ys := [GEnt.av (⟨1, false, x13, x16, x19, y2_1, x25, []⟩ : GEnt)]) (.cons (cvl_to (.cons (.refl _) (.cons (.refl _) (.cons (cv_lst rfl rfl rfl rfl rfl (Eq.symm lx13)) (.cons (cv_lst rfl rfl rfl rfl rfl (Eq.symm lx16)) (.cons (cv_lst rfl rfl rfl rfl rfl (Eq.symm lx19)) (.cons (cv_lst rfl rfl rfl rfl rfl (Eq.symm rfl)) (.cons (cv_lst rfl rfl rfl rfl rfl (Eq.symm lx25)) (.cons (.nil _) .nil)))))))) (GEnt.av_eq _)) .nil)) GEnt.one e33 p34)))))) ?_; rintro _ _ ⟨v35, -, rfl, rfl⟩
  refine tr tbk 1 (.mk ?_)
  refine sS ⟨32, 10, true, true, v6, [[int a1.Entities, int a1.Periods, lst 1 fI a1.Weights, lst 1 (fL 1 fI) a1.Methods, lst 1 (fL 1 fI) a1.Costs, .sl 11 v35 0 x33.length, .sc (.slice none 0 0), .sc (.slice none 0 0), .sc (.slice none 0 0), int 0]]⟩ sh27 ?_
  refine tr tbk 2 (.mk ?_)
  exact lf h2 v35 leA
  rintro y3_2 w3_1 h1
  refine tc tbk 2 (.mk ?_)
  refine ni tbk h1 fun x36 h1 => ?_
  refine tr tbk 2 (.mk ?_)
  exact bk (x36, y3_2) w3_1 h1 leA
  rintro y4_2 w4_1 h0
  refine tc tbk 3 (.mk ?_)
  refine sS ⟨32, 10, true, true, v3, [[int a1.Entities, int a1.Periods, lst 1 fI a1.Weights, lst 1 (fL 1 fI) a1.Methods, lst 1 (fL 1 fI) a1.Costs, .sl 11 w4_1 0 y4_2.length, .sc (.slice none 0 0), .sc (.slice none 0 0), .sc (.slice none 0 0), int 0]]⟩ sh32 ?_
  refine tr tbk 2 (.mk ?_)
  obtain rfl := nxt_e h0
  refine wR hret (rC sh32 (rT .nil)) ?_
  exact CvL.tup (.cons (CvL.agg (.cons (.refl _) (.cons (.refl _) (.cons (.refl _) (.cons (.refl _) (.cons (.refl _) (.cons (cv_lst rfl rfl rfl rfl rfl (Eq.symm rfl)) (.cons (.nil _) (.cons (.refl _) (.cons (.nil _) (.cons (.refl _) .nil))))))))))) (.cons (.refl _) .nil))
def d_law16_start_L0 : Nat → Int → (List (List Int)) → (List (List Int)) → Option ((List (List Int)) × (List (List Int)))
  | 0, _, _, _ => none
  | n + 1, y0_1, y0_4, y0_5 =>
    bnd (decide (y0_1 < 2)) fun x6 =>
    cond x6 (bnd (y0_4 ++ ([([1, 2, 3, 4] : List Int)] : List (List Int))) fun x7 =>
    asrt (x7.length ≤ 68719476736) <|
    bnd (y0_5 ++ ([([10, 10, 10, 10] : List Int)] : List (List Int))) fun x10 =>
    asrt (x10.length ≤ 68719476736) <|
    bnd (w64 (y0_1 + 1)) fun x13 =>
    d_law16_start_L0 n (x13 : Int) (x7 : List (List Int)) (x10 : List (List Int))) (some ((y0_4 : List (List Int)), (y0_5 : List (List Int))))
def d_law16_start (n : Nat)  : Option (GState) :=
(show Option ((List (List Int)) × (List (List Int))) from
d_law16_start_L0 n (0 : Int) (([] : List (List Int)) : List (List Int)) (([] : List (List Int)) : List (List Int))).bind <| p2 fun (y1_3 : List (List Int)) (y1_4 : List (List Int)) =>
(d_ref04_Start n (⟨2, 3, ([1, 2, 3, 0] : List Int), y1_3, y1_4⟩ : GMaster)).bind fun x14 =>
some (((⟨x14.1.Master, x14.1.Ents, x14.1.Receipts, [], x14.1.Transits, x14.1.Done⟩ : GState) : GState))
theorem d_law16_start_c {n : Nat}  {r : GState} (h0 : d_law16_start n  = some r) : PP Tryz.prog 32 [] (fun y => y = .agg (GState.avN r)) := by
  unfold d_law16_start at h0
  refine pp_of_pc (R0 := fun y H => Cv (frzH H) y (.agg (GState.avN r))) ?_ (fun y H hc => ⟨_, rfl, (fun (a : GState) => PV.agg (GState.pvcN a)) r, hc⟩)
  refine pcw (c := _) Tryz.func32 rfl rfl ?_; intro Q hret hnorm
  refine tc tbk 2 (.mk ?_)
  refine sA 1 z32 fun v1 => ?_
  refine tr tbk 3 (.mk ?_)
  refine sY (yv_to (y := lst 1 fI ([1, 2, 3, 0] : List Int)) (yv_buildSlice (ps := [(0, _), (1, _), (2, _), (3, _)]) (rows := [[int 1], [int 2], [int 3], [int 0]]) rfl Tryz.underlying23 bz3 (.cons rfl (.cons rfl (.cons rfl (.cons rfl .nil)))) (by kernel_rfl) rfl rfl rfl) rfl) ?_
  refine tr tbk 1 (.mk ?_)
  refine sA 2 z26 fun v2 => ?_
  refine sS ⟨26, 5, true, true, v2, [[int 2, int 3, lst 1 fI ([1, 2, 3, 0] : List Int), .sc (.slice none 0 0), .sc (.slice none 0 0)]]⟩ sh26 ?_
  refine tr tbk 6 (.mk ?_)
  refine jn h0 [0, 1] [1] (fun (a : (List (List Int)) × (List (List Int))) (k : Nat × Nat) => []) (fun a k => [(2, ⟨26, 5, true, true, v2, [[int 2, int 3, lst 1 fI ([1, 2, 3, 0] : List Int), .sl 5 k.1 0 a.1.length, .sl 6 k.2 0 a.2.length]]⟩), (5, ⟨23, 1, true, true, k.1, a.1.map (fL 1 fI)⟩), (6, ⟨23, 1, true, true, k.2, a.2.map (fL 1 fI)⟩)]) ⟨fun j3 h1 => ?_, ?_⟩
  refine tc tbk 1 (.mk ?_)
  refine c_nilcell 2 0 3 5 23 1 (rows := fun v4 => [[int 2, int 3, lst 1 fI ([1, 2, 3, 0] : List Int), .sl 5 v4 0 0, .sc (.slice none 0 0)]]) rfl rfl rfl rfl (fun _ => rfl) ?_; intro v4
  refine c_nilcell 2 0 4 6 23 1 (rows := fun v5 => [[int 2, int 3, lst 1 fI ([1, 2, 3, 0] : List Int), .sl 5 v4 0 0, .sl 6 v5 0 0]]) rfl rfl rfl rfl (fun _ => rfl) ?_; intro v5
  refine lp (fun n (a : Int × (List (List Int)) × (List (List Int))) => d_law16_start_L0 n a.1 a.2.1 a.2.2) ((0 : Int), (([] : List (List Int)) : List (List Int)), (([] : List (List Int)) : List (List Int))) (v4, v5) h1 [0, 1] [1] (fun (a : Int × (List (List Int)) × (List (List Int))) (k : Nat × Nat) => [(2, int a.1)]) (fun a k => [(2, ⟨26, 5, true, true, v2, [[int 2, int 3, lst 1 fI ([1, 2, 3, 0] : List Int), .sl 5 k.1 0 a.2.1.length, .sl 6 k.2 0 a.2.2.length]]⟩), (5, ⟨23, 1, true, true, k.1, a.2.1.map (fL 1 fI)⟩), (6, ⟨23, 1, true, true, k.2, a.2.2.map (fL 1 fI)⟩)]) (fun _ => rfl) ⟨leA, ?_⟩
  rintro n ⟨y0_1, y0_4, y0_5⟩ ⟨w0_2, w0_3⟩ hm h1
  replace h1 : d_law16_start_L0 (n + 1) y0_1 y0_4 y0_5 = some _ := h1
  rw [d_law16_start_L0] at h1
  refine tc tbk 4 (.mk ?_)
  refine nb tbk h1 fun x6 h1 => ?_
  refine tr tbk 1 (.mk ?_)
  cases x6
  replace h1 := cf h1
  refine tc tbk 2 (.mk ?_)
  exact lf h1 (w0_2, w0_3) leA
  replace h1 := ct h1
  refine tc tbk 4 (.mk ?_)
  refine c_drawE [0, 1, 0, 4, 15, 0, 32, 0, 128, 511, 127, 2047, 4095, 8191] (rl [(0, [2]), (1, [2]), (5, [2]), (6, [2]), (10, [2]), (12, [2])] []) (rl [(11, []), (13, [])] [2]) (rl [(4, false), (9, false), (11, false), (13, false)] true) [0, 1, 2, 3, 5, 6, 7, 8, 4, 10, 9, 11, 12, 13] mixed (by kernel_rfl) ?_; intro K hK
  refine eF fo26_3 ?_
  refine eL sh24 ?_
  refine eP (fun H hH => yv_to (y := lst 1 fI ([1, 2, 3, 4] : List Int)) (yv_buildSlice (ps := [(0, _), (1, _), (2, _), (3, _)]) (rows := [[int 1], [int 2], [int 3], [int 4]]) rfl Tryz.underlying23 bz3 (.cons rfl (.cons rfl (.cons rfl (.cons rfl .nil)))) (by kernel_rfl) rfl rfl rfl) rfl) ?_
  refine eP (fun H hH => yv_to (y := lst 1 (fL 1 fI) ([([1, 2, 3, 4] : List Int)] : List (List Int))) (yv_buildSlice (ps := [(0, _)]) (rows := [[lst 1 fI ([1, 2, 3, 4] : List Int)]]) rfl Tryz.underlying24 bz23 (.cons rfl .nil) (by kernel_rfl) rfl rfl rfl) rfl) ?_
  refine eF fo26_4 ?_
  refine eL sh24 ?_
  refine eP (fun H hH => yv_to (y := lst 1 fI ([10, 10, 10, 10] : List Int)) (yv_buildSlice (ps := [(0, _), (1, _), (2, _), (3, _)]) (rows := [[int 10], [int 10], [int 10], [int 10]]) rfl Tryz.underlying23 bz3 (.cons rfl (.cons rfl (.cons rfl (.cons rfl .nil)))) (by kernel_rfl) rfl rfl rfl) rfl) ?_
  refine eP (fun H hH => yv_to (y := lst 1 (fL 1 fI) ([([10, 10, 10, 10] : List Int)] : List (List Int))) (yv_buildSlice (ps := [(0, _)]) (rows := [[lst 1 fI ([10, 10, 10, 10] : List Int)]]) rfl Tryz.underlying24 bz23 (.cons rfl .nil) (by kernel_rfl) rfl rfl rfl) rfl) ?_
  obtain ⟨x7, e7, h1⟩ := bnd_e h1
  obtain ⟨p8, h1⟩ := asrt_e h1
  refine de_eff rfl rfl rfl rfl (yl_appT (g := (fL 1 fI)) (l := y0_4) (m := ([([1, 2, 3, 4] : List Int)] : List (List Int))) .any rfl Tryz.underlying24 bz23 by23 rfl rfl rfl rfl rfl rfl rfl rfl rfl rfl (Eq.symm rfl) (.refl _) (fun _ => rfl) e7 p8) (by rintro _ _ ⟨v9, -, rfl, rfl⟩; exact ⟨rfl, trivial⟩) ?_; rintro _ _ ⟨v9, -, rfl, rfl⟩
  refine eF fo26_3 ?_
  obtain ⟨x10, e10, h1⟩ := bnd_e h1
  obtain ⟨p11, h1⟩ := asrt_e h1
  refine de_eff rfl rfl rfl rfl (yl_appT (g := (fL 1 fI)) (l := y0_5) (m := ([([10, 10, 10, 10] : List Int)] : List (List Int))) .any rfl Tryz.underlying24 bz23 by23 rfl rfl rfl rfl rfl rfl rfl rfl rfl rfl (Eq.symm rfl) (.refl _) (fun _ => rfl) e10 p11) (by rintro _ _ ⟨v12, -, rfl, rfl⟩; exact ⟨rfl, trivial⟩) ?_; rintro _ _ ⟨v12, -, rfl, rfl⟩
  refine de_eff0 rfl rfl rfl rfl (Yield.weak (yl_ob (ob' := (⟨26, 5, true, true, v2, [[int 2, int 3, lst 1 fI ([1, 2, 3, 0] : List Int), .sl 5 v9 0 x7.length, .sl 6 w0_3 0 y0_5.length]]⟩ : AObj)) (yl_store rfl sh24 rfl rfl rfl rfl rfl rfl rfl rfl rfl) rfl) (fun _ h => h) (fun _ _ => trivial)) (by rintro _ _ ⟨rfl, rfl⟩; exact trivial) ?_; rintro _ _ ⟨rfl, rfl⟩
  refine eF fo26_4 ?_
  refine de_eff0 rfl rfl rfl rfl (Yield.weak (yl_ob (ob' := (⟨26, 5, true, true, v2, [[int 2, int 3, lst 1 fI ([1, 2, 3, 0] : List Int), .sl 5 v9 0 x7.length, .sl 6 v12 0 x10.length]]⟩ : AObj)) (yl_store rfl sh24 rfl rfl rfl rfl rfl rfl rfl rfl rfl) rfl) (fun _ h => h) (fun _ _ => trivial)) (by rintro _ _ ⟨rfl, rfl⟩; exact trivial) ?_; rintro _ _ ⟨rfl, rfl⟩
  refine de_nil (hK _ ?_)
  refine tc tbk 3 (.mk ?_)
  refine ni tbk h1 fun x13 h1 => ?_
  refine tr tbk 2 (.mk ?_)
  exact bk (x13, x7, x10) (v9, v12) h1 leA
  rintro ⟨y1_3, y1_4⟩ ⟨w1_1, w1_2⟩ h0
  replace h0 := p2_e h0
  refine tc tbk 3 (.mk ?_)
  obtain ⟨x14, e14, h0⟩ := bind_e h0
  refine rse rfl rfl rfl (Yield.frz 5 rfl (Yield.frz 6 rfl (Yield.weak (yv_callP rfl rfl (.cons rfl .nil) cal15 (.cons (CvL.agg (.cons (.refl _) (.cons (.refl _) (.cons (.refl _) (.cons (cv_lst rfl rfl rfl rfl rfl (Eq.symm rfl)) (.cons (cv_lst rfl rfl rfl rfl rfl (Eq.symm rfl)) .nil)))))) .nil) (d_ref04_Start_c e14)) (fun _ h => h) (fun _ h => h.elim)))) ?_; rintro _ _ ⟨rfl, rfl⟩
  refine tr tbk 3 (.mk ?_)
  refine sA 7 z32 fun v15 => ?_
  refine sS ⟨32, 10, true, true, v15, [[int x14.1.Master.Entities, int x14.1.Master.Periods, lst 1 fI x14.1.Master.Weights, lst 1 (fL 1 fI) x14.1.Master.Methods, lst 1 (fL 1 fI) x14.1.Master.Costs, lst 8 GEnt.av x14.1.Ents, lst 8 GReceipt.av x14.1.Receipts, .sc (.slice none 0 0), lst 6 GTransit.av x14.1.Transits, int x14.1.Done]]⟩ sh32 ?_
  refine tr tbk 5 (.mk ?_)
  refine sS ⟨32, 10, true, true, v1, [[int x14.1.Master.Entities, int x14.1.Master.Periods, lst 1 fI x14.1.Master.Weights, lst 1 (fL 1 fI) x14.1.Master.Methods, lst 1 (fL 1 fI) x14.1.Master.Costs, lst 8 GEnt.av x14.1.Ents, lst 8 GReceipt.av x14.1.Receipts, .sc (.slice none 0 0), lst 6 GTransit.av x14.1.Transits, int x14.1.Done]]⟩ sh32 ?_
  refine tr tbk 1 (.mk ?_)
  obtain rfl := nxt_e h0
  refine wR hret (rC sh32 .nil) ?_
  exact .refl _
def d_ref14_to (a1 : Int) (a2 : Int) : Option (Bool) :=
(show Option (Bool) from
bnd (decide (a1 ≥ 0)) fun x4 =>
cond x4 (bnd (decide (a1 ≤ a2)) fun x5 =>
some (x5 : Bool)) (some (false : Bool))).bind <| fun y0_1 =>
some ((y0_1 : Bool))
theorem d_ref14_to_c {a1 : Int} {a2 : Int} {r : Bool} (h0 : d_ref14_to a1 a2 = some r) : PP Tryz.prog 93 [int a1, int a2] (fun y => y = boo r) := by
  unfold d_ref14_to at h0
  refine pp_of_pc (R0 := fun y H => Cv (frzH H) y (boo r)) ?_ (fun y H hc => ⟨_, rfl, pvB r, hc⟩)
  refine pcw (c := _) Tryz.func93 rfl rfl ?_; intro Q hret hnorm
  refine tc tbk 5 (.mk ?_)
  refine jn h0 [] [] (fun (a : Bool) (k : Unit) => [(4, boo a)]) (fun a k => []) ⟨fun j3 h1 => ?_, ?_⟩
  refine tc tbk 2 (.mk ?_)
  refine nb tbk h1 fun x4 h1 => ?_
  refine tr tbk 1 (.mk ?_)
  cases x4
  replace h1 := cf h1
  refine tr tbk 6 (.mk ?_)
  exact lf h1 () leA
  replace h1 := ct h1
  refine tr tbk 2 (.mk ?_)
  refine nb tbk h1 fun x5 h1 => ?_
  refine tr tbk 3 (.mk ?_)
  exact lf h1 () leA
  rintro y0_1 _ h0
  obtain rfl := nxt_e h0
  refine wR hret (rT .nil) ?_
  exact .refl _
def d_ref14_there (a1 : GState) (a2 : Int) (a3 : Int) : Option (Bool) :=
(show Option (Bool) from
bnd (w64 ((a1.Ents.length : Int) - 1)) fun x6 =>
(d_ref14_to a2 x6).bind fun x7 =>
cond x7 (bnd (w64 ((a1.Master.Weights.length : Int) - 1)) fun x8 =>
(d_ref14_to a3 x8).bind fun x9 =>
some (x9 : Bool)) (some (false : Bool))).bind <| fun y0_1 =>
some ((y0_1 : Bool))
theorem d_ref14_there_c {a1 : GState} {a2 : Int} {a3 : Int} {r : Bool} (h0 : d_ref14_there a1 a2 a3 = some r) : PP Tryz.prog 92 [.agg (GState.av a1), int a2, int a3] (fun y => y = boo r) := by
  unfold d_ref14_there at h0
  refine pp_of_pc (R0 := fun y H => Cv (frzH H) y (boo r)) ?_ (fun y H hc => ⟨_, rfl, pvB r, hc⟩)
  refine pcw (c := _) Tryz.func92 rfl rfl ?_; intro Q hret hnorm
  refine tc tbk 2 (.mk ?_)
  refine sB 1 fun v4 => ?_
  refine tr tbk 3 (.mk ?_)
  refine jn h0 [] [] (fun (a : Bool) (k : Unit) => [(6, boo a)]) (fun a k => []) ⟨fun j5 h1 => ?_, ?_⟩
  refine tc tbk 4 (.mk ?_)
  refine sY (yv_len_sl rfl Tryz.underlying27 rfl (lst_len _)) ?_
  refine ni tbk h1 fun x6 h1 => ?_
  obtain ⟨x7, e7, h1⟩ := bind_e h1
  refine sC cal93 (d_ref14_to_c e7) ?_
  refine tr tbk 1 (.mk ?_)
  cases x7
  replace h1 := cf h1
  refine tr tbk 10 (.mk ?_)
  exact lf h1 () leA
  replace h1 := ct h1
  refine tr tbk 4 (.mk ?_)
  refine sY (yv_len_sl rfl Tryz.underlying23 rfl (lst_len _)) ?_
  refine ni tbk h1 fun x8 h1 => ?_
  obtain ⟨x9, e9, h1⟩ := bind_e h1
  refine sC cal93 (d_ref14_to_c e9) ?_
  refine tr tbk 3 (.mk ?_)
  exact lf h1 () leA
  rintro y0_1 _ h0
  obtain rfl := nxt_e h0
  refine wR hret (rT .nil) ?_
  exact .refl _
def d_ref14_Ready (a1 : GState) (a2 : Int) (a3 : Int) : Option (Int) :=
(d_ref14_there a1 a2 a3).bind fun x5 =>
bnd (!x5) fun x6 =>
asrt (x6 = false) <|
(ix a1.Ents a2).bind fun x7 =>
bnd x7.Closed fun x8 =>
asrt (x8 = false) <|
some ((0 : Int))
theorem d_ref14_Ready_c {a1 : GState} {a2 : Int} {a3 : Int} {r : Int} (h0 : d_ref14_Ready a1 a2 a3 = some r) : PP Tryz.prog 56 [.agg (GState.av a1), int a2, int a3] (fun y => y = int r) := by
  unfold d_ref14_Ready at h0
  refine pp_of_pc (R0 := fun y H => Cv (frzH H) y (int r)) ?_ (fun y H hc => ⟨_, rfl, pvI r, hc⟩)
  refine pcw (c := _) Tryz.func56 rfl rfl ?_; intro Q hret hnorm
  refine tc tbk 2 (.mk ?_)
  refine sB 1 fun v4 => ?_
  refine tr tbk 9 (.mk ?_)
  obtain ⟨x5, e5, h0⟩ := bind_e h0
  refine sC cal92 (d_ref14_there_c e5) ?_
  refine nb tbk h0 fun x6 h0 => ?_
  refine tr tbk 2 (.mk ?_)
  replace h0 := asrt_e h0
  obtain ⟨rfl, h0⟩ := h0
  refine tc tbk 6 (.mk ?_)
  obtain ⟨x7, e7, h0⟩ := bind_e h0
  refine sY (yv_to (y := .pp [int x7.Now, boo x7.Closed, lst 4 GPool.av x7.Pools, lst 1 fI x7.Bal, lst 11 GRoll.av x7.Rolls, lst 1 fI x7.Prices, lst 1 fI x7.Down, lst 8 GEnt.av x7.Ahead]) (yv_ixT rfl Tryz.underlying27 sh40 rfl rfl e7) (congrArg AV.pp (GEnt.av_eq x7))) ?_
  refine tr tbk 4 (.mk ?_)
  obtain ⟨x8, e8, h0⟩ := bnd_e h0
  refine c_as (t := 13) (boo x8) rfl (congrArg boo e8) ?_
  refine c_as (t := 19) (boo x8) rfl (congrArg boo e8) ?_
  replace h0 := asrt_e h0
  obtain ⟨rfl, h0⟩ := h0
  refine tc tbk 7 (.mk ?_)
  obtain rfl := nxt_e h0
  refine wR hret (rT .nil) ?_
  exact .refl _
def d_ref14_At (a1 : GState) (a2 : Int) (a3 : Int) (a4 : Int) : Option (GPool) :=
(show Option (Bool) from
(d_ref14_there a1 a2 a3).bind fun x8 =>
bnd (!x8) fun x9 =>
cond x9 (some (true : Bool)) ((d_ref14_to a4 1).bind fun x10 =>
bnd (!x10) fun x11 =>
cond x11 (some (true : Bool)) (bnd (w64 (a3 * 2)) fun x12 =>
bnd (w64 (x12 + a4)) fun x13 =>
(ix a1.Ents a2).bind fun x14 =>
bnd (decide (x13 ≥ (x14.Pools.length : Int))) fun x15 =>
some (x15 : Bool)))).bind <| fun y0_1 =>
asrt (y0_1 = false) <|
(ix a1.Ents a2).bind fun x16 =>
bnd (w64 (a3 * 2)) fun x17 =>
bnd (w64 (x17 + a4)) fun x18 =>
(ix x16.Pools x18).bind fun x19 =>
some ((x19 : GPool))
theorem d_ref14_At_c {a1 : GState} {a2 : Int} {a3 : Int} {a4 : Int} {r : GPool} (h0 : d_ref14_At a1 a2 a3 a4 = some r) : PP Tryz.prog 90 [.agg (GState.av a1), int a2, int a3, int a4] (fun y => y = .agg (GPool.av r)) := by
  unfold d_ref14_At at h0
  refine pp_of_pc (R0 := fun y H => Cv (frzH H) y (.agg (GPool.av r))) ?_ (fun y H hc => ⟨_, rfl, (fun (a : GPool) => PV.agg (GPool.pvc a)) r, hc⟩)
  refine pcw (c := _) Tryz.func90 rfl rfl ?_; intro Q hret hnorm
  refine tc tbk 2 (.mk ?_)
  refine sB 1 fun v5 => ?_
  refine sA 2 z82 fun v6 => ?_
  refine tr tbk 3 (.mk ?_)
  refine jn h0 [1, 2, 3, 4, 8] [1, 2] (fun (a : Bool) (k : Unit) => [(32, boo a)]) (fun a k => []) ⟨fun j7 h1 => ?_, ?_⟩
  refine tc tbk 4 (.mk ?_)
  obtain ⟨x8, e8, h1⟩ := bind_e h1
  refine sC cal92 (d_ref14_there_c e8) ?_
  refine nb tbk h1 fun x9 h1 => ?_
  refine tr tbk 1 (.mk ?_)
  cases x9
  replace h1 := cf h1
  refine tr tbk 1 (.mk ?_)
  obtain ⟨x10, e10, h1⟩ := bind_e h1
  refine sC cal93 (d_ref14_to_c e10) ?_
  refine nb tbk h1 fun x11 h1 => ?_
  refine tr tbk 2 (.mk ?_)
  cases x11
  replace h1 := cf h1
  refine tr tbk 1 (.mk ?_)
  refine ni tbk h1 fun x12 h1 => ?_
  refine tr tbk 1 (.mk ?_)
  refine ni tbk h1 fun x13 h1 => ?_
  refine tr tbk 3 (.mk ?_)
  obtain ⟨x14, e14, h1⟩ := bind_e h1
  refine sY (yv_to (y := .pp [int x14.Now, boo x14.Closed, lst 4 GPool.av x14.Pools, lst 1 fI x14.Bal, lst 11 GRoll.av x14.Rolls, lst 1 fI x14.Prices, lst 1 fI x14.Down, lst 8 GEnt.av x14.Ahead]) (yv_ixT rfl Tryz.underlying27 sh40 rfl rfl e14) (congrArg AV.pp (GEnt.av_eq x14))) ?_
  refine tr tbk 2 (.mk ?_)
  refine sY (yv_len_sl rfl Tryz.underlying37 rfl (lst_len _)) ?_
  refine nb tbk h1 fun x15 h1 => ?_
  refine tr tbk 2 (.mk ?_)
  exact lf h1 () leA
  replace h1 := ct h1
  refine tr tbk 14 (.mk ?_)
  exact lf h1 () leA
  replace h1 := ct h1
  refine tr tbk 19 (.mk ?_)
  exact lf h1 () leA
  rintro y0_1 _ h0
  replace h0 := asrt_e h0
  obtain ⟨rfl, h0⟩ := h0
  refine tc tbk 7 (.mk ?_)
  obtain ⟨x16, e16, h0⟩ := bind_e h0
  refine sY (yv_to (y := .pp [int x16.Now, boo x16.Closed, lst 4 GPool.av x16.Pools, lst 1 fI x16.Bal, lst 11 GRoll.av x16.Rolls, lst 1 fI x16.Prices, lst 1 fI x16.Down, lst 8 GEnt.av x16.Ahead]) (yv_ixT rfl Tryz.underlying27 sh40 rfl rfl e16) (congrArg AV.pp (GEnt.av_eq x16))) ?_
  refine tr tbk 3 (.mk ?_)
  refine ni tbk h0 fun x17 h0 => ?_
  refine tr tbk 1 (.mk ?_)
  refine ni tbk h0 fun x18 h0 => ?_
  obtain ⟨x19, e19, h0⟩ := bind_e h0
  refine sY (yv_ixT rfl Tryz.underlying37 sh82 rfl rfl e19) ?_
  refine tr tbk 1 (.mk ?_)
  refine sS ⟨82, 4, true, true, v6, [[lst 3 GLayer.av x19.Layers, int x19.Pend.a0, int x19.Pend.a1, int x19.Pend.a2]]⟩ sh82 ?_
  refine tr tbk 1 (.mk ?_)
  obtain rfl := nxt_e h0
  refine wR hret (rC sh82 .nil) ?_
  exact .refl _
def d_ref01_In (a1 : Int) : Option (Bool) :=
(show Option (Bool) from
bnd (decide (a1 ≥ (-288230376151711744))) fun x3 =>
cond x3 (bnd (decide (a1 ≤ 288230376151711744)) fun x4 =>
some (x4 : Bool)) (some (false : Bool))).bind <| fun y0_1 =>
some ((y0_1 : Bool))
theorem d_ref01_In_c {a1 : Int} {r : Bool} (h0 : d_ref01_In a1 = some r) : PP Tryz.prog 91 [int a1] (fun y => y = boo r) := by
  unfold d_ref01_In at h0
  refine pp_of_pc (R0 := fun y H => Cv (frzH H) y (boo r)) ?_ (fun y H hc => ⟨_, rfl, pvB r, hc⟩)
  refine pcw (c := _) Tryz.func91 rfl rfl ?_; intro Q hret hnorm
  refine tc tbk 5 (.mk ?_)
  refine jn h0 [] [] (fun (a : Bool) (k : Unit) => [(2, boo a)]) (fun a k => []) ⟨fun j2 h1 => ?_, ?_⟩
  refine tc tbk 2 (.mk ?_)
  refine nb tbk h1 fun x3 h1 => ?_
  refine tr tbk 1 (.mk ?_)
  cases x3
  replace h1 := cf h1
  refine tr tbk 5 (.mk ?_)
  exact lf h1 () leA
  replace h1 := ct h1
  refine tr tbk 1 (.mk ?_)
  refine nb tbk h1 fun x4 h1 => ?_
  refine tr tbk 3 (.mk ?_)
  exact lf h1 () leA
  rintro y0_1 _ h0
  obtain rfl := nxt_e h0
  refine wR hret (rT .nil) ?_
  exact .refl _
def d_ref01_Add (a1 : Int) (a2 : Int) : Option (Int × Int) :=
(show Option (Bool) from
(d_ref01_In a1).bind fun x4 =>
bnd (!x4) fun x5 =>
cond x5 (some (true : Bool)) ((d_ref01_In a2).bind fun x6 =>
bnd (!x6) fun x7 =>
cond x7 (some (true : Bool)) (bnd (w64 (a1 + a2)) fun x8 =>
(d_ref01_In x8).bind fun x9 =>
bnd (!x9) fun x10 =>
some (x10 : Bool)))).bind <| fun y0_1 =>
asrt (y0_1 = false) <|
bnd (w64 (a1 + a2)) fun x11 =>
some ((x11 : Int), (0 : Int))
theorem d_ref01_Add_c {a1 : Int} {a2 : Int} {r : Int × Int} (h0 : d_ref01_Add a1 a2 = some r) : PP Tryz.prog 55 [int a1, int a2] (fun y => y = .tup [int r.1, int r.2]) := by
  unfold d_ref01_Add at h0
  refine pp_of_pc (R0 := fun y H => Cv (frzH H) y (.tup [int r.1, int r.2])) ?_ (fun y H hc => ⟨_, rfl, .tup (pvl2 (pvI (r.1)) (pvI (r.2))), hc⟩)
  refine pcw (c := _) Tryz.func55 rfl rfl ?_; intro Q hret hnorm
  refine tc tbk 7 (.mk ?_)
  refine jn h0 [0, 1, 4, 5] [] (fun (a : Bool) (k : Unit) => [(20, boo a)]) (fun a k => []) ⟨fun j3 h1 => ?_, ?_⟩
  refine tc tbk 2 (.mk ?_)
  obtain ⟨x4, e4, h1⟩ := bind_e h1
  refine sC cal91 (d_ref01_In_c e4) ?_
  refine nb tbk h1 fun x5 h1 => ?_
  refine tr tbk 1 (.mk ?_)
  cases x5
  replace h1 := cf h1
  refine tr tbk 1 (.mk ?_)
  obtain ⟨x6, e6, h1⟩ := bind_e h1
  refine sC cal91 (d_ref01_In_c e6) ?_
  refine nb tbk h1 fun x7 h1 => ?_
  refine tr tbk 2 (.mk ?_)
  cases x7
  replace h1 := cf h1
  refine tr tbk 2 (.mk ?_)
  refine ni tbk h1 fun x8 h1 => ?_
  obtain ⟨x9, e9, h1⟩ := bind_e h1
  refine sC cal91 (d_ref01_In_c e9) ?_
  refine nb tbk h1 fun x10 h1 => ?_
  refine tr tbk 2 (.mk ?_)
  exact lf h1 () leA
  replace h1 := ct h1
  refine tr tbk 7 (.mk ?_)
  exact lf h1 () leA
  replace h1 := ct h1
  refine tr tbk 12 (.mk ?_)
  exact lf h1 () leA
  rintro y0_1 _ h0
  replace h0 := asrt_e h0
  obtain ⟨rfl, h0⟩ := h0
  refine tc tbk 6 (.mk ?_)
  refine ni tbk h0 fun x11 h0 => ?_
  refine tr tbk 3 (.mk ?_)
  obtain rfl := nxt_e h0
  refine wR hret (rT (rT .nil)) ?_
  exact .refl _
def d_ref09_Total_L0 (a1 : List GLayer) : Nat → Int → GLayer → Option (GLayer)
  | 0, _, _ => none
  | n + 1, y0_1, y0_2 =>
    bnd (decide (y0_1 < (a1.length : Int))) fun x5 =>
    cond x5 ((ix a1 y0_1).bind fun x6 =>
    (d_ref01_Add y0_2.Qty x6.Qty).bind fun x7 =>
    (ix a1 y0_1).bind fun x8 =>
    (d_ref01_Add y0_2.Value x8.Value).bind fun x9 =>
    (ix a1 y0_1).bind fun x10 =>
    (d_ref01_Add y0_2.Profit x10.Profit).bind fun x11 =>
    (show Option (Bool) from
    bnd (decide (x7.2 ≠ 0)) fun x13 =>
    cond x13 (some (true : Bool)) (bnd (decide (x9.2 ≠ 0)) fun x14 =>
    cond x14 (some (true : Bool)) (bnd (decide (x11.2 ≠ 0)) fun x15 =>
    some (x15 : Bool)))).bind <| fun y1_1 =>
    asrt (y1_1 = false) <|
    bnd (w64 (y0_1 + 1)) fun x16 =>
    d_ref09_Total_L0 a1 n (x16 : Int) ((⟨x7.1, x9.1, x11.1⟩ : GLayer) : GLayer)) (some (y0_2 : GLayer))
def d_ref09_Total (n : Nat) (a1 : List GLayer) : Option (GLayer × Int) :=
(show Option (GLayer) from
d_ref09_Total_L0 a1 n (0 : Int) ((⟨0, 0, 0⟩ : GLayer) : GLayer)).bind <| fun y2_1 =>
some ((y2_1 : GLayer), (0 : Int))
theorem d_ref09_Total_c {n : Nat} {a1 : List GLayer} {r : GLayer × Int} (h0 : d_ref09_Total n a1 = some r) : PP Tryz.prog 115 [lst 3 GLayer.av a1] (fun y => y = .tup [.agg (GLayer.av r.1), int r.2]) := by
  unfold d_ref09_Total at h0
  refine pp_of_pc (R0 := fun y H => Cv (frzH H) y (.tup [.agg (GLayer.av r.1), int r.2])) ?_ (fun y H hc => ⟨_, rfl, .tup (pvl2 ((fun (a : GLayer) => PV.agg (GLayer.pvc a)) (r.1)) (pvI (r.2))), hc⟩)
  refine pcw (c := _) Tryz.func115 rfl rfl ?_; intro Q hret hnorm
  refine tc tbk 2 (.mk ?_)
  refine sA 1 z60 fun v2 => ?_
  refine tr tbk 4 (.mk ?_)
  refine sA 2 z60 fun v3 => ?_
  refine tr tbk 6 (.mk ?_)
  refine jn h0 [2, 3, 4] [1] (fun (a : GLayer) (k : Unit) => []) (fun a k => [(2, ⟨60, 3, true, true, v3, [[int a.Qty, int a.Value, int a.Profit]]⟩)]) ⟨fun j4 h1 => ?_, ?_⟩
  refine tc tbk 1 (.mk ?_)
  refine lp (fun n (a : Int × GLayer) => d_ref09_Total_L0 a1 n a.1 a.2) ((0 : Int), ((⟨0, 0, 0⟩ : GLayer) : GLayer)) () h1 [0, 2, 3, 4] [1] (fun (a : Int × GLayer) (k : Unit) => [(5, int a.1)]) (fun a k => [(2, ⟨60, 3, true, true, v3, [[int a.2.Qty, int a.2.Value, int a.2.Profit]]⟩)]) (fun _ => rfl) ⟨leA, ?_⟩
  rintro n ⟨y0_1, y0_2⟩ _ hm h1
  replace h1 : d_ref09_Total_L0 a1 (n + 1) y0_1 y0_2 = some _ := h1
  rw [d_ref09_Total_L0] at h1
  refine tc tbk 5 (.mk ?_)
  refine sY (yv_len_sl rfl Tryz.underlying79 rfl (lst_len _)) ?_
  refine nb tbk h1 fun x5 h1 => ?_
  refine tr tbk 1 (.mk ?_)
  cases x5
  replace h1 := cf h1
  refine tc tbk 2 (.mk ?_)
  exact lf h1 () leA
  replace h1 := ct h1
  refine tc tbk 5 (.mk ?_)
  refine c_drawE [0, 1, 0, 0, 12, 28, 60, 127, 255, 511, 511, 1023, 4095] (rl [(0, [2]), (1, [2])] []) (fun i => [2]) (fun i => true) [0, 1, 2, 3, 4, 5, 6, 7, 8, 9, 10, 11, 12] mixed (by kernel_rfl) ?_; intro K hK
  refine eF fo60_0 ?_
  refine eL sh3 ?_
  iterate 2 refine eM ?_
  obtain ⟨x6, e6, h1⟩ := bind_e h1
  refine eP (fun H hH => yv_ixT rfl Tryz.underlying79 sh60 rfl rfl e6) ?_
  refine eP (fun H hH => yv_fieldAddr rfl fo60_0 rfl (.pp _) (.pp _ _)) ?_
  refine eP (fun H hH => yv_load rfl sh3 rfl (.pp _) rfl) ?_
  obtain ⟨x7, e7, h1⟩ := bind_e h1
  refine eP (fun H hH => yv_callP rfl rfl (.cons rfl (.cons rfl .nil)) cal55 (CvL.refl _) (d_ref01_Add_c e7)) ?_
  refine eM ?_
  iterate 2 refine eX ?_
  iterate 2 refine eA ?_
  refine de_nil (hK _ ?_)
  refine tc tbk 1 (.mk ?_)
  refine c_drawE [0, 1, 0, 0, 12, 28, 60, 127, 255, 511, 511, 1023, 4095] (rl [(0, [2]), (1, [2])] []) (fun i => [2]) (fun i => true) [0, 1, 2, 3, 4, 5, 6, 7, 8, 9, 10, 11, 12] mixed (by kernel_rfl) ?_; intro K hK
  refine eF fo60_1 ?_
  refine eL sh3 ?_
  iterate 2 refine eM ?_
  obtain ⟨x8, e8, h1⟩ := bind_e h1
  refine eP (fun H hH => yv_ixT rfl Tryz.underlying79 sh60 rfl rfl e8) ?_
  refine eP (fun H hH => yv_fieldAddr rfl fo60_1 rfl (.pp _) (.pp _ _)) ?_
  refine eP (fun H hH => yv_load rfl sh3 rfl (.pp _) rfl) ?_
  obtain ⟨x9, e9, h1⟩ := bind_e h1
  refine eP (fun H hH => yv_callP rfl rfl (.cons rfl (.cons rfl .nil)) cal55 (CvL.refl _) (d_ref01_Add_c e9)) ?_
  refine eM ?_
  iterate 2 refine eX ?_
  iterate 2 refine eA ?_
  refine de_nil (hK _ ?_)
  refine tc tbk 1 (.mk ?_)
  refine c_drawE [0, 1, 0, 0, 12, 28, 60, 127, 255, 511, 511, 1023, 4095] (rl [(0, [2]), (1, [2])] []) (fun i => [2]) (fun i => true) [0, 1, 2, 3, 4, 5, 6, 7, 8, 9, 10, 11, 12] mixed (by kernel_rfl) ?_; intro K hK
  refine eF fo60_2 ?_
  refine eL sh3 ?_
  iterate 2 refine eM ?_
  obtain ⟨x10, e10, h1⟩ := bind_e h1
  refine eP (fun H hH => yv_ixT rfl Tryz.underlying79 sh60 rfl rfl e10) ?_
  refine eP (fun H hH => yv_fieldAddr rfl fo60_2 rfl (.pp _) (.pp _ _)) ?_
  refine eP (fun H hH => yv_load rfl sh3 rfl (.pp _) rfl) ?_
  obtain ⟨x11, e11, h1⟩ := bind_e h1
  refine eP (fun H hH => yv_callP rfl rfl (.cons rfl (.cons rfl .nil)) cal55 (CvL.refl _) (d_ref01_Add_c e11)) ?_
  refine eM ?_
  iterate 2 refine eX ?_
  iterate 2 refine eA ?_
  refine de_nil (hK _ ?_)
  refine tc tbk 2 (.mk ?_)
  refine jn h1 [0, 2, 3, 4, 5, 6, 8, 10] [1, 2] (fun (a : Bool) (k : Unit) => [(60, boo a)]) (fun a k => []) ⟨fun j12 h2 => ?_, ?_⟩
  refine tc tbk 2 (.mk ?_)
  refine nb tbk h2 fun x13 h2 => ?_
  refine tr tbk 1 (.mk ?_)
  cases x13
  replace h2 := cf h2
  refine tr tbk 1 (.mk ?_)
  refine nb tbk h2 fun x14 h2 => ?_
  refine tr tbk 2 (.mk ?_)
  cases x14
  replace h2 := cf h2
  refine tr tbk 1 (.mk ?_)
  refine nb tbk h2 fun x15 h2 => ?_
  refine tr tbk 2 (.mk ?_)
  exact lf h2 () leA
  replace h2 := ct h2
  refine tr tbk 4 (.mk ?_)
  exact lf h2 () leA
  replace h2 := ct h2
  refine tr tbk 8 (.mk ?_)
  exact lf h2 () leA
  rintro y1_1 _ h1
  replace h1 := asrt_e h1
  obtain ⟨rfl, h1⟩ := h1
  refine tc tbk 7 (.mk ?_)
  refine sS ⟨60, 3, true, true, v3, [[int x7.1, int x9.1, int x11.1]]⟩ sh60 ?_
  refine tr tbk 4 (.mk ?_)
  refine ni tbk h1 fun x16 h1 => ?_
  refine tr tbk 2 (.mk ?_)
  exact bk (x16, (⟨x7.1, x9.1, x11.1⟩ : GLayer)) () h1 leA
  rintro y2_1 _ h0
  refine tc tbk 3 (.mk ?_)
  refine sS ⟨60, 3, true, true, v2, [[int y2_1.Qty, int y2_1.Value, int y2_1.Profit]]⟩ sh60 ?_
  refine tr tbk 2 (.mk ?_)
  obtain rfl := nxt_e h0
  refine wR hret (rC sh60 (rT .nil)) ?_
  exact .refl _
def d_ref09_Swing_L0 (a1 : List GLayer) : Nat → Int → Int → Option (Int)
  | 0, _, _ => none
  | n + 1, y0_1, y0_2 =>
    bnd (decide (y0_2 < (a1.length : Int))) fun x3 =>
    cond x3 ((ix a1 y0_2).bind fun x4 =>
    (ix a1 y0_2).bind fun x5 =>
    bnd (w64 (0 - x5.Profit)) fun x6 =>
    bnd (if x6 > x4.Profit then x6 else x4.Profit) fun x7 =>
    (d_ref01_Add y0_1 x7).bind fun x8 =>
    (show Option (Bool) from
    bnd (decide (x8.2 ≠ 0)) fun x10 =>
    cond x10 (some (true : Bool)) ((ix a1 y0_2).bind fun x11 =>
    bnd (decide (x11.Profit < (-288230376151711744))) fun x12 =>
    some (x12 : Bool))).bind <| fun y1_1 =>
    asrt (y1_1 = false) <|
    bnd (w64 (y0_2 + 1)) fun x13 =>
    d_ref09_Swing_L0 a1 n (x8.1 : Int) (x13 : Int)) (some (y0_1 : Int))
def d_ref09_Swing (n : Nat) (a1 : List GLayer) : Option (Int × Int) :=
(show Option (Int) from
d_ref09_Swing_L0 a1 n (0 : Int) (0 : Int)).bind <| fun y2_1 =>
some ((y2_1 : Int), (0 : Int))
theorem d_ref09_Swing_c {n : Nat} {a1 : List GLayer} {r : Int × Int} (h0 : d_ref09_Swing n a1 = some r) : PP Tryz.prog 96 [lst 3 GLayer.av a1] (fun y => y = .tup [int r.1, int r.2]) := by
  unfold d_ref09_Swing at h0
  refine pp_of_pc (R0 := fun y H => Cv (frzH H) y (.tup [int r.1, int r.2])) ?_ (fun y H hc => ⟨_, rfl, .tup (pvl2 (pvI (r.1)) (pvI (r.2))), hc⟩)
  refine pcw (c := _) Tryz.func96 rfl rfl ?_; intro Q hret hnorm
  refine tc tbk 14 (.mk ?_)
  refine jn h0 [2, 3] [] (fun (a : Int) (k : Unit) => [(4, int a)]) (fun a k => []) ⟨fun j2 h1 => ?_, ?_⟩
  refine tc tbk 1 (.mk ?_)
  refine lp (fun n (a : Int × Int) => d_ref09_Swing_L0 a1 n a.1 a.2) ((0 : Int), (0 : Int)) () h1 [0, 2, 3] [] (fun (a : Int × Int) (k : Unit) => [(4, int a.1), (5, int a.2)]) (fun a k => []) (fun _ => rfl) ⟨leA, ?_⟩
  rintro n ⟨y0_1, y0_2⟩ _ hm h1
  replace h1 : d_ref09_Swing_L0 a1 (n + 1) y0_1 y0_2 = some _ := h1
  rw [d_ref09_Swing_L0] at h1
  refine tc tbk 5 (.mk ?_)
  refine sY (yv_len_sl rfl Tryz.underlying79 rfl (lst_len _)) ?_
  refine nb tbk h1 fun x3 h1 => ?_
  refine tr tbk 1 (.mk ?_)
  cases x3
  replace h1 := cf h1
  refine tc tbk 2 (.mk ?_)
  exact lf h1 () leA
  replace h1 := ct h1
  refine tc tbk 5 (.mk ?_)
  refine c_drawE [0, 0, 0, 6, 14, 30, 0, 0, 192, 448, 960, 1984, 4094, 8191, 16383, 32767, 32767, 65535, 262143] (fun i => []) (fun i => []) (fun i => true) [0, 1, 2, 3, 4, 5, 6, 7, 8, 9, 10, 11, 12, 13, 14, 15, 16, 17, 18] mixed (by kernel_rfl) ?_; intro K hK
  iterate 3 refine eM ?_
  obtain ⟨x4, e4, h1⟩ := bind_e h1
  refine eP (fun H hH => yv_ixT rfl Tryz.underlying79 sh60 rfl rfl e4) ?_
  refine eP (fun H hH => yv_fieldAddr rfl fo60_2 rfl (.pp _) (.pp _ _)) ?_
  refine eP (fun H hH => yv_load rfl sh3 rfl (.pp _) rfl) ?_
  iterate 2 refine eM ?_
  obtain ⟨x5, e5, h1⟩ := bind_e h1
  refine eP (fun H hH => yv_ixT rfl Tryz.underlying79 sh60 rfl rfl e5) ?_
  refine eP (fun H hH => yv_fieldAddr rfl fo60_2 rfl (.pp _) (.pp _ _)) ?_
  refine eP (fun H hH => yv_load rfl sh3 rfl (.pp _) rfl) ?_
  obtain ⟨x6, e6, h1⟩ := bnd_e h1
  refine eP (fun H hH => yv_neg rfl rfl e6) ?_
  obtain ⟨x7, e7, h1⟩ := bnd_e h1
  refine eP (fun H hH => yv_max rfl rfl rfl e7) ?_
  obtain ⟨x8, e8, h1⟩ := bind_e h1
  refine eP (fun H hH => yv_callP rfl rfl (.cons rfl (.cons rfl .nil)) cal55 (CvL.refl _) (d_ref01_Add_c e8)) ?_
  refine eM ?_
  iterate 2 refine eX ?_
  iterate 2 refine eA ?_
  refine de_nil (hK _ ?_)
  refine tc tbk 2 (.mk ?_)
  refine jn h1 [0, 2, 3, 4, 5, 6] [] (fun (a : Bool) (k : Unit) => [(40, boo a)]) (fun a k => []) ⟨fun j9 h2 => ?_, ?_⟩
  refine tc tbk 2 (.mk ?_)
  refine nb tbk h2 fun x10 h2 => ?_
  refine tr tbk 1 (.mk ?_)
  cases x10
  replace h2 := cf h2
  refine tr tbk 2 (.mk ?_)
  obtain ⟨x11, e11, h2⟩ := bind_e h2
  refine sY (yv_ixT rfl Tryz.underlying79 sh60 rfl rfl e11) ?_
  refine tr tbk 2 (.mk ?_)
  refine nb tbk h2 fun x12 h2 => ?_
  refine tr tbk 2 (.mk ?_)
  exact lf h2 () leA
  replace h2 := ct h2
  refine tr tbk 8 (.mk ?_)
  exact lf h2 () leA
  rintro y1_1 _ h1
  replace h1 := asrt_e h1
  obtain ⟨rfl, h1⟩ := h1
  refine tc tbk 9 (.mk ?_)
  refine ni tbk h1 fun x13 h1 => ?_
  refine tr tbk 2 (.mk ?_)
  exact bk (x8.1, x13) () h1 leA
  rintro y2_1 _ h0
  refine tc tbk 6 (.mk ?_)
  obtain rfl := nxt_e h0
  refine wR hret (rT (rT .nil)) ?_
  exact .refl _
def d_ref09_Right_L0 (a1 : List GLayer) : Nat → Int → Option (Unit)
  | 0, _ => none
  | n + 1, y0_1 =>
    bnd (decide (y0_1 < (a1.length : Int))) fun x3 =>
    cond x3 ((ix a1 y0_1).bind fun x4 =>
    (show Option (Bool) from
    bnd (decide (x4.Qty < 1)) fun x7 =>
    cond x7 (some (true : Bool)) (bnd (decide (x4.Qty > 288230376151711744)) fun x8 =>
    cond x8 (some (true : Bool)) (bnd (decide (x4.Value < 0)) fun x9 =>
    cond x9 (some (true : Bool)) (bnd (decide (x4.Value > 288230376151711744)) fun x10 =>
    cond x10 (some (true : Bool)) ((d_ref01_In x4.Profit).bind fun x11 =>
    bnd (!x11) fun x12 =>
    some (x12 : Bool)))))).bind <| fun y1_1 =>
    asrt (y1_1 = false) <|
    bnd (w64 (y0_1 + 1)) fun x13 =>
    d_ref09_Right_L0 a1 n (x13 : Int)) (some ())
def d_ref09_Right (n : Nat) (a1 : List GLayer) : Option (Bool) :=
(show Option (Unit) from
d_ref09_Right_L0 a1 n (0 : Int)).bind <| fun _ =>
(d_ref09_Total n a1).bind fun x14 =>
(d_ref09_Swing n a1).bind fun x16 =>
(show Option (Bool) from
bnd (decide ((a1.length : Int) ≤ 30)) fun x18 =>
cond x18 (bnd (decide (x14.2 = 0)) fun x19 =>
cond x19 (bnd (decide (x16.2 = 0)) fun x20 =>
some (x20 : Bool)) (some (false : Bool))) (some (false : Bool))).bind <| fun y3_1 =>
some ((y3_1 : Bool))
theorem d_ref09_Right_c {n : Nat} {a1 : List GLayer} {r : Bool} (h0 : d_ref09_Right n a1 = some r) : PP Tryz.prog 128 [lst 3 GLayer.av a1] (fun y => y = boo r) := by
  unfold d_ref09_Right at h0
  refine pp_of_pc (R0 := fun y H => Cv (frzH H) y (boo r)) ?_ (fun y H hc => ⟨_, rfl, pvB r, hc⟩)
  refine pcw (c := _) Tryz.func128 rfl rfl ?_; intro Q hret hnorm
  refine tc tbk 9 (.mk ?_)
  refine jn h0 [0, 2] [] (fun (a : Unit) (k : Unit) => []) (fun a k => []) ⟨fun j2 h1 => ?_, ?_⟩
  refine tc tbk 1 (.mk ?_)
  refine lp (fun n (a : Int) => d_ref09_Right_L0 a1 n a) (0 : Int) () h1 [0, 2] [] (fun (a : Int) (k : Unit) => [(3, int a)]) (fun a k => []) (fun _ => rfl) ⟨leA, ?_⟩
  rintro n y0_1 _ hm h1
  replace h1 : d_ref09_Right_L0 a1 (n + 1) y0_1 = some _ := h1
  rw [d_ref09_Right_L0] at h1
  refine tc tbk 5 (.mk ?_)
  refine sY (yv_len_sl rfl Tryz.underlying79 rfl (lst_len _)) ?_
  refine nb tbk h1 fun x3 h1 => ?_
  refine tr tbk 1 (.mk ?_)
  cases x3
  replace h1 := cf h1
  refine tc tbk 2 (.mk ?_)
  exact lf h1 () leA
  replace h1 := ct h1
  refine tc tbk 8 (.mk ?_)
  obtain ⟨x4, e4, h1⟩ := bind_e h1
  refine sY (yv_ixT rfl Tryz.underlying79 sh60 rfl rfl e4) ?_
  refine tr tbk 1 (.mk ?_)
  refine sA 1 z60 fun v5 => ?_
  refine sS ⟨60, 3, true, true, v5, [[int x4.Qty, int x4.Value, int x4.Profit]]⟩ sh60 ?_
  refine tr tbk 2 (.mk ?_)
  refine jn h1 [0, 2, 3] [] (fun (a : Bool) (k : Unit) => [(42, boo a)]) (fun a k => []) ⟨fun j6 h2 => ?_, ?_⟩
  refine tc tbk 3 (.mk ?_)
  refine nb tbk h2 fun x7 h2 => ?_
  refine tr tbk 1 (.mk ?_)
  cases x7
  replace h2 := cf h2
  refine tr tbk 2 (.mk ?_)
  refine nb tbk h2 fun x8 h2 => ?_
  refine tr tbk 2 (.mk ?_)
  cases x8
  replace h2 := cf h2
  refine tr tbk 2 (.mk ?_)
  refine nb tbk h2 fun x9 h2 => ?_
  refine tr tbk 2 (.mk ?_)
  cases x9
  replace h2 := cf h2
  refine tr tbk 2 (.mk ?_)
  refine nb tbk h2 fun x10 h2 => ?_
  refine tr tbk 2 (.mk ?_)
  cases x10
  replace h2 := cf h2
  refine tr tbk 2 (.mk ?_)
  obtain ⟨x11, e11, h2⟩ := bind_e h2
  refine sC cal91 (d_ref01_In_c e11) ?_
  refine nb tbk h2 fun x12 h2 => ?_
  refine tr tbk 2 (.mk ?_)
  exact lf h2 () leA
  replace h2 := ct h2
  refine tr tbk 6 (.mk ?_)
  exact lf h2 () leA
  replace h2 := ct h2
  refine tr tbk 11 (.mk ?_)
  exact lf h2 () leA
  replace h2 := ct h2
  refine tr tbk 16 (.mk ?_)
  exact lf h2 () leA
  replace h2 := ct h2
  refine tr tbk 21 (.mk ?_)
  exact lf h2 () leA
  rintro y1_1 _ h1
  replace h1 := asrt_e h1
  obtain ⟨rfl, h1⟩ := h1
  refine tc tbk 5 (.mk ?_)
  refine ni tbk h1 fun x13 h1 => ?_
  refine tr tbk 2 (.mk ?_)
  exact bk x13 () h1 leA
  rintro _ _ h0
  refine tc tbk 3 (.mk ?_)
  obtain ⟨x14, e14, h0⟩ := bind_e h0
  refine sC cal115 (d_ref09_Total_c e14) ?_
  refine tr tbk 3 (.mk ?_)
  refine sA 2 z60 fun v15 => ?_
  refine sS ⟨60, 3, true, true, v15, [[int x14.1.Qty, int x14.1.Value, int x14.1.Profit]]⟩ sh60 ?_
  refine tr tbk 5 (.mk ?_)
  obtain ⟨x16, e16, h0⟩ := bind_e h0
  refine sC cal96 (d_ref09_Swing_c e16) ?_
  refine tr tbk 7 (.mk ?_)
  refine jn h0 [] [] (fun (a : Bool) (k : Unit) => [(2, boo a)]) (fun a k => []) ⟨fun j17 h1 => ?_, ?_⟩
  refine tc tbk 2 (.mk ?_)
  refine sY (yv_len_sl rfl Tryz.underlying79 rfl (lst_len _)) ?_
  refine nb tbk h1 fun x18 h1 => ?_
  refine tr tbk 1 (.mk ?_)
  cases x18
  replace h1 := cf h1
  refine tr tbk 9 (.mk ?_)
  exact lf h1 () leA
  replace h1 := ct h1
  refine tr tbk 1 (.mk ?_)
  refine nb tbk h1 fun x19 h1 => ?_
  refine tr tbk 2 (.mk ?_)
  cases x19
  replace h1 := cf h1
  refine tr tbk 5 (.mk ?_)
  exact lf h1 () leA
  replace h1 := ct h1
  refine tr tbk 1 (.mk ?_)
  refine nb tbk h1 fun x20 h1 => ?_
  refine tr tbk 3 (.mk ?_)
  exact lf h1 () leA
  rintro y3_1 _ h0
  obtain rfl := nxt_e h0
  refine wR hret (rT .nil) ?_
  exact .refl _
def d_ref10_In (n : Nat) (a1 : List GLayer) (a2 : GLayer) : Option ((List GLayer) × Int) :=
(show Option (Bool) from
bnd (decide (a2.Qty < 1)) fun x5 =>
cond x5 (some (true : Bool)) (bnd (decide (a2.Value < 0)) fun x6 =>
some (x6 : Bool))).bind <| fun y0_1 =>
asrt (y0_1 = false) <|
asrt (a1.length ≤ 68719476736) <|
bnd (a1 ++ ([a2] : List GLayer)) fun x9 =>
asrt (x9.length ≤ 68719476736) <|
(d_ref09_Right n x9).bind fun x12 =>
bnd (!x12) fun x13 =>
asrt (x13 = false) <|
(d_ref09_Total n x9).bind fun x14 =>
some ((([x14.1] : List GLayer) : List GLayer), (0 : Int))
theorem d_ref10_In_c {n : Nat} {a1 : List GLayer} {a2 : GLayer} {r : (List GLayer) × Int} (h0 : d_ref10_In n a1 a2 = some r) : PP Tryz.prog 117 [lst 3 GLayer.av a1, .agg (GLayer.av a2)] (fun y => y = .tup [lst 3 GLayer.av r.1, int r.2]) := by
  unfold d_ref10_In at h0
  refine pp_of_pc (R0 := fun y H => Cv (frzH H) y (.tup [lst 3 GLayer.av r.1, int r.2])) ?_ (fun y H hc => ⟨_, rfl, .tup (pvl2 ((pvLs GLayer.pvc) (r.1)) (pvI (r.2))), hc⟩)
  refine pcw (c := _) Tryz.func117 rfl rfl ?_; intro Q hret hnorm
  refine tc tbk 2 (.mk ?_)
  refine sB 1 fun v3 => ?_
  refine tr tbk 5 (.mk ?_)
  refine jn h0 [0, 3, 4, 5] [1] (fun (a : Bool) (k : Unit) => [(16, boo a)]) (fun a k => []) ⟨fun j4 h1 => ?_, ?_⟩
  refine tc tbk 3 (.mk ?_)
  refine nb tbk h1 fun x5 h1 => ?_
  refine tr tbk 1 (.mk ?_)
  cases x5
  replace h1 := cf h1
  refine tr tbk 2 (.mk ?_)
  refine nb tbk h1 fun x6 h1 => ?_
  refine tr tbk 2 (.mk ?_)
  exact lf h1 () leA
  replace h1 := ct h1
  refine tr tbk 5 (.mk ?_)
  exact lf h1 () leA
  rintro y0_1 _ h0
  replace h0 := asrt_e h0
  obtain ⟨rfl, h0⟩ := h0
  refine tc tbk 3 (.mk ?_)
  refine c_drawE [0, 1, 0, 4, 15, 31] (rl [(2, [1])] []) (rl [(4, [])] [1]) (rl [(1, false), (4, false)] true) [0, 2, 3, 1, 4, 5] mixed (by kernel_rfl) ?_; intro K hK
  refine eM ?_
  refine eL sh60 ?_
  refine eP (fun H hH => yv_to (y := lst 3 GLayer.av ([a2] : List GLayer)) (yv_buildSlice (ps := [(0, _)]) (rows := [[int a2.Qty, int a2.Value, int a2.Profit]]) rfl Tryz.underlying79 bz60 (.cons rfl .nil) (by kernel_rfl) rfl rfl rfl) rfl) ?_
  obtain ⟨p7, h0⟩ := asrt_e h0
  refine de_eff rfl rfl rfl rfl (yl_app0T (g := GLayer.av) (m := a1) 2 rfl Tryz.underlying79 bz60 by60 rfl rfl rfl rfl (.refl _) (fun _ => rfl) p7) (by rintro _ _ ⟨v8, rfl, rfl⟩; exact ⟨rfl, trivial⟩) ?_; rintro _ _ ⟨v8, rfl, rfl⟩
  obtain ⟨x9, e9, h0⟩ := bnd_e h0
  obtain ⟨p10, h0⟩ := asrt_e h0
  refine de_eff rfl rfl rfl rfl (yl_appT (g := GLayer.av) (l := a1) (m := ([a2] : List GLayer)) .any rfl Tryz.underlying79 bz60 by60 rfl rfl rfl rfl rfl rfl rfl rfl rfl rfl (Eq.symm rfl) (.refl _) (fun _ => rfl) e9 p10) (by rintro _ _ ⟨v11, -, rfl, rfl⟩; exact trivial) ?_; rintro _ _ ⟨v11, -, rfl, rfl⟩
  refine eA ?_
  refine de_nil (hK _ ?_)
  refine tc tbk 4 (.mk ?_)
  obtain ⟨x12, e12, h0⟩ := bind_e h0
  refine sY (yv_callT (v := boo x12) rfl rfl (.cons rfl .nil) cal128 (.cons (cv_lst rfl rfl rfl rfl rfl (Eq.symm rfl)) .nil) (d_ref09_Right_c e12) rfl) ?_
  refine nb tbk h0 fun x13 h0 => ?_
  refine tr tbk 1 (.mk ?_)
  replace h0 := asrt_e h0
  obtain ⟨rfl, h0⟩ := h0
  refine tc tbk 5 (.mk ?_)
  obtain ⟨x14, e14, h0⟩ := bind_e h0
  refine sY (yv_callT (v := .tup [.agg [int x14.1.Qty, int x14.1.Value, int x14.1.Profit], int x14.2]) rfl rfl (.cons rfl .nil) cal115 (.cons (cv_lst rfl rfl rfl rfl rfl (Eq.symm rfl)) .nil) (d_ref09_Total_c e14) rfl) ?_
  refine tr tbk 3 (.mk ?_)
  refine sA 3 z60 fun v15 => ?_
  refine sS ⟨60, 3, true, true, v15, [[int x14.1.Qty, int x14.1.Value, int x14.1.Profit]]⟩ sh60 ?_
  refine tr tbk 5 (.mk ?_)
  refine sY (yv_to (y := lst 3 GLayer.av ([x14.1] : List GLayer)) (yv_buildSlice (ps := [(0, _)]) (rows := [[int x14.1.Qty, int x14.1.Value, int x14.1.Profit]]) rfl Tryz.underlying79 bz60 (.cons rfl .nil) (by kernel_rfl) rfl rfl rfl) rfl) ?_
  refine tr tbk 3 (.mk ?_)
  obtain rfl := nxt_e h0
  refine wR hret (rT (rT .nil)) ?_
  exact .refl _
def d_ref09_In (n : Nat) (a1 : List GLayer) (a2 : GLayer) : Option ((List GLayer) × Int) :=
asrt (a1.length ≤ 68719476736) <|
bnd (a1 ++ ([a2] : List GLayer)) fun x6 =>
asrt (x6.length ≤ 68719476736) <|
(show Option (Bool) from
bnd (decide (a2.Qty < 1)) fun x10 =>
cond x10 (some (true : Bool)) (bnd (decide (a2.Value < 0)) fun x11 =>
some (x11 : Bool))).bind <| fun y0_1 =>
asrt (y0_1 = false) <|
bnd (decide ((a1.length : Int) ≥ 30)) fun x12 =>
asrt (x12 = false) <|
(d_ref09_Right n x6).bind fun x13 =>
bnd (!x13) fun x14 =>
asrt (x14 = false) <|
some ((x6 : List GLayer), (0 : Int))
theorem d_ref09_In_c {n : Nat} {a1 : List GLayer} {a2 : GLayer} {r : (List GLayer) × Int} (h0 : d_ref09_In n a1 a2 = some r) : PP Tryz.prog 116 [lst 3 GLayer.av a1, .agg (GLayer.av a2)] (fun y => y = .tup [lst 3 GLayer.av r.1, int r.2]) := by
  unfold d_ref09_In at h0
  refine pp_of_pc (R0 := fun y H => Cv (frzH H) y (.tup [lst 3 GLayer.av r.1, int r.2])) ?_ (fun y H hc => ⟨_, rfl, .tup (pvl2 ((pvLs GLayer.pvc) (r.1)) (pvI (r.2))), hc⟩)
  refine pcw (c := _) Tryz.func116 rfl rfl ?_; intro Q hret hnorm
  refine tc tbk 2 (.mk ?_)
  refine sB 1 fun v3 => ?_
  refine tr tbk 4 (.mk ?_)
  refine c_drawE [0, 1, 0, 4, 15, 31] (rl [(2, [1])] []) (rl [(4, [])] [1]) (rl [(1, false), (4, false)] true) [0, 2, 3, 1, 4, 5] mixed (by kernel_rfl) ?_; intro K hK
  refine eM ?_
  refine eL sh60 ?_
  refine eP (fun H hH => yv_to (y := lst 3 GLayer.av ([a2] : List GLayer)) (yv_buildSlice (ps := [(0, _)]) (rows := [[int a2.Qty, int a2.Value, int a2.Profit]]) rfl Tryz.underlying79 bz60 (.cons rfl .nil) (by kernel_rfl) rfl rfl rfl) rfl) ?_
  obtain ⟨p4, h0⟩ := asrt_e h0
  refine de_eff rfl rfl rfl rfl (yl_app0T (g := GLayer.av) (m := a1) 2 rfl Tryz.underlying79 bz60 by60 rfl rfl rfl rfl (.refl _) (fun _ => rfl) p4) (by rintro _ _ ⟨v5, rfl, rfl⟩; exact ⟨rfl, trivial⟩) ?_; rintro _ _ ⟨v5, rfl, rfl⟩
  obtain ⟨x6, e6, h0⟩ := bnd_e h0
  obtain ⟨p7, h0⟩ := asrt_e h0
  refine de_eff rfl rfl rfl rfl (yl_appT (g := GLayer.av) (l := a1) (m := ([a2] : List GLayer)) .any rfl Tryz.underlying79 bz60 by60 rfl rfl rfl rfl rfl rfl rfl rfl rfl rfl (Eq.symm rfl) (.refl _) (fun _ => rfl) e6 p7) (by rintro _ _ ⟨v8, -, rfl, rfl⟩; exact trivial) ?_; rintro _ _ ⟨v8, -, rfl, rfl⟩
  refine eA ?_
  refine de_nil (hK _ ?_)
  refine tc tbk 3 (.mk ?_)
  refine jn h0 [0, 4, 5, 6] [2] (fun (a : Bool) (k : Unit) => [(12, boo a)]) (fun a k => []) ⟨fun j9 h1 => ?_, ?_⟩
  refine tc tbk 3 (.mk ?_)
  refine nb tbk h1 fun x10 h1 => ?_
  refine tr tbk 1 (.mk ?_)
  cases x10
  replace h1 := cf h1
  refine tr tbk 2 (.mk ?_)
  refine nb tbk h1 fun x11 h1 => ?_
  refine tr tbk 3 (.mk ?_)
  exact lf h1 () leA
  replace h1 := ct h1
  refine tr tbk 6 (.mk ?_)
  exact lf h1 () leA
  rintro y0_1 _ h0
  replace h0 := asrt_e h0
  obtain ⟨rfl, h0⟩ := h0
  refine tc tbk 4 (.mk ?_)
  refine sY (yv_len_sl rfl Tryz.underlying79 rfl (lst_len _)) ?_
  refine nb tbk h0 fun x12 h0 => ?_
  refine tr tbk 2 (.mk ?_)
  replace h0 := asrt_e h0
  obtain ⟨rfl, h0⟩ := h0
  refine tc tbk 4 (.mk ?_)
  obtain ⟨x13, e13, h0⟩ := bind_e h0
  refine sY (yv_callT (v := boo x13) rfl rfl (.cons rfl .nil) cal128 (.cons (cv_lst rfl rfl rfl rfl rfl (Eq.symm rfl)) .nil) (d_ref09_Right_c e13) rfl) ?_
  refine nb tbk h0 fun x14 h0 => ?_
  refine tr tbk 2 (.mk ?_)
  replace h0 := asrt_e h0
  obtain ⟨rfl, h0⟩ := h0
  refine tc tbk 9 (.mk ?_)
  obtain rfl := nxt_e h0
  refine wR hret (rT (rT .nil)) ?_
  exact CvL.tup (.cons (cv_lst rfl rfl rfl rfl rfl (Eq.symm rfl)) (.cons (.refl _) .nil))
def d_ref13_In (n : Nat) (a1 : Int) (a2 : Int) (a3 : GPool) (a4 : GLayer) : Option (GPool × Int × Int) :=
(show Option (Int × GPool) from
bnd (decide (a1 = 1)) fun x10 =>
cond x10 ((d_ref09_In n a3.Layers a4).bind fun x15 =>
some ((x15.2 : Int), ((⟨x15.1, a3.Pend⟩ : GPool) : GPool))) (bnd (decide (a1 = 2)) fun x11 =>
cond x11 ((d_ref10_In n a3.Layers a4).bind fun x14 =>
some ((x14.2 : Int), ((⟨x14.1, a3.Pend⟩ : GPool) : GPool))) (bnd (decide (a1 = 3)) fun x12 =>
asrt (x12 = false) <|
bnd (decide (a1 = 4)) fun x13 =>
asrt (x13 = false) <|
some ((12 : Int), (a3 : GPool))))).bind <| p2 fun (y0_1 : Int) (y0_2 : GPool) =>
bnd (decide (y0_1 ≠ 0)) fun x16 =>
asrt (x16 = false) <|
some ((y0_2 : GPool), (0 : Int), (0 : Int))
theorem d_ref13_In_c {n : Nat} {a1 : Int} {a2 : Int} {a3 : GPool} {a4 : GLayer} {r : GPool × Int × Int} (h0 : d_ref13_In n a1 a2 a3 a4 = some r) : PP Tryz.prog 94 [int a1, int a2, .agg (GPool.av a3), .agg (GLayer.av a4)] (fun y => y = .tup [.agg (GPool.av r.1), int r.2.1, int r.2.2]) := by
  unfold d_ref13_In at h0
  refine pp_of_pc (R0 := fun y H => Cv (frzH H) y (.tup [.agg (GPool.av r.1), int r.2.1, int r.2.2])) ?_ (fun y H hc => ⟨_, rfl, .tup (pvl3 ((fun (a : GPool) => PV.agg (GPool.pvc a)) (r.1)) (pvI (r.2.1)) (pvI (r.2.2))), hc⟩)
  refine pcw (c := _) Tryz.func94 rfl rfl ?_; intro Q hret hnorm
  refine tc tbk 2 (.mk ?_)
  refine sB 1 fun v5 => ?_
  refine sB 2 fun v6 => ?_
  refine sA 3 z82 fun v7 => ?_
  refine tr tbk 6 (.mk ?_)
  refine sA 4 z82 fun v8 => ?_
  refine sS ⟨82, 4, true, true, v8, [[lst 3 GLayer.av a3.Layers, int a3.Pend.a0, int a3.Pend.a1, int a3.Pend.a2]]⟩ sh82 ?_
  refine tr tbk 11 (.mk ?_)
  refine jn h0 [6, 8, 9, 10, 11, 12] [1, 3] (fun (a : Int × GPool) (k : Unit) => [(13, int a.1)]) (fun a k => [(4, ⟨82, 4, true, true, v8, [[lst 3 GLayer.av a.2.Layers, int a.2.Pend.a0, int a.2.Pend.a1, int a.2.Pend.a2]]⟩)]) ⟨fun j9 h1 => ?_, ?_⟩
  refine tc tbk 3 (.mk ?_)
  refine nb tbk h1 fun x10 h1 => ?_
  refine tr tbk 2 (.mk ?_)
  cases x10
  replace h1 := cf h1
  refine tc tbk 3 (.mk ?_)
  refine nb tbk h1 fun x11 h1 => ?_
  refine tr tbk 2 (.mk ?_)
  cases x11
  replace h1 := cf h1
  refine tc tbk 3 (.mk ?_)
  refine nb tbk h1 fun x12 h1 => ?_
  refine tr tbk 2 (.mk ?_)
  replace h1 := asrt_e h1
  obtain ⟨rfl, h1⟩ := h1
  refine tc tbk 3 (.mk ?_)
  refine nb tbk h1 fun x13 h1 => ?_
  refine tr tbk 2 (.mk ?_)
  replace h1 := asrt_e h1
  obtain ⟨rfl, h1⟩ := h1
  refine tc tbk 3 (.mk ?_)
  exact lf h1 () leA
  replace h1 := ct h1
  refine tc tbk 5 (.mk ?_)
  obtain ⟨x14, e14, h1⟩ := bind_e h1
  refine sC cal117 (d_ref10_In_c e14) ?_
  refine tr tbk 4 (.mk ?_)
  refine sS ⟨82, 4, true, true, v8, [[lst 3 GLayer.av x14.1, int a3.Pend.a0, int a3.Pend.a1, int a3.Pend.a2]]⟩ sh79 ?_
  refine tr tbk 3 (.mk ?_)
  exact lf h1 () leA
  replace h1 := ct h1
  refine tc tbk 5 (.mk ?_)
  obtain ⟨x15, e15, h1⟩ := bind_e h1
  refine sC cal116 (d_ref09_In_c e15) ?_
  refine tr tbk 4 (.mk ?_)
  refine sS ⟨82, 4, true, true, v8, [[lst 3 GLayer.av x15.1, int a3.Pend.a0, int a3.Pend.a1, int a3.Pend.a2]]⟩ sh79 ?_
  refine tr tbk 3 (.mk ?_)
  exact lf h1 () leA
  rintro ⟨y0_1, y0_2⟩ _ h0
  replace h0 := p2_e h0
  refine tc tbk 4 (.mk ?_)
  refine nb tbk h0 fun x16 h0 => ?_
  refine tr tbk 1 (.mk ?_)
  replace h0 := asrt_e h0
  obtain ⟨rfl, h0⟩ := h0
  refine tc tbk 6 (.mk ?_)
  refine sS ⟨82, 4, true, true, v7, [[lst 3 GLayer.av y0_2.Layers, int y0_2.Pend.a0, int y0_2.Pend.a1, int y0_2.Pend.a2]]⟩ sh82 ?_
  refine tr tbk 3 (.mk ?_)
  obtain rfl := nxt_e h0
  refine wR hret (rC sh82 (rT (rT .nil))) ?_
  exact .refl _
def d_ref14_Put (a1 : GState) (a2 : Int) (a3 : Int) (a4 : Int) (a5 : GPool) : Option (GState) :=
(show Option ((Int × Bool × (List GEnt) × (List GPool) × (List Int) × (List GRoll) × (List Int) × (List Int))) from
asrt (a1.Ents.length ≤ 68719476736) <|
(ix a1.Ents a2).bind fun x14 =>
asrt (x14.Pools.length ≤ 68719476736) <|
asrt (x14.Bal.length ≤ 68719476736) <|
asrt (x14.Rolls.length ≤ 68719476736) <|
asrt (x14.Prices.length ≤ 68719476736) <|
asrt (x14.Down.length ≤ 68719476736) <|
some ((x14.Now : Int), (x14.Closed : Bool), (x14.Ahead : List GEnt), (x14.Pools : List GPool), (x14.Bal : List Int), (x14.Rolls : List GRoll), (x14.Prices : List Int), (x14.Down : List Int))).bind <| p2 fun (y0_2 : Int) (q0 : Bool × (List GEnt) × (List GPool) × (List Int) × (List GRoll) × (List Int) × (List Int)) => (p2 fun (y0_3 : Bool) (q1 : (List GEnt) × (List GPool) × (List Int) × (List GRoll) × (List Int) × (List Int)) => (p2 fun (y0_9 : List GEnt) (q2 : (List GPool) × (List Int) × (List GRoll) × (List Int) × (List Int)) => (p2 fun (y0_10 : List GPool) (q3 : (List Int) × (List GRoll) × (List Int) × (List Int)) => (p2 fun (y0_11 : List Int) (q4 : (List GRoll) × (List Int) × (List Int)) => (p2 fun (y0_12 : List GRoll) (q5 : (List Int) × (List Int)) => (p2 fun (y0_13 : List Int) (y0_14 : List Int) =>
(ix a1.Ents a2).bind fun x25 =>
bnd (w64 (a3 * 2)) fun x27 =>
bnd (w64 (x27 + a4)) fun x28 =>
(ix y0_10 x28).bind fun x29 =>
bnd (y0_10.set (Int.toNat x28) (a5 : GPool)) fun x30 =>
some (((⟨a1.Master, (a1.Ents.set (Int.toNat a2) (⟨y0_2, y0_3, x30, y0_11, y0_12, y0_13, y0_14, y0_9⟩ : GEnt)), a1.Receipts, [], a1.Transits, a1.Done⟩ : GState) : GState))) q5) q4) q3) q2) q1) q0
theorem d_ref14_Put_c {a1 : GState} {a2 : Int} {a3 : Int} {a4 : Int} {a5 : GPool} {r : GState} (h0 : d_ref14_Put a1 a2 a3 a4 a5 = some r) : PP Tryz.prog 95 [.agg (GState.avN a1), int a2, int a3, int a4, .agg (GPool.av a5)] (fun y => y = .agg (GState.avN r)) := by
  unfold d_ref14_Put at h0
  refine pp_of_pc (R0 := fun y H => Cv (frzH H) y (.agg (GState.avN r))) ?_ (fun y H hc => ⟨_, rfl, (fun (a : GState) => PV.agg (GState.pvcN a)) r, hc⟩)
  refine pcw (c := _) Tryz.func95 rfl rfl ?_; intro Q hret hnorm
  refine tc tbk 2 (.mk ?_)
  refine sB 1 fun v6 => ?_
  refine sB 2 fun v7 => ?_
  refine sA 3 z32 fun v8 => ?_
  refine tr tbk 5 (.mk ?_)
  obtain ⟨j9, h1, h0⟩ := bind_e h0
  refine rse (Out := fun y H' => (∃ (a : Int × Bool × (List GEnt) × (List GPool) × (List Int) × (List GRoll) × (List Int) × (List Int)) (k : Nat × Nat × Nat × Nat × Nat × Nat), a = j9 ∧ y = .agg [int a1.Master.Entities, int a1.Master.Periods, lst 1 fI a1.Master.Weights, lst 1 (fL 1 fI) a1.Master.Methods, lst 1 (fL 1 fI) a1.Master.Costs, .sl 6 k.1 0 a1.Ents.length, lst 8 GReceipt.av a1.Receipts, .sc (.slice none 0 0), lst 6 GTransit.av a1.Transits, int a1.Done] ∧ H' = hk [(1, ⟨32, 10, true, true, v6, [[int a1.Master.Entities, int a1.Master.Periods, lst 1 fI a1.Master.Weights, lst 1 (fL 1 fI) a1.Master.Methods, lst 1 (fL 1 fI) a1.Master.Costs, lst 8 GEnt.av a1.Ents, lst 8 GReceipt.av a1.Receipts, .sc (.slice none 0 0), lst 6 GTransit.av a1.Transits, int a1.Done]]⟩), (2, ⟨82, 4, true, true, v7, [[lst 3 GLayer.av a5.Layers, int a5.Pend.a0, int a5.Pend.a1, int a5.Pend.a2]]⟩), (3, ⟨32, 10, true, true, v8, [[int 0, int 0, .sc (.slice none 0 0), .sc (.slice none 0 0), .sc (.slice none 0 0), .sc (.slice none 0 0), .sc (.slice none 0 0), .sc (.slice none 0 0), .sc (.slice none 0 0), int 0]]⟩), (6, ⟨40, 8, true, true, k.1, (a1.Ents.map GEnt.av).set (Int.toNat a2) [int a.1, boo a.2.1, .sl 7 k.2.1 0 a.2.2.2.1.length, .sl 8 k.2.2.1 0 a.2.2.2.2.1.length, .sl 9 k.2.2.2.1 0 a.2.2.2.2.2.1.length, .sl 10 k.2.2.2.2.1 0 a.2.2.2.2.2.2.1.length, .sl 11 k.2.2.2.2.2 0 a.2.2.2.2.2.2.2.length, lst 8 GEnt.av a.2.2.1]⟩), (7, ⟨82, 4, true, true, k.2.1, a.2.2.2.1.map GPool.av⟩), (8, ⟨3, 1, true, true, k.2.2.1, a.2.2.2.2.1.map fI⟩), (9, ⟨67, 11, true, true, k.2.2.2.1, a.2.2.2.2.2.1.map GRoll.av⟩), (10, ⟨3, 1, true, true, k.2.2.2.2.1, a.2.2.2.2.2.2.1.map fI⟩), (11, ⟨3, 1, true, true, k.2.2.2.2.2, a.2.2.2.2.2.2.2.map fI⟩)])) rfl rfl rfl (yl_call rfl rfl (.cons rfl (.cons rfl .nil)) cal99 ?_) ?_
  refine pcw (c := _) Tryz.func99 rfl rfl ?_; intro Q hret hnorm
  refine tc tbk 2 (.mk ?_)
  refine sB 4 fun v10 => ?_
  refine sA 5 z32 fun v11 => ?_
  refine tr tbk 5 (.mk ?_)
  obtain ⟨p12, h1⟩ := asrt_e h1
  refine rse rfl rfl rfl (yl_app0T (g := GEnt.av) (m := a1.Ents) 6 rfl Tryz.underlying27 bz40 by40 rfl rfl rfl rfl (.refl _) GEnt.one p12) ?_; rintro _ _ ⟨v13, rfl, rfl⟩
  refine tr tbk 1 (.mk ?_)
  refine sS ⟨32, 10, true, true, v10, [[int a1.Master.Entities, int a1.Master.Periods, lst 1 fI a1.Master.Weights, lst 1 (fL 1 fI) a1.Master.Methods, lst 1 (fL 1 fI) a1.Master.Costs, .sl 6 v13 0 a1.Ents.length, lst 8 GReceipt.av a1.Receipts, .sc (.slice none 0 0), lst 6 GTransit.av a1.Transits, int a1.Done]]⟩ sh27 ?_
  refine tr tbk 6 (.mk ?_)
  obtain ⟨x14, e14, h1⟩ := bind_e h1
  refine sY (yv_ixO rfl Tryz.underlying27 sh40 rfl rfl rfl rfl rfl (Eq.symm rfl) (List.length_map _) e14) ?_
  refine tr tbk 3 (.mk ?_)
  refine c_drawE [0, 0, 0, 0, 8, 24, 56, 120, 0, 256, 768, 1792, 4088, 0, 8192, 24576, 57344, 131064, 262137, 524281, 1048569, 2097147, 4194299, 8388603, 16777215, 33554431, 67108863] (rl [(4, [6]), (5, [6]), (6, [6]), (9, [6]), (10, [6]), (11, [6]), (14, [6]), (15, [6]), (16, [6]), (18, [6]), (19, [6]), (21, [6]), (22, [6]), (24, [6]), (25, [6])] []) (rl [(17, []), (20, []), (23, []), (26, [])] [6]) (rl [(7, false), (12, false), (17, false), (20, false), (23, false), (26, false)] true) [0, 1, 2, 3, 4, 5, 6, 8, 9, 10, 11, 13, 14, 15, 16, 7, 12, 17, 18, 19, 20, 21, 22, 23, 24, 25, 26] mixed (by kernel_rfl) ?_; intro K hK
  iterate 4 refine eM ?_
  refine eN (hr := ix_get' e14 (GEnt.av_eq _)) ?_
  refine eF fo40_2 (hr := ix_get' e14 (GEnt.av_eq _)) ?_
  refine eL sh37 (hr := ix_get' e14 (GEnt.av_eq _)) ?_
  refine eM ?_
  refine eN (hr := ix_get' e14 (GEnt.av_eq _)) ?_
  refine eF fo40_3 (hr := ix_get' e14 (GEnt.av_eq _)) ?_
  refine eL sh23 (hr := ix_get' e14 (GEnt.av_eq _)) ?_
  refine eM ?_
  refine eN (hr := ix_get' e14 (GEnt.av_eq _)) ?_
  refine eF fo40_4 (hr := ix_get' e14 (GEnt.av_eq _)) ?_
  refine eL sh38 (hr := ix_get' e14 (GEnt.av_eq _)) ?_
  obtain ⟨p15, h1⟩ := asrt_e h1
  refine de_eff rfl rfl rfl rfl (yl_app0T (g := GPool.av) (m := x14.Pools) 7 rfl Tryz.underlying37 bz82 by82 rfl rfl rfl rfl (.refl _) (fun _ => rfl) p15) (by rintro _ _ ⟨v16, rfl, rfl⟩; exact ⟨rfl, trivial⟩) ?_; rintro _ _ ⟨v16, rfl, rfl⟩
  obtain ⟨p17, h1⟩ := asrt_e h1
  refine de_eff rfl rfl rfl rfl (yl_app0T (g := fI) (m := x14.Bal) 8 rfl Tryz.underlying23 bz3 by3 rfl rfl rfl rfl (.refl _) (fun _ => rfl) p17) (by rintro _ _ ⟨v18, rfl, rfl⟩; exact ⟨rfl, trivial⟩) ?_; rintro _ _ ⟨v18, rfl, rfl⟩
  obtain ⟨p19, h1⟩ := asrt_e h1
  refine de_eff rfl rfl rfl rfl (yl_app0T (g := GRoll.av) (m := x14.Rolls) 9 rfl Tryz.underlying38 bz67 by67 rfl rfl rfl rfl (.refl _) (fun _ => rfl) p19) (by rintro _ _ ⟨v20, rfl, rfl⟩; exact trivial) ?_; rintro _ _ ⟨v20, rfl, rfl⟩
  refine eN (hr := ix_get' e14 (GEnt.av_eq _)) ?_
  refine eF fo40_2 (hr := ix_get' e14 (GEnt.av_eq _)) ?_
  refine de_eff0 rfl rfl rfl rfl (Yield.weak (yl_ob (ob' := (⟨40, 8, true, true, v13, (a1.Ents.map GEnt.av).set (Int.toNat a2) [int x14.Now, boo x14.Closed, .sl 7 v16 0 x14.Pools.length, lst 1 fI x14.Bal, lst 11 GRoll.av x14.Rolls, lst 1 fI x14.Prices, lst 1 fI x14.Down, lst 8 GEnt.av x14.Ahead]⟩ : AObj)) (yl_store rfl sh37 rfl rfl rfl rfl rfl (ix_get' e14 (GEnt.av_eq _)) rfl rfl rfl) (ob_eq rfl)) (fun _ h => h) (fun _ _ => trivial)) (by rintro _ _ ⟨rfl, rfl⟩; exact trivial) ?_; rintro _ _ ⟨rfl, rfl⟩
  refine eN (hr := set_get e14) ?_
  refine eF fo40_3 (hr := set_get e14) ?_
  refine de_eff0 rfl rfl rfl rfl (Yield.weak (yl_ob (ob' := (⟨40, 8, true, true, v13, (a1.Ents.map GEnt.av).set (Int.toNat a2) [int x14.Now, boo x14.Closed, .sl 7 v16 0 x14.Pools.length, .sl 8 v18 0 x14.Bal.length, lst 11 GRoll.av x14.Rolls, lst 1 fI x14.Prices, lst 1 fI x14.Down, lst 8 GEnt.av x14.Ahead]⟩ : AObj)) (yl_store rfl sh23 rfl rfl rfl rfl rfl (set_get e14) rfl rfl rfl) (ob_eq set_setV)) (fun _ h => h) (fun _ _ => trivial)) (by rintro _ _ ⟨rfl, rfl⟩; exact trivial) ?_; rintro _ _ ⟨rfl, rfl⟩
  refine eN (hr := set_get e14) ?_
  refine eF fo40_4 (hr := set_get e14) ?_
  refine de_eff0 rfl rfl rfl rfl (Yield.weak (yl_ob (ob' := (⟨40, 8, true, true, v13, (a1.Ents.map GEnt.av).set (Int.toNat a2) [int x14.Now, boo x14.Closed, .sl 7 v16 0 x14.Pools.length, .sl 8 v18 0 x14.Bal.length, .sl 9 v20 0 x14.Rolls.length, lst 1 fI x14.Prices, lst 1 fI x14.Down, lst 8 GEnt.av x14.Ahead]⟩ : AObj)) (yl_store rfl sh38 rfl rfl rfl rfl rfl (set_get e14) rfl rfl rfl) (ob_eq set_setV)) (fun _ h => h) (fun _ _ => trivial)) (by rintro _ _ ⟨rfl, rfl⟩; exact trivial) ?_; rintro _ _ ⟨rfl, rfl⟩
  refine de_nil (hK _ ?_)
  refine tc tbk 1 (.mk ?_)
  refine c_drawE [0, 0, 0, 4, 12, 28, 60, 0, 128, 384, 896, 2044, 4093, 8189, 16381, 32767, 65535, 131071] (rl [(3, [6]), (4, [6]), (5, [6]), (8, [6]), (9, [6]), (10, [6]), (12, [6]), (13, [6]), (15, [6]), (16, [6])] []) (rl [(11, []), (14, []), (17, [])] [6]) (rl [(6, false), (11, false), (14, false), (17, false)] true) [0, 1, 2, 3, 4, 5, 7, 8, 9, 10, 6, 11, 12, 13, 14, 15, 16, 17] mixed (by kernel_rfl) ?_; intro K hK
  iterate 3 refine eM ?_
  refine eN (hr := set_get e14) ?_
  refine eF fo40_5 (hr := set_get e14) ?_
  refine eL sh23 (hr := set_get e14) ?_
  refine eM ?_
  refine eN (hr := set_get e14) ?_
  refine eF fo40_6 (hr := set_get e14) ?_
  refine eL sh23 (hr := set_get e14) ?_
  obtain ⟨p21, h1⟩ := asrt_e h1
  refine de_eff rfl rfl rfl rfl (yl_app0T (g := fI) (m := x14.Prices) 10 rfl Tryz.underlying23 bz3 by3 rfl rfl rfl rfl (.refl _) (fun _ => rfl) p21) (by rintro _ _ ⟨v22, rfl, rfl⟩; exact ⟨rfl, trivial⟩) ?_; rintro _ _ ⟨v22, rfl, rfl⟩
  obtain ⟨p23, h1⟩ := asrt_e h1
  refine de_eff rfl rfl rfl rfl (yl_app0T (g := fI) (m := x14.Down) 11 rfl Tryz.underlying23 bz3 by3 rfl rfl rfl rfl (.refl _) (fun _ => rfl) p23) (by rintro _ _ ⟨v24, rfl, rfl⟩; exact trivial) ?_; rintro _ _ ⟨v24, rfl, rfl⟩
  refine eN (hr := set_get e14) ?_
  refine eF fo40_5 (hr := set_get e14) ?_
  refine de_eff0 rfl rfl rfl rfl (Yield.weak (yl_ob (ob' := (⟨40, 8, true, true, v13, (a1.Ents.map GEnt.av).set (Int.toNat a2) [int x14.Now, boo x14.Closed, .sl 7 v16 0 x14.Pools.length, .sl 8 v18 0 x14.Bal.length, .sl 9 v20 0 x14.Rolls.length, .sl 10 v22 0 x14.Prices.length, lst 1 fI x14.Down, lst 8 GEnt.av x14.Ahead]⟩ : AObj)) (yl_store rfl sh23 rfl rfl rfl rfl rfl (set_get e14) rfl rfl rfl) (ob_eq set_setV)) (fun _ h => h) (fun _ _ => trivial)) (by rintro _ _ ⟨rfl, rfl⟩; exact trivial) ?_; rintro _ _ ⟨rfl, rfl⟩
  refine eN (hr := set_get e14) ?_
  refine eF fo40_6 (hr := set_get e14) ?_
  refine de_eff0 rfl rfl rfl rfl (Yield.weak (yl_ob (ob' := (⟨40, 8, true, true, v13, (a1.Ents.map GEnt.av).set (Int.toNat a2) [int x14.Now, boo x14.Closed, .sl 7 v16 0 x14.Pools.length, .sl 8 v18 0 x14.Bal.length, .sl 9 v20 0 x14.Rolls.length, .sl 10 v22 0 x14.Prices.length, .sl 11 v24 0 x14.Down.length, lst 8 GEnt.av x14.Ahead]⟩ : AObj)) (yl_store rfl sh23 rfl rfl rfl rfl rfl (set_get e14) rfl rfl rfl) (ob_eq set_setV)) (fun _ h => h) (fun _ _ => trivial)) (by rintro _ _ ⟨rfl, rfl⟩; exact trivial) ?_; rintro _ _ ⟨rfl, rfl⟩
  refine de_nil (hK _ ?_)
  refine tc tbk 3 (.mk ?_)
  refine sS ⟨32, 10, true, true, v11, [[int a1.Master.Entities, int a1.Master.Periods, lst 1 fI a1.Master.Weights, lst 1 (fL 1 fI) a1.Master.Methods, lst 1 (fL 1 fI) a1.Master.Costs, .sl 6 v13 0 a1.Ents.length, lst 8 GReceipt.av a1.Receipts, .sc (.slice none 0 0), lst 6 GTransit.av a1.Transits, int a1.Done]]⟩ sh32 ?_
  refine tr tbk 1 (.mk ?_)
  obtain rfl := nxt_e h1
  refine w_ret (hret _ _ (hk [(1, ⟨32, 10, true, true, v6, [[int a1.Master.Entities, int a1.Master.Periods, lst 1 fI a1.Master.Weights, lst 1 (fL 1 fI) a1.Master.Methods, lst 1 (fL 1 fI) a1.Master.Costs, lst 8 GEnt.av a1.Ents, lst 8 GReceipt.av a1.Receipts, .sc (.slice none 0 0), lst 6 GTransit.av a1.Transits, int a1.Done]]⟩), (2, ⟨82, 4, true, true, v7, [[lst 3 GLayer.av a5.Layers, int a5.Pend.a0, int a5.Pend.a1, int a5.Pend.a2]]⟩), (3, ⟨32, 10, true, true, v8, [[int 0, int 0, .sc (.slice none 0 0), .sc (.slice none 0 0), .sc (.slice none 0 0), .sc (.slice none 0 0), .sc (.slice none 0 0), .sc (.slice none 0 0), .sc (.slice none 0 0), int 0]]⟩), (6, ⟨40, 8, true, true, v13, (a1.Ents.map GEnt.av).set (Int.toNat a2) [int x14.Now, boo x14.Closed, .sl 7 v16 0 x14.Pools.length, .sl 8 v18 0 x14.Bal.length, .sl 9 v20 0 x14.Rolls.length, .sl 10 v22 0 x14.Prices.length, .sl 11 v24 0 x14.Down.length, lst 8 GEnt.av x14.Ahead]⟩), (7, ⟨82, 4, true, true, v16, x14.Pools.map GPool.av⟩), (8, ⟨3, 1, true, true, v18, x14.Bal.map fI⟩), (9, ⟨67, 11, true, true, v20, x14.Rolls.map GRoll.av⟩), (10, ⟨3, 1, true, true, v22, x14.Prices.map fI⟩), (11, ⟨3, 1, true, true, v24, x14.Down.map fI⟩)]) (.cell rfl (.pt rfl rfl rfl) sh32 rfl .nil) (HK.le ⟨rfl, rfl, rfl, rfl, rfl, rfl, rfl, rfl, rfl, trivial⟩) ?_)
  exact ⟨(x14.Now, x14.Closed, x14.Ahead, x14.Pools, x14.Bal, x14.Rolls, x14.Prices, x14.Down), (v13, v16, v18, v20, v22, v24), rfl, rfl, rfl⟩
  rintro y _ ⟨⟨y0_2, y0_3, y0_9, y0_10, y0_11, y0_12, y0_13, y0_14⟩, ⟨w0_1, w0_4, w0_5, w0_6, w0_7, w0_8⟩, rfl, hc, rfl⟩
  replace h0 := p2_e h0
  replace h0 := p2_e h0
  replace h0 := p2_e h0
  replace h0 := p2_e h0
  replace h0 := p2_e h0
  replace h0 := p2_e h0
  replace h0 := p2_e h0
  subst hc
  obtain ⟨x25, e25, h0⟩ := bind_e h0
  refine sA 12 z32 fun v26 => ?_
  refine sS ⟨32, 10, true, true, v26, [[int a1.Master.Entities, int a1.Master.Periods, lst 1 fI a1.Master.Weights, lst 1 (fL 1 fI) a1.Master.Methods, lst 1 (fL 1 fI) a1.Master.Costs, .sl 6 w0_1 0 a1.Ents.length, lst 8 GReceipt.av a1.Receipts, .sc (.slice none 0 0), lst 6 GTransit.av a1.Transits, int a1.Done]]⟩ sh32 ?_
  refine tr tbk 2 (.mk ?_)
  refine c_drawE [0, 1, 0, 7, 15, 31, 0, 64, 0, 448, 0, 2047, 4095] (rl [(0, [12]), (1, [12]), (3, [6]), (4, [6]), (5, [6]), (10, [2]), (11, [7])] []) (rl [(12, [])] [2, 6, 7, 12]) (rl [(12, false)] true) [0, 1, 2, 3, 4, 5, 6, 7, 8, 9, 10, 11, 12] mixed (by kernel_rfl) ?_; intro K hK
  refine eF fo32_1 ?_
  refine eL sh27 ?_
  refine eM ?_
  refine de_pure rfl rfl rfl rfl (fun H hH => yv_ixO rfl Tryz.underlying27 sh40 rfl rfl ((hH _ (by decide)).trans rfl) rfl rfl (Eq.symm rfl) len_ov e25) ?_
  refine eF fo40_2 (hr := set_get e25) ?_
  refine eL sh37 (hr := set_get e25) ?_
  refine eM ?_
  obtain ⟨x27, e27, h0⟩ := bnd_e h0
  refine eP (fun H hH => yv_mul rfl rfl rfl e27) ?_
  refine eM ?_
  obtain ⟨x28, e28, h0⟩ := bnd_e h0
  refine eP (fun H hH => yv_add rfl rfl rfl e28) ?_
  refine eL sh82 ?_
  obtain ⟨x29, e29, h0⟩ := bind_e h0
  refine de_pure rfl rfl rfl rfl (fun H hH => yv_ixO rfl Tryz.underlying37 sh82 rfl rfl ((hH _ (by decide)).trans rfl) rfl rfl (Eq.symm rfl) (List.length_map _) e29) ?_
  obtain ⟨x30, e30, h0⟩ := bnd_e h0
  have fx30 := ix_set e29 e30; have lx30 := len_setV e30 (rfl : y0_10.length = y0_10.length)
  refine de_eff0 rfl rfl rfl rfl (Yield.weak (yl_ob (ob' := (⟨82, 4, true, true, w0_4, x30.map GPool.av⟩ : AObj)) (yl_store rfl sh82 rfl rfl rfl rfl rfl (ix_get e29) rfl rfl rfl) (ob_eq (map_setV e30))) (fun _ h => h) (fun _ _ => trivial)) (by rintro _ _ ⟨rfl, rfl⟩; exact trivial) ?_; rintro _ _ ⟨rfl, rfl⟩
  refine de_nil (hK _ ?_)
  refine tc tbk 3 (.mk ?_)
  refine sS ⟨32, 10, true, true, v8, [[int a1.Master.Entities, int a1.Master.Periods, lst 1 fI a1.Master.Weights, lst 1 (fL 1 fI) a1.Master.Methods, lst 1 (fL 1 fI) a1.Master.Costs, .sl 6 w0_1 0 a1.Ents.length, lst 8 GReceipt.av a1.Receipts, .sc (.slice none 0 0), lst 6 GTransit.av a1.Transits, int a1.Done]]⟩ sh32 ?_
  refine tr tbk 1 (.mk ?_)
  obtain rfl := nxt_e h0
  refine wR hret (rC sh32 .nil) ?_
  exact (CvL.agg (.cons (.refl _) (.cons (.refl _) (.cons (.refl _) (.cons (.refl _) (.cons (.refl _) (.cons (cv_ov rfl rfl rfl rfl rfl (Eq.symm rfl) e25 (cvl_to (.cons (.refl _) (.cons (.refl _) (.cons (cv_lst rfl rfl rfl rfl rfl (Eq.symm lx30)) (.cons (cv_lst rfl rfl rfl rfl rfl (Eq.symm rfl)) (.cons (cv_lst rfl rfl rfl rfl rfl (Eq.symm rfl)) (.cons (cv_lst rfl rfl rfl rfl rfl (Eq.symm rfl)) (.cons (cv_lst rfl rfl rfl rfl rfl (Eq.symm rfl)) (.cons (.refl _) .nil)))))))) (GEnt.av_eq _))) (.cons (.refl _) (.cons (.refl _) (.cons (.refl _) (.cons (.refl _) .nil)))))))))))
def d_ref13_Total (n : Nat) (a1 : GPool) : Option (GLayer) :=
(d_ref09_Total n a1.Layers).bind fun x4 =>
some ((x4.1 : GLayer))
theorem d_ref13_Total_c {n : Nat} {a1 : GPool} {r : GLayer} (h0 : d_ref13_Total n a1 = some r) : PP Tryz.prog 89 [.agg (GPool.av a1)] (fun y => y = .agg (GLayer.av r)) := by
  unfold d_ref13_Total at h0
  refine pp_of_pc (R0 := fun y H => Cv (frzH H) y (.agg (GLayer.av r))) ?_ (fun y H hc => ⟨_, rfl, (fun (a : GLayer) => PV.agg (GLayer.pvc a)) r, hc⟩)
  refine pcw (c := _) Tryz.func89 rfl rfl ?_; intro Q hret hnorm
  refine tc tbk 2 (.mk ?_)
  refine sB 1 fun v2 => ?_
  refine sA 2 z60 fun v3 => ?_
  refine tr tbk 5 (.mk ?_)
  obtain ⟨x4, e4, h0⟩ := bind_e h0
  refine sC cal115 (d_ref09_Total_c e4) ?_
  refine tr tbk 3 (.mk ?_)
  refine sA 3 z60 fun v5 => ?_
  refine sS ⟨60, 3, true, true, v5, [[int x4.1.Qty, int x4.1.Value, int x4.1.Profit]]⟩ sh60 ?_
  refine tr tbk 5 (.mk ?_)
  refine sS ⟨60, 3, true, true, v3, [[int x4.1.Qty, int x4.1.Value, int x4.1.Profit]]⟩ sh60 ?_
  refine tr tbk 1 (.mk ?_)
  obtain rfl := nxt_e h0
  refine wR hret (rC sh60 .nil) ?_
  exact .refl _
def d_ref01_Sum_L0 (a1 : List Int) : Nat → Int → Int → Option (Int)
  | 0, _, _ => none
  | n + 1, y0_1, y0_2 =>
    bnd (decide (y0_2 < (a1.length : Int))) fun x3 =>
    cond x3 ((ix a1 y0_2).bind fun x4 =>
    (d_ref01_Add y0_1 x4).bind fun x5 =>
    bnd (decide (x5.2 ≠ 0)) fun x6 =>
    asrt (x6 = false) <|
    bnd (w64 (y0_2 + 1)) fun x7 =>
    d_ref01_Sum_L0 a1 n (x5.1 : Int) (x7 : Int)) (some (y0_1 : Int))
def d_ref01_Sum (n : Nat) (a1 : List Int) : Option (Int × Int) :=
(show Option (Int) from
d_ref01_Sum_L0 a1 n (0 : Int) (0 : Int)).bind <| fun y1_1 =>
some ((y1_1 : Int), (0 : Int))
theorem d_ref01_Sum_c {n : Nat} {a1 : List Int} {r : Int × Int} (h0 : d_ref01_Sum n a1 = some r) : PP Tryz.prog 30 [lst 1 fI a1] (fun y => y = .tup [int r.1, int r.2]) := by
  unfold d_ref01_Sum at h0
  refine pp_of_pc (R0 := fun y H => Cv (frzH H) y (.tup [int r.1, int r.2])) ?_ (fun y H hc => ⟨_, rfl, .tup (pvl2 (pvI (r.1)) (pvI (r.2))), hc⟩)
  refine pcw (c := _) Tryz.func30 rfl rfl ?_; intro Q hret hnorm
  refine tc tbk 14 (.mk ?_)
  refine jn h0 [2, 3] [] (fun (a : Int) (k : Unit) => [(4, int a)]) (fun a k => []) ⟨fun j2 h1 => ?_, ?_⟩
  refine tc tbk 1 (.mk ?_)
  refine lp (fun n (a : Int × Int) => d_ref01_Sum_L0 a1 n a.1 a.2) ((0 : Int), (0 : Int)) () h1 [0, 2, 3] [] (fun (a : Int × Int) (k : Unit) => [(4, int a.1), (5, int a.2)]) (fun a k => []) (fun _ => rfl) ⟨leA, ?_⟩
  rintro n ⟨y0_1, y0_2⟩ _ hm h1
  replace h1 : d_ref01_Sum_L0 a1 (n + 1) y0_1 y0_2 = some _ := h1
  rw [d_ref01_Sum_L0] at h1
  refine tc tbk 5 (.mk ?_)
  refine sY (yv_len_sl rfl Tryz.underlying23 rfl (lst_len _)) ?_
  refine nb tbk h1 fun x3 h1 => ?_
  refine tr tbk 1 (.mk ?_)
  cases x3
  replace h1 := cf h1
  refine tc tbk 2 (.mk ?_)
  exact lf h1 () leA
  replace h1 := ct h1
  refine tc tbk 9 (.mk ?_)
  obtain ⟨x4, e4, h1⟩ := bind_e h1
  refine sY (yv_ixT rfl Tryz.underlying23 sh3 rfl rfl e4) ?_
  refine tr tbk 1 (.mk ?_)
  obtain ⟨x5, e5, h1⟩ := bind_e h1
  refine sC cal55 (d_ref01_Add_c e5) ?_
  refine tr tbk 10 (.mk ?_)
  refine nb tbk h1 fun x6 h1 => ?_
  refine tr tbk 1 (.mk ?_)
  replace h1 := asrt_e h1
  obtain ⟨rfl, h1⟩ := h1
  refine tc tbk 9 (.mk ?_)
  refine ni tbk h1 fun x7 h1 => ?_
  refine tr tbk 2 (.mk ?_)
  exact bk (x5.1, x7) () h1 leA
  rintro y1_1 _ h0
  refine tc tbk 6 (.mk ?_)
  obtain rfl := nxt_e h0
  refine wR hret (rT (rT .nil)) ?_
  exact .refl _
def d_ref14_worth_L0 (a1 : GState) (a2 : Int) (a3 : Int) : Nat → Int → (List Int) → (List Int) → (List Int) → Option ((List Int) × (List Int) × (List Int))
  | 0, _, _, _, _ => none
  | n + 1, y0_4, y0_5, y0_6, y0_7 =>
    bnd (decide (y0_4 < 2)) fun x10 =>
    cond x10 ((d_ref14_At a1 a2 a3 y0_4).bind fun x11 =>
    (d_ref13_Total n x11).bind fun x12 =>
    bnd (y0_5 ++ ([x12.Qty] : List Int)) fun x14 =>
    asrt (x14.length ≤ 68719476736) <|
    bnd (y0_6 ++ ([x12.Value] : List Int)) fun x17 =>
    asrt (x17.length ≤ 68719476736) <|
    bnd (y0_7 ++ ([x12.Profit] : List Int)) fun x20 =>
    asrt (x20.length ≤ 68719476736) <|
    bnd (w64 (y0_4 + 1)) fun x23 =>
    d_ref14_worth_L0 a1 a2 a3 n (x23 : Int) (x14 : List Int) (x17 : List Int) (x20 : List Int)) (some ((y0_5 : List Int), (y0_6 : List Int), (y0_7 : List Int)))
def d_ref14_worth (n : Nat) (a1 : GState) (a2 : Int) (a3 : Int) : Option (GLayer × Int) :=
(show Option ((List Int) × (List Int) × (List Int)) from
d_ref14_worth_L0 a1 a2 a3 n (0 : Int) (([] : List Int) : List Int) (([] : List Int) : List Int) (([] : List Int) : List Int)).bind <| p2 fun (y1_4 : List Int) (q0 : (List Int) × (List Int)) => (p2 fun (y1_5 : List Int) (y1_6 : List Int) =>
(d_ref01_Sum n y1_4).bind fun x24 =>
(d_ref01_Sum n y1_5).bind fun x25 =>
(d_ref01_Sum n y1_6).bind fun x26 =>
bnd (if x26.2 > (if x25.2 > x24.2 then x25.2 else x24.2) then x26.2 else (if x25.2 > x24.2 then x25.2 else x24.2)) fun x27 =>
some (((⟨x24.1, x25.1, x26.1⟩ : GLayer) : GLayer), (x27 : Int))) q0
theorem d_ref14_worth_c {n : Nat} {a1 : GState} {a2 : Int} {a3 : Int} {r : GLayer × Int} (h0 : d_ref14_worth n a1 a2 a3 = some r) : PP Tryz.prog 54 [.agg (GState.av a1), int a2, int a3] (fun y => y = .tup [.agg (GLayer.av r.1), int r.2]) := by
  unfold d_ref14_worth at h0
  refine pp_of_pc (R0 := fun y H => Cv (frzH H) y (.tup [.agg (GLayer.av r.1), int r.2])) ?_ (fun y H hc => ⟨_, rfl, .tup (pvl2 ((fun (a : GLayer) => PV.agg (GLayer.pvc a)) (r.1)) (pvI (r.2))), hc⟩)
  refine pcw (c := _) Tryz.func54 rfl rfl ?_; intro Q hret hnorm
  refine tc tbk 2 (.mk ?_)
  refine sB 1 fun v4 => ?_
  refine sA 2 z60 fun v5 => ?_
  refine tr tbk 13 (.mk ?_)
  refine jn h0 [6, 7] [2] (fun (a : (List Int) × (List Int) × (List Int)) (k : Nat × Nat × Nat) => [(8, .sl 7 k.1 0 a.1.length), (9, .sl 8 k.2.1 0 a.2.1.length), (10, .sl 9 k.2.2 0 a.2.2.length)]) (fun a k => [(7, ⟨3, 1, true, true, k.1, a.1.map fI⟩), (8, ⟨3, 1, true, true, k.2.1, a.2.1.map fI⟩), (9, ⟨3, 1, true, true, k.2.2, a.2.2.map fI⟩)]) ⟨fun j6 h1 => ?_, ?_⟩
  refine tc tbk 1 (.mk ?_)
  refine c_nilobj 8 7 3 1 rfl rfl ?_; intro v7
  refine c_nilobj 9 8 3 1 rfl rfl ?_; intro v8
  refine c_nilobj 10 9 3 1 rfl rfl ?_; intro v9
  refine lp (fun n (a : Int × (List Int) × (List Int) × (List Int)) => d_ref14_worth_L0 a1 a2 a3 n a.1 a.2.1 a.2.2.1 a.2.2.2) ((0 : Int), (([] : List Int) : List Int), (([] : List Int) : List Int), (([] : List Int) : List Int)) (v7, v8, v9) h1 [1, 2, 3, 6, 7] [1, 2] (fun (a : Int × (List Int) × (List Int) × (List Int)) (k : Nat × Nat × Nat) => [(8, .sl 7 k.1 0 a.2.1.length), (9, .sl 8 k.2.1 0 a.2.2.1.length), (10, .sl 9 k.2.2 0 a.2.2.2.length), (11, int a.1)]) (fun a k => [(7, ⟨3, 1, true, true, k.1, a.2.1.map fI⟩), (8, ⟨3, 1, true, true, k.2.1, a.2.2.1.map fI⟩), (9, ⟨3, 1, true, true, k.2.2, a.2.2.2.map fI⟩)]) (fun _ => rfl) ⟨leA, ?_⟩
  rintro n ⟨y0_4, y0_5, y0_6, y0_7⟩ ⟨w0_1, w0_2, w0_3⟩ hm h1
  replace h1 : d_ref14_worth_L0 a1 a2 a3 (n + 1) y0_4 y0_5 y0_6 y0_7 = some _ := h1
  rw [d_ref14_worth_L0] at h1
  refine tc tbk 4 (.mk ?_)
  refine nb tbk h1 fun x10 h1 => ?_
  refine tr tbk 1 (.mk ?_)
  cases x10
  replace h1 := cf h1
  refine tc tbk 2 (.mk ?_)
  exact lf h1 (w0_1, w0_2, w0_3) leA
  replace h1 := ct h1
  refine tc tbk 10 (.mk ?_)
  obtain ⟨x11, e11, h1⟩ := bind_e h1
  refine sC cal90 (d_ref14_At_c e11) ?_
  obtain ⟨x12, e12, h1⟩ := bind_e h1
  refine sC cal89 (d_ref13_Total_c e12) ?_
  refine sA 3 z60 fun v13 => ?_
  refine sS ⟨60, 3, true, true, v13, [[int x12.Qty, int x12.Value, int x12.Profit]]⟩ sh60 ?_
  refine tr tbk 1 (.mk ?_)
  refine c_drawE [0, 0, 2, 6, 15, 0, 0, 64, 192, 511, 0, 0, 2048, 6144, 16383, 32767, 65535, 131071] (rl [(1, [3]), (2, [3]), (6, [3]), (7, [3]), (11, [3]), (12, [3])] []) (rl [(14, [])] [3]) (rl [(4, false), (9, false), (14, false)] true) [0, 1, 2, 3, 5, 6, 7, 8, 10, 11, 12, 13, 4, 9, 14, 15, 16, 17] mixed (by kernel_rfl) ?_; intro K hK
  refine eM ?_
  refine eF fo60_0 ?_
  refine eL sh3 ?_
  refine eP (fun H hH => yv_to (y := lst 1 fI ([x12.Qty] : List Int)) (yv_buildSlice (ps := [(0, _)]) (rows := [[int x12.Qty]]) rfl Tryz.underlying23 bz3 (.cons rfl .nil) (by kernel_rfl) rfl rfl rfl) rfl) ?_
  refine eM ?_
  refine eF fo60_1 ?_
  refine eL sh3 ?_
  refine eP (fun H hH => yv_to (y := lst 1 fI ([x12.Value] : List Int)) (yv_buildSlice (ps := [(0, _)]) (rows := [[int x12.Value]]) rfl Tryz.underlying23 bz3 (.cons rfl .nil) (by kernel_rfl) rfl rfl rfl) rfl) ?_
  refine eM ?_
  refine eF fo60_2 ?_
  refine eL sh3 ?_
  refine eP (fun H hH => yv_to (y := lst 1 fI ([x12.Profit] : List Int)) (yv_buildSlice (ps := [(0, _)]) (rows := [[int x12.Profit]]) rfl Tryz.underlying23 bz3 (.cons rfl .nil) (by kernel_rfl) rfl rfl rfl) rfl) ?_
  obtain ⟨x14, e14, h1⟩ := bnd_e h1
  obtain ⟨p15, h1⟩ := asrt_e h1
  refine de_eff rfl rfl rfl rfl (yl_appT (g := fI) (l := y0_5) (m := ([x12.Qty] : List Int)) .any rfl Tryz.underlying23 bz3 by3 rfl rfl rfl rfl rfl rfl rfl rfl rfl rfl (Eq.symm rfl) (.refl _) (fun _ => rfl) e14 p15) (by rintro _ _ ⟨v16, -, rfl, rfl⟩; exact ⟨rfl, trivial⟩) ?_; rintro _ _ ⟨v16, -, rfl, rfl⟩
  obtain ⟨x17, e17, h1⟩ := bnd_e h1
  obtain ⟨p18, h1⟩ := asrt_e h1
  refine de_eff rfl rfl rfl rfl (yl_appT (g := fI) (l := y0_6) (m := ([x12.Value] : List Int)) .any rfl Tryz.underlying23 bz3 by3 rfl rfl rfl rfl rfl rfl rfl rfl rfl rfl (Eq.symm rfl) (.refl _) (fun _ => rfl) e17 p18) (by rintro _ _ ⟨v19, -, rfl, rfl⟩; exact ⟨rfl, trivial⟩) ?_; rintro _ _ ⟨v19, -, rfl, rfl⟩
  obtain ⟨x20, e20, h1⟩ := bnd_e h1
  obtain ⟨p21, h1⟩ := asrt_e h1
  refine de_eff rfl rfl rfl rfl (yl_appT (g := fI) (l := y0_7) (m := ([x12.Profit] : List Int)) .any rfl Tryz.underlying23 bz3 by3 rfl rfl rfl rfl rfl rfl rfl rfl rfl rfl (Eq.symm rfl) (.refl _) (fun _ => rfl) e20 p21) (by rintro _ _ ⟨v22, -, rfl, rfl⟩; exact trivial) ?_; rintro _ _ ⟨v22, -, rfl, rfl⟩
  iterate 3 refine eA ?_
  refine de_nil (hK _ ?_)
  refine tc tbk 3 (.mk ?_)
  refine ni tbk h1 fun x23 h1 => ?_
  refine tr tbk 2 (.mk ?_)
  exact bk (x23, x14, x17, x20) (v16, v19, v22) h1 leA
  rintro ⟨y1_4, y1_5, y1_6⟩ ⟨w1_1, w1_2, w1_3⟩ h0
  replace h0 := p2_e h0
  replace h0 := p2_e h0
  refine tc tbk 3 (.mk ?_)
  obtain ⟨x24, e24, h0⟩ := bind_e h0
  refine sY (yv_callT (v := .tup [int x24.1, int x24.2]) rfl rfl (.cons rfl .nil) cal30 (.cons (cv_lst rfl rfl rfl rfl rfl (Eq.symm rfl)) .nil) (d_ref01_Sum_c e24) rfl) ?_
  refine tr tbk 9 (.mk ?_)
  obtain ⟨x25, e25, h0⟩ := bind_e h0
  refine sY (yv_callT (v := .tup [int x25.1, int x25.2]) rfl rfl (.cons rfl .nil) cal30 (.cons (cv_lst rfl rfl rfl rfl rfl (Eq.symm rfl)) .nil) (d_ref01_Sum_c e25) rfl) ?_
  refine tr tbk 9 (.mk ?_)
  obtain ⟨x26, e26, h0⟩ := bind_e h0
  refine sY (yv_callT (v := .tup [int x26.1, int x26.2]) rfl rfl (.cons rfl .nil) cal30 (.cons (cv_lst rfl rfl rfl rfl rfl (Eq.symm rfl)) .nil) (d_ref01_Sum_c e26) rfl) ?_
  refine tr tbk 15 (.mk ?_)
  obtain ⟨x27, e27, h0⟩ := bnd_e h0
  refine sY (yv_max3 rfl rfl rfl rfl e27) ?_
  refine sS ⟨60, 3, true, true, v5, [[int x24.1, int x25.1, int x26.1]]⟩ sh60 ?_
  refine tr tbk 2 (.mk ?_)
  obtain rfl := nxt_e h0
  refine wR hret (rC sh60 (rT .nil)) ?_
  exact .refl _
def d_ref14_Bring_L0 (a2 : Int) (a3 : Int) (x22 : GState) : Nat → Int → (List GLayer) → Option ((List GLayer))
  | 0, _, _ => none
  | n + 1, y1_2, y1_3 =>
    bnd (decide (y1_2 < 2)) fun x28 =>
    cond x28 ((d_ref14_At (⟨x22.Master, x22.Ents, x22.Receipts, [], x22.Transits, x22.Done⟩ : GState) a2 a3 y1_2).bind fun x29 =>
    bnd (y1_3 ++ x29.Layers) fun x30 =>
    asrt (x30.length ≤ 68719476736) <|
    bnd (w64 (y1_2 + 1)) fun x33 =>
    d_ref14_Bring_L0 a2 a3 x22 n (x33 : Int) (x30 : List GLayer)) (some (y1_3 : List GLayer))
def d_ref14_Bring (n : Nat) (a1 : GState) (a2 : Int) (a3 : Int) (a4 : Int) (a5 : GLayer) : Option (GState × Int × Int × Int) :=
(show Option (Bool) from
(d_ref14_there (⟨a1.Master, a1.Ents, a1.Receipts, [], a1.Transits, a1.Done⟩ : GState) a2 a3).bind fun x10 =>
bnd (!x10) fun x11 =>
cond x11 (some (true : Bool)) ((d_ref14_to a4 1).bind fun x12 =>
bnd (!x12) fun x13 =>
some (x13 : Bool))).bind <| fun y0_1 =>
asrt (y0_1 = false) <|
(ix a1.Master.Methods a2).bind fun x14 =>
(ix x14 a3).bind fun x15 =>
(ix a1.Master.Costs a2).bind fun x16 =>
(ix x16 a3).bind fun x17 =>
(d_ref14_At (⟨a1.Master, a1.Ents, a1.Receipts, [], a1.Transits, a1.Done⟩ : GState) a2 a3 a4).bind fun x18 =>
(d_ref13_In n x15 x17 x18 a5).bind fun x19 =>
bnd (decide (x19.2.2 ≠ 0)) fun x21 =>
asrt (x21 = false) <|
(d_ref14_Put a1 a2 a3 a4 x19.1).bind fun x22 =>
(d_ref14_worth n (⟨x22.Master, x22.Ents, x22.Receipts, [], x22.Transits, x22.Done⟩ : GState) a2 a3).bind fun x24 =>
bnd (decide (x24.2 ≠ 0)) fun x25 =>
asrt (x25 = false) <|
(show Option ((List GLayer)) from
d_ref14_Bring_L0 a2 a3 x22 n (0 : Int) (([] : List GLayer) : List GLayer)).bind <| fun y2_2 =>
(d_ref09_Swing n y2_2).bind fun x34 =>
bnd (decide (x34.2 ≠ 0)) fun x35 =>
asrt (x35 = false) <|
bnd (w64 (a5.Value - x19.2.1)) fun x36 =>
some ((x22 : GState), (x36 : Int), (x19.2.1 : Int), (0 : Int))
theorem d_ref14_Bring_c {n : Nat} {a1 : GState} {a2 : Int} {a3 : Int} {a4 : Int} {a5 : GLayer} {r : GState × Int × Int × Int} (h0 : d_ref14_Bring n a1 a2 a3 a4 a5 = some r) : PP Tryz.prog 57 [.agg (GState.avN a1), int a2, int a3, int a4, .agg (GLayer.av a5)] (fun y => y = .tup [.agg (GState.avN r.1), int r.2.1, int r.2.2.1, int r.2.2.2]) := by
  unfold d_ref14_Bring at h0
  refine pp_of_pc (R0 := fun y H => Cv (frzH H) y (.tup [.agg (GState.avN r.1), int r.2.1, int r.2.2.1, int r.2.2.2])) ?_ (fun y H hc => ⟨_, rfl, .tup (pvl4 ((fun (a : GState) => PV.agg (GState.pvcN a)) (r.1)) (pvI (r.2.1)) (pvI (r.2.2.1)) (pvI (r.2.2.2))), hc⟩)
  refine pcw (c := _) Tryz.func57 rfl rfl ?_; intro Q hret hnorm
  refine tc tbk 2 (.mk ?_)
  refine sB 1 fun v6 => ?_
  refine sB 2 fun v7 => ?_
  refine sA 3 z32 fun v8 => ?_
  refine tr tbk 6 (.mk ?_)
  refine jn h0 [1, 2, 3, 5, 9, 10, 11, 12, 13] [1, 2, 3] (fun (a : Bool) (k : Unit) => [(29, boo a)]) (fun a k => []) ⟨fun j9 h1 => ?_, ?_⟩
  refine tc tbk 4 (.mk ?_)
  obtain ⟨x10, e10, h1⟩ := bind_e h1
  refine sY (yv_callP rfl rfl (.cons rfl (.cons rfl (.cons rfl .nil))) cal92 (.cons (CvL.agg (.cons (.refl _) (.cons (.refl _) (.cons (.refl _) (.cons (.refl _) (.cons (.refl _) (.cons (.refl _) (.cons (.refl _) (.cons (.nil _) (.cons (.refl _) (.cons (.refl _) .nil))))))))))) (.cons (.refl _) (.cons (.refl _) .nil))) (d_ref14_there_c e10)) ?_
  refine nb tbk h1 fun x11 h1 => ?_
  refine tr tbk 1 (.mk ?_)
  cases x11
  replace h1 := cf h1
  refine tr tbk 1 (.mk ?_)
  obtain ⟨x12, e12, h1⟩ := bind_e h1
  refine sC cal93 (d_ref14_to_c e12) ?_
  refine nb tbk h1 fun x13 h1 => ?_
  refine tr tbk 2 (.mk ?_)
  exact lf h1 () leA
  replace h1 := ct h1
  refine tr tbk 5 (.mk ?_)
  exact lf h1 () leA
  rintro y0_1 _ h0
  replace h0 := asrt_e h0
  obtain ⟨rfl, h0⟩ := h0
  refine tc tbk 3 (.mk ?_)
  refine c_drawE [0, 1, 3, 0, 15, 31, 0, 127, 255, 0, 512, 1536, 0, 7680, 15872, 0, 65024, 130560, 0, 0, 0, 0, 3932160, 0, 16777215, 33554431, 67108863, 67108863, 67108863, 0, 671088639, 1879048191, 4294967295] (rl [(0, [1]), (1, [1]), (2, [1]), (9, [1]), (10, [1]), (11, [1]), (18, [1]), (23, [2])] []) (rl [(30, [])] [1, 2]) (rl [(29, false), (30, false)] true) [0, 1, 2, 3, 4, 5, 6, 7, 8, 9, 10, 11, 12, 13, 14, 15, 16, 17, 18, 19, 20, 21, 22, 23, 24, 25, 26, 27, 28, 29, 30, 31, 32] mixed (by kernel_rfl) ?_; intro K hK
  refine eF fo32_0 ?_
  refine eF fo26_3 ?_
  refine eL sh24 ?_
  refine eM ?_
  obtain ⟨x14, e14, h0⟩ := bind_e h0
  refine eP (fun H hH => yv_ixT rfl Tryz.underlying24 sh23 rfl rfl e14) ?_
  refine eP (fun H hH => yv_load rfl sh23 rfl (.pp _) rfl) ?_
  refine eM ?_
  obtain ⟨x15, e15, h0⟩ := bind_e h0
  refine eP (fun H hH => yv_ixT rfl Tryz.underlying23 sh3 rfl rfl e15) ?_
  refine eP (fun H hH => yv_load rfl sh3 rfl (.pp _) rfl) ?_
  refine eF fo32_0 ?_
  refine eF fo26_4 ?_
  refine eL sh24 ?_
  refine eM ?_
  obtain ⟨x16, e16, h0⟩ := bind_e h0
  refine eP (fun H hH => yv_ixT rfl Tryz.underlying24 sh23 rfl rfl e16) ?_
  refine eP (fun H hH => yv_load rfl sh23 rfl (.pp _) rfl) ?_
  refine eM ?_
  obtain ⟨x17, e17, h0⟩ := bind_e h0
  refine eP (fun H hH => yv_ixT rfl Tryz.underlying23 sh3 rfl rfl e17) ?_
  refine eP (fun H hH => yv_load rfl sh3 rfl (.pp _) rfl) ?_
  refine eL sh32 ?_
  iterate 3 refine eM ?_
  obtain ⟨x18, e18, h0⟩ := bind_e h0
  refine eP (fun H hH => yv_callP rfl rfl (.cons rfl (.cons rfl (.cons rfl (.cons rfl .nil)))) cal90 (.cons (CvL.agg (.cons (.refl _) (.cons (.refl _) (.cons (.refl _) (.cons (.refl _) (.cons (.refl _) (.cons (.refl _) (.cons (.refl _) (.cons (.nil _) (.cons (.refl _) (.cons (.refl _) .nil))))))))))) (.cons (.refl _) (.cons (.refl _) (.cons (.refl _) .nil)))) (d_ref14_At_c e18)) ?_
  refine eL sh60 ?_
  obtain ⟨x19, e19, h0⟩ := bind_e h0
  refine eP (fun H hH => yv_callP rfl rfl (.cons rfl (.cons rfl (.cons rfl (.cons rfl .nil)))) cal94 (CvL.refl _) (d_ref13_In_c e19)) ?_
  refine eM ?_
  iterate 3 refine eX ?_
  refine de_eff rfl rfl rfl rfl (yl_alloc 4 .any rfl z82 rfl) (by rintro _ _ ⟨v20, -, rfl, rfl⟩; exact ⟨rfl, rfl, trivial⟩) ?_; rintro _ _ ⟨v20, -, rfl, rfl⟩
  refine de_eff0 rfl rfl rfl rfl (Yield.weak (yl_ob (ob' := (⟨82, 4, true, true, v20, [[lst 3 GLayer.av x19.1.Layers, int x19.1.Pend.a0, int x19.1.Pend.a1, int x19.1.Pend.a2]]⟩ : AObj)) (yl_store rfl sh82 rfl rfl rfl rfl rfl rfl rfl rfl rfl) rfl) (fun _ h => h) (fun _ _ => trivial)) (by rintro _ _ ⟨rfl, rfl⟩; exact trivial) ?_; rintro _ _ ⟨rfl, rfl⟩
  iterate 2 refine eA ?_
  refine de_nil (hK _ ?_)
  refine tc tbk 4 (.mk ?_)
  refine nb tbk h0 fun x21 h0 => ?_
  refine tr tbk 1 (.mk ?_)
  replace h0 := asrt_e h0
  obtain ⟨rfl, h0⟩ := h0
  refine tc tbk 9 (.mk ?_)
  obtain ⟨x22, e22, h0⟩ := bind_e h0
  refine sC cal95 (d_ref14_Put_c e22) ?_
  refine sA 5 z32 fun v23 => ?_
  refine sS ⟨32, 10, true, true, v23, [[int x22.Master.Entities, int x22.Master.Periods, lst 1 fI x22.Master.Weights, lst 1 (fL 1 fI) x22.Master.Methods, lst 1 (fL 1 fI) x22.Master.Costs, lst 8 GEnt.av x22.Ents, lst 8 GReceipt.av x22.Receipts, .sc (.slice none 0 0), lst 6 GTransit.av x22.Transits, int x22.Done]]⟩ sh32 ?_
  refine tr tbk 7 (.mk ?_)
  obtain ⟨x24, e24, h0⟩ := bind_e h0
  refine sY (yv_callP rfl rfl (.cons rfl (.cons rfl (.cons rfl .nil))) cal54 (.cons (CvL.agg (.cons (.refl _) (.cons (.refl _) (.cons (.refl _) (.cons (.refl _) (.cons (.refl _) (.cons (.refl _) (.cons (.refl _) (.cons (.nil _) (.cons (.refl _) (.cons (.refl _) .nil))))))))))) (.cons (.refl _) (.cons (.refl _) .nil))) (d_ref14_worth_c e24)) ?_
  refine tr tbk 8 (.mk ?_)
  refine nb tbk h0 fun x25 h0 => ?_
  refine tr tbk 1 (.mk ?_)
  replace h0 := asrt_e h0
  obtain ⟨rfl, h0⟩ := h0
  refine tc tbk 11 (.mk ?_)
  refine jn h0 [5, 9, 10, 11, 12, 13, 15, 17] [1, 2, 3, 5] (fun (a : (List GLayer)) (k : Nat) => [(18, .sl 7 k 0 a.length)]) (fun a k => [(7, ⟨60, 3, true, true, k, a.map GLayer.av⟩)]) ⟨fun j26 h1 => ?_, ?_⟩
  refine tc tbk 1 (.mk ?_)
  refine c_nilobj 18 7 60 3 rfl rfl ?_; intro v27
  refine lp (fun n (a : Int × (List GLayer)) => d_ref14_Bring_L0 a2 a3 x22 n a.1 a.2) ((0 : Int), (([] : List GLayer) : List GLayer)) v27 h1 [1, 2, 5, 9, 10, 11, 12, 13, 15, 17] [1, 2, 3, 5] (fun (a : Int × (List GLayer)) (k : Nat) => [(18, .sl 7 k 0 a.2.length), (19, int a.1)]) (fun a k => [(7, ⟨60, 3, true, true, k, a.2.map GLayer.av⟩)]) (fun _ => rfl) ⟨leA, ?_⟩
  rintro n ⟨y1_2, y1_3⟩ w1_1 hm h1
  replace h1 : d_ref14_Bring_L0 a2 a3 x22 (n + 1) y1_2 y1_3 = some _ := h1
  rw [d_ref14_Bring_L0] at h1
  refine tc tbk 4 (.mk ?_)
  refine nb tbk h1 fun x28 h1 => ?_
  refine tr tbk 1 (.mk ?_)
  cases x28
  replace h1 := cf h1
  refine tc tbk 2 (.mk ?_)
  exact lf h1 w1_1 leA
  replace h1 := ct h1
  refine tc tbk 10 (.mk ?_)
  obtain ⟨x29, e29, h1⟩ := bind_e h1
  refine sY (yv_callP rfl rfl (.cons rfl (.cons rfl (.cons rfl (.cons rfl .nil)))) cal90 (.cons (CvL.agg (.cons (.refl _) (.cons (.refl _) (.cons (.refl _) (.cons (.refl _) (.cons (.refl _) (.cons (.refl _) (.cons (.refl _) (.cons (.nil _) (.cons (.refl _) (.cons (.refl _) .nil))))))))))) (.cons (.refl _) (.cons (.refl _) (.cons (.refl _) .nil)))) (d_ref14_At_c e29)) ?_
  refine tr tbk 1 (.mk ?_)
  obtain ⟨x30, e30, h1⟩ := bnd_e h1
  obtain ⟨p31, h1⟩ := asrt_e h1
  refine rse rfl rfl rfl (yl_appT (g := GLayer.av) (l := y1_3) (m := x29.Layers) .any rfl Tryz.underlying79 bz60 by60 rfl rfl rfl rfl rfl rfl rfl rfl rfl rfl (Eq.symm rfl) (.refl _) (fun _ => rfl) e30 p31) ?_; rintro _ _ ⟨v32, -, rfl, rfl⟩
  refine tr tbk 5 (.mk ?_)
  refine ni tbk h1 fun x33 h1 => ?_
  refine tr tbk 2 (.mk ?_)
  exact bk (x33, x30) v32 h1 leA
  rintro y2_2 w2_1 h0
  refine tc tbk 4 (.mk ?_)
  obtain ⟨x34, e34, h0⟩ := bind_e h0
  refine sY (yv_callT (v := .tup [int x34.1, int x34.2]) rfl rfl (.cons rfl .nil) cal96 (.cons (cv_lst rfl rfl rfl rfl rfl (Eq.symm rfl)) .nil) (d_ref09_Swing_c e34) rfl) ?_
  refine tr tbk 8 (.mk ?_)
  refine nb tbk h0 fun x35 h0 => ?_
  refine tr tbk 1 (.mk ?_)
  replace h0 := asrt_e h0
  obtain ⟨rfl, h0⟩ := h0
  refine tc tbk 3 (.mk ?_)
  refine c_drawE [0, 0, 2, 0, 14, 0, 1, 95, 255, 511] (rl [(0, [5]), (1, [2]), (2, [2])] []) (rl [(6, [2])] [2, 5]) (rl [(6, false)] true) [0, 1, 2, 3, 4, 5, 6, 7, 8, 9] mixed (by kernel_rfl) ?_; intro K hK
  refine eL sh32 ?_
  refine eF fo60_1 ?_
  refine eL sh3 ?_
  refine eM ?_
  obtain ⟨x36, e36, h0⟩ := bnd_e h0
  refine eP (fun H hH => yv_sub rfl rfl rfl e36) ?_
  refine eM ?_
  refine de_eff0 rfl rfl rfl rfl (Yield.weak (yl_ob (ob' := (⟨32, 10, true, true, v8, [[int x22.Master.Entities, int x22.Master.Periods, lst 1 fI x22.Master.Weights, lst 1 (fL 1 fI) x22.Master.Methods, lst 1 (fL 1 fI) x22.Master.Costs, lst 8 GEnt.av x22.Ents, lst 8 GReceipt.av x22.Receipts, .sc (.slice none 0 0), lst 6 GTransit.av x22.Transits, int x22.Done]]⟩ : AObj)) (yl_store rfl sh32 rfl rfl rfl rfl rfl rfl rfl rfl rfl) rfl) (fun _ h => h) (fun _ _ => trivial)) (by rintro _ _ ⟨rfl, rfl⟩; exact ⟨rfl, trivial⟩) ?_; rintro _ _ ⟨rfl, rfl⟩
  iterate 3 refine eA ?_
  refine de_nil (hK _ ?_)
  obtain rfl := nxt_e h0
  refine wR hret (rC sh32 (rT (rT (rT .nil)))) ?_
  exact .refl _
def d_ref07_in (a1 : GLine) : Option (Bool) :=
(show Option (Bool) from
bnd (decide (a1.Account ≥ 0)) fun x4 =>
cond x4 (bnd (decide (a1.Account < 17)) fun x5 =>
cond x5 ((d_ref01_In a1.Amount).bind fun x6 =>
some (x6 : Bool)) (some (false : Bool))) (some (false : Bool))).bind <| fun y0_1 =>
some ((y0_1 : Bool))
theorem d_ref07_in_c {a1 : GLine} {r : Bool} (h0 : d_ref07_in a1 = some r) : PP Tryz.prog 120 [.agg (GLine.av a1)] (fun y => y = boo r) := by
  unfold d_ref07_in at h0
  refine pp_of_pc (R0 := fun y H => Cv (frzH H) y (boo r)) ?_ (fun y H hc => ⟨_, rfl, pvB r, hc⟩)
  refine pcw (c := _) Tryz.func120 rfl rfl ?_; intro Q hret hnorm
  refine tc tbk 2 (.mk ?_)
  refine sB 1 fun v2 => ?_
  refine tr tbk 3 (.mk ?_)
  refine jn h0 [] [] (fun (a : Bool) (k : Unit) => [(2, boo a)]) (fun a k => []) ⟨fun j3 h1 => ?_, ?_⟩
  refine tc tbk 3 (.mk ?_)
  refine nb tbk h1 fun x4 h1 => ?_
  refine tr tbk 1 (.mk ?_)
  cases x4
  replace h1 := cf h1
  refine tr tbk 11 (.mk ?_)
  exact lf h1 () leA
  replace h1 := ct h1
  refine tr tbk 2 (.mk ?_)
  refine nb tbk h1 fun x5 h1 => ?_
  refine tr tbk 2 (.mk ?_)
  cases x5
  replace h1 := cf h1
  refine tr tbk 6 (.mk ?_)
  exact lf h1 () leA
  replace h1 := ct h1
  refine tr tbk 2 (.mk ?_)
  obtain ⟨x6, e6, h1⟩ := bind_e h1
  refine sC cal91 (d_ref01_In_c e6) ?_
  refine tr tbk 3 (.mk ?_)
  exact lf h1 () leA
  rintro y0_1 _ h0
  obtain rfl := nxt_e h0
  refine wR hret (rT .nil) ?_
  exact .refl _
def d_ref07_Plain_L0 (a1 : List GLine) : Nat → Int → Option (Unit)
  | 0, _ => none
  | n + 1, y0_1 =>
    bnd (decide (y0_1 < (a1.length : Int))) fun x3 =>
    cond x3 ((ix a1 y0_1).bind fun x4 =>
    (d_ref07_in x4).bind fun x5 =>
    bnd (!x5) fun x6 =>
    asrt (x6 = false) <|
    bnd (w64 (y0_1 + 1)) fun x7 =>
    d_ref07_Plain_L0 a1 n (x7 : Int)) (some ())
def d_ref07_Plain_L1 (a1 : List GLine) : Nat → Int → (List Int) → Option ((List Int))
  | 0, _, _ => none
  | n + 1, y2_1, y2_2 =>
    bnd (decide (y2_1 < (a1.length : Int))) fun x10 =>
    cond x10 ((ix a1 y2_1).bind fun x11 =>
    asrt ((0 : Int) ≤ x11.Account ∧ x11.Account < (17 : Int)) <|
    (ix y2_2 x11.Account).bind fun x13 =>
    (ix a1 y2_1).bind fun x14 =>
    (d_ref01_Add x13 x14.Amount).bind fun x15 =>
    bnd (decide (x15.2 ≠ 0)) fun x16 =>
    asrt (x16 = false) <|
    (ix a1 y2_1).bind fun x17 =>
    asrt ((0 : Int) ≤ x17.Account ∧ x17.Account < (17 : Int)) <|
    (ix y2_2 x17.Account).bind fun x19 =>
    bnd (y2_2.set (Int.toNat x17.Account) x15.1) fun x20 =>
    bnd (w64 (y2_1 + 1)) fun x21 =>
    d_ref07_Plain_L1 a1 n (x21 : Int) (x20 : List Int)) (some (y2_2 : List Int))
def d_ref07_Plain_L2 (y3_1 : List Int) : Nat → Int → (List GLine) → Option ((List GLine))
  | 0, _, _ => none
  | n + 1, y4_2, y4_3 =>
    bnd (decide (y4_2 < 17)) fun x24 =>
    cond x24 ((show Option ((List GLine)) from
    asrt ((0 : Int) ≤ y4_2 ∧ y4_2 < (17 : Int)) <|
    (ix y3_1 y4_2).bind fun x27 =>
    bnd (decide (x27 ≠ 0)) fun x28 =>
    cond x28 (asrt ((0 : Int) ≤ y4_2 ∧ y4_2 < (17 : Int)) <|
    bnd (y4_3 ++ ([(⟨y4_2, x27⟩ : GLine)] : List GLine)) fun x30 =>
    asrt (x30.length ≤ 68719476736) <|
    some (x30 : List GLine)) (some (y4_3 : List GLine))).bind <| fun y5_2 =>
    bnd (w64 (y4_2 + 1)) fun x33 =>
    d_ref07_Plain_L2 y3_1 n (x33 : Int) (y5_2 : List GLine)) (some (y4_3 : List GLine))
def d_ref07_Plain (n : Nat) (a1 : List GLine) : Option ((List GLine) × Int) :=
(show Option (Unit) from
d_ref07_Plain_L0 a1 n (0 : Int)).bind <| fun _ =>
(show Option ((List Int)) from
d_ref07_Plain_L1 a1 n (0 : Int) ((List.replicate 17 0) : List Int)).bind <| fun y3_1 =>
(show Option ((List GLine)) from
d_ref07_Plain_L2 y3_1 n (0 : Int) (([] : List GLine) : List GLine)).bind <| fun y6_2 =>
some ((y6_2 : List GLine), (0 : Int))
theorem d_ref07_Plain_c {n : Nat} {a1 : List GLine} {r : (List GLine) × Int} (h0 : d_ref07_Plain n a1 = some r) : PP Tryz.prog 97 [lst 2 GLine.av a1] (fun y => y = .tup [lst 2 GLine.av r.1, int r.2]) := by
  unfold d_ref07_Plain at h0
  refine pp_of_pc (R0 := fun y H => Cv (frzH H) y (.tup [lst 2 GLine.av r.1, int r.2])) ?_ (fun y H hc => ⟨_, rfl, .tup (pvl2 ((pvLs GLine.pvc) (r.1)) (pvI (r.2))), hc⟩)
  refine pcw (c := _) Tryz.func97 rfl rfl ?_; intro Q hret hnorm
  refine tc tbk 10 (.mk ?_)
  refine jn h0 [0, 2, 3] [] (fun (a : Unit) (k : Unit) => []) (fun a k => []) ⟨fun j2 h1 => ?_, ?_⟩
  refine tc tbk 1 (.mk ?_)
  refine lp (fun n (a : Int) => d_ref07_Plain_L0 a1 n a) (0 : Int) () h1 [0, 2, 3] [] (fun (a : Int) (k : Unit) => [(4, int a)]) (fun a k => []) (fun _ => rfl) ⟨leA, ?_⟩
  rintro n y0_1 _ hm h1
  replace h1 : d_ref07_Plain_L0 a1 (n + 1) y0_1 = some _ := h1
  rw [d_ref07_Plain_L0] at h1
  refine tc tbk 5 (.mk ?_)
  refine sY (yv_len_sl rfl Tryz.underlying64 rfl (lst_len _)) ?_
  refine nb tbk h1 fun x3 h1 => ?_
  refine tr tbk 1 (.mk ?_)
  cases x3
  replace h1 := cf h1
  refine tc tbk 2 (.mk ?_)
  exact lf h1 () leA
  replace h1 := ct h1
  refine tc tbk 8 (.mk ?_)
  obtain ⟨x4, e4, h1⟩ := bind_e h1
  refine sY (yv_ixT rfl Tryz.underlying64 sh63 rfl rfl e4) ?_
  refine tr tbk 1 (.mk ?_)
  obtain ⟨x5, e5, h1⟩ := bind_e h1
  refine sC cal120 (d_ref07_in_c e5) ?_
  refine nb tbk h1 fun x6 h1 => ?_
  refine tr tbk 1 (.mk ?_)
  replace h1 := asrt_e h1
  obtain ⟨rfl, h1⟩ := h1
  refine tc tbk 5 (.mk ?_)
  refine ni tbk h1 fun x7 h1 => ?_
  refine tr tbk 2 (.mk ?_)
  exact bk x7 () h1 leA
  rintro _ _ h0
  refine tc tbk 2 (.mk ?_)
  refine sA 1 z175 fun v8 => ?_
  refine tr tbk 6 (.mk ?_)
  refine jn h0 [2, 3, 5] [] (fun (a : (List Int)) (k : Unit) => []) (fun a k => [(1, ⟨175, 17, true, true, v8, [a.map int]⟩)]) ⟨fun j9 h1 => ?_, ?_⟩
  refine tc tbk 1 (.mk ?_)
  refine lp (fun n (a : Int × (List Int)) => d_ref07_Plain_L1 a1 n a.1 a.2) ((0 : Int), ((List.replicate 17 0) : List Int)) () h1 [0, 2, 3, 5] [] (fun (a : Int × (List Int)) (k : Unit) => [(6, int a.1)]) (fun a k => [(1, ⟨175, 17, true, true, v8, [a.2.map int]⟩)]) (fun _ => rfl) ⟨leA, ?_⟩
  rintro n ⟨y2_1, y2_2⟩ _ hm h1
  replace h1 : d_ref07_Plain_L1 a1 (n + 1) y2_1 y2_2 = some _ := h1
  rw [d_ref07_Plain_L1] at h1
  refine tc tbk 5 (.mk ?_)
  refine sY (yv_len_sl rfl Tryz.underlying64 rfl (lst_len _)) ?_
  refine nb tbk h1 fun x10 h1 => ?_
  refine tr tbk 1 (.mk ?_)
  cases x10
  replace h1 := cf h1
  refine tc tbk 2 (.mk ?_)
  exact lf h1 () leA
  replace h1 := ct h1
  refine tc tbk 5 (.mk ?_)
  refine c_drawE [0, 0, 3, 7, 15, 31, 63, 0, 0, 384, 896, 1920, 4095, 8191, 16383, 16383, 32767, 131071] (rl [(5, [1]), (6, [1])] []) (fun i => [1]) (fun i => true) [0, 1, 2, 3, 4, 5, 6, 7, 8, 9, 10, 11, 12, 13, 14, 15, 16, 17] mixed (by kernel_rfl) ?_; intro K hK
  iterate 2 refine eM ?_
  obtain ⟨x11, e11, h1⟩ := bind_e h1
  refine eP (fun H hH => yv_ixT rfl Tryz.underlying64 sh63 rfl rfl e11) ?_
  refine eP (fun H hH => yv_fieldAddr rfl fo63_0 rfl (.pp _) (.pp _ _)) ?_
  refine eP (fun H hH => yv_load rfl sh3 rfl (.pp _) rfl) ?_
  obtain ⟨p12, h1⟩ := asrt_e h1
  obtain ⟨x13, e13, h1⟩ := bind_e h1
  refine de_pure rfl rfl rfl rfl (fun H hH => yv_ixAR rfl Tryz.underlying175 sh3 rfl rfl ((hH _ (by decide)).trans rfl) rfl rfl p12) ?_
  refine de_pure rfl rfl rfl rfl (fun H hH => yv_ldAR rfl sh3 rfl ((hH _ (by decide)).trans rfl) rfl rfl e13) ?_
  iterate 2 refine eM ?_
  obtain ⟨x14, e14, h1⟩ := bind_e h1
  refine eP (fun H hH => yv_ixT rfl Tryz.underlying64 sh63 rfl rfl e14) ?_
  refine eP (fun H hH => yv_fieldAddr rfl fo63_1 rfl (.pp _) (.pp _ _)) ?_
  refine eP (fun H hH => yv_load rfl sh3 rfl (.pp _) rfl) ?_
  obtain ⟨x15, e15, h1⟩ := bind_e h1
  refine eP (fun H hH => yv_callP rfl rfl (.cons rfl (.cons rfl .nil)) cal55 (CvL.refl _) (d_ref01_Add_c e15)) ?_
  refine eM ?_
  iterate 2 refine eX ?_
  iterate 2 refine eA ?_
  refine de_nil (hK _ ?_)
  refine tc tbk 4 (.mk ?_)
  refine nb tbk h1 fun x16 h1 => ?_
  refine tr tbk 1 (.mk ?_)
  replace h1 := asrt_e h1
  obtain ⟨rfl, h1⟩ := h1
  refine tc tbk 5 (.mk ?_)
  obtain ⟨x17, e17, h1⟩ := bind_e h1
  refine sY (yv_ixT rfl Tryz.underlying64 sh63 rfl rfl e17) ?_
  refine tr tbk 3 (.mk ?_)
  obtain ⟨p18, h1⟩ := asrt_e h1
  obtain ⟨x19, e19, h1⟩ := bind_e h1
  refine sY (yv_ixAR rfl Tryz.underlying175 sh3 rfl rfl rfl rfl rfl p18) ?_
  obtain ⟨x20, e20, h1⟩ := bnd_e h1
  refine rsstore rfl rfl (yl_ob (ob' := (⟨175, 17, true, true, v8, [x20.map int]⟩ : AObj)) (yl_stAR rfl sh3 rfl rfl rfl rfl rfl rfl e19 e20) rfl) ?_
  refine tr tbk 4 (.mk ?_)
  refine ni tbk h1 fun x21 h1 => ?_
  refine tr tbk 2 (.mk ?_)
  exact bk (x21, x20) () h1 leA
  rintro y3_1 _ h0
  refine tc tbk 9 (.mk ?_)
  refine jn h0 [2, 3] [] (fun (a : (List GLine)) (k : Nat) => [(9, .sl 3 k 0 a.length)]) (fun a k => [(3, ⟨63, 2, true, true, k, a.map GLine.av⟩)]) ⟨fun j22 h1 => ?_, ?_⟩
  refine tc tbk 1 (.mk ?_)
  refine c_nilobj 9 3 63 2 rfl rfl ?_; intro v23
  refine lp (fun n (a : Int × (List GLine)) => d_ref07_Plain_L2 y3_1 n a.1 a.2) ((0 : Int), (([] : List GLine) : List GLine)) v23 h1 [2, 3, 5] [1] (fun (a : Int × (List GLine)) (k : Nat) => [(9, .sl 3 k 0 a.2.length), (10, int a.1)]) (fun a k => [(3, ⟨63, 2, true, true, k, a.2.map GLine.av⟩)]) (fun _ => rfl) ⟨leA, ?_⟩
  rintro n ⟨y4_2, y4_3⟩ w4_1 hm h1
  replace h1 : d_ref07_Plain_L2 y3_1 (n + 1) y4_2 y4_3 = some _ := h1
  rw [d_ref07_Plain_L2] at h1
  refine tc tbk 4 (.mk ?_)
  refine nb tbk h1 fun x24 h1 => ?_
  refine tr tbk 1 (.mk ?_)
  cases x24
  replace h1 := cf h1
  refine tc tbk 2 (.mk ?_)
  exact lf h1 w4_1 leA
  replace h1 := ct h1
  refine tc tbk 3 (.mk ?_)
  refine jn h1 [2, 3, 5, 10] [1] (fun (a : (List GLine)) (k : Nat) => [(9, .sl 3 k 0 a.length)]) (fun a k => [(3, ⟨63, 2, true, true, k, a.map GLine.av⟩)]) ⟨fun j25 h2 => ?_, ?_⟩
  refine tc tbk 4 (.mk ?_)
  obtain ⟨p26, h2⟩ := asrt_e h2
  obtain ⟨x27, e27, h2⟩ := bind_e h2
  refine sY (yv_ixAR rfl Tryz.underlying175 sh3 rfl rfl rfl rfl rfl p26) ?_
  refine sY (yv_ldAR rfl sh3 rfl rfl rfl rfl e27) ?_
  refine nb tbk h2 fun x28 h2 => ?_
  refine tr tbk 1 (.mk ?_)
  cases x28
  replace h2 := cf h2
  refine tc tbk 3 (.mk ?_)
  exact lf h2 w4_1 leA
  replace h2 := ct h2
  refine tc tbk 5 (.mk ?_)
  obtain ⟨p29, h2⟩ := asrt_e h2
  refine sY (yv_ixAR rfl Tryz.underlying175 sh3 rfl rfl rfl rfl rfl p29) ?_
  refine sY (yv_ldAR rfl sh3 rfl rfl rfl rfl e27) ?_
  refine tr tbk 1 (.mk ?_)
  refine sY (yv_to (y := lst 2 GLine.av ([(⟨y4_2, x27⟩ : GLine)] : List GLine)) (yv_buildSlice (ps := [(0, _)]) (rows := [[int y4_2, int x27]]) rfl Tryz.underlying64 bz63 (.cons rfl .nil) (by kernel_rfl) rfl rfl rfl) rfl) ?_
  obtain ⟨x30, e30, h2⟩ := bnd_e h2
  obtain ⟨p31, h2⟩ := asrt_e h2
  refine rse rfl rfl rfl (yl_appT (g := GLine.av) (l := y4_3) (m := ([(⟨y4_2, x27⟩ : GLine)] : List GLine)) .any rfl Tryz.underlying64 bz63 by63 rfl rfl rfl rfl rfl rfl rfl rfl rfl rfl (Eq.symm rfl) (.refl _) (fun _ => rfl) e30 p31) ?_; rintro _ _ ⟨v32, -, rfl, rfl⟩
  refine tr tbk 3 (.mk ?_)
  exact lf h2 v32 leA
  rintro y5_2 w5_1 h1
  refine tc tbk 2 (.mk ?_)
  refine ni tbk h1 fun x33 h1 => ?_
  refine tr tbk 2 (.mk ?_)
  exact bk (x33, y5_2) w5_1 h1 leA
  rintro y6_2 w6_1 h0
  refine tc tbk 6 (.mk ?_)
  obtain rfl := nxt_e h0
  refine wR hret (rT (rT .nil)) ?_
  exact CvL.tup (.cons (cv_lst rfl rfl rfl rfl rfl (Eq.symm rfl)) (.cons (.refl _) .nil))
def d_ref07_Check_L0 (a1 : List GLine) : Nat → Int → (List Int) → Option ((List Int))
  | 0, _, _ => none
  | n + 1, y0_2, y0_3 =>
    bnd (decide (y0_2 < (a1.length : Int))) fun x4 =>
    cond x4 ((show Option (Bool) from
    (ix a1 y0_2).bind fun x6 =>
    (d_ref07_in x6).bind fun x7 =>
    bnd (!x7) fun x8 =>
    cond x8 (some (true : Bool)) ((ix a1 y0_2).bind fun x9 =>
    bnd (decide (x9.Amount = 0)) fun x10 =>
    some (x10 : Bool))).bind <| fun y1_1 =>
    asrt (y1_1 = false) <|
    (ix a1 y0_2).bind fun x11 =>
    bnd (y0_3 ++ ([x11.Amount] : List Int)) fun x12 =>
    asrt (x12.length ≤ 68719476736) <|
    bnd (w64 (y0_2 + 1)) fun x15 =>
    d_ref07_Check_L0 a1 n (x15 : Int) (x12 : List Int)) (some (y0_3 : List Int))
def d_ref07_Check (n : Nat) (a1 : List GLine) : Option (Bool) :=
(show Option ((List Int)) from
d_ref07_Check_L0 a1 n (0 : Int) (([] : List Int) : List Int)).bind <| fun y2_2 =>
(d_ref01_Sum n y2_2).bind fun x16 =>
(show Option (Bool) from
bnd (decide ((a1.length : Int) ≥ 1)) fun x18 =>
cond x18 (bnd (decide ((a1.length : Int) ≤ 12)) fun x19 =>
cond x19 (bnd (decide (x16.2 = 0)) fun x20 =>
cond x20 (bnd (decide (x16.1 = 0)) fun x21 =>
some (x21 : Bool)) (some (false : Bool))) (some (false : Bool))) (some (false : Bool))).bind <| fun y3_1 =>
some ((y3_1 : Bool))
theorem d_ref07_Check_c {n : Nat} {a1 : List GLine} {r : Bool} (h0 : d_ref07_Check n a1 = some r) : PP Tryz.prog 121 [lst 2 GLine.av a1] (fun y => y = boo r) := by
  unfold d_ref07_Check at h0
  refine pp_of_pc (R0 := fun y H => Cv (frzH H) y (boo r)) ?_ (fun y H hc => ⟨_, rfl, pvB r, hc⟩)
  refine pcw (c := _) Tryz.func121 rfl rfl ?_; intro Q hret hnorm
  refine tc tbk 13 (.mk ?_)
  refine jn h0 [0, 2] [] (fun (a : (List Int)) (k : Nat) => [(3, .sl 2 k 0 a.length)]) (fun a k => [(2, ⟨3, 1, true, true, k, a.map fI⟩)]) ⟨fun j2 h1 => ?_, ?_⟩
  refine tc tbk 1 (.mk ?_)
  refine c_nilobj 3 2 3 1 rfl rfl ?_; intro v3
  refine lp (fun n (a : Int × (List Int)) => d_ref07_Check_L0 a1 n a.1 a.2) ((0 : Int), (([] : List Int) : List Int)) v3 h1 [0, 2] [] (fun (a : Int × (List Int)) (k : Nat) => [(3, .sl 2 k 0 a.2.length), (4, int a.1)]) (fun a k => [(2, ⟨3, 1, true, true, k, a.2.map fI⟩)]) (fun _ => rfl) ⟨leA, ?_⟩
  rintro n ⟨y0_2, y0_3⟩ w0_1 hm h1
  replace h1 : d_ref07_Check_L0 a1 (n + 1) y0_2 y0_3 = some _ := h1
  rw [d_ref07_Check_L0] at h1
  refine tc tbk 5 (.mk ?_)
  refine sY (yv_len_sl rfl Tryz.underlying64 rfl (lst_len _)) ?_
  refine nb tbk h1 fun x4 h1 => ?_
  refine tr tbk 1 (.mk ?_)
  cases x4
  replace h1 := cf h1
  refine tc tbk 2 (.mk ?_)
  exact lf h1 w0_1 leA
  replace h1 := ct h1
  refine tc tbk 6 (.mk ?_)
  refine jn h1 [0, 2, 3, 4] [2] (fun (a : Bool) (k : Unit) => [(26, boo a)]) (fun a k => []) ⟨fun j5 h2 => ?_, ?_⟩
  refine tc tbk 3 (.mk ?_)
  obtain ⟨x6, e6, h2⟩ := bind_e h2
  refine sY (yv_ixT rfl Tryz.underlying64 sh63 rfl rfl e6) ?_
  refine tr tbk 1 (.mk ?_)
  obtain ⟨x7, e7, h2⟩ := bind_e h2
  refine sC cal120 (d_ref07_in_c e7) ?_
  refine nb tbk h2 fun x8 h2 => ?_
  refine tr tbk 1 (.mk ?_)
  cases x8
  replace h2 := cf h2
  refine tr tbk 2 (.mk ?_)
  obtain ⟨x9, e9, h2⟩ := bind_e h2
  refine sY (yv_ixT rfl Tryz.underlying64 sh63 rfl rfl e9) ?_
  refine tr tbk 2 (.mk ?_)
  refine nb tbk h2 fun x10 h2 => ?_
  refine tr tbk 2 (.mk ?_)
  exact lf h2 () leA
  replace h2 := ct h2
  refine tr tbk 8 (.mk ?_)
  exact lf h2 () leA
  rintro y1_1 _ h1
  replace h1 := asrt_e h1
  obtain ⟨rfl, h1⟩ := h1
  refine tc tbk 6 (.mk ?_)
  obtain ⟨x11, e11, h1⟩ := bind_e h1
  refine sY (yv_ixT rfl Tryz.underlying64 sh63 rfl rfl e11) ?_
  refine tr tbk 2 (.mk ?_)
  refine sY (yv_to (y := lst 1 fI ([x11.Amount] : List Int)) (yv_buildSlice (ps := [(0, _)]) (rows := [[int x11.Amount]]) rfl Tryz.underlying23 bz3 (.cons rfl .nil) (by kernel_rfl) rfl rfl rfl) rfl) ?_
  obtain ⟨x12, e12, h1⟩ := bnd_e h1
  obtain ⟨p13, h1⟩ := asrt_e h1
  refine rse rfl rfl rfl (yl_appT (g := fI) (l := y0_3) (m := ([x11.Amount] : List Int)) .any rfl Tryz.underlying23 bz3 by3 rfl rfl rfl rfl rfl rfl rfl rfl rfl rfl (Eq.symm rfl) (.refl _) (fun _ => rfl) e12 p13) ?_; rintro _ _ ⟨v14, -, rfl, rfl⟩
  refine tr tbk 5 (.mk ?_)
  refine ni tbk h1 fun x15 h1 => ?_
  refine tr tbk 2 (.mk ?_)
  exact bk (x15, x12) v14 h1 leA
  rintro y2_2 w2_1 h0
  refine tc tbk 3 (.mk ?_)
  obtain ⟨x16, e16, h0⟩ := bind_e h0
  refine sY (yv_callT (v := .tup [int x16.1, int x16.2]) rfl rfl (.cons rfl .nil) cal30 (.cons (cv_lst rfl rfl rfl rfl rfl (Eq.symm rfl)) .nil) (d_ref01_Sum_c e16) rfl) ?_
  refine tr tbk 7 (.mk ?_)
  refine jn h0 [] [] (fun (a : Bool) (k : Unit) => [(2, boo a)]) (fun a k => []) ⟨fun j17 h1 => ?_, ?_⟩
  refine tc tbk 2 (.mk ?_)
  refine sY (yv_len_sl rfl Tryz.underlying64 rfl (lst_len _)) ?_
  refine nb tbk h1 fun x18 h1 => ?_
  refine tr tbk 1 (.mk ?_)
  cases x18
  replace h1 := cf h1
  refine tr tbk 14 (.mk ?_)
  exact lf h1 () leA
  replace h1 := ct h1
  refine tr tbk 1 (.mk ?_)
  refine sY (yv_len_sl rfl Tryz.underlying64 rfl (lst_len _)) ?_
  refine nb tbk h1 fun x19 h1 => ?_
  refine tr tbk 2 (.mk ?_)
  cases x19
  replace h1 := cf h1
  refine tr tbk 9 (.mk ?_)
  exact lf h1 () leA
  replace h1 := ct h1
  refine tr tbk 1 (.mk ?_)
  refine nb tbk h1 fun x20 h1 => ?_
  refine tr tbk 2 (.mk ?_)
  cases x20
  replace h1 := cf h1
  refine tr tbk 5 (.mk ?_)
  exact lf h1 () leA
  replace h1 := ct h1
  refine tr tbk 1 (.mk ?_)
  refine nb tbk h1 fun x21 h1 => ?_
  refine tr tbk 3 (.mk ?_)
  exact lf h1 () leA
  rintro y3_1 _ h0
  obtain rfl := nxt_e h0
  refine wR hret (rT .nil) ?_
  exact .refl _
def d_ref08_Post_L0 (x6 : (List GLine) × Int) : Nat → Int → (List Int) → Option ((List Int))
  | 0, _, _ => none
  | n + 1, y1_1, y1_2 =>
    bnd (decide (y1_1 < (x6.1.length : Int))) fun x15 =>
    cond x15 ((ix x6.1 y1_1).bind fun x16 =>
    (ix y1_2 x16.Account).bind fun x17 =>
    (ix x6.1 y1_1).bind fun x18 =>
    (d_ref01_Add x17 x18.Amount).bind fun x19 =>
    bnd (decide (x19.2 ≠ 0)) fun x20 =>
    asrt (x20 = false) <|
    (ix x6.1 y1_1).bind fun x21 =>
    (ix y1_2 x21.Account).bind fun x22 =>
    bnd (y1_2.set (Int.toNat x21.Account) (x19.1 : Int)) fun x23 =>
    bnd (w64 (y1_1 + 1)) fun x24 =>
    d_ref08_Post_L0 x6 n (x24 : Int) (x23 : List Int)) (some (y1_2 : List Int))
def d_ref08_Post (n : Nat) (a1 : List Int) (a2 : List GLine) : Option ((List Int) × Int) :=
bnd (decide ((a1.length : Int) ≠ 17)) fun x3 =>
asrt (x3 = false) <|
asrt (a1.length ≤ 68719476736) <|
(d_ref07_Plain n a2).bind fun x6 =>
(show Option (Bool) from
bnd (decide (x6.2 ≠ 0)) fun x8 =>
cond x8 (some (true : Bool)) (bnd (decide ((x6.1.length : Int) > 0)) fun x9 =>
cond x9 ((d_ref07_Check n x6.1).bind fun x10 =>
bnd (!x10) fun x11 =>
some (x11 : Bool)) (some (false : Bool)))).bind <| fun y0_1 =>
asrt (y0_1 = false) <|
asrt (a1.length ≤ 68719476736) <|
(show Option ((List Int)) from
d_ref08_Post_L0 x6 n (0 : Int) (a1 : List Int)).bind <| fun y2_1 =>
some ((y2_1 : List Int), (0 : Int))
theorem d_ref08_Post_c {n : Nat} {a1 : List Int} {a2 : List GLine} {r : (List Int) × Int} (h0 : d_ref08_Post n a1 a2 = some r) : PP Tryz.prog 98 [lst 1 fI a1, lst 2 GLine.av a2] (fun y => y = .tup [lst 1 fI r.1, int r.2]) := by
  unfold d_ref08_Post at h0
  refine pp_of_pc (R0 := fun y H => Cv (frzH H) y (.tup [lst 1 fI r.1, int r.2])) ?_ (fun y H hc => ⟨_, rfl, .tup (pvl2 ((pvLs pvcI) (r.1)) (pvI (r.2))), hc⟩)
  refine pcw (c := _) Tryz.func98 rfl rfl ?_; intro Q hret hnorm
  refine tc tbk 9 (.mk ?_)
  refine sY (yv_len_sl rfl Tryz.underlying23 rfl (lst_len _)) ?_
  refine nb tbk h0 fun x3 h0 => ?_
  refine tr tbk 1 (.mk ?_)
  replace h0 := asrt_e h0
  obtain ⟨rfl, h0⟩ := h0
  refine tc tbk 5 (.mk ?_)
  obtain ⟨p4, h0⟩ := asrt_e h0
  refine rse rfl rfl rfl (yl_app0T (g := fI) (m := a1) 1 rfl Tryz.underlying23 bz3 by3 rfl rfl rfl rfl (.refl _) (fun _ => rfl) p4) ?_; rintro _ _ ⟨v5, rfl, rfl⟩
  refine tr tbk 5 (.mk ?_)
  obtain ⟨x6, e6, h0⟩ := bind_e h0
  refine sC cal97 (d_ref07_Plain_c e6) ?_
  refine tr tbk 8 (.mk ?_)
  refine jn h0 [0, 4, 5, 6, 7] [1] (fun (a : Bool) (k : Unit) => [(34, boo a)]) (fun a k => []) ⟨fun j7 h1 => ?_, ?_⟩
  refine tc tbk 2 (.mk ?_)
  refine nb tbk h1 fun x8 h1 => ?_
  refine tr tbk 1 (.mk ?_)
  cases x8
  replace h1 := cf h1
  refine tr tbk 1 (.mk ?_)
  refine sY (yv_len_sl rfl Tryz.underlying64 rfl (lst_len _)) ?_
  refine nb tbk h1 fun x9 h1 => ?_
  refine tr tbk 1 (.mk ?_)
  cases x9
  replace h1 := cf h1
  refine tr tbk 6 (.mk ?_)
  exact lf h1 () leA
  replace h1 := ct h1
  refine tr tbk 1 (.mk ?_)
  obtain ⟨x10, e10, h1⟩ := bind_e h1
  refine sC cal121 (d_ref07_Check_c e10) ?_
  refine nb tbk h1 fun x11 h1 => ?_
  refine tr tbk 3 (.mk ?_)
  exact lf h1 () leA
  replace h1 := ct h1
  refine tr tbk 10 (.mk ?_)
  exact lf h1 () leA
  rintro y0_1 _ h0
  replace h0 := asrt_e h0
  obtain ⟨rfl, h0⟩ := h0
  refine tc tbk 5 (.mk ?_)
  obtain ⟨p12, h0⟩ := asrt_e h0
  refine rse rfl rfl rfl (yl_app0T (g := fI) (m := a1) 2 rfl Tryz.underlying23 bz3 by3 rfl rfl rfl rfl (.refl _) (fun _ => rfl) p12) ?_; rintro _ _ ⟨v13, rfl, rfl⟩
  refine tr tbk 7 (.mk ?_)
  refine jn h0 [4, 5] [] (fun (a : (List Int)) (k : Unit) => [(9, .sl 2 v13 0 a.length)]) (fun a k => [(2, ⟨3, 1, true, true, v13, a.map fI⟩)]) ⟨fun j14 h1 => ?_, ?_⟩
  refine tc tbk 1 (.mk ?_)
  refine lp (fun n (a : Int × (List Int)) => d_ref08_Post_L0 x6 n a.1 a.2) ((0 : Int), (a1 : List Int)) () h1 [4, 5, 6, 7] [1] (fun (a : Int × (List Int)) (k : Unit) => [(9, .sl 2 v13 0 a.2.length), (10, int a.1)]) (fun a k => [(2, ⟨3, 1, true, true, v13, a.2.map fI⟩)]) (fun _ => rfl) ⟨leA, ?_⟩
  rintro n ⟨y1_1, y1_2⟩ _ hm h1
  replace h1 : d_ref08_Post_L0 x6 (n + 1) y1_1 y1_2 = some _ := h1
  rw [d_ref08_Post_L0] at h1
  refine tc tbk 5 (.mk ?_)
  refine sY (yv_len_sl rfl Tryz.underlying64 rfl (lst_len _)) ?_
  refine nb tbk h1 fun x15 h1 => ?_
  refine tr tbk 1 (.mk ?_)
  cases x15
  replace h1 := cf h1
  refine tc tbk 2 (.mk ?_)
  exact lf h1 () leA
  replace h1 := ct h1
  refine tc tbk 5 (.mk ?_)
  refine c_drawE [0, 0, 0, 6, 14, 30, 63, 127, 0, 0, 768, 1792, 3840, 8191, 16383, 32767, 32767, 65535, 262143] (rl [(6, [2]), (7, [2])] []) (fun i => [2]) (fun i => true) [0, 1, 2, 3, 4, 5, 6, 7, 8, 9, 10, 11, 12, 13, 14, 15, 16, 17, 18] mixed (by kernel_rfl) ?_; intro K hK
  iterate 3 refine eM ?_
  obtain ⟨x16, e16, h1⟩ := bind_e h1
  refine eP (fun H hH => yv_ixT rfl Tryz.underlying64 sh63 rfl rfl e16) ?_
  refine eP (fun H hH => yv_fieldAddr rfl fo63_0 rfl (.pp _) (.pp _ _)) ?_
  refine eP (fun H hH => yv_load rfl sh3 rfl (.pp _) rfl) ?_
  obtain ⟨x17, e17, h1⟩ := bind_e h1
  refine de_pure rfl rfl rfl rfl (fun H hH => yv_ixO rfl Tryz.underlying23 sh3 rfl rfl ((hH _ (by decide)).trans rfl) rfl rfl (Eq.symm rfl) (List.length_map _) e17) ?_
  refine eL sh3 (hr := ix_get e17) ?_
  iterate 2 refine eM ?_
  obtain ⟨x18, e18, h1⟩ := bind_e h1
  refine eP (fun H hH => yv_ixT rfl Tryz.underlying64 sh63 rfl rfl e18) ?_
  refine eP (fun H hH => yv_fieldAddr rfl fo63_1 rfl (.pp _) (.pp _ _)) ?_
  refine eP (fun H hH => yv_load rfl sh3 rfl (.pp _) rfl) ?_
  obtain ⟨x19, e19, h1⟩ := bind_e h1
  refine eP (fun H hH => yv_callP rfl rfl (.cons rfl (.cons rfl .nil)) cal55 (CvL.refl _) (d_ref01_Add_c e19)) ?_
  refine eM ?_
  iterate 2 refine eX ?_
  iterate 2 refine eA ?_
  refine de_nil (hK _ ?_)
  refine tc tbk 4 (.mk ?_)
  refine nb tbk h1 fun x20 h1 => ?_
  refine tr tbk 1 (.mk ?_)
  replace h1 := asrt_e h1
  obtain ⟨rfl, h1⟩ := h1
  refine tc tbk 6 (.mk ?_)
  obtain ⟨x21, e21, h1⟩ := bind_e h1
  refine sY (yv_ixT rfl Tryz.underlying64 sh63 rfl rfl e21) ?_
  refine tr tbk 3 (.mk ?_)
  obtain ⟨x22, e22, h1⟩ := bind_e h1
  refine sY (yv_ixO rfl Tryz.underlying23 sh3 rfl rfl rfl rfl rfl (Eq.symm rfl) (List.length_map _) e22) ?_
  obtain ⟨x23, e23, h1⟩ := bnd_e h1
  have fx23 := ix_set e22 e23; have lx23 := len_setV e23 (rfl : y1_2.length = y1_2.length)
  refine rsstore rfl rfl (yl_ob (ob' := (⟨3, 1, true, true, v13, x23.map fI⟩ : AObj)) (yl_store rfl sh3 rfl rfl rfl rfl rfl (ix_get e22) rfl rfl rfl) (ob_eq (map_setV e23))) ?_
  refine tr tbk 4 (.mk ?_)
  refine ni tbk h1 fun x24 h1 => ?_
  refine tr tbk 2 (.mk ?_)
  exact bk (x24, x23) () h1 (leH_kn ⟨⟨_, rfl, (cv_slen (Eq.symm lx23))⟩, ⟨_, rfl, (.refl _)⟩, ⟨_, rfl, (.refl _)⟩, ⟨_, rfl, (.refl _)⟩, ⟨_, rfl, (.refl _)⟩, ⟨_, rfl, (.refl _)⟩, trivial⟩ ⟨⟨_, rfl, (.refl _)⟩, ⟨_, rfl, (.refl _)⟩, trivial⟩)
  rintro y2_1 _ h0
  refine tc tbk 6 (.mk ?_)
  obtain rfl := nxt_e h0
  refine wR hret (rT (rT .nil)) ?_
  exact CvL.tup (.cons (cv_lst rfl rfl rfl rfl rfl (Eq.symm rfl)) (.cons (.refl _) .nil))
def d_ref14_Post (n : Nat) (a1 : GState) (a2 : Int) (a3 : List GLine) : Option (GState × Int) :=
bnd (w64 ((a1.Ents.length : Int) - 1)) fun x6 =>
(d_ref14_to a2 x6).bind fun x7 =>
bnd (!x7) fun x8 =>
asrt (x8 = false) <|
(d_ref07_Plain n a3).bind fun x9 =>
bnd (decide (x9.2 ≠ 0)) fun x10 =>
asrt (x10 = false) <|
(ix a1.Ents a2).bind fun x11 =>
(d_ref08_Post n x11.Bal x9.1).bind fun x12 =>
bnd (decide (x12.2 ≠ 0)) fun x13 =>
asrt (x13 = false) <|
(show Option ((Int × Bool × (List GEnt) × (List GPool) × (List Int) × (List GRoll) × (List Int) × (List Int))) from
asrt (a1.Ents.length ≤ 68719476736) <|
(ix a1.Ents a2).bind fun x19 =>
asrt (x19.Pools.length ≤ 68719476736) <|
asrt (x19.Bal.length ≤ 68719476736) <|
asrt (x19.Rolls.length ≤ 68719476736) <|
asrt (x19.Prices.length ≤ 68719476736) <|
asrt (x19.Down.length ≤ 68719476736) <|
some ((x19.Now : Int), (x19.Closed : Bool), (x19.Ahead : List GEnt), (x19.Pools : List GPool), (x19.Bal : List Int), (x19.Rolls : List GRoll), (x19.Prices : List Int), (x19.Down : List Int))).bind <| p2 fun (y0_2 : Int) (q0 : Bool × (List GEnt) × (List GPool) × (List Int) × (List GRoll) × (List Int) × (List Int)) => (p2 fun (y0_3 : Bool) (q1 : (List GEnt) × (List GPool) × (List Int) × (List GRoll) × (List Int) × (List Int)) => (p2 fun (y0_9 : List GEnt) (q2 : (List GPool) × (List Int) × (List GRoll) × (List Int) × (List Int)) => (p2 fun (y0_10 : List GPool) (q3 : (List Int) × (List GRoll) × (List Int) × (List Int)) => (p2 fun (y0_11 : List Int) (q4 : (List GRoll) × (List Int) × (List Int)) => (p2 fun (y0_12 : List GRoll) (q5 : (List Int) × (List Int)) => (p2 fun (y0_13 : List Int) (y0_14 : List Int) =>
(ix a1.Ents a2).bind fun x30 =>
some (((⟨a1.Master, (a1.Ents.set (Int.toNat a2) (⟨y0_2, y0_3, y0_10, x12.1, y0_12, y0_13, y0_14, y0_9⟩ : GEnt)), a1.Receipts, [], a1.Transits, a1.Done⟩ : GState) : GState), (0 : Int))) q5) q4) q3) q2) q1) q0
theorem d_ref14_Post_c {n : Nat} {a1 : GState} {a2 : Int} {a3 : List GLine} {r : GState × Int} (h0 : d_ref14_Post n a1 a2 a3 = some r) : PP Tryz.prog 58 [.agg (GState.avN a1), int a2, lst 2 GLine.av a3] (fun y => y = .tup [.agg (GState.avN r.1), int r.2]) := by
  unfold d_ref14_Post at h0
  refine pp_of_pc (R0 := fun y H => Cv (frzH H) y (.tup [.agg (GState.avN r.1), int r.2])) ?_ (fun y H hc => ⟨_, rfl, .tup (pvl2 ((fun (a : GState) => PV.agg (GState.pvcN a)) (r.1)) (pvI (r.2))), hc⟩)
  refine pcw (c := _) Tryz.func58 rfl rfl ?_; intro Q hret hnorm
  refine tc tbk 2 (.mk ?_)
  refine sB 1 fun v4 => ?_
  refine sA 2 z32 fun v5 => ?_
  refine tr tbk 8 (.mk ?_)
  refine sY (yv_len_sl rfl Tryz.underlying27 rfl (lst_len _)) ?_
  refine ni tbk h0 fun x6 h0 => ?_
  obtain ⟨x7, e7, h0⟩ := bind_e h0
  refine sC cal93 (d_ref14_to_c e7) ?_
  refine nb tbk h0 fun x8 h0 => ?_
  refine tr tbk 1 (.mk ?_)
  replace h0 := asrt_e h0
  obtain ⟨rfl, h0⟩ := h0
  refine tc tbk 5 (.mk ?_)
  obtain ⟨x9, e9, h0⟩ := bind_e h0
  refine sC cal97 (d_ref07_Plain_c e9) ?_
  refine tr tbk 10 (.mk ?_)
  refine nb tbk h0 fun x10 h0 => ?_
  refine tr tbk 1 (.mk ?_)
  replace h0 := asrt_e h0
  obtain ⟨rfl, h0⟩ := h0
  refine tc tbk 7 (.mk ?_)
  obtain ⟨x11, e11, h0⟩ := bind_e h0
  refine sY (yv_to (y := .pp [int x11.Now, boo x11.Closed, lst 4 GPool.av x11.Pools, lst 1 fI x11.Bal, lst 11 GRoll.av x11.Rolls, lst 1 fI x11.Prices, lst 1 fI x11.Down, lst 8 GEnt.av x11.Ahead]) (yv_ixT rfl Tryz.underlying27 sh40 rfl rfl e11) (congrArg AV.pp (GEnt.av_eq x11))) ?_
  refine tr tbk 3 (.mk ?_)
  obtain ⟨x12, e12, h0⟩ := bind_e h0
  refine sC cal98 (d_ref08_Post_c e12) ?_
  refine tr tbk 10 (.mk ?_)
  refine nb tbk h0 fun x13 h0 => ?_
  refine tr tbk 1 (.mk ?_)
  replace h0 := asrt_e h0
  obtain ⟨rfl, h0⟩ := h0
  refine tc tbk 6 (.mk ?_)
  obtain ⟨j14, h1, h0⟩ := bind_e h0
  refine rse (Out := fun y H' => (∃ (a : Int × Bool × (List GEnt) × (List GPool) × (List Int) × (List GRoll) × (List Int) × (List Int)) (k : Nat × Nat × Nat × Nat × Nat × Nat), a = j14 ∧ y = .agg [int a1.Master.Entities, int a1.Master.Periods, lst 1 fI a1.Master.Weights, lst 1 (fL 1 fI) a1.Master.Methods, lst 1 (fL 1 fI) a1.Master.Costs, .sl 5 k.1 0 a1.Ents.length, lst 8 GReceipt.av a1.Receipts, .sc (.slice none 0 0), lst 6 GTransit.av a1.Transits, int a1.Done] ∧ H' = hk [(1, ⟨32, 10, true, true, v4, [[int a1.Master.Entities, int a1.Master.Periods, lst 1 fI a1.Master.Weights, lst 1 (fL 1 fI) a1.Master.Methods, lst 1 (fL 1 fI) a1.Master.Costs, lst 8 GEnt.av a1.Ents, lst 8 GReceipt.av a1.Receipts, .sc (.slice none 0 0), lst 6 GTransit.av a1.Transits, int a1.Done]]⟩), (2, ⟨32, 10, true, true, v5, [[int 0, int 0, .sc (.slice none 0 0), .sc (.slice none 0 0), .sc (.slice none 0 0), .sc (.slice none 0 0), .sc (.slice none 0 0), .sc (.slice none 0 0), .sc (.slice none 0 0), int 0]]⟩), (5, ⟨40, 8, true, true, k.1, (a1.Ents.map GEnt.av).set (Int.toNat a2) [int a.1, boo a.2.1, .sl 6 k.2.1 0 a.2.2.2.1.length, .sl 7 k.2.2.1 0 a.2.2.2.2.1.length, .sl 8 k.2.2.2.1 0 a.2.2.2.2.2.1.length, .sl 9 k.2.2.2.2.1 0 a.2.2.2.2.2.2.1.length, .sl 10 k.2.2.2.2.2 0 a.2.2.2.2.2.2.2.length, lst 8 GEnt.av a.2.2.1]⟩), (6, ⟨82, 4, true, true, k.2.1, a.2.2.2.1.map GPool.av⟩), (7, ⟨3, 1, true, true, k.2.2.1, a.2.2.2.2.1.map fI⟩), (8, ⟨67, 11, true, true, k.2.2.2.1, a.2.2.2.2.2.1.map GRoll.av⟩), (9, ⟨3, 1, true, true, k.2.2.2.2.1, a.2.2.2.2.2.2.1.map fI⟩), (10, ⟨3, 1, true, true, k.2.2.2.2.2, a.2.2.2.2.2.2.2.map fI⟩)])) rfl rfl rfl (yl_call rfl rfl (.cons rfl (.cons rfl .nil)) cal99 ?_) ?_
  refine pcw (c := _) Tryz.func99 rfl rfl ?_; intro Q hret hnorm
  refine tc tbk 2 (.mk ?_)
  refine sB 3 fun v15 => ?_
  refine sA 4 z32 fun v16 => ?_
  refine tr tbk 5 (.mk ?_)
  obtain ⟨p17, h1⟩ := asrt_e h1
  refine rse rfl rfl rfl (yl_app0T (g := GEnt.av) (m := a1.Ents) 5 rfl Tryz.underlying27 bz40 by40 rfl rfl rfl rfl (.refl _) GEnt.one p17) ?_; rintro _ _ ⟨v18, rfl, rfl⟩
  refine tr tbk 1 (.mk ?_)
  refine sS ⟨32, 10, true, true, v15, [[int a1.Master.Entities, int a1.Master.Periods, lst 1 fI a1.Master.Weights, lst 1 (fL 1 fI) a1.Master.Methods, lst 1 (fL 1 fI) a1.Master.Costs, .sl 5 v18 0 a1.Ents.length, lst 8 GReceipt.av a1.Receipts, .sc (.slice none 0 0), lst 6 GTransit.av a1.Transits, int a1.Done]]⟩ sh27 ?_
  refine tr tbk 6 (.mk ?_)
  obtain ⟨x19, e19, h1⟩ := bind_e h1
  refine sY (yv_ixO rfl Tryz.underlying27 sh40 rfl rfl rfl rfl rfl (Eq.symm rfl) (List.length_map _) e19) ?_
  refine tr tbk 3 (.mk ?_)
  refine c_drawE [0, 0, 0, 0, 8, 24, 56, 120, 0, 256, 768, 1792, 4088, 0, 8192, 24576, 57344, 131064, 262137, 524281, 1048569, 2097147, 4194299, 8388603, 16777215, 33554431, 67108863] (rl [(4, [5]), (5, [5]), (6, [5]), (9, [5]), (10, [5]), (11, [5]), (14, [5]), (15, [5]), (16, [5]), (18, [5]), (19, [5]), (21, [5]), (22, [5]), (24, [5]), (25, [5])] []) (rl [(17, []), (20, []), (23, []), (26, [])] [5]) (rl [(7, false), (12, false), (17, false), (20, false), (23, false), (26, false)] true) [0, 1, 2, 3, 4, 5, 6, 8, 9, 10, 11, 13, 14, 15, 16, 7, 12, 17, 18, 19, 20, 21, 22, 23, 24, 25, 26] mixed (by kernel_rfl) ?_; intro K hK
  iterate 4 refine eM ?_
  refine eN (hr := ix_get' e19 (GEnt.av_eq _)) ?_
  refine eF fo40_2 (hr := ix_get' e19 (GEnt.av_eq _)) ?_
  refine eL sh37 (hr := ix_get' e19 (GEnt.av_eq _)) ?_
  refine eM ?_
  refine eN (hr := ix_get' e19 (GEnt.av_eq _)) ?_
  refine eF fo40_3 (hr := ix_get' e19 (GEnt.av_eq _)) ?_
  refine eL sh23 (hr := ix_get' e19 (GEnt.av_eq _)) ?_
  refine eM ?_
  refine eN (hr := ix_get' e19 (GEnt.av_eq _)) ?_
  refine eF fo40_4 (hr := ix_get' e19 (GEnt.av_eq _)) ?_
  refine eL sh38 (hr := ix_get' e19 (GEnt.av_eq _)) ?_
  obtain ⟨p20, h1⟩ := asrt_e h1
  refine de_eff rfl rfl rfl rfl (yl_app0T (g := GPool.av) (m := x19.Pools) 6 rfl Tryz.underlying37 bz82 by82 rfl rfl rfl rfl (.refl _) (fun _ => rfl) p20) (by rintro _ _ ⟨v21, rfl, rfl⟩; exact ⟨rfl, trivial⟩) ?_; rintro _ _ ⟨v21, rfl, rfl⟩
  obtain ⟨p22, h1⟩ := asrt_e h1
  refine de_eff rfl rfl rfl rfl (yl_app0T (g := fI) (m := x19.Bal) 7 rfl Tryz.underlying23 bz3 by3 rfl rfl rfl rfl (.refl _) (fun _ => rfl) p22) (by rintro _ _ ⟨v23, rfl, rfl⟩; exact ⟨rfl, trivial⟩) ?_; rintro _ _ ⟨v23, rfl, rfl⟩
  obtain ⟨p24, h1⟩ := asrt_e h1
  refine de_eff rfl rfl rfl rfl (yl_app0T (g := GRoll.av) (m := x19.Rolls) 8 rfl Tryz.underlying38 bz67 by67 rfl rfl rfl rfl (.refl _) (fun _ => rfl) p24) (by rintro _ _ ⟨v25, rfl, rfl⟩; exact trivial) ?_; rintro _ _ ⟨v25, rfl, rfl⟩
  refine eN (hr := ix_get' e19 (GEnt.av_eq _)) ?_
  refine eF fo40_2 (hr := ix_get' e19 (GEnt.av_eq _)) ?_
  refine de_eff0 rfl rfl rfl rfl (Yield.weak (yl_ob (ob' := (⟨40, 8, true, true, v18, (a1.Ents.map GEnt.av).set (Int.toNat a2) [int x19.Now, boo x19.Closed, .sl 6 v21 0 x19.Pools.length, lst 1 fI x19.Bal, lst 11 GRoll.av x19.Rolls, lst 1 fI x19.Prices, lst 1 fI x19.Down, lst 8 GEnt.av x19.Ahead]⟩ : AObj)) (yl_store rfl sh37 rfl rfl rfl rfl rfl (ix_get' e19 (GEnt.av_eq _)) rfl rfl rfl) (ob_eq rfl)) (fun _ h => h) (fun _ _ => trivial)) (by rintro _ _ ⟨rfl, rfl⟩; exact trivial) ?_; rintro _ _ ⟨rfl, rfl⟩
  refine eN (hr := set_get e19) ?_
  refine eF fo40_3 (hr := set_get e19) ?_
  refine de_eff0 rfl rfl rfl rfl (Yield.weak (yl_ob (ob' := (⟨40, 8, true, true, v18, (a1.Ents.map GEnt.av).set (Int.toNat a2) [int x19.Now, boo x19.Closed, .sl 6 v21 0 x19.Pools.length, .sl 7 v23 0 x19.Bal.length, lst 11 GRoll.av x19.Rolls, lst 1 fI x19.Prices, lst 1 fI x19.Down, lst 8 GEnt.av x19.Ahead]⟩ : AObj)) (yl_store rfl sh23 rfl rfl rfl rfl rfl (set_get e19) rfl rfl rfl) (ob_eq set_setV)) (fun _ h => h) (fun _ _ => trivial)) (by rintro _ _ ⟨rfl, rfl⟩; exact trivial) ?_; rintro _ _ ⟨rfl, rfl⟩
  refine eN (hr := set_get e19) ?_
  refine eF fo40_4 (hr := set_get e19) ?_
  refine de_eff0 rfl rfl rfl rfl (Yield.weak (yl_ob (ob' := (⟨40, 8, true, true, v18, (a1.Ents.map GEnt.av).set (Int.toNat a2) [int x19.Now, boo x19.Closed, .sl 6 v21 0 x19.Pools.length, .sl 7 v23 0 x19.Bal.length, .sl 8 v25 0 x19.Rolls.length, lst 1 fI x19.Prices, lst 1 fI x19.Down, lst 8 GEnt.av x19.Ahead]⟩ : AObj)) (yl_store rfl sh38 rfl rfl rfl rfl rfl (set_get e19) rfl rfl rfl) (ob_eq set_setV)) (fun _ h => h) (fun _ _ => trivial)) (by rintro _ _ ⟨rfl, rfl⟩; exact trivial) ?_; rintro _ _ ⟨rfl, rfl⟩
  refine de_nil (hK _ ?_)
  refine tc tbk 1 (.mk ?_)
  refine c_drawE [0, 0, 0, 4, 12, 28, 60, 0, 128, 384, 896, 2044, 4093, 8189, 16381, 32767, 65535, 131071] (rl [(3, [5]), (4, [5]), (5, [5]), (8, [5]), (9, [5]), (10, [5]), (12, [5]), (13, [5]), (15, [5]), (16, [5])] []) (rl [(11, []), (14, []), (17, [])] [5]) (rl [(6, false), (11, false), (14, false), (17, false)] true) [0, 1, 2, 3, 4, 5, 7, 8, 9, 10, 6, 11, 12, 13, 14, 15, 16, 17] mixed (by kernel_rfl) ?_; intro K hK
  iterate 3 refine eM ?_
  refine eN (hr := set_get e19) ?_
  refine eF fo40_5 (hr := set_get e19) ?_
  refine eL sh23 (hr := set_get e19) ?_
  refine eM ?_
  refine eN (hr := set_get e19) ?_
  refine eF fo40_6 (hr := set_get e19) ?_
  refine eL sh23 (hr := set_get e19) ?_
  obtain ⟨p26, h1⟩ := asrt_e h1
  refine de_eff rfl rfl rfl rfl (yl_app0T (g := fI) (m := x19.Prices) 9 rfl Tryz.underlying23 bz3 by3 rfl rfl rfl rfl (.refl _) (fun _ => rfl) p26) (by rintro _ _ ⟨v27, rfl, rfl⟩; exact ⟨rfl, trivial⟩) ?_; rintro _ _ ⟨v27, rfl, rfl⟩
  obtain ⟨p28, h1⟩ := asrt_e h1
  refine de_eff rfl rfl rfl rfl (yl_app0T (g := fI) (m := x19.Down) 10 rfl Tryz.underlying23 bz3 by3 rfl rfl rfl rfl (.refl _) (fun _ => rfl) p28) (by rintro _ _ ⟨v29, rfl, rfl⟩; exact trivial) ?_; rintro _ _ ⟨v29, rfl, rfl⟩
  refine eN (hr := set_get e19) ?_
  refine eF fo40_5 (hr := set_get e19) ?_
  refine de_eff0 rfl rfl rfl rfl (Yield.weak (yl_ob (ob' := (⟨40, 8, true, true, v18, (a1.Ents.map GEnt.av).set (Int.toNat a2) [int x19.Now, boo x19.Closed, .sl 6 v21 0 x19.Pools.length, .sl 7 v23 0 x19.Bal.length, .sl 8 v25 0 x19.Rolls.length, .sl 9 v27 0 x19.Prices.length, lst 1 fI x19.Down, lst 8 GEnt.av x19.Ahead]⟩ : AObj)) (yl_store rfl sh23 rfl rfl rfl rfl rfl (set_get e19) rfl rfl rfl) (ob_eq set_setV)) (fun _ h => h) (fun _ _ => trivial)) (by rintro _ _ ⟨rfl, rfl⟩; exact trivial) ?_; rintro _ _ ⟨rfl, rfl⟩
  refine eN (hr := set_get e19) ?_
  refine eF fo40_6 (hr := set_get e19) ?_
  refine de_eff0 rfl rfl rfl rfl (Yield.weak (yl_ob (ob' := (⟨40, 8, true, true, v18, (a1.Ents.map GEnt.av).set (Int.toNat a2) [int x19.Now, boo x19.Closed, .sl 6 v21 0 x19.Pools.length, .sl 7 v23 0 x19.Bal.length, .sl 8 v25 0 x19.Rolls.length, .sl 9 v27 0 x19.Prices.length, .sl 10 v29 0 x19.Down.length, lst 8 GEnt.av x19.Ahead]⟩ : AObj)) (yl_store rfl sh23 rfl rfl rfl rfl rfl (set_get e19) rfl rfl rfl) (ob_eq set_setV)) (fun _ h => h) (fun _ _ => trivial)) (by rintro _ _ ⟨rfl, rfl⟩; exact trivial) ?_; rintro _ _ ⟨rfl, rfl⟩
  refine de_nil (hK _ ?_)
  refine tc tbk 3 (.mk ?_)
  refine sS ⟨32, 10, true, true, v16, [[int a1.Master.Entities, int a1.Master.Periods, lst 1 fI a1.Master.Weights, lst 1 (fL 1 fI) a1.Master.Methods, lst 1 (fL 1 fI) a1.Master.Costs, .sl 5 v18 0 a1.Ents.length, lst 8 GReceipt.av a1.Receipts, .sc (.slice none 0 0), lst 6 GTransit.av a1.Transits, int a1.Done]]⟩ sh32 ?_
  refine tr tbk 1 (.mk ?_)
  obtain rfl := nxt_e h1
  refine w_ret (hret _ _ (hk [(1, ⟨32, 10, true, true, v4, [[int a1.Master.Entities, int a1.Master.Periods, lst 1 fI a1.Master.Weights, lst 1 (fL 1 fI) a1.Master.Methods, lst 1 (fL 1 fI) a1.Master.Costs, lst 8 GEnt.av a1.Ents, lst 8 GReceipt.av a1.Receipts, .sc (.slice none 0 0), lst 6 GTransit.av a1.Transits, int a1.Done]]⟩), (2, ⟨32, 10, true, true, v5, [[int 0, int 0, .sc (.slice none 0 0), .sc (.slice none 0 0), .sc (.slice none 0 0), .sc (.slice none 0 0), .sc (.slice none 0 0), .sc (.slice none 0 0), .sc (.slice none 0 0), int 0]]⟩), (5, ⟨40, 8, true, true, v18, (a1.Ents.map GEnt.av).set (Int.toNat a2) [int x19.Now, boo x19.Closed, .sl 6 v21 0 x19.Pools.length, .sl 7 v23 0 x19.Bal.length, .sl 8 v25 0 x19.Rolls.length, .sl 9 v27 0 x19.Prices.length, .sl 10 v29 0 x19.Down.length, lst 8 GEnt.av x19.Ahead]⟩), (6, ⟨82, 4, true, true, v21, x19.Pools.map GPool.av⟩), (7, ⟨3, 1, true, true, v23, x19.Bal.map fI⟩), (8, ⟨67, 11, true, true, v25, x19.Rolls.map GRoll.av⟩), (9, ⟨3, 1, true, true, v27, x19.Prices.map fI⟩), (10, ⟨3, 1, true, true, v29, x19.Down.map fI⟩)]) (.cell rfl (.pt rfl rfl rfl) sh32 rfl .nil) (HK.le ⟨rfl, rfl, rfl, rfl, rfl, rfl, rfl, rfl, trivial⟩) ?_)
  exact ⟨(x19.Now, x19.Closed, x19.Ahead, x19.Pools, x19.Bal, x19.Rolls, x19.Prices, x19.Down), (v18, v21, v23, v25, v27, v29), rfl, rfl, rfl⟩
  rintro y _ ⟨⟨y0_2, y0_3, y0_9, y0_10, y0_11, y0_12, y0_13, y0_14⟩, ⟨w0_1, w0_4, w0_5, w0_6, w0_7, w0_8⟩, rfl, hc, rfl⟩
  replace h0 := p2_e h0
  replace h0 := p2_e h0
  replace h0 := p2_e h0
  replace h0 := p2_e h0
  replace h0 := p2_e h0
  replace h0 := p2_e h0
  replace h0 := p2_e h0
  subst hc
  obtain ⟨x30, e30, h0⟩ := bind_e h0
  refine sA 11 z32 fun v31 => ?_
  refine sS ⟨32, 10, true, true, v31, [[int a1.Master.Entities, int a1.Master.Periods, lst 1 fI a1.Master.Weights, lst 1 (fL 1 fI) a1.Master.Methods, lst 1 (fL 1 fI) a1.Master.Costs, .sl 5 w0_1 0 a1.Ents.length, lst 8 GReceipt.av a1.Receipts, .sc (.slice none 0 0), lst 6 GTransit.av a1.Transits, int a1.Done]]⟩ sh32 ?_
  refine tr tbk 7 (.mk ?_)
  refine sY (yv_ixO rfl Tryz.underlying27 sh40 rfl rfl rfl rfl rfl (Eq.symm rfl) len_ov e30) ?_
  refine sY (yv_fieldAddr rfl fo40_3 rfl (.pt rfl rfl (set_get e30)) (.pt _ _ _ _ _)) ?_
  refine rsstore rfl rfl (yl_ob (ob' := (⟨40, 8, true, true, w0_1, (a1.Ents.map GEnt.av).set (Int.toNat a2) [int y0_2, boo y0_3, .sl 6 w0_4 0 y0_10.length, lst 1 fI x12.1, .sl 8 w0_6 0 y0_12.length, .sl 9 w0_7 0 y0_13.length, .sl 10 w0_8 0 y0_14.length, lst 8 GEnt.av y0_9]⟩ : AObj)) (yl_store rfl sh23 rfl rfl rfl rfl rfl (set_get e30) rfl rfl rfl) (ob_eq set_setV)) ?_
  refine tr tbk 4 (.mk ?_)
  refine sS ⟨32, 10, true, true, v5, [[int a1.Master.Entities, int a1.Master.Periods, lst 1 fI a1.Master.Weights, lst 1 (fL 1 fI) a1.Master.Methods, lst 1 (fL 1 fI) a1.Master.Costs, .sl 5 w0_1 0 a1.Ents.length, lst 8 GReceipt.av a1.Receipts, .sc (.slice none 0 0), lst 6 GTransit.av a1.Transits, int a1.Done]]⟩ sh32 ?_
  refine tr tbk 2 (.mk ?_)
  obtain rfl := nxt_e h0
  refine wR hret (rC sh32 (rT .nil)) ?_
  exact CvL.tup (.cons (CvL.agg (.cons (.refl _) (.cons (.refl _) (.cons (.refl _) (.cons (.refl _) (.cons (.refl _) (.cons (cv_ov rfl rfl rfl rfl rfl (Eq.symm rfl) e30 (cvl_to (.cons (.refl _) (.cons (.refl _) (.cons (cv_lst rfl rfl rfl rfl rfl (Eq.symm rfl)) (.cons (.refl _) (.cons (cv_lst rfl rfl rfl rfl rfl (Eq.symm rfl)) (.cons (cv_lst rfl rfl rfl rfl rfl (Eq.symm rfl)) (.cons (cv_lst rfl rfl rfl rfl rfl (Eq.symm rfl)) (.cons (.refl _) .nil)))))))) (GEnt.av_eq _))) (.cons (.refl _) (.cons (.refl _) (.cons (.refl _) (.cons (.refl _) .nil))))))))))) (.cons (.refl _) .nil))
def d_ref14_Numbers (a1 : GRoll) : Option (A11_Int) :=
some (((⟨a1.Open, a1.Bought, a1.Landed, a1.Arrived, a1.Returned, a1.Sold, a1.Shipped, a1.SentBack, a1.Scrapped, a1.Lost, a1.Revalued⟩ : A11_Int) : A11_Int))
theorem d_ref14_Numbers_c {a1 : GRoll} {r : A11_Int} (h0 : d_ref14_Numbers a1 = some r) : PP Tryz.prog 53 [.agg (GRoll.av a1)] (fun y => y = .agg (A11_Int.av r)) := by
  unfold d_ref14_Numbers at h0
  refine pp_of_pc (R0 := fun y H => Cv (frzH H) y (.agg (A11_Int.av r))) ?_ (fun y H hc => ⟨_, rfl, (fun (a : A11_Int) => PV.agg (A11_Int.pvc a)) r, hc⟩)
  refine pcw (c := _) Tryz.func53 rfl rfl ?_; intro Q hret hnorm
  refine tc tbk 2 (.mk ?_)
  refine sB 1 fun v2 => ?_
  refine sA 2 z108 fun v3 => ?_
  refine tr tbk 25 (.mk ?_)
  refine sY (yv_buildA (cs := [int a1.Open, int a1.Bought, int a1.Landed, int a1.Arrived, int a1.Returned, int a1.Sold, int a1.Shipped, int a1.SentBack, int a1.Scrapped, int a1.Lost, int a1.Revalued]) (ps := [(0, _), (1, _), (2, _), (3, _), (4, _), (5, _), (6, _), (7, _), (8, _), (9, _), (10, _)]) rfl Tryz.underlying108 sh3 z108 rfl (.cons rfl (.cons rfl (.cons rfl (.cons rfl (.cons rfl (.cons rfl (.cons rfl (.cons rfl (.cons rfl (.cons rfl (.cons rfl .nil))))))))))) (by kernel_rfl)) ?_
  refine sS ⟨108, 11, true, true, v3, [[int a1.Open, int a1.Bought, int a1.Landed, int a1.Arrived, int a1.Returned, int a1.Sold, int a1.Shipped, int a1.SentBack, int a1.Scrapped, int a1.Lost, int a1.Revalued]]⟩ sh108 ?_
  refine tr tbk 1 (.mk ?_)
  obtain rfl := nxt_e h0
  refine wR hret (rC sh108 .nil) ?_
  exact .refl _
def d_ref14_Roll (a1 : A11_Int) : Option (GRoll) :=
some (((⟨a1.a0, a1.a1, a1.a2, a1.a3, a1.a4, a1.a5, a1.a6, a1.a7, a1.a8, a1.a9, a1.a10⟩ : GRoll) : GRoll))
theorem d_ref14_Roll_c {a1 : A11_Int} {r : GRoll} (h0 : d_ref14_Roll a1 = some r) : PP Tryz.prog 100 [.agg (A11_Int.av a1)] (fun y => y = .agg (GRoll.av r)) := by
  unfold d_ref14_Roll at h0
  refine pp_of_pc (R0 := fun y H => Cv (frzH H) y (.agg (GRoll.av r))) ?_ (fun y H hc => ⟨_, rfl, (fun (a : GRoll) => PV.agg (GRoll.pvc a)) r, hc⟩)
  refine pcw (c := _) Tryz.func100 rfl rfl ?_; intro Q hret hnorm
  refine tc tbk 2 (.mk ?_)
  refine sB 1 fun v2 => ?_
  refine sA 2 z67 fun v3 => ?_
  refine tr tbk 3 (.mk ?_)
  refine sY (yv_to (y := .pt 1 v2 0 0) (yv_indexAddrA rfl Tryz.underlying108 sh3 rfl rfl rfl rfl rfl (by decide)) rfl) ?_
  refine tr tbk 1 (.mk ?_)
  refine sY (yv_to (y := .pt 1 v2 0 1) (yv_indexAddrA rfl Tryz.underlying108 sh3 rfl rfl rfl rfl rfl (by decide)) rfl) ?_
  refine tr tbk 1 (.mk ?_)
  refine sY (yv_to (y := .pt 1 v2 0 2) (yv_indexAddrA rfl Tryz.underlying108 sh3 rfl rfl rfl rfl rfl (by decide)) rfl) ?_
  refine tr tbk 1 (.mk ?_)
  refine sY (yv_to (y := .pt 1 v2 0 3) (yv_indexAddrA rfl Tryz.underlying108 sh3 rfl rfl rfl rfl rfl (by decide)) rfl) ?_
  refine tr tbk 1 (.mk ?_)
  refine sY (yv_to (y := .pt 1 v2 0 4) (yv_indexAddrA rfl Tryz.underlying108 sh3 rfl rfl rfl rfl rfl (by decide)) rfl) ?_
  refine tr tbk 1 (.mk ?_)
  refine sY (yv_to (y := .pt 1 v2 0 5) (yv_indexAddrA rfl Tryz.underlying108 sh3 rfl rfl rfl rfl rfl (by decide)) rfl) ?_
  refine tr tbk 1 (.mk ?_)
  refine sY (yv_to (y := .pt 1 v2 0 6) (yv_indexAddrA rfl Tryz.underlying108 sh3 rfl rfl rfl rfl rfl (by decide)) rfl) ?_
  refine tr tbk 1 (.mk ?_)
  refine sY (yv_to (y := .pt 1 v2 0 7) (yv_indexAddrA rfl Tryz.underlying108 sh3 rfl rfl rfl rfl rfl (by decide)) rfl) ?_
  refine tr tbk 1 (.mk ?_)
  refine sY (yv_to (y := .pt 1 v2 0 8) (yv_indexAddrA rfl Tryz.underlying108 sh3 rfl rfl rfl rfl rfl (by decide)) rfl) ?_
  refine tr tbk 1 (.mk ?_)
  refine sY (yv_to (y := .pt 1 v2 0 9) (yv_indexAddrA rfl Tryz.underlying108 sh3 rfl rfl rfl rfl rfl (by decide)) rfl) ?_
  refine tr tbk 1 (.mk ?_)
  refine sY (yv_to (y := .pt 1 v2 0 10) (yv_indexAddrA rfl Tryz.underlying108 sh3 rfl rfl rfl rfl rfl (by decide)) rfl) ?_
  refine tr tbk 1 (.mk ?_)
  refine sY (yv_build (cs := [int a1.a0, int a1.a1, int a1.a2, int a1.a3, int a1.a4, int a1.a5, int a1.a6, int a1.a7, int a1.a8, int a1.a9, int a1.a10]) (ps := [(0, _), (1, _), (2, _), (3, _), (4, _), (5, _), (6, _), (7, _), (8, _), (9, _), (10, _)]) rfl pl67 z67 rfl (.cons rfl (.cons rfl (.cons rfl (.cons rfl (.cons rfl (.cons rfl (.cons rfl (.cons rfl (.cons rfl (.cons rfl (.cons rfl .nil))))))))))) (by kernel_rfl)) ?_
  refine sS ⟨67, 11, true, true, v3, [[int a1.a0, int a1.a1, int a1.a2, int a1.a3, int a1.a4, int a1.a5, int a1.a6, int a1.a7, int a1.a8, int a1.a9, int a1.a10]]⟩ sh67 ?_
  refine tr tbk 1 (.mk ?_)
  obtain rfl := nxt_e h0
  refine wR hret (rC sh67 .nil) ?_
  exact .refl _
def d_ref14_Turn_L0 (a1 : GState) (a2 : Int) (a3 : Int) (a4 : GRoll) (x13 : A11_Int) : Nat → Int → (List Int) → Option ((List Int))
  | 0, _, _ => none
  | n + 1, y0_1, y0_2 =>
    bnd (decide (y0_1 < 11)) fun x17 =>
    cond x17 (asrt ((0 : Int) ≤ y0_1 ∧ y0_1 < (11 : Int)) <|
    (ix y0_2 y0_1).bind fun x19 =>
    asrt ((0 : Int) ≤ y0_1 ∧ y0_1 < (11 : Int)) <|
    (ix ([x13.a0, x13.a1, x13.a2, x13.a3, x13.a4, x13.a5, x13.a6, x13.a7, x13.a8, x13.a9, x13.a10] : List Int) y0_1).bind fun x21 =>
    (d_ref01_Add x19 x21).bind fun x22 =>
    bnd (decide (x22.2 ≠ 0)) fun x23 =>
    asrt (x23 = false) <|
    asrt ((0 : Int) ≤ y0_1 ∧ y0_1 < (11 : Int)) <|
    bnd (y0_2.set (Int.toNat y0_1) x22.1) fun x25 =>
    bnd (w64 (y0_1 + 1)) fun x26 =>
    d_ref14_Turn_L0 a1 a2 a3 a4 x13 n (x26 : Int) (x25 : List Int)) (some (y0_2 : List Int))
def d_ref14_Turn (n : Nat) (a1 : GState) (a2 : Int) (a3 : Int) (a4 : GRoll) : Option (GState × Int) :=
(d_ref14_there (⟨a1.Master, a1.Ents, a1.Receipts, [], a1.Transits, a1.Done⟩ : GState) a2 a3).bind fun x8 =>
bnd (!x8) fun x9 =>
asrt (x9 = false) <|
(ix a1.Ents a2).bind fun x10 =>
(ix x10.Rolls a3).bind fun x11 =>
(d_ref14_Numbers x11).bind fun x12 =>
(d_ref14_Numbers a4).bind fun x13 =>
(show Option ((List Int)) from
d_ref14_Turn_L0 a1 a2 a3 a4 x13 n (0 : Int) (([x12.a0, x12.a1, x12.a2, x12.a3, x12.a4, x12.a5, x12.a6, x12.a7, x12.a8, x12.a9, x12.a10] : List Int) : List Int)).bind <| fun y1_1 =>
(show Option ((Int × Bool × (List GEnt) × (List GPool) × (List Int) × (List GRoll) × (List Int) × (List Int))) from
asrt (a1.Ents.length ≤ 68719476736) <|
(ix a1.Ents a2).bind fun x32 =>
asrt (x32.Pools.length ≤ 68719476736) <|
asrt (x32.Bal.length ≤ 68719476736) <|
asrt (x32.Rolls.length ≤ 68719476736) <|
asrt (x32.Prices.length ≤ 68719476736) <|
asrt (x32.Down.length ≤ 68719476736) <|
some ((x32.Now : Int), (x32.Closed : Bool), (x32.Ahead : List GEnt), (x32.Pools : List GPool), (x32.Bal : List Int), (x32.Rolls : List GRoll), (x32.Prices : List Int), (x32.Down : List Int))).bind <| p2 fun (y2_2 : Int) (q0 : Bool × (List GEnt) × (List GPool) × (List Int) × (List GRoll) × (List Int) × (List Int)) => (p2 fun (y2_3 : Bool) (q1 : (List GEnt) × (List GPool) × (List Int) × (List GRoll) × (List Int) × (List Int)) => (p2 fun (y2_9 : List GEnt) (q2 : (List GPool) × (List Int) × (List GRoll) × (List Int) × (List Int)) => (p2 fun (y2_10 : List GPool) (q3 : (List Int) × (List GRoll) × (List Int) × (List Int)) => (p2 fun (y2_11 : List Int) (q4 : (List GRoll) × (List Int) × (List Int)) => (p2 fun (y2_12 : List GRoll) (q5 : (List Int) × (List Int)) => (p2 fun (y2_13 : List Int) (y2_14 : List Int) =>
(ix a1.Ents a2).bind fun x43 =>
asrt (y1_1.length = 11) <|
(d_ref14_Roll (⟨(y1_1.getD 0 0), (y1_1.getD 1 0), (y1_1.getD 2 0), (y1_1.getD 3 0), (y1_1.getD 4 0), (y1_1.getD 5 0), (y1_1.getD 6 0), (y1_1.getD 7 0), (y1_1.getD 8 0), (y1_1.getD 9 0), (y1_1.getD 10 0)⟩ : A11_Int)).bind fun x46 =>
(ix y2_12 a3).bind fun x47 =>
bnd (y2_12.set (Int.toNat a3) (x46 : GRoll)) fun x48 =>
some (((⟨a1.Master, (a1.Ents.set (Int.toNat a2) (⟨y2_2, y2_3, y2_10, y2_11, x48, y2_13, y2_14, y2_9⟩ : GEnt)), a1.Receipts, [], a1.Transits, a1.Done⟩ : GState) : GState), (0 : Int))) q5) q4) q3) q2) q1) q0
theorem d_ref14_Turn_c {n : Nat} {a1 : GState} {a2 : Int} {a3 : Int} {a4 : GRoll} {r : GState × Int} (h0 : d_ref14_Turn n a1 a2 a3 a4 = some r) : PP Tryz.prog 59 [.agg (GState.avN a1), int a2, int a3, .agg (GRoll.av a4)] (fun y => y = .tup [.agg (GState.avN r.1), int r.2]) := by
  unfold d_ref14_Turn at h0
  refine pp_of_pc (R0 := fun y H => Cv (frzH H) y (.tup [.agg (GState.avN r.1), int r.2])) ?_ (fun y H hc => ⟨_, rfl, .tup (pvl2 ((fun (a : GState) => PV.agg (GState.pvcN a)) (r.1)) (pvI (r.2))), hc⟩)
  refine pcw (c := _) Tryz.func59 rfl rfl ?_; intro Q hret hnorm
  refine tc tbk 2 (.mk ?_)
  refine sB 1 fun v5 => ?_
  refine sB 2 fun v6 => ?_
  refine sA 3 z32 fun v7 => ?_
  refine tr tbk 8 (.mk ?_)
  obtain ⟨x8, e8, h0⟩ := bind_e h0
  refine sY (yv_callP rfl rfl (.cons rfl (.cons rfl (.cons rfl .nil))) cal92 (.cons (CvL.agg (.cons (.refl _) (.cons (.refl _) (.cons (.refl _) (.cons (.refl _) (.cons (.refl _) (.cons (.refl _) (.cons (.refl _) (.cons (.nil _) (.cons (.refl _) (.cons (.refl _) .nil))))))))))) (.cons (.refl _) (.cons (.refl _) .nil))) (d_ref14_there_c e8)) ?_
  refine nb tbk h0 fun x9 h0 => ?_
  refine tr tbk 1 (.mk ?_)
  replace h0 := asrt_e h0
  obtain ⟨rfl, h0⟩ := h0
  refine tc tbk 3 (.mk ?_)
  refine c_draw [0, 1, 0, 7, 15, 31, 0, 127, 255, 511, 0, 2047, 0, 0, 16383, 32767] (fun i k => bif Nat.beq i 0 then (Nat.beq k 1) else bif Nat.beq i 1 then (Nat.beq k 1) else bif Nat.beq i 10 then (Nat.beq k 2) else bif Nat.beq i 14 then (Nat.beq k 4) else bif Nat.beq i 15 then (Nat.beq k 5) else false) (fun i => bif Nat.beq i 12 then (some 4) else bif Nat.beq i 13 then (some 5) else bif Nat.beq i 14 then (some 4) else bif Nat.beq i 15 then (some 5) else none) mixed (by kernel_rfl) ?_; intro C K hK
  refine dg_pure rfl (fun H hH => yv_fieldAddr rfl fo32_1 rfl (.pt ((hH _ rfl).trans rfl) rfl rfl) (.pt _ _ _ _ _)) ?_
  refine dg_pure rfl (fun H hH => yv_load rfl sh27 rfl (.pt ((hH _ rfl).trans rfl) rfl rfl) rfl) ?_
  refine dg_pure rfl (fun H hH => yv_move rfl rfl) ?_
  obtain ⟨x10, e10, h0⟩ := bind_e h0
  refine dg_pure rfl (fun H hH => yv_to (y := .pp [int x10.Now, boo x10.Closed, lst 4 GPool.av x10.Pools, lst 1 fI x10.Bal, lst 11 GRoll.av x10.Rolls, lst 1 fI x10.Prices, lst 1 fI x10.Down, lst 8 GEnt.av x10.Ahead]) (yv_ixT rfl Tryz.underlying27 sh40 rfl rfl e10) (congrArg AV.pp (GEnt.av_eq x10))) ?_
  refine dg_pure rfl (fun H hH => yv_fieldAddr rfl fo40_4 rfl (.pp _) (.pp _ _)) ?_
  refine dg_pure rfl (fun H hH => yv_load rfl sh38 rfl (.pp _) rfl) ?_
  refine dg_pure rfl (fun H hH => yv_move rfl rfl) ?_
  obtain ⟨x11, e11, h0⟩ := bind_e h0
  refine dg_pure rfl (fun H hH => yv_ixT rfl Tryz.underlying38 sh67 rfl rfl e11) ?_
  refine dg_pure rfl (fun H hH => yv_load rfl sh67 rfl (.pp _) rfl) ?_
  obtain ⟨x12, e12, h0⟩ := bind_e h0
  refine dg_pure rfl (fun H hH => yv_callP rfl rfl (.cons rfl .nil) cal53 (CvL.refl _) (d_ref14_Numbers_c e12)) ?_
  refine dg_pure rfl (fun H hH => yv_load rfl sh67 rfl (.pt ((hH _ rfl).trans rfl) rfl rfl) rfl) ?_
  obtain ⟨x13, e13, h0⟩ := bind_e h0
  refine dg_pure rfl (fun H hH => yv_callP rfl rfl (.cons rfl .nil) cal53 (CvL.refl _) (d_ref14_Numbers_c e13)) ?_
  refine dg_eff rfl rfl (fun H hH => yl_alloc1 4 rfl z108 rfl) ?_; generalize C + 12 = v14
  refine dg_eff rfl rfl (fun H hH => yl_alloc1 5 rfl z108 rfl) ?_; generalize C + 13 = v15
  refine dg_store rfl rfl rfl (fun H hH => yl_ob (ob' := (⟨108, 11, true, true, v14, [[int x12.a0, int x12.a1, int x12.a2, int x12.a3, int x12.a4, int x12.a5, int x12.a6, int x12.a7, int x12.a8, int x12.a9, int x12.a10]]⟩ : AObj)) (yl_store rfl sh108 rfl rfl ((hH _ rfl).trans rfl) rfl rfl rfl rfl rfl rfl) rfl) ?_
  refine dg_store rfl rfl rfl (fun H hH => yl_ob (ob' := (⟨108, 11, true, true, v15, [[int x13.a0, int x13.a1, int x13.a2, int x13.a3, int x13.a4, int x13.a5, int x13.a6, int x13.a7, int x13.a8, int x13.a9, int x13.a10]]⟩ : AObj)) (yl_store rfl sh108 rfl rfl ((hH _ rfl).trans rfl) rfl rfl rfl rfl rfl rfl) rfl) ?_
  refine dg_nil (hK _ ?_)
  refine tc tbk 5 (.mk ?_)
  refine jn h0 [1, 2, 4, 8, 9, 10] [1, 3] (fun (a : (List Int)) (k : Unit) => []) (fun a k => [(4, ⟨108, 11, true, true, v14, [a.map int]⟩)]) ⟨fun j16 h1 => ?_, ?_⟩
  refine tc tbk 1 (.mk ?_)
  refine lp (fun n (a : Int × (List Int)) => d_ref14_Turn_L0 a1 a2 a3 a4 x13 n a.1 a.2) ((0 : Int), (([x12.a0, x12.a1, x12.a2, x12.a3, x12.a4, x12.a5, x12.a6, x12.a7, x12.a8, x12.a9, x12.a10] : List Int) : List Int)) () h1 [1, 2, 4, 8, 9, 10, 11] [1, 3, 5] (fun (a : Int × (List Int)) (k : Unit) => [(12, int a.1)]) (fun a k => [(4, ⟨108, 11, true, true, v14, [a.2.map int]⟩)]) (fun _ => rfl) ⟨leA, ?_⟩
  rintro n ⟨y0_1, y0_2⟩ _ hm h1
  replace h1 : d_ref14_Turn_L0 a1 a2 a3 a4 x13 (n + 1) y0_1 y0_2 = some _ := h1
  rw [d_ref14_Turn_L0] at h1
  refine tc tbk 4 (.mk ?_)
  refine nb tbk h1 fun x17 h1 => ?_
  refine tr tbk 1 (.mk ?_)
  cases x17
  replace h1 := cf h1
  refine tc tbk 2 (.mk ?_)
  exact lf h1 () leA
  replace h1 := ct h1
  refine tc tbk 5 (.mk ?_)
  refine c_drawE [0, 1, 3, 0, 8, 24, 63, 127, 255, 255, 511, 2047] (rl [(1, [4]), (2, [4]), (4, [5]), (5, [5])] []) (fun i => [4, 5]) (fun i => true) [0, 1, 2, 3, 4, 5, 6, 7, 8, 9, 10, 11] mixed (by kernel_rfl) ?_; intro K hK
  refine eM ?_
  obtain ⟨p18, h1⟩ := asrt_e h1
  obtain ⟨x19, e19, h1⟩ := bind_e h1
  refine de_pure rfl rfl rfl rfl (fun H hH => yv_ixAR rfl Tryz.underlying108 sh3 rfl rfl ((hH _ (by decide)).trans rfl) rfl rfl p18) ?_
  refine de_pure rfl rfl rfl rfl (fun H hH => yv_ldAR rfl sh3 rfl ((hH _ (by decide)).trans rfl) rfl rfl e19) ?_
  refine eM ?_
  obtain ⟨p20, h1⟩ := asrt_e h1
  obtain ⟨x21, e21, h1⟩ := bind_e h1
  refine de_pure rfl rfl rfl rfl (fun H hH => yv_ixAR rfl Tryz.underlying108 sh3 rfl rfl ((hH _ (by decide)).trans rfl) rfl rfl p20) ?_
  refine de_pure rfl rfl rfl rfl (fun H hH => yv_ldAR rfl sh3 rfl ((hH _ (by decide)).trans rfl) rfl rfl e21) ?_
  obtain ⟨x22, e22, h1⟩ := bind_e h1
  refine eP (fun H hH => yv_callP rfl rfl (.cons rfl (.cons rfl .nil)) cal55 (CvL.refl _) (d_ref01_Add_c e22)) ?_
  refine eM ?_
  iterate 2 refine eX ?_
  iterate 2 refine eA ?_
  refine de_nil (hK _ ?_)
  refine tc tbk 4 (.mk ?_)
  refine nb tbk h1 fun x23 h1 => ?_
  refine tr tbk 1 (.mk ?_)
  replace h1 := asrt_e h1
  obtain ⟨rfl, h1⟩ := h1
  refine tc tbk 5 (.mk ?_)
  obtain ⟨p24, h1⟩ := asrt_e h1
  refine sY (yv_ixAR rfl Tryz.underlying108 sh3 rfl rfl rfl rfl rfl p24) ?_
  obtain ⟨x25, e25, h1⟩ := bnd_e h1
  refine rsstore rfl rfl (yl_ob (ob' := (⟨108, 11, true, true, v14, [x25.map int]⟩ : AObj)) (yl_stAR rfl sh3 rfl rfl rfl rfl rfl rfl e19 e25) rfl) ?_
  refine tr tbk 4 (.mk ?_)
  refine ni tbk h1 fun x26 h1 => ?_
  refine tr tbk 2 (.mk ?_)
  exact bk (x26, x25) () h1 leA
  rintro y1_1 _ h0
  refine tc tbk 4 (.mk ?_)
  obtain ⟨j27, h1, h0⟩ := bind_e h0
  refine rse (Out := fun y H' => (∃ (a : Int × Bool × (List GEnt) × (List GPool) × (List Int) × (List GRoll) × (List Int) × (List Int)) (k : Nat × Nat × Nat × Nat × Nat × Nat), a = j27 ∧ y = .agg [int a1.Master.Entities, int a1.Master.Periods, lst 1 fI a1.Master.Weights, lst 1 (fL 1 fI) a1.Master.Methods, lst 1 (fL 1 fI) a1.Master.Costs, .sl 8 k.1 0 a1.Ents.length, lst 8 GReceipt.av a1.Receipts, .sc (.slice none 0 0), lst 6 GTransit.av a1.Transits, int a1.Done] ∧ H' = hk [(1, ⟨32, 10, true, true, v5, [[int a1.Master.Entities, int a1.Master.Periods, lst 1 fI a1.Master.Weights, lst 1 (fL 1 fI) a1.Master.Methods, lst 1 (fL 1 fI) a1.Master.Costs, lst 8 GEnt.av a1.Ents, lst 8 GReceipt.av a1.Receipts, .sc (.slice none 0 0), lst 6 GTransit.av a1.Transits, int a1.Done]]⟩), (3, ⟨32, 10, true, true, v7, [[int 0, int 0, .sc (.slice none 0 0), .sc (.slice none 0 0), .sc (.slice none 0 0), .sc (.slice none 0 0), .sc (.slice none 0 0), .sc (.slice none 0 0), .sc (.slice none 0 0), int 0]]⟩), (4, ⟨108, 11, true, true, v14, [y1_1.map int]⟩), (8, ⟨40, 8, true, true, k.1, (a1.Ents.map GEnt.av).set (Int.toNat a2) [int a.1, boo a.2.1, .sl 9 k.2.1 0 a.2.2.2.1.length, .sl 10 k.2.2.1 0 a.2.2.2.2.1.length, .sl 11 k.2.2.2.1 0 a.2.2.2.2.2.1.length, .sl 12 k.2.2.2.2.1 0 a.2.2.2.2.2.2.1.length, .sl 13 k.2.2.2.2.2 0 a.2.2.2.2.2.2.2.length, lst 8 GEnt.av a.2.2.1]⟩), (9, ⟨82, 4, true, true, k.2.1, a.2.2.2.1.map GPool.av⟩), (10, ⟨3, 1, true, true, k.2.2.1, a.2.2.2.2.1.map fI⟩), (11, ⟨67, 11, true, true, k.2.2.2.1, a.2.2.2.2.2.1.map GRoll.av⟩), (12, ⟨3, 1, true, true, k.2.2.2.2.1, a.2.2.2.2.2.2.1.map fI⟩), (13, ⟨3, 1, true, true, k.2.2.2.2.2, a.2.2.2.2.2.2.2.map fI⟩)])) rfl rfl rfl (yl_call rfl rfl (.cons rfl (.cons rfl .nil)) cal99 ?_) ?_
  refine pcw (c := _) Tryz.func99 rfl rfl ?_; intro Q hret hnorm
  refine tc tbk 2 (.mk ?_)
  refine sB 6 fun v28 => ?_
  refine sA 7 z32 fun v29 => ?_
  refine tr tbk 5 (.mk ?_)
  obtain ⟨p30, h1⟩ := asrt_e h1
  refine rse rfl rfl rfl (yl_app0T (g := GEnt.av) (m := a1.Ents) 8 rfl Tryz.underlying27 bz40 by40 rfl rfl rfl rfl (.refl _) GEnt.one p30) ?_; rintro _ _ ⟨v31, rfl, rfl⟩
  refine tr tbk 1 (.mk ?_)
  refine sS ⟨32, 10, true, true, v28, [[int a1.Master.Entities, int a1.Master.Periods, lst 1 fI a1.Master.Weights, lst 1 (fL 1 fI) a1.Master.Methods, lst 1 (fL 1 fI) a1.Master.Costs, .sl 8 v31 0 a1.Ents.length, lst 8 GReceipt.av a1.Receipts, .sc (.slice none 0 0), lst 6 GTransit.av a1.Transits, int a1.Done]]⟩ sh27 ?_
  refine tr tbk 6 (.mk ?_)
  obtain ⟨x32, e32, h1⟩ := bind_e h1
  refine sY (yv_ixO rfl Tryz.underlying27 sh40 rfl rfl rfl rfl rfl (Eq.symm rfl) (List.length_map _) e32) ?_
  refine tr tbk 3 (.mk ?_)
  refine c_drawE [0, 0, 0, 0, 8, 24, 56, 120, 0, 256, 768, 1792, 4088, 0, 8192, 24576, 57344, 131064, 262137, 524281, 1048569, 2097147, 4194299, 8388603, 16777215, 33554431, 67108863] (rl [(4, [8]), (5, [8]), (6, [8]), (9, [8]), (10, [8]), (11, [8]), (14, [8]), (15, [8]), (16, [8]), (18, [8]), (19, [8]), (21, [8]), (22, [8]), (24, [8]), (25, [8])] []) (rl [(17, []), (20, []), (23, []), (26, [])] [8]) (rl [(7, false), (12, false), (17, false), (20, false), (23, false), (26, false)] true) [0, 1, 2, 3, 4, 5, 6, 8, 9, 10, 11, 13, 14, 15, 16, 7, 12, 17, 18, 19, 20, 21, 22, 23, 24, 25, 26] mixed (by kernel_rfl) ?_; intro K hK
  iterate 4 refine eM ?_
  refine eN (hr := ix_get' e32 (GEnt.av_eq _)) ?_
  refine eF fo40_2 (hr := ix_get' e32 (GEnt.av_eq _)) ?_
  refine eL sh37 (hr := ix_get' e32 (GEnt.av_eq _)) ?_
  refine eM ?_
  refine eN (hr := ix_get' e32 (GEnt.av_eq _)) ?_
  refine eF fo40_3 (hr := ix_get' e32 (GEnt.av_eq _)) ?_
  refine eL sh23 (hr := ix_get' e32 (GEnt.av_eq _)) ?_
  refine eM ?_
  refine eN (hr := ix_get' e32 (GEnt.av_eq _)) ?_
  refine eF fo40_4 (hr := ix_get' e32 (GEnt.av_eq _)) ?_
  refine eL sh38 (hr := ix_get' e32 (GEnt.av_eq _)) ?_
  obtain ⟨p33, h1⟩ := asrt_e h1
  refine de_eff rfl rfl rfl rfl (yl_app0T (g := GPool.av) (m := x32.Pools) 9 rfl Tryz.underlying37 bz82 by82 rfl rfl rfl rfl (.refl _) (fun _ => rfl) p33) (by rintro _ _ ⟨v34, rfl, rfl⟩; exact ⟨rfl, trivial⟩) ?_; rintro _ _ ⟨v34, rfl, rfl⟩
  obtain ⟨p35, h1⟩ := asrt_e h1
  refine de_eff rfl rfl rfl rfl (yl_app0T (g := fI) (m := x32.Bal) 10 rfl Tryz.underlying23 bz3 by3 rfl rfl rfl rfl (.refl _) (fun _ => rfl) p35) (by rintro _ _ ⟨v36, rfl, rfl⟩; exact ⟨rfl, trivial⟩) ?_; rintro _ _ ⟨v36, rfl, rfl⟩
  obtain ⟨p37, h1⟩ := asrt_e h1
  refine de_eff rfl rfl rfl rfl (yl_app0T (g := GRoll.av) (m := x32.Rolls) 11 rfl Tryz.underlying38 bz67 by67 rfl rfl rfl rfl (.refl _) (fun _ => rfl) p37) (by rintro _ _ ⟨v38, rfl, rfl⟩; exact trivial) ?_; rintro _ _ ⟨v38, rfl, rfl⟩
  refine eN (hr := ix_get' e32 (GEnt.av_eq _)) ?_
  refine eF fo40_2 (hr := ix_get' e32 (GEnt.av_eq _)) ?_
  refine de_eff0 rfl rfl rfl rfl (Yield.weak (yl_ob (ob' := (⟨40, 8, true, true, v31, (a1.Ents.map GEnt.av).set (Int.toNat a2) [int x32.Now, boo x32.Closed, .sl 9 v34 0 x32.Pools.length, lst 1 fI x32.Bal, lst 11 GRoll.av x32.Rolls, lst 1 fI x32.Prices, lst 1 fI x32.Down, lst 8 GEnt.av x32.Ahead]⟩ : AObj)) (yl_store rfl sh37 rfl rfl rfl rfl rfl (ix_get' e32 (GEnt.av_eq _)) rfl rfl rfl) (ob_eq rfl)) (fun _ h => h) (fun _ _ => trivial)) (by rintro _ _ ⟨rfl, rfl⟩; exact trivial) ?_; rintro _ _ ⟨rfl, rfl⟩
  refine eN (hr := set_get e32) ?_
  refine eF fo40_3 (hr := set_get e32) ?_
  refine de_eff0 rfl rfl rfl rfl (Yield.weak (yl_ob (ob' := (⟨40, 8, true, true, v31, (a1.Ents.map GEnt.av).set (Int.toNat a2) [int x32.Now, boo x32.Closed, .sl 9 v34 0 x32.Pools.length, .sl 10 v36 0 x32.Bal.length, lst 11 GRoll.av x32.Rolls, lst 1 fI x32.Prices, lst 1 fI x32.Down, lst 8 GEnt.av x32.Ahead]⟩ : AObj)) (yl_store rfl sh23 rfl rfl rfl rfl rfl (set_get e32) rfl rfl rfl) (ob_eq set_setV)) (fun _ h => h) (fun _ _ => trivial)) (by rintro _ _ ⟨rfl, rfl⟩; exact trivial) ?_; rintro _ _ ⟨rfl, rfl⟩
  refine eN (hr := set_get e32) ?_
  refine eF fo40_4 (hr := set_get e32) ?_
  refine de_eff0 rfl rfl rfl rfl (Yield.weak (yl_ob (ob' := (⟨40, 8, true, true, v31, (a1.Ents.map GEnt.av).set (Int.toNat a2) [int x32.Now, boo x32.Closed, .sl 9 v34 0 x32.Pools.length, .sl 10 v36 0 x32.Bal.length, .sl 11 v38 0 x32.Rolls.length, lst 1 fI x32.Prices, lst 1 fI x32.Down, lst 8 GEnt.av x32.Ahead]⟩ : AObj)) (yl_store rfl sh38 rfl rfl rfl rfl rfl (set_get e32) rfl rfl rfl) (ob_eq set_setV)) (fun _ h => h) (fun _ _ => trivial)) (by rintro _ _ ⟨rfl, rfl⟩; exact trivial) ?_; rintro _ _ ⟨rfl, rfl⟩
  refine de_nil (hK _ ?_)
  refine tc tbk 1 (.mk ?_)
  refine c_drawE [0, 0, 0, 4, 12, 28, 60, 0, 128, 384, 896, 2044, 4093, 8189, 16381, 32767, 65535, 131071] (rl [(3, [8]), (4, [8]), (5, [8]), (8, [8]), (9, [8]), (10, [8]), (12, [8]), (13, [8]), (15, [8]), (16, [8])] []) (rl [(11, []), (14, []), (17, [])] [8]) (rl [(6, false), (11, false), (14, false), (17, false)] true) [0, 1, 2, 3, 4, 5, 7, 8, 9, 10, 6, 11, 12, 13, 14, 15, 16, 17] mixed (by kernel_rfl) ?_; intro K hK
  iterate 3 refine eM ?_
  refine eN (hr := set_get e32) ?_
  refine eF fo40_5 (hr := set_get e32) ?_
  refine eL sh23 (hr := set_get e32) ?_
  refine eM ?_
  refine eN (hr := set_get e32) ?_
  refine eF fo40_6 (hr := set_get e32) ?_
  refine eL sh23 (hr := set_get e32) ?_
  obtain ⟨p39, h1⟩ := asrt_e h1
  refine de_eff rfl rfl rfl rfl (yl_app0T (g := fI) (m := x32.Prices) 12 rfl Tryz.underlying23 bz3 by3 rfl rfl rfl rfl (.refl _) (fun _ => rfl) p39) (by rintro _ _ ⟨v40, rfl, rfl⟩; exact ⟨rfl, trivial⟩) ?_; rintro _ _ ⟨v40, rfl, rfl⟩
  obtain ⟨p41, h1⟩ := asrt_e h1
  refine de_eff rfl rfl rfl rfl (yl_app0T (g := fI) (m := x32.Down) 13 rfl Tryz.underlying23 bz3 by3 rfl rfl rfl rfl (.refl _) (fun _ => rfl) p41) (by rintro _ _ ⟨v42, rfl, rfl⟩; exact trivial) ?_; rintro _ _ ⟨v42, rfl, rfl⟩
  refine eN (hr := set_get e32) ?_
  refine eF fo40_5 (hr := set_get e32) ?_
  refine de_eff0 rfl rfl rfl rfl (Yield.weak (yl_ob (ob' := (⟨40, 8, true, true, v31, (a1.Ents.map GEnt.av).set (Int.toNat a2) [int x32.Now, boo x32.Closed, .sl 9 v34 0 x32.Pools.length, .sl 10 v36 0 x32.Bal.length, .sl 11 v38 0 x32.Rolls.length, .sl 12 v40 0 x32.Prices.length, lst 1 fI x32.Down, lst 8 GEnt.av x32.Ahead]⟩ : AObj)) (yl_store rfl sh23 rfl rfl rfl rfl rfl (set_get e32) rfl rfl rfl) (ob_eq set_setV)) (fun _ h => h) (fun _ _ => trivial)) (by rintro _ _ ⟨rfl, rfl⟩; exact trivial) ?_; rintro _ _ ⟨rfl, rfl⟩
  refine eN (hr := set_get e32) ?_
  refine eF fo40_6 (hr := set_get e32) ?_
  refine de_eff0 rfl rfl rfl rfl (Yield.weak (yl_ob (ob' := (⟨40, 8, true, true, v31, (a1.Ents.map GEnt.av).set (Int.toNat a2) [int x32.Now, boo x32.Closed, .sl 9 v34 0 x32.Pools.length, .sl 10 v36 0 x32.Bal.length, .sl 11 v38 0 x32.Rolls.length, .sl 12 v40 0 x32.Prices.length, .sl 13 v42 0 x32.Down.length, lst 8 GEnt.av x32.Ahead]⟩ : AObj)) (yl_store rfl sh23 rfl rfl rfl rfl rfl (set_get e32) rfl rfl rfl) (ob_eq set_setV)) (fun _ h => h) (fun _ _ => trivial)) (by rintro _ _ ⟨rfl, rfl⟩; exact trivial) ?_; rintro _ _ ⟨rfl, rfl⟩
  refine de_nil (hK _ ?_)
  refine tc tbk 3 (.mk ?_)
  refine sS ⟨32, 10, true, true, v29, [[int a1.Master.Entities, int a1.Master.Periods, lst 1 fI a1.Master.Weights, lst 1 (fL 1 fI) a1.Master.Methods, lst 1 (fL 1 fI) a1.Master.Costs, .sl 8 v31 0 a1.Ents.length, lst 8 GReceipt.av a1.Receipts, .sc (.slice none 0 0), lst 6 GTransit.av a1.Transits, int a1.Done]]⟩ sh32 ?_
  refine tr tbk 1 (.mk ?_)
  obtain rfl := nxt_e h1
  refine w_ret (hret _ _ (hk [(1, ⟨32, 10, true, true, v5, [[int a1.Master.Entities, int a1.Master.Periods, lst 1 fI a1.Master.Weights, lst 1 (fL 1 fI) a1.Master.Methods, lst 1 (fL 1 fI) a1.Master.Costs, lst 8 GEnt.av a1.Ents, lst 8 GReceipt.av a1.Receipts, .sc (.slice none 0 0), lst 6 GTransit.av a1.Transits, int a1.Done]]⟩), (3, ⟨32, 10, true, true, v7, [[int 0, int 0, .sc (.slice none 0 0), .sc (.slice none 0 0), .sc (.slice none 0 0), .sc (.slice none 0 0), .sc (.slice none 0 0), .sc (.slice none 0 0), .sc (.slice none 0 0), int 0]]⟩), (4, ⟨108, 11, true, true, v14, [y1_1.map int]⟩), (8, ⟨40, 8, true, true, v31, (a1.Ents.map GEnt.av).set (Int.toNat a2) [int x32.Now, boo x32.Closed, .sl 9 v34 0 x32.Pools.length, .sl 10 v36 0 x32.Bal.length, .sl 11 v38 0 x32.Rolls.length, .sl 12 v40 0 x32.Prices.length, .sl 13 v42 0 x32.Down.length, lst 8 GEnt.av x32.Ahead]⟩), (9, ⟨82, 4, true, true, v34, x32.Pools.map GPool.av⟩), (10, ⟨3, 1, true, true, v36, x32.Bal.map fI⟩), (11, ⟨67, 11, true, true, v38, x32.Rolls.map GRoll.av⟩), (12, ⟨3, 1, true, true, v40, x32.Prices.map fI⟩), (13, ⟨3, 1, true, true, v42, x32.Down.map fI⟩)]) (.cell rfl (.pt rfl rfl rfl) sh32 rfl .nil) (HK.le ⟨rfl, rfl, rfl, rfl, rfl, rfl, rfl, rfl, rfl, trivial⟩) ?_)
  exact ⟨(x32.Now, x32.Closed, x32.Ahead, x32.Pools, x32.Bal, x32.Rolls, x32.Prices, x32.Down), (v31, v34, v36, v38, v40, v42), rfl, rfl, rfl⟩
  rintro y _ ⟨⟨y2_2, y2_3, y2_9, y2_10, y2_11, y2_12, y2_13, y2_14⟩, ⟨w2_1, w2_4, w2_5, w2_6, w2_7, w2_8⟩, rfl, hc, rfl⟩
  replace h0 := p2_e h0
  replace h0 := p2_e h0
  replace h0 := p2_e h0
  replace h0 := p2_e h0
  replace h0 := p2_e h0
  replace h0 := p2_e h0
  replace h0 := p2_e h0
  subst hc
  obtain ⟨x43, e43, h0⟩ := bind_e h0
  refine sA 14 z32 fun v44 => ?_
  refine sS ⟨32, 10, true, true, v44, [[int a1.Master.Entities, int a1.Master.Periods, lst 1 fI a1.Master.Weights, lst 1 (fL 1 fI) a1.Master.Methods, lst 1 (fL 1 fI) a1.Master.Costs, .sl 8 w2_1 0 a1.Ents.length, lst 8 GReceipt.av a1.Receipts, .sc (.slice none 0 0), lst 6 GTransit.av a1.Transits, int a1.Done]]⟩ sh32 ?_
  refine tr tbk 2 (.mk ?_)
  refine c_drawE [0, 1, 0, 7, 15, 31, 0, 0, 128, 511, 1023] (rl [(0, [14]), (1, [14]), (3, [8]), (4, [8]), (5, [8]), (7, [4]), (9, [11])] []) (rl [(10, [])] [4, 8, 11, 14]) (rl [(10, false)] true) [0, 1, 2, 3, 4, 5, 6, 7, 8, 9, 10] mixed (by kernel_rfl) ?_; intro K hK
  refine eF fo32_1 ?_
  refine eL sh27 ?_
  refine eM ?_
  refine de_pure rfl rfl rfl rfl (fun H hH => yv_ixO rfl Tryz.underlying27 sh40 rfl rfl ((hH _ (by decide)).trans rfl) rfl rfl (Eq.symm rfl) len_ov e43) ?_
  refine eF fo40_4 (hr := set_get e43) ?_
  refine eL sh38 (hr := set_get e43) ?_
  refine eM ?_
  obtain ⟨p45, h0⟩ := asrt_e h0
  refine de_pure rfl rfl rfl rfl (fun H hH => yv_ldARw rfl sh108 rfl ((hH _ (by decide)).trans rfl) rfl rfl p45) ?_
  obtain ⟨x46, e46, h0⟩ := bind_e h0
  refine eP (fun H hH => yv_callP rfl rfl (.cons rfl .nil) cal100 (CvL.refl _) (d_ref14_Roll_c e46)) ?_
  obtain ⟨x47, e47, h0⟩ := bind_e h0
  refine de_pure rfl rfl rfl rfl (fun H hH => yv_ixO rfl Tryz.underlying38 sh67 rfl rfl ((hH _ (by decide)).trans rfl) rfl rfl (Eq.symm rfl) (List.length_map _) e47) ?_
  obtain ⟨x48, e48, h0⟩ := bnd_e h0
  have fx48 := ix_set e47 e48; have lx48 := len_setV e48 (rfl : y2_12.length = y2_12.length)
  refine de_eff0 rfl rfl rfl rfl (Yield.weak (yl_ob (ob' := (⟨67, 11, true, true, w2_6, x48.map GRoll.av⟩ : AObj)) (yl_store rfl sh67 rfl rfl rfl rfl rfl (ix_get e47) rfl rfl rfl) (ob_eq (map_setV e48))) (fun _ h => h) (fun _ _ => trivial)) (by rintro _ _ ⟨rfl, rfl⟩; exact trivial) ?_; rintro _ _ ⟨rfl, rfl⟩
  refine de_nil (hK _ ?_)
  refine tc tbk 3 (.mk ?_)
  refine sS ⟨32, 10, true, true, v7, [[int a1.Master.Entities, int a1.Master.Periods, lst 1 fI a1.Master.Weights, lst 1 (fL 1 fI) a1.Master.Methods, lst 1 (fL 1 fI) a1.Master.Costs, .sl 8 w2_1 0 a1.Ents.length, lst 8 GReceipt.av a1.Receipts, .sc (.slice none 0 0), lst 6 GTransit.av a1.Transits, int a1.Done]]⟩ sh32 ?_
  refine tr tbk 2 (.mk ?_)
  obtain rfl := nxt_e h0
  refine wR hret (rC sh32 (rT .nil)) ?_
  exact CvL.tup (.cons (CvL.agg (.cons (.refl _) (.cons (.refl _) (.cons (.refl _) (.cons (.refl _) (.cons (.refl _) (.cons (cv_ov rfl rfl rfl rfl rfl (Eq.symm rfl) e43 (cvl_to (.cons (.refl _) (.cons (.refl _) (.cons (cv_lst rfl rfl rfl rfl rfl (Eq.symm rfl)) (.cons (cv_lst rfl rfl rfl rfl rfl (Eq.symm rfl)) (.cons (cv_lst rfl rfl rfl rfl rfl (Eq.symm lx48)) (.cons (cv_lst rfl rfl rfl rfl rfl (Eq.symm rfl)) (.cons (cv_lst rfl rfl rfl rfl rfl (Eq.symm rfl)) (.cons (.refl _) .nil)))))))) (GEnt.av_eq _))) (.cons (.refl _) (.cons (.refl _) (.cons (.refl _) (.cons (.refl _) .nil))))))))))) (.cons (.refl _) .nil))
end Go.Pv
