import Derived.Test.YtkinibckmebacaaGreatPvAE
import Derived.Test.YtkinibckmebacaaGreatPvAG
import Derived.Test.YtkinibckmebacaaGreatPvAH
import Derived.Test.YtkinibckmebacaaGreatProg
set_option linter.unusedVariables false
set_option linter.unusedSimpArgs false
namespace Go.Pv
open Go.Proofs
theorem mixed : Tryz.prog.follows .mixedOrders = true := by kernel_rfl
set_option maxRecDepth 10000
set_option maxHeartbeats 1000000
structure GMaster where
  Entities : Int
  Periods : Int
  Weights : List Int
  Methods : List (List Int)
  Costs : List (List Int)
  deriving DecidableEq, Inhabited
@[reducible] def GMaster.av (x : GMaster) : List AV := [int x.Entities, int x.Periods, lst 1 fI x.Weights, lst 1 (fL 1 fI) x.Methods, lst 1 (fL 1 fI) x.Costs]
theorem GMaster.pvc (x : GMaster) : ∀ a ∈ x.av, PV a := by
  intro a ha; simp only [GMaster.av, List.mem_cons, List.not_mem_nil, or_false] at ha
  rcases ha with rfl | rfl | rfl | rfl | rfl
  · exact pvI x.Entities
  · exact pvI x.Periods
  · exact (pvLs pvcI) x.Weights
  · exact (pvLs (pvcLs pvcI)) x.Methods
  · exact (pvLs (pvcLs pvcI)) x.Costs
structure GLayer where
  Qty : Int
  Value : Int
  Profit : Int
  deriving DecidableEq, Inhabited
@[reducible] def GLayer.av (x : GLayer) : List AV := [int x.Qty, int x.Value, int x.Profit]
theorem GLayer.pvc (x : GLayer) : ∀ a ∈ x.av, PV a := by
  intro a ha; simp only [GLayer.av, List.mem_cons, List.not_mem_nil, or_false] at ha
  rcases ha with rfl | rfl | rfl
  · exact pvI x.Qty
  · exact pvI x.Value
  · exact pvI x.Profit
structure A3_Int where
  a0 : Int
  a1 : Int
  a2 : Int
  deriving DecidableEq, Inhabited
@[reducible] def A3_Int.av (x : A3_Int) : List AV := [int x.a0, int x.a1, int x.a2]
theorem A3_Int.pvc (x : A3_Int) : ∀ a ∈ x.av, PV a := by
  intro a ha; simp only [A3_Int.av, List.mem_cons, List.not_mem_nil, or_false] at ha
  rcases ha with rfl | rfl | rfl
  · exact pvI x.a0
  · exact pvI x.a1
  · exact pvI x.a2
theorem A3_Int.eqv (x y : A3_Int) : (decide (x.a0 = y.a0) && (decide (x.a1 = y.a1) && (decide (x.a2 = y.a2) && true))) = decide (x = y) := by
  cases x; cases y; rw [Bool.eq_iff_iff]; simp only [Bool.and_eq_true, decide_eq_true_eq, A3_Int.mk.injEq, and_true]
structure GPool where
  Layers : List GLayer
  Pend : A3_Int
  deriving DecidableEq, Inhabited
@[reducible] def GPool.av (x : GPool) : List AV := [lst 3 GLayer.av x.Layers, int x.Pend.a0, int x.Pend.a1, int x.Pend.a2]
theorem GPool.pvc (x : GPool) : ∀ a ∈ x.av, PV a := by
  intro a ha; simp only [GPool.av, List.mem_cons, List.not_mem_nil, or_false] at ha
  rcases ha with rfl | rfl | rfl | rfl
  · exact (pvLs GLayer.pvc) x.Layers
  · exact pvI x.Pend.a0
  · exact pvI x.Pend.a1
  · exact pvI x.Pend.a2
structure GRoll where
  Open : Int
  Bought : Int
  Landed : Int
  Arrived : Int
  Returned : Int
  Sold : Int
  Shipped : Int
  SentBack : Int
  Scrapped : Int
  Lost : Int
  Revalued : Int
  deriving DecidableEq, Inhabited
@[reducible] def GRoll.av (x : GRoll) : List AV := [int x.Open, int x.Bought, int x.Landed, int x.Arrived, int x.Returned, int x.Sold, int x.Shipped, int x.SentBack, int x.Scrapped, int x.Lost, int x.Revalued]
theorem GRoll.pvc (x : GRoll) : ∀ a ∈ x.av, PV a := by
  intro a ha; simp only [GRoll.av, List.mem_cons, List.not_mem_nil, or_false] at ha
  rcases ha with rfl | rfl | rfl | rfl | rfl | rfl | rfl | rfl | rfl | rfl | rfl
  · exact pvI x.Open
  · exact pvI x.Bought
  · exact pvI x.Landed
  · exact pvI x.Arrived
  · exact pvI x.Returned
  · exact pvI x.Sold
  · exact pvI x.Shipped
  · exact pvI x.SentBack
  · exact pvI x.Scrapped
  · exact pvI x.Lost
  · exact pvI x.Revalued
structure GEnt where
  Now : Int
  Closed : Bool
  Pools : List GPool
  Bal : List Int
  Rolls : List GRoll
  Prices : List Int
  Down : List Int
  Ahead : List GEnt
  deriving Inhabited
mutual
def GEnt.av : GEnt → List AV
  | ⟨Now, Closed, Pools, Bal, Rolls, Prices, Down, Ahead⟩ => [int Now, boo Closed, lst 4 GPool.av Pools, lst 1 fI Bal, lst 11 GRoll.av Rolls, lst 1 fI Prices, lst 1 fI Down, .list 8 (GEnt.avs Ahead)]
def GEnt.avs : List GEnt → List (List AV)
  | [] => []
  | x :: r => GEnt.av x :: GEnt.avs r
end
theorem GEnt.avs_map (l : List GEnt) : GEnt.avs l = l.map GEnt.av := by
  induction l with
  | nil => unfold GEnt.avs; rfl
  | cons x r ih => unfold GEnt.avs; rw [ih]; rfl
theorem GEnt.av_eq (x : GEnt) : GEnt.av x = [int x.Now, boo x.Closed, lst 4 GPool.av x.Pools, lst 1 fI x.Bal, lst 11 GRoll.av x.Rolls, lst 1 fI x.Prices, lst 1 fI x.Down, lst 8 GEnt.av x.Ahead] := by
  cases x; unfold GEnt.av; rw [GEnt.avs_map]
theorem GEnt.one (x : GEnt) : allOne (GEnt.av x) = true := by rw [GEnt.av_eq]; rfl
mutual
theorem GEnt.pvc : ∀ (x : GEnt), ∀ a ∈ x.av, PV a
  | ⟨Now, Closed, Pools, Bal, Rolls, Prices, Down, Ahead⟩ => by
    intro a ha; unfold GEnt.av at ha; simp only [List.mem_cons, List.not_mem_nil, or_false] at ha
    rcases ha with rfl | rfl | rfl | rfl | rfl | rfl | rfl | rfl
    · exact pvI Now
    · exact pvB Closed
    · exact (pvLs GPool.pvc) Pools
    · exact (pvLs pvcI) Bal
    · exact (pvLs GRoll.pvc) Rolls
    · exact (pvLs pvcI) Prices
    · exact (pvLs pvcI) Down
    · exact .list (fun r hr => GEnt.pvcs Ahead r hr)
theorem GEnt.pvcs : ∀ (l : List GEnt), ∀ r ∈ GEnt.avs l, ∀ a ∈ r, PV a
  | [] => by intro r hr; unfold GEnt.avs at hr; cases hr
  | x :: l => by
    intro r hr; unfold GEnt.avs at hr
    rcases List.mem_cons.1 hr with e | h
    · rw [e]; exact GEnt.pvc x
    · exact GEnt.pvcs l r h
end
structure GReceipt where
  Entity : Int
  Item : Int
  Loc : Int
  Qty : Int
  Value : Int
  Open : Int
  Accrued : Int
  Back : Int
  deriving DecidableEq, Inhabited
@[reducible] def GReceipt.av (x : GReceipt) : List AV := [int x.Entity, int x.Item, int x.Loc, int x.Qty, int x.Value, int x.Open, int x.Accrued, int x.Back]
theorem GReceipt.pvc (x : GReceipt) : ∀ a ∈ x.av, PV a := by
  intro a ha; simp only [GReceipt.av, List.mem_cons, List.not_mem_nil, or_false] at ha
  rcases ha with rfl | rfl | rfl | rfl | rfl | rfl | rfl | rfl
  · exact pvI x.Entity
  · exact pvI x.Item
  · exact pvI x.Loc
  · exact pvI x.Qty
  · exact pvI x.Value
  · exact pvI x.Open
  · exact pvI x.Accrued
  · exact pvI x.Back
structure GSale where
  Entity : Int
  Item : Int
  Loc : Int
  Qty : Int
  Back : Int
  Cost : Int
  Profit : Int
  Period : Int
  Waits : Bool
  deriving DecidableEq, Inhabited
@[reducible] def GSale.av (x : GSale) : List AV := [int x.Entity, int x.Item, int x.Loc, int x.Qty, int x.Back, int x.Cost, int x.Profit, int x.Period, boo x.Waits]
theorem GSale.pvc (x : GSale) : ∀ a ∈ x.av, PV a := by
  intro a ha; simp only [GSale.av, List.mem_cons, List.not_mem_nil, or_false] at ha
  rcases ha with rfl | rfl | rfl | rfl | rfl | rfl | rfl | rfl | rfl
  · exact pvI x.Entity
  · exact pvI x.Item
  · exact pvI x.Loc
  · exact pvI x.Qty
  · exact pvI x.Back
  · exact pvI x.Cost
  · exact pvI x.Profit
  · exact pvI x.Period
  · exact pvB x.Waits
structure GTransit where
  From : Int
  To : Int
  Item : Int
  Qty : Int
  Value : Int
  Profit : Int
  deriving DecidableEq, Inhabited
@[reducible] def GTransit.av (x : GTransit) : List AV := [int x.From, int x.To, int x.Item, int x.Qty, int x.Value, int x.Profit]
theorem GTransit.pvc (x : GTransit) : ∀ a ∈ x.av, PV a := by
  intro a ha; simp only [GTransit.av, List.mem_cons, List.not_mem_nil, or_false] at ha
  rcases ha with rfl | rfl | rfl | rfl | rfl | rfl
  · exact pvI x.From
  · exact pvI x.To
  · exact pvI x.Item
  · exact pvI x.Qty
  · exact pvI x.Value
  · exact pvI x.Profit
structure GState where
  Master : GMaster
  Ents : List GEnt
  Receipts : List GReceipt
  Sales : List GSale
  Transits : List GTransit
  Done : Int
  deriving Inhabited
@[reducible] def GState.av (x : GState) : List AV := [int x.Master.Entities, int x.Master.Periods, lst 1 fI x.Master.Weights, lst 1 (fL 1 fI) x.Master.Methods, lst 1 (fL 1 fI) x.Master.Costs, lst 8 GEnt.av x.Ents, lst 8 GReceipt.av x.Receipts, lst 9 GSale.av x.Sales, lst 6 GTransit.av x.Transits, int x.Done]
theorem GState.pvc (x : GState) : ∀ a ∈ x.av, PV a := by
  intro a ha; simp only [GState.av, List.mem_cons, List.not_mem_nil, or_false] at ha
  rcases ha with rfl | rfl | rfl | rfl | rfl | rfl | rfl | rfl | rfl | rfl
  · exact pvI x.Master.Entities
  · exact pvI x.Master.Periods
  · exact (pvLs pvcI) x.Master.Weights
  · exact (pvLs (pvcLs pvcI)) x.Master.Methods
  · exact (pvLs (pvcLs pvcI)) x.Master.Costs
  · exact (pvLs GEnt.pvc) x.Ents
  · exact (pvLs GReceipt.pvc) x.Receipts
  · exact (pvLs GSale.pvc) x.Sales
  · exact (pvLs GTransit.pvc) x.Transits
  · exact pvI x.Done
structure GOp where
  Kind : Int
  E : Int
  Item : Int
  Loc : Int
  To : Int
  Qty : Int
  Amount : Int
  Ref : Int
  Refs : List Int
  deriving DecidableEq, Inhabited
@[reducible] def GOp.av (x : GOp) : List AV := [int x.Kind, int x.E, int x.Item, int x.Loc, int x.To, int x.Qty, int x.Amount, int x.Ref, lst 1 fI x.Refs]
theorem GOp.pvc (x : GOp) : ∀ a ∈ x.av, PV a := by
  intro a ha; simp only [GOp.av, List.mem_cons, List.not_mem_nil, or_false] at ha
  rcases ha with rfl | rfl | rfl | rfl | rfl | rfl | rfl | rfl | rfl
  · exact pvI x.Kind
  · exact pvI x.E
  · exact pvI x.Item
  · exact pvI x.Loc
  · exact pvI x.To
  · exact pvI x.Qty
  · exact pvI x.Amount
  · exact pvI x.Ref
  · exact (pvLs pvcI) x.Refs
structure A17_List_UInt8 where
  a0 : List UInt8
  a1 : List UInt8
  a2 : List UInt8
  a3 : List UInt8
  a4 : List UInt8
  a5 : List UInt8
  a6 : List UInt8
  a7 : List UInt8
  a8 : List UInt8
  a9 : List UInt8
  a10 : List UInt8
  a11 : List UInt8
  a12 : List UInt8
  a13 : List UInt8
  a14 : List UInt8
  a15 : List UInt8
  a16 : List UInt8
  deriving DecidableEq, Inhabited
@[reducible] def A17_List_UInt8.av (x : A17_List_UInt8) : List AV := [str x.a0, str x.a1, str x.a2, str x.a3, str x.a4, str x.a5, str x.a6, str x.a7, str x.a8, str x.a9, str x.a10, str x.a11, str x.a12, str x.a13, str x.a14, str x.a15, str x.a16]
theorem A17_List_UInt8.pvc (x : A17_List_UInt8) : ∀ a ∈ x.av, PV a := by
  intro a ha; simp only [A17_List_UInt8.av, List.mem_cons, List.not_mem_nil, or_false] at ha
  rcases ha with rfl | rfl | rfl | rfl | rfl | rfl | rfl | rfl | rfl | rfl | rfl | rfl | rfl | rfl | rfl | rfl | rfl
  · exact pvS x.a0
  · exact pvS x.a1
  · exact pvS x.a2
  · exact pvS x.a3
  · exact pvS x.a4
  · exact pvS x.a5
  · exact pvS x.a6
  · exact pvS x.a7
  · exact pvS x.a8
  · exact pvS x.a9
  · exact pvS x.a10
  · exact pvS x.a11
  · exact pvS x.a12
  · exact pvS x.a13
  · exact pvS x.a14
  · exact pvS x.a15
  · exact pvS x.a16
structure Gperiodic where
  deriving DecidableEq, Inhabited
@[reducible] def Gperiodic.av (x : Gperiodic) : List AV := []
theorem Gperiodic.pvc (x : Gperiodic) : ∀ a ∈ x.av, PV a := by
  intro a ha; cases ha
structure GLine where
  Account : Int
  Amount : Int
  deriving DecidableEq, Inhabited
@[reducible] def GLine.av (x : GLine) : List AV := [int x.Account, int x.Amount]
theorem GLine.pvc (x : GLine) : ∀ a ∈ x.av, PV a := by
  intro a ha; simp only [GLine.av, List.mem_cons, List.not_mem_nil, or_false] at ha
  rcases ha with rfl | rfl
  · exact pvI x.Account
  · exact pvI x.Amount
structure A3_GLayer where
  a0 : GLayer
  a1 : GLayer
  a2 : GLayer
  deriving DecidableEq, Inhabited
@[reducible] def A3_GLayer.av (x : A3_GLayer) : List AV := [int x.a0.Qty, int x.a0.Value, int x.a0.Profit, int x.a1.Qty, int x.a1.Value, int x.a1.Profit, int x.a2.Qty, int x.a2.Value, int x.a2.Profit]
theorem A3_GLayer.pvc (x : A3_GLayer) : ∀ a ∈ x.av, PV a := by
  intro a ha; simp only [A3_GLayer.av, List.mem_cons, List.not_mem_nil, or_false] at ha
  rcases ha with rfl | rfl | rfl | rfl | rfl | rfl | rfl | rfl | rfl
  · exact pvI x.a0.Qty
  · exact pvI x.a0.Value
  · exact pvI x.a0.Profit
  · exact pvI x.a1.Qty
  · exact pvI x.a1.Value
  · exact pvI x.a1.Profit
  · exact pvI x.a2.Qty
  · exact pvI x.a2.Value
  · exact pvI x.a2.Profit
structure A11_Int where
  a0 : Int
  a1 : Int
  a2 : Int
  a3 : Int
  a4 : Int
  a5 : Int
  a6 : Int
  a7 : Int
  a8 : Int
  a9 : Int
  a10 : Int
  deriving DecidableEq, Inhabited
@[reducible] def A11_Int.av (x : A11_Int) : List AV := [int x.a0, int x.a1, int x.a2, int x.a3, int x.a4, int x.a5, int x.a6, int x.a7, int x.a8, int x.a9, int x.a10]
theorem A11_Int.pvc (x : A11_Int) : ∀ a ∈ x.av, PV a := by
  intro a ha; simp only [A11_Int.av, List.mem_cons, List.not_mem_nil, or_false] at ha
  rcases ha with rfl | rfl | rfl | rfl | rfl | rfl | rfl | rfl | rfl | rfl | rfl
  · exact pvI x.a0
  · exact pvI x.a1
  · exact pvI x.a2
  · exact pvI x.a3
  · exact pvI x.a4
  · exact pvI x.a5
  · exact pvI x.a6
  · exact pvI x.a7
  · exact pvI x.a8
  · exact pvI x.a9
  · exact pvI x.a10
theorem A11_Int.eqv (x y : A11_Int) : (decide (x.a0 = y.a0) && (decide (x.a1 = y.a1) && (decide (x.a2 = y.a2) && (decide (x.a3 = y.a3) && (decide (x.a4 = y.a4) && (decide (x.a5 = y.a5) && (decide (x.a6 = y.a6) && (decide (x.a7 = y.a7) && (decide (x.a8 = y.a8) && (decide (x.a9 = y.a9) && (decide (x.a10 = y.a10) && true))))))))))) = decide (x = y) := by
  cases x; cases y; rw [Bool.eq_iff_iff]; simp only [Bool.and_eq_true, decide_eq_true_eq, A11_Int.mk.injEq, and_true]
theorem sh1 : tySh Tryz.prog 1 = some (1, false) := by kernel_rfl
theorem sh3 : tySh Tryz.prog 3 = some (1, false) := by kernel_rfl
theorem sh4 : tySh Tryz.prog 4 = some (1, false) := by kernel_rfl
theorem sh22 : tySh Tryz.prog 22 = some (1, false) := by kernel_rfl
theorem sh23 : tySh Tryz.prog 23 = some (1, false) := by kernel_rfl
theorem sh25 : tySh Tryz.prog 25 = some (5, true) := by kernel_rfl
theorem sh26 : tySh Tryz.prog 26 = some (1, false) := by kernel_rfl
theorem sh27 : tySh Tryz.prog 27 = some (1, false) := by kernel_rfl
theorem sh28 : tySh Tryz.prog 28 = some (1, false) := by kernel_rfl
theorem sh31 : tySh Tryz.prog 31 = some (10, true) := by kernel_rfl
theorem sh33 : tySh Tryz.prog 33 = some (1, false) := by kernel_rfl
theorem sh43 : tySh Tryz.prog 43 = some (1, false) := by kernel_rfl
theorem sh44 : tySh Tryz.prog 44 = some (1, false) := by kernel_rfl
theorem sh46 : tySh Tryz.prog 46 = some (8, true) := by kernel_rfl
theorem sh53 : tySh Tryz.prog 53 = some (9, true) := by kernel_rfl
theorem sh55 : tySh Tryz.prog 55 = some (11, true) := by kernel_rfl
theorem sh57 : tySh Tryz.prog 57 = some (3, true) := by kernel_rfl
theorem sh83 : tySh Tryz.prog 83 = some (1, false) := by kernel_rfl
theorem sh84 : tySh Tryz.prog 84 = some (17, true) := by kernel_rfl
theorem sh89 : tySh Tryz.prog 89 = some (1, false) := by kernel_rfl
theorem sh95 : tySh Tryz.prog 95 = some (1, false) := by kernel_rfl
theorem sh96 : tySh Tryz.prog 96 = some (3, true) := by kernel_rfl
theorem sh98 : tySh Tryz.prog 98 = some (4, true) := by kernel_rfl
theorem sh105 : tySh Tryz.prog 105 = some (1, false) := by kernel_rfl
theorem sh125 : tySh Tryz.prog 125 = some (2, true) := by kernel_rfl
theorem sh130 : tySh Tryz.prog 130 = some (8, true) := by kernel_rfl
theorem sh151 : tySh Tryz.prog 151 = some (9, true) := by kernel_rfl
theorem sh157 : tySh Tryz.prog 157 = some (1, false) := by kernel_rfl
theorem sh166 : tySh Tryz.prog 166 = some (11, true) := by kernel_rfl
theorem sh173 : tySh Tryz.prog 173 = some (10, true) := by kernel_rfl
theorem sh224 : tySh Tryz.prog 224 = some (1, false) := by kernel_rfl
theorem sh242 : tySh Tryz.prog 242 = some (1, false) := by kernel_rfl
theorem sh244 : tySh Tryz.prog 244 = some (3, true) := by kernel_rfl
theorem sh246 : tySh Tryz.prog 246 = some (4, true) := by kernel_rfl
theorem sh247 : tySh Tryz.prog 247 = some (2, true) := by kernel_rfl
theorem sh258 : tySh Tryz.prog 258 = some (0, true) := by kernel_rfl
theorem by125 : bby Tryz.prog 125 = some 16 := by kernel_rfl
theorem by130 : bby Tryz.prog 130 = some 64 := by kernel_rfl
theorem by22 : bby Tryz.prog 22 = some 24 := by kernel_rfl
theorem by3 : bby Tryz.prog 3 = some 8 := by kernel_rfl
theorem by46 : bby Tryz.prog 46 = some 160 := by kernel_rfl
theorem by53 : bby Tryz.prog 53 = some 72 := by kernel_rfl
theorem by55 : bby Tryz.prog 55 = some 88 := by kernel_rfl
theorem by57 : bby Tryz.prog 57 = some 24 := by kernel_rfl
theorem by98 : bby Tryz.prog 98 = some 48 := by kernel_rfl
theorem bz1 : bsz Tryz.prog 1 = some (1, [.nilFunc]) := by kernel_rfl
theorem bz125 : bsz Tryz.prog 125 = some (2, [.int .i64 0, .int .i64 0]) := by kernel_rfl
theorem bz130 : bsz Tryz.prog 130 = some (8, [.int .i64 0, .int .i64 0, .int .i64 0, .int .i64 0, .int .i64 0, .int .i64 0, .int .i64 0, .int .i64 0]) := by kernel_rfl
theorem bz22 : bsz Tryz.prog 22 = some (1, [.slice none 0 0]) := by kernel_rfl
theorem bz247 : bsz Tryz.prog 247 = some (2, [.pointer none, .slice none 0 0]) := by kernel_rfl
theorem bz3 : bsz Tryz.prog 3 = some (1, [.int .i64 0]) := by kernel_rfl
theorem bz46 : bsz Tryz.prog 46 = some (8, [.int .i64 0, .bool false, .slice none 0 0, .slice none 0 0, .slice none 0 0, .slice none 0 0, .slice none 0 0, .slice none 0 0]) := by kernel_rfl
theorem bz53 : bsz Tryz.prog 53 = some (9, [.int .i64 0, .int .i64 0, .int .i64 0, .int .i64 0, .int .i64 0, .int .i64 0, .int .i64 0, .int .i64 0, .bool false]) := by kernel_rfl
theorem bz55 : bsz Tryz.prog 55 = some (11, [.int .i64 0, .int .i64 0, .int .i64 0, .int .i64 0, .int .i64 0, .int .i64 0, .int .i64 0, .int .i64 0, .int .i64 0, .int .i64 0, .int .i64 0]) := by kernel_rfl
theorem bz57 : bsz Tryz.prog 57 = some (3, [.int .i64 0, .int .i64 0, .int .i64 0]) := by kernel_rfl
theorem bz89 : bsz Tryz.prog 89 = some (1, [.pointer none]) := by kernel_rfl
theorem bz98 : bsz Tryz.prog 98 = some (4, [.slice none 0 0, .int .i64 0, .int .i64 0, .int .i64 0]) := by kernel_rfl
theorem c3 : Tryz.prog.cellsOf 3 = 1 := by kernel_rfl
theorem cal100 : cal Tryz.prog 100 = true := by kernel_rfl
theorem cal101 : cal Tryz.prog 101 = true := by kernel_rfl
theorem cal102 : cal Tryz.prog 102 = true := by kernel_rfl
theorem cal103 : cal Tryz.prog 103 = true := by kernel_rfl
theorem cal104 : cal Tryz.prog 104 = true := by kernel_rfl
theorem cal105 : cal Tryz.prog 105 = true := by kernel_rfl
theorem cal106 : cal Tryz.prog 106 = true := by kernel_rfl
theorem cal107 : cal Tryz.prog 107 = true := by kernel_rfl
theorem cal108 : cal Tryz.prog 108 = true := by kernel_rfl
theorem cal11 : cal Tryz.prog 11 = true := by kernel_rfl
theorem cal12 : cal Tryz.prog 12 = true := by kernel_rfl
theorem cal124 : cal Tryz.prog 124 = true := by kernel_rfl
theorem cal125 : cal Tryz.prog 125 = true := by kernel_rfl
theorem cal126 : cal Tryz.prog 126 = true := by kernel_rfl
theorem cal127 : cal Tryz.prog 127 = true := by kernel_rfl
theorem cal128 : cal Tryz.prog 128 = true := by kernel_rfl
theorem cal129 : cal Tryz.prog 129 = true := by kernel_rfl
theorem cal13 : cal Tryz.prog 13 = true := by kernel_rfl
theorem cal130 : cal Tryz.prog 130 = true := by kernel_rfl
theorem cal131 : cal Tryz.prog 131 = true := by kernel_rfl
theorem cal132 : cal Tryz.prog 132 = true := by kernel_rfl
theorem cal133 : cal Tryz.prog 133 = true := by kernel_rfl
theorem cal134 : cal Tryz.prog 134 = true := by kernel_rfl
theorem cal135 : cal Tryz.prog 135 = true := by kernel_rfl
theorem cal136 : cal Tryz.prog 136 = true := by kernel_rfl
theorem cal137 : cal Tryz.prog 137 = true := by kernel_rfl
theorem cal139 : cal Tryz.prog 139 = true := by kernel_rfl
theorem cal14 : cal Tryz.prog 14 = true := by kernel_rfl
theorem cal141 : cal Tryz.prog 141 = true := by kernel_rfl
theorem cal15 : cal Tryz.prog 15 = true := by kernel_rfl
theorem cal150 : cal Tryz.prog 150 = true := by kernel_rfl
theorem cal151 : cal Tryz.prog 151 = true := by kernel_rfl
theorem cal152 : cal Tryz.prog 152 = true := by kernel_rfl
theorem cal153 : cal Tryz.prog 153 = true := by kernel_rfl
theorem cal154 : cal Tryz.prog 154 = true := by kernel_rfl
theorem cal155 : cal Tryz.prog 155 = true := by kernel_rfl
theorem cal156 : cal Tryz.prog 156 = true := by kernel_rfl
theorem cal16 : cal Tryz.prog 16 = true := by kernel_rfl
theorem cal162 : cal Tryz.prog 162 = true := by kernel_rfl
theorem cal166 : cal Tryz.prog 166 = true := by kernel_rfl
theorem cal167 : cal Tryz.prog 167 = true := by kernel_rfl
theorem cal168 : cal Tryz.prog 168 = true := by kernel_rfl
theorem cal169 : cal Tryz.prog 169 = true := by kernel_rfl
theorem cal170 : cal Tryz.prog 170 = true := by kernel_rfl
theorem cal171 : cal Tryz.prog 171 = true := by kernel_rfl
theorem cal172 : cal Tryz.prog 172 = true := by kernel_rfl
theorem cal18 : cal Tryz.prog 18 = true := by kernel_rfl
theorem cal19 : cal Tryz.prog 19 = true := by kernel_rfl
theorem cal193 : cal Tryz.prog 193 = true := by kernel_rfl
theorem cal194 : cal Tryz.prog 194 = true := by kernel_rfl
theorem cal195 : cal Tryz.prog 195 = true := by kernel_rfl
theorem cal196 : cal Tryz.prog 196 = true := by kernel_rfl
theorem cal197 : cal Tryz.prog 197 = true := by kernel_rfl
theorem cal198 : cal Tryz.prog 198 = true := by kernel_rfl
theorem cal199 : cal Tryz.prog 199 = true := by kernel_rfl
theorem cal20 : cal Tryz.prog 20 = true := by kernel_rfl
theorem cal200 : cal Tryz.prog 200 = true := by kernel_rfl
theorem cal201 : cal Tryz.prog 201 = true := by kernel_rfl
theorem cal202 : cal Tryz.prog 202 = true := by kernel_rfl
theorem cal203 : cal Tryz.prog 203 = true := by kernel_rfl
theorem cal204 : cal Tryz.prog 204 = true := by kernel_rfl
theorem cal205 : cal Tryz.prog 205 = true := by kernel_rfl
theorem cal206 : cal Tryz.prog 206 = true := by kernel_rfl
theorem cal207 : cal Tryz.prog 207 = true := by kernel_rfl
theorem cal208 : cal Tryz.prog 208 = true := by kernel_rfl
theorem cal209 : cal Tryz.prog 209 = true := by kernel_rfl
theorem cal210 : cal Tryz.prog 210 = true := by kernel_rfl
theorem cal211 : cal Tryz.prog 211 = true := by kernel_rfl
theorem cal218 : cal Tryz.prog 218 = true := by kernel_rfl
theorem cal219 : cal Tryz.prog 219 = true := by kernel_rfl
theorem cal22 : cal Tryz.prog 22 = true := by kernel_rfl
theorem cal220 : cal Tryz.prog 220 = true := by kernel_rfl
theorem cal221 : cal Tryz.prog 221 = true := by kernel_rfl
theorem cal222 : cal Tryz.prog 222 = true := by kernel_rfl
theorem cal224 : cal Tryz.prog 224 = true := by kernel_rfl
theorem cal225 : cal Tryz.prog 225 = true := by kernel_rfl
theorem cal23 : cal Tryz.prog 23 = true := by kernel_rfl
theorem cal24 : cal Tryz.prog 24 = true := by kernel_rfl
theorem cal242 : cal Tryz.prog 242 = true := by kernel_rfl
theorem cal243 : cal Tryz.prog 243 = true := by kernel_rfl
theorem cal244 : cal Tryz.prog 244 = true := by kernel_rfl
theorem cal245 : cal Tryz.prog 245 = true := by kernel_rfl
theorem cal246 : cal Tryz.prog 246 = true := by kernel_rfl
theorem cal247 : cal Tryz.prog 247 = true := by kernel_rfl
theorem cal248 : cal Tryz.prog 248 = true := by kernel_rfl
theorem cal249 : cal Tryz.prog 249 = true := by kernel_rfl
theorem cal25 : cal Tryz.prog 25 = true := by kernel_rfl
theorem cal250 : cal Tryz.prog 250 = true := by kernel_rfl
theorem cal253 : cal Tryz.prog 253 = true := by kernel_rfl
theorem cal254 : cal Tryz.prog 254 = true := by kernel_rfl
theorem cal255 : cal Tryz.prog 255 = true := by kernel_rfl
theorem cal256 : cal Tryz.prog 256 = true := by kernel_rfl
theorem cal258 : cal Tryz.prog 258 = true := by kernel_rfl
theorem cal259 : cal Tryz.prog 259 = true := by kernel_rfl
theorem cal26 : cal Tryz.prog 26 = true := by kernel_rfl
theorem cal268 : cal Tryz.prog 268 = true := by kernel_rfl
theorem cal269 : cal Tryz.prog 269 = true := by kernel_rfl
theorem cal27 : cal Tryz.prog 27 = true := by kernel_rfl
theorem cal270 : cal Tryz.prog 270 = true := by kernel_rfl
theorem cal272 : cal Tryz.prog 272 = true := by kernel_rfl
theorem cal273 : cal Tryz.prog 273 = true := by kernel_rfl
theorem cal274 : cal Tryz.prog 274 = true := by kernel_rfl
theorem cal275 : cal Tryz.prog 275 = true := by kernel_rfl
theorem cal279 : cal Tryz.prog 279 = true := by kernel_rfl
theorem cal28 : cal Tryz.prog 28 = true := by kernel_rfl
theorem cal282 : cal Tryz.prog 282 = true := by kernel_rfl
theorem cal29 : cal Tryz.prog 29 = true := by kernel_rfl
theorem cal301 : cal Tryz.prog 301 = true := by kernel_rfl
theorem cal306 : cal Tryz.prog 306 = true := by kernel_rfl
theorem cal307 : cal Tryz.prog 307 = true := by kernel_rfl
theorem cal309 : cal Tryz.prog 309 = true := by kernel_rfl
theorem cal36 : cal Tryz.prog 36 = true := by kernel_rfl
theorem cal37 : cal Tryz.prog 37 = true := by kernel_rfl
theorem cal43 : cal Tryz.prog 43 = true := by kernel_rfl
theorem cal44 : cal Tryz.prog 44 = true := by kernel_rfl
theorem cal45 : cal Tryz.prog 45 = true := by kernel_rfl
theorem cal46 : cal Tryz.prog 46 = true := by kernel_rfl
theorem cal48 : cal Tryz.prog 48 = true := by kernel_rfl
theorem cal49 : cal Tryz.prog 49 = true := by kernel_rfl
theorem cal50 : cal Tryz.prog 50 = true := by kernel_rfl
theorem cal51 : cal Tryz.prog 51 = true := by kernel_rfl
theorem cal52 : cal Tryz.prog 52 = true := by kernel_rfl
theorem cal53 : cal Tryz.prog 53 = true := by kernel_rfl
theorem cal54 : cal Tryz.prog 54 = true := by kernel_rfl
theorem cal55 : cal Tryz.prog 55 = true := by kernel_rfl
theorem cal56 : cal Tryz.prog 56 = true := by kernel_rfl
theorem cal57 : cal Tryz.prog 57 = true := by kernel_rfl
theorem cal58 : cal Tryz.prog 58 = true := by kernel_rfl
theorem cal59 : cal Tryz.prog 59 = true := by kernel_rfl
theorem cal60 : cal Tryz.prog 60 = true := by kernel_rfl
theorem cal61 : cal Tryz.prog 61 = true := by kernel_rfl
theorem cal62 : cal Tryz.prog 62 = true := by kernel_rfl
theorem cal7 : cal Tryz.prog 7 = true := by kernel_rfl
theorem cal70 : cal Tryz.prog 70 = true := by kernel_rfl
theorem cal71 : cal Tryz.prog 71 = true := by kernel_rfl
theorem cal72 : cal Tryz.prog 72 = true := by kernel_rfl
theorem cal73 : cal Tryz.prog 73 = true := by kernel_rfl
theorem cal74 : cal Tryz.prog 74 = true := by kernel_rfl
theorem cal75 : cal Tryz.prog 75 = true := by kernel_rfl
theorem cal76 : cal Tryz.prog 76 = true := by kernel_rfl
theorem cal77 : cal Tryz.prog 77 = true := by kernel_rfl
theorem cal78 : cal Tryz.prog 78 = true := by kernel_rfl
theorem cal79 : cal Tryz.prog 79 = true := by kernel_rfl
theorem cal8 : cal Tryz.prog 8 = true := by kernel_rfl
theorem cal80 : cal Tryz.prog 80 = true := by kernel_rfl
theorem cal87 : cal Tryz.prog 87 = true := by kernel_rfl
theorem cal9 : cal Tryz.prog 9 = true := by kernel_rfl
theorem cal93 : cal Tryz.prog 93 = true := by kernel_rfl
theorem cal94 : cal Tryz.prog 94 = true := by kernel_rfl
theorem cal95 : cal Tryz.prog 95 = true := by kernel_rfl
theorem cal96 : cal Tryz.prog 96 = true := by kernel_rfl
theorem cal97 : cal Tryz.prog 97 = true := by kernel_rfl
theorem fo125_0 : fOff Tryz.prog 125 0 = some 0 := by kernel_rfl
theorem fo125_1 : fOff Tryz.prog 125 1 = some 1 := by kernel_rfl
theorem fo173_0 : fOff Tryz.prog 173 0 = some 0 := by kernel_rfl
theorem fo25_1 : fOff Tryz.prog 25 1 = some 1 := by kernel_rfl
theorem fo25_2 : fOff Tryz.prog 25 2 = some 2 := by kernel_rfl
theorem fo25_3 : fOff Tryz.prog 25 3 = some 3 := by kernel_rfl
theorem fo25_4 : fOff Tryz.prog 25 4 = some 4 := by kernel_rfl
theorem fo31_0 : fOff Tryz.prog 31 0 = some 0 := by kernel_rfl
theorem fo31_1 : fOff Tryz.prog 31 1 = some 5 := by kernel_rfl
theorem fo31_2 : fOff Tryz.prog 31 2 = some 6 := by kernel_rfl
theorem fo31_3 : fOff Tryz.prog 31 3 = some 7 := by kernel_rfl
theorem fo37_0 : fOff Tryz.prog 37 0 = some 0 := by kernel_rfl
theorem fo37_1 : fOff Tryz.prog 37 1 = some 1 := by kernel_rfl
theorem fo37_2 : fOff Tryz.prog 37 2 = some 2 := by kernel_rfl
theorem fo37_3 : fOff Tryz.prog 37 3 = some 3 := by kernel_rfl
theorem fo37_5 : fOff Tryz.prog 37 5 = some 5 := by kernel_rfl
theorem fo37_6 : fOff Tryz.prog 37 6 = some 6 := by kernel_rfl
theorem fo46_0 : fOff Tryz.prog 46 0 = some 0 := by kernel_rfl
theorem fo46_1 : fOff Tryz.prog 46 1 = some 1 := by kernel_rfl
theorem fo46_2 : fOff Tryz.prog 46 2 = some 2 := by kernel_rfl
theorem fo46_3 : fOff Tryz.prog 46 3 = some 3 := by kernel_rfl
theorem fo46_4 : fOff Tryz.prog 46 4 = some 4 := by kernel_rfl
theorem fo46_6 : fOff Tryz.prog 46 6 = some 6 := by kernel_rfl
theorem fo46_7 : fOff Tryz.prog 46 7 = some 7 := by kernel_rfl
theorem fo53_0 : fOff Tryz.prog 53 0 = some 0 := by kernel_rfl
theorem fo53_1 : fOff Tryz.prog 53 1 = some 1 := by kernel_rfl
theorem fo53_2 : fOff Tryz.prog 53 2 = some 2 := by kernel_rfl
theorem fo53_3 : fOff Tryz.prog 53 3 = some 3 := by kernel_rfl
theorem fo53_4 : fOff Tryz.prog 53 4 = some 4 := by kernel_rfl
theorem fo53_5 : fOff Tryz.prog 53 5 = some 5 := by kernel_rfl
theorem fo53_6 : fOff Tryz.prog 53 6 = some 6 := by kernel_rfl
theorem fo55_0 : fOff Tryz.prog 55 0 = some 0 := by kernel_rfl
theorem fo55_1 : fOff Tryz.prog 55 1 = some 1 := by kernel_rfl
theorem fo55_10 : fOff Tryz.prog 55 10 = some 10 := by kernel_rfl
theorem fo55_2 : fOff Tryz.prog 55 2 = some 2 := by kernel_rfl
theorem fo55_3 : fOff Tryz.prog 55 3 = some 3 := by kernel_rfl
theorem fo55_4 : fOff Tryz.prog 55 4 = some 4 := by kernel_rfl
theorem fo55_5 : fOff Tryz.prog 55 5 = some 5 := by kernel_rfl
theorem fo55_6 : fOff Tryz.prog 55 6 = some 6 := by kernel_rfl
theorem fo55_7 : fOff Tryz.prog 55 7 = some 7 := by kernel_rfl
theorem fo55_8 : fOff Tryz.prog 55 8 = some 8 := by kernel_rfl
theorem fo55_9 : fOff Tryz.prog 55 9 = some 9 := by kernel_rfl
theorem fo57_0 : fOff Tryz.prog 57 0 = some 0 := by kernel_rfl
theorem fo57_1 : fOff Tryz.prog 57 1 = some 1 := by kernel_rfl
theorem fo57_2 : fOff Tryz.prog 57 2 = some 2 := by kernel_rfl
theorem fo98_0 : fOff Tryz.prog 98 0 = some 0 := by kernel_rfl
theorem fo98_1 : fOff Tryz.prog 98 1 = some 1 := by kernel_rfl
theorem fp244_0 : fPart Tryz.prog 244 0 = some (0, 242) := by kernel_rfl
theorem fp57_1 : fPart Tryz.prog 57 1 = some (1, 3) := by kernel_rfl
theorem ibx : Extern.findNext Tryz.f257 = none := by kernel_rfl
theorem iby : Extern.find Tryz.f257 = some Extern.BytealgIndexByte.indexByte := by kernel_rfl
theorem mth258_307 : mth Tryz.prog 258 "purveyor/pool.in" = some 307 := by kernel_rfl
theorem mth82_301 : mth Tryz.prog 82 "purveyor/apply.do" = some 301 := by kernel_rfl
theorem pl130 : plc Tryz.prog 130 = some [(0, 1), (1, 1), (2, 1), (3, 1), (4, 1), (5, 1), (6, 1), (7, 1)] := by kernel_rfl
theorem pl173 : plc Tryz.prog 173 = some [(0, 10)] := by kernel_rfl
theorem pl25 : plc Tryz.prog 25 = some [(0, 1), (1, 1), (2, 1), (3, 1), (4, 1)] := by kernel_rfl
theorem pl31 : plc Tryz.prog 31 = some [(0, 5), (5, 1), (6, 1), (7, 1), (8, 1), (9, 1)] := by kernel_rfl
theorem pl37 : plc Tryz.prog 37 = some [(0, 1), (1, 1), (2, 1), (3, 1), (4, 1), (5, 1), (6, 1), (7, 1), (8, 1)] := by kernel_rfl
theorem pl46 : plc Tryz.prog 46 = some [(0, 1), (1, 1), (2, 1), (3, 1), (4, 1), (5, 1), (6, 1), (7, 1)] := by kernel_rfl
theorem pl53 : plc Tryz.prog 53 = some [(0, 1), (1, 1), (2, 1), (3, 1), (4, 1), (5, 1), (6, 1), (7, 1), (8, 1)] := by kernel_rfl
theorem pl55 : plc Tryz.prog 55 = some [(0, 1), (1, 1), (2, 1), (3, 1), (4, 1), (5, 1), (6, 1), (7, 1), (8, 1), (9, 1), (10, 1)] := by kernel_rfl
theorem pl57 : plc Tryz.prog 57 = some [(0, 1), (1, 1), (2, 1)] := by kernel_rfl
theorem sz3 : ((Tryz.prog.info? 3).map (·.size)) = some 1 := by kernel_rfl
theorem z125 : zeroOf Tryz.prog 125 = some [.int .i64 0, .int .i64 0] := by kernel_rfl
theorem z130 : zeroOf Tryz.prog 130 = some [.int .i64 0, .int .i64 0, .int .i64 0, .int .i64 0, .int .i64 0, .int .i64 0, .int .i64 0, .int .i64 0] := by kernel_rfl
theorem z151 : zeroOf Tryz.prog 151 = some [.int .i64 0, .int .i64 0, .int .i64 0, .int .i64 0, .int .i64 0, .int .i64 0, .int .i64 0, .int .i64 0, .int .i64 0] := by kernel_rfl
theorem z166 : zeroOf Tryz.prog 166 = some [.int .i64 0, .int .i64 0, .int .i64 0, .int .i64 0, .int .i64 0, .int .i64 0, .int .i64 0, .int .i64 0, .int .i64 0, .int .i64 0, .int .i64 0] := by kernel_rfl
theorem z173 : zeroOf Tryz.prog 173 = some [.int .i64 0, .int .i64 0, .slice none 0 0, .slice none 0 0, .slice none 0 0, .slice none 0 0, .slice none 0 0, .slice none 0 0, .slice none 0 0, .int .i64 0] := by kernel_rfl
theorem z209 : zeroOf Tryz.prog 209 = some [.nilFunc, .nilFunc, .nilFunc] := by kernel_rfl
theorem z244 : zeroOf Tryz.prog 244 = some [.nilFunc, .nilFunc, .nilFunc] := by kernel_rfl
theorem z246 : zeroOf Tryz.prog 246 = some [.int .u64 0, .int .u64 0, .int .u64 0, .int .u64 0] := by kernel_rfl
theorem z247 : zeroOf Tryz.prog 247 = some [.pointer none, .slice none 0 0] := by kernel_rfl
theorem z25 : zeroOf Tryz.prog 25 = some [.int .i64 0, .int .i64 0, .slice none 0 0, .slice none 0 0, .slice none 0 0] := by kernel_rfl
theorem z258 : zeroOf Tryz.prog 258 = some [] := by kernel_rfl
theorem z3 : zeroOf Tryz.prog 3 = some [.int .i64 0] := by kernel_rfl
theorem z31 : zeroOf Tryz.prog 31 = some [.int .i64 0, .int .i64 0, .slice none 0 0, .slice none 0 0, .slice none 0 0, .slice none 0 0, .slice none 0 0, .slice none 0 0, .slice none 0 0, .int .i64 0] := by kernel_rfl
theorem z33 : zeroOf Tryz.prog 33 = some [.int .i64 0] := by kernel_rfl
theorem z37 : zeroOf Tryz.prog 37 = some [.int .i64 0, .int .i64 0, .int .i64 0, .int .i64 0, .int .i64 0, .int .i64 0, .int .i64 0, .int .i64 0, .slice none 0 0] := by kernel_rfl
theorem z46 : zeroOf Tryz.prog 46 = some [.int .i64 0, .bool false, .slice none 0 0, .slice none 0 0, .slice none 0 0, .slice none 0 0, .slice none 0 0, .slice none 0 0] := by kernel_rfl
theorem z53 : zeroOf Tryz.prog 53 = some [.int .i64 0, .int .i64 0, .int .i64 0, .int .i64 0, .int .i64 0, .int .i64 0, .int .i64 0, .int .i64 0, .bool false] := by kernel_rfl
theorem z55 : zeroOf Tryz.prog 55 = some [.int .i64 0, .int .i64 0, .int .i64 0, .int .i64 0, .int .i64 0, .int .i64 0, .int .i64 0, .int .i64 0, .int .i64 0, .int .i64 0, .int .i64 0] := by kernel_rfl
theorem z57 : zeroOf Tryz.prog 57 = some [.int .i64 0, .int .i64 0, .int .i64 0] := by kernel_rfl
theorem z84 : zeroOf Tryz.prog 84 = some [.string ⟨#[]⟩, .string ⟨#[]⟩, .string ⟨#[]⟩, .string ⟨#[]⟩, .string ⟨#[]⟩, .string ⟨#[]⟩, .string ⟨#[]⟩, .string ⟨#[]⟩, .string ⟨#[]⟩, .string ⟨#[]⟩, .string ⟨#[]⟩, .string ⟨#[]⟩, .string ⟨#[]⟩, .string ⟨#[]⟩, .string ⟨#[]⟩, .string ⟨#[]⟩, .string ⟨#[]⟩] := by kernel_rfl
theorem z96 : zeroOf Tryz.prog 96 = some [.int .i64 0, .int .i64 0, .int .i64 0] := by kernel_rfl
theorem z98 : zeroOf Tryz.prog 98 = some [.slice none 0 0, .int .i64 0, .int .i64 0, .int .i64 0] := by kernel_rfl
def tb : Tab2 := { sh := [(1, (1, false)), (3, (1, false)), (4, (1, false)), (22, (1, false)), (23, (1, false)), (25, (5, true)), (26, (1, false)), (27, (1, false)), (28, (1, false)), (29, (1, false)), (31, (10, true)), (33, (1, false)), (37, (9, true)), (43, (1, false)), (44, (1, false)), (46, (8, true)), (53, (9, true)), (55, (11, true)), (57, (3, true)), (89, (1, false)), (95, (1, false)), (96, (3, true)), (98, (4, true)), (105, (1, false)), (125, (2, true)), (126, (1, false)), (160, (1, false)), (207, (1, false)), (247, (2, true))], fo := [((25, 0), 0), ((25, 1), 1), ((25, 2), 2), ((25, 3), 3), ((25, 4), 4), ((31, 0), 0), ((31, 1), 5), ((31, 2), 6), ((31, 3), 7), ((31, 4), 8), ((31, 5), 9), ((37, 0), 0), ((37, 1), 1), ((37, 2), 2), ((37, 3), 3), ((37, 4), 4), ((37, 5), 5), ((37, 6), 6), ((37, 7), 7), ((37, 8), 8), ((46, 0), 0), ((46, 1), 1), ((46, 2), 2), ((46, 3), 3), ((46, 4), 4), ((46, 5), 5), ((46, 6), 6), ((46, 7), 7), ((53, 0), 0), ((53, 3), 3), ((53, 4), 4), ((53, 7), 7), ((53, 8), 8), ((55, 0), 0), ((55, 1), 1), ((55, 2), 2), ((55, 3), 3), ((55, 4), 4), ((55, 5), 5), ((55, 6), 6), ((55, 7), 7), ((55, 8), 8), ((55, 9), 9), ((55, 10), 10), ((57, 0), 0), ((57, 1), 1), ((57, 2), 2), ((98, 0), 0), ((98, 1), 1), ((125, 0), 0), ((125, 1), 1), ((173, 0), 0), ((247, 0), 0), ((247, 1), 1)], fp := [((57, 0), (0, 3)), ((98, 0), (0, 95)), ((244, 1), (1, 207)), ((244, 2), (2, 160))], ki := [(3, .i64), (5, .u8), (105, .u64), (108, .u64)], se := [], bl := [(25, [(0, 1), (1, 1), (2, 1), (3, 1), (4, 1)]), (57, [(0, 1), (1, 1), (2, 1)]), (125, [(0, 1), (1, 1)]), (244, [(0, 1), (1, 1), (2, 1)]), (247, [(0, 1), (1, 1)]), (258, [])], zs := [(25, [.int .i64 0, .int .i64 0, .slice none 0 0, .slice none 0 0, .slice none 0 0]), (57, [.int .i64 0, .int .i64 0, .int .i64 0]), (125, [.int .i64 0, .int .i64 0]), (244, [.nilFunc, .nilFunc, .nilFunc]), (247, [.pointer none, .slice none 0 0]), (258, [])] }
theorem tbk : Tab2Ok Tryz.prog tb := ⟨⟨by kernel_rfl, by kernel_rfl, by kernel_rfl⟩, by kernel_rfl, by kernel_rfl, by kernel_rfl, ⟨z25, z57, z125, z244, z247, z258, trivial⟩⟩
theorem clone52_c {H : AH} {id : Nat} {l : List GEnt} (hid : H id = none) (hl : l.length ≤ 68719476736) : PC Tryz.prog 52 [lst 8 GEnt.av l] H (fun y H' => ∃ ver, y = .sl id ver 0 l.length ∧ H' = upd H id (some ⟨46, 8, true, true, ver, l.map GEnt.av⟩)) := by
  refine pc_of' (c := _) Tryz.func52 rfl rfl ?_; intro Q hret hnorm
  repeat (refine c_seq ?_)
  refine c_reg ?_; intro K hK
  refine st rfl rfl rfl (yv_assign rfl rfl) ?_
  refine rg_nil (hK _ ?_)
  repeat (refine c_seq ?_)
  refine c_reg ?_; intro K hK
  refine st rfl rfl rfl (yv_move rfl rfl) ?_
  refine se rfl rfl rfl (Yield.weak (yl_slnil (xs := l.map GEnt.av) (sz := 8) rfl Tryz.underlying26 rfl rfl) (fun _ h => h) (fun _ _ => trivial)) ?_; rintro _ _ ⟨b, rfl, hb, rfl⟩
  refine rg_nil (hK _ ?_)
  refine c_if (b := b) rfl ?_ ?_
  · intro h; subst h
    have hl0 : l = [] := List.map_eq_nil_iff.1 (hb rfl)
    subst hl0
    repeat (refine c_seq ?_)
    refine c_reg ?_; intro K hK
    refine st rfl rfl rfl (yv_assign rfl rfl) ?_
    refine rg_nil (hK _ ?_)
    refine c_nilobj 2 id 46 8 rfl hid ?_; intro v
    refine c_ret (hret _ _ _ (.tmp rfl .nil) (fun _ _ h => h) ?_)
    exact ⟨v, rfl, rfl⟩
  · intro h; subst h
    refine c_skip ?_
    repeat (refine c_seq ?_)
    refine c_reg ?_; intro K hK
    refine se rfl rfl rfl (yl_buildO (ps := []) id [] .any rfl Tryz.underlying26 bz46 .nil rfl rfl rfl rfl) ?_; rintro _ _ ⟨v, -, rfl, rfl⟩
    refine st rfl rfl rfl (yv_move rfl rfl) ?_
    refine se rfl rfl rfl (yl_appT (g := GEnt.av) (l := []) (m := l) (l' := l) .any rfl Tryz.underlying26 bz46 by46 rfl rfl rfl (upd_same _ _ _) rfl rfl rfl rfl rfl rfl rfl (.refl _) GEnt.one rfl hl) ?_; rintro _ _ ⟨v2, -, rfl, rfl⟩
    refine st rfl rfl rfl (yv_assign rfl rfl) ?_
    refine rg_nil (hK _ ?_)
    refine c_ret (hret _ _ _ (.tmp rfl .nil) (fun _ _ h => h) ?_)
    exact ⟨v2, rfl, upd_updV⟩
theorem clone53_c {H : AH} {id : Nat} {l : List GSale} (hid : H id = none) (hl : l.length ≤ 68719476736) : PC Tryz.prog 53 [lst 9 GSale.av l] H (fun y H' => ∃ ver, y = .sl id ver 0 l.length ∧ H' = upd H id (some ⟨53, 9, true, true, ver, l.map GSale.av⟩)) := by
  refine pc_of' (c := _) Tryz.func53 rfl rfl ?_; intro Q hret hnorm
  repeat (refine c_seq ?_)
  refine c_reg ?_; intro K hK
  refine st rfl rfl rfl (yv_assign rfl rfl) ?_
  refine rg_nil (hK _ ?_)
  repeat (refine c_seq ?_)
  refine c_reg ?_; intro K hK
  refine st rfl rfl rfl (yv_move rfl rfl) ?_
  refine se rfl rfl rfl (Yield.weak (yl_slnil (xs := l.map GSale.av) (sz := 9) rfl Tryz.underlying28 rfl rfl) (fun _ h => h) (fun _ _ => trivial)) ?_; rintro _ _ ⟨b, rfl, hb, rfl⟩
  refine rg_nil (hK _ ?_)
  refine c_if (b := b) rfl ?_ ?_
  · intro h; subst h
    have hl0 : l = [] := List.map_eq_nil_iff.1 (hb rfl)
    subst hl0
    repeat (refine c_seq ?_)
    refine c_reg ?_; intro K hK
    refine st rfl rfl rfl (yv_assign rfl rfl) ?_
    refine rg_nil (hK _ ?_)
    refine c_nilobj 2 id 53 9 rfl hid ?_; intro v
    refine c_ret (hret _ _ _ (.tmp rfl .nil) (fun _ _ h => h) ?_)
    exact ⟨v, rfl, rfl⟩
  · intro h; subst h
    refine c_skip ?_
    repeat (refine c_seq ?_)
    refine c_reg ?_; intro K hK
    refine se rfl rfl rfl (yl_buildO (ps := []) id [] .any rfl Tryz.underlying28 bz53 .nil rfl rfl rfl rfl) ?_; rintro _ _ ⟨v, -, rfl, rfl⟩
    refine st rfl rfl rfl (yv_move rfl rfl) ?_
    refine se rfl rfl rfl (yl_appT (g := GSale.av) (l := []) (m := l) (l' := l) .any rfl Tryz.underlying28 bz53 by53 rfl rfl rfl (upd_same _ _ _) rfl rfl rfl rfl rfl rfl rfl (.refl _) (fun _ => rfl) rfl hl) ?_; rintro _ _ ⟨v2, -, rfl, rfl⟩
    refine st rfl rfl rfl (yv_assign rfl rfl) ?_
    refine rg_nil (hK _ ?_)
    refine c_ret (hret _ _ _ (.tmp rfl .nil) (fun _ _ h => h) ?_)
    exact ⟨v2, rfl, upd_updV⟩
theorem clone79_c {H : AH} {id : Nat} {l : List GReceipt} (hid : H id = none) (hl : l.length ≤ 68719476736) : PC Tryz.prog 79 [lst 8 GReceipt.av l] H (fun y H' => ∃ ver, y = .sl id ver 0 l.length ∧ H' = upd H id (some ⟨130, 8, true, true, ver, l.map GReceipt.av⟩)) := by
  refine pc_of' (c := _) Tryz.func79 rfl rfl ?_; intro Q hret hnorm
  repeat (refine c_seq ?_)
  refine c_reg ?_; intro K hK
  refine st rfl rfl rfl (yv_assign rfl rfl) ?_
  refine rg_nil (hK _ ?_)
  repeat (refine c_seq ?_)
  refine c_reg ?_; intro K hK
  refine st rfl rfl rfl (yv_move rfl rfl) ?_
  refine se rfl rfl rfl (Yield.weak (yl_slnil (xs := l.map GReceipt.av) (sz := 8) rfl Tryz.underlying27 rfl rfl) (fun _ h => h) (fun _ _ => trivial)) ?_; rintro _ _ ⟨b, rfl, hb, rfl⟩
  refine rg_nil (hK _ ?_)
  refine c_if (b := b) rfl ?_ ?_
  · intro h; subst h
    have hl0 : l = [] := List.map_eq_nil_iff.1 (hb rfl)
    subst hl0
    repeat (refine c_seq ?_)
    refine c_reg ?_; intro K hK
    refine st rfl rfl rfl (yv_assign rfl rfl) ?_
    refine rg_nil (hK _ ?_)
    refine c_nilobj 2 id 130 8 rfl hid ?_; intro v
    refine c_ret (hret _ _ _ (.tmp rfl .nil) (fun _ _ h => h) ?_)
    exact ⟨v, rfl, rfl⟩
  · intro h; subst h
    refine c_skip ?_
    repeat (refine c_seq ?_)
    refine c_reg ?_; intro K hK
    refine se rfl rfl rfl (yl_buildO (ps := []) id [] .any rfl Tryz.underlying27 bz130 .nil rfl rfl rfl rfl) ?_; rintro _ _ ⟨v, -, rfl, rfl⟩
    refine st rfl rfl rfl (yv_move rfl rfl) ?_
    refine se rfl rfl rfl (yl_appT (g := GReceipt.av) (l := []) (m := l) (l' := l) .any rfl Tryz.underlying27 bz130 by130 rfl rfl rfl (upd_same _ _ _) rfl rfl rfl rfl rfl rfl rfl (.refl _) (fun _ => rfl) rfl hl) ?_; rintro _ _ ⟨v2, -, rfl, rfl⟩
    refine st rfl rfl rfl (yv_assign rfl rfl) ?_
    refine rg_nil (hK _ ?_)
    refine c_ret (hret _ _ _ (.tmp rfl .nil) (fun _ _ h => h) ?_)
    exact ⟨v2, rfl, upd_updV⟩
theorem clone93_c {H : AH} {id : Nat} {l : List Int} (hid : H id = none) (hl : l.length ≤ 68719476736) : PC Tryz.prog 93 [lst 1 fI l] H (fun y H' => ∃ ver, y = .sl id ver 0 l.length ∧ H' = upd H id (some ⟨3, 1, true, true, ver, l.map fI⟩)) := by
  refine pc_of' (c := _) Tryz.func93 rfl rfl ?_; intro Q hret hnorm
  repeat (refine c_seq ?_)
  refine c_reg ?_; intro K hK
  refine st rfl rfl rfl (yv_assign rfl rfl) ?_
  refine rg_nil (hK _ ?_)
  repeat (refine c_seq ?_)
  refine c_reg ?_; intro K hK
  refine st rfl rfl rfl (yv_move rfl rfl) ?_
  refine se rfl rfl rfl (Yield.weak (yl_slnil (xs := l.map fI) (sz := 1) rfl Tryz.underlying22 rfl rfl) (fun _ h => h) (fun _ _ => trivial)) ?_; rintro _ _ ⟨b, rfl, hb, rfl⟩
  refine rg_nil (hK _ ?_)
  refine c_if (b := b) rfl ?_ ?_
  · intro h; subst h
    have hl0 : l = [] := List.map_eq_nil_iff.1 (hb rfl)
    subst hl0
    repeat (refine c_seq ?_)
    refine c_reg ?_; intro K hK
    refine st rfl rfl rfl (yv_assign rfl rfl) ?_
    refine rg_nil (hK _ ?_)
    refine c_nilobj 2 id 3 1 rfl hid ?_; intro v
    refine c_ret (hret _ _ _ (.tmp rfl .nil) (fun _ _ h => h) ?_)
    exact ⟨v, rfl, rfl⟩
  · intro h; subst h
    refine c_skip ?_
    repeat (refine c_seq ?_)
    refine c_reg ?_; intro K hK
    refine se rfl rfl rfl (yl_buildO (ps := []) id [] .any rfl Tryz.underlying22 bz3 .nil rfl rfl rfl rfl) ?_; rintro _ _ ⟨v, -, rfl, rfl⟩
    refine st rfl rfl rfl (yv_move rfl rfl) ?_
    refine se rfl rfl rfl (yl_appT (g := fI) (l := []) (m := l) (l' := l) .any rfl Tryz.underlying22 bz3 by3 rfl rfl rfl (upd_same _ _ _) rfl rfl rfl rfl rfl rfl rfl (.refl _) (fun _ => rfl) rfl hl) ?_; rintro _ _ ⟨v2, -, rfl, rfl⟩
    refine st rfl rfl rfl (yv_assign rfl rfl) ?_
    refine rg_nil (hK _ ?_)
    refine c_ret (hret _ _ _ (.tmp rfl .nil) (fun _ _ h => h) ?_)
    exact ⟨v2, rfl, upd_updV⟩
theorem clone96_c {H : AH} {id : Nat} {l : List GPool} (hid : H id = none) (hl : l.length ≤ 68719476736) : PC Tryz.prog 96 [lst 4 GPool.av l] H (fun y H' => ∃ ver, y = .sl id ver 0 l.length ∧ H' = upd H id (some ⟨98, 4, true, true, ver, l.map GPool.av⟩)) := by
  refine pc_of' (c := _) Tryz.func96 rfl rfl ?_; intro Q hret hnorm
  repeat (refine c_seq ?_)
  refine c_reg ?_; intro K hK
  refine st rfl rfl rfl (yv_assign rfl rfl) ?_
  refine rg_nil (hK _ ?_)
  repeat (refine c_seq ?_)
  refine c_reg ?_; intro K hK
  refine st rfl rfl rfl (yv_move rfl rfl) ?_
  refine se rfl rfl rfl (Yield.weak (yl_slnil (xs := l.map GPool.av) (sz := 4) rfl Tryz.underlying43 rfl rfl) (fun _ h => h) (fun _ _ => trivial)) ?_; rintro _ _ ⟨b, rfl, hb, rfl⟩
  refine rg_nil (hK _ ?_)
  refine c_if (b := b) rfl ?_ ?_
  · intro h; subst h
    have hl0 : l = [] := List.map_eq_nil_iff.1 (hb rfl)
    subst hl0
    repeat (refine c_seq ?_)
    refine c_reg ?_; intro K hK
    refine st rfl rfl rfl (yv_assign rfl rfl) ?_
    refine rg_nil (hK _ ?_)
    refine c_nilobj 2 id 98 4 rfl hid ?_; intro v
    refine c_ret (hret _ _ _ (.tmp rfl .nil) (fun _ _ h => h) ?_)
    exact ⟨v, rfl, rfl⟩
  · intro h; subst h
    refine c_skip ?_
    repeat (refine c_seq ?_)
    refine c_reg ?_; intro K hK
    refine se rfl rfl rfl (yl_buildO (ps := []) id [] .any rfl Tryz.underlying43 bz98 .nil rfl rfl rfl rfl) ?_; rintro _ _ ⟨v, -, rfl, rfl⟩
    refine st rfl rfl rfl (yv_move rfl rfl) ?_
    refine se rfl rfl rfl (yl_appT (g := GPool.av) (l := []) (m := l) (l' := l) .any rfl Tryz.underlying43 bz98 by98 rfl rfl rfl (upd_same _ _ _) rfl rfl rfl rfl rfl rfl rfl (.refl _) (fun _ => rfl) rfl hl) ?_; rintro _ _ ⟨v2, -, rfl, rfl⟩
    refine st rfl rfl rfl (yv_assign rfl rfl) ?_
    refine rg_nil (hK _ ?_)
    refine c_ret (hret _ _ _ (.tmp rfl .nil) (fun _ _ h => h) ?_)
    exact ⟨v2, rfl, upd_updV⟩
theorem clone135_c {H : AH} {id : Nat} {l : List GRoll} (hid : H id = none) (hl : l.length ≤ 68719476736) : PC Tryz.prog 135 [lst 11 GRoll.av l] H (fun y H' => ∃ ver, y = .sl id ver 0 l.length ∧ H' = upd H id (some ⟨55, 11, true, true, ver, l.map GRoll.av⟩)) := by
  refine pc_of' (c := _) Tryz.func135 rfl rfl ?_; intro Q hret hnorm
  repeat (refine c_seq ?_)
  refine c_reg ?_; intro K hK
  refine st rfl rfl rfl (yv_assign rfl rfl) ?_
  refine rg_nil (hK _ ?_)
  repeat (refine c_seq ?_)
  refine c_reg ?_; intro K hK
  refine st rfl rfl rfl (yv_move rfl rfl) ?_
  refine se rfl rfl rfl (Yield.weak (yl_slnil (xs := l.map GRoll.av) (sz := 11) rfl Tryz.underlying44 rfl rfl) (fun _ h => h) (fun _ _ => trivial)) ?_; rintro _ _ ⟨b, rfl, hb, rfl⟩
  refine rg_nil (hK _ ?_)
  refine c_if (b := b) rfl ?_ ?_
  · intro h; subst h
    have hl0 : l = [] := List.map_eq_nil_iff.1 (hb rfl)
    subst hl0
    repeat (refine c_seq ?_)
    refine c_reg ?_; intro K hK
    refine st rfl rfl rfl (yv_assign rfl rfl) ?_
    refine rg_nil (hK _ ?_)
    refine c_nilobj 2 id 55 11 rfl hid ?_; intro v
    refine c_ret (hret _ _ _ (.tmp rfl .nil) (fun _ _ h => h) ?_)
    exact ⟨v, rfl, rfl⟩
  · intro h; subst h
    refine c_skip ?_
    repeat (refine c_seq ?_)
    refine c_reg ?_; intro K hK
    refine se rfl rfl rfl (yl_buildO (ps := []) id [] .any rfl Tryz.underlying44 bz55 .nil rfl rfl rfl rfl) ?_; rintro _ _ ⟨v, -, rfl, rfl⟩
    refine st rfl rfl rfl (yv_move rfl rfl) ?_
    refine se rfl rfl rfl (yl_appT (g := GRoll.av) (l := []) (m := l) (l' := l) .any rfl Tryz.underlying44 bz55 by55 rfl rfl rfl (upd_same _ _ _) rfl rfl rfl rfl rfl rfl rfl (.refl _) (fun _ => rfl) rfl hl) ?_; rintro _ _ ⟨v2, -, rfl, rfl⟩
    refine st rfl rfl rfl (yv_assign rfl rfl) ?_
    refine rg_nil (hK _ ?_)
    refine c_ret (hret _ _ _ (.tmp rfl .nil) (fun _ _ h => h) ?_)
    exact ⟨v2, rfl, upd_updV⟩
theorem clone200_c {H : AH} {id : Nat} {l : List GLine} (hid : H id = none) (hl : l.length ≤ 68719476736) : PC Tryz.prog 200 [lst 2 GLine.av l] H (fun y H' => ∃ ver, y = .sl id ver 0 l.length ∧ H' = upd H id (some ⟨125, 2, true, true, ver, l.map GLine.av⟩)) := by
  refine pc_of' (c := _) Tryz.func200 rfl rfl ?_; intro Q hret hnorm
  repeat (refine c_seq ?_)
  refine c_reg ?_; intro K hK
  refine st rfl rfl rfl (yv_assign rfl rfl) ?_
  refine rg_nil (hK _ ?_)
  repeat (refine c_seq ?_)
  refine c_reg ?_; intro K hK
  refine st rfl rfl rfl (yv_move rfl rfl) ?_
  refine se rfl rfl rfl (Yield.weak (yl_slnil (xs := l.map GLine.av) (sz := 2) rfl Tryz.underlying126 rfl rfl) (fun _ h => h) (fun _ _ => trivial)) ?_; rintro _ _ ⟨b, rfl, hb, rfl⟩
  refine rg_nil (hK _ ?_)
  refine c_if (b := b) rfl ?_ ?_
  · intro h; subst h
    have hl0 : l = [] := List.map_eq_nil_iff.1 (hb rfl)
    subst hl0
    repeat (refine c_seq ?_)
    refine c_reg ?_; intro K hK
    refine st rfl rfl rfl (yv_assign rfl rfl) ?_
    refine rg_nil (hK _ ?_)
    refine c_nilobj 2 id 125 2 rfl hid ?_; intro v
    refine c_ret (hret _ _ _ (.tmp rfl .nil) (fun _ _ h => h) ?_)
    exact ⟨v, rfl, rfl⟩
  · intro h; subst h
    refine c_skip ?_
    repeat (refine c_seq ?_)
    refine c_reg ?_; intro K hK
    refine se rfl rfl rfl (yl_buildO (ps := []) id [] .any rfl Tryz.underlying126 bz125 .nil rfl rfl rfl rfl) ?_; rintro _ _ ⟨v, -, rfl, rfl⟩
    refine st rfl rfl rfl (yv_move rfl rfl) ?_
    refine se rfl rfl rfl (yl_appT (g := GLine.av) (l := []) (m := l) (l' := l) .any rfl Tryz.underlying126 bz125 by125 rfl rfl rfl (upd_same _ _ _) rfl rfl rfl rfl rfl rfl rfl (.refl _) (fun _ => rfl) rfl hl) ?_; rintro _ _ ⟨v2, -, rfl, rfl⟩
    refine st rfl rfl rfl (yv_assign rfl rfl) ?_
    refine rg_nil (hK _ ?_)
    refine c_ret (hret _ _ _ (.tmp rfl .nil) (fun _ _ h => h) ?_)
    exact ⟨v2, rfl, upd_updV⟩
theorem clone211_c {H : AH} {id : Nat} {l : List GLayer} (hid : H id = none) (hl : l.length ≤ 68719476736) : PC Tryz.prog 211 [lst 3 GLayer.av l] H (fun y H' => ∃ ver, y = .sl id ver 0 l.length ∧ H' = upd H id (some ⟨57, 3, true, true, ver, l.map GLayer.av⟩)) := by
  refine pc_of' (c := _) Tryz.func211 rfl rfl ?_; intro Q hret hnorm
  repeat (refine c_seq ?_)
  refine c_reg ?_; intro K hK
  refine st rfl rfl rfl (yv_assign rfl rfl) ?_
  refine rg_nil (hK _ ?_)
  repeat (refine c_seq ?_)
  refine c_reg ?_; intro K hK
  refine st rfl rfl rfl (yv_move rfl rfl) ?_
  refine se rfl rfl rfl (Yield.weak (yl_slnil (xs := l.map GLayer.av) (sz := 3) rfl Tryz.underlying95 rfl rfl) (fun _ h => h) (fun _ _ => trivial)) ?_; rintro _ _ ⟨b, rfl, hb, rfl⟩
  refine rg_nil (hK _ ?_)
  refine c_if (b := b) rfl ?_ ?_
  · intro h; subst h
    have hl0 : l = [] := List.map_eq_nil_iff.1 (hb rfl)
    subst hl0
    repeat (refine c_seq ?_)
    refine c_reg ?_; intro K hK
    refine st rfl rfl rfl (yv_assign rfl rfl) ?_
    refine rg_nil (hK _ ?_)
    refine c_nilobj 2 id 57 3 rfl hid ?_; intro v
    refine c_ret (hret _ _ _ (.tmp rfl .nil) (fun _ _ h => h) ?_)
    exact ⟨v, rfl, rfl⟩
  · intro h; subst h
    refine c_skip ?_
    repeat (refine c_seq ?_)
    refine c_reg ?_; intro K hK
    refine se rfl rfl rfl (yl_buildO (ps := []) id [] .any rfl Tryz.underlying95 bz57 .nil rfl rfl rfl rfl) ?_; rintro _ _ ⟨v, -, rfl, rfl⟩
    refine st rfl rfl rfl (yv_move rfl rfl) ?_
    refine se rfl rfl rfl (yl_appT (g := GLayer.av) (l := []) (m := l) (l' := l) .any rfl Tryz.underlying95 bz57 by57 rfl rfl rfl (upd_same _ _ _) rfl rfl rfl rfl rfl rfl rfl (.refl _) (fun _ => rfl) rfl hl) ?_; rintro _ _ ⟨v2, -, rfl, rfl⟩
    refine st rfl rfl rfl (yv_assign rfl rfl) ?_
    refine rg_nil (hK _ ?_)
    refine c_ret (hret _ _ _ (.tmp rfl .nil) (fun _ _ h => h) ?_)
    exact ⟨v2, rfl, upd_updV⟩
def d_ref04_all_L0 (a1 : List Int) (a2 : Int) (a3 : Int) (a4 : Int) : Nat → Int → Option (Unit)
  | 0, _ => none
  | n + 1, y0_1 =>
    bnd (decide (y0_1 < a2)) fun x7 =>
    cond x7 ((show Option (Bool) from
    (ix a1 y0_1).bind fun x9 =>
    bnd (decide (x9 < a3)) fun x10 =>
    cond x10 (some (true : Bool)) ((ix a1 y0_1).bind fun x11 =>
    bnd (decide (x11 > a4)) fun x12 =>
    some (x12 : Bool))).bind <| fun y1_1 =>
    asrt (y1_1 = false) <|
    bnd (w64 (y0_1 + 1)) fun x13 =>
    d_ref04_all_L0 a1 a2 a3 a4 n (x13 : Int)) (some ())
def d_ref04_all (n : Nat) (a1 : List Int) (a2 : Int) (a3 : Int) (a4 : Int) : Option (Bool) :=
bnd (decide ((a1.length : Int) ≠ a2)) fun x5 =>
asrt (x5 = false) <|
(show Option (Unit) from
d_ref04_all_L0 a1 a2 a3 a4 n (0 : Int)).bind <| fun _ =>
some ((true : Bool))
theorem d_ref04_all_c {n : Nat} {a1 : List Int} {a2 : Int} {a3 : Int} {a4 : Int} {r : Bool} (h0 : d_ref04_all n a1 a2 a3 a4 = some r) : PP Tryz.prog 48 [lst 1 fI a1, int a2, int a3, int a4] (fun y => y = boo r) := by
  unfold d_ref04_all at h0
  refine pp_of_pc (R0 := fun y H => Cv (frzH H) y (boo r)) ?_ (fun y H hc => ⟨_, rfl, pvB r, hc⟩)
  refine pcw (c := _) Tryz.func48 rfl rfl ?_; intro Q hret hnorm
  refine tc tbk 8 (.mk ?_)
  refine sY (yv_len_sl rfl Tryz.underlying22 rfl (lst_len _)) ?_
  refine tr tbk 1 (.mk ?_)
  refine nb tbk h0 fun x5 h0 => ?_
  refine tr tbk 1 (.mk ?_)
  replace h0 := asrt_e h0
  obtain ⟨rfl, h0⟩ := h0
  refine tc tbk 7 (.mk ?_)
  refine jn h0 [8] [] (fun (a : Unit) (k : Unit) => []) (fun a k => []) ⟨fun j6 h1 => ?_, ?_⟩
  refine tc tbk 1 (.mk ?_)
  refine lp (fun n (a : Int) => d_ref04_all_L0 a1 a2 a3 a4 n a) (0 : Int) () h1 [0, 1, 2, 3, 8] [] (fun (a : Int) (k : Unit) => [(9, int a)]) (fun a k => []) (fun _ => rfl) ⟨leA, ?_⟩
  rintro n y0_1 _ hm h1
  replace h1 : d_ref04_all_L0 a1 a2 a3 a4 (n + 1) y0_1 = some _ := h1
  rw [d_ref04_all_L0] at h1
  refine tc tbk 5 (.mk ?_)
  refine nb tbk h1 fun x7 h1 => ?_
  refine tr tbk 1 (.mk ?_)
  cases x7
  replace h1 := cf h1
  refine tc tbk 2 (.mk ?_)
  exact lf h1 () leA
  replace h1 := ct h1
  refine tc tbk 5 (.mk ?_)
  refine jn h1 [0, 1, 2, 3, 8, 9] [] (fun (a : Bool) (k : Unit) => [(32, boo a)]) (fun a k => []) ⟨fun j8 h2 => ?_, ?_⟩
  refine tc tbk 3 (.mk ?_)
  obtain ⟨x9, e9, h2⟩ := bind_e h2
  refine sY (yv_ixT rfl Tryz.underlying22 sh3 rfl rfl e9) ?_
  refine tr tbk 2 (.mk ?_)
  refine nb tbk h2 fun x10 h2 => ?_
  refine tr tbk 1 (.mk ?_)
  cases x10
  replace h2 := cf h2
  refine tr tbk 2 (.mk ?_)
  obtain ⟨x11, e11, h2⟩ := bind_e h2
  refine sY (yv_ixT rfl Tryz.underlying22 sh3 rfl rfl e11) ?_
  refine tr tbk 2 (.mk ?_)
  refine nb tbk h2 fun x12 h2 => ?_
  refine tr tbk 2 (.mk ?_)
  exact lf h2 () leA
  replace h2 := ct h2
  refine tr tbk 8 (.mk ?_)
  exact lf h2 () leA
  rintro y1_1 _ h1
  replace h1 := asrt_e h1
  obtain ⟨rfl, h1⟩ := h1
  refine tc tbk 5 (.mk ?_)
  refine ni tbk h1 fun x13 h1 => ?_
  refine tr tbk 2 (.mk ?_)
  exact bk x13 () h1 leA
  rintro _ _ h0
  refine tc tbk 4 (.mk ?_)
  obtain rfl := nxt_e h0
  refine wR hret (rT .nil) ?_
  exact .refl _
def d_ref04_Check_L0 (a1 : GMaster) : Nat → Int → Option (Unit)
  | 0, _ => none
  | n + 1, y1_1 =>
    bnd (decide (y1_1 < a1.Entities)) fun x15 =>
    cond x15 ((show Option (Bool) from
    (ix a1.Methods y1_1).bind fun x17 =>
    (d_ref04_all n x17 (a1.Weights.length : Int) 1 4).bind fun x18 =>
    bnd (!x18) fun x19 =>
    cond x19 (some (true : Bool)) ((ix a1.Costs y1_1).bind fun x20 =>
    (d_ref04_all n x20 (a1.Weights.length : Int) 0 1073741824).bind fun x21 =>
    bnd (!x21) fun x22 =>
    some (x22 : Bool))).bind <| fun y2_1 =>
    asrt (y2_1 = false) <|
    bnd (w64 (y1_1 + 1)) fun x23 =>
    d_ref04_Check_L0 a1 n (x23 : Int)) (some ())
def d_ref04_Check (n : Nat) (a1 : GMaster) : Option (Bool) :=
(show Option (Bool) from
bnd (decide (a1.Entities < 1)) fun x4 =>
cond x4 (some (true : Bool)) (bnd (decide (a1.Entities > 4)) fun x5 =>
cond x5 (some (true : Bool)) (bnd (decide (a1.Periods < 1)) fun x6 =>
cond x6 (some (true : Bool)) (bnd (decide (a1.Periods > 12)) fun x7 =>
cond x7 (some (true : Bool)) (bnd (decide ((a1.Weights.length : Int) < 1)) fun x8 =>
cond x8 (some (true : Bool)) (bnd (decide ((a1.Weights.length : Int) > 5)) fun x9 =>
cond x9 (some (true : Bool)) ((d_ref04_all n a1.Weights (a1.Weights.length : Int) 0 1073741824).bind fun x10 =>
bnd (!x10) fun x11 =>
cond x11 (some (true : Bool)) (bnd (decide ((a1.Methods.length : Int) ≠ a1.Entities)) fun x12 =>
cond x12 (some (true : Bool)) (bnd (decide ((a1.Costs.length : Int) ≠ a1.Entities)) fun x13 =>
some (x13 : Bool)))))))))).bind <| fun y0_1 =>
asrt (y0_1 = false) <|
(show Option (Unit) from
d_ref04_Check_L0 a1 n (0 : Int)).bind <| fun _ =>
some ((true : Bool))
theorem d_ref04_Check_c {n : Nat} {a1 : GMaster} {r : Bool} (h0 : d_ref04_Check n a1 = some r) : PP Tryz.prog 22 [.agg (GMaster.av a1)] (fun y => y = boo r) := by
  unfold d_ref04_Check at h0
  refine pp_of_pc (R0 := fun y H => Cv (frzH H) y (boo r)) ?_ (fun y H hc => ⟨_, rfl, pvB r, hc⟩)
  refine pcw (c := _) Tryz.func22 rfl rfl ?_; intro Q hret hnorm
  refine tc tbk 2 (.mk ?_)
  refine sB 1 fun v2 => ?_
  refine tr tbk 6 (.mk ?_)
  refine sY (yv_len_sl rfl Tryz.underlying22 rfl (lst_len _)) ?_
  refine tr tbk 4 (.mk ?_)
  refine jn h0 [1, 2, 3] [1] (fun (a : Bool) (k : Unit) => [(56, boo a)]) (fun a k => []) ⟨fun j3 h1 => ?_, ?_⟩
  refine tc tbk 3 (.mk ?_)
  refine nb tbk h1 fun x4 h1 => ?_
  refine tr tbk 1 (.mk ?_)
  cases x4
  replace h1 := cf h1
  refine tr tbk 2 (.mk ?_)
  refine nb tbk h1 fun x5 h1 => ?_
  refine tr tbk 2 (.mk ?_)
  cases x5
  replace h1 := cf h1
  refine tr tbk 2 (.mk ?_)
  refine nb tbk h1 fun x6 h1 => ?_
  refine tr tbk 2 (.mk ?_)
  cases x6
  replace h1 := cf h1
  refine tr tbk 2 (.mk ?_)
  refine nb tbk h1 fun x7 h1 => ?_
  refine tr tbk 2 (.mk ?_)
  cases x7
  replace h1 := cf h1
  refine tr tbk 1 (.mk ?_)
  refine nb tbk h1 fun x8 h1 => ?_
  refine tr tbk 2 (.mk ?_)
  cases x8
  replace h1 := cf h1
  refine tr tbk 1 (.mk ?_)
  refine nb tbk h1 fun x9 h1 => ?_
  refine tr tbk 2 (.mk ?_)
  cases x9
  replace h1 := cf h1
  refine tr tbk 3 (.mk ?_)
  obtain ⟨x10, e10, h1⟩ := bind_e h1
  refine sC cal48 (d_ref04_all_c e10) ?_
  refine nb tbk h1 fun x11 h1 => ?_
  refine tr tbk 2 (.mk ?_)
  cases x11
  replace h1 := cf h1
  refine tr tbk 2 (.mk ?_)
  refine sY (yv_len_sl rfl Tryz.underlying23 rfl (lst_len _)) ?_
  refine tr tbk 2 (.mk ?_)
  refine nb tbk h1 fun x12 h1 => ?_
  refine tr tbk 2 (.mk ?_)
  cases x12
  replace h1 := cf h1
  refine tr tbk 2 (.mk ?_)
  refine sY (yv_len_sl rfl Tryz.underlying23 rfl (lst_len _)) ?_
  refine tr tbk 2 (.mk ?_)
  refine nb tbk h1 fun x13 h1 => ?_
  refine tr tbk 2 (.mk ?_)
  exact lf h1 () leA
  replace h1 := ct h1
  refine tr tbk 8 (.mk ?_)
  exact lf h1 () leA
  replace h1 := ct h1
  refine tr tbk 16 (.mk ?_)
  exact lf h1 () leA
  replace h1 := ct h1
  refine tr tbk 23 (.mk ?_)
  exact lf h1 () leA
  replace h1 := ct h1
  refine tr tbk 27 (.mk ?_)
  exact lf h1 () leA
  replace h1 := ct h1
  refine tr tbk 31 (.mk ?_)
  exact lf h1 () leA
  replace h1 := ct h1
  refine tr tbk 36 (.mk ?_)
  exact lf h1 () leA
  replace h1 := ct h1
  refine tr tbk 41 (.mk ?_)
  exact lf h1 () leA
  replace h1 := ct h1
  refine tr tbk 46 (.mk ?_)
  exact lf h1 () leA
  rintro y0_1 _ h0
  replace h0 := asrt_e h0
  obtain ⟨rfl, h0⟩ := h0
  refine tc tbk 7 (.mk ?_)
  refine jn h0 [2] [] (fun (a : Unit) (k : Unit) => []) (fun a k => []) ⟨fun j14 h1 => ?_, ?_⟩
  refine tc tbk 1 (.mk ?_)
  refine lp (fun n (a : Int) => d_ref04_Check_L0 a1 n a) (0 : Int) () h1 [1, 2, 3] [1] (fun (a : Int) (k : Unit) => [(4, int a)]) (fun a k => []) (fun _ => rfl) ⟨leA, ?_⟩
  rintro n y1_1 _ hm h1
  replace h1 : d_ref04_Check_L0 a1 (n + 1) y1_1 = some _ := h1
  rw [d_ref04_Check_L0] at h1
  refine tc tbk 6 (.mk ?_)
  refine nb tbk h1 fun x15 h1 => ?_
  refine tr tbk 1 (.mk ?_)
  cases x15
  replace h1 := cf h1
  refine tc tbk 2 (.mk ?_)
  exact lf h1 () leA
  replace h1 := ct h1
  refine tc tbk 5 (.mk ?_)
  refine jn h1 [1, 2, 3, 4] [1] (fun (a : Bool) (k : Unit) => [(80, boo a)]) (fun a k => []) ⟨fun j16 h2 => ?_, ?_⟩
  refine tc tbk 4 (.mk ?_)
  obtain ⟨x17, e17, h2⟩ := bind_e h2
  refine sY (yv_ixT rfl Tryz.underlying23 sh22 rfl rfl e17) ?_
  refine tr tbk 2 (.mk ?_)
  obtain ⟨x18, e18, h2⟩ := bind_e h2
  refine sC cal48 (d_ref04_all_c e18) ?_
  refine nb tbk h2 fun x19 h2 => ?_
  refine tr tbk 1 (.mk ?_)
  cases x19
  replace h2 := cf h2
  refine tr tbk 3 (.mk ?_)
  obtain ⟨x20, e20, h2⟩ := bind_e h2
  refine sY (yv_ixT rfl Tryz.underlying23 sh22 rfl rfl e20) ?_
  refine tr tbk 2 (.mk ?_)
  obtain ⟨x21, e21, h2⟩ := bind_e h2
  refine sC cal48 (d_ref04_all_c e21) ?_
  refine nb tbk h2 fun x22 h2 => ?_
  refine tr tbk 2 (.mk ?_)
  exact lf h2 () leA
  replace h2 := ct h2
  refine tr tbk 10 (.mk ?_)
  exact lf h2 () leA
  rintro y2_1 _ h1
  replace h1 := asrt_e h1
  obtain ⟨rfl, h1⟩ := h1
  refine tc tbk 5 (.mk ?_)
  refine ni tbk h1 fun x23 h1 => ?_
  refine tr tbk 2 (.mk ?_)
  exact bk x23 () h1 leA
  rintro _ _ h0
  refine tc tbk 4 (.mk ?_)
  obtain rfl := nxt_e h0
  refine wR hret (rT .nil) ?_
  exact .refl _
def d_ref04_Start_L1 (a1 : GMaster) : Nat → Int → (List Int) → Option ((List Int))
  | 0, _, _ => none
  | n + 1, y1_1, y1_2 =>
    bnd (decide (y1_1 < (a1.Weights.length : Int))) fun x29 =>
    cond x29 ((ix y1_2 y1_1).bind fun x30 =>
    bnd (y1_2.set (Int.toNat y1_1) ((-1) : Int)) fun x31 =>
    bnd (w64 (y1_1 + 1)) fun x32 =>
    d_ref04_Start_L1 a1 n (x32 : Int) (x31 : List Int)) (some (y1_2 : List Int))
def d_ref04_Start_L0 (a1 : GMaster) : Nat → Int → (List GEnt) → Option ((List GEnt))
  | 0, _, _ => none
  | n + 1, y0_1, y0_3 =>
    bnd (decide (y0_1 < a1.Entities)) fun x9 =>
    cond x9 ((show Option ((List GEnt)) from
    bnd (w64 ((a1.Weights.length : Int) * 2)) fun x11 =>
    asrt ((0 : Int) ≤ x11 ∧ (x11 : Int) ≤ 1048576) <|
    bnd (List.replicate (Int.toNat x11) ((⟨[], (⟨0, 0, 0⟩ : A3_Int)⟩ : GPool) : GPool)) fun x13 =>
    asrt ((0 : Int) ≤ 17 ∧ (17 : Int) ≤ 1048576) <|
    bnd (List.replicate (Int.toNat 17) (0 : Int)) fun x16 =>
    asrt ((0 : Int) ≤ (a1.Weights.length : Int) ∧ ((a1.Weights.length : Int) : Int) ≤ 1048576) <|
    bnd (List.replicate (Int.toNat (a1.Weights.length : Int)) ((⟨0, 0, 0, 0, 0, 0, 0, 0, 0, 0, 0⟩ : GRoll) : GRoll)) fun x19 =>
    asrt ((0 : Int) ≤ (a1.Weights.length : Int) ∧ ((a1.Weights.length : Int) : Int) ≤ 1048576) <|
    bnd (List.replicate (Int.toNat (a1.Weights.length : Int)) (0 : Int)) fun x22 =>
    asrt ((0 : Int) ≤ (a1.Weights.length : Int) ∧ ((a1.Weights.length : Int) : Int) ≤ 1048576) <|
    bnd (List.replicate (Int.toNat (a1.Weights.length : Int)) (0 : Int)) fun x25 =>
    (show Option ((List Int)) from
    d_ref04_Start_L1 a1 n (0 : Int) (x22 : List Int)).bind <| fun y2_1 =>
    bnd (y0_3 ++ [(⟨1, false, x13, x16, x19, y2_1, x25, []⟩ : GEnt)]) fun x33 =>
    asrt (x33.length ≤ 68719476736) <|
    some (x33 : List GEnt)).bind <| fun y3_2 =>
    bnd (w64 (y0_1 + 1)) fun x36 =>
    d_ref04_Start_L0 a1 n (x36 : Int) (y3_2 : List GEnt)) (some (y0_3 : List GEnt))
def d_ref04_Start (n : Nat) (a1 : GMaster) : Option (GState × Int) :=
(d_ref04_Check n a1).bind fun x4 =>
bnd (!x4) fun x5 =>
asrt (x5 = false) <|
(show Option ((List GEnt)) from
d_ref04_Start_L0 a1 n (0 : Int) (([] : List GEnt) : List GEnt)).bind <| fun y4_2 =>
some (((⟨a1, y4_2, [], [], [], 0⟩ : GState) : GState), (0 : Int))
theorem d_ref04_Start_c {n : Nat} {a1 : GMaster} {r : GState × Int} (h0 : d_ref04_Start n a1 = some r) : PP Tryz.prog 11 [.agg (GMaster.av a1)] (fun y => y = .tup [.agg (GState.av r.1), int r.2]) := by
  unfold d_ref04_Start at h0
  refine pp_of_pc (R0 := fun y H => Cv (frzH H) y (.tup [.agg (GState.av r.1), int r.2])) ?_ (fun y H hc => ⟨_, rfl, .tup (pvl2 ((fun (a : GState) => PV.agg (GState.pvc a)) (r.1)) (pvI (r.2))), hc⟩)
  refine pcw (c := _) Tryz.func11 rfl rfl ?_; intro Q hret hnorm
  refine tc tbk 2 (.mk ?_)
  refine sB 1 fun v2 => ?_
  refine sA 2 z31 fun v3 => ?_
  refine tr tbk 6 (.mk ?_)
  obtain ⟨x4, e4, h0⟩ := bind_e h0
  refine sC cal22 (d_ref04_Check_c e4) ?_
  refine nb tbk h0 fun x5 h0 => ?_
  refine tr tbk 1 (.mk ?_)
  replace h0 := asrt_e h0
  obtain ⟨rfl, h0⟩ := h0
  refine tc tbk 5 (.mk ?_)
  refine sY (yv_build (cs := [int a1.Entities, int a1.Periods, lst 1 fI a1.Weights, lst 1 (fL 1 fI) a1.Methods, lst 1 (fL 1 fI) a1.Costs, .sc (.slice none 0 0), .sc (.slice none 0 0), .sc (.slice none 0 0), .sc (.slice none 0 0), int 0]) (ps := [(0, _)]) rfl pl31 z31 rfl (.cons rfl .nil) (by kernel_rfl)) ?_
  refine sA 3 z31 fun v6 => ?_
  refine sS ⟨31, 10, true, true, v6, [[int a1.Entities, int a1.Periods, lst 1 fI a1.Weights, lst 1 (fL 1 fI) a1.Methods, lst 1 (fL 1 fI) a1.Costs, .sc (.slice none 0 0), .sc (.slice none 0 0), .sc (.slice none 0 0), .sc (.slice none 0 0), int 0]]⟩ sh31 ?_
  refine tr tbk 5 (.mk ?_)
  refine sY (yv_len_sl rfl Tryz.underlying22 rfl (lst_len _)) ?_
  refine tr tbk 7 (.mk ?_)
  refine jn h0 [2, 3, 4] [2] (fun (a : (List GEnt)) (k : Nat) => []) (fun a k => [(3, ⟨31, 10, true, true, v6, [[int a1.Entities, int a1.Periods, lst 1 fI a1.Weights, lst 1 (fL 1 fI) a1.Methods, lst 1 (fL 1 fI) a1.Costs, .sl 11 k 0 a.length, .sc (.slice none 0 0), .sc (.slice none 0 0), .sc (.slice none 0 0), int 0]]⟩), (11, ⟨46, 8, true, true, k, a.map GEnt.av⟩)]) ⟨fun j7 h1 => ?_, ?_⟩
  refine tc tbk 1 (.mk ?_)
  refine c_nilcell 3 0 5 11 46 8 (rows := fun v8 => [[int a1.Entities, int a1.Periods, lst 1 fI a1.Weights, lst 1 (fL 1 fI) a1.Methods, lst 1 (fL 1 fI) a1.Costs, .sl 11 v8 0 0, .sc (.slice none 0 0), .sc (.slice none 0 0), .sc (.slice none 0 0), int 0]]) rfl rfl rfl rfl (fun _ => rfl) ?_; intro v8
  refine lp (fun n (a : Int × (List GEnt)) => d_ref04_Start_L0 a1 n a.1 a.2) ((0 : Int), (([] : List GEnt) : List GEnt)) v8 h1 [1, 2, 3, 4, 5] [1, 2] (fun (a : Int × (List GEnt)) (k : Nat) => [(6, int a.1)]) (fun a k => [(3, ⟨31, 10, true, true, v6, [[int a1.Entities, int a1.Periods, lst 1 fI a1.Weights, lst 1 (fL 1 fI) a1.Methods, lst 1 (fL 1 fI) a1.Costs, .sl 11 k 0 a.2.length, .sc (.slice none 0 0), .sc (.slice none 0 0), .sc (.slice none 0 0), int 0]]⟩), (11, ⟨46, 8, true, true, k, a.2.map GEnt.av⟩)]) (fun _ => rfl) ⟨leA, ?_⟩
  rintro n ⟨y0_1, y0_3⟩ w0_2 hm h1
  replace h1 : d_ref04_Start_L0 a1 (n + 1) y0_1 y0_3 = some _ := h1
  rw [d_ref04_Start_L0] at h1
  refine tc tbk 6 (.mk ?_)
  refine nb tbk h1 fun x9 h1 => ?_
  refine tr tbk 1 (.mk ?_)
  cases x9
  replace h1 := cf h1
  refine tc tbk 2 (.mk ?_)
  exact lf h1 w0_2 leA
  replace h1 := ct h1
  refine tc tbk 3 (.mk ?_)
  refine jn h1 [1, 2, 3, 4, 5, 6] [1, 2] (fun (a : (List GEnt)) (k : Nat) => []) (fun a k => [(3, ⟨31, 10, true, true, v6, [[int a1.Entities, int a1.Periods, lst 1 fI a1.Weights, lst 1 (fL 1 fI) a1.Methods, lst 1 (fL 1 fI) a1.Costs, .sl 11 k 0 a.length, .sc (.slice none 0 0), .sc (.slice none 0 0), .sc (.slice none 0 0), int 0]]⟩), (11, ⟨46, 8, true, true, k, a.map GEnt.av⟩)]) ⟨fun j10 h2 => ?_, ?_⟩
  refine tc tbk 2 (.mk ?_)
  refine c_draw [0, 1, 3, 0, 0, 16, 0, 64, 0, 256, 1023, 0, 4095] (fun i k => bif Nat.beq i 12 then (Nat.beq k 4 || Nat.beq k 5 || Nat.beq k 6 || Nat.beq k 7 || Nat.beq k 8 || Nat.beq k 9) else false) (fun i => bif Nat.beq i 2 then (some 4) else bif Nat.beq i 3 then (some 5) else bif Nat.beq i 5 then (some 6) else bif Nat.beq i 7 then (some 7) else bif Nat.beq i 9 then (some 8) else bif Nat.beq i 11 then (some 9) else bif Nat.beq i 12 then (some 9) else none) mixed (by kernel_rfl) ?_; intro C K hK
  refine dg_pure rfl (fun H hH => yv_move rfl rfl) ?_
  obtain ⟨x11, e11, h2⟩ := bnd_e h2
  refine dg_pure rfl (fun H hH => yv_mul rfl rfl rfl e11) ?_
  obtain ⟨p12, h2⟩ := asrt_e h2
  obtain ⟨x13, e13, h2⟩ := bnd_e h2
  have lx13 : x13.length = (Int.toNat x11) := by rw [← e13]; exact List.length_replicate
  refine dg_eff rfl rfl (fun H hH => yl_one (yl_make 4 (g := GPool.av) (z0 := ((⟨[], (⟨0, 0, 0⟩ : A3_Int)⟩ : GPool) : GPool)) (.one _) rfl Tryz.underlying43 bz98 by98 rfl rfl rfl p12 (.cons (.nil _) (.cons (.sc _) (.cons (.sc _) (.cons (.sc _) .nil)))) e13)) ?_; generalize C + 2 = v14
  obtain ⟨p15, h2⟩ := asrt_e h2
  obtain ⟨x16, e16, h2⟩ := bnd_e h2
  have lx16 : x16.length = (Int.toNat 17) := by rw [← e16]; exact List.length_replicate
  refine dg_eff rfl rfl (fun H hH => yl_one (yl_make 5 (g := fI) (z0 := (0 : Int)) (.one _) rfl Tryz.underlying22 bz3 by3 rfl rfl rfl p15 (.cons (.sc _) .nil) e16)) ?_; generalize C + 3 = v17
  refine dg_pure rfl (fun H hH => yv_move rfl rfl) ?_
  obtain ⟨p18, h2⟩ := asrt_e h2
  obtain ⟨x19, e19, h2⟩ := bnd_e h2
  have lx19 : x19.length = (Int.toNat (a1.Weights.length : Int)) := by rw [← e19]; exact List.length_replicate
  refine dg_eff rfl rfl (fun H hH => yl_one (yl_make 6 (g := GRoll.av) (z0 := ((⟨0, 0, 0, 0, 0, 0, 0, 0, 0, 0, 0⟩ : GRoll) : GRoll)) (.one _) rfl Tryz.underlying44 bz55 by55 rfl rfl rfl p18 (.cons (.sc _) (.cons (.sc _) (.cons (.sc _) (.cons (.sc _) (.cons (.sc _) (.cons (.sc _) (.cons (.sc _) (.cons (.sc _) (.cons (.sc _) (.cons (.sc _) (.cons (.sc _) .nil))))))))))) e19)) ?_; generalize C + 5 = v20
  refine dg_pure rfl (fun H hH => yv_move rfl rfl) ?_
  obtain ⟨p21, h2⟩ := asrt_e h2
  obtain ⟨x22, e22, h2⟩ := bnd_e h2
  have lx22 : x22.length = (Int.toNat (a1.Weights.length : Int)) := by rw [← e22]; exact List.length_replicate
  refine dg_eff rfl rfl (fun H hH => yl_one (yl_make 7 (g := fI) (z0 := (0 : Int)) (.one _) rfl Tryz.underlying22 bz3 by3 rfl rfl rfl p21 (.cons (.sc _) .nil) e22)) ?_; generalize C + 7 = v23
  refine dg_pure rfl (fun H hH => yv_move rfl rfl) ?_
  obtain ⟨p24, h2⟩ := asrt_e h2
  obtain ⟨x25, e25, h2⟩ := bnd_e h2
  have lx25 : x25.length = (Int.toNat (a1.Weights.length : Int)) := by rw [← e25]; exact List.length_replicate
  refine dg_eff rfl rfl (fun H hH => yl_one (yl_make 8 (g := fI) (z0 := (0 : Int)) (.one _) rfl Tryz.underlying22 bz3 by3 rfl rfl rfl p24 (.cons (.sc _) .nil) e25)) ?_; generalize C + 9 = v26
  refine dg_pure rfl (fun H hH => yv_build (cs := [int 1, boo false, .sl 4 v14 0 (Int.toNat x11), .sl 5 v17 0 (Int.toNat 17), .sl 6 v20 0 (Int.toNat (a1.Weights.length : Int)), .sl 7 v23 0 (Int.toNat (a1.Weights.length : Int)), .sl 8 v26 0 (Int.toNat (a1.Weights.length : Int)), .sc (.slice none 0 0)]) (ps := [(0, _), (2, _), (3, _), (4, _), (5, _), (6, _)]) rfl pl46 z46 rfl (.cons rfl (.cons rfl (.cons rfl (.cons rfl (.cons rfl (.cons rfl .nil)))))) (by kernel_rfl)) ?_
  refine dg_eff rfl rfl (fun H hH => yl_alloc1 9 rfl z46 rfl) ?_; generalize C + 11 = v27
  refine dg_store rfl rfl rfl (fun H hH => yl_ob (ob' := (⟨46, 8, true, true, v27, [[int 1, boo false, .sl 4 v14 0 (Int.toNat x11), .sl 5 v17 0 (Int.toNat 17), .sl 6 v20 0 (Int.toNat (a1.Weights.length : Int)), .sl 7 v23 0 (Int.toNat (a1.Weights.length : Int)), .sl 8 v26 0 (Int.toNat (a1.Weights.length : Int)), .sc (.slice none 0 0)]]⟩ : AObj)) (yl_store rfl sh46 rfl rfl ((hH _ rfl).trans rfl) rfl rfl rfl rfl rfl rfl) rfl) ?_
  refine dg_nil (hK _ ?_)
  refine tc tbk 5 (.mk ?_)
  refine jn h2 [1, 2, 3, 4, 5, 6, 7] [1, 2, 3, 4, 5, 6, 8, 11] (fun (a : (List Int)) (k : Unit) => []) (fun a k => [(7, ⟨3, 1, true, true, v23, a.map fI⟩), (9, ⟨46, 8, true, true, v27, [[int 1, boo false, .sl 4 v14 0 (Int.toNat x11), .sl 5 v17 0 (Int.toNat 17), .sl 6 v20 0 (Int.toNat (a1.Weights.length : Int)), .sl 7 v23 0 a.length, .sl 8 v26 0 (Int.toNat (a1.Weights.length : Int)), .sc (.slice none 0 0)]]⟩)]) ⟨fun j28 h3 => ?_, ?_⟩
  refine tc tbk 1 (.mk ?_)
  refine lp (fun n (a : Int × (List Int)) => d_ref04_Start_L1 a1 n a.1 a.2) ((0 : Int), (x22 : List Int)) () h3 [1, 2, 3, 4, 5, 6, 7] [1, 2, 3, 4, 5, 6, 8, 11] (fun (a : Int × (List Int)) (k : Unit) => [(8, int a.1)]) (fun a k => [(7, ⟨3, 1, true, true, v23, a.2.map fI⟩), (9, ⟨46, 8, true, true, v27, [[int 1, boo false, .sl 4 v14 0 (Int.toNat x11), .sl 5 v17 0 (Int.toNat 17), .sl 6 v20 0 (Int.toNat (a1.Weights.length : Int)), .sl 7 v23 0 a.2.length, .sl 8 v26 0 (Int.toNat (a1.Weights.length : Int)), .sc (.slice none 0 0)]]⟩)]) (fun _ => rfl) ⟨leH_kn ⟨⟨_, rfl, (.refl _)⟩, ⟨_, rfl, (.refl _)⟩, ⟨_, rfl, (.refl _)⟩, ⟨_, rfl, (.refl _)⟩, ⟨_, rfl, (.refl _)⟩, ⟨_, rfl, (.refl _)⟩, ⟨_, rfl, (.refl _)⟩, ⟨_, rfl, (.refl _)⟩, trivial⟩ ⟨⟨_, rfl, (.refl _)⟩, ⟨_, rfl, ⟨rfl, (.cons (.cons (.refl _) (.cons (.refl _) (.cons (.refl _) (.cons (.refl _) (.cons (.refl _) (.cons (cv_slen (Eq.symm lx22)) (.cons (.refl _) (.cons (.refl _) .nil)))))))) .nil)⟩⟩, ⟨_, rfl, (.refl _)⟩, ⟨_, rfl, (.refl _)⟩, ⟨_, rfl, (.refl _)⟩, ⟨_, rfl, (.refl _)⟩, ⟨_, rfl, (.refl _)⟩, ⟨_, rfl, (.refl _)⟩, ⟨_, rfl, (.refl _)⟩, ⟨_, rfl, (.refl _)⟩, trivial⟩, ?_⟩
  rintro n ⟨y1_1, y1_2⟩ _ hm h3
  replace h3 : d_ref04_Start_L1 a1 (n + 1) y1_1 y1_2 = some _ := h3
  rw [d_ref04_Start_L1] at h3
  refine tc tbk 5 (.mk ?_)
  refine nb tbk h3 fun x29 h3 => ?_
  refine tr tbk 1 (.mk ?_)
  cases x29
  replace h3 := cf h3
  refine tc tbk 2 (.mk ?_)
  exact lf h3 () leA
  replace h3 := ct h3
  refine tc tbk 8 (.mk ?_)
  obtain ⟨x30, e30, h3⟩ := bind_e h3
  refine sY (yv_ixO rfl Tryz.underlying22 sh3 rfl rfl rfl rfl rfl (Eq.symm rfl) (List.length_map _) e30) ?_
  obtain ⟨x31, e31, h3⟩ := bnd_e h3
  have fx31 := ix_set e30 e31; have lx31 := len_setV e31 (rfl : y1_2.length = y1_2.length)
  refine rsstore rfl rfl (yl_ob (ob' := (⟨3, 1, true, true, v23, x31.map fI⟩ : AObj)) (yl_store rfl sh3 rfl rfl rfl rfl rfl (ix_get e30) rfl rfl rfl) (ob_eq (map_setV e31))) ?_
  refine tr tbk 4 (.mk ?_)
  refine ni tbk h3 fun x32 h3 => ?_
  refine tr tbk 2 (.mk ?_)
  exact bk (x32, x31) () h3 (leH_kn ⟨⟨_, rfl, (.refl _)⟩, ⟨_, rfl, (.refl _)⟩, ⟨_, rfl, (.refl _)⟩, ⟨_, rfl, (.refl _)⟩, ⟨_, rfl, (.refl _)⟩, ⟨_, rfl, (.refl _)⟩, ⟨_, rfl, (.refl _)⟩, ⟨_, rfl, (.refl _)⟩, trivial⟩ ⟨⟨_, rfl, (.refl _)⟩, ⟨_, rfl, ⟨rfl, (.cons (.cons (.refl _) (.cons (.refl _) (.cons (.refl _) (.cons (.refl _) (.cons (.refl _) (.cons (cv_slen (Eq.symm lx31)) (.cons (.refl _) (.cons (.refl _) .nil)))))))) .nil)⟩⟩, ⟨_, rfl, (.refl _)⟩, ⟨_, rfl, (.refl _)⟩, ⟨_, rfl, (.refl _)⟩, ⟨_, rfl, (.refl _)⟩, ⟨_, rfl, (.refl _)⟩, ⟨_, rfl, (.refl _)⟩, ⟨_, rfl, (.refl _)⟩, ⟨_, rfl, (.refl _)⟩, trivial⟩)
  rintro y2_1 _ h2
  refine tc tbk 4 (.mk ?_)
  refine sY (yv_buildSlice (ps := [(0, _)]) (rows := [[int 1, boo false, .sl 4 v14 0 (Int.toNat x11), .sl 5 v17 0 (Int.toNat 17), .sl 6 v20 0 (Int.toNat (a1.Weights.length : Int)), .sl 7 v23 0 y2_1.length, .sl 8 v26 0 (Int.toNat (a1.Weights.length : Int)), .sc (.slice none 0 0)]]) rfl Tryz.underlying26 bz46 (.cons rfl .nil) (by kernel_rfl) rfl rfl rfl) ?_
  obtain ⟨x33, e33, h2⟩ := bnd_e h2
  obtain ⟨p34, h2⟩ := asrt_e h2
  refine rse rfl rfl rfl (Yield.frz 4 rfl (Yield.frz 5 rfl (Yield.frz 6 rfl (Yield.frz 7 rfl (Yield.frz 8 rfl (yl_appT (g := GEnt.av) (l := y0_3) (m := [(⟨1, false, x13, x16, x19, y2_1, x25, []⟩ : GEnt)]) .any rfl Tryz.underlying26 bz46 by46 rfl rfl rfl rfl rfl rfl rfl rfl rfl rfl (Eq.symm rfl) (CvLL.list (ys := [GEnt.av (⟨1, false, x13, x16, x19, y2_1, x25, []⟩ : GEnt)]) (.cons (cvl_to (.cons (.refl _) (.cons (.refl _) (.cons (cv_lst rfl rfl rfl rfl rfl (Eq.symm lx13)) (.cons (cv_lst rfl rfl rfl rfl rfl (Eq.symm lx16)) (.cons (cv_lst rfl rfl rfl rfl rfl (Eq.symm lx19)) (.cons (cv_lst rfl rfl rfl rfl rfl (Eq.symm rfl)) (.cons (cv_lst rfl rfl rfl rfl rfl (Eq.symm lx25)) (.cons (.nil _) .nil)))))))) (GEnt.av_eq _)) .nil)) GEnt.one e33 p34)))))) ?_; rintro _ _ ⟨v35, -, rfl, rfl⟩
  refine tr tbk 1 (.mk ?_)
  refine sS ⟨31, 10, true, true, v6, [[int a1.Entities, int a1.Periods, lst 1 fI a1.Weights, lst 1 (fL 1 fI) a1.Methods, lst 1 (fL 1 fI) a1.Costs, .sl 11 v35 0 x33.length, .sc (.slice none 0 0), .sc (.slice none 0 0), .sc (.slice none 0 0), int 0]]⟩ sh26 ?_
  refine tr tbk 2 (.mk ?_)
  exact lf h2 v35 leA
  rintro y3_2 w3_1 h1
  refine tc tbk 2 (.mk ?_)
  refine ni tbk h1 fun x36 h1 => ?_
  refine tr tbk 2 (.mk ?_)
  exact bk (x36, y3_2) w3_1 h1 leA
  rintro y4_2 w4_1 h0
  refine tc tbk 3 (.mk ?_)
  refine sS ⟨31, 10, true, true, v3, [[int a1.Entities, int a1.Periods, lst 1 fI a1.Weights, lst 1 (fL 1 fI) a1.Methods, lst 1 (fL 1 fI) a1.Costs, .sl 11 w4_1 0 y4_2.length, .sc (.slice none 0 0), .sc (.slice none 0 0), .sc (.slice none 0 0), int 0]]⟩ sh31 ?_
  refine tr tbk 2 (.mk ?_)
  obtain rfl := nxt_e h0
  refine wR hret (rC sh31 (rT .nil)) ?_
  exact CvL.tup (.cons (CvL.agg (.cons (.refl _) (.cons (.refl _) (.cons (.refl _) (.cons (.refl _) (.cons (.refl _) (.cons (cv_lst rfl rfl rfl rfl rfl (Eq.symm rfl)) (.cons (.nil _) (.cons (.nil _) (.cons (.nil _) (.cons (.refl _) .nil))))))))))) (.cons (.refl _) .nil))
def d_law00_Place (a1 : Int) (a2 : Int) : Option (Int) :=
asrt (a2 ≠ 0) <|
bnd (a1.tmod a2) fun x4 =>
bnd (decide (x4 < 0)) fun x5 =>
(show Option (Int) from
cond x5 (bnd (w64 (x4 + a2)) fun x7 =>
some (x7 : Int)) (some (x4 : Int))).bind <| fun y0_1 =>
some ((y0_1 : Int))
theorem d_law00_Place_c {a1 : Int} {a2 : Int} {r : Int} (h0 : d_law00_Place a1 a2 = some r) : PP Tryz.prog 9 [int a1, int a2] (fun y => y = int r) := by
  unfold d_law00_Place at h0
  refine pp_of_pc (R0 := fun y H => Cv (frzH H) y (int r)) ?_ (fun y H hc => ⟨_, rfl, pvI r, hc⟩)
  refine pcw (c := _) Tryz.func9 rfl rfl ?_; intro Q hret hnorm
  refine tc tbk 8 (.mk ?_)
  obtain ⟨p3, h0⟩ := asrt_e h0
  obtain ⟨x4, e4, h0⟩ := bnd_e h0
  refine sY (yv_rem rfl rfl rfl p3 e4) ?_
  refine tr tbk 6 (.mk ?_)
  refine nb tbk h0 fun x5 h0 => ?_
  refine tr tbk 1 (.mk ?_)
  refine jn h0 [4] [] (fun (a : Int) (k : Unit) => [(5, int a)]) (fun a k => []) ⟨fun j6 h1 => ?_, ?_⟩
  cases x5
  replace h1 := cf h1
  refine tc tbk 2 (.mk ?_)
  exact lf h1 () leA
  replace h1 := ct h1
  refine tc tbk 4 (.mk ?_)
  refine ni tbk h1 fun x7 h1 => ?_
  refine tr tbk 2 (.mk ?_)
  exact lf h1 () leA
  rintro y0_1 _ h0
  refine tc tbk 5 (.mk ?_)
  obtain rfl := nxt_e h0
  refine wR hret (rT .nil) ?_
  exact .refl _
def d_ops_forms  : Option (A17_List_UInt8) :=
some (((⟨([] : List UInt8), ([69, 73, 76, 81, 65] : List UInt8), ([81, 65, 82] : List UInt8), ([81, 82] : List UInt8), ([69, 73, 76, 81, 65] : List UInt8), ([81, 65, 82] : List UInt8), ([69, 73, 76, 81] : List UInt8), ([69, 73, 76, 81] : List UInt8), ([69, 73, 76, 84, 81] : List UInt8), ([69, 73, 65] : List UInt8), ([69, 73, 65] : List UInt8), ([84, 65, 83] : List UInt8), ([69, 73, 76, 84, 81, 65] : List UInt8), ([76, 81, 82] : List UInt8), ([69] : List UInt8), ([69] : List UInt8), ([69] : List UInt8)⟩ : A17_List_UInt8) : A17_List_UInt8))
theorem d_ops_forms_c  {r : A17_List_UInt8} (h0 : d_ops_forms  = some r) : PP Tryz.prog 43 [] (fun y => y = .agg (A17_List_UInt8.av r)) := by
  unfold d_ops_forms at h0
  refine pp_of_pc (R0 := fun y H => Cv (frzH H) y (.agg (A17_List_UInt8.av r))) ?_ (fun y H hc => ⟨_, rfl, (fun (a : A17_List_UInt8) => PV.agg (A17_List_UInt8.pvc a)) r, hc⟩)
  refine pcw (c := _) Tryz.func43 rfl rfl ?_; intro Q hret hnorm
  refine tc tbk 2 (.mk ?_)
  refine sA 1 z84 fun v1 => ?_
  refine tr tbk 3 (.mk ?_)
  refine sY (yv_buildA (cs := [str ([] : List UInt8), str ([69, 73, 76, 81, 65] : List UInt8), str ([81, 65, 82] : List UInt8), str ([81, 82] : List UInt8), str ([69, 73, 76, 81, 65] : List UInt8), str ([81, 65, 82] : List UInt8), str ([69, 73, 76, 81] : List UInt8), str ([69, 73, 76, 81] : List UInt8), str ([69, 73, 76, 84, 81] : List UInt8), str ([69, 73, 65] : List UInt8), str ([69, 73, 65] : List UInt8), str ([84, 65, 83] : List UInt8), str ([69, 73, 76, 84, 81, 65] : List UInt8), str ([76, 81, 82] : List UInt8), str ([69] : List UInt8), str ([69] : List UInt8), str ([69] : List UInt8)]) (ps := [(1, _), (2, _), (3, _), (4, _), (5, _), (6, _), (7, _), (8, _), (9, _), (10, _), (11, _), (12, _), (13, _), (14, _), (15, _), (16, _)]) rfl Tryz.underlying84 sh83 z84 rfl (.cons rfl (.cons rfl (.cons rfl (.cons rfl (.cons rfl (.cons rfl (.cons rfl (.cons rfl (.cons rfl (.cons rfl (.cons rfl (.cons rfl (.cons rfl (.cons rfl (.cons rfl (.cons rfl .nil)))))))))))))))) (by kernel_rfl)) ?_
  refine sS ⟨84, 17, true, true, v1, [[str ([] : List UInt8), str ([69, 73, 76, 81, 65] : List UInt8), str ([81, 65, 82] : List UInt8), str ([81, 82] : List UInt8), str ([69, 73, 76, 81, 65] : List UInt8), str ([81, 65, 82] : List UInt8), str ([69, 73, 76, 81] : List UInt8), str ([69, 73, 76, 81] : List UInt8), str ([69, 73, 76, 84, 81] : List UInt8), str ([69, 73, 65] : List UInt8), str ([69, 73, 65] : List UInt8), str ([84, 65, 83] : List UInt8), str ([69, 73, 76, 84, 81, 65] : List UInt8), str ([76, 81, 82] : List UInt8), str ([69] : List UInt8), str ([69] : List UInt8), str ([69] : List UInt8)]]⟩ sh84 ?_
  refine tr tbk 1 (.mk ?_)
  obtain rfl := nxt_e h0
  refine wR hret (rC sh84 .nil) ?_
  exact .refl _
def d_internal_stringslite_IndexByte (a1 : List UInt8) (a2 : Int) : Option (Int) :=
bnd (ixB a1 a2) fun x3 =>
some ((x3 : Int))
theorem d_internal_stringslite_IndexByte_c {a1 : List UInt8} {a2 : Int} {r : Int} (h0 : d_internal_stringslite_IndexByte a1 a2 = some r) : PP Tryz.prog 224 [str a1, .sc (.int .u8 a2)] (fun y => y = int r) := by
  unfold d_internal_stringslite_IndexByte at h0
  refine pp_of_pc (R0 := fun y H => Cv (frzH H) y (int r)) ?_ (fun y H hc => ⟨_, rfl, pvI r, hc⟩)
  refine pcw (c := _) Tryz.func224 rfl rfl ?_; intro Q hret hnorm
  refine tc tbk 8 (.mk ?_)
  obtain ⟨x3, e3, h0⟩ := bnd_e h0
  refine sY (yv_to (y := int x3) (yv_indexByte rfl Tryz.func257 rfl rfl ibx iby rfl rfl) (congrArg int e3)) ?_
  refine tr tbk 2 (.mk ?_)
  obtain rfl := nxt_e h0
  refine wR hret (rT .nil) ?_
  exact .refl _
def d_strings_IndexByte (a1 : List UInt8) (a2 : Int) : Option (Int) :=
(d_internal_stringslite_IndexByte a1 a2).bind fun x3 =>
some ((x3 : Int))
theorem d_strings_IndexByte_c {a1 : List UInt8} {a2 : Int} {r : Int} (h0 : d_strings_IndexByte a1 a2 = some r) : PP Tryz.prog 162 [str a1, .sc (.int .u8 a2)] (fun y => y = int r) := by
  unfold d_strings_IndexByte at h0
  refine pp_of_pc (R0 := fun y H => Cv (frzH H) y (int r)) ?_ (fun y H hc => ⟨_, rfl, pvI r, hc⟩)
  refine pcw (c := _) Tryz.func162 rfl rfl ?_; intro Q hret hnorm
  refine tc tbk 8 (.mk ?_)
  obtain ⟨x3, e3, h0⟩ := bind_e h0
  refine sC cal224 (d_internal_stringslite_IndexByte_c e3) ?_
  refine tr tbk 2 (.mk ?_)
  obtain rfl := nxt_e h0
  refine wR hret (rT .nil) ?_
  exact .refl _
def d_ops_bounds (a1 : Int) (a2 : Int) : Option (Int × Int) :=
bnd (decide (a2 = 69)) fun x3 =>
cond x3 (some ((0 : Int), (3 : Int))) (bnd (decide (a2 = 73)) fun x4 =>
cond x4 (some ((0 : Int), (4 : Int))) (bnd (decide (a2 = 76)) fun x5 =>
cond x5 (some ((0 : Int), (1 : Int))) (bnd (decide (a2 = 84)) fun x6 =>
asrt (x6 = false) <|
bnd (decide (a2 = 81)) fun x7 =>
cond x7 (bnd (decide (a1 = 7)) fun x12 =>
asrt (x12 = false) <|
some ((1 : Int), (1073741824 : Int))) (bnd (decide (a2 = 65)) fun x8 =>
cond x8 ((show Option (Bool) from
bnd (decide (a1 = 9)) fun x10 =>
cond x10 (some (true : Bool)) (bnd (decide (a1 = 10)) fun x11 =>
some (x11 : Bool))).bind <| fun y0_1 =>
asrt (y0_1 = false) <|
some ((0 : Int), (1125899906842624 : Int))) (some ((0 : Int), (39 : Int)))))))
theorem d_ops_bounds_c {a1 : Int} {a2 : Int} {r : Int × Int} (h0 : d_ops_bounds a1 a2 = some r) : PP Tryz.prog 45 [int a1, .sc (.int .i32 a2)] (fun y => y = .tup [int r.1, int r.2]) := by
  unfold d_ops_bounds at h0
  refine pp_of_pc (R0 := fun y H => Cv (frzH H) y (.tup [int r.1, int r.2])) ?_ (fun y H hc => ⟨_, rfl, .tup (pvl2 (pvI (r.1)) (pvI (r.2))), hc⟩)
  refine pcw (c := _) Tryz.func45 rfl rfl ?_; intro Q hret hnorm
  refine tc tbk 13 (.mk ?_)
  refine nb tbk h0 fun x3 h0 => ?_
  refine tr tbk 2 (.mk ?_)
  cases x3
  replace h0 := cf h0
  refine tc tbk 3 (.mk ?_)
  refine nb tbk h0 fun x4 h0 => ?_
  refine tr tbk 2 (.mk ?_)
  cases x4
  replace h0 := cf h0
  refine tc tbk 3 (.mk ?_)
  refine nb tbk h0 fun x5 h0 => ?_
  refine tr tbk 2 (.mk ?_)
  cases x5
  replace h0 := cf h0
  refine tc tbk 3 (.mk ?_)
  refine nb tbk h0 fun x6 h0 => ?_
  refine tr tbk 2 (.mk ?_)
  replace h0 := asrt_e h0
  obtain ⟨rfl, h0⟩ := h0
  refine tc tbk 3 (.mk ?_)
  refine nb tbk h0 fun x7 h0 => ?_
  refine tr tbk 2 (.mk ?_)
  cases x7
  replace h0 := cf h0
  refine tc tbk 3 (.mk ?_)
  refine nb tbk h0 fun x8 h0 => ?_
  refine tr tbk 2 (.mk ?_)
  cases x8
  replace h0 := cf h0
  refine tc tbk 8 (.mk ?_)
  obtain rfl := nxt_e h0
  refine wR hret (rT (rT .nil)) ?_
  exact .refl _
  replace h0 := ct h0
  refine tc tbk 3 (.mk ?_)
  refine jn h0 [4, 5] [] (fun (a : Bool) (k : Unit) => [(30, boo a)]) (fun a k => []) ⟨fun j9 h1 => ?_, ?_⟩
  refine tc tbk 2 (.mk ?_)
  refine nb tbk h1 fun x10 h1 => ?_
  refine tr tbk 1 (.mk ?_)
  cases x10
  replace h1 := cf h1
  refine tr tbk 1 (.mk ?_)
  refine nb tbk h1 fun x11 h1 => ?_
  refine tr tbk 2 (.mk ?_)
  exact lf h1 () leA
  replace h1 := ct h1
  refine tr tbk 4 (.mk ?_)
  exact lf h1 () leA
  rintro y0_1 _ h0
  replace h0 := asrt_e h0
  obtain ⟨rfl, h0⟩ := h0
  refine tc tbk 7 (.mk ?_)
  obtain rfl := nxt_e h0
  refine wR hret (rT (rT .nil)) ?_
  exact .refl _
  replace h0 := ct h0
  refine tc tbk 5 (.mk ?_)
  refine nb tbk h0 fun x12 h0 => ?_
  refine tr tbk 1 (.mk ?_)
  replace h0 := asrt_e h0
  obtain ⟨rfl, h0⟩ := h0
  refine tc tbk 7 (.mk ?_)
  obtain rfl := nxt_e h0
  refine wR hret (rT (rT .nil)) ?_
  exact .refl _
  replace h0 := ct h0
  refine tc tbk 6 (.mk ?_)
  obtain rfl := nxt_e h0
  refine wR hret (rT (rT .nil)) ?_
  exact .refl _
  replace h0 := ct h0
  refine tc tbk 6 (.mk ?_)
  obtain rfl := nxt_e h0
  refine wR hret (rT (rT .nil)) ?_
  exact .refl _
  replace h0 := ct h0
  refine tc tbk 6 (.mk ?_)
  obtain rfl := nxt_e h0
  refine wR hret (rT (rT .nil)) ?_
  exact .refl _
def d_ops_Check (a1 : GOp) : Option (Bool) :=
(show Option (Bool) from
bnd (decide (a1.Kind < 1)) fun x4 =>
cond x4 (some (true : Bool)) (bnd (decide (a1.Kind > 16)) fun x5 =>
some (x5 : Bool))).bind <| fun y0_1 =>
asrt (y0_1 = false) <|
d_ops_forms.bind fun x6 =>
(ix ([x6.a0, x6.a1, x6.a2, x6.a3, x6.a4, x6.a5, x6.a6, x6.a7, x6.a8, x6.a9, x6.a10, x6.a11, x6.a12, x6.a13, x6.a14, x6.a15, x6.a16] : List (List UInt8)) a1.Kind).bind fun x7 =>
(show Option ((Bool)) from
(show Option ((Int)) from
(d_strings_IndexByte x7 69).bind fun x11 =>
some (x11 : Int)).bind <| fun y1_1 =>
bnd (decide (y1_1 ≥ 0)) fun x12 =>
some (x12 : Bool)).bind <| fun y2_1 =>
(show Option (Int × Int) from
cond y2_1 ((d_ops_bounds a1.Kind 69).bind fun x14 =>
some ((x14.1 : Int), (x14.2 : Int))) (some ((0 : Int), (0 : Int)))).bind <| p2 fun (y3_1 : Int) (y3_2 : Int) =>
(show Option ((Unit)) from
some ()).bind <| fun _ =>
(show Option (Bool) from
bnd (decide (a1.E < y3_1)) fun x17 =>
cond x17 (some (true : Bool)) (bnd (decide (a1.E > y3_2)) fun x18 =>
some (x18 : Bool))).bind <| fun y5_1 =>
asrt (y5_1 = false) <|
(show Option ((Bool)) from
(show Option ((Int)) from
(d_strings_IndexByte x7 73).bind fun x21 =>
some (x21 : Int)).bind <| fun y1_1 =>
bnd (decide (y1_1 ≥ 0)) fun x22 =>
some (x22 : Bool)).bind <| fun y2_1_1 =>
(show Option (Int × Int) from
cond y2_1_1 ((d_ops_bounds a1.Kind 73).bind fun x24 =>
some ((x24.1 : Int), (x24.2 : Int))) (some ((0 : Int), (0 : Int)))).bind <| p2 fun (y3_1_1 : Int) (y3_2_1 : Int) =>
(show Option ((Unit)) from
some ()).bind <| fun _ =>
(show Option (Bool) from
bnd (decide (a1.Item < y3_1_1)) fun x27 =>
cond x27 (some (true : Bool)) (bnd (decide (a1.Item > y3_2_1)) fun x28 =>
some (x28 : Bool))).bind <| fun y5_1_1 =>
asrt (y5_1_1 = false) <|
(show Option ((Bool)) from
(show Option ((Int)) from
(d_strings_IndexByte x7 76).bind fun x31 =>
some (x31 : Int)).bind <| fun y1_1 =>
bnd (decide (y1_1 ≥ 0)) fun x32 =>
some (x32 : Bool)).bind <| fun y2_1_2 =>
(show Option (Int × Int) from
cond y2_1_2 ((d_ops_bounds a1.Kind 76).bind fun x34 =>
some ((x34.1 : Int), (x34.2 : Int))) (some ((0 : Int), (0 : Int)))).bind <| p2 fun (y3_1_2 : Int) (y3_2_2 : Int) =>
(show Option ((Unit)) from
some ()).bind <| fun _ =>
(show Option (Bool) from
bnd (decide (a1.Loc < y3_1_2)) fun x37 =>
cond x37 (some (true : Bool)) (bnd (decide (a1.Loc > y3_2_2)) fun x38 =>
some (x38 : Bool))).bind <| fun y5_1_2 =>
asrt (y5_1_2 = false) <|
(show Option ((Bool)) from
(show Option ((Int)) from
(d_strings_IndexByte x7 84).bind fun x41 =>
some (x41 : Int)).bind <| fun y1_1 =>
bnd (decide (y1_1 ≥ 0)) fun x42 =>
some (x42 : Bool)).bind <| fun y2_1_3 =>
(show Option (Int × Int) from
cond y2_1_3 ((d_ops_bounds a1.Kind 84).bind fun x44 =>
some ((x44.1 : Int), (x44.2 : Int))) (some ((0 : Int), (0 : Int)))).bind <| p2 fun (y3_1_3 : Int) (y3_2_3 : Int) =>
(show Option ((Unit)) from
some ()).bind <| fun _ =>
(show Option (Bool) from
bnd (decide (a1.To < y3_1_3)) fun x47 =>
cond x47 (some (true : Bool)) (bnd (decide (a1.To > y3_2_3)) fun x48 =>
some (x48 : Bool))).bind <| fun y5_1_3 =>
asrt (y5_1_3 = false) <|
(show Option ((Bool)) from
(show Option ((Int)) from
(d_strings_IndexByte x7 81).bind fun x51 =>
some (x51 : Int)).bind <| fun y1_1 =>
bnd (decide (y1_1 ≥ 0)) fun x52 =>
some (x52 : Bool)).bind <| fun y2_1_4 =>
(show Option (Int × Int) from
cond y2_1_4 ((d_ops_bounds a1.Kind 81).bind fun x54 =>
some ((x54.1 : Int), (x54.2 : Int))) (some ((0 : Int), (0 : Int)))).bind <| p2 fun (y3_1_4 : Int) (y3_2_4 : Int) =>
(show Option ((Unit)) from
some ()).bind <| fun _ =>
(show Option (Bool) from
bnd (decide (a1.Qty < y3_1_4)) fun x57 =>
cond x57 (some (true : Bool)) (bnd (decide (a1.Qty > y3_2_4)) fun x58 =>
some (x58 : Bool))).bind <| fun y5_1_4 =>
asrt (y5_1_4 = false) <|
(show Option ((Bool)) from
(show Option ((Int)) from
(d_strings_IndexByte x7 65).bind fun x61 =>
some (x61 : Int)).bind <| fun y1_1 =>
bnd (decide (y1_1 ≥ 0)) fun x62 =>
some (x62 : Bool)).bind <| fun y2_1_5 =>
(show Option (Int × Int) from
cond y2_1_5 ((d_ops_bounds a1.Kind 65).bind fun x64 =>
some ((x64.1 : Int), (x64.2 : Int))) (some ((0 : Int), (0 : Int)))).bind <| p2 fun (y3_1_5 : Int) (y3_2_5 : Int) =>
(show Option ((Unit)) from
some ()).bind <| fun _ =>
(show Option (Bool) from
bnd (decide (a1.Amount < y3_1_5)) fun x67 =>
cond x67 (some (true : Bool)) (bnd (decide (a1.Amount > y3_2_5)) fun x68 =>
some (x68 : Bool))).bind <| fun y5_1_5 =>
asrt (y5_1_5 = false) <|
(show Option ((Bool)) from
(show Option ((Int)) from
(d_strings_IndexByte x7 82).bind fun x71 =>
some (x71 : Int)).bind <| fun y1_1 =>
bnd (decide (y1_1 ≥ 0)) fun x72 =>
some (x72 : Bool)).bind <| fun y2_1_6 =>
(show Option (Int × Int) from
cond y2_1_6 ((d_ops_bounds a1.Kind 82).bind fun x74 =>
some ((x74.1 : Int), (x74.2 : Int))) (some ((0 : Int), (0 : Int)))).bind <| p2 fun (y3_1_6 : Int) (y3_2_6 : Int) =>
(show Option ((Unit)) from
some ()).bind <| fun _ =>
(show Option (Bool) from
bnd (decide (a1.Ref < y3_1_6)) fun x77 =>
cond x77 (some (true : Bool)) (bnd (decide (a1.Ref > y3_2_6)) fun x78 =>
some (x78 : Bool))).bind <| fun y5_1_6 =>
asrt (y5_1_6 = false) <|
bnd (decide (a1.Kind = 11)) fun x79 =>
asrt (x79 = false) <|
(show Option (Bool) from
bnd (decide ((a1.Refs.length : Int) = 0)) fun x81 =>
cond x81 (bnd (decide (a1.Kind = 8)) fun x82 =>
cond x82 (bnd (decide (a1.To = a1.Loc)) fun x86 =>
bnd (!x86) fun x87 =>
cond x87 (bnd (decide (a1.Kind = 12)) fun x88 =>
cond x88 (bnd (decide (a1.To = a1.E)) fun x89 =>
bnd (!x89) fun x90 =>
some (x90 : Bool)) (some (true : Bool))) (some (false : Bool))) (bnd (decide (a1.Kind = 12)) fun x83 =>
cond x83 (bnd (decide (a1.To = a1.E)) fun x84 =>
bnd (!x84) fun x85 =>
some (x85 : Bool)) (some (true : Bool)))) (some (false : Bool))).bind <| fun y6_1 =>
some ((y6_1 : Bool))
theorem d_ops_Check_c {a1 : GOp} {r : Bool} (h0 : d_ops_Check a1 = some r) : PP Tryz.prog 19 [.agg (GOp.av a1)] (fun y => y = boo r) := by
  unfold d_ops_Check at h0
  refine pp_of_pc (R0 := fun y H => Cv (frzH H) y (boo r)) ?_ (fun y H hc => ⟨_, rfl, pvB r, hc⟩)
  refine pcw (c := _) Tryz.func19 rfl rfl ?_; intro Q hret hnorm
  refine tc tbk 2 (.mk ?_)
  refine sB 1 fun v2 => ?_
  refine tr tbk 4 (.mk ?_)
  refine jn h0 [1, 2] [1] (fun (a : Bool) (k : Unit) => [(16, boo a)]) (fun a k => []) ⟨fun j3 h1 => ?_, ?_⟩
  refine tc tbk 3 (.mk ?_)
  refine nb tbk h1 fun x4 h1 => ?_
  refine tr tbk 1 (.mk ?_)
  cases x4
  replace h1 := cf h1
  refine tr tbk 2 (.mk ?_)
  refine nb tbk h1 fun x5 h1 => ?_
  refine tr tbk 2 (.mk ?_)
  exact lf h1 () leA
  replace h1 := ct h1
  refine tr tbk 5 (.mk ?_)
  exact lf h1 () leA
  rintro y0_1 _ h0
  replace h0 := asrt_e h0
  obtain ⟨rfl, h0⟩ := h0
  refine tc tbk 3 (.mk ?_)
  refine c_drawE [0, 0, 2, 7, 15] (rl [(1, [1]), (2, [1])] []) (fun i => [1]) (fun i => true) [0, 1, 2, 3, 4] mixed (by kernel_rfl) ?_; intro K hK
  obtain ⟨x6, e6, h0⟩ := bind_e h0
  refine eP (fun H hH => yv_callP rfl rfl .nil cal43 (CvL.refl _) (d_ops_forms_c e6)) ?_
  refine eF fo37_0 ?_
  refine eL sh3 ?_
  obtain ⟨x7, e7, h0⟩ := bind_e h0
  refine eP (fun H hH => yv_indexAT (g := fS) (l := ([x6.a0, x6.a1, x6.a2, x6.a3, x6.a4, x6.a5, x6.a6, x6.a7, x6.a8, x6.a9, x6.a10, x6.a11, x6.a12, x6.a13, x6.a14, x6.a15, x6.a16] : List (List UInt8))) (v := x7) (w := str x7) rfl Tryz.underlying84 sh83 rfl rfl rfl e7 (fun _ => rfl) hw1) ?_
  refine eA ?_
  refine de_nil (hK _ ?_)
  refine tc tbk 1 (.mk ?_)
  refine w_range rfl rfl rfl rfl rfl rfl rfl rfl ?_
  refine rgi_end rfl rfl rfl rfl Tryz.underlying9 rfl fun b8 => ⟨rfl, ?_⟩
  refine tc tbk 20 (.mk ?_)
  obtain ⟨j9, h1, h0⟩ := bind_e h0
  refine rse (Out := fun y H' => (∃ (a : Bool) (k : Unit), a = j9 ∧ y = boo a ∧ H' = hk [(1, ⟨37, 9, true, true, v2, [[int a1.Kind, int a1.E, int a1.Item, int a1.Loc, int a1.To, int a1.Qty, int a1.Amount, int a1.Ref, lst 1 fI a1.Refs]]⟩)])) rfl rfl rfl (yl_call rfl rfl (.cons rfl (.cons rfl .nil)) cal44 ?_) ?_
  refine pcw (c := _) Tryz.func44 rfl rfl ?_; intro Q hret hnorm
  refine tc tbk 8 (.mk ?_)
  obtain ⟨j10, h2, h1⟩ := bind_e h1
  refine rse (Out := fun y H' => (∃ (a : Int) (k : Unit), a = j10 ∧ y = int a ∧ H' = hk [(1, ⟨37, 9, true, true, v2, [[int a1.Kind, int a1.E, int a1.Item, int a1.Loc, int a1.To, int a1.Qty, int a1.Amount, int a1.Ref, lst 1 fI a1.Refs]]⟩)])) rfl rfl rfl (yl_call rfl rfl (.cons rfl (.cons rfl .nil)) cal94 ?_) ?_
  refine pcw (c := _) Tryz.func94 rfl rfl ?_; intro Q hret hnorm
  refine tc tbk 8 (.mk ?_)
  refine sY (yv_to (y := boo true) (yv_leq rfl rfl rfl) (congrArg boo (by decide))) ?_
  refine tr tbk 2 (.mk ?_)
  refine sY (yv_to (y := boo true) (yv_lss rfl rfl rfl) (congrArg boo (by decide))) ?_
  refine tr tbk 8 (.mk ?_)
  refine sY (yv_convInt (r := 69) rfl Tryz.underlying21 Tryz.underlying5 rfl (by decide)) ?_
  obtain ⟨x11, e11, h2⟩ := bind_e h2
  refine sC cal162 (d_strings_IndexByte_c e11) ?_
  refine tr tbk 2 (.mk ?_)
  obtain rfl := nxt_e h2
  refine w_ret (hret _ _ (hk [(1, ⟨37, 9, true, true, v2, [[int a1.Kind, int a1.E, int a1.Item, int a1.Loc, int a1.To, int a1.Qty, int a1.Amount, int a1.Ref, lst 1 fI a1.Refs]]⟩)]) (.tmp rfl .nil) (HK.le ⟨rfl, trivial⟩) ?_)
  exact ⟨x11, (), rfl, rfl, rfl⟩
  rintro y _ ⟨y1_1, _, rfl, hc, rfl⟩
  subst hc
  refine nb tbk h1 fun x12 h1 => ?_
  refine tr tbk 2 (.mk ?_)
  obtain rfl := nxt_e h1
  refine w_ret (hret _ _ (hk [(1, ⟨37, 9, true, true, v2, [[int a1.Kind, int a1.E, int a1.Item, int a1.Loc, int a1.To, int a1.Qty, int a1.Amount, int a1.Ref, lst 1 fI a1.Refs]]⟩)]) (.tmp rfl .nil) (HK.le ⟨rfl, trivial⟩) ?_)
  exact ⟨x12, (), rfl, rfl, rfl⟩
  rintro y _ ⟨y2_1, _, rfl, hc, rfl⟩
  subst hc
  refine tr tbk 1 (.mk ?_)
  refine jn h0 [1, 2, 3, 5, 21, 22, 23] [1] (fun (a : Int × Int) (k : Unit) => [(6, int a.1), (7, int a.2)]) (fun a k => []) ⟨fun j13 h1 => ?_, ?_⟩
  cases y2_1
  replace h1 := cf h1
  refine tc tbk 2 (.mk ?_)
  exact lf h1 () leA
  replace h1 := ct h1
  refine tc tbk 5 (.mk ?_)
  obtain ⟨x14, e14, h1⟩ := bind_e h1
  refine sC cal45 (d_ops_bounds_c e14) ?_
  refine tr tbk 6 (.mk ?_)
  exact lf h1 () leA
  rintro ⟨y3_1, y3_2⟩ _ h0
  replace h0 := p2_e h0
  refine tc tbk 3 (.mk ?_)
  obtain ⟨j15, h1, h0⟩ := bind_e h0
  refine rse (Out := fun y H' => (∃ (a : Unit) (k : Unit), a = j15 ∧ y = .pt 1 v2 0 1 ∧ H' = hk [(1, ⟨37, 9, true, true, v2, [[int a1.Kind, int a1.E, int a1.Item, int a1.Loc, int a1.To, int a1.Qty, int a1.Amount, int a1.Ref, lst 1 fI a1.Refs]]⟩)])) rfl rfl rfl (yl_call rfl rfl (.cons rfl (.cons rfl .nil)) cal46 ?_) ?_
  refine pcw (c := _) Tryz.func46 rfl rfl ?_; intro Q hret hnorm
  refine tc tbk 12 (.mk ?_)
  refine sY (yv_to (y := boo true) (yv_eql rfl rfl rfl) (congrArg boo (by decide))) ?_
  refine tr tbk 10 (.mk ?_)
  obtain rfl := nxt_e h1
  refine w_ret (hret _ _ (hk [(1, ⟨37, 9, true, true, v2, [[int a1.Kind, int a1.E, int a1.Item, int a1.Loc, int a1.To, int a1.Qty, int a1.Amount, int a1.Ref, lst 1 fI a1.Refs]]⟩)]) (.tmp rfl .nil) (HK.le ⟨rfl, trivial⟩) ?_)
  exact ⟨(), (), rfl, rfl, rfl⟩
  rintro y _ ⟨_, _, rfl, hc, rfl⟩
  subst hc
  refine tr tbk 5 (.mk ?_)
  refine jn h0 [1, 2, 3, 21, 22, 23] [1] (fun (a : Bool) (k : Unit) => [(46, boo a)]) (fun a k => []) ⟨fun j16 h1 => ?_, ?_⟩
  refine tc tbk 3 (.mk ?_)
  refine nb tbk h1 fun x17 h1 => ?_
  refine tr tbk 1 (.mk ?_)
  cases x17
  replace h1 := cf h1
  refine tr tbk 2 (.mk ?_)
  refine nb tbk h1 fun x18 h1 => ?_
  refine tr tbk 2 (.mk ?_)
  exact lf h1 () leA
  replace h1 := ct h1
  refine tr tbk 5 (.mk ?_)
  exact lf h1 () leA
  rintro y5_1 _ h0
  replace h0 := asrt_e h0
  obtain ⟨rfl, h0⟩ := h0
  refine tc tbk 23 (.mk ?_)
  obtain ⟨j19, h1, h0⟩ := bind_e h0
  refine rse (Out := fun y H' => (∃ (a : Bool) (k : Unit), a = j19 ∧ y = boo a ∧ H' = hk [(1, ⟨37, 9, true, true, v2, [[int a1.Kind, int a1.E, int a1.Item, int a1.Loc, int a1.To, int a1.Qty, int a1.Amount, int a1.Ref, lst 1 fI a1.Refs]]⟩)])) rfl rfl rfl (yl_call rfl rfl (.cons rfl (.cons rfl .nil)) cal44 ?_) ?_
  refine pcw (c := _) Tryz.func44 rfl rfl ?_; intro Q hret hnorm
  refine tc tbk 8 (.mk ?_)
  obtain ⟨j20, h2, h1⟩ := bind_e h1
  refine rse (Out := fun y H' => (∃ (a : Int) (k : Unit), a = j20 ∧ y = int a ∧ H' = hk [(1, ⟨37, 9, true, true, v2, [[int a1.Kind, int a1.E, int a1.Item, int a1.Loc, int a1.To, int a1.Qty, int a1.Amount, int a1.Ref, lst 1 fI a1.Refs]]⟩)])) rfl rfl rfl (yl_call rfl rfl (.cons rfl (.cons rfl .nil)) cal94 ?_) ?_
  refine pcw (c := _) Tryz.func94 rfl rfl ?_; intro Q hret hnorm
  refine tc tbk 8 (.mk ?_)
  refine sY (yv_to (y := boo true) (yv_leq rfl rfl rfl) (congrArg boo (by decide))) ?_
  refine tr tbk 2 (.mk ?_)
  refine sY (yv_to (y := boo true) (yv_lss rfl rfl rfl) (congrArg boo (by decide))) ?_
  refine tr tbk 8 (.mk ?_)
  refine sY (yv_convInt (r := 73) rfl Tryz.underlying21 Tryz.underlying5 rfl (by decide)) ?_
  obtain ⟨x21, e21, h2⟩ := bind_e h2
  refine sC cal162 (d_strings_IndexByte_c e21) ?_
  refine tr tbk 2 (.mk ?_)
  obtain rfl := nxt_e h2
  refine w_ret (hret _ _ (hk [(1, ⟨37, 9, true, true, v2, [[int a1.Kind, int a1.E, int a1.Item, int a1.Loc, int a1.To, int a1.Qty, int a1.Amount, int a1.Ref, lst 1 fI a1.Refs]]⟩)]) (.tmp rfl .nil) (HK.le ⟨rfl, trivial⟩) ?_)
  exact ⟨x21, (), rfl, rfl, rfl⟩
  rintro y _ ⟨y1_1, _, rfl, hc, rfl⟩
  subst hc
  refine nb tbk h1 fun x22 h1 => ?_
  refine tr tbk 2 (.mk ?_)
  obtain rfl := nxt_e h1
  refine w_ret (hret _ _ (hk [(1, ⟨37, 9, true, true, v2, [[int a1.Kind, int a1.E, int a1.Item, int a1.Loc, int a1.To, int a1.Qty, int a1.Amount, int a1.Ref, lst 1 fI a1.Refs]]⟩)]) (.tmp rfl .nil) (HK.le ⟨rfl, trivial⟩) ?_)
  exact ⟨x22, (), rfl, rfl, rfl⟩
  rintro y _ ⟨y2_1_1, _, rfl, hc, rfl⟩
  subst hc
  refine tr tbk 1 (.mk ?_)
  refine jn h0 [1, 2, 3, 5, 21, 22, 23] [1] (fun (a : Int × Int) (k : Unit) => [(6, int a.1), (7, int a.2)]) (fun a k => []) ⟨fun j23 h1 => ?_, ?_⟩
  cases y2_1_1
  replace h1 := cf h1
  refine tc tbk 2 (.mk ?_)
  exact lf h1 () leA
  replace h1 := ct h1
  refine tc tbk 5 (.mk ?_)
  obtain ⟨x24, e24, h1⟩ := bind_e h1
  refine sC cal45 (d_ops_bounds_c e24) ?_
  refine tr tbk 6 (.mk ?_)
  exact lf h1 () leA
  rintro ⟨y3_1_1, y3_2_1⟩ _ h0
  replace h0 := p2_e h0
  refine tc tbk 3 (.mk ?_)
  obtain ⟨j25, h1, h0⟩ := bind_e h0
  refine rse (Out := fun y H' => (∃ (a : Unit) (k : Unit), a = j25 ∧ y = .pt 1 v2 0 2 ∧ H' = hk [(1, ⟨37, 9, true, true, v2, [[int a1.Kind, int a1.E, int a1.Item, int a1.Loc, int a1.To, int a1.Qty, int a1.Amount, int a1.Ref, lst 1 fI a1.Refs]]⟩)])) rfl rfl rfl (yl_call rfl rfl (.cons rfl (.cons rfl .nil)) cal46 ?_) ?_
  refine pcw (c := _) Tryz.func46 rfl rfl ?_; intro Q hret hnorm
  refine tc tbk 12 (.mk ?_)
  refine sY (yv_to (y := boo false) (yv_eql rfl rfl rfl) (congrArg boo (by decide))) ?_
  refine tr tbk 5 (.mk ?_)
  refine sY (yv_to (y := boo true) (yv_eql rfl rfl rfl) (congrArg boo (by decide))) ?_
  refine tr tbk 10 (.mk ?_)
  obtain rfl := nxt_e h1
  refine w_ret (hret _ _ (hk [(1, ⟨37, 9, true, true, v2, [[int a1.Kind, int a1.E, int a1.Item, int a1.Loc, int a1.To, int a1.Qty, int a1.Amount, int a1.Ref, lst 1 fI a1.Refs]]⟩)]) (.tmp rfl .nil) (HK.le ⟨rfl, trivial⟩) ?_)
  exact ⟨(), (), rfl, rfl, rfl⟩
  rintro y _ ⟨_, _, rfl, hc, rfl⟩
  subst hc
  refine tr tbk 5 (.mk ?_)
  refine jn h0 [1, 2, 3, 21, 22, 23] [1] (fun (a : Bool) (k : Unit) => [(46, boo a)]) (fun a k => []) ⟨fun j26 h1 => ?_, ?_⟩
  refine tc tbk 3 (.mk ?_)
  refine nb tbk h1 fun x27 h1 => ?_
  refine tr tbk 1 (.mk ?_)
  cases x27
  replace h1 := cf h1
  refine tr tbk 2 (.mk ?_)
  refine nb tbk h1 fun x28 h1 => ?_
  refine tr tbk 2 (.mk ?_)
  exact lf h1 () leA
  replace h1 := ct h1
  refine tr tbk 5 (.mk ?_)
  exact lf h1 () leA
  rintro y5_1_1 _ h0
  replace h0 := asrt_e h0
  obtain ⟨rfl, h0⟩ := h0
  refine tc tbk 23 (.mk ?_)
  obtain ⟨j29, h1, h0⟩ := bind_e h0
  refine rse (Out := fun y H' => (∃ (a : Bool) (k : Unit), a = j29 ∧ y = boo a ∧ H' = hk [(1, ⟨37, 9, true, true, v2, [[int a1.Kind, int a1.E, int a1.Item, int a1.Loc, int a1.To, int a1.Qty, int a1.Amount, int a1.Ref, lst 1 fI a1.Refs]]⟩)])) rfl rfl rfl (yl_call rfl rfl (.cons rfl (.cons rfl .nil)) cal44 ?_) ?_
  refine pcw (c := _) Tryz.func44 rfl rfl ?_; intro Q hret hnorm
  refine tc tbk 8 (.mk ?_)
  obtain ⟨j30, h2, h1⟩ := bind_e h1
  refine rse (Out := fun y H' => (∃ (a : Int) (k : Unit), a = j30 ∧ y = int a ∧ H' = hk [(1, ⟨37, 9, true, true, v2, [[int a1.Kind, int a1.E, int a1.Item, int a1.Loc, int a1.To, int a1.Qty, int a1.Amount, int a1.Ref, lst 1 fI a1.Refs]]⟩)])) rfl rfl rfl (yl_call rfl rfl (.cons rfl (.cons rfl .nil)) cal94 ?_) ?_
  refine pcw (c := _) Tryz.func94 rfl rfl ?_; intro Q hret hnorm
  refine tc tbk 8 (.mk ?_)
  refine sY (yv_to (y := boo true) (yv_leq rfl rfl rfl) (congrArg boo (by decide))) ?_
  refine tr tbk 2 (.mk ?_)
  refine sY (yv_to (y := boo true) (yv_lss rfl rfl rfl) (congrArg boo (by decide))) ?_
  refine tr tbk 8 (.mk ?_)
  refine sY (yv_convInt (r := 76) rfl Tryz.underlying21 Tryz.underlying5 rfl (by decide)) ?_
  obtain ⟨x31, e31, h2⟩ := bind_e h2
  refine sC cal162 (d_strings_IndexByte_c e31) ?_
  refine tr tbk 2 (.mk ?_)
  obtain rfl := nxt_e h2
  refine w_ret (hret _ _ (hk [(1, ⟨37, 9, true, true, v2, [[int a1.Kind, int a1.E, int a1.Item, int a1.Loc, int a1.To, int a1.Qty, int a1.Amount, int a1.Ref, lst 1 fI a1.Refs]]⟩)]) (.tmp rfl .nil) (HK.le ⟨rfl, trivial⟩) ?_)
  exact ⟨x31, (), rfl, rfl, rfl⟩
  rintro y _ ⟨y1_1, _, rfl, hc, rfl⟩
  subst hc
  refine nb tbk h1 fun x32 h1 => ?_
  refine tr tbk 2 (.mk ?_)
  obtain rfl := nxt_e h1
  refine w_ret (hret _ _ (hk [(1, ⟨37, 9, true, true, v2, [[int a1.Kind, int a1.E, int a1.Item, int a1.Loc, int a1.To, int a1.Qty, int a1.Amount, int a1.Ref, lst 1 fI a1.Refs]]⟩)]) (.tmp rfl .nil) (HK.le ⟨rfl, trivial⟩) ?_)
  exact ⟨x32, (), rfl, rfl, rfl⟩
  rintro y _ ⟨y2_1_2, _, rfl, hc, rfl⟩
  subst hc
  refine tr tbk 1 (.mk ?_)
  refine jn h0 [1, 2, 3, 5, 21, 22, 23] [1] (fun (a : Int × Int) (k : Unit) => [(6, int a.1), (7, int a.2)]) (fun a k => []) ⟨fun j33 h1 => ?_, ?_⟩
  cases y2_1_2
  replace h1 := cf h1
  refine tc tbk 2 (.mk ?_)
  exact lf h1 () leA
  replace h1 := ct h1
  refine tc tbk 5 (.mk ?_)
  obtain ⟨x34, e34, h1⟩ := bind_e h1
  refine sC cal45 (d_ops_bounds_c e34) ?_
  refine tr tbk 6 (.mk ?_)
  exact lf h1 () leA
  rintro ⟨y3_1_2, y3_2_2⟩ _ h0
  replace h0 := p2_e h0
  refine tc tbk 3 (.mk ?_)
  obtain ⟨j35, h1, h0⟩ := bind_e h0
  refine rse (Out := fun y H' => (∃ (a : Unit) (k : Unit), a = j35 ∧ y = .pt 1 v2 0 3 ∧ H' = hk [(1, ⟨37, 9, true, true, v2, [[int a1.Kind, int a1.E, int a1.Item, int a1.Loc, int a1.To, int a1.Qty, int a1.Amount, int a1.Ref, lst 1 fI a1.Refs]]⟩)])) rfl rfl rfl (yl_call rfl rfl (.cons rfl (.cons rfl .nil)) cal46 ?_) ?_
  refine pcw (c := _) Tryz.func46 rfl rfl ?_; intro Q hret hnorm
  refine tc tbk 12 (.mk ?_)
  refine sY (yv_to (y := boo false) (yv_eql rfl rfl rfl) (congrArg boo (by decide))) ?_
  refine tr tbk 5 (.mk ?_)
  refine sY (yv_to (y := boo false) (yv_eql rfl rfl rfl) (congrArg boo (by decide))) ?_
  refine tr tbk 5 (.mk ?_)
  refine sY (yv_to (y := boo true) (yv_eql rfl rfl rfl) (congrArg boo (by decide))) ?_
  refine tr tbk 10 (.mk ?_)
  obtain rfl := nxt_e h1
  refine w_ret (hret _ _ (hk [(1, ⟨37, 9, true, true, v2, [[int a1.Kind, int a1.E, int a1.Item, int a1.Loc, int a1.To, int a1.Qty, int a1.Amount, int a1.Ref, lst 1 fI a1.Refs]]⟩)]) (.tmp rfl .nil) (HK.le ⟨rfl, trivial⟩) ?_)
  exact ⟨(), (), rfl, rfl, rfl⟩
  rintro y _ ⟨_, _, rfl, hc, rfl⟩
  subst hc
  refine tr tbk 5 (.mk ?_)
  refine jn h0 [1, 2, 3, 21, 22, 23] [1] (fun (a : Bool) (k : Unit) => [(46, boo a)]) (fun a k => []) ⟨fun j36 h1 => ?_, ?_⟩
  refine tc tbk 3 (.mk ?_)
  refine nb tbk h1 fun x37 h1 => ?_
  refine tr tbk 1 (.mk ?_)
  cases x37
  replace h1 := cf h1
  refine tr tbk 2 (.mk ?_)
  refine nb tbk h1 fun x38 h1 => ?_
  refine tr tbk 2 (.mk ?_)
  exact lf h1 () leA
  replace h1 := ct h1
  refine tr tbk 5 (.mk ?_)
  exact lf h1 () leA
  rintro y5_1_2 _ h0
  replace h0 := asrt_e h0
  obtain ⟨rfl, h0⟩ := h0
  refine tc tbk 23 (.mk ?_)
  obtain ⟨j39, h1, h0⟩ := bind_e h0
  refine rse (Out := fun y H' => (∃ (a : Bool) (k : Unit), a = j39 ∧ y = boo a ∧ H' = hk [(1, ⟨37, 9, true, true, v2, [[int a1.Kind, int a1.E, int a1.Item, int a1.Loc, int a1.To, int a1.Qty, int a1.Amount, int a1.Ref, lst 1 fI a1.Refs]]⟩)])) rfl rfl rfl (yl_call rfl rfl (.cons rfl (.cons rfl .nil)) cal44 ?_) ?_
  refine pcw (c := _) Tryz.func44 rfl rfl ?_; intro Q hret hnorm
  refine tc tbk 8 (.mk ?_)
  obtain ⟨j40, h2, h1⟩ := bind_e h1
  refine rse (Out := fun y H' => (∃ (a : Int) (k : Unit), a = j40 ∧ y = int a ∧ H' = hk [(1, ⟨37, 9, true, true, v2, [[int a1.Kind, int a1.E, int a1.Item, int a1.Loc, int a1.To, int a1.Qty, int a1.Amount, int a1.Ref, lst 1 fI a1.Refs]]⟩)])) rfl rfl rfl (yl_call rfl rfl (.cons rfl (.cons rfl .nil)) cal94 ?_) ?_
  refine pcw (c := _) Tryz.func94 rfl rfl ?_; intro Q hret hnorm
  refine tc tbk 8 (.mk ?_)
  refine sY (yv_to (y := boo true) (yv_leq rfl rfl rfl) (congrArg boo (by decide))) ?_
  refine tr tbk 2 (.mk ?_)
  refine sY (yv_to (y := boo true) (yv_lss rfl rfl rfl) (congrArg boo (by decide))) ?_
  refine tr tbk 8 (.mk ?_)
  refine sY (yv_convInt (r := 84) rfl Tryz.underlying21 Tryz.underlying5 rfl (by decide)) ?_
  obtain ⟨x41, e41, h2⟩ := bind_e h2
  refine sC cal162 (d_strings_IndexByte_c e41) ?_
  refine tr tbk 2 (.mk ?_)
  obtain rfl := nxt_e h2
  refine w_ret (hret _ _ (hk [(1, ⟨37, 9, true, true, v2, [[int a1.Kind, int a1.E, int a1.Item, int a1.Loc, int a1.To, int a1.Qty, int a1.Amount, int a1.Ref, lst 1 fI a1.Refs]]⟩)]) (.tmp rfl .nil) (HK.le ⟨rfl, trivial⟩) ?_)
  exact ⟨x41, (), rfl, rfl, rfl⟩
  rintro y _ ⟨y1_1, _, rfl, hc, rfl⟩
  subst hc
  refine nb tbk h1 fun x42 h1 => ?_
  refine tr tbk 2 (.mk ?_)
  obtain rfl := nxt_e h1
  refine w_ret (hret _ _ (hk [(1, ⟨37, 9, true, true, v2, [[int a1.Kind, int a1.E, int a1.Item, int a1.Loc, int a1.To, int a1.Qty, int a1.Amount, int a1.Ref, lst 1 fI a1.Refs]]⟩)]) (.tmp rfl .nil) (HK.le ⟨rfl, trivial⟩) ?_)
  exact ⟨x42, (), rfl, rfl, rfl⟩
  rintro y _ ⟨y2_1_3, _, rfl, hc, rfl⟩
  subst hc
  refine tr tbk 1 (.mk ?_)
  refine jn h0 [1, 2, 3, 5, 21, 22, 23] [1] (fun (a : Int × Int) (k : Unit) => [(6, int a.1), (7, int a.2)]) (fun a k => []) ⟨fun j43 h1 => ?_, ?_⟩
  cases y2_1_3
  replace h1 := cf h1
  refine tc tbk 2 (.mk ?_)
  exact lf h1 () leA
  replace h1 := ct h1
  refine tc tbk 5 (.mk ?_)
  obtain ⟨x44, e44, h1⟩ := bind_e h1
  refine sC cal45 (d_ops_bounds_c e44) ?_
  refine tr tbk 6 (.mk ?_)
  exact lf h1 () leA
  rintro ⟨y3_1_3, y3_2_3⟩ _ h0
  replace h0 := p2_e h0
  refine tc tbk 3 (.mk ?_)
  obtain ⟨j45, h1, h0⟩ := bind_e h0
  refine rse (Out := fun y H' => (∃ (a : Unit) (k : Unit), a = j45 ∧ y = .pt 1 v2 0 4 ∧ H' = hk [(1, ⟨37, 9, true, true, v2, [[int a1.Kind, int a1.E, int a1.Item, int a1.Loc, int a1.To, int a1.Qty, int a1.Amount, int a1.Ref, lst 1 fI a1.Refs]]⟩)])) rfl rfl rfl (yl_call rfl rfl (.cons rfl (.cons rfl .nil)) cal46 ?_) ?_
  refine pcw (c := _) Tryz.func46 rfl rfl ?_; intro Q hret hnorm
  refine tc tbk 12 (.mk ?_)
  refine sY (yv_to (y := boo false) (yv_eql rfl rfl rfl) (congrArg boo (by decide))) ?_
  refine tr tbk 5 (.mk ?_)
  refine sY (yv_to (y := boo false) (yv_eql rfl rfl rfl) (congrArg boo (by decide))) ?_
  refine tr tbk 5 (.mk ?_)
  refine sY (yv_to (y := boo false) (yv_eql rfl rfl rfl) (congrArg boo (by decide))) ?_
  refine tr tbk 5 (.mk ?_)
  refine sY (yv_to (y := boo true) (yv_eql rfl rfl rfl) (congrArg boo (by decide))) ?_
  refine tr tbk 10 (.mk ?_)
  obtain rfl := nxt_e h1
  refine w_ret (hret _ _ (hk [(1, ⟨37, 9, true, true, v2, [[int a1.Kind, int a1.E, int a1.Item, int a1.Loc, int a1.To, int a1.Qty, int a1.Amount, int a1.Ref, lst 1 fI a1.Refs]]⟩)]) (.tmp rfl .nil) (HK.le ⟨rfl, trivial⟩) ?_)
  exact ⟨(), (), rfl, rfl, rfl⟩
  rintro y _ ⟨_, _, rfl, hc, rfl⟩
  subst hc
  refine tr tbk 5 (.mk ?_)
  refine jn h0 [1, 2, 3, 21, 22, 23] [1] (fun (a : Bool) (k : Unit) => [(46, boo a)]) (fun a k => []) ⟨fun j46 h1 => ?_, ?_⟩
  refine tc tbk 3 (.mk ?_)
  refine nb tbk h1 fun x47 h1 => ?_
  refine tr tbk 1 (.mk ?_)
  cases x47
  replace h1 := cf h1
  refine tr tbk 2 (.mk ?_)
  refine nb tbk h1 fun x48 h1 => ?_
  refine tr tbk 2 (.mk ?_)
  exact lf h1 () leA
  replace h1 := ct h1
  refine tr tbk 5 (.mk ?_)
  exact lf h1 () leA
  rintro y5_1_3 _ h0
  replace h0 := asrt_e h0
  obtain ⟨rfl, h0⟩ := h0
  refine tc tbk 23 (.mk ?_)
  obtain ⟨j49, h1, h0⟩ := bind_e h0
  refine rse (Out := fun y H' => (∃ (a : Bool) (k : Unit), a = j49 ∧ y = boo a ∧ H' = hk [(1, ⟨37, 9, true, true, v2, [[int a1.Kind, int a1.E, int a1.Item, int a1.Loc, int a1.To, int a1.Qty, int a1.Amount, int a1.Ref, lst 1 fI a1.Refs]]⟩)])) rfl rfl rfl (yl_call rfl rfl (.cons rfl (.cons rfl .nil)) cal44 ?_) ?_
  refine pcw (c := _) Tryz.func44 rfl rfl ?_; intro Q hret hnorm
  refine tc tbk 8 (.mk ?_)
  obtain ⟨j50, h2, h1⟩ := bind_e h1
  refine rse (Out := fun y H' => (∃ (a : Int) (k : Unit), a = j50 ∧ y = int a ∧ H' = hk [(1, ⟨37, 9, true, true, v2, [[int a1.Kind, int a1.E, int a1.Item, int a1.Loc, int a1.To, int a1.Qty, int a1.Amount, int a1.Ref, lst 1 fI a1.Refs]]⟩)])) rfl rfl rfl (yl_call rfl rfl (.cons rfl (.cons rfl .nil)) cal94 ?_) ?_
  refine pcw (c := _) Tryz.func94 rfl rfl ?_; intro Q hret hnorm
  refine tc tbk 8 (.mk ?_)
  refine sY (yv_to (y := boo true) (yv_leq rfl rfl rfl) (congrArg boo (by decide))) ?_
  refine tr tbk 2 (.mk ?_)
  refine sY (yv_to (y := boo true) (yv_lss rfl rfl rfl) (congrArg boo (by decide))) ?_
  refine tr tbk 8 (.mk ?_)
  refine sY (yv_convInt (r := 81) rfl Tryz.underlying21 Tryz.underlying5 rfl (by decide)) ?_
  obtain ⟨x51, e51, h2⟩ := bind_e h2
  refine sC cal162 (d_strings_IndexByte_c e51) ?_
  refine tr tbk 2 (.mk ?_)
  obtain rfl := nxt_e h2
  refine w_ret (hret _ _ (hk [(1, ⟨37, 9, true, true, v2, [[int a1.Kind, int a1.E, int a1.Item, int a1.Loc, int a1.To, int a1.Qty, int a1.Amount, int a1.Ref, lst 1 fI a1.Refs]]⟩)]) (.tmp rfl .nil) (HK.le ⟨rfl, trivial⟩) ?_)
  exact ⟨x51, (), rfl, rfl, rfl⟩
  rintro y _ ⟨y1_1, _, rfl, hc, rfl⟩
  subst hc
  refine nb tbk h1 fun x52 h1 => ?_
  refine tr tbk 2 (.mk ?_)
  obtain rfl := nxt_e h1
  refine w_ret (hret _ _ (hk [(1, ⟨37, 9, true, true, v2, [[int a1.Kind, int a1.E, int a1.Item, int a1.Loc, int a1.To, int a1.Qty, int a1.Amount, int a1.Ref, lst 1 fI a1.Refs]]⟩)]) (.tmp rfl .nil) (HK.le ⟨rfl, trivial⟩) ?_)
  exact ⟨x52, (), rfl, rfl, rfl⟩
  rintro y _ ⟨y2_1_4, _, rfl, hc, rfl⟩
  subst hc
  refine tr tbk 1 (.mk ?_)
  refine jn h0 [1, 2, 3, 5, 21, 22, 23] [1] (fun (a : Int × Int) (k : Unit) => [(6, int a.1), (7, int a.2)]) (fun a k => []) ⟨fun j53 h1 => ?_, ?_⟩
  cases y2_1_4
  replace h1 := cf h1
  refine tc tbk 2 (.mk ?_)
  exact lf h1 () leA
  replace h1 := ct h1
  refine tc tbk 5 (.mk ?_)
  obtain ⟨x54, e54, h1⟩ := bind_e h1
  refine sC cal45 (d_ops_bounds_c e54) ?_
  refine tr tbk 6 (.mk ?_)
  exact lf h1 () leA
  rintro ⟨y3_1_4, y3_2_4⟩ _ h0
  replace h0 := p2_e h0
  refine tc tbk 3 (.mk ?_)
  obtain ⟨j55, h1, h0⟩ := bind_e h0
  refine rse (Out := fun y H' => (∃ (a : Unit) (k : Unit), a = j55 ∧ y = .pt 1 v2 0 5 ∧ H' = hk [(1, ⟨37, 9, true, true, v2, [[int a1.Kind, int a1.E, int a1.Item, int a1.Loc, int a1.To, int a1.Qty, int a1.Amount, int a1.Ref, lst 1 fI a1.Refs]]⟩)])) rfl rfl rfl (yl_call rfl rfl (.cons rfl (.cons rfl .nil)) cal46 ?_) ?_
  refine pcw (c := _) Tryz.func46 rfl rfl ?_; intro Q hret hnorm
  refine tc tbk 12 (.mk ?_)
  refine sY (yv_to (y := boo false) (yv_eql rfl rfl rfl) (congrArg boo (by decide))) ?_
  refine tr tbk 5 (.mk ?_)
  refine sY (yv_to (y := boo false) (yv_eql rfl rfl rfl) (congrArg boo (by decide))) ?_
  refine tr tbk 5 (.mk ?_)
  refine sY (yv_to (y := boo false) (yv_eql rfl rfl rfl) (congrArg boo (by decide))) ?_
  refine tr tbk 5 (.mk ?_)
  refine sY (yv_to (y := boo false) (yv_eql rfl rfl rfl) (congrArg boo (by decide))) ?_
  refine tr tbk 5 (.mk ?_)
  refine sY (yv_to (y := boo true) (yv_eql rfl rfl rfl) (congrArg boo (by decide))) ?_
  refine tr tbk 10 (.mk ?_)
  obtain rfl := nxt_e h1
  refine w_ret (hret _ _ (hk [(1, ⟨37, 9, true, true, v2, [[int a1.Kind, int a1.E, int a1.Item, int a1.Loc, int a1.To, int a1.Qty, int a1.Amount, int a1.Ref, lst 1 fI a1.Refs]]⟩)]) (.tmp rfl .nil) (HK.le ⟨rfl, trivial⟩) ?_)
  exact ⟨(), (), rfl, rfl, rfl⟩
  rintro y _ ⟨_, _, rfl, hc, rfl⟩
  subst hc
  refine tr tbk 5 (.mk ?_)
  refine jn h0 [1, 2, 3, 21, 22, 23] [1] (fun (a : Bool) (k : Unit) => [(46, boo a)]) (fun a k => []) ⟨fun j56 h1 => ?_, ?_⟩
  refine tc tbk 3 (.mk ?_)
  refine nb tbk h1 fun x57 h1 => ?_
  refine tr tbk 1 (.mk ?_)
  cases x57
  replace h1 := cf h1
  refine tr tbk 2 (.mk ?_)
  refine nb tbk h1 fun x58 h1 => ?_
  refine tr tbk 2 (.mk ?_)
  exact lf h1 () leA
  replace h1 := ct h1
  refine tr tbk 5 (.mk ?_)
  exact lf h1 () leA
  rintro y5_1_4 _ h0
  replace h0 := asrt_e h0
  obtain ⟨rfl, h0⟩ := h0
  refine tc tbk 23 (.mk ?_)
  obtain ⟨j59, h1, h0⟩ := bind_e h0
  refine rse (Out := fun y H' => (∃ (a : Bool) (k : Unit), a = j59 ∧ y = boo a ∧ H' = hk [(1, ⟨37, 9, true, true, v2, [[int a1.Kind, int a1.E, int a1.Item, int a1.Loc, int a1.To, int a1.Qty, int a1.Amount, int a1.Ref, lst 1 fI a1.Refs]]⟩)])) rfl rfl rfl (yl_call rfl rfl (.cons rfl (.cons rfl .nil)) cal44 ?_) ?_
  refine pcw (c := _) Tryz.func44 rfl rfl ?_; intro Q hret hnorm
  refine tc tbk 8 (.mk ?_)
  obtain ⟨j60, h2, h1⟩ := bind_e h1
  refine rse (Out := fun y H' => (∃ (a : Int) (k : Unit), a = j60 ∧ y = int a ∧ H' = hk [(1, ⟨37, 9, true, true, v2, [[int a1.Kind, int a1.E, int a1.Item, int a1.Loc, int a1.To, int a1.Qty, int a1.Amount, int a1.Ref, lst 1 fI a1.Refs]]⟩)])) rfl rfl rfl (yl_call rfl rfl (.cons rfl (.cons rfl .nil)) cal94 ?_) ?_
  refine pcw (c := _) Tryz.func94 rfl rfl ?_; intro Q hret hnorm
  refine tc tbk 8 (.mk ?_)
  refine sY (yv_to (y := boo true) (yv_leq rfl rfl rfl) (congrArg boo (by decide))) ?_
  refine tr tbk 2 (.mk ?_)
  refine sY (yv_to (y := boo true) (yv_lss rfl rfl rfl) (congrArg boo (by decide))) ?_
  refine tr tbk 8 (.mk ?_)
  refine sY (yv_convInt (r := 65) rfl Tryz.underlying21 Tryz.underlying5 rfl (by decide)) ?_
  obtain ⟨x61, e61, h2⟩ := bind_e h2
  refine sC cal162 (d_strings_IndexByte_c e61) ?_
  refine tr tbk 2 (.mk ?_)
  obtain rfl := nxt_e h2
  refine w_ret (hret _ _ (hk [(1, ⟨37, 9, true, true, v2, [[int a1.Kind, int a1.E, int a1.Item, int a1.Loc, int a1.To, int a1.Qty, int a1.Amount, int a1.Ref, lst 1 fI a1.Refs]]⟩)]) (.tmp rfl .nil) (HK.le ⟨rfl, trivial⟩) ?_)
  exact ⟨x61, (), rfl, rfl, rfl⟩
  rintro y _ ⟨y1_1, _, rfl, hc, rfl⟩
  subst hc
  refine nb tbk h1 fun x62 h1 => ?_
  refine tr tbk 2 (.mk ?_)
  obtain rfl := nxt_e h1
  refine w_ret (hret _ _ (hk [(1, ⟨37, 9, true, true, v2, [[int a1.Kind, int a1.E, int a1.Item, int a1.Loc, int a1.To, int a1.Qty, int a1.Amount, int a1.Ref, lst 1 fI a1.Refs]]⟩)]) (.tmp rfl .nil) (HK.le ⟨rfl, trivial⟩) ?_)
  exact ⟨x62, (), rfl, rfl, rfl⟩
  rintro y _ ⟨y2_1_5, _, rfl, hc, rfl⟩
  subst hc
  refine tr tbk 1 (.mk ?_)
  refine jn h0 [1, 2, 3, 5, 21, 22, 23] [1] (fun (a : Int × Int) (k : Unit) => [(6, int a.1), (7, int a.2)]) (fun a k => []) ⟨fun j63 h1 => ?_, ?_⟩
  cases y2_1_5
  replace h1 := cf h1
  refine tc tbk 2 (.mk ?_)
  exact lf h1 () leA
  replace h1 := ct h1
  refine tc tbk 5 (.mk ?_)
  obtain ⟨x64, e64, h1⟩ := bind_e h1
  refine sC cal45 (d_ops_bounds_c e64) ?_
  refine tr tbk 6 (.mk ?_)
  exact lf h1 () leA
  rintro ⟨y3_1_5, y3_2_5⟩ _ h0
  replace h0 := p2_e h0
  refine tc tbk 3 (.mk ?_)
  obtain ⟨j65, h1, h0⟩ := bind_e h0
  refine rse (Out := fun y H' => (∃ (a : Unit) (k : Unit), a = j65 ∧ y = .pt 1 v2 0 6 ∧ H' = hk [(1, ⟨37, 9, true, true, v2, [[int a1.Kind, int a1.E, int a1.Item, int a1.Loc, int a1.To, int a1.Qty, int a1.Amount, int a1.Ref, lst 1 fI a1.Refs]]⟩)])) rfl rfl rfl (yl_call rfl rfl (.cons rfl (.cons rfl .nil)) cal46 ?_) ?_
  refine pcw (c := _) Tryz.func46 rfl rfl ?_; intro Q hret hnorm
  refine tc tbk 12 (.mk ?_)
  refine sY (yv_to (y := boo false) (yv_eql rfl rfl rfl) (congrArg boo (by decide))) ?_
  refine tr tbk 5 (.mk ?_)
  refine sY (yv_to (y := boo false) (yv_eql rfl rfl rfl) (congrArg boo (by decide))) ?_
  refine tr tbk 5 (.mk ?_)
  refine sY (yv_to (y := boo false) (yv_eql rfl rfl rfl) (congrArg boo (by decide))) ?_
  refine tr tbk 5 (.mk ?_)
  refine sY (yv_to (y := boo false) (yv_eql rfl rfl rfl) (congrArg boo (by decide))) ?_
  refine tr tbk 5 (.mk ?_)
  refine sY (yv_to (y := boo false) (yv_eql rfl rfl rfl) (congrArg boo (by decide))) ?_
  refine tr tbk 5 (.mk ?_)
  refine sY (yv_to (y := boo true) (yv_eql rfl rfl rfl) (congrArg boo (by decide))) ?_
  refine tr tbk 10 (.mk ?_)
  obtain rfl := nxt_e h1
  refine w_ret (hret _ _ (hk [(1, ⟨37, 9, true, true, v2, [[int a1.Kind, int a1.E, int a1.Item, int a1.Loc, int a1.To, int a1.Qty, int a1.Amount, int a1.Ref, lst 1 fI a1.Refs]]⟩)]) (.tmp rfl .nil) (HK.le ⟨rfl, trivial⟩) ?_)
  exact ⟨(), (), rfl, rfl, rfl⟩
  rintro y _ ⟨_, _, rfl, hc, rfl⟩
  subst hc
  refine tr tbk 5 (.mk ?_)
  refine jn h0 [1, 2, 3, 21, 22, 23] [1] (fun (a : Bool) (k : Unit) => [(46, boo a)]) (fun a k => []) ⟨fun j66 h1 => ?_, ?_⟩
  refine tc tbk 3 (.mk ?_)
  refine nb tbk h1 fun x67 h1 => ?_
  refine tr tbk 1 (.mk ?_)
  cases x67
  replace h1 := cf h1
  refine tr tbk 2 (.mk ?_)
  refine nb tbk h1 fun x68 h1 => ?_
  refine tr tbk 2 (.mk ?_)
  exact lf h1 () leA
  replace h1 := ct h1
  refine tr tbk 5 (.mk ?_)
  exact lf h1 () leA
  rintro y5_1_5 _ h0
  replace h0 := asrt_e h0
  obtain ⟨rfl, h0⟩ := h0
  refine tc tbk 23 (.mk ?_)
  obtain ⟨j69, h1, h0⟩ := bind_e h0
  refine rse (Out := fun y H' => (∃ (a : Bool) (k : Unit), a = j69 ∧ y = boo a ∧ H' = hk [(1, ⟨37, 9, true, true, v2, [[int a1.Kind, int a1.E, int a1.Item, int a1.Loc, int a1.To, int a1.Qty, int a1.Amount, int a1.Ref, lst 1 fI a1.Refs]]⟩)])) rfl rfl rfl (yl_call rfl rfl (.cons rfl (.cons rfl .nil)) cal44 ?_) ?_
  refine pcw (c := _) Tryz.func44 rfl rfl ?_; intro Q hret hnorm
  refine tc tbk 8 (.mk ?_)
  obtain ⟨j70, h2, h1⟩ := bind_e h1
  refine rse (Out := fun y H' => (∃ (a : Int) (k : Unit), a = j70 ∧ y = int a ∧ H' = hk [(1, ⟨37, 9, true, true, v2, [[int a1.Kind, int a1.E, int a1.Item, int a1.Loc, int a1.To, int a1.Qty, int a1.Amount, int a1.Ref, lst 1 fI a1.Refs]]⟩)])) rfl rfl rfl (yl_call rfl rfl (.cons rfl (.cons rfl .nil)) cal94 ?_) ?_
  refine pcw (c := _) Tryz.func94 rfl rfl ?_; intro Q hret hnorm
  refine tc tbk 8 (.mk ?_)
  refine sY (yv_to (y := boo true) (yv_leq rfl rfl rfl) (congrArg boo (by decide))) ?_
  refine tr tbk 2 (.mk ?_)
  refine sY (yv_to (y := boo true) (yv_lss rfl rfl rfl) (congrArg boo (by decide))) ?_
  refine tr tbk 8 (.mk ?_)
  refine sY (yv_convInt (r := 82) rfl Tryz.underlying21 Tryz.underlying5 rfl (by decide)) ?_
  obtain ⟨x71, e71, h2⟩ := bind_e h2
  refine sC cal162 (d_strings_IndexByte_c e71) ?_
  refine tr tbk 2 (.mk ?_)
  obtain rfl := nxt_e h2
  refine w_ret (hret _ _ (hk [(1, ⟨37, 9, true, true, v2, [[int a1.Kind, int a1.E, int a1.Item, int a1.Loc, int a1.To, int a1.Qty, int a1.Amount, int a1.Ref, lst 1 fI a1.Refs]]⟩)]) (.tmp rfl .nil) (HK.le ⟨rfl, trivial⟩) ?_)
  exact ⟨x71, (), rfl, rfl, rfl⟩
  rintro y _ ⟨y1_1, _, rfl, hc, rfl⟩
  subst hc
  refine nb tbk h1 fun x72 h1 => ?_
  refine tr tbk 2 (.mk ?_)
  obtain rfl := nxt_e h1
  refine w_ret (hret _ _ (hk [(1, ⟨37, 9, true, true, v2, [[int a1.Kind, int a1.E, int a1.Item, int a1.Loc, int a1.To, int a1.Qty, int a1.Amount, int a1.Ref, lst 1 fI a1.Refs]]⟩)]) (.tmp rfl .nil) (HK.le ⟨rfl, trivial⟩) ?_)
  exact ⟨x72, (), rfl, rfl, rfl⟩
  rintro y _ ⟨y2_1_6, _, rfl, hc, rfl⟩
  subst hc
  refine tr tbk 1 (.mk ?_)
  refine jn h0 [1, 2, 3, 5, 21, 22, 23] [1] (fun (a : Int × Int) (k : Unit) => [(6, int a.1), (7, int a.2)]) (fun a k => []) ⟨fun j73 h1 => ?_, ?_⟩
  cases y2_1_6
  replace h1 := cf h1
  refine tc tbk 2 (.mk ?_)
  exact lf h1 () leA
  replace h1 := ct h1
  refine tc tbk 5 (.mk ?_)
  obtain ⟨x74, e74, h1⟩ := bind_e h1
  refine sC cal45 (d_ops_bounds_c e74) ?_
  refine tr tbk 6 (.mk ?_)
  exact lf h1 () leA
  rintro ⟨y3_1_6, y3_2_6⟩ _ h0
  replace h0 := p2_e h0
  refine tc tbk 3 (.mk ?_)
  obtain ⟨j75, h1, h0⟩ := bind_e h0
  refine rse (Out := fun y H' => (∃ (a : Unit) (k : Unit), a = j75 ∧ y = .pt 1 v2 0 7 ∧ H' = hk [(1, ⟨37, 9, true, true, v2, [[int a1.Kind, int a1.E, int a1.Item, int a1.Loc, int a1.To, int a1.Qty, int a1.Amount, int a1.Ref, lst 1 fI a1.Refs]]⟩)])) rfl rfl rfl (yl_call rfl rfl (.cons rfl (.cons rfl .nil)) cal46 ?_) ?_
  refine pcw (c := _) Tryz.func46 rfl rfl ?_; intro Q hret hnorm
  refine tc tbk 12 (.mk ?_)
  refine sY (yv_to (y := boo false) (yv_eql rfl rfl rfl) (congrArg boo (by decide))) ?_
  refine tr tbk 5 (.mk ?_)
  refine sY (yv_to (y := boo false) (yv_eql rfl rfl rfl) (congrArg boo (by decide))) ?_
  refine tr tbk 5 (.mk ?_)
  refine sY (yv_to (y := boo false) (yv_eql rfl rfl rfl) (congrArg boo (by decide))) ?_
  refine tr tbk 5 (.mk ?_)
  refine sY (yv_to (y := boo false) (yv_eql rfl rfl rfl) (congrArg boo (by decide))) ?_
  refine tr tbk 5 (.mk ?_)
  refine sY (yv_to (y := boo false) (yv_eql rfl rfl rfl) (congrArg boo (by decide))) ?_
  refine tr tbk 5 (.mk ?_)
  refine sY (yv_to (y := boo false) (yv_eql rfl rfl rfl) (congrArg boo (by decide))) ?_
  refine tr tbk 12 (.mk ?_)
  obtain rfl := nxt_e h1
  refine w_ret (hret _ _ (hk [(1, ⟨37, 9, true, true, v2, [[int a1.Kind, int a1.E, int a1.Item, int a1.Loc, int a1.To, int a1.Qty, int a1.Amount, int a1.Ref, lst 1 fI a1.Refs]]⟩)]) (.tmp rfl .nil) (HK.le ⟨rfl, trivial⟩) ?_)
  exact ⟨(), (), rfl, rfl, rfl⟩
  rintro y _ ⟨_, _, rfl, hc, rfl⟩
  subst hc
  refine tr tbk 5 (.mk ?_)
  refine jn h0 [1, 2, 3, 21, 22, 23] [1] (fun (a : Bool) (k : Unit) => [(46, boo a)]) (fun a k => []) ⟨fun j76 h1 => ?_, ?_⟩
  refine tc tbk 3 (.mk ?_)
  refine nb tbk h1 fun x77 h1 => ?_
  refine tr tbk 1 (.mk ?_)
  cases x77
  replace h1 := cf h1
  refine tr tbk 2 (.mk ?_)
  refine nb tbk h1 fun x78 h1 => ?_
  refine tr tbk 2 (.mk ?_)
  exact lf h1 () leA
  replace h1 := ct h1
  refine tr tbk 5 (.mk ?_)
  exact lf h1 () leA
  rintro y5_1_6 _ h0
  replace h0 := asrt_e h0
  obtain ⟨rfl, h0⟩ := h0
  refine tc tbk 12 (.mk ?_)
  refine nb tbk h0 fun x79 h0 => ?_
  refine tr tbk 1 (.mk ?_)
  replace h0 := asrt_e h0
  obtain ⟨rfl, h0⟩ := h0
  refine tc tbk 3 (.mk ?_)
  refine jn h0 [] [] (fun (a : Bool) (k : Unit) => [(2, boo a)]) (fun a k => []) ⟨fun j80 h1 => ?_, ?_⟩
  refine tc tbk 3 (.mk ?_)
  refine sY (yv_len_sl rfl Tryz.underlying22 rfl (lst_len _)) ?_
  refine nb tbk h1 fun x81 h1 => ?_
  refine tr tbk 1 (.mk ?_)
  cases x81
  replace h1 := cf h1
  refine tr tbk 27 (.mk ?_)
  exact lf h1 () leA
  replace h1 := ct h1
  refine tr tbk 2 (.mk ?_)
  refine nb tbk h1 fun x82 h1 => ?_
  refine tr tbk 1 (.mk ?_)
  cases x82
  replace h1 := cf h1
  refine tr tbk 11 (.mk ?_)
  refine nb tbk h1 fun x83 h1 => ?_
  refine tr tbk 1 (.mk ?_)
  cases x83
  replace h1 := cf h1
  refine tr tbk 10 (.mk ?_)
  exact lf h1 () leA
  replace h1 := ct h1
  refine tr tbk 4 (.mk ?_)
  refine nb tbk h1 fun x84 h1 => ?_
  refine tr tbk 1 (.mk ?_)
  refine nb tbk h1 fun x85 h1 => ?_
  refine tr tbk 3 (.mk ?_)
  exact lf h1 () leA
  replace h1 := ct h1
  refine tr tbk 4 (.mk ?_)
  refine nb tbk h1 fun x86 h1 => ?_
  refine tr tbk 1 (.mk ?_)
  refine nb tbk h1 fun x87 h1 => ?_
  refine tr tbk 2 (.mk ?_)
  cases x87
  replace h1 := cf h1
  refine tr tbk 14 (.mk ?_)
  exact lf h1 () leA
  replace h1 := ct h1
  refine tr tbk 2 (.mk ?_)
  refine nb tbk h1 fun x88 h1 => ?_
  refine tr tbk 1 (.mk ?_)
  cases x88
  replace h1 := cf h1
  refine tr tbk 10 (.mk ?_)
  exact lf h1 () leA
  replace h1 := ct h1
  refine tr tbk 4 (.mk ?_)
  refine nb tbk h1 fun x89 h1 => ?_
  refine tr tbk 1 (.mk ?_)
  refine nb tbk h1 fun x90 h1 => ?_
  refine tr tbk 3 (.mk ?_)
  exact lf h1 () leA
  rintro y6_1 _ h0
  obtain rfl := nxt_e h0
  refine wR hret (rT .nil) ?_
  exact .refl _
def d_stock_is (a1 : GState) (a2 : Int) (a3 : Int) : Option (Bool) :=
(show Option (Bool) from
bnd (decide (a2 < 0)) fun x6 =>
cond x6 (some (true : Bool)) (bnd (decide (a2 ≥ (a1.Ents.length : Int))) fun x7 =>
cond x7 (some (true : Bool)) (bnd (decide (a3 < 0)) fun x8 =>
cond x8 (some (true : Bool)) (bnd (decide (a3 ≥ (a1.Master.Weights.length : Int))) fun x9 =>
some (x9 : Bool))))).bind <| fun y0_1 =>
asrt (y0_1 = false) <|
(ix a1.Ents a2).bind fun x10 =>
(show Option (Bool) from
bnd (w64 ((a1.Master.Weights.length : Int) * 2)) fun x13 =>
bnd (decide ((x10.Pools.length : Int) ≥ x13)) fun x14 =>
cond x14 (bnd (decide ((x10.Rolls.length : Int) ≥ (a1.Master.Weights.length : Int))) fun x15 =>
cond x15 (bnd (decide (a2 < (a1.Master.Methods.length : Int))) fun x16 =>
cond x16 (bnd (decide (a2 < (a1.Master.Costs.length : Int))) fun x17 =>
cond x17 ((ix a1.Master.Methods a2).bind fun x18 =>
bnd (decide ((x18.length : Int) ≥ (a1.Master.Weights.length : Int))) fun x19 =>
cond x19 ((ix a1.Master.Costs a2).bind fun x20 =>
bnd (decide ((x20.length : Int) ≥ (a1.Master.Weights.length : Int))) fun x21 =>
some (x21 : Bool)) (some (false : Bool))) (some (false : Bool))) (some (false : Bool))) (some (false : Bool))) (some (false : Bool))).bind <| fun y1_1 =>
some ((y1_1 : Bool))
theorem d_stock_is_c {a1 : GState} {a2 : Int} {a3 : Int} {r : Bool} (h0 : d_stock_is a1 a2 a3 = some r) : PP Tryz.prog 124 [.agg (GState.av a1), int a2, int a3] (fun y => y = boo r) := by
  unfold d_stock_is at h0
  refine pp_of_pc (R0 := fun y H => Cv (frzH H) y (boo r)) ?_ (fun y H hc => ⟨_, rfl, pvB r, hc⟩)
  refine pcw (c := _) Tryz.func124 rfl rfl ?_; intro Q hret hnorm
  refine tc tbk 2 (.mk ?_)
  refine sB 1 fun v4 => ?_
  refine tr tbk 4 (.mk ?_)
  refine jn h0 [1, 3, 6] [1] (fun (a : Bool) (k : Unit) => [(29, boo a)]) (fun a k => []) ⟨fun j5 h1 => ?_, ?_⟩
  refine tc tbk 2 (.mk ?_)
  refine nb tbk h1 fun x6 h1 => ?_
  refine tr tbk 1 (.mk ?_)
  cases x6
  replace h1 := cf h1
  refine tr tbk 3 (.mk ?_)
  refine sY (yv_len_sl rfl Tryz.underlying26 rfl (lst_len _)) ?_
  refine nb tbk h1 fun x7 h1 => ?_
  refine tr tbk 2 (.mk ?_)
  cases x7
  replace h1 := cf h1
  refine tr tbk 1 (.mk ?_)
  refine nb tbk h1 fun x8 h1 => ?_
  refine tr tbk 2 (.mk ?_)
  cases x8
  replace h1 := cf h1
  refine tr tbk 4 (.mk ?_)
  refine sY (yv_len_sl rfl Tryz.underlying22 rfl (lst_len _)) ?_
  refine nb tbk h1 fun x9 h1 => ?_
  refine tr tbk 2 (.mk ?_)
  exact lf h1 () leA
  replace h1 := ct h1
  refine tr tbk 8 (.mk ?_)
  exact lf h1 () leA
  replace h1 := ct h1
  refine tr tbk 12 (.mk ?_)
  exact lf h1 () leA
  replace h1 := ct h1
  refine tr tbk 19 (.mk ?_)
  exact lf h1 () leA
  rintro y0_1 _ h0
  replace h0 := asrt_e h0
  obtain ⟨rfl, h0⟩ := h0
  refine tc tbk 3 (.mk ?_)
  refine c_drawE [0, 1, 0, 7, 15, 0, 32, 96, 224, 0, 543, 2047] (rl [(0, [1]), (1, [1]), (5, [1]), (6, [1]), (7, [1])] []) (fun i => [1]) (rl [(9, false), (10, false)] true) [0, 1, 2, 3, 4, 5, 6, 7, 8, 9, 10, 11] mixed (by kernel_rfl) ?_; intro K hK
  refine eF fo31_1 ?_
  refine eL sh26 ?_
  refine eM ?_
  obtain ⟨x10, e10, h0⟩ := bind_e h0
  refine eP (fun H hH => yv_to (y := .pp [int x10.Now, boo x10.Closed, lst 4 GPool.av x10.Pools, lst 1 fI x10.Bal, lst 11 GRoll.av x10.Rolls, lst 1 fI x10.Prices, lst 1 fI x10.Down, lst 8 GEnt.av x10.Ahead]) (yv_ixT rfl Tryz.underlying26 sh46 rfl rfl e10) (congrArg AV.pp (GEnt.av_eq x10))) ?_
  refine eP (fun H hH => yv_load rfl sh46 rfl (.pp _) rfl) ?_
  refine eF fo31_0 ?_
  refine eF fo25_2 ?_
  refine eL sh22 ?_
  refine eP (fun H hH => yv_len_sl rfl Tryz.underlying22 rfl (lst_len _)) ?_
  refine de_eff rfl rfl rfl rfl (yl_alloc 2 .any rfl z46 rfl) (by rintro _ _ ⟨v11, -, rfl, rfl⟩; exact ⟨rfl, trivial⟩) ?_; rintro _ _ ⟨v11, -, rfl, rfl⟩
  refine de_eff0 rfl rfl rfl rfl (Yield.weak (yl_ob (ob' := (⟨46, 8, true, true, v11, [[int x10.Now, boo x10.Closed, lst 4 GPool.av x10.Pools, lst 1 fI x10.Bal, lst 11 GRoll.av x10.Rolls, lst 1 fI x10.Prices, lst 1 fI x10.Down, lst 8 GEnt.av x10.Ahead]]⟩ : AObj)) (yl_store rfl sh46 rfl rfl rfl rfl rfl rfl rfl rfl rfl) rfl) (fun _ h => h) (fun _ _ => trivial)) (by rintro _ _ ⟨rfl, rfl⟩; exact ⟨rfl, trivial⟩) ?_; rintro _ _ ⟨rfl, rfl⟩
  refine eA ?_
  refine de_nil (hK _ ?_)
  refine tc tbk 1 (.mk ?_)
  refine jn h0 [] [] (fun (a : Bool) (k : Unit) => [(6, boo a)]) (fun a k => []) ⟨fun j12 h1 => ?_, ?_⟩
  refine tc tbk 3 (.mk ?_)
  refine sY (yv_len_sl rfl Tryz.underlying43 rfl (lst_len _)) ?_
  refine tr tbk 1 (.mk ?_)
  refine ni tbk h1 fun x13 h1 => ?_
  refine nb tbk h1 fun x14 h1 => ?_
  refine tr tbk 1 (.mk ?_)
  cases x14
  replace h1 := cf h1
  refine tr tbk 46 (.mk ?_)
  exact lf h1 () leA
  replace h1 := ct h1
  refine tr tbk 2 (.mk ?_)
  refine sY (yv_len_sl rfl Tryz.underlying44 rfl (lst_len _)) ?_
  refine tr tbk 1 (.mk ?_)
  refine nb tbk h1 fun x15 h1 => ?_
  refine tr tbk 2 (.mk ?_)
  cases x15
  replace h1 := cf h1
  refine tr tbk 39 (.mk ?_)
  exact lf h1 () leA
  replace h1 := ct h1
  refine tr tbk 4 (.mk ?_)
  refine sY (yv_len_sl rfl Tryz.underlying23 rfl (lst_len _)) ?_
  refine nb tbk h1 fun x16 h1 => ?_
  refine tr tbk 2 (.mk ?_)
  cases x16
  replace h1 := cf h1
  refine tr tbk 31 (.mk ?_)
  exact lf h1 () leA
  replace h1 := ct h1
  refine tr tbk 4 (.mk ?_)
  refine sY (yv_len_sl rfl Tryz.underlying23 rfl (lst_len _)) ?_
  refine nb tbk h1 fun x17 h1 => ?_
  refine tr tbk 2 (.mk ?_)
  cases x17
  replace h1 := cf h1
  refine tr tbk 23 (.mk ?_)
  exact lf h1 () leA
  replace h1 := ct h1
  refine tr tbk 4 (.mk ?_)
  obtain ⟨x18, e18, h1⟩ := bind_e h1
  refine sY (yv_ixT rfl Tryz.underlying23 sh22 rfl rfl e18) ?_
  refine tr tbk 1 (.mk ?_)
  refine sY (yv_len_sl rfl Tryz.underlying22 rfl (lst_len _)) ?_
  refine tr tbk 1 (.mk ?_)
  refine nb tbk h1 fun x19 h1 => ?_
  refine tr tbk 2 (.mk ?_)
  cases x19
  replace h1 := cf h1
  refine tr tbk 12 (.mk ?_)
  exact lf h1 () leA
  replace h1 := ct h1
  refine tr tbk 4 (.mk ?_)
  obtain ⟨x20, e20, h1⟩ := bind_e h1
  refine sY (yv_ixT rfl Tryz.underlying23 sh22 rfl rfl e20) ?_
  refine tr tbk 1 (.mk ?_)
  refine sY (yv_len_sl rfl Tryz.underlying22 rfl (lst_len _)) ?_
  refine tr tbk 1 (.mk ?_)
  refine nb tbk h1 fun x21 h1 => ?_
  refine tr tbk 3 (.mk ?_)
  exact lf h1 () leA
  rintro y1_1 _ h0
  obtain rfl := nxt_e h0
  refine wR hret (rT .nil) ?_
  exact .refl _
def d_stock_Ready (a1 : GState) (a2 : Int) (a3 : Int) : Option (Int) :=
(d_stock_is a1 a2 a3).bind fun x5 =>
bnd (!x5) fun x6 =>
asrt (x6 = false) <|
(ix a1.Ents a2).bind fun x7 =>
bnd x7.Closed fun x8 =>
asrt (x8 = false) <|
some ((0 : Int))
theorem d_stock_Ready_c {a1 : GState} {a2 : Int} {a3 : Int} {r : Int} (h0 : d_stock_Ready a1 a2 a3 = some r) : PP Tryz.prog 71 [.agg (GState.av a1), int a2, int a3] (fun y => y = int r) := by
  unfold d_stock_Ready at h0
  refine pp_of_pc (R0 := fun y H => Cv (frzH H) y (int r)) ?_ (fun y H hc => ⟨_, rfl, pvI r, hc⟩)
  refine pcw (c := _) Tryz.func71 rfl rfl ?_; intro Q hret hnorm
  refine tc tbk 2 (.mk ?_)
  refine sB 1 fun v4 => ?_
  refine tr tbk 9 (.mk ?_)
  obtain ⟨x5, e5, h0⟩ := bind_e h0
  refine sC cal124 (d_stock_is_c e5) ?_
  refine nb tbk h0 fun x6 h0 => ?_
  refine tr tbk 2 (.mk ?_)
  replace h0 := asrt_e h0
  obtain ⟨rfl, h0⟩ := h0
  refine tc tbk 6 (.mk ?_)
  obtain ⟨x7, e7, h0⟩ := bind_e h0
  refine sY (yv_to (y := .pp [int x7.Now, boo x7.Closed, lst 4 GPool.av x7.Pools, lst 1 fI x7.Bal, lst 11 GRoll.av x7.Rolls, lst 1 fI x7.Prices, lst 1 fI x7.Down, lst 8 GEnt.av x7.Ahead]) (yv_ixT rfl Tryz.underlying26 sh46 rfl rfl e7) (congrArg AV.pp (GEnt.av_eq x7))) ?_
  refine tr tbk 4 (.mk ?_)
  obtain ⟨x8, e8, h0⟩ := bnd_e h0
  refine c_as (t := 13) (boo x8) rfl (congrArg boo e8) ?_
  refine c_as (t := 19) (boo x8) rfl (congrArg boo e8) ?_
  replace h0 := asrt_e h0
  obtain ⟨rfl, h0⟩ := h0
  refine tc tbk 7 (.mk ?_)
  obtain rfl := nxt_e h0
  refine wR hret (rT .nil) ?_
  exact .refl _
def d_stock_in (a1 : Int) (a2 : Int) (a3 : Int) : Option (Bool) :=
(show Option (Bool) from
bnd (decide (a1 ≥ a2)) fun x5 =>
cond x5 (bnd (decide (a1 ≤ a3)) fun x6 =>
some (x6 : Bool)) (some (false : Bool))).bind <| fun y0_1 =>
some ((y0_1 : Bool))
theorem d_stock_in_c {a1 : Int} {a2 : Int} {a3 : Int} {r : Bool} (h0 : d_stock_in a1 a2 a3 = some r) : PP Tryz.prog 193 [int a1, int a2, int a3] (fun y => y = boo r) := by
  unfold d_stock_in at h0
  refine pp_of_pc (R0 := fun y H => Cv (frzH H) y (boo r)) ?_ (fun y H hc => ⟨_, rfl, pvB r, hc⟩)
  refine pcw (c := _) Tryz.func193 rfl rfl ?_; intro Q hret hnorm
  refine tc tbk 5 (.mk ?_)
  refine jn h0 [] [] (fun (a : Bool) (k : Unit) => [(6, boo a)]) (fun a k => []) ⟨fun j4 h1 => ?_, ?_⟩
  refine tc tbk 3 (.mk ?_)
  refine nb tbk h1 fun x5 h1 => ?_
  refine tr tbk 1 (.mk ?_)
  cases x5
  replace h1 := cf h1
  refine tr tbk 6 (.mk ?_)
  exact lf h1 () leA
  replace h1 := ct h1
  refine tr tbk 2 (.mk ?_)
  refine nb tbk h1 fun x6 h1 => ?_
  refine tr tbk 3 (.mk ?_)
  exact lf h1 () leA
  rintro y0_1 _ h0
  obtain rfl := nxt_e h0
  refine wR hret (rT .nil) ?_
  exact .refl _
def d_stock_place (a1 : GState) (a2 : Int) (a3 : Int) (a4 : Int) : Option (Int) :=
(show Option (Bool) from
(d_stock_is a1 a2 a3).bind fun x7 =>
bnd (!x7) fun x8 =>
cond x8 (some (true : Bool)) ((d_stock_in a4 0 1).bind fun x9 =>
bnd (!x9) fun x10 =>
some (x10 : Bool))).bind <| fun y0_1 =>
asrt (y0_1 = false) <|
bnd (w64 (a3 * 2)) fun x11 =>
bnd (w64 (x11 + a4)) fun x12 =>
some ((x12 : Int))
theorem d_stock_place_c {a1 : GState} {a2 : Int} {a3 : Int} {a4 : Int} {r : Int} (h0 : d_stock_place a1 a2 a3 a4 = some r) : PP Tryz.prog 125 [.agg (GState.av a1), int a2, int a3, int a4] (fun y => y = int r) := by
  unfold d_stock_place at h0
  refine pp_of_pc (R0 := fun y H => Cv (frzH H) y (int r)) ?_ (fun y H hc => ⟨_, rfl, pvI r, hc⟩)
  refine pcw (c := _) Tryz.func125 rfl rfl ?_; intro Q hret hnorm
  refine tc tbk 2 (.mk ?_)
  refine sB 1 fun v5 => ?_
  refine tr tbk 4 (.mk ?_)
  refine jn h0 [2, 3, 8] [] (fun (a : Bool) (k : Unit) => [(18, boo a)]) (fun a k => []) ⟨fun j6 h1 => ?_, ?_⟩
  refine tc tbk 4 (.mk ?_)
  obtain ⟨x7, e7, h1⟩ := bind_e h1
  refine sC cal124 (d_stock_is_c e7) ?_
  refine nb tbk h1 fun x8 h1 => ?_
  refine tr tbk 1 (.mk ?_)
  cases x8
  replace h1 := cf h1
  refine tr tbk 1 (.mk ?_)
  obtain ⟨x9, e9, h1⟩ := bind_e h1
  refine sC cal193 (d_stock_in_c e9) ?_
  refine nb tbk h1 fun x10 h1 => ?_
  refine tr tbk 2 (.mk ?_)
  exact lf h1 () leA
  replace h1 := ct h1
  refine tr tbk 5 (.mk ?_)
  exact lf h1 () leA
  rintro y0_1 _ h0
  replace h0 := asrt_e h0
  obtain ⟨rfl, h0⟩ := h0
  refine tc tbk 5 (.mk ?_)
  refine ni tbk h0 fun x11 h0 => ?_
  refine tr tbk 1 (.mk ?_)
  refine ni tbk h0 fun x12 h0 => ?_
  refine tr tbk 2 (.mk ?_)
  obtain rfl := nxt_e h0
  refine wR hret (rT .nil) ?_
  exact .refl _
def d_pool_own (a1 : GPool) : Option (GPool) :=
asrt (a1.Layers.length ≤ 68719476736) <|
(show Option ((Unit)) from
some ()).bind <| fun _ =>
some ((a1 : GPool))
theorem d_pool_own_c {a1 : GPool} {r : GPool} (h0 : d_pool_own a1 = some r) : PP Tryz.prog 195 [.agg (GPool.av a1)] (fun y => y = .agg (GPool.av r)) := by
  unfold d_pool_own at h0
  refine pp_of_pc (R0 := fun y H => Cv (frzH H) y (.agg (GPool.av r))) ?_ (fun y H hc => ⟨_, rfl, (fun (a : GPool) => PV.agg (GPool.pvc a)) r, hc⟩)
  refine pcw (c := _) Tryz.func195 rfl rfl ?_; intro Q hret hnorm
  refine tc tbk 2 (.mk ?_)
  refine sB 1 fun v2 => ?_
  refine sA 2 z98 fun v3 => ?_
  refine tr tbk 2 (.mk ?_)
  refine c_drawE [0, 0, 2, 6, 15, 31] (rl [(0, [1]), (1, [1]), (2, [1])] []) (rl [(4, []), (5, [])] [1]) (rl [(3, false), (4, false), (5, false)] true) [0, 1, 2, 3, 4, 5] mixed (by kernel_rfl) ?_; intro K hK
  refine eL sh98 ?_
  refine eF fo98_0 ?_
  refine eL sh95 ?_
  obtain ⟨p4, h0⟩ := asrt_e h0
  refine de_eff rfl rfl rfl rfl (yl_call rfl rfl (.cons rfl .nil) cal211 (pc_cv (clone211_c (id := 3) (l := a1.Layers) rfl p4) (.cons (.refl _) .nil))) (by rintro _ _ ⟨v5, rfl, rfl⟩; exact ⟨rfl, trivial⟩) ?_; rintro _ _ ⟨v5, rfl, rfl⟩
  obtain ⟨j6, h1, h0⟩ := bind_e h0
  refine de_eff (Out := fun y H' => (∃ (a : Unit) (k : Unit), a = j6 ∧ y = .agg [.sl 3 v5 0 a1.Layers.length, int a1.Pend.a0, int a1.Pend.a1, int a1.Pend.a2] ∧ H' = hk [(1, ⟨98, 4, true, true, v2, [[lst 3 GLayer.av a1.Layers, int a1.Pend.a0, int a1.Pend.a1, int a1.Pend.a2]]⟩), (2, ⟨98, 4, true, true, v3, [[.sc (.slice none 0 0), int 0, int 0, int 0]]⟩), (3, ⟨57, 3, true, true, v5, a1.Layers.map GLayer.av⟩)])) rfl rfl rfl rfl (yl_call rfl rfl (.cons rfl (.cons rfl .nil)) cal242 ?_) (by rintro y _ ⟨_, _, rfl, hc, rfl⟩ <;> exact trivial) ?_
  refine pcw (c := _) Tryz.func242 rfl rfl ?_; intro Q hret hnorm
  refine tc tbk 2 (.mk ?_)
  refine sB 4 fun v7 => ?_
  refine sA 5 z98 fun v8 => ?_
  refine tr tbk 5 (.mk ?_)
  refine sS ⟨98, 4, true, true, v7, [[.sl 3 v5 0 a1.Layers.length, int a1.Pend.a0, int a1.Pend.a1, int a1.Pend.a2]]⟩ sh95 ?_
  refine tr tbk 4 (.mk ?_)
  refine sS ⟨98, 4, true, true, v8, [[.sl 3 v5 0 a1.Layers.length, int a1.Pend.a0, int a1.Pend.a1, int a1.Pend.a2]]⟩ sh98 ?_
  refine tr tbk 1 (.mk ?_)
  obtain rfl := nxt_e h1
  refine w_ret (hret _ _ (hk [(1, ⟨98, 4, true, true, v2, [[lst 3 GLayer.av a1.Layers, int a1.Pend.a0, int a1.Pend.a1, int a1.Pend.a2]]⟩), (2, ⟨98, 4, true, true, v3, [[.sc (.slice none 0 0), int 0, int 0, int 0]]⟩), (3, ⟨57, 3, true, true, v5, a1.Layers.map GLayer.av⟩)]) (.cell rfl (.pt rfl rfl rfl) sh98 rfl .nil) (HK.le ⟨rfl, rfl, rfl, trivial⟩) ?_)
  exact ⟨(), (), rfl, rfl, rfl⟩
  rintro y _ ⟨_, _, rfl, hc, rfl⟩
  subst hc
  refine de_eff0 rfl rfl rfl rfl (Yield.weak (yl_ob (ob' := (⟨98, 4, true, true, v3, [[.sl 3 v5 0 a1.Layers.length, int a1.Pend.a0, int a1.Pend.a1, int a1.Pend.a2]]⟩ : AObj)) (yl_store rfl sh98 rfl rfl rfl rfl rfl rfl rfl rfl rfl) rfl) (fun _ h => h) (fun _ _ => trivial)) (by rintro _ _ ⟨rfl, rfl⟩; exact trivial) ?_; rintro _ _ ⟨rfl, rfl⟩
  refine de_nil (hK _ ?_)
  obtain rfl := nxt_e h0
  refine wR hret (rC sh98 .nil) ?_
  exact (CvL.agg (.cons (cv_lst rfl rfl rfl rfl rfl (Eq.symm rfl)) (.cons (.refl _) (.cons (.refl _) (.cons (.refl _) .nil)))))
def d_pavg_own (a1 : GPool) (a2 : List GLayer) : Option (GPool) :=
asrt (a2.length ≤ 68719476736) <|
some (((⟨a2, a1.Pend⟩ : GPool) : GPool))
theorem d_pavg_own_c {a1 : GPool} {a2 : List GLayer} {r : GPool} (h0 : d_pavg_own a1 a2 = some r) : PP Tryz.prog 166 [.agg (GPool.av a1), lst 3 GLayer.av a2] (fun y => y = .agg (GPool.av r)) := by
  unfold d_pavg_own at h0
  refine pp_of_pc (R0 := fun y H => Cv (frzH H) y (.agg (GPool.av r))) ?_ (fun y H hc => ⟨_, rfl, (fun (a : GPool) => PV.agg (GPool.pvc a)) r, hc⟩)
  refine pcw (c := _) Tryz.func166 rfl rfl ?_; intro Q hret hnorm
  refine tc tbk 2 (.mk ?_)
  refine sB 1 fun v3 => ?_
  refine sA 2 z98 fun v4 => ?_
  refine tr tbk 4 (.mk ?_)
  obtain ⟨p5, h0⟩ := asrt_e h0
  refine rse rfl rfl rfl (yl_app0T (g := GLayer.av) (m := a2) 3 rfl Tryz.underlying95 bz57 by57 rfl rfl rfl rfl (.refl _) (fun _ => rfl) p5) ?_; rintro _ _ ⟨v6, rfl, rfl⟩
  refine tr tbk 1 (.mk ?_)
  refine sS ⟨98, 4, true, true, v3, [[.sl 3 v6 0 a2.length, int a1.Pend.a0, int a1.Pend.a1, int a1.Pend.a2]]⟩ sh95 ?_
  refine tr tbk 4 (.mk ?_)
  refine sS ⟨98, 4, true, true, v4, [[.sl 3 v6 0 a2.length, int a1.Pend.a0, int a1.Pend.a1, int a1.Pend.a2]]⟩ sh98 ?_
  refine tr tbk 1 (.mk ?_)
  obtain rfl := nxt_e h0
  refine wR hret (rC sh98 .nil) ?_
  exact (CvL.agg (.cons (cv_lst rfl rfl rfl rfl rfl (Eq.symm rfl)) (.cons (.refl _) (.cons (.refl _) (.cons (.refl _) .nil)))))
def d_pavg_is (a1 : Int) : Option (Bool) :=
(show Option (Bool) from
bnd (decide (a1 ≥ 0)) fun x3 =>
cond x3 (bnd (decide (a1 < 3)) fun x4 =>
some (x4 : Bool)) (some (false : Bool))).bind <| fun y0_1 =>
some ((y0_1 : Bool))
theorem d_pavg_is_c {a1 : Int} {r : Bool} (h0 : d_pavg_is a1 = some r) : PP Tryz.prog 210 [int a1] (fun y => y = boo r) := by
  unfold d_pavg_is at h0
  refine pp_of_pc (R0 := fun y H => Cv (frzH H) y (boo r)) ?_ (fun y H hc => ⟨_, rfl, pvB r, hc⟩)
  refine pcw (c := _) Tryz.func210 rfl rfl ?_; intro Q hret hnorm
  refine tc tbk 5 (.mk ?_)
  refine jn h0 [] [] (fun (a : Bool) (k : Unit) => [(2, boo a)]) (fun a k => []) ⟨fun j2 h1 => ?_, ?_⟩
  refine tc tbk 2 (.mk ?_)
  refine nb tbk h1 fun x3 h1 => ?_
  refine tr tbk 1 (.mk ?_)
  cases x3
  replace h1 := cf h1
  refine tr tbk 5 (.mk ?_)
  exact lf h1 () leA
  replace h1 := ct h1
  refine tr tbk 1 (.mk ?_)
  refine nb tbk h1 fun x4 h1 => ?_
  refine tr tbk 3 (.mk ?_)
  exact lf h1 () leA
  rintro y0_1 _ h0
  obtain rfl := nxt_e h0
  refine wR hret (rT .nil) ?_
  exact .refl _
def d_pavg_Free_L0 (a1 : GPool) : Nat → Int → Int → Option (Int)
  | 0, _, _ => none
  | n + 1, y0_1, y0_2 =>
    bnd (decide (y0_2 < (a1.Layers.length : Int))) fun x4 =>
    cond x4 ((ix a1.Layers y0_2).bind fun x5 =>
    bnd (w64 (y0_1 + x5.Qty)) fun x7 =>
    bnd (w64 (y0_2 + 1)) fun x8 =>
    d_pavg_Free_L0 a1 n (x7 : Int) (x8 : Int)) (some (y0_1 : Int))
def d_pavg_Free_L1 (a1 : GPool) : Nat → Int → Int → Option (Int)
  | 0, _, _ => none
  | n + 1, y2_1, y2_2 =>
    bnd (decide (y2_2 < 3)) fun x10 =>
    cond x10 ((ix ([a1.Pend.a0, a1.Pend.a1, a1.Pend.a2] : List Int) y2_2).bind fun x11 =>
    bnd (w64 (y2_1 - x11)) fun x12 =>
    bnd (w64 (y2_2 + 1)) fun x13 =>
    d_pavg_Free_L1 a1 n (x12 : Int) (x13 : Int)) (some (y2_1 : Int))
def d_pavg_Free (n : Nat) (a1 : GPool) : Option (Int) :=
(show Option (Int) from
d_pavg_Free_L0 a1 n (0 : Int) (0 : Int)).bind <| fun y1_1 =>
(show Option (Int) from
d_pavg_Free_L1 a1 n (y1_1 : Int) (0 : Int)).bind <| fun y3_1 =>
some ((y3_1 : Int))
theorem d_pavg_Free_c {n : Nat} {a1 : GPool} {r : Int} (h0 : d_pavg_Free n a1 = some r) : PP Tryz.prog 250 [.agg (GPool.av a1)] (fun y => y = int r) := by
  unfold d_pavg_Free at h0
  refine pp_of_pc (R0 := fun y H => Cv (frzH H) y (int r)) ?_ (fun y H hc => ⟨_, rfl, pvI r, hc⟩)
  refine pcw (c := _) Tryz.func250 rfl rfl ?_; intro Q hret hnorm
  refine tc tbk 2 (.mk ?_)
  refine sB 1 fun v2 => ?_
  refine tr tbk 11 (.mk ?_)
  refine sY (yv_len_sl rfl Tryz.underlying95 rfl (lst_len _)) ?_
  refine tr tbk 2 (.mk ?_)
  refine jn h0 [1, 2] [1] (fun (a : Int) (k : Unit) => [(3, int a)]) (fun a k => []) ⟨fun j3 h1 => ?_, ?_⟩
  refine tc tbk 1 (.mk ?_)
  refine lp (fun n (a : Int × Int) => d_pavg_Free_L0 a1 n a.1 a.2) ((0 : Int), (0 : Int)) () h1 [1, 2, 9, 10] [1] (fun (a : Int × Int) (k : Unit) => [(3, int a.1), (11, int a.2)]) (fun a k => []) (fun _ => rfl) ⟨leA, ?_⟩
  rintro n ⟨y0_1, y0_2⟩ _ hm h1
  replace h1 : d_pavg_Free_L0 a1 (n + 1) y0_1 y0_2 = some _ := h1
  rw [d_pavg_Free_L0] at h1
  refine tc tbk 2 (.mk ?_)
  refine nb tbk h1 fun x4 h1 => ?_
  refine tr tbk 2 (.mk ?_)
  cases x4
  replace h1 := cf h1
  refine tc tbk 2 (.mk ?_)
  exact lf h1 () leA
  replace h1 := ct h1
  refine tc tbk 6 (.mk ?_)
  obtain ⟨x5, e5, h1⟩ := bind_e h1
  refine sY (yv_ixT rfl Tryz.underlying95 sh57 rfl rfl e5) ?_
  refine tr tbk 1 (.mk ?_)
  refine sA 2 z57 fun v6 => ?_
  refine sS ⟨57, 3, true, true, v6, [[int x5.Qty, int x5.Value, int x5.Profit]]⟩ sh57 ?_
  refine tr tbk 5 (.mk ?_)
  refine ni tbk h1 fun x7 h1 => ?_
  refine tr tbk 4 (.mk ?_)
  refine ni tbk h1 fun x8 h1 => ?_
  refine tr tbk 2 (.mk ?_)
  exact bk (x7, x8) () h1 leA
  rintro y1_1 _ h0
  refine tc tbk 7 (.mk ?_)
  refine jn h0 [2] [] (fun (a : Int) (k : Unit) => [(3, int a)]) (fun a k => []) ⟨fun j9 h1 => ?_, ?_⟩
  refine tc tbk 1 (.mk ?_)
  refine lp (fun n (a : Int × Int) => d_pavg_Free_L1 a1 n a.1 a.2) ((y1_1 : Int), (0 : Int)) () h1 [2, 21] [] (fun (a : Int × Int) (k : Unit) => [(3, int a.1), (22, int a.2)]) (fun a k => []) (fun _ => rfl) ⟨leA, ?_⟩
  rintro n ⟨y2_1, y2_2⟩ _ hm h1
  replace h1 : d_pavg_Free_L1 a1 (n + 1) y2_1 y2_2 = some _ := h1
  rw [d_pavg_Free_L1] at h1
  refine tc tbk 2 (.mk ?_)
  refine nb tbk h1 fun x10 h1 => ?_
  refine tr tbk 2 (.mk ?_)
  cases x10
  replace h1 := cf h1
  refine tc tbk 2 (.mk ?_)
  exact lf h1 () leA
  replace h1 := ct h1
  refine tc tbk 6 (.mk ?_)
  obtain ⟨x11, e11, h1⟩ := bind_e h1
  refine sY (yv_indexAT (g := fI) (l := ([a1.Pend.a0, a1.Pend.a1, a1.Pend.a2] : List Int)) (v := x11) (w := int x11) rfl Tryz.underlying96 sh3 rfl rfl rfl e11 (fun _ => rfl) hw1) ?_
  refine tr tbk 5 (.mk ?_)
  refine ni tbk h1 fun x12 h1 => ?_
  refine tr tbk 4 (.mk ?_)
  refine ni tbk h1 fun x13 h1 => ?_
  refine tr tbk 2 (.mk ?_)
  exact bk (x12, x13) () h1 leA
  rintro y3_1 _ h0
  refine tc tbk 5 (.mk ?_)
  obtain rfl := nxt_e h0
  refine wR hret (rT .nil) ?_
  exact .refl _
def d_pavg_Wait (n : Nat) (a1 : GPool) (a2 : Int) (a3 : Int) : Option (GPool × Int) :=
(d_pavg_own a1 a1.Layers).bind fun x6 =>
(show Option (Bool) from
(d_pavg_is a2).bind fun x8 =>
bnd (!x8) fun x9 =>
cond x9 (some (true : Bool)) (bnd (decide (a3 < 1)) fun x10 =>
some (x10 : Bool))).bind <| fun y0_1 =>
asrt (y0_1 = false) <|
(d_pavg_Free n x6).bind fun x11 =>
bnd (decide (a3 > x11)) fun x12 =>
cond x12 (some ((x6 : GPool), (5 : Int))) (bnd (decide (a2 = 0)) fun x13 =>
cond x13 (bnd (w64 (x6.Pend.a0 + a3)) fun x18 =>
some (((⟨x6.Layers, (⟨x18, x6.Pend.a1, x6.Pend.a2⟩ : A3_Int)⟩ : GPool) : GPool), (0 : Int))) (bnd (decide (a2 = 1)) fun x14 =>
cond x14 (bnd (w64 (x6.Pend.a1 + a3)) fun x17 =>
some (((⟨x6.Layers, (⟨x6.Pend.a0, x17, x6.Pend.a2⟩ : A3_Int)⟩ : GPool) : GPool), (0 : Int))) (asrt (a2 = 2) <|
bnd (w64 (x6.Pend.a2 + a3)) fun x16 =>
some (((⟨x6.Layers, (⟨x6.Pend.a0, x6.Pend.a1, x16⟩ : A3_Int)⟩ : GPool) : GPool), (0 : Int)))))
theorem d_pavg_Wait_c {n : Nat} {a1 : GPool} {a2 : Int} {a3 : Int} {r : GPool × Int} (h0 : d_pavg_Wait n a1 a2 a3 = some r) : PP Tryz.prog 249 [.agg (GPool.av a1), int a2, int a3] (fun y => y = .tup [.agg (GPool.av r.1), int r.2]) := by
  unfold d_pavg_Wait at h0
  refine pp_of_pc (R0 := fun y H => Cv (frzH H) y (.tup [.agg (GPool.av r.1), int r.2])) ?_ (fun y H hc => ⟨_, rfl, .tup (pvl2 ((fun (a : GPool) => PV.agg (GPool.pvc a)) (r.1)) (pvI (r.2))), hc⟩)
  refine pcw (c := _) Tryz.func249 rfl rfl ?_; intro Q hret hnorm
  refine tc tbk 2 (.mk ?_)
  refine sB 1 fun v4 => ?_
  refine sA 2 z98 fun v5 => ?_
  refine tr tbk 7 (.mk ?_)
  obtain ⟨x6, e6, h0⟩ := bind_e h0
  refine sC cal166 (d_pavg_own_c e6) ?_
  refine sS ⟨98, 4, true, true, v4, [[lst 3 GLayer.av x6.Layers, int x6.Pend.a0, int x6.Pend.a1, int x6.Pend.a2]]⟩ sh98 ?_
  refine tr tbk 4 (.mk ?_)
  refine jn h0 [1, 2, 3, 6, 7] [1, 2] (fun (a : Bool) (k : Unit) => [(12, boo a)]) (fun a k => []) ⟨fun j7 h1 => ?_, ?_⟩
  refine tc tbk 2 (.mk ?_)
  obtain ⟨x8, e8, h1⟩ := bind_e h1
  refine sC cal210 (d_pavg_is_c e8) ?_
  refine nb tbk h1 fun x9 h1 => ?_
  refine tr tbk 1 (.mk ?_)
  cases x9
  replace h1 := cf h1
  refine tr tbk 1 (.mk ?_)
  refine nb tbk h1 fun x10 h1 => ?_
  refine tr tbk 3 (.mk ?_)
  exact lf h1 () leA
  replace h1 := ct h1
  refine tr tbk 5 (.mk ?_)
  exact lf h1 () leA
  rintro y0_1 _ h0
  replace h0 := asrt_e h0
  obtain ⟨rfl, h0⟩ := h0
  refine tc tbk 5 (.mk ?_)
  obtain ⟨x11, e11, h0⟩ := bind_e h0
  refine sC cal250 (d_pavg_Free_c e11) ?_
  refine nb tbk h0 fun x12 h0 => ?_
  refine tr tbk 2 (.mk ?_)
  cases x12
  replace h0 := cf h0
  refine tc tbk 7 (.mk ?_)
  obtain ⟨x13, e13, h0⟩ := bnd_e h0
  cases x13
  replace h0 := cf h0
  obtain ⟨x14, e14, h0⟩ := bnd_e h0
  cases x14
  replace h0 := cf h0
  obtain ⟨p15, h0⟩ := asrt_e h0
  refine rsas 27 (int 2) rfl (congrArg int p15) ?_
  refine sY (yv_to (y := .pt 1 v4 0 3) (yv_indexAddrA rfl Tryz.underlying96 sh3 rfl rfl rfl rfl rfl (by decide)) rfl) ?_
  refine tr tbk 2 (.mk ?_)
  refine ni tbk h0 fun x16 h0 => ?_
  refine tr tbk 1 (.mk ?_)
  refine sY (yv_to (y := .pt 1 v4 0 3) (yv_indexAddrA rfl Tryz.underlying96 sh3 rfl rfl rfl rfl rfl (by decide)) rfl) ?_
  refine sS ⟨98, 4, true, true, v4, [[lst 3 GLayer.av x6.Layers, int x6.Pend.a0, int x6.Pend.a1, int x16]]⟩ sh3 ?_
  refine tr tbk 4 (.mk ?_)
  refine sS ⟨98, 4, true, true, v5, [[lst 3 GLayer.av x6.Layers, int x6.Pend.a0, int x6.Pend.a1, int x16]]⟩ sh98 ?_
  refine tr tbk 2 (.mk ?_)
  obtain rfl := nxt_e h0
  refine wR hret (rC sh98 (rT .nil)) ?_
  exact .refl _
  replace h0 := ct h0
  refine rsas 27 (int 1) rfl (congrArg int (of_decide_eq_true e14)) ?_
  refine sY (yv_to (y := .pt 1 v4 0 2) (yv_indexAddrA rfl Tryz.underlying96 sh3 rfl rfl rfl rfl rfl (by decide)) rfl) ?_
  refine tr tbk 2 (.mk ?_)
  refine ni tbk h0 fun x17 h0 => ?_
  refine tr tbk 1 (.mk ?_)
  refine sY (yv_to (y := .pt 1 v4 0 2) (yv_indexAddrA rfl Tryz.underlying96 sh3 rfl rfl rfl rfl rfl (by decide)) rfl) ?_
  refine sS ⟨98, 4, true, true, v4, [[lst 3 GLayer.av x6.Layers, int x6.Pend.a0, int x17, int x6.Pend.a2]]⟩ sh3 ?_
  refine tr tbk 4 (.mk ?_)
  refine sS ⟨98, 4, true, true, v5, [[lst 3 GLayer.av x6.Layers, int x6.Pend.a0, int x17, int x6.Pend.a2]]⟩ sh98 ?_
  refine tr tbk 2 (.mk ?_)
  obtain rfl := nxt_e h0
  refine wR hret (rC sh98 (rT .nil)) ?_
  exact .refl _
  replace h0 := ct h0
  refine rsas 27 (int 0) rfl (congrArg int (of_decide_eq_true e13)) ?_
  refine sY (yv_to (y := .pt 1 v4 0 1) (yv_indexAddrA rfl Tryz.underlying96 sh3 rfl rfl rfl rfl rfl (by decide)) rfl) ?_
  refine tr tbk 2 (.mk ?_)
  refine ni tbk h0 fun x18 h0 => ?_
  refine tr tbk 1 (.mk ?_)
  refine sY (yv_to (y := .pt 1 v4 0 1) (yv_indexAddrA rfl Tryz.underlying96 sh3 rfl rfl rfl rfl rfl (by decide)) rfl) ?_
  refine sS ⟨98, 4, true, true, v4, [[lst 3 GLayer.av x6.Layers, int x18, int x6.Pend.a1, int x6.Pend.a2]]⟩ sh3 ?_
  refine tr tbk 4 (.mk ?_)
  refine sS ⟨98, 4, true, true, v5, [[lst 3 GLayer.av x6.Layers, int x18, int x6.Pend.a1, int x6.Pend.a2]]⟩ sh98 ?_
  refine tr tbk 2 (.mk ?_)
  obtain rfl := nxt_e h0
  refine wR hret (rC sh98 (rT .nil)) ?_
  exact .refl _
  replace h0 := ct h0
  refine tc tbk 4 (.mk ?_)
  refine sS ⟨98, 4, true, true, v5, [[lst 3 GLayer.av x6.Layers, int x6.Pend.a0, int x6.Pend.a1, int x6.Pend.a2]]⟩ sh98 ?_
  refine tr tbk 2 (.mk ?_)
  obtain rfl := nxt_e h0
  refine wR hret (rC sh98 (rT .nil)) ?_
  exact .refl _
def d_pool_Out (n : Nat) (a1 : Int) (a2 : Int) (a3 : GPool) (a4 : Int) (a5 : Int) : Option (GPool × GLayer × Bool × Int) :=
(show Option ((Unit) ⊕ (Unit)) from
bnd (decide (a1 = 1)) fun x10 =>
asrt (x10 = false) <|
bnd (decide (a1 = 2)) fun x11 =>
asrt (x11 = false) <|
bnd (decide (a1 = 3)) fun x12 =>
cond x12 (some (.inr ())) (bnd (decide (a1 = 4)) fun x13 =>
asrt (x13 = false) <|
some (.inl ()))).bind <| selr (fun _ =>
(d_pool_own a3).bind fun x14 =>
some ((x14 : GPool), ((⟨0, 0, 0⟩ : GLayer) : GLayer), (false : Bool), (12 : Int))) <| fun _ =>
(show Option (Bool) from
bnd (decide (a4 < 0)) fun x16 =>
cond x16 (some (true : Bool)) (bnd (decide (a4 > 3)) fun x17 =>
some (x17 : Bool))).bind <| fun y2_1 =>
asrt (y2_1 = false) <|
(show Option ((Unit)) from
some ()).bind <| fun _ =>
bnd (decide (a4 ≠ 3)) fun x22 =>
asrt (x22 = true) <|
(d_pavg_Wait n a3 a4 a5).bind fun x23 =>
bnd (decide (x23.2 ≠ 0)) fun x24 =>
cond x24 ((d_pool_own a3).bind fun x25 =>
some ((x25 : GPool), ((⟨0, 0, 0⟩ : GLayer) : GLayer), (false : Bool), (x23.2 : Int))) (some ((x23.1 : GPool), ((⟨0, 0, 0⟩ : GLayer) : GLayer), (true : Bool), (0 : Int)))
theorem d_pool_Out_c {n : Nat} {a1 : Int} {a2 : Int} {a3 : GPool} {a4 : Int} {a5 : Int} {r : GPool × GLayer × Bool × Int} (h0 : d_pool_Out n a1 a2 a3 a4 a5 = some r) : PP Tryz.prog 209 [int a1, int a2, .agg (GPool.av a3), int a4, int a5] (fun y => y = .tup [.agg (GPool.av r.1), .agg (GLayer.av r.2.1), boo r.2.2.1, int r.2.2.2]) := by
  unfold d_pool_Out at h0
  refine pp_of_pc (R0 := fun y H => Cv (frzH H) y (.tup [.agg (GPool.av r.1), .agg (GLayer.av r.2.1), boo r.2.2.1, int r.2.2.2])) ?_ (fun y H hc => ⟨_, rfl, .tup (pvl4 ((fun (a : GPool) => PV.agg (GPool.pvc a)) (r.1)) ((fun (a : GLayer) => PV.agg (GLayer.pvc a)) (r.2.1)) (pvB (r.2.2.1)) (pvI (r.2.2.2))), hc⟩)
  refine pcw (c := _) Tryz.func209 rfl rfl ?_; intro Q hret hnorm
  refine tc tbk 2 (.mk ?_)
  refine sB 1 fun v6 => ?_
  refine sA 2 z98 fun v7 => ?_
  refine sA 3 z57 fun v8 => ?_
  refine tr tbk 7 (.mk ?_)
  obtain ⟨j9, h1, h0⟩ := bind_e h0
  refine rse (Out := fun y H' => (∃ (a : Unit) (k : Unit), (.inl a) = j9 ∧ y = .sc .nilIface ∧ H' = hk [(1, ⟨98, 4, true, true, v6, [[lst 3 GLayer.av a3.Layers, int a3.Pend.a0, int a3.Pend.a1, int a3.Pend.a2]]⟩), (2, ⟨98, 4, true, true, v7, [[.sc (.slice none 0 0), int 0, int 0, int 0]]⟩), (3, ⟨57, 3, true, true, v8, [[int 0, int 0, int 0]]⟩)]) ∨ (∃ (a : Unit) (k : Unit), (.inr a) = j9 ∧ y = .ifc 258 (.agg []) ∧ H' = hk [(1, ⟨98, 4, true, true, v6, [[lst 3 GLayer.av a3.Layers, int a3.Pend.a0, int a3.Pend.a1, int a3.Pend.a2]]⟩), (2, ⟨98, 4, true, true, v7, [[.sc (.slice none 0 0), int 0, int 0, int 0]]⟩), (3, ⟨57, 3, true, true, v8, [[int 0, int 0, int 0]]⟩)])) rfl rfl rfl (yl_call rfl rfl (.cons rfl (.cons rfl .nil)) cal194 ?_) ?_
  refine pcw (c := _) Tryz.func194 rfl rfl ?_; intro Q hret hnorm
  refine tc tbk 12 (.mk ?_)
  refine nb tbk h1 fun x10 h1 => ?_
  refine tr tbk 2 (.mk ?_)
  replace h1 := asrt_e h1
  obtain ⟨rfl, h1⟩ := h1
  refine tc tbk 3 (.mk ?_)
  refine nb tbk h1 fun x11 h1 => ?_
  refine tr tbk 2 (.mk ?_)
  replace h1 := asrt_e h1
  obtain ⟨rfl, h1⟩ := h1
  refine tc tbk 3 (.mk ?_)
  refine nb tbk h1 fun x12 h1 => ?_
  refine tr tbk 2 (.mk ?_)
  cases x12
  replace h1 := cf h1
  refine tc tbk 3 (.mk ?_)
  refine nb tbk h1 fun x13 h1 => ?_
  refine tr tbk 2 (.mk ?_)
  replace h1 := asrt_e h1
  obtain ⟨rfl, h1⟩ := h1
  refine tc tbk 7 (.mk ?_)
  obtain rfl := nxt_e h1
  refine w_ret (hret _ _ (hk [(1, ⟨98, 4, true, true, v6, [[lst 3 GLayer.av a3.Layers, int a3.Pend.a0, int a3.Pend.a1, int a3.Pend.a2]]⟩), (2, ⟨98, 4, true, true, v7, [[.sc (.slice none 0 0), int 0, int 0, int 0]]⟩), (3, ⟨57, 3, true, true, v8, [[int 0, int 0, int 0]]⟩)]) (.tmp rfl .nil) (HK.le ⟨rfl, rfl, rfl, trivial⟩) ?_)
  exact (.inl ⟨(), (), rfl, rfl, rfl⟩)
  replace h1 := ct h1
  refine tc tbk 4 (.mk ?_)
  refine sY (yv_makeIface rfl Tryz.underlying258 (by intro _ h; cases h) rfl) ?_
  refine tr tbk 2 (.mk ?_)
  obtain rfl := nxt_e h1
  refine w_ret (hret _ _ (hk [(1, ⟨98, 4, true, true, v6, [[lst 3 GLayer.av a3.Layers, int a3.Pend.a0, int a3.Pend.a1, int a3.Pend.a2]]⟩), (2, ⟨98, 4, true, true, v7, [[.sc (.slice none 0 0), int 0, int 0, int 0]]⟩), (3, ⟨57, 3, true, true, v8, [[int 0, int 0, int 0]]⟩)]) (.tmp rfl .nil) (HK.le ⟨rfl, rfl, rfl, trivial⟩) ?_)
  exact (.inr ⟨(), (), rfl, rfl, rfl⟩)
  rintro y _ (⟨_, _, rfl, hc, rfl⟩ | ⟨_, _, rfl, hc, rfl⟩)
  replace h0 := selr_l h0
  subst hc
  refine tr tbk 6 (.mk ?_)
  refine sY (yv_ifeqN rfl Tryz.underlying215 rfl rfl) ?_
  refine tr tbk 5 (.mk ?_)
  obtain ⟨x14, e14, h0⟩ := bind_e h0
  refine sC cal195 (d_pool_own_c e14) ?_
  refine tr tbk 1 (.mk ?_)
  refine sS ⟨98, 4, true, true, v7, [[lst 3 GLayer.av x14.Layers, int x14.Pend.a0, int x14.Pend.a1, int x14.Pend.a2]]⟩ sh98 ?_
  refine sS ⟨57, 3, true, true, v8, [[int 0, int 0, int 0]]⟩ sh57 ?_
  refine tr tbk 3 (.mk ?_)
  obtain rfl := nxt_e h0
  refine wR hret (rC sh98 (rC sh57 (rT (rT .nil)))) ?_
  exact .refl _
  replace h0 := selr_r h0
  subst hc
  refine tr tbk 6 (.mk ?_)
  refine sY (yv_ifeq rfl Tryz.underlying215 rfl rfl) ?_
  refine tr tbk 5 (.mk ?_)
  refine jn h0 [3, 4, 7, 10, 11, 12, 13, 14] [1, 2, 3] (fun (a : Bool) (k : Unit) => [(32, boo a)]) (fun a k => []) ⟨fun j15 h1 => ?_, ?_⟩
  refine tc tbk 2 (.mk ?_)
  refine nb tbk h1 fun x16 h1 => ?_
  refine tr tbk 1 (.mk ?_)
  cases x16
  replace h1 := cf h1
  refine tr tbk 1 (.mk ?_)
  refine nb tbk h1 fun x17 h1 => ?_
  refine tr tbk 2 (.mk ?_)
  exact lf h1 () leA
  replace h1 := ct h1
  refine tr tbk 4 (.mk ?_)
  exact lf h1 () leA
  rintro y2_1 _ h0
  replace h0 := asrt_e h0
  obtain ⟨rfl, h0⟩ := h0
  refine tc tbk 4 (.mk ?_)
  refine sA 4 z57 fun v18 => ?_
  refine tr tbk 3 (.mk ?_)
  refine sA 5 z98 fun v19 => ?_
  refine tr tbk 8 (.mk ?_)
  obtain ⟨j20, h1, h0⟩ := bind_e h0
  refine rse (Out := fun y H' => (∃ (a : Unit) (k : Unit), a = j20 ∧ y = boo true ∧ H' = hk [(1, ⟨98, 4, true, true, v6, [[lst 3 GLayer.av a3.Layers, int a3.Pend.a0, int a3.Pend.a1, int a3.Pend.a2]]⟩), (2, ⟨98, 4, true, true, v7, [[.sc (.slice none 0 0), int 0, int 0, int 0]]⟩), (3, ⟨57, 3, true, true, v8, [[int 0, int 0, int 0]]⟩), (4, ⟨57, 3, true, true, v18, [[int 0, int 0, int 0]]⟩), (5, ⟨98, 4, true, true, v19, [[.sc (.slice none 0 0), int 0, int 0, int 0]]⟩)])) rfl rfl rfl (yl_call rfl rfl (.cons rfl .nil) cal248 ?_) ?_
  refine pcw (c := _) Tryz.func248 rfl rfl ?_; intro Q hret hnorm
  refine tc tbk 7 (.mk ?_)
  refine sY (yv_tassT rfl Tryz.underlying258 rfl rfl) ?_
  refine tr tbk 3 (.mk ?_)
  refine sA 6 z258 fun v21 => ?_
  refine sS ⟨258, 0, true, true, v21, [[]]⟩ sh258 ?_
  refine tr tbk 7 (.mk ?_)
  obtain rfl := nxt_e h1
  refine w_ret (hret _ _ (hk [(1, ⟨98, 4, true, true, v6, [[lst 3 GLayer.av a3.Layers, int a3.Pend.a0, int a3.Pend.a1, int a3.Pend.a2]]⟩), (2, ⟨98, 4, true, true, v7, [[.sc (.slice none 0 0), int 0, int 0, int 0]]⟩), (3, ⟨57, 3, true, true, v8, [[int 0, int 0, int 0]]⟩), (4, ⟨57, 3, true, true, v18, [[int 0, int 0, int 0]]⟩), (5, ⟨98, 4, true, true, v19, [[.sc (.slice none 0 0), int 0, int 0, int 0]]⟩)]) (.tmp rfl .nil) (HK.le ⟨rfl, rfl, rfl, rfl, rfl, trivial⟩) ?_)
  exact ⟨(), (), rfl, rfl, rfl⟩
  rintro y _ ⟨_, _, rfl, hc, rfl⟩
  subst hc
  refine tr tbk 2 (.mk ?_)
  refine nb tbk h0 fun x22 h0 => ?_
  refine tr tbk 8 (.mk ?_)
  replace h0 := asrt_e h0
  obtain ⟨rfl, h0⟩ := h0
  refine tc tbk 5 (.mk ?_)
  obtain ⟨x23, e23, h0⟩ := bind_e h0
  refine sC cal249 (d_pavg_Wait_c e23) ?_
  refine tr tbk 3 (.mk ?_)
  refine sS ⟨98, 4, true, true, v19, [[lst 3 GLayer.av x23.1.Layers, int x23.1.Pend.a0, int x23.1.Pend.a1, int x23.1.Pend.a2]]⟩ sh98 ?_
  refine tr tbk 6 (.mk ?_)
  refine nb tbk h0 fun x24 h0 => ?_
  refine tr tbk 1 (.mk ?_)
  cases x24
  replace h0 := cf h0
  refine tc tbk 3 (.mk ?_)
  refine c_drawE [0, 0, 0, 1, 11, 31, 63] (rl [(0, [5]), (1, [4])] []) (rl [(3, [4]), (4, [])] [4, 5]) (rl [(3, false), (4, false)] true) [0, 1, 2, 3, 4, 5, 6] mixed (by kernel_rfl) ?_; intro K hK
  refine eL sh98 ?_
  refine eL sh57 ?_
  refine eM ?_
  refine de_eff0 rfl rfl rfl rfl (Yield.weak (yl_ob (ob' := (⟨98, 4, true, true, v7, [[lst 3 GLayer.av x23.1.Layers, int x23.1.Pend.a0, int x23.1.Pend.a1, int x23.1.Pend.a2]]⟩ : AObj)) (yl_store rfl sh98 rfl rfl rfl rfl rfl rfl rfl rfl rfl) rfl) (fun _ h => h) (fun _ _ => trivial)) (by rintro _ _ ⟨rfl, rfl⟩; exact ⟨rfl, trivial⟩) ?_; rintro _ _ ⟨rfl, rfl⟩
  refine de_eff0 rfl rfl rfl rfl (Yield.weak (yl_ob (ob' := (⟨57, 3, true, true, v8, [[int 0, int 0, int 0]]⟩ : AObj)) (yl_store rfl sh57 rfl rfl rfl rfl rfl rfl rfl rfl rfl) rfl) (fun _ h => h) (fun _ _ => trivial)) (by rintro _ _ ⟨rfl, rfl⟩; exact trivial) ?_; rintro _ _ ⟨rfl, rfl⟩
  iterate 2 refine eA ?_
  refine de_nil (hK _ ?_)
  obtain rfl := nxt_e h0
  refine wR hret (rC sh98 (rC sh57 (rT (rT .nil)))) ?_
  exact .refl _
  replace h0 := ct h0
  refine tc tbk 4 (.mk ?_)
  obtain ⟨x25, e25, h0⟩ := bind_e h0
  refine sC cal195 (d_pool_own_c e25) ?_
  refine tr tbk 2 (.mk ?_)
  refine sS ⟨98, 4, true, true, v7, [[lst 3 GLayer.av x25.Layers, int x25.Pend.a0, int x25.Pend.a1, int x25.Pend.a2]]⟩ sh98 ?_
  refine sS ⟨57, 3, true, true, v8, [[int 0, int 0, int 0]]⟩ sh57 ?_
  refine tr tbk 3 (.mk ?_)
  obtain rfl := nxt_e h0
  refine wR hret (rC sh98 (rC sh57 (rT (rT .nil)))) ?_
  exact .refl _
def d_stock_Fetch (n : Nat) (a1 : GState) (a2 : Int) (a3 : Int) (a4 : Int) (a5 : Int) (a6 : Int) : Option (GState × GLayer × Bool × Int) :=
(d_stock_place a1 a2 a3 a4).bind fun x10 =>
bnd (decide (x10 < 0)) fun x11 =>
asrt (x11 = false) <|
(ix a1.Master.Methods a2).bind fun x12 =>
(ix x12 a3).bind fun x13 =>
(ix a1.Master.Costs a2).bind fun x14 =>
(ix x14 a3).bind fun x15 =>
(ix a1.Ents a2).bind fun x16 =>
(ix x16.Pools x10).bind fun x17 =>
(d_pool_Out n x13 x15 x17 a5 a6).bind fun x18 =>
bnd x18.2.2.1 fun x20 =>
bnd (decide (x18.2.2.2 ≠ 0)) fun x21 =>
cond x21 (some ((a1 : GState), ((⟨0, 0, 0⟩ : GLayer) : GLayer), (false : Bool), (x18.2.2.2 : Int))) ((show Option ((Int × Bool × (List Int) × (List GRoll) × (List Int) × (List Int) × (List GEnt) × (List GPool))) from
(show Option ((Unit)) from
asrt (a1.Ents.length ≤ 68719476736) <|
(ix a1.Ents a2).bind fun x28 =>
some ()).bind <| fun _ =>
(ix a1.Ents a2).bind fun x29 =>
asrt (x29.Pools.length ≤ 68719476736) <|
(ix x29.Pools x10).bind fun x32 =>
bnd (x29.Pools.set (Int.toNat x10) (x18.1 : GPool)) fun x33 =>
some ((x29.Now : Int), (x29.Closed : Bool), (x29.Bal : List Int), (x29.Rolls : List GRoll), (x29.Prices : List Int), (x29.Down : List Int), (x29.Ahead : List GEnt), (x33 : List GPool))).bind <| p2 fun (y1_2 : Int) (q0 : Bool × (List Int) × (List GRoll) × (List Int) × (List Int) × (List GEnt) × (List GPool)) => (p2 fun (y1_3 : Bool) (q1 : (List Int) × (List GRoll) × (List Int) × (List Int) × (List GEnt) × (List GPool)) => (p2 fun (y1_5 : List Int) (q2 : (List GRoll) × (List Int) × (List Int) × (List GEnt) × (List GPool)) => (p2 fun (y1_6 : List GRoll) (q3 : (List Int) × (List Int) × (List GEnt) × (List GPool)) => (p2 fun (y1_7 : List Int) (q4 : (List Int) × (List GEnt) × (List GPool)) => (p2 fun (y1_8 : List Int) (q5 : (List GEnt) × (List GPool)) => (p2 fun (y1_9 : List GEnt) (y1_10 : List GPool) =>
(ix a1.Ents a2).bind fun x34 =>
some (((⟨a1.Master, (a1.Ents.set (Int.toNat a2) (⟨y1_2, y1_3, y1_10, y1_5, y1_6, y1_7, y1_8, y1_9⟩ : GEnt)), a1.Receipts, a1.Sales, a1.Transits, a1.Done⟩ : GState) : GState), (x18.2.1 : GLayer), (x20 : Bool), (0 : Int))) q5) q4) q3) q2) q1) q0)
theorem d_stock_Fetch_c {n : Nat} {a1 : GState} {a2 : Int} {a3 : Int} {a4 : Int} {a5 : Int} {a6 : Int} {r : GState × GLayer × Bool × Int} (h0 : d_stock_Fetch n a1 a2 a3 a4 a5 a6 = some r) : PP Tryz.prog 136 [.agg (GState.av a1), int a2, int a3, int a4, int a5, int a6] (fun y => y = .tup [.agg (GState.av r.1), .agg (GLayer.av r.2.1), boo r.2.2.1, int r.2.2.2]) := by
  unfold d_stock_Fetch at h0
  refine pp_of_pc (R0 := fun y H => Cv (frzH H) y (.tup [.agg (GState.av r.1), .agg (GLayer.av r.2.1), boo r.2.2.1, int r.2.2.2])) ?_ (fun y H hc => ⟨_, rfl, .tup (pvl4 ((fun (a : GState) => PV.agg (GState.pvc a)) (r.1)) ((fun (a : GLayer) => PV.agg (GLayer.pvc a)) (r.2.1)) (pvB (r.2.2.1)) (pvI (r.2.2.2))), hc⟩)
  refine pcw (c := _) Tryz.func136 rfl rfl ?_; intro Q hret hnorm
  refine tc tbk 2 (.mk ?_)
  refine sB 1 fun v7 => ?_
  refine sA 2 z31 fun v8 => ?_
  refine sA 3 z57 fun v9 => ?_
  refine tr tbk 9 (.mk ?_)
  obtain ⟨x10, e10, h0⟩ := bind_e h0
  refine sC cal125 (d_stock_place_c e10) ?_
  refine tr tbk 6 (.mk ?_)
  refine nb tbk h0 fun x11 h0 => ?_
  refine tr tbk 1 (.mk ?_)
  replace h0 := asrt_e h0
  obtain ⟨rfl, h0⟩ := h0
  refine tc tbk 3 (.mk ?_)
  refine c_drawE [0, 1, 3, 0, 15, 31, 0, 127, 255, 0, 512, 1536, 0, 7680, 15872, 0, 65024, 130560, 0, 262144, 0, 1835008, 3932160, 8126464, 0, 33292288, 66846720, 0, 0, 536870911, 1073741823, 2147483647, 2147483647, 2147483647, 2147483647, 0, 38654705663, 111669149695, 257698037759, 549755813887] (rl [(0, [1]), (1, [1]), (2, [1]), (9, [1]), (10, [1]), (11, [1]), (18, [1]), (19, [1])] []) (rl [(36, []), (37, [])] [1]) (rl [(35, false), (36, false), (37, false)] true) [0, 1, 2, 3, 4, 5, 6, 7, 8, 9, 10, 11, 12, 13, 14, 15, 16, 17, 18, 19, 20, 21, 22, 23, 24, 25, 26, 27, 28, 29, 30, 31, 32, 33, 34, 35, 36, 37, 38, 39] mixed (by kernel_rfl) ?_; intro K hK
  refine eF fo31_0 ?_
  refine eF fo25_3 ?_
  refine eL sh23 ?_
  refine eM ?_
  obtain ⟨x12, e12, h0⟩ := bind_e h0
  refine eP (fun H hH => yv_ixT rfl Tryz.underlying23 sh22 rfl rfl e12) ?_
  refine eP (fun H hH => yv_load rfl sh22 rfl (.pp _) rfl) ?_
  refine eM ?_
  obtain ⟨x13, e13, h0⟩ := bind_e h0
  refine eP (fun H hH => yv_ixT rfl Tryz.underlying22 sh3 rfl rfl e13) ?_
  refine eP (fun H hH => yv_load rfl sh3 rfl (.pp _) rfl) ?_
  refine eF fo31_0 ?_
  refine eF fo25_4 ?_
  refine eL sh23 ?_
  refine eM ?_
  obtain ⟨x14, e14, h0⟩ := bind_e h0
  refine eP (fun H hH => yv_ixT rfl Tryz.underlying23 sh22 rfl rfl e14) ?_
  refine eP (fun H hH => yv_load rfl sh22 rfl (.pp _) rfl) ?_
  refine eM ?_
  obtain ⟨x15, e15, h0⟩ := bind_e h0
  refine eP (fun H hH => yv_ixT rfl Tryz.underlying22 sh3 rfl rfl e15) ?_
  refine eP (fun H hH => yv_load rfl sh3 rfl (.pp _) rfl) ?_
  refine eF fo31_1 ?_
  refine eL sh26 ?_
  refine eM ?_
  obtain ⟨x16, e16, h0⟩ := bind_e h0
  refine eP (fun H hH => yv_to (y := .pp [int x16.Now, boo x16.Closed, lst 4 GPool.av x16.Pools, lst 1 fI x16.Bal, lst 11 GRoll.av x16.Rolls, lst 1 fI x16.Prices, lst 1 fI x16.Down, lst 8 GEnt.av x16.Ahead]) (yv_ixT rfl Tryz.underlying26 sh46 rfl rfl e16) (congrArg AV.pp (GEnt.av_eq x16))) ?_
  refine eP (fun H hH => yv_fieldAddr rfl fo46_2 rfl (.pp _) (.pp _ _)) ?_
  refine eP (fun H hH => yv_load rfl sh43 rfl (.pp _) rfl) ?_
  refine eM ?_
  obtain ⟨x17, e17, h0⟩ := bind_e h0
  refine eP (fun H hH => yv_ixT rfl Tryz.underlying43 sh98 rfl rfl e17) ?_
  refine eP (fun H hH => yv_load rfl sh98 rfl (.pp _) rfl) ?_
  iterate 2 refine eM ?_
  obtain ⟨x18, e18, h0⟩ := bind_e h0
  refine eP (fun H hH => yv_callP rfl rfl (.cons rfl (.cons rfl (.cons rfl (.cons rfl (.cons rfl .nil))))) cal209 (CvL.refl _) (d_pool_Out_c e18)) ?_
  refine eM ?_
  iterate 4 refine eX ?_
  refine de_eff rfl rfl rfl rfl (yl_alloc 4 .any rfl z98 rfl) (by rintro _ _ ⟨v19, -, rfl, rfl⟩; exact ⟨rfl, trivial⟩) ?_; rintro _ _ ⟨v19, -, rfl, rfl⟩
  refine de_eff0 rfl rfl rfl rfl (Yield.weak (yl_ob (ob' := (⟨98, 4, true, true, v19, [[lst 3 GLayer.av x18.1.Layers, int x18.1.Pend.a0, int x18.1.Pend.a1, int x18.1.Pend.a2]]⟩ : AObj)) (yl_store rfl sh98 rfl rfl rfl rfl rfl rfl rfl rfl rfl) rfl) (fun _ h => h) (fun _ _ => trivial)) (by rintro _ _ ⟨rfl, rfl⟩; exact trivial) ?_; rintro _ _ ⟨rfl, rfl⟩
  refine de_eff0 rfl rfl rfl rfl (Yield.weak (yl_ob (ob' := (⟨57, 3, true, true, v9, [[int x18.2.1.Qty, int x18.2.1.Value, int x18.2.1.Profit]]⟩ : AObj)) (yl_store rfl sh57 rfl rfl rfl rfl rfl rfl rfl rfl rfl) rfl) (fun _ h => h) (fun _ _ => trivial)) (by rintro _ _ ⟨rfl, rfl⟩; exact trivial) ?_; rintro _ _ ⟨rfl, rfl⟩
  obtain ⟨x20, e20, h0⟩ := bnd_e h0
  refine eP (fun H hH => yv_to (y := boo x20) (yv_assign rfl rfl) (congrArg boo e20)) ?_
  refine eA ?_
  refine de_nil (hK _ ?_)
  refine tc tbk 4 (.mk ?_)
  refine nb tbk h0 fun x21 h0 => ?_
  refine tr tbk 1 (.mk ?_)
  cases x21
  replace h0 := cf h0
  refine tc tbk 5 (.mk ?_)
  refine sY (yv_build (cs := (GState.av a1)) (ps := [(0, _)]) rfl pl173 z173 rfl (.cons rfl .nil) (by kernel_rfl)) ?_
  refine sA 5 z173 fun v22 => ?_
  refine sS ⟨173, 10, true, true, v22, [(GState.av a1)]⟩ sh173 ?_
  refine tr tbk 6 (.mk ?_)
  obtain ⟨j23, h1, h0⟩ := bind_e h0
  refine rse (Out := fun y H' => (∃ (a : Int × Bool × (List Int) × (List GRoll) × (List Int) × (List Int) × (List GEnt) × (List GPool)) (k : Nat × Nat), a = j23 ∧ y = .tup [] ∧ H' = hk [(1, ⟨31, 10, true, true, v7, [(GState.av a1)]⟩), (2, ⟨31, 10, true, true, v8, [[int 0, int 0, .sc (.slice none 0 0), .sc (.slice none 0 0), .sc (.slice none 0 0), .sc (.slice none 0 0), .sc (.slice none 0 0), .sc (.slice none 0 0), .sc (.slice none 0 0), int 0]]⟩), (3, ⟨57, 3, true, true, v9, [[int x18.2.1.Qty, int x18.2.1.Value, int x18.2.1.Profit]]⟩), (4, ⟨98, 4, true, true, v19, [[lst 3 GLayer.av x18.1.Layers, int x18.1.Pend.a0, int x18.1.Pend.a1, int x18.1.Pend.a2]]⟩), (5, ⟨173, 10, true, true, v22, [[int a1.Master.Entities, int a1.Master.Periods, lst 1 fI a1.Master.Weights, lst 1 (fL 1 fI) a1.Master.Methods, lst 1 (fL 1 fI) a1.Master.Costs, .sl 7 k.1 0 a1.Ents.length, lst 8 GReceipt.av a1.Receipts, lst 9 GSale.av a1.Sales, lst 6 GTransit.av a1.Transits, int a1.Done]]⟩), (7, ⟨46, 8, true, true, k.1, (a1.Ents.map GEnt.av).set (Int.toNat a2) [int a.1, boo a.2.1, .sl 8 k.2 0 a.2.2.2.2.2.2.2.length, lst 1 fI a.2.2.1, lst 11 GRoll.av a.2.2.2.1, lst 1 fI a.2.2.2.2.1, lst 1 fI a.2.2.2.2.2.1, lst 8 GEnt.av a.2.2.2.2.2.2.1]⟩), (8, ⟨98, 4, true, true, k.2, a.2.2.2.2.2.2.2.map GPool.av⟩)])) rfl rfl rfl (yl_call rfl rfl (.cons rfl (.cons rfl (.cons rfl (.cons rfl .nil)))) cal127 ?_) ?_
  refine pcw (c := _) Tryz.func127 rfl rfl ?_; intro Q hret hnorm
  refine tc tbk 2 (.mk ?_)
  refine sB 6 fun v24 => ?_
  refine tr tbk 5 (.mk ?_)
  obtain ⟨j25, h2, h1⟩ := bind_e h1
  refine rse (Out := fun y H' => (∃ (a : Unit) (k : Nat), a = j25 ∧ y = .pt 7 k (Int.toNat a2) 0 ∧ H' = hk [(1, ⟨31, 10, true, true, v7, [(GState.av a1)]⟩), (2, ⟨31, 10, true, true, v8, [[int 0, int 0, .sc (.slice none 0 0), .sc (.slice none 0 0), .sc (.slice none 0 0), .sc (.slice none 0 0), .sc (.slice none 0 0), .sc (.slice none 0 0), .sc (.slice none 0 0), int 0]]⟩), (3, ⟨57, 3, true, true, v9, [[int x18.2.1.Qty, int x18.2.1.Value, int x18.2.1.Profit]]⟩), (4, ⟨98, 4, true, true, v19, [[lst 3 GLayer.av x18.1.Layers, int x18.1.Pend.a0, int x18.1.Pend.a1, int x18.1.Pend.a2]]⟩), (5, ⟨173, 10, true, true, v22, [[int a1.Master.Entities, int a1.Master.Periods, lst 1 fI a1.Master.Weights, lst 1 (fL 1 fI) a1.Master.Methods, lst 1 (fL 1 fI) a1.Master.Costs, .sl 7 k 0 a1.Ents.length, lst 8 GReceipt.av a1.Receipts, lst 9 GSale.av a1.Sales, lst 6 GTransit.av a1.Transits, int a1.Done]]⟩), (6, ⟨98, 4, true, true, v24, [[lst 3 GLayer.av x18.1.Layers, int x18.1.Pend.a0, int x18.1.Pend.a1, int x18.1.Pend.a2]]⟩), (7, ⟨46, 8, true, true, k, a1.Ents.map GEnt.av⟩)])) rfl rfl rfl (yl_call rfl rfl (.cons rfl (.cons rfl .nil)) cal131 ?_) ?_
  refine pcw (c := _) Tryz.func131 rfl rfl ?_; intro Q hret hnorm
  refine tc tbk 12 (.mk ?_)
  obtain ⟨p26, h2⟩ := asrt_e h2
  refine rse rfl rfl rfl (yl_call rfl rfl (.cons rfl .nil) cal52 (pc_cv (clone52_c (id := 7) (l := a1.Ents) rfl p26) (.cons (.refl _) .nil))) ?_; rintro _ _ ⟨v27, rfl, rfl⟩
  refine tr tbk 3 (.mk ?_)
  refine sS ⟨173, 10, true, true, v22, [[int a1.Master.Entities, int a1.Master.Periods, lst 1 fI a1.Master.Weights, lst 1 (fL 1 fI) a1.Master.Methods, lst 1 (fL 1 fI) a1.Master.Costs, .sl 7 v27 0 a1.Ents.length, lst 8 GReceipt.av a1.Receipts, lst 9 GSale.av a1.Sales, lst 6 GTransit.av a1.Transits, int a1.Done]]⟩ sh26 ?_
  refine tr tbk 9 (.mk ?_)
  obtain ⟨x28, e28, h2⟩ := bind_e h2
  refine sY (yv_ixO rfl Tryz.underlying26 sh46 rfl rfl rfl rfl rfl (Eq.symm rfl) (List.length_map _) e28) ?_
  refine tr tbk 2 (.mk ?_)
  obtain rfl := nxt_e h2
  refine w_ret (hret _ _ (hk [(1, ⟨31, 10, true, true, v7, [(GState.av a1)]⟩), (2, ⟨31, 10, true, true, v8, [[int 0, int 0, .sc (.slice none 0 0), .sc (.slice none 0 0), .sc (.slice none 0 0), .sc (.slice none 0 0), .sc (.slice none 0 0), .sc (.slice none 0 0), .sc (.slice none 0 0), int 0]]⟩), (3, ⟨57, 3, true, true, v9, [[int x18.2.1.Qty, int x18.2.1.Value, int x18.2.1.Profit]]⟩), (4, ⟨98, 4, true, true, v19, [[lst 3 GLayer.av x18.1.Layers, int x18.1.Pend.a0, int x18.1.Pend.a1, int x18.1.Pend.a2]]⟩), (5, ⟨173, 10, true, true, v22, [[int a1.Master.Entities, int a1.Master.Periods, lst 1 fI a1.Master.Weights, lst 1 (fL 1 fI) a1.Master.Methods, lst 1 (fL 1 fI) a1.Master.Costs, .sl 7 v27 0 a1.Ents.length, lst 8 GReceipt.av a1.Receipts, lst 9 GSale.av a1.Sales, lst 6 GTransit.av a1.Transits, int a1.Done]]⟩), (6, ⟨98, 4, true, true, v24, [[lst 3 GLayer.av x18.1.Layers, int x18.1.Pend.a0, int x18.1.Pend.a1, int x18.1.Pend.a2]]⟩), (7, ⟨46, 8, true, true, v27, a1.Ents.map GEnt.av⟩)]) (.tmp rfl .nil) (HK.le ⟨rfl, rfl, rfl, rfl, rfl, rfl, rfl, trivial⟩) ?_)
  exact ⟨(), v27, rfl, rfl, rfl⟩
  rintro y _ ⟨_, w0_1, rfl, hc, rfl⟩
  subst hc
  refine tr tbk 6 (.mk ?_)
  obtain ⟨x29, e29, h1⟩ := bind_e h1
  refine sY (yv_nilCheck rfl rfl (.pt rfl rfl (ix_get' e29 (GEnt.av_eq _)))) ?_
  refine sY (yv_fieldAddr rfl fo46_2 rfl (.pt rfl rfl (ix_get' e29 (GEnt.av_eq _))) (.pt _ _ _ _ _)) ?_
  refine sY (yv_load rfl sh43 rfl (.pt rfl rfl (ix_get' e29 (GEnt.av_eq _))) rfl) ?_
  obtain ⟨p30, h1⟩ := asrt_e h1
  refine rse rfl rfl rfl (yl_call rfl rfl (.cons rfl .nil) cal96 (pc_cv (clone96_c (id := 8) (l := x29.Pools) rfl p30) (.cons (.refl _) .nil))) ?_; rintro _ _ ⟨v31, rfl, rfl⟩
  refine sY (yv_nilCheck rfl rfl (.pt rfl rfl (ix_get' e29 (GEnt.av_eq _)))) ?_
  refine sY (yv_fieldAddr rfl fo46_2 rfl (.pt rfl rfl (ix_get' e29 (GEnt.av_eq _))) (.pt _ _ _ _ _)) ?_
  refine rsstore rfl rfl (yl_ob (ob' := (⟨46, 8, true, true, w0_1, (a1.Ents.map GEnt.av).set (Int.toNat a2) [int x29.Now, boo x29.Closed, .sl 8 v31 0 x29.Pools.length, lst 1 fI x29.Bal, lst 11 GRoll.av x29.Rolls, lst 1 fI x29.Prices, lst 1 fI x29.Down, lst 8 GEnt.av x29.Ahead]⟩ : AObj)) (yl_store rfl sh43 rfl rfl rfl rfl rfl (ix_get' e29 (GEnt.av_eq _)) rfl rfl rfl) (ob_eq rfl)) ?_
  refine tr tbk 1 (.mk ?_)
  refine c_drawE [0, 1, 3, 7, 0, 0, 63, 127] (rl [(1, [7]), (2, [7]), (3, [7]), (5, [6]), (6, [8])] []) (rl [(7, [])] [6, 7, 8]) (rl [(7, false)] true) [0, 1, 2, 3, 4, 5, 6, 7] mixed (by kernel_rfl) ?_; intro K hK
  refine eM ?_
  refine eN (hr := set_get e29) ?_
  refine eF fo46_2 (hr := set_get e29) ?_
  refine eL sh43 (hr := set_get e29) ?_
  refine eM ?_
  refine eL sh98 ?_
  obtain ⟨x32, e32, h1⟩ := bind_e h1
  refine de_pure rfl rfl rfl rfl (fun H hH => yv_ixO rfl Tryz.underlying43 sh98 rfl rfl ((hH _ (by decide)).trans rfl) rfl rfl (Eq.symm rfl) (List.length_map _) e32) ?_
  obtain ⟨x33, e33, h1⟩ := bnd_e h1
  have fx33 := ix_set e32 e33; have lx33 := len_setV e33 (rfl : x29.Pools.length = x29.Pools.length)
  refine de_eff0 rfl rfl rfl rfl (Yield.weak (yl_ob (ob' := (⟨98, 4, true, true, v31, x33.map GPool.av⟩ : AObj)) (yl_store rfl sh98 rfl rfl rfl rfl rfl (ix_get e32) rfl rfl rfl) (ob_eq (map_setV e33))) (fun _ h => h) (fun _ _ => trivial)) (by rintro _ _ ⟨rfl, rfl⟩; exact trivial) ?_; rintro _ _ ⟨rfl, rfl⟩
  refine de_nil (hK _ ?_)
  obtain rfl := nxt_e h1
  refine c_nil (hnorm _ _ (hk [(1, ⟨31, 10, true, true, v7, [(GState.av a1)]⟩), (2, ⟨31, 10, true, true, v8, [[int 0, int 0, .sc (.slice none 0 0), .sc (.slice none 0 0), .sc (.slice none 0 0), .sc (.slice none 0 0), .sc (.slice none 0 0), .sc (.slice none 0 0), .sc (.slice none 0 0), int 0]]⟩), (3, ⟨57, 3, true, true, v9, [[int x18.2.1.Qty, int x18.2.1.Value, int x18.2.1.Profit]]⟩), (4, ⟨98, 4, true, true, v19, [[lst 3 GLayer.av x18.1.Layers, int x18.1.Pend.a0, int x18.1.Pend.a1, int x18.1.Pend.a2]]⟩), (5, ⟨173, 10, true, true, v22, [[int a1.Master.Entities, int a1.Master.Periods, lst 1 fI a1.Master.Weights, lst 1 (fL 1 fI) a1.Master.Methods, lst 1 (fL 1 fI) a1.Master.Costs, .sl 7 w0_1 0 a1.Ents.length, lst 8 GReceipt.av a1.Receipts, lst 9 GSale.av a1.Sales, lst 6 GTransit.av a1.Transits, int a1.Done]]⟩), (7, ⟨46, 8, true, true, w0_1, (a1.Ents.map GEnt.av).set (Int.toNat a2) [int x29.Now, boo x29.Closed, .sl 8 v31 0 x33.length, lst 1 fI x29.Bal, lst 11 GRoll.av x29.Rolls, lst 1 fI x29.Prices, lst 1 fI x29.Down, lst 8 GEnt.av x29.Ahead]⟩), (8, ⟨98, 4, true, true, v31, x33.map GPool.av⟩)]) .nil (HK.le ⟨rfl, rfl, rfl, rfl, rfl, (by first | rfl | exact lx33 ▸ rfl), rfl, trivial⟩) ?_)
  exact ⟨(x29.Now, x29.Closed, x29.Bal, x29.Rolls, x29.Prices, x29.Down, x29.Ahead, x33), (w0_1, v31), rfl, rfl, rfl⟩
  rintro y _ ⟨⟨y1_2, y1_3, y1_5, y1_6, y1_7, y1_8, y1_9, y1_10⟩, ⟨w1_1, w1_4⟩, rfl, hc, rfl⟩
  replace h0 := p2_e h0
  replace h0 := p2_e h0
  replace h0 := p2_e h0
  replace h0 := p2_e h0
  replace h0 := p2_e h0
  replace h0 := p2_e h0
  replace h0 := p2_e h0
  subst hc
  obtain ⟨x34, e34, h0⟩ := bind_e h0
  refine tr tbk 2 (.mk ?_)
  refine c_drawE [0, 1, 0, 0, 3, 23, 63, 127] (rl [(0, [5]), (1, [5]), (2, [3])] []) (rl [(4, [3]), (5, [])] [3, 5]) (rl [(4, false), (5, false)] true) [0, 1, 2, 3, 4, 5, 6, 7] mixed (by kernel_rfl) ?_; intro K hK
  refine eF fo173_0 ?_
  refine eL sh31 ?_
  refine eL sh57 ?_
  refine eM ?_
  refine de_eff0 rfl rfl rfl rfl (Yield.weak (yl_ob (ob' := (⟨31, 10, true, true, v8, [[int a1.Master.Entities, int a1.Master.Periods, lst 1 fI a1.Master.Weights, lst 1 (fL 1 fI) a1.Master.Methods, lst 1 (fL 1 fI) a1.Master.Costs, .sl 7 w1_1 0 a1.Ents.length, lst 8 GReceipt.av a1.Receipts, lst 9 GSale.av a1.Sales, lst 6 GTransit.av a1.Transits, int a1.Done]]⟩ : AObj)) (yl_store rfl sh31 rfl rfl rfl rfl rfl rfl rfl rfl rfl) rfl) (fun _ h => h) (fun _ _ => trivial)) (by rintro _ _ ⟨rfl, rfl⟩; exact ⟨rfl, trivial⟩) ?_; rintro _ _ ⟨rfl, rfl⟩
  refine de_eff0 rfl rfl rfl rfl (Yield.weak (yl_ob (ob' := (⟨57, 3, true, true, v9, [[int x18.2.1.Qty, int x18.2.1.Value, int x18.2.1.Profit]]⟩ : AObj)) (yl_store rfl sh57 rfl rfl rfl rfl rfl rfl rfl rfl rfl) rfl) (fun _ h => h) (fun _ _ => trivial)) (by rintro _ _ ⟨rfl, rfl⟩; exact trivial) ?_; rintro _ _ ⟨rfl, rfl⟩
  iterate 2 refine eA ?_
  refine de_nil (hK _ ?_)
  obtain rfl := nxt_e h0
  refine wR hret (rC sh31 (rC sh57 (rT (rT .nil)))) ?_
  exact CvL.tup (.cons (CvL.agg (.cons (.refl _) (.cons (.refl _) (.cons (.refl _) (.cons (.refl _) (.cons (.refl _) (.cons (cv_ov rfl rfl rfl rfl rfl (Eq.symm rfl) e34 (cvl_to (.cons (.refl _) (.cons (.refl _) (.cons (cv_lst rfl rfl rfl rfl rfl (Eq.symm rfl)) (.cons (.refl _) (.cons (.refl _) (.cons (.refl _) (.cons (.refl _) (.cons (.refl _) .nil)))))))) (GEnt.av_eq _))) (.cons (.refl _) (.cons (.refl _) (.cons (.refl _) (.cons (.refl _) .nil))))))))))) (.cons (.refl _) (.cons (.refl _) (.cons (.refl _) .nil))))
  replace h0 := ct h0
  refine tc tbk 6 (.mk ?_)
  refine sS ⟨31, 10, true, true, v8, [(GState.av a1)]⟩ sh31 ?_
  refine sS ⟨57, 3, true, true, v9, [[int 0, int 0, int 0]]⟩ sh57 ?_
  refine tr tbk 3 (.mk ?_)
  obtain rfl := nxt_e h0
  refine wR hret (rC sh31 (rC sh57 (rT (rT .nil)))) ?_
  exact .refl _
def d_sell_line (a1 : Int) (a2 : Int) : Option (GLine) :=
some (((⟨a1, a2⟩ : GLine) : GLine))
theorem d_sell_line_c {a1 : Int} {a2 : Int} {r : GLine} (h0 : d_sell_line a1 a2 = some r) : PP Tryz.prog 137 [int a1, int a2] (fun y => y = .agg (GLine.av r)) := by
  unfold d_sell_line at h0
  refine pp_of_pc (R0 := fun y H => Cv (frzH H) y (.agg (GLine.av r))) ?_ (fun y H hc => ⟨_, rfl, (fun (a : GLine) => PV.agg (GLine.pvc a)) r, hc⟩)
  refine pcw (c := _) Tryz.func137 rfl rfl ?_; intro Q hret hnorm
  refine tc tbk 2 (.mk ?_)
  refine sA 1 z125 fun v3 => ?_
  refine tr tbk 6 (.mk ?_)
  refine sS ⟨125, 2, true, true, v3, [[int a1, int a2]]⟩ sh125 ?_
  refine tr tbk 1 (.mk ?_)
  obtain rfl := nxt_e h0
  refine wR hret (rC sh125 .nil) ?_
  exact .refl _
def d_voucher_is (a1 : Int) : Option (Bool) :=
(show Option (Bool) from
bnd (decide (a1 ≥ 0)) fun x3 =>
cond x3 (bnd (decide (a1 < 17)) fun x4 =>
some (x4 : Bool)) (some (false : Bool))).bind <| fun y0_1 =>
some ((y0_1 : Bool))
theorem d_voucher_is_c {a1 : Int} {r : Bool} (h0 : d_voucher_is a1 = some r) : PP Tryz.prog 198 [int a1] (fun y => y = boo r) := by
  unfold d_voucher_is at h0
  refine pp_of_pc (R0 := fun y H => Cv (frzH H) y (boo r)) ?_ (fun y H hc => ⟨_, rfl, pvB r, hc⟩)
  refine pcw (c := _) Tryz.func198 rfl rfl ?_; intro Q hret hnorm
  refine tc tbk 5 (.mk ?_)
  refine jn h0 [] [] (fun (a : Bool) (k : Unit) => [(2, boo a)]) (fun a k => []) ⟨fun j2 h1 => ?_, ?_⟩
  refine tc tbk 2 (.mk ?_)
  refine nb tbk h1 fun x3 h1 => ?_
  refine tr tbk 1 (.mk ?_)
  cases x3
  replace h1 := cf h1
  refine tr tbk 5 (.mk ?_)
  exact lf h1 () leA
  replace h1 := ct h1
  refine tr tbk 1 (.mk ?_)
  refine nb tbk h1 fun x4 h1 => ?_
  refine tr tbk 3 (.mk ?_)
  exact lf h1 () leA
  rintro y0_1 _ h0
  obtain rfl := nxt_e h0
  refine wR hret (rT .nil) ?_
  exact .refl _
def d_voucher_in (a1 : Int) : Option (Bool) :=
(show Option (Bool) from
bnd (decide (a1 ≥ (-288230376151711744))) fun x3 =>
cond x3 (bnd (decide (a1 ≤ 288230376151711744)) fun x4 =>
some (x4 : Bool)) (some (false : Bool))).bind <| fun y0_1 =>
some ((y0_1 : Bool))
theorem d_voucher_in_c {a1 : Int} {r : Bool} (h0 : d_voucher_in a1 = some r) : PP Tryz.prog 199 [int a1] (fun y => y = boo r) := by
  unfold d_voucher_in at h0
  refine pp_of_pc (R0 := fun y H => Cv (frzH H) y (boo r)) ?_ (fun y H hc => ⟨_, rfl, pvB r, hc⟩)
  refine pcw (c := _) Tryz.func199 rfl rfl ?_; intro Q hret hnorm
  refine tc tbk 5 (.mk ?_)
  refine jn h0 [] [] (fun (a : Bool) (k : Unit) => [(2, boo a)]) (fun a k => []) ⟨fun j2 h1 => ?_, ?_⟩
  refine tc tbk 2 (.mk ?_)
  refine nb tbk h1 fun x3 h1 => ?_
  refine tr tbk 1 (.mk ?_)
  cases x3
  replace h1 := cf h1
  refine tr tbk 5 (.mk ?_)
  exact lf h1 () leA
  replace h1 := ct h1
  refine tr tbk 1 (.mk ?_)
  refine nb tbk h1 fun x4 h1 => ?_
  refine tr tbk 3 (.mk ?_)
  exact lf h1 () leA
  rintro y0_1 _ h0
  obtain rfl := nxt_e h0
  refine wR hret (rT .nil) ?_
  exact .refl _
def d_voucher_Plain_1 (a1 : GLine) : Option (Bool) :=
(show Option (Bool) from
(d_voucher_is a1.Account).bind fun x4 =>
bnd (!x4) fun x5 =>
cond x5 (some (true : Bool)) ((d_voucher_in a1.Amount).bind fun x6 =>
bnd (!x6) fun x7 =>
some (x7 : Bool))).bind <| fun y0_1 =>
some ((y0_1 : Bool))
theorem d_voucher_Plain_1_c {a1 : GLine} {r : Bool} (h0 : d_voucher_Plain_1 a1 = some r) : PP Tryz.prog 197 [.agg (GLine.av a1)] (fun y => y = boo r) := by
  unfold d_voucher_Plain_1 at h0
  refine pp_of_pc (R0 := fun y H => Cv (frzH H) y (boo r)) ?_ (fun y H hc => ⟨_, rfl, pvB r, hc⟩)
  refine pcw (c := _) Tryz.func197 rfl rfl ?_; intro Q hret hnorm
  refine tc tbk 2 (.mk ?_)
  refine sB 1 fun v2 => ?_
  refine tr tbk 3 (.mk ?_)
  refine jn h0 [] [] (fun (a : Bool) (k : Unit) => [(2, boo a)]) (fun a k => []) ⟨fun j3 h1 => ?_, ?_⟩
  refine tc tbk 3 (.mk ?_)
  obtain ⟨x4, e4, h1⟩ := bind_e h1
  refine sC cal198 (d_voucher_is_c e4) ?_
  refine nb tbk h1 fun x5 h1 => ?_
  refine tr tbk 1 (.mk ?_)
  cases x5
  replace h1 := cf h1
  refine tr tbk 2 (.mk ?_)
  obtain ⟨x6, e6, h1⟩ := bind_e h1
  refine sC cal199 (d_voucher_in_c e6) ?_
  refine nb tbk h1 fun x7 h1 => ?_
  refine tr tbk 3 (.mk ?_)
  exact lf h1 () leA
  replace h1 := ct h1
  refine tr tbk 7 (.mk ?_)
  exact lf h1 () leA
  rintro y0_1 _ h0
  obtain rfl := nxt_e h0
  refine wR hret (rT .nil) ?_
  exact .refl _
def d_voucher_Plain_2 (a1 : GLine) : Option (Int) :=
some ((a1.Account : Int))
theorem d_voucher_Plain_2_c {a1 : GLine} {r : Int} (h0 : d_voucher_Plain_2 a1 = some r) : PP Tryz.prog 202 [.agg (GLine.av a1)] (fun y => y = int r) := by
  unfold d_voucher_Plain_2 at h0
  refine pp_of_pc (R0 := fun y H => Cv (frzH H) y (int r)) ?_ (fun y H hc => ⟨_, rfl, pvI r, hc⟩)
  refine pcw (c := _) Tryz.func202 rfl rfl ?_; intro Q hret hnorm
  refine tc tbk 2 (.mk ?_)
  refine sB 1 fun v2 => ?_
  refine tr tbk 8 (.mk ?_)
  obtain rfl := nxt_e h0
  refine wR hret (rT .nil) ?_
  exact .refl _
def d_cmp_isNaN_int (a1 : Int) : Option (Bool) :=
bnd (decide (a1 ≠ a1)) fun x2 =>
some ((x2 : Bool))
theorem d_cmp_isNaN_int_c {a1 : Int} {r : Bool} (h0 : d_cmp_isNaN_int a1 = some r) : PP Tryz.prog 255 [int a1] (fun y => y = boo r) := by
  unfold d_cmp_isNaN_int at h0
  refine pp_of_pc (R0 := fun y H => Cv (frzH H) y (boo r)) ?_ (fun y H hc => ⟨_, rfl, pvB r, hc⟩)
  refine pcw (c := _) Tryz.func255 rfl rfl ?_; intro Q hret hnorm
  refine tc tbk 8 (.mk ?_)
  refine nb tbk h0 fun x2 h0 => ?_
  refine tr tbk 2 (.mk ?_)
  obtain rfl := nxt_e h0
  refine wR hret (rT .nil) ?_
  exact .refl _
def d_cmp_Compare_int (a1 : Int) (a2 : Int) : Option (Int) :=
(d_cmp_isNaN_int a1).bind fun x3 =>
(d_cmp_isNaN_int a2).bind fun x4 =>
cond x3 (cond x4 (some ((0 : Int))) (some (((-1) : Int)))) (cond x4 (some ((1 : Int))) (bnd (decide (a1 < a2)) fun x5 =>
cond x5 (some (((-1) : Int))) (bnd (decide (a1 > a2)) fun x6 =>
cond x6 (some ((1 : Int))) (some ((0 : Int))))))
theorem d_cmp_Compare_int_c {a1 : Int} {a2 : Int} {r : Int} (h0 : d_cmp_Compare_int a1 a2 = some r) : PP Tryz.prog 222 [int a1, int a2] (fun y => y = int r) := by
  unfold d_cmp_Compare_int at h0
  refine pp_of_pc (R0 := fun y H => Cv (frzH H) y (int r)) ?_ (fun y H hc => ⟨_, rfl, pvI r, hc⟩)
  refine pcw (c := _) Tryz.func222 rfl rfl ?_; intro Q hret hnorm
  refine tc tbk 7 (.mk ?_)
  obtain ⟨x3, e3, h0⟩ := bind_e h0
  refine sC cal255 (d_cmp_isNaN_int_c e3) ?_
  refine tr tbk 5 (.mk ?_)
  obtain ⟨x4, e4, h0⟩ := bind_e h0
  refine sC cal255 (d_cmp_isNaN_int_c e4) ?_
  refine tr tbk 7 (.mk ?_)
  cases x3
  replace h0 := cf h0
  refine tc tbk 7 (.mk ?_)
  cases x4
  replace h0 := cf h0
  refine tc tbk 7 (.mk ?_)
  refine nb tbk h0 fun x5 h0 => ?_
  refine tr tbk 1 (.mk ?_)
  cases x5
  replace h0 := cf h0
  refine tc tbk 7 (.mk ?_)
  refine nb tbk h0 fun x6 h0 => ?_
  refine tr tbk 1 (.mk ?_)
  cases x6
  replace h0 := cf h0
  refine tc tbk 6 (.mk ?_)
  obtain rfl := nxt_e h0
  refine wR hret (rT .nil) ?_
  exact .refl _
  replace h0 := ct h0
  refine tc tbk 5 (.mk ?_)
  obtain rfl := nxt_e h0
  refine wR hret (rT .nil) ?_
  exact .refl _
  replace h0 := ct h0
  refine tc tbk 5 (.mk ?_)
  obtain rfl := nxt_e h0
  refine wR hret (rT .nil) ?_
  exact .refl _
  replace h0 := ct h0
  refine tc tbk 5 (.mk ?_)
  obtain rfl := nxt_e h0
  refine wR hret (rT .nil) ?_
  exact .refl _
  replace h0 := ct h0
  refine tc tbk 6 (.mk ?_)
  cases x4
  replace h0 := cf h0
  refine tc tbk 6 (.mk ?_)
  obtain rfl := nxt_e h0
  refine wR hret (rT .nil) ?_
  exact .refl _
  replace h0 := ct h0
  refine tc tbk 5 (.mk ?_)
  obtain rfl := nxt_e h0
  refine wR hret (rT .nil) ?_
  exact .refl _
def d_voucher_Plain_3 (a1 : GLine) : Option (Bool) :=
bnd (decide (a1.Amount = 0)) fun x3 =>
some ((x3 : Bool))
theorem d_voucher_Plain_3_c {a1 : GLine} {r : Bool} (h0 : d_voucher_Plain_3 a1 = some r) : PP Tryz.prog 204 [.agg (GLine.av a1)] (fun y => y = boo r) := by
  unfold d_voucher_Plain_3 at h0
  refine pp_of_pc (R0 := fun y H => Cv (frzH H) y (boo r)) ?_ (fun y H hc => ⟨_, rfl, pvB r, hc⟩)
  refine pcw (c := _) Tryz.func204 rfl rfl ?_; intro Q hret hnorm
  refine tc tbk 2 (.mk ?_)
  refine sB 1 fun v2 => ?_
  refine tr tbk 6 (.mk ?_)
  refine nb tbk h0 fun x3 h0 => ?_
  refine tr tbk 2 (.mk ?_)
  obtain rfl := nxt_e h0
  refine wR hret (rT .nil) ?_
  exact .refl _
def d_voucher_Plain_L0 (a1 : List GLine) : Nat → Int → Option ((Unit) ⊕ ((Int)))
  | 0, _ => none
  | n + 1, y0_1 =>
    bnd (decide (y0_1 < (a1.length : Int))) fun x5 =>
    cond x5 ((ix a1 y0_1).bind fun x6 =>
    (d_voucher_Plain_1 x6).bind fun x7 =>
    cond x7 (esc (some (y0_1 : Int))) (bnd (w64 (y0_1 + 1)) fun x8 =>
    d_voucher_Plain_L0 a1 n (x8 : Int))) (brk ())
def d_voucher_Plain_L1 (a1 : List GLine) : Nat → Option (Unit)
  | 0 => none
  | n + 1 =>
    bnd (decide (20 ≤ (a1.length : Int))) fun x18 =>
    asrt (x18 = false) <|
    some ()
def d_voucher_Plain_L3 : Nat → Int → (List GLine) → Option ((List GLine))
  | 0, _, _ => none
  | n + 1, y7_1, y7_2 =>
    (show Option (Bool) from
    bnd (decide (y7_1 > 0)) fun x25 =>
    cond x25 ((ix y7_2 y7_1).bind fun x26 =>
    bnd (w64 (y7_1 - 1)) fun x27 =>
    (ix y7_2 x27).bind fun x28 =>
    (show Option ((Int)) from
    (d_voucher_Plain_2 x26).bind fun x32 =>
    (d_voucher_Plain_2 x28).bind fun x33 =>
    (d_cmp_Compare_int x32 x33).bind fun x34 =>
    some (x34 : Int)).bind <| fun y8_1 =>
    bnd (decide (y8_1 < 0)) fun x35 =>
    some (x35 : Bool)) (some (false : Bool))).bind <| fun y10_1 =>
    cond y10_1 (bnd (w64 (y7_1 - 1)) fun x36 =>
    bnd (w64 (y7_1 - 1)) fun x37 =>
    (ix y7_2 x37).bind fun x38 =>
    (ix y7_2 y7_1).bind fun x39 =>
    bnd (y7_2.set (Int.toNat y7_1) (x38 : GLine)) fun x40 =>
    (ix x40 x36).bind fun x41 =>
    bnd (x40.set (Int.toNat x36) (x39 : GLine)) fun x42 =>
    bnd (w64 (y7_1 - 1)) fun x43 =>
    d_voucher_Plain_L3 n (x43 : Int) (x42 : List GLine)) (some (y7_2 : List GLine))
def d_voucher_Plain_L2 (a1 : List GLine) : Nat → Int → (List GLine) → Option ((List GLine))
  | 0, _, _ => none
  | n + 1, y6_1, y6_2 =>
    bnd (decide (y6_1 < (a1.length : Int))) fun x21 =>
    cond x21 ((show Option ((List GLine)) from
    (show Option ((List GLine)) from
    d_voucher_Plain_L3 n (y6_1 : Int) (y6_2 : List GLine)).bind <| fun y11_1 =>
    some (y11_1 : List GLine)).bind <| fun y12_1 =>
    bnd (w64 (y6_1 + 1)) fun x44 =>
    d_voucher_Plain_L2 a1 n (x44 : Int) (y12_1 : List GLine)) (some (y6_2 : List GLine))
def d_voucher_Plain_L4 (a1 : List GLine) : Nat → Option (Unit)
  | 0 => none
  | n + 1 =>
    bnd (decide (20 < (a1.length : Int))) fun x47 =>
    asrt (x47 = false) <|
    some ()
def d_voucher_Plain_L5 (a1 : List GLine) (y19_1 : List GLine) : Nat → Int → (List GLine) → Option ((List GLine))
  | 0, _, _ => none
  | n + 1, y20_2, y20_3 =>
    bnd (decide (y20_2 < (a1.length : Int))) fun x51 =>
    cond x51 ((ix y19_1 y20_2).bind fun x52 =>
    bnd (w64 ((y20_3.length : Int) - 1)) fun x54 =>
    (show Option (Bool) from
    bnd (decide (x54 ≥ 0)) fun x56 =>
    cond x56 ((ix y20_3 x54).bind fun x57 =>
    bnd (decide (x57.Account = x52.Account)) fun x58 =>
    some (x58 : Bool)) (some (false : Bool))).bind <| fun y21_1 =>
    asrt (y21_1 = false) <|
    bnd (y20_3 ++ ([x52] : List GLine)) fun x59 =>
    asrt (x59.length ≤ 68719476736) <|
    bnd (w64 (y20_2 + 1)) fun x62 =>
    d_voucher_Plain_L5 a1 y19_1 n (x62 : Int) (x59 : List GLine)) (some (y20_3 : List GLine))
def d_voucher_Plain_L6 (y22_2 : List GLine) : Nat → Int → Option ((Unit) ⊕ ((Int)))
  | 0, _ => none
  | n + 1, y23_1 =>
    bnd (decide (y23_1 < (y22_2.length : Int))) fun x66 =>
    cond x66 ((ix y22_2 y23_1).bind fun x67 =>
    (d_voucher_Plain_3 x67).bind fun x68 =>
    cond x68 (esc (some (y23_1 : Int))) (bnd (w64 (y23_1 + 1)) fun x69 =>
    d_voucher_Plain_L6 y22_2 n (x69 : Int))) (brk ())
def d_voucher_Plain_L7 : Nat → Int → Int → (List GLine) → Option (Int × (List GLine))
  | 0, _, _, _ => none
  | n + 1, y26_1, y26_2, y26_3 =>
    bnd (decide (y26_2 < (y26_3.length : Int))) fun x74 =>
    cond x74 ((show Option (Int × (List GLine)) from
    (ix y26_3 y26_2).bind fun x76 =>
    (d_voucher_Plain_3 x76).bind fun x78 =>
    bnd (!x78) fun x79 =>
    cond x79 ((ix y26_3 y26_1).bind fun x80 =>
    bnd (y26_3.set (Int.toNat y26_1) (x76 : GLine)) fun x81 =>
    bnd (w64 (y26_1 + 1)) fun x82 =>
    some ((x82 : Int), (x81 : List GLine))) (some ((y26_1 : Int), (y26_3 : List GLine)))).bind <| p2 fun (y27_1 : Int) (y27_2 : List GLine) =>
    bnd (w64 (y26_2 + 1)) fun x83 =>
    d_voucher_Plain_L7 n (y27_1 : Int) (x83 : Int) (y27_2 : List GLine)) (some ((y26_1 : Int), (y26_3 : List GLine)))
def d_voucher_Plain (n : Nat) (a1 : List GLine) : Option ((List GLine) × Int) :=
(show Option ((Bool)) from
(show Option ((Int)) from
(show Option ((Unit) ⊕ ((Int))) from
d_voucher_Plain_L0 a1 n (0 : Int)).bind <| sel <| fun _ =>
some ((-1) : Int)).bind <| fun y2_1 =>
bnd (decide (y2_1 ≥ 0)) fun x10 =>
some (x10 : Bool)).bind <| fun y3_1 =>
asrt (y3_1 = false) <|
asrt (a1.length ≤ 68719476736) <|
(show Option (((List GLine))) from
(show Option (((List GLine))) from
(show Option (((List GLine))) from
(show Option (Unit) from
d_voucher_Plain_L1 a1 n).bind <| fun _ =>
(show Option (((List GLine))) from
(show Option ((List GLine)) from
d_voucher_Plain_L2 a1 n (1 : Int) (a1 : List GLine)).bind <| fun y13_1 =>
some (y13_1 : List GLine)).bind <| fun y14_1 =>
asrt (y14_1.length = a1.length) <|
(show Option (Unit) from
d_voucher_Plain_L4 a1 n).bind <| fun _ =>
some (y14_1 : List GLine)).bind <| fun y17_1 =>
some (y17_1 : List GLine)).bind <| fun y18_1 =>
some (y18_1 : List GLine)).bind <| fun y19_1 =>
asrt (y19_1.length = a1.length) <|
(show Option ((List GLine)) from
d_voucher_Plain_L5 a1 y19_1 n (0 : Int) (([] : List GLine) : List GLine)).bind <| fun y22_2 =>
(show Option ((Nat × Nat × (List GLine))) from
(show Option ((Int)) from
(show Option ((Unit) ⊕ ((Int))) from
d_voucher_Plain_L6 y22_2 n (0 : Int)).bind <| sel <| fun _ =>
some ((-1) : Int)).bind <| fun y25_1 =>
bnd (decide (y25_1 = (-1))) fun x71 =>
cond x71 (some ((0 : Nat), (y22_2.length : Nat), (y22_2 : List GLine))) (bnd (w64 (y25_1 + 1)) fun x72 =>
(show Option (Int × (List GLine)) from
d_voucher_Plain_L7 n (y25_1 : Int) (x72 : Int) (y22_2 : List GLine)).bind <| p2 fun (y28_1 : Int) (y28_2 : List GLine) =>
asrt ((0 : Int) ≤ y28_1 ∧ y28_1 < (y28_2.length : Int)) <|
bnd (y28_2.take (0 + y28_1.toNat)) fun x85 =>
asrt ((0 : Int) ≤ y28_1 ∧ y28_1 ≤ (y28_2.length : Int)) <|
some (((0 + 0) : Nat), ((y28_1.toNat - 0) : Nat), (x85 : List GLine)))).bind <| p2 fun (y29_1 : Nat) (q0 : Nat × (List GLine)) => (p2 fun (y29_2 : Nat) (y29_3 : List GLine) =>
asrt (y29_1 + y29_2 ≤ y29_3.length) <|
some (((((y29_3).drop y29_1).take y29_2) : List GLine), (0 : Int))) q0
theorem d_voucher_Plain_c {n : Nat} {a1 : List GLine} {r : (List GLine) × Int} (h0 : d_voucher_Plain n a1 = some r) : PP Tryz.prog 129 [lst 2 GLine.av a1] (fun y => y = .tup [lst 2 GLine.av r.1, int r.2]) := by
  unfold d_voucher_Plain at h0
  refine pp_of_pc (R0 := fun y H => Cv (frzH H) y (.tup [lst 2 GLine.av r.1, int r.2])) ?_ (fun y H hc => ⟨_, rfl, .tup (pvl2 ((pvLs GLine.pvc) (r.1)) (pvI (r.2))), hc⟩)
  refine pcw (c := _) Tryz.func129 rfl rfl ?_; intro Q hret hnorm
  refine tc tbk 9 (.mk ?_)
  obtain ⟨j2, h1, h0⟩ := bind_e h0
  refine rse (Out := fun y H' => (∃ (a : Bool) (k : Unit), a = j2 ∧ y = boo a ∧ H' = hk [])) rfl rfl rfl (yl_call rfl rfl (.cons rfl (.cons rfl .nil)) cal196 ?_) ?_
  refine pcw (c := _) Tryz.func196 rfl rfl ?_; intro Q hret hnorm
  refine tc tbk 8 (.mk ?_)
  obtain ⟨j3, h2, h1⟩ := bind_e h1
  refine rse (Out := fun y H' => (∃ (a : Int) (k : Unit), a = j3 ∧ y = int a ∧ H' = hk [])) rfl rfl rfl (yl_call rfl rfl (.cons rfl (.cons rfl .nil)) cal243 ?_) ?_
  refine pcw (c := _) Tryz.func243 rfl rfl ?_; intro Q hret hnorm
  refine tc tbk 8 (.mk ?_)
  refine sY (yv_len_sl rfl Tryz.underlying126 rfl (lst_len _)) ?_
  refine tr tbk 2 (.mk ?_)
  refine jnE h2 [4] [] (fun (a : Unit) (k : Unit) => []) (fun a k => []) ⟨fun j4 h3 h2 => ?_, ?_⟩
  refine tc tbk 1 (.mk ?_)
  refine lp (fun n (a : Int) => d_voucher_Plain_L0 a1 n a) (0 : Int) () h3 [0, 1, 4, 7] [] (fun (a : Int) (k : Unit) => [(8, int a)]) (fun a k => []) (fun _ => rfl) ⟨leA, ?_⟩
  rintro n y0_1 _ hm h3
  replace h3 : d_voucher_Plain_L0 a1 (n + 1) y0_1 = some _ := h3
  rw [d_voucher_Plain_L0] at h3
  refine tc tbk 2 (.mk ?_)
  refine nb tbk h3 fun x5 h3 => ?_
  refine tr tbk 2 (.mk ?_)
  cases x5
  replace h3 := cf h3
  refine tc tbk 2 (.mk ?_)
  exact lfE h3 () leA
  replace h3 := ct h3
  refine tc tbk 14 (.mk ?_)
  obtain ⟨x6, e6, h3⟩ := bind_e h3
  refine sY (yv_ixT rfl Tryz.underlying126 sh125 rfl rfl e6) ?_
  refine tr tbk 1 (.mk ?_)
  obtain ⟨x7, e7, h3⟩ := bind_e h3
  refine sC cal197 (d_voucher_Plain_1_c e7) ?_
  refine tr tbk 1 (.mk ?_)
  cases x7
  replace h3 := cf h3
  refine tc tbk 4 (.mk ?_)
  refine ni tbk h3 fun x8 h3 => ?_
  refine tr tbk 2 (.mk ?_)
  exact bk x8 () h3 leA
  replace h3 := ct h3
  refine tc tbk 6 (.mk ?_)
  obtain ⟨c9, hX, hj⟩ := esc_e h3; subst hj; replace h2 := hX.trans (sel_r h2)
  obtain rfl := nxt_e h2
  refine w_ret (hret _ _ (hk []) (.tmp rfl .nil) (fun _ _ h => nomatch h) ?_)
  exact ⟨y0_1, (), rfl, rfl, rfl⟩
  rintro _ _ h2
  refine tc tbk 4 (.mk ?_)
  obtain rfl := nxt_e h2
  refine w_ret (hret _ _ (hk []) (.tmp rfl .nil) (fun _ _ h => nomatch h) ?_)
  exact ⟨(-1), (), rfl, rfl, rfl⟩
  rintro y _ ⟨y2_1, _, rfl, hc, rfl⟩
  subst hc
  refine nb tbk h1 fun x10 h1 => ?_
  refine tr tbk 2 (.mk ?_)
  obtain rfl := nxt_e h1
  refine w_ret (hret _ _ (hk []) (.tmp rfl .nil) (fun _ _ h => nomatch h) ?_)
  exact ⟨x10, (), rfl, rfl, rfl⟩
  rintro y _ ⟨y3_1, _, rfl, hc, rfl⟩
  subst hc
  refine tr tbk 1 (.mk ?_)
  replace h0 := asrt_e h0
  obtain ⟨rfl, h0⟩ := h0
  refine tc tbk 5 (.mk ?_)
  obtain ⟨p11, h0⟩ := asrt_e h0
  refine rse rfl rfl rfl (yl_call rfl rfl (.cons rfl .nil) cal200 (pc_cv (clone200_c (id := 1) (l := a1) rfl p11) (.cons (.refl _) .nil))) ?_; rintro _ _ ⟨v12, rfl, rfl⟩
  refine tr tbk 5 (.mk ?_)
  obtain ⟨j13, h1, h0⟩ := bind_e h0
  refine rse (Out := fun y H' => (∃ (a : (List GLine)) (k : Unit), a = j13 ∧ y = .tup [] ∧ H' = hk [(1, ⟨125, 2, true, true, v12, a.map GLine.av⟩)])) rfl rfl rfl (yl_call rfl rfl (.cons rfl (.cons rfl .nil)) cal201 ?_) ?_
  refine pcw (c := _) Tryz.func201 rfl rfl ?_; intro Q hret hnorm
  refine tc tbk 2 (.mk ?_)
  refine sB 2 fun v14 => ?_
  refine tr tbk 4 (.mk ?_)
  obtain ⟨j15, h2, h1⟩ := bind_e h1
  refine rse (Out := fun y H' => (∃ (a : (List GLine)) (k : Unit), a = j15 ∧ y = .tup [] ∧ H' = hk [(1, ⟨125, 2, true, true, v12, a.map GLine.av⟩), (2, ⟨224, 1, true, true, v14, [[.fn (.func 202) [] []]]⟩)])) rfl rfl rfl (yl_call rfl rfl (.cons rfl (.cons rfl .nil)) cal244 ?_) ?_
  refine pcw (c := _) Tryz.func244 rfl rfl ?_; intro Q hret hnorm
  refine tc tbk 3 (.mk ?_)
  refine sY (yv_len_sl rfl Tryz.underlying126 rfl (.sl rfl rfl)) ?_
  refine tr tbk 1 (.mk ?_)
  obtain ⟨j16, h3, h2⟩ := bind_e h2
  refine rse (Out := fun y H' => (∃ (a : (List GLine)) (k : Unit), a = j16 ∧ y = .tup [] ∧ H' = hk [(1, ⟨125, 2, true, true, v12, a.map GLine.av⟩), (2, ⟨224, 1, true, true, v14, [[.fn (.func 202) [] []]]⟩)])) rfl rfl rfl (yl_call rfl rfl (.cons rfl (.cons rfl (.cons rfl .nil))) cal268 ?_) ?_
  refine pcw (c := _) Tryz.func268 rfl rfl ?_; intro Q hret hnorm
  refine tc tbk 11 (.mk ?_)
  refine jn h3 [0, 1, 2, 6, 7] [1, 2] (fun (a : Unit) (k : Unit) => []) (fun a k => []) ⟨fun j17 h4 => ?_, ?_⟩
  refine tc tbk 1 (.mk ?_)
  refine lp (fun n (a : Unit) => d_voucher_Plain_L1 a1 n) () () h4 [0, 1, 2, 6, 7, 8] [1, 2] (fun (a : Unit) (k : Unit) => []) (fun a k => []) (fun _ => rfl) ⟨leA, ?_⟩
  rintro n _ _ hm h4
  replace h4 : d_voucher_Plain_L1 a1 (n + 1) = some _ := h4
  rw [d_voucher_Plain_L1] at h4
  refine tc tbk 5 (.mk ?_)
  refine nb tbk h4 fun x18 h4 => ?_
  refine tr tbk 1 (.mk ?_)
  replace h4 := asrt_e h4
  obtain ⟨rfl, h4⟩ := h4
  refine tc tbk 2 (.mk ?_)
  exact lf h4 () leA
  rintro _ _ h3
  refine tc tbk 6 (.mk ?_)
  obtain ⟨j19, h4, h3⟩ := bind_e h3
  refine rse (Out := fun y H' => (∃ (a : (List GLine)) (k : Unit), a = j19 ∧ y = .tup [] ∧ H' = hk [(1, ⟨125, 2, true, true, v12, a.map GLine.av⟩), (2, ⟨224, 1, true, true, v14, [[.fn (.func 202) [] []]]⟩)])) rfl rfl rfl (yl_call rfl rfl (.cons rfl (.cons rfl (.cons rfl (.cons rfl .nil)))) cal279 ?_) ?_
  refine pcw (c := _) Tryz.func279 rfl rfl ?_; intro Q hret hnorm
  refine tc tbk 3 (.mk ?_)
  refine sY (yv_add (r := 1) rfl rfl rfl (by decide)) ?_
  refine tr tbk 2 (.mk ?_)
  refine jn h4 [] [2] (fun (a : (List GLine)) (k : Unit) => []) (fun a k => [(1, ⟨125, 2, true, true, v12, a.map GLine.av⟩)]) ⟨fun j20 h5 => ?_, ?_⟩
  refine tc tbk 1 (.mk ?_)
  refine lp (fun n (a : Int × (List GLine)) => d_voucher_Plain_L2 a1 n a.1 a.2) ((1 : Int), (a1 : List GLine)) () h5 [1, 2, 3] [2] (fun (a : Int × (List GLine)) (k : Unit) => [(0, .sl 1 v12 0 a.2.length), (8, int a.1)]) (fun a k => [(1, ⟨125, 2, true, true, v12, a.2.map GLine.av⟩)]) (fun _ => rfl) ⟨leA, ?_⟩
  rintro n ⟨y6_1, y6_2⟩ _ hm h5
  replace h5 : d_voucher_Plain_L2 a1 (n + 1) y6_1 y6_2 = some _ := h5
  rw [d_voucher_Plain_L2] at h5
  refine tc tbk 5 (.mk ?_)
  refine nb tbk h5 fun x21 h5 => ?_
  refine tr tbk 1 (.mk ?_)
  cases x21
  replace h5 := cf h5
  refine tc tbk 2 (.mk ?_)
  exact lf h5 () leA
  replace h5 := ct h5
  refine tc tbk 3 (.mk ?_)
  refine jn h5 [1, 2, 3, 8] [2] (fun (a : (List GLine)) (k : Unit) => [(0, .sl 1 v12 0 a.length)]) (fun a k => [(1, ⟨125, 2, true, true, v12, a.map GLine.av⟩)]) ⟨fun j22 h6 => ?_, ?_⟩
  refine tc tbk 6 (.mk ?_)
  refine jn h6 [1, 2, 3, 8] [2] (fun (a : (List GLine)) (k : Unit) => [(0, .sl 1 v12 0 a.length)]) (fun a k => [(1, ⟨125, 2, true, true, v12, a.map GLine.av⟩)]) ⟨fun j23 h7 => ?_, ?_⟩
  refine tc tbk 1 (.mk ?_)
  refine lp (fun n (a : Int × (List GLine)) => d_voucher_Plain_L3 n a.1 a.2) ((y6_1 : Int), (y6_2 : List GLine)) () h7 [1, 2, 3, 8] [2] (fun (a : Int × (List GLine)) (k : Unit) => [(0, .sl 1 v12 0 a.2.length), (9, int a.1)]) (fun a k => [(1, ⟨125, 2, true, true, v12, a.2.map GLine.av⟩)]) (fun _ => rfl) ⟨leA, ?_⟩
  rintro n ⟨y7_1, y7_2⟩ _ hm h7
  replace h7 : d_voucher_Plain_L3 (n + 1) y7_1 y7_2 = some _ := h7
  rw [d_voucher_Plain_L3] at h7
  refine tc tbk 2 (.mk ?_)
  refine jn h7 [0, 1, 2, 3, 8, 9] [1, 2] (fun (a : Bool) (k : Unit) => [(34, boo a)]) (fun a k => []) ⟨fun j24 h8 => ?_, ?_⟩
  refine c_drawE [0, 0, 3, 7, 15, 15, 15, 111, 239, 15, 15, 1039, 3599, 7695, 16383, 32767, 65535] (rl [(7, [1]), (8, [1]), (12, [1]), (13, [1])] []) (rl [(14, [])] [1]) (rl [(14, false)] true) [0, 1, 2, 3, 4, 5, 6, 7, 8, 9, 10, 11, 12, 13, 14, 15, 16] mixed (by kernel_rfl) ?_; intro K hK
  iterate 2 refine eM ?_
  obtain ⟨x25, e25, h8⟩ := bnd_e h8
  refine eP (fun H hH => yv_to (y := boo x25) (yv_gtr rfl rfl rfl) (congrArg boo e25)) ?_
  refine eM ?_
  cases x25
  replace h8 := cf h8
  refine de_skip rfl rfl rfl ?_
  refine de_skip rfl rfl rfl ?_
  refine de_skip rfl rfl rfl ?_
  refine de_skip rfl rfl rfl ?_
  refine de_skip rfl rfl rfl ?_
  refine de_skip rfl rfl rfl ?_
  refine de_skip rfl rfl rfl ?_
  refine de_skip rfl rfl rfl ?_
  refine de_skip rfl rfl rfl ?_
  refine de_skip rfl rfl rfl ?_
  refine de_skip rfl rfl rfl ?_
  refine de_skip rfl rfl rfl ?_
  refine eP (fun H hH => yv_pick rfl rfl (fun _ => rfl) (fun _ => rfl) rfl) ?_
  refine de_nil (hK _ ?_)
  exact lf h8 () leA
  replace h8 := ct h8
  iterate 3 refine eM ?_
  obtain ⟨x26, e26, h8⟩ := bind_e h8
  refine de_pure rfl rfl rfl rfl (fun H hH => yv_ixO rfl Tryz.underlying126 sh125 rfl rfl ((hH _ (by decide)).trans rfl) rfl rfl (Eq.symm rfl) (List.length_map _) e26) ?_
  refine eL sh125 (hr := ix_get e26) ?_
  iterate 2 refine eM ?_
  obtain ⟨x27, e27, h8⟩ := bnd_e h8
  refine eP (fun H hH => yv_sub rfl rfl rfl e27) ?_
  obtain ⟨x28, e28, h8⟩ := bind_e h8
  refine de_pure rfl rfl rfl rfl (fun H hH => yv_ixO rfl Tryz.underlying126 sh125 rfl rfl ((hH _ (by decide)).trans rfl) rfl rfl (Eq.symm rfl) (List.length_map _) e28) ?_
  refine eL sh125 (hr := ix_get e28) ?_
  obtain ⟨j29, h9, h8⟩ := bind_e h8
  refine de_eff (Out := fun y H' => (∃ (a : Int) (k : Unit), a = j29 ∧ y = int a ∧ H' = hk [(1, ⟨125, 2, true, true, v12, y7_2.map GLine.av⟩), (2, ⟨224, 1, true, true, v14, [[.fn (.func 202) [] []]]⟩)])) rfl rfl rfl rfl (yl_call rfl rfl (.cons rfl (.cons rfl .nil)) cal245 ?_) (by rintro y _ ⟨y8_1, _, rfl, hc, rfl⟩ <;> exact trivial) ?_
  refine pcw (c := _) Tryz.func245 rfl rfl ?_; intro Q hret hnorm
  refine tc tbk 2 (.mk ?_)
  refine sB 3 fun v30 => ?_
  refine sB 4 fun v31 => ?_
  refine tr tbk 3 (.mk ?_)
  refine c_drawE [0, 0, 3, 0, 0, 31, 63, 127] (rl [(0, [2]), (1, [3]), (3, [2]), (4, [4])] []) (fun i => [2, 3, 4]) (fun i => true) [0, 1, 2, 3, 4, 5, 6, 7] mixed (by kernel_rfl) ?_; intro K hK
  refine eL sh224 ?_
  refine eL sh125 ?_
  obtain ⟨x32, e32, h9⟩ := bind_e h9
  refine eP (fun H hH => yv_callP rfl rfl (.cons rfl .nil) cal202 (CvL.refl _) (d_voucher_Plain_2_c e32)) ?_
  refine eL sh224 ?_
  refine eL sh125 ?_
  obtain ⟨x33, e33, h9⟩ := bind_e h9
  refine eP (fun H hH => yv_callP rfl rfl (.cons rfl .nil) cal202 (CvL.refl _) (d_voucher_Plain_2_c e33)) ?_
  obtain ⟨x34, e34, h9⟩ := bind_e h9
  refine eP (fun H hH => yv_callP rfl rfl (.cons rfl (.cons rfl .nil)) cal222 (CvL.refl _) (d_cmp_Compare_int_c e34)) ?_
  refine eA ?_
  refine de_nil (hK _ ?_)
  obtain rfl := nxt_e h9
  refine w_ret (hret _ _ (hk [(1, ⟨125, 2, true, true, v12, y7_2.map GLine.av⟩), (2, ⟨224, 1, true, true, v14, [[.fn (.func 202) [] []]]⟩)]) (.tmp rfl .nil) (HK.le ⟨rfl, rfl, trivial⟩) ?_)
  exact ⟨x34, (), rfl, rfl, rfl⟩
  rintro y _ ⟨y8_1, _, rfl, hc, rfl⟩
  subst hc
  obtain ⟨x35, e35, h8⟩ := bnd_e h8
  refine eP (fun H hH => yv_to (y := boo x35) (yv_lss rfl rfl rfl) (congrArg boo e35)) ?_
  refine eP (fun H hH => yv_pick rfl rfl (fun _ => rfl) (fun _ => rfl) rfl) ?_
  refine de_nil (hK _ ?_)
  exact lf h8 () leA
  rintro y10_1 _ h7
  cases y10_1
  replace h7 := cf h7
  refine tc tbk 2 (.mk ?_)
  exact lf h7 () leA
  replace h7 := ct h7
  refine tc tbk 4 (.mk ?_)
  refine c_drawE [0, 0, 0, 0, 8, 0, 0, 64, 224, 480, 0, 0, 3072, 7168, 16355, 32739, 65535, 131071] (rl [(8, [1]), (9, [1]), (12, [1]), (13, [1]), (14, [1]), (16, [1])] []) (rl [(15, []), (17, [])] [1]) (rl [(15, false), (17, false)] true) [0, 1, 2, 3, 4, 5, 6, 7, 8, 9, 10, 11, 12, 13, 14, 15, 16, 17] mixed (by kernel_rfl) ?_; intro K hK
  iterate 4 refine eM ?_
  obtain ⟨x36, e36, h7⟩ := bnd_e h7
  refine eP (fun H hH => yv_sub rfl rfl rfl e36) ?_
  iterate 2 refine eM ?_
  obtain ⟨x37, e37, h7⟩ := bnd_e h7
  refine eP (fun H hH => yv_sub rfl rfl rfl e37) ?_
  obtain ⟨x38, e38, h7⟩ := bind_e h7
  refine de_pure rfl rfl rfl rfl (fun H hH => yv_ixO rfl Tryz.underlying126 sh125 rfl rfl ((hH _ (by decide)).trans rfl) rfl rfl (Eq.symm rfl) (List.length_map _) e38) ?_
  refine eL sh125 (hr := ix_get e38) ?_
  iterate 2 refine eM ?_
  obtain ⟨x39, e39, h7⟩ := bind_e h7
  refine de_pure rfl rfl rfl rfl (fun H hH => yv_ixO rfl Tryz.underlying126 sh125 rfl rfl ((hH _ (by decide)).trans rfl) rfl rfl (Eq.symm rfl) (List.length_map _) e39) ?_
  refine eL sh125 (hr := ix_get e39) ?_
  refine de_pure rfl rfl rfl rfl (fun H hH => yv_ixO rfl Tryz.underlying126 sh125 rfl rfl ((hH _ (by decide)).trans rfl) rfl rfl (Eq.symm rfl) (List.length_map _) e39) ?_
  obtain ⟨x40, e40, h7⟩ := bnd_e h7
  have fx40 := ix_set e39 e40; have lx40 := len_setV e40 (rfl : y7_2.length = y7_2.length)
  refine de_eff0 rfl rfl rfl rfl (Yield.weak (yl_ob (ob' := (⟨125, 2, true, true, v12, x40.map GLine.av⟩ : AObj)) (yl_store rfl sh125 rfl rfl rfl rfl rfl (ix_get e39) rfl rfl rfl) (ob_eq (map_setV e40))) (fun _ h => h) (fun _ _ => trivial)) (by rintro _ _ ⟨rfl, rfl⟩; exact trivial) ?_; rintro _ _ ⟨rfl, rfl⟩
  obtain ⟨x41, e41, h7⟩ := bind_e h7
  refine de_pure rfl rfl rfl rfl (fun H hH => yv_ixO rfl Tryz.underlying126 sh125 rfl rfl ((hH _ (by decide)).trans rfl) rfl rfl (Eq.symm lx40) (List.length_map _) e41) ?_
  obtain ⟨x42, e42, h7⟩ := bnd_e h7
  have fx42 := ix_set e41 e42; have lx42 := len_setV e42 lx40
  refine de_eff0 rfl rfl rfl rfl (Yield.weak (yl_ob (ob' := (⟨125, 2, true, true, v12, x42.map GLine.av⟩ : AObj)) (yl_store rfl sh125 rfl rfl rfl rfl rfl (ix_get e41) rfl rfl rfl) (ob_eq (map_setV e42))) (fun _ h => h) (fun _ _ => trivial)) (by rintro _ _ ⟨rfl, rfl⟩; exact trivial) ?_; rintro _ _ ⟨rfl, rfl⟩
  refine de_nil (hK _ ?_)
  refine tc tbk 3 (.mk ?_)
  refine ni tbk h7 fun x43 h7 => ?_
  refine tr tbk 2 (.mk ?_)
  exact bk (x43, x42) () h7 (leH_kn ⟨⟨_, rfl, (cv_slen (Eq.symm lx42))⟩, ⟨_, rfl, (.refl _)⟩, ⟨_, rfl, (.refl _)⟩, ⟨_, rfl, (.refl _)⟩, ⟨_, rfl, (.refl _)⟩, ⟨_, rfl, (.refl _)⟩, trivial⟩ ⟨⟨_, rfl, (.refl _)⟩, ⟨_, rfl, (.refl _)⟩, trivial⟩)
  rintro y11_1 _ h6
  refine tc tbk 1 (.mk ?_)
  exact lf h6 () leA
  rintro y12_1 _ h5
  refine tc tbk 2 (.mk ?_)
  refine ni tbk h5 fun x44 h5 => ?_
  refine tr tbk 2 (.mk ?_)
  exact bk (x44, y12_1) () h5 leA
  rintro y13_1 _ h4
  obtain rfl := nxt_e h4
  refine c_nil (hnorm _ _ (hk [(1, ⟨125, 2, true, true, v12, y13_1.map GLine.av⟩), (2, ⟨224, 1, true, true, v14, [[.fn (.func 202) [] []]]⟩)]) .nil (HK.le ⟨rfl, rfl, trivial⟩) ?_)
  exact ⟨y13_1, (), rfl, rfl, rfl⟩
  rintro y _ ⟨y14_1, _, rfl, hc, rfl⟩
  subst hc
  refine tr tbk 1 (.mk ?_)
  obtain ⟨p45, h3⟩ := asrt_e h3
  refine jn h3 [] [1, 2] (fun (a : Unit) (k : Unit) => []) (fun a k => []) ⟨fun j46 h4 => ?_, ?_⟩
  refine tc tbk 1 (.mk ?_)
  refine lp (fun n (a : Unit) => d_voucher_Plain_L4 a1 n) () () h4 [0, 1, 2, 6] [1, 2] (fun (a : Unit) (k : Unit) => []) (fun a k => []) (fun _ => rfl) ⟨leA, ?_⟩
  rintro n _ _ hm h4
  replace h4 : d_voucher_Plain_L4 a1 (n + 1) = some _ := h4
  rw [d_voucher_Plain_L4] at h4
  refine tc tbk 5 (.mk ?_)
  refine nb tbk h4 fun x47 h4 => ?_
  refine tr tbk 1 (.mk ?_)
  replace h4 := asrt_e h4
  obtain ⟨rfl, h4⟩ := h4
  refine tc tbk 2 (.mk ?_)
  exact lf h4 () leA
  rintro _ _ h3
  obtain rfl := nxt_e h3
  refine c_nil (hnorm _ _ (hk [(1, ⟨125, 2, true, true, v12, y14_1.map GLine.av⟩), (2, ⟨224, 1, true, true, v14, [[.fn (.func 202) [] []]]⟩)]) .nil (HK.le ⟨rfl, rfl, trivial⟩) ?_)
  exact ⟨y14_1, (), rfl, rfl, rfl⟩
  rintro y _ ⟨y17_1, _, rfl, hc, rfl⟩
  subst hc
  refine tr tbk 1 (.mk ?_)
  obtain rfl := nxt_e h2
  refine g_nil (hnorm _ _ (hk [(1, ⟨125, 2, true, true, v12, y17_1.map GLine.av⟩), (2, ⟨224, 1, true, true, v14, [[.fn (.func 202) [] []]]⟩)]) .nil (HK.le ⟨rfl, rfl, trivial⟩) ?_)
  exact ⟨y17_1, (), rfl, rfl, rfl⟩
  rintro y _ ⟨y18_1, _, rfl, hc, rfl⟩
  subst hc
  refine tr tbk 1 (.mk ?_)
  obtain rfl := nxt_e h1
  refine g_nil (hnorm _ _ (hk [(1, ⟨125, 2, true, true, v12, y18_1.map GLine.av⟩)]) .nil (HK.le ⟨rfl, trivial⟩) ?_)
  exact ⟨y18_1, (), rfl, rfl, rfl⟩
  rintro y _ ⟨y19_1, _, rfl, hc, rfl⟩
  subst hc
  refine tr tbk 8 (.mk ?_)
  obtain ⟨p48, h0⟩ := asrt_e h0
  refine sY (yv_move rfl rfl) ?_
  refine sY (yv_len_sl rfl Tryz.underlying126 rfl (.sl rfl rfl)) ?_
  refine tr tbk 2 (.mk ?_)
  refine jn h0 [2, 3] [] (fun (a : (List GLine)) (k : Nat) => [(5, .sl 7 k 0 a.length)]) (fun a k => [(7, ⟨125, 2, true, true, k, a.map GLine.av⟩)]) ⟨fun j49 h1 => ?_, ?_⟩
  refine tc tbk 1 (.mk ?_)
  refine c_nilobj 5 7 125 2 rfl rfl ?_; intro v50
  refine lp (fun n (a : Int × (List GLine)) => d_voucher_Plain_L5 a1 y19_1 n a.1 a.2) ((0 : Int), (([] : List GLine) : List GLine)) v50 h1 [2, 3, 17, 18] [1] (fun (a : Int × (List GLine)) (k : Nat) => [(5, .sl 7 k 0 a.2.length), (19, int a.1)]) (fun a k => [(7, ⟨125, 2, true, true, k, a.2.map GLine.av⟩)]) (fun _ => rfl) ⟨leA, ?_⟩
  rintro n ⟨y20_2, y20_3⟩ w20_1 hm h1
  replace h1 : d_voucher_Plain_L5 a1 y19_1 (n + 1) y20_2 y20_3 = some _ := h1
  rw [d_voucher_Plain_L5] at h1
  refine tc tbk 2 (.mk ?_)
  refine nb tbk h1 fun x51 h1 => ?_
  refine tr tbk 2 (.mk ?_)
  cases x51
  replace h1 := cf h1
  refine tc tbk 2 (.mk ?_)
  exact lf h1 w20_1 leA
  replace h1 := ct h1
  refine tc tbk 6 (.mk ?_)
  obtain ⟨x52, e52, h1⟩ := bind_e h1
  refine sY (yv_ixO rfl Tryz.underlying126 sh125 rfl rfl rfl rfl rfl (Eq.symm p48) (List.length_map _) e52) ?_
  refine sY (yv_load rfl sh125 rfl (.pt rfl rfl (ix_get e52)) rfl) ?_
  refine sA 5 z125 fun v53 => ?_
  refine sS ⟨125, 2, true, true, v53, [[int x52.Account, int x52.Amount]]⟩ sh125 ?_
  refine tr tbk 5 (.mk ?_)
  refine sY (yv_len_sl rfl Tryz.underlying126 rfl (.sl rfl rfl)) ?_
  refine ni tbk h1 fun x54 h1 => ?_
  refine tr tbk 3 (.mk ?_)
  refine jn h1 [2, 3, 5, 7, 8, 17, 18, 19] [1, 5, 7] (fun (a : Bool) (k : Unit) => [(37, boo a)]) (fun a k => []) ⟨fun j55 h2 => ?_, ?_⟩
  refine c_drawE [0, 1, 3, 7, 7, 31, 63, 127, 7, 263, 1023, 2047] (rl [(5, [7]), (6, [7]), (7, [7]), (8, [5]), (9, [5])] []) (fun i => [5, 7]) (fun i => true) [0, 1, 2, 3, 4, 5, 6, 7, 8, 9, 10, 11] mixed (by kernel_rfl) ?_; intro K hK
  refine eM ?_
  obtain ⟨x56, e56, h2⟩ := bnd_e h2
  refine eP (fun H hH => yv_to (y := boo x56) (yv_geq rfl rfl rfl) (congrArg boo e56)) ?_
  refine eM ?_
  cases x56
  replace h2 := cf h2
  refine de_skip rfl rfl rfl ?_
  refine de_skip rfl rfl rfl ?_
  refine de_skip rfl rfl rfl ?_
  refine de_skip rfl rfl rfl ?_
  refine de_skip rfl rfl rfl ?_
  refine de_skip rfl rfl rfl ?_
  refine de_skip rfl rfl rfl ?_
  refine de_skip rfl rfl rfl ?_
  refine eP (fun H hH => yv_pick rfl rfl (fun _ => rfl) (fun _ => rfl) rfl) ?_
  refine de_nil (hK _ ?_)
  exact lf h2 () leA
  replace h2 := ct h2
  iterate 2 refine eM ?_
  obtain ⟨x57, e57, h2⟩ := bind_e h2
  refine de_pure rfl rfl rfl rfl (fun H hH => yv_ixO rfl Tryz.underlying126 sh125 rfl rfl ((hH _ (by decide)).trans rfl) rfl rfl (Eq.symm rfl) (List.length_map _) e57) ?_
  refine eF fo125_0 (hr := ix_get e57) ?_
  refine eL sh3 (hr := ix_get e57) ?_
  refine eF fo125_0 ?_
  refine eL sh3 ?_
  obtain ⟨x58, e58, h2⟩ := bnd_e h2
  refine eP (fun H hH => yv_to (y := boo x58) (yv_eql rfl rfl rfl) (congrArg boo e58)) ?_
  refine eP (fun H hH => yv_pick rfl rfl (fun _ => rfl) (fun _ => rfl) rfl) ?_
  refine de_nil (hK _ ?_)
  exact lf h2 () leA
  rintro y21_1 _ h1
  replace h1 := asrt_e h1
  obtain ⟨rfl, h1⟩ := h1
  refine tc tbk 5 (.mk ?_)
  refine sY (yv_to (y := lst 2 GLine.av ([x52] : List GLine)) (yv_buildSlice (ps := [(0, _)]) (rows := [[int x52.Account, int x52.Amount]]) rfl Tryz.underlying126 bz125 (.cons rfl .nil) (by kernel_rfl) rfl rfl rfl) rfl) ?_
  obtain ⟨x59, e59, h1⟩ := bnd_e h1
  obtain ⟨p60, h1⟩ := asrt_e h1
  refine rse rfl rfl rfl (yl_appT (g := GLine.av) (l := y20_3) (m := ([x52] : List GLine)) .any rfl Tryz.underlying126 bz125 by125 rfl rfl rfl rfl rfl rfl rfl rfl rfl rfl (Eq.symm rfl) (.refl _) (fun _ => rfl) e59 p60) ?_; rintro _ _ ⟨v61, -, rfl, rfl⟩
  refine tr tbk 4 (.mk ?_)
  refine ni tbk h1 fun x62 h1 => ?_
  refine tr tbk 2 (.mk ?_)
  exact bk (x62, x59) v61 h1 leA
  rintro y22_2 w22_1 h0
  refine tc tbk 3 (.mk ?_)
  obtain ⟨j63, h1, h0⟩ := bind_e h0
  refine rse (Out := fun y H' => (∃ (a : Nat × Nat × (List GLine)) (k : Unit), a = j63 ∧ y = .sl 7 w22_1 a.1 a.2.1 ∧ H' = hk [(7, ⟨125, 2, true, true, w22_1, a.2.2.map GLine.av⟩)])) rfl rfl rfl (yl_call rfl rfl (.cons rfl (.cons rfl .nil)) cal203 ?_) ?_
  refine pcw (c := _) Tryz.func203 rfl rfl ?_; intro Q hret hnorm
  refine tc tbk 8 (.mk ?_)
  obtain ⟨j64, h2, h1⟩ := bind_e h1
  refine rse (Out := fun y H' => (∃ (a : Int) (k : Unit), a = j64 ∧ y = int a ∧ H' = hk [(7, ⟨125, 2, true, true, w22_1, y22_2.map GLine.av⟩)])) rfl rfl rfl (yl_call rfl rfl (.cons rfl (.cons rfl .nil)) cal243 ?_) ?_
  refine pcw (c := _) Tryz.func243 rfl rfl ?_; intro Q hret hnorm
  refine tc tbk 8 (.mk ?_)
  refine sY (yv_len_sl rfl Tryz.underlying126 rfl (.sl rfl rfl)) ?_
  refine tr tbk 2 (.mk ?_)
  refine jnE h2 [4] [7] (fun (a : Unit) (k : Unit) => []) (fun a k => []) ⟨fun j65 h3 h2 => ?_, ?_⟩
  refine tc tbk 1 (.mk ?_)
  refine lp (fun n (a : Int) => d_voucher_Plain_L6 y22_2 n a) (0 : Int) () h3 [0, 1, 4, 7] [7] (fun (a : Int) (k : Unit) => [(8, int a)]) (fun a k => []) (fun _ => rfl) ⟨leA, ?_⟩
  rintro n y23_1 _ hm h3
  replace h3 : d_voucher_Plain_L6 y22_2 (n + 1) y23_1 = some _ := h3
  rw [d_voucher_Plain_L6] at h3
  refine tc tbk 2 (.mk ?_)
  refine nb tbk h3 fun x66 h3 => ?_
  refine tr tbk 2 (.mk ?_)
  cases x66
  replace h3 := cf h3
  refine tc tbk 2 (.mk ?_)
  exact lfE h3 () leA
  replace h3 := ct h3
  refine tc tbk 14 (.mk ?_)
  obtain ⟨x67, e67, h3⟩ := bind_e h3
  refine sY (yv_ixO rfl Tryz.underlying126 sh125 rfl rfl rfl rfl rfl (Eq.symm rfl) (List.length_map _) e67) ?_
  refine sY (yv_load rfl sh125 rfl (.pt rfl rfl (ix_get e67)) rfl) ?_
  obtain ⟨x68, e68, h3⟩ := bind_e h3
  refine sC cal204 (d_voucher_Plain_3_c e68) ?_
  refine tr tbk 1 (.mk ?_)
  cases x68
  replace h3 := cf h3
  refine tc tbk 4 (.mk ?_)
  refine ni tbk h3 fun x69 h3 => ?_
  refine tr tbk 2 (.mk ?_)
  exact bk x69 () h3 leA
  replace h3 := ct h3
  refine tc tbk 6 (.mk ?_)
  obtain ⟨c70, hX, hj⟩ := esc_e h3; subst hj; replace h2 := hX.trans (sel_r h2)
  obtain rfl := nxt_e h2
  refine w_ret (hret _ _ (hk [(7, ⟨125, 2, true, true, w22_1, y22_2.map GLine.av⟩)]) (.tmp rfl .nil) (HK.le ⟨rfl, trivial⟩) ?_)
  exact ⟨y23_1, (), rfl, rfl, rfl⟩
  rintro _ _ h2
  refine tc tbk 4 (.mk ?_)
  obtain rfl := nxt_e h2
  refine w_ret (hret _ _ (hk [(7, ⟨125, 2, true, true, w22_1, y22_2.map GLine.av⟩)]) (.tmp rfl .nil) (HK.le ⟨rfl, trivial⟩) ?_)
  exact ⟨(-1), (), rfl, rfl, rfl⟩
  rintro y _ ⟨y25_1, _, rfl, hc, rfl⟩
  subst hc
  refine tr tbk 6 (.mk ?_)
  refine nb tbk h1 fun x71 h1 => ?_
  refine tr tbk 1 (.mk ?_)
  cases x71
  replace h1 := cf h1
  refine tc tbk 6 (.mk ?_)
  refine ni tbk h1 fun x72 h1 => ?_
  refine tr tbk 2 (.mk ?_)
  refine jn h1 [4] [] (fun (a : Int × (List GLine)) (k : Unit) => [(0, .sl 7 w22_1 0 a.2.length), (5, int a.1)]) (fun a k => [(7, ⟨125, 2, true, true, w22_1, a.2.map GLine.av⟩)]) ⟨fun j73 h2 => ?_, ?_⟩
  refine tc tbk 1 (.mk ?_)
  refine lp (fun n (a : Int × Int × (List GLine)) => d_voucher_Plain_L7 n a.1 a.2.1 a.2.2) ((y25_1 : Int), (x72 : Int), (y22_2 : List GLine)) () h2 [1, 4] [] (fun (a : Int × Int × (List GLine)) (k : Unit) => [(0, .sl 7 w22_1 0 a.2.2.length), (5, int a.1), (6, int a.2.1)]) (fun a k => [(7, ⟨125, 2, true, true, w22_1, a.2.2.map GLine.av⟩)]) (fun _ => rfl) ⟨leA, ?_⟩
  rintro n ⟨y26_1, y26_2, y26_3⟩ _ hm h2
  replace h2 : d_voucher_Plain_L7 (n + 1) y26_1 y26_2 y26_3 = some _ := h2
  rw [d_voucher_Plain_L7] at h2
  refine tc tbk 5 (.mk ?_)
  refine sY (yv_len_sl rfl Tryz.underlying126 rfl (.sl rfl rfl)) ?_
  refine nb tbk h2 fun x74 h2 => ?_
  refine tr tbk 1 (.mk ?_)
  cases x74
  replace h2 := cf h2
  refine tc tbk 2 (.mk ?_)
  exact lf h2 () leA
  replace h2 := ct h2
  refine tc tbk 3 (.mk ?_)
  refine jn h2 [1, 4, 6] [] (fun (a : Int × (List GLine)) (k : Unit) => [(0, .sl 7 w22_1 0 a.2.length), (5, int a.1)]) (fun a k => [(7, ⟨125, 2, true, true, w22_1, a.2.map GLine.av⟩)]) ⟨fun j75 h3 => ?_, ?_⟩
  refine tc tbk 5 (.mk ?_)
  obtain ⟨x76, e76, h3⟩ := bind_e h3
  refine sY (yv_ixO rfl Tryz.underlying126 sh125 rfl rfl rfl rfl rfl (Eq.symm rfl) (List.length_map _) e76) ?_
  refine sY (yv_load rfl sh125 rfl (.pt rfl rfl (ix_get e76)) rfl) ?_
  refine sA 8 z125 fun v77 => ?_
  refine sS ⟨125, 2, true, true, v77, [[int x76.Account, int x76.Amount]]⟩ sh125 ?_
  refine tr tbk 5 (.mk ?_)
  obtain ⟨x78, e78, h3⟩ := bind_e h3
  refine sC cal204 (d_voucher_Plain_3_c e78) ?_
  refine nb tbk h3 fun x79 h3 => ?_
  refine tr tbk 1 (.mk ?_)
  cases x79
  replace h3 := cf h3
  refine tc tbk 3 (.mk ?_)
  exact lf h3 () leA
  replace h3 := ct h3
  refine tc tbk 6 (.mk ?_)
  obtain ⟨x80, e80, h3⟩ := bind_e h3
  refine sY (yv_ixO rfl Tryz.underlying126 sh125 rfl rfl rfl rfl rfl (Eq.symm rfl) (List.length_map _) e80) ?_
  obtain ⟨x81, e81, h3⟩ := bnd_e h3
  have fx81 := ix_set e80 e81; have lx81 := len_setV e81 (rfl : y26_3.length = y26_3.length)
  refine rsstore rfl rfl (yl_ob (ob' := (⟨125, 2, true, true, w22_1, x81.map GLine.av⟩ : AObj)) (yl_store rfl sh125 rfl rfl rfl rfl rfl (ix_get e80) rfl rfl rfl) (ob_eq (map_setV e81))) ?_
  refine tr tbk 3 (.mk ?_)
  refine ni tbk h3 fun x82 h3 => ?_
  refine tr tbk 3 (.mk ?_)
  exact lf h3 () (leH_kn ⟨⟨_, rfl, (cv_slen (Eq.symm lx81))⟩, ⟨_, rfl, (.refl _)⟩, ⟨_, rfl, (.refl _)⟩, ⟨_, rfl, (.refl _)⟩, ⟨_, rfl, (.refl _)⟩, trivial⟩ ⟨⟨_, rfl, (.refl _)⟩, trivial⟩)
  rintro ⟨y27_1, y27_2⟩ _ h2
  replace h2 := p2_e h2
  refine tc tbk 2 (.mk ?_)
  refine ni tbk h2 fun x83 h2 => ?_
  refine tr tbk 2 (.mk ?_)
  exact bk (y27_1, x83, y27_2) () h2 leA
  rintro ⟨y28_1, y28_2⟩ _ h1
  replace h1 := p2_e h1
  refine tc tbk 4 (.mk ?_)
  obtain ⟨p84, h1⟩ := asrt_e h1
  refine sY (yv_slO (len := y28_2.length) (i := y28_1.toNat) (j := y28_2.length) rfl Tryz.underlying126 sh125 rfl rfl rfl rfl (.yes rfl (by first | omega | (dsimp only; omega) | (dsimp only at *; omega))) .no (by first | omega | (dsimp only; omega) | (dsimp only at *; omega)) (Nat.le_refl _) (.inl (by first | omega | (dsimp only; omega) | (dsimp only at *; omega)))) ?_
  obtain ⟨x85, e85, h1⟩ := bnd_e h1
  refine rsstore rfl rfl (yl_ob (ob' := (⟨125, 2, true, true, w22_1, x85.map GLine.av⟩ : AObj)) (yl_clear rfl Tryz.underlying126 bz125 rfl rfl rfl rfl rfl rfl e85) rfl) ?_
  refine tr tbk 5 (.mk ?_)
  obtain ⟨p86, h1⟩ := asrt_e h1
  refine sY (yv_slO (len := y28_2.length) (i := 0) (j := y28_1.toNat) rfl Tryz.underlying126 sh125 rfl rfl rfl rfl .no (.yes rfl (by first | omega | (dsimp only; omega) | (dsimp only at *; omega))) (Nat.zero_le _) (by first | omega | (dsimp only; omega) | (dsimp only at *; omega)) (.inr rfl)) ?_
  refine tr tbk 2 (.mk ?_)
  obtain rfl := nxt_e h1
  refine w_ret (hret _ _ (hk [(7, ⟨125, 2, true, true, w22_1, x85.map GLine.av⟩)]) (.tmp rfl .nil) (HK.le ⟨rfl, trivial⟩) ?_)
  exact ⟨((0 + 0), (y28_1.toNat - 0), x85), (), rfl, rfl, rfl⟩
  replace h1 := ct h1
  refine tc tbk 6 (.mk ?_)
  obtain rfl := nxt_e h1
  refine w_ret (hret _ _ (hk [(7, ⟨125, 2, true, true, w22_1, y22_2.map GLine.av⟩)]) (.tmp rfl .nil) (HK.le ⟨rfl, trivial⟩) ?_)
  exact ⟨(0, y22_2.length, y22_2), (), rfl, rfl, rfl⟩
  rintro y _ ⟨⟨y29_1, y29_2, y29_3⟩, _, rfl, hc, rfl⟩
  replace h0 := p2_e h0
  replace h0 := p2_e h0
  subst hc
  refine tr tbk 3 (.mk ?_)
  obtain ⟨p87, h0⟩ := asrt_e h0
  obtain rfl := nxt_e h0
  refine wR hret (rT (rT .nil)) ?_
  exact CvL.tup (.cons (cv_win (l := y29_3) rfl rfl rfl rfl (CvLL.refl _) (by first | omega | (simp only [List.length_set]; omega)) rfl) (.cons (.refl _) .nil))
def d_money_in (a1 : Int) : Option (Bool) :=
(show Option (Bool) from
bnd (decide (a1 ≥ (-288230376151711744))) fun x3 =>
cond x3 (bnd (decide (a1 ≤ 288230376151711744)) fun x4 =>
some (x4 : Bool)) (some (false : Bool))).bind <| fun y0_1 =>
some ((y0_1 : Bool))
theorem d_money_in_c {a1 : Int} {r : Bool} (h0 : d_money_in a1 = some r) : PP Tryz.prog 208 [int a1] (fun y => y = boo r) := by
  unfold d_money_in at h0
  refine pp_of_pc (R0 := fun y H => Cv (frzH H) y (boo r)) ?_ (fun y H hc => ⟨_, rfl, pvB r, hc⟩)
  refine pcw (c := _) Tryz.func208 rfl rfl ?_; intro Q hret hnorm
  refine tc tbk 5 (.mk ?_)
  refine jn h0 [] [] (fun (a : Bool) (k : Unit) => [(2, boo a)]) (fun a k => []) ⟨fun j2 h1 => ?_, ?_⟩
  refine tc tbk 2 (.mk ?_)
  refine nb tbk h1 fun x3 h1 => ?_
  refine tr tbk 1 (.mk ?_)
  cases x3
  replace h1 := cf h1
  refine tr tbk 5 (.mk ?_)
  exact lf h1 () leA
  replace h1 := ct h1
  refine tr tbk 1 (.mk ?_)
  refine nb tbk h1 fun x4 h1 => ?_
  refine tr tbk 3 (.mk ?_)
  exact lf h1 () leA
  rintro y0_1 _ h0
  obtain rfl := nxt_e h0
  refine wR hret (rT .nil) ?_
  exact .refl _
def d_money_Add (a1 : Int) (a2 : Int) : Option (Int × Int) :=
(show Option (Bool) from
(d_money_in a1).bind fun x4 =>
bnd (!x4) fun x5 =>
cond x5 (some (true : Bool)) ((d_money_in a2).bind fun x6 =>
bnd (!x6) fun x7 =>
cond x7 (some (true : Bool)) (bnd (w64 (a1 + a2)) fun x8 =>
(d_money_in x8).bind fun x9 =>
bnd (!x9) fun x10 =>
some (x10 : Bool)))).bind <| fun y0_1 =>
asrt (y0_1 = false) <|
bnd (w64 (a1 + a2)) fun x11 =>
some ((x11 : Int), (0 : Int))
theorem d_money_Add_c {a1 : Int} {a2 : Int} {r : Int × Int} (h0 : d_money_Add a1 a2 = some r) : PP Tryz.prog 134 [int a1, int a2] (fun y => y = .tup [int r.1, int r.2]) := by
  unfold d_money_Add at h0
  refine pp_of_pc (R0 := fun y H => Cv (frzH H) y (.tup [int r.1, int r.2])) ?_ (fun y H hc => ⟨_, rfl, .tup (pvl2 (pvI (r.1)) (pvI (r.2))), hc⟩)
  refine pcw (c := _) Tryz.func134 rfl rfl ?_; intro Q hret hnorm
  refine tc tbk 7 (.mk ?_)
  refine jn h0 [0, 1, 4, 5] [] (fun (a : Bool) (k : Unit) => [(20, boo a)]) (fun a k => []) ⟨fun j3 h1 => ?_, ?_⟩
  refine tc tbk 2 (.mk ?_)
  obtain ⟨x4, e4, h1⟩ := bind_e h1
  refine sC cal208 (d_money_in_c e4) ?_
  refine nb tbk h1 fun x5 h1 => ?_
  refine tr tbk 1 (.mk ?_)
  cases x5
  replace h1 := cf h1
  refine tr tbk 1 (.mk ?_)
  obtain ⟨x6, e6, h1⟩ := bind_e h1
  refine sC cal208 (d_money_in_c e6) ?_
  refine nb tbk h1 fun x7 h1 => ?_
  refine tr tbk 2 (.mk ?_)
  cases x7
  replace h1 := cf h1
  refine tr tbk 2 (.mk ?_)
  refine ni tbk h1 fun x8 h1 => ?_
  obtain ⟨x9, e9, h1⟩ := bind_e h1
  refine sC cal208 (d_money_in_c e9) ?_
  refine nb tbk h1 fun x10 h1 => ?_
  refine tr tbk 2 (.mk ?_)
  exact lf h1 () leA
  replace h1 := ct h1
  refine tr tbk 7 (.mk ?_)
  exact lf h1 () leA
  replace h1 := ct h1
  refine tr tbk 12 (.mk ?_)
  exact lf h1 () leA
  rintro y0_1 _ h0
  replace h0 := asrt_e h0
  obtain ⟨rfl, h0⟩ := h0
  refine tc tbk 6 (.mk ?_)
  refine ni tbk h0 fun x11 h0 => ?_
  refine tr tbk 3 (.mk ?_)
  obtain rfl := nxt_e h0
  refine wR hret (rT (rT .nil)) ?_
  exact .refl _
def d_money_Sum_L0 (a1 : List Int) : Nat → Int → Int → Option (Int)
  | 0, _, _ => none
  | n + 1, y0_1, y0_2 =>
    bnd (decide (y0_2 < (a1.length : Int))) fun x3 =>
    cond x3 ((ix a1 y0_2).bind fun x4 =>
    (d_money_Add y0_1 x4).bind fun x5 =>
    bnd (decide (x5.2 ≠ 0)) fun x6 =>
    asrt (x6 = false) <|
    bnd (w64 (y0_2 + 1)) fun x7 =>
    d_money_Sum_L0 a1 n (x5.1 : Int) (x7 : Int)) (some (y0_1 : Int))
def d_money_Sum (n : Nat) (a1 : List Int) : Option (Int × Int) :=
(show Option (Int) from
d_money_Sum_L0 a1 n (0 : Int) (0 : Int)).bind <| fun y1_1 =>
some ((y1_1 : Int), (0 : Int))
theorem d_money_Sum_c {n : Nat} {a1 : List Int} {r : Int × Int} (h0 : d_money_Sum n a1 = some r) : PP Tryz.prog 153 [lst 1 fI a1] (fun y => y = .tup [int r.1, int r.2]) := by
  unfold d_money_Sum at h0
  refine pp_of_pc (R0 := fun y H => Cv (frzH H) y (.tup [int r.1, int r.2])) ?_ (fun y H hc => ⟨_, rfl, .tup (pvl2 (pvI (r.1)) (pvI (r.2))), hc⟩)
  refine pcw (c := _) Tryz.func153 rfl rfl ?_; intro Q hret hnorm
  refine tc tbk 13 (.mk ?_)
  refine sY (yv_len_sl rfl Tryz.underlying22 rfl (lst_len _)) ?_
  refine tr tbk 2 (.mk ?_)
  refine jn h0 [2, 3] [] (fun (a : Int) (k : Unit) => [(4, int a)]) (fun a k => []) ⟨fun j2 h1 => ?_, ?_⟩
  refine tc tbk 1 (.mk ?_)
  refine lp (fun n (a : Int × Int) => d_money_Sum_L0 a1 n a.1 a.2) ((0 : Int), (0 : Int)) () h1 [2, 3, 8, 9] [] (fun (a : Int × Int) (k : Unit) => [(4, int a.1), (10, int a.2)]) (fun a k => []) (fun _ => rfl) ⟨leA, ?_⟩
  rintro n ⟨y0_1, y0_2⟩ _ hm h1
  replace h1 : d_money_Sum_L0 a1 (n + 1) y0_1 y0_2 = some _ := h1
  rw [d_money_Sum_L0] at h1
  refine tc tbk 2 (.mk ?_)
  refine nb tbk h1 fun x3 h1 => ?_
  refine tr tbk 2 (.mk ?_)
  cases x3
  replace h1 := cf h1
  refine tc tbk 2 (.mk ?_)
  exact lf h1 () leA
  replace h1 := ct h1
  refine tc tbk 6 (.mk ?_)
  obtain ⟨x4, e4, h1⟩ := bind_e h1
  refine sY (yv_ixT rfl Tryz.underlying22 sh3 rfl rfl e4) ?_
  refine tr tbk 11 (.mk ?_)
  obtain ⟨x5, e5, h1⟩ := bind_e h1
  refine sC cal134 (d_money_Add_c e5) ?_
  refine tr tbk 9 (.mk ?_)
  refine nb tbk h1 fun x6 h1 => ?_
  refine tr tbk 1 (.mk ?_)
  replace h1 := asrt_e h1
  obtain ⟨rfl, h1⟩ := h1
  refine tc tbk 4 (.mk ?_)
  refine ni tbk h1 fun x7 h1 => ?_
  refine tr tbk 2 (.mk ?_)
  exact bk (x5.1, x7) () h1 leA
  rintro y1_1 _ h0
  refine tc tbk 6 (.mk ?_)
  obtain rfl := nxt_e h0
  refine wR hret (rT (rT .nil)) ?_
  exact .refl _
def d_voucher_sum_L0 (a1 : List GLine) : Nat → Int → (List Int) → Option ((List Int))
  | 0, _, _ => none
  | n + 1, y0_2, y0_3 =>
    bnd (decide (y0_2 < (a1.length : Int))) fun x4 =>
    cond x4 ((ix a1 y0_2).bind fun x5 =>
    bnd (y0_3 ++ ([x5.Amount] : List Int)) fun x7 =>
    asrt (x7.length ≤ 68719476736) <|
    bnd (w64 (y0_2 + 1)) fun x10 =>
    d_voucher_sum_L0 a1 n (x10 : Int) (x7 : List Int)) (some (y0_3 : List Int))
def d_voucher_sum (n : Nat) (a1 : List GLine) : Option (Int × Int) :=
(show Option ((List Int)) from
d_voucher_sum_L0 a1 n (0 : Int) (([] : List Int) : List Int)).bind <| fun y1_2 =>
(d_money_Sum n y1_2).bind fun x11 =>
some ((x11.1 : Int), (x11.2 : Int))
theorem d_voucher_sum_c {n : Nat} {a1 : List GLine} {r : Int × Int} (h0 : d_voucher_sum n a1 = some r) : PP Tryz.prog 247 [lst 2 GLine.av a1] (fun y => y = .tup [int r.1, int r.2]) := by
  unfold d_voucher_sum at h0
  refine pp_of_pc (R0 := fun y H => Cv (frzH H) y (.tup [int r.1, int r.2])) ?_ (fun y H hc => ⟨_, rfl, .tup (pvl2 (pvI (r.1)) (pvI (r.2))), hc⟩)
  refine pcw (c := _) Tryz.func247 rfl rfl ?_; intro Q hret hnorm
  refine tc tbk 13 (.mk ?_)
  refine sY (yv_len_sl rfl Tryz.underlying126 rfl (lst_len _)) ?_
  refine tr tbk 2 (.mk ?_)
  refine jn h0 [2, 3] [] (fun (a : (List Int)) (k : Nat) => [(4, .sl 3 k 0 a.length)]) (fun a k => [(3, ⟨3, 1, true, true, k, a.map fI⟩)]) ⟨fun j2 h1 => ?_, ?_⟩
  refine tc tbk 1 (.mk ?_)
  refine c_nilobj 4 3 3 1 rfl rfl ?_; intro v3
  refine lp (fun n (a : Int × (List Int)) => d_voucher_sum_L0 a1 n a.1 a.2) ((0 : Int), (([] : List Int) : List Int)) v3 h1 [2, 3, 7, 8] [] (fun (a : Int × (List Int)) (k : Nat) => [(4, .sl 3 k 0 a.2.length), (9, int a.1)]) (fun a k => [(3, ⟨3, 1, true, true, k, a.2.map fI⟩)]) (fun _ => rfl) ⟨leA, ?_⟩
  rintro n ⟨y0_2, y0_3⟩ w0_1 hm h1
  replace h1 : d_voucher_sum_L0 a1 (n + 1) y0_2 y0_3 = some _ := h1
  rw [d_voucher_sum_L0] at h1
  refine tc tbk 2 (.mk ?_)
  refine nb tbk h1 fun x4 h1 => ?_
  refine tr tbk 2 (.mk ?_)
  cases x4
  replace h1 := cf h1
  refine tc tbk 2 (.mk ?_)
  exact lf h1 w0_1 leA
  replace h1 := ct h1
  refine tc tbk 6 (.mk ?_)
  obtain ⟨x5, e5, h1⟩ := bind_e h1
  refine sY (yv_ixT rfl Tryz.underlying126 sh125 rfl rfl e5) ?_
  refine tr tbk 1 (.mk ?_)
  refine sA 1 z125 fun v6 => ?_
  refine sS ⟨125, 2, true, true, v6, [[int x5.Account, int x5.Amount]]⟩ sh125 ?_
  refine tr tbk 5 (.mk ?_)
  refine sY (yv_to (y := lst 1 fI ([x5.Amount] : List Int)) (yv_buildSlice (ps := [(0, _)]) (rows := [[int x5.Amount]]) rfl Tryz.underlying22 bz3 (.cons rfl .nil) (by kernel_rfl) rfl rfl rfl) rfl) ?_
  obtain ⟨x7, e7, h1⟩ := bnd_e h1
  obtain ⟨p8, h1⟩ := asrt_e h1
  refine rse rfl rfl rfl (yl_appT (g := fI) (l := y0_3) (m := ([x5.Amount] : List Int)) .any rfl Tryz.underlying22 bz3 by3 rfl rfl rfl rfl rfl rfl rfl rfl rfl rfl (Eq.symm rfl) (.refl _) (fun _ => rfl) e7 p8) ?_; rintro _ _ ⟨v9, -, rfl, rfl⟩
  refine tr tbk 4 (.mk ?_)
  refine ni tbk h1 fun x10 h1 => ?_
  refine tr tbk 2 (.mk ?_)
  exact bk (x10, x7) v9 h1 leA
  rintro y1_2 w1_1 h0
  refine tc tbk 3 (.mk ?_)
  obtain ⟨x11, e11, h0⟩ := bind_e h0
  refine sY (yv_callT (v := .tup [int x11.1, int x11.2]) rfl rfl (.cons rfl .nil) cal153 (.cons (cv_lst rfl rfl rfl rfl rfl (Eq.symm rfl)) .nil) (d_money_Sum_c e11) rfl) ?_
  refine tr tbk 5 (.mk ?_)
  obtain rfl := nxt_e h0
  refine wR hret (rT (rT .nil)) ?_
  exact .refl _
def d_voucher_Check_1 (a1 : GLine) : Option (Bool) :=
(show Option (Bool) from
(d_voucher_is a1.Account).bind fun x4 =>
bnd (!x4) fun x5 =>
cond x5 (some (true : Bool)) (bnd (decide (a1.Amount = 0)) fun x6 =>
cond x6 (some (true : Bool)) ((d_voucher_in a1.Amount).bind fun x7 =>
bnd (!x7) fun x8 =>
some (x8 : Bool)))).bind <| fun y0_1 =>
some ((y0_1 : Bool))
theorem d_voucher_Check_1_c {a1 : GLine} {r : Bool} (h0 : d_voucher_Check_1 a1 = some r) : PP Tryz.prog 246 [.agg (GLine.av a1)] (fun y => y = boo r) := by
  unfold d_voucher_Check_1 at h0
  refine pp_of_pc (R0 := fun y H => Cv (frzH H) y (boo r)) ?_ (fun y H hc => ⟨_, rfl, pvB r, hc⟩)
  refine pcw (c := _) Tryz.func246 rfl rfl ?_; intro Q hret hnorm
  refine tc tbk 2 (.mk ?_)
  refine sB 1 fun v2 => ?_
  refine tr tbk 3 (.mk ?_)
  refine jn h0 [] [] (fun (a : Bool) (k : Unit) => [(2, boo a)]) (fun a k => []) ⟨fun j3 h1 => ?_, ?_⟩
  refine tc tbk 3 (.mk ?_)
  obtain ⟨x4, e4, h1⟩ := bind_e h1
  refine sC cal198 (d_voucher_is_c e4) ?_
  refine nb tbk h1 fun x5 h1 => ?_
  refine tr tbk 1 (.mk ?_)
  cases x5
  replace h1 := cf h1
  refine tr tbk 2 (.mk ?_)
  refine nb tbk h1 fun x6 h1 => ?_
  refine tr tbk 2 (.mk ?_)
  cases x6
  replace h1 := cf h1
  refine tr tbk 2 (.mk ?_)
  obtain ⟨x7, e7, h1⟩ := bind_e h1
  refine sC cal199 (d_voucher_in_c e7) ?_
  refine nb tbk h1 fun x8 h1 => ?_
  refine tr tbk 3 (.mk ?_)
  exact lf h1 () leA
  replace h1 := ct h1
  refine tr tbk 7 (.mk ?_)
  exact lf h1 () leA
  replace h1 := ct h1
  refine tr tbk 12 (.mk ?_)
  exact lf h1 () leA
  rintro y0_1 _ h0
  obtain rfl := nxt_e h0
  refine wR hret (rT .nil) ?_
  exact .refl _
def d_voucher_Check_L0 (a1 : List GLine) : Nat → Int → Option ((Unit) ⊕ ((Int)))
  | 0, _ => none
  | n + 1, y1_1 =>
    bnd (decide (y1_1 < (a1.length : Int))) fun x10 =>
    cond x10 ((ix a1 y1_1).bind fun x11 =>
    (d_voucher_Check_1 x11).bind fun x12 =>
    cond x12 (esc (some (y1_1 : Int))) (bnd (w64 (y1_1 + 1)) fun x13 =>
    d_voucher_Check_L0 a1 n (x13 : Int))) (brk ())
def d_voucher_Check (n : Nat) (a1 : List GLine) : Option (Bool) :=
(show Option (Bool) from
bnd (decide ((a1.length : Int) < 1)) fun x3 =>
cond x3 (some (true : Bool)) (bnd (decide ((a1.length : Int) > 12)) fun x4 =>
some (x4 : Bool))).bind <| fun y0_1 =>
asrt (y0_1 = false) <|
(d_voucher_sum n a1).bind fun x5 =>
(show Option (Bool) from
(show Option ((Bool)) from
(show Option ((Int)) from
(show Option ((Unit) ⊕ ((Int))) from
d_voucher_Check_L0 a1 n (0 : Int)).bind <| sel <| fun _ =>
some ((-1) : Int)).bind <| fun y3_1 =>
bnd (decide (y3_1 ≥ 0)) fun x15 =>
some (x15 : Bool)).bind <| fun y4_1 =>
bnd (!y4_1) fun x16 =>
cond x16 (bnd (decide (x5.1 = 0)) fun x17 =>
cond x17 (bnd (decide (x5.2 = 0)) fun x18 =>
some (x18 : Bool)) (some (false : Bool))) (some (false : Bool))).bind <| fun y5_1 =>
some ((y5_1 : Bool))
theorem d_voucher_Check_c {n : Nat} {a1 : List GLine} {r : Bool} (h0 : d_voucher_Check n a1 = some r) : PP Tryz.prog 207 [lst 2 GLine.av a1] (fun y => y = boo r) := by
  unfold d_voucher_Check at h0
  refine pp_of_pc (R0 := fun y H => Cv (frzH H) y (boo r)) ?_ (fun y H hc => ⟨_, rfl, pvB r, hc⟩)
  refine pcw (c := _) Tryz.func207 rfl rfl ?_; intro Q hret hnorm
  refine tc tbk 6 (.mk ?_)
  refine jn h0 [0, 2] [] (fun (a : Bool) (k : Unit) => [(13, boo a)]) (fun a k => []) ⟨fun j2 h1 => ?_, ?_⟩
  refine tc tbk 2 (.mk ?_)
  refine sY (yv_len_sl rfl Tryz.underlying126 rfl (lst_len _)) ?_
  refine nb tbk h1 fun x3 h1 => ?_
  refine tr tbk 1 (.mk ?_)
  cases x3
  replace h1 := cf h1
  refine tr tbk 1 (.mk ?_)
  refine sY (yv_len_sl rfl Tryz.underlying126 rfl (lst_len _)) ?_
  refine nb tbk h1 fun x4 h1 => ?_
  refine tr tbk 2 (.mk ?_)
  exact lf h1 () leA
  replace h1 := ct h1
  refine tr tbk 5 (.mk ?_)
  exact lf h1 () leA
  rintro y0_1 _ h0
  replace h0 := asrt_e h0
  obtain ⟨rfl, h0⟩ := h0
  refine tc tbk 9 (.mk ?_)
  obtain ⟨x5, e5, h0⟩ := bind_e h0
  refine sC cal247 (d_voucher_sum_c e5) ?_
  refine tr tbk 7 (.mk ?_)
  refine jn h0 [] [] (fun (a : Bool) (k : Unit) => [(2, boo a)]) (fun a k => []) ⟨fun j6 h1 => ?_, ?_⟩
  refine tc tbk 3 (.mk ?_)
  obtain ⟨j7, h2, h1⟩ := bind_e h1
  refine rse (Out := fun y H' => (∃ (a : Bool) (k : Unit), a = j7 ∧ y = boo a ∧ H' = hk [])) rfl rfl rfl (yl_call rfl rfl (.cons rfl (.cons rfl .nil)) cal196 ?_) ?_
  refine pcw (c := _) Tryz.func196 rfl rfl ?_; intro Q hret hnorm
  refine tc tbk 8 (.mk ?_)
  obtain ⟨j8, h3, h2⟩ := bind_e h2
  refine rse (Out := fun y H' => (∃ (a : Int) (k : Unit), a = j8 ∧ y = int a ∧ H' = hk [])) rfl rfl rfl (yl_call rfl rfl (.cons rfl (.cons rfl .nil)) cal243 ?_) ?_
  refine pcw (c := _) Tryz.func243 rfl rfl ?_; intro Q hret hnorm
  refine tc tbk 8 (.mk ?_)
  refine sY (yv_len_sl rfl Tryz.underlying126 rfl (lst_len _)) ?_
  refine tr tbk 2 (.mk ?_)
  refine jnE h3 [4] [] (fun (a : Unit) (k : Unit) => []) (fun a k => []) ⟨fun j9 h4 h3 => ?_, ?_⟩
  refine tc tbk 1 (.mk ?_)
  refine lp (fun n (a : Int) => d_voucher_Check_L0 a1 n a) (0 : Int) () h4 [0, 1, 4, 7] [] (fun (a : Int) (k : Unit) => [(8, int a)]) (fun a k => []) (fun _ => rfl) ⟨leA, ?_⟩
  rintro n y1_1 _ hm h4
  replace h4 : d_voucher_Check_L0 a1 (n + 1) y1_1 = some _ := h4
  rw [d_voucher_Check_L0] at h4
  refine tc tbk 2 (.mk ?_)
  refine nb tbk h4 fun x10 h4 => ?_
  refine tr tbk 2 (.mk ?_)
  cases x10
  replace h4 := cf h4
  refine tc tbk 2 (.mk ?_)
  exact lfE h4 () leA
  replace h4 := ct h4
  refine tc tbk 14 (.mk ?_)
  obtain ⟨x11, e11, h4⟩ := bind_e h4
  refine sY (yv_ixT rfl Tryz.underlying126 sh125 rfl rfl e11) ?_
  refine tr tbk 1 (.mk ?_)
  obtain ⟨x12, e12, h4⟩ := bind_e h4
  refine sC cal246 (d_voucher_Check_1_c e12) ?_
  refine tr tbk 1 (.mk ?_)
  cases x12
  replace h4 := cf h4
  refine tc tbk 4 (.mk ?_)
  refine ni tbk h4 fun x13 h4 => ?_
  refine tr tbk 2 (.mk ?_)
  exact bk x13 () h4 leA
  replace h4 := ct h4
  refine tc tbk 6 (.mk ?_)
  obtain ⟨c14, hX, hj⟩ := esc_e h4; subst hj; replace h3 := hX.trans (sel_r h3)
  obtain rfl := nxt_e h3
  refine w_ret (hret _ _ (hk []) (.tmp rfl .nil) (fun _ _ h => nomatch h) ?_)
  exact ⟨y1_1, (), rfl, rfl, rfl⟩
  rintro _ _ h3
  refine tc tbk 4 (.mk ?_)
  obtain rfl := nxt_e h3
  refine w_ret (hret _ _ (hk []) (.tmp rfl .nil) (fun _ _ h => nomatch h) ?_)
  exact ⟨(-1), (), rfl, rfl, rfl⟩
  rintro y _ ⟨y3_1, _, rfl, hc, rfl⟩
  subst hc
  refine nb tbk h2 fun x15 h2 => ?_
  refine tr tbk 2 (.mk ?_)
  obtain rfl := nxt_e h2
  refine w_ret (hret _ _ (hk []) (.tmp rfl .nil) (fun _ _ h => nomatch h) ?_)
  exact ⟨x15, (), rfl, rfl, rfl⟩
  rintro y _ ⟨y4_1, _, rfl, hc, rfl⟩
  subst hc
  refine nb tbk h1 fun x16 h1 => ?_
  refine tr tbk 1 (.mk ?_)
  cases x16
  replace h1 := cf h1
  refine tr tbk 9 (.mk ?_)
  exact lf h1 () leA
  replace h1 := ct h1
  refine tr tbk 1 (.mk ?_)
  refine nb tbk h1 fun x17 h1 => ?_
  refine tr tbk 2 (.mk ?_)
  cases x17
  replace h1 := cf h1
  refine tr tbk 5 (.mk ?_)
  exact lf h1 () leA
  replace h1 := ct h1
  refine tr tbk 1 (.mk ?_)
  refine nb tbk h1 fun x18 h1 => ?_
  refine tr tbk 3 (.mk ?_)
  exact lf h1 () leA
  rintro y5_1 _ h0
  obtain rfl := nxt_e h0
  refine wR hret (rT .nil) ?_
  exact .refl _
end Go.Pv
