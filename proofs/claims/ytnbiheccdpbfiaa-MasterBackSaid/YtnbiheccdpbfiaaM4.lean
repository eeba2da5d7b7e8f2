import Derived.Test.YtnbiheccdpbfiaaPvZ
import Derived.Test.YtnbiheccdpbfiaaT6
import Derived.Test.YtnbiheccdpbfiaaT7
import Derived.Test.YtnbiheccdpbfiaaProg
set_option linter.unusedVariables false
set_option linter.unusedSimpArgs false
namespace Go.Pv
open Go.Proofs
set_option maxRecDepth 10000
structure GMaster where
  Entities : Int
  Periods : Int
  Weights : List Int
  Methods : List (List Int)
  Costs : List (List Int)
  deriving DecidableEq, Inhabited
@[reducible] def GMaster.av (x : GMaster) : List AV := [int x.Entities, int x.Periods, lst 1 fI x.Weights, lst 1 (fL 1 fI) x.Methods, lst 1 (fL 1 fI) x.Costs]
theorem GMaster.pvc (x : GMaster) : ∀ a ∈ x.av, PV a := by
  intro a ha; simp only [GMaster.av, List.mem_cons, List.not_mem_nil, or_false] at ha
  rcases ha with rfl | rfl | rfl | rfl | rfl
  · exact pvI x.Entities
  · exact pvI x.Periods
  · exact (pvLs pvcI) x.Weights
  · exact (pvLs (pvcLs pvcI)) x.Methods
  · exact (pvLs (pvcLs pvcI)) x.Costs
structure GLayer where
  Qty : Int
  Value : Int
  Profit : Int
  deriving DecidableEq, Inhabited
@[reducible] def GLayer.av (x : GLayer) : List AV := [int x.Qty, int x.Value, int x.Profit]
theorem GLayer.pvc (x : GLayer) : ∀ a ∈ x.av, PV a := by
  intro a ha; simp only [GLayer.av, List.mem_cons, List.not_mem_nil, or_false] at ha
  rcases ha with rfl | rfl | rfl
  · exact pvI x.Qty
  · exact pvI x.Value
  · exact pvI x.Profit
structure A3_Int where
  a0 : Int
  a1 : Int
  a2 : Int
  deriving DecidableEq, Inhabited
@[reducible] def A3_Int.av (x : A3_Int) : List AV := [int x.a0, int x.a1, int x.a2]
theorem A3_Int.pvc (x : A3_Int) : ∀ a ∈ x.av, PV a := by
  intro a ha; simp only [A3_Int.av, List.mem_cons, List.not_mem_nil, or_false] at ha
  rcases ha with rfl | rfl | rfl
  · exact pvI x.a0
  · exact pvI x.a1
  · exact pvI x.a2
structure GPool where
  Layers : List GLayer
  Pend : A3_Int
  deriving DecidableEq, Inhabited
@[reducible] def GPool.av (x : GPool) : List AV := [lst 3 GLayer.av x.Layers, int x.Pend.a0, int x.Pend.a1, int x.Pend.a2]
theorem GPool.pvc (x : GPool) : ∀ a ∈ x.av, PV a := by
  intro a ha; simp only [GPool.av, List.mem_cons, List.not_mem_nil, or_false] at ha
  rcases ha with rfl | rfl | rfl | rfl
  · exact (pvLs GLayer.pvc) x.Layers
  · exact pvI x.Pend.a0
  · exact pvI x.Pend.a1
  · exact pvI x.Pend.a2
structure GRoll where
  Open : Int
  Bought : Int
  Landed : Int
  Arrived : Int
  Returned : Int
  Sold : Int
  Shipped : Int
  SentBack : Int
  Scrapped : Int
  Lost : Int
  Revalued : Int
  deriving DecidableEq, Inhabited
@[reducible] def GRoll.av (x : GRoll) : List AV := [int x.Open, int x.Bought, int x.Landed, int x.Arrived, int x.Returned, int x.Sold, int x.Shipped, int x.SentBack, int x.Scrapped, int x.Lost, int x.Revalued]
theorem GRoll.pvc (x : GRoll) : ∀ a ∈ x.av, PV a := by
  intro a ha; simp only [GRoll.av, List.mem_cons, List.not_mem_nil, or_false] at ha
  rcases ha with rfl | rfl | rfl | rfl | rfl | rfl | rfl | rfl | rfl | rfl | rfl
  · exact pvI x.Open
  · exact pvI x.Bought
  · exact pvI x.Landed
  · exact pvI x.Arrived
  · exact pvI x.Returned
  · exact pvI x.Sold
  · exact pvI x.Shipped
  · exact pvI x.SentBack
  · exact pvI x.Scrapped
  · exact pvI x.Lost
  · exact pvI x.Revalued
structure GEnt where
  Now : Int
  Closed : Bool
  Pools : List GPool
  Bal : List Int
  Rolls : List GRoll
  Prices : List Int
  Down : List Int
  Ahead : List GEnt
  deriving Inhabited
mutual
def GEnt.av : GEnt → List AV
  | ⟨Now, Closed, Pools, Bal, Rolls, Prices, Down, Ahead⟩ => [int Now, boo Closed, lst 4 GPool.av Pools, lst 1 fI Bal, lst 11 GRoll.av Rolls, lst 1 fI Prices, lst 1 fI Down, .list 8 (GEnt.avs Ahead)]
def GEnt.avs : List GEnt → List (List AV)
  | [] => []
  | x :: r => GEnt.av x :: GEnt.avs r
end
theorem GEnt.avs_map (l : List GEnt) : GEnt.avs l = l.map GEnt.av := by
  induction l with
  | nil => unfold GEnt.avs; rfl
  | cons x r ih => unfold GEnt.avs; rw [ih]; rfl
theorem GEnt.av_eq (x : GEnt) : GEnt.av x = [int x.Now, boo x.Closed, lst 4 GPool.av x.Pools, lst 1 fI x.Bal, lst 11 GRoll.av x.Rolls, lst 1 fI x.Prices, lst 1 fI x.Down, lst 8 GEnt.av x.Ahead] := by
  cases x; unfold GEnt.av; rw [GEnt.avs_map]
theorem GEnt.one (x : GEnt) : allOne (GEnt.av x) = true := by rw [GEnt.av_eq]; rfl
mutual
theorem GEnt.pvc : ∀ (x : GEnt), ∀ a ∈ x.av, PV a
  | ⟨Now, Closed, Pools, Bal, Rolls, Prices, Down, Ahead⟩ => by
    intro a ha; unfold GEnt.av at ha; simp only [List.mem_cons, List.not_mem_nil, or_false] at ha
    rcases ha with rfl | rfl | rfl | rfl | rfl | rfl | rfl | rfl
    · exact pvI Now
    · exact pvB Closed
    · exact (pvLs GPool.pvc) Pools
    · exact (pvLs pvcI) Bal
    · exact (pvLs GRoll.pvc) Rolls
    · exact (pvLs pvcI) Prices
    · exact (pvLs pvcI) Down
    · exact .list (fun r hr => GEnt.pvcs Ahead r hr)
theorem GEnt.pvcs : ∀ (l : List GEnt), ∀ r ∈ GEnt.avs l, ∀ a ∈ r, PV a
  | [] => by intro r hr; unfold GEnt.avs at hr; cases hr
  | x :: l => by
    intro r hr; unfold GEnt.avs at hr
    rcases List.mem_cons.1 hr with e | h
    · rw [e]; exact GEnt.pvc x
    · exact GEnt.pvcs l r h
end
structure GReceipt where
  Entity : Int
  Item : Int
  Loc : Int
  Qty : Int
  Value : Int
  Open : Int
  Accrued : Int
  Back : Int
  deriving DecidableEq, Inhabited
@[reducible] def GReceipt.av (x : GReceipt) : List AV := [int x.Entity, int x.Item, int x.Loc, int x.Qty, int x.Value, int x.Open, int x.Accrued, int x.Back]
theorem GReceipt.pvc (x : GReceipt) : ∀ a ∈ x.av, PV a := by
  intro a ha; simp only [GReceipt.av, List.mem_cons, List.not_mem_nil, or_false] at ha
  rcases ha with rfl | rfl | rfl | rfl | rfl | rfl | rfl | rfl
  · exact pvI x.Entity
  · exact pvI x.Item
  · exact pvI x.Loc
  · exact pvI x.Qty
  · exact pvI x.Value
  · exact pvI x.Open
  · exact pvI x.Accrued
  · exact pvI x.Back
theorem GReceipt.eqv (x y : GReceipt) : (decide (x.Entity = y.Entity) && (decide (x.Item = y.Item) && (decide (x.Loc = y.Loc) && (decide (x.Qty = y.Qty) && (decide (x.Value = y.Value) && (decide (x.Open = y.Open) && (decide (x.Accrued = y.Accrued) && (decide (x.Back = y.Back) && true)))))))) = decide (x = y) := by
  cases x; cases y; rw [Bool.eq_iff_iff]; simp only [Bool.and_eq_true, decide_eq_true_eq, GReceipt.mk.injEq, and_true]
structure GSale where
  Entity : Int
  Item : Int
  Loc : Int
  Qty : Int
  Back : Int
  Cost : Int
  Profit : Int
  Period : Int
  Waits : Bool
  deriving DecidableEq, Inhabited
@[reducible] def GSale.av (x : GSale) : List AV := [int x.Entity, int x.Item, int x.Loc, int x.Qty, int x.Back, int x.Cost, int x.Profit, int x.Period, boo x.Waits]
theorem GSale.pvc (x : GSale) : ∀ a ∈ x.av, PV a := by
  intro a ha; simp only [GSale.av, List.mem_cons, List.not_mem_nil, or_false] at ha
  rcases ha with rfl | rfl | rfl | rfl | rfl | rfl | rfl | rfl | rfl
  · exact pvI x.Entity
  · exact pvI x.Item
  · exact pvI x.Loc
  · exact pvI x.Qty
  · exact pvI x.Back
  · exact pvI x.Cost
  · exact pvI x.Profit
  · exact pvI x.Period
  · exact pvB x.Waits
theorem GSale.eqv (x y : GSale) : (decide (x.Entity = y.Entity) && (decide (x.Item = y.Item) && (decide (x.Loc = y.Loc) && (decide (x.Qty = y.Qty) && (decide (x.Back = y.Back) && (decide (x.Cost = y.Cost) && (decide (x.Profit = y.Profit) && (decide (x.Period = y.Period) && (decide (x.Waits = y.Waits) && true))))))))) = decide (x = y) := by
  cases x; cases y; rw [Bool.eq_iff_iff]; simp only [Bool.and_eq_true, decide_eq_true_eq, GSale.mk.injEq, and_true]
structure GTransit where
  From : Int
  To : Int
  Item : Int
  Qty : Int
  Value : Int
  Profit : Int
  deriving DecidableEq, Inhabited
@[reducible] def GTransit.av (x : GTransit) : List AV := [int x.From, int x.To, int x.Item, int x.Qty, int x.Value, int x.Profit]
theorem GTransit.pvc (x : GTransit) : ∀ a ∈ x.av, PV a := by
  intro a ha; simp only [GTransit.av, List.mem_cons, List.not_mem_nil, or_false] at ha
  rcases ha with rfl | rfl | rfl | rfl | rfl | rfl
  · exact pvI x.From
  · exact pvI x.To
  · exact pvI x.Item
  · exact pvI x.Qty
  · exact pvI x.Value
  · exact pvI x.Profit
theorem GTransit.eqv (x y : GTransit) : (decide (x.From = y.From) && (decide (x.To = y.To) && (decide (x.Item = y.Item) && (decide (x.Qty = y.Qty) && (decide (x.Value = y.Value) && (decide (x.Profit = y.Profit) && true)))))) = decide (x = y) := by
  cases x; cases y; rw [Bool.eq_iff_iff]; simp only [Bool.and_eq_true, decide_eq_true_eq, GTransit.mk.injEq, and_true]
structure GState where
  Master : GMaster
  Ents : List GEnt
  Receipts : List GReceipt
  Sales : List GSale
  Transits : List GTransit
  Done : Int
  deriving Inhabited
@[reducible] def GState.av (x : GState) : List AV := [int x.Master.Entities, int x.Master.Periods, lst 1 fI x.Master.Weights, lst 1 (fL 1 fI) x.Master.Methods, lst 1 (fL 1 fI) x.Master.Costs, lst 8 GEnt.av x.Ents, lst 8 GReceipt.av x.Receipts, lst 9 GSale.av x.Sales, lst 6 GTransit.av x.Transits, int x.Done]
theorem GState.pvc (x : GState) : ∀ a ∈ x.av, PV a := by
  intro a ha; simp only [GState.av, List.mem_cons, List.not_mem_nil, or_false] at ha
  rcases ha with rfl | rfl | rfl | rfl | rfl | rfl | rfl | rfl | rfl | rfl
  · exact pvI x.Master.Entities
  · exact pvI x.Master.Periods
  · exact (pvLs pvcI) x.Master.Weights
  · exact (pvLs (pvcLs pvcI)) x.Master.Methods
  · exact (pvLs (pvcLs pvcI)) x.Master.Costs
  · exact (pvLs GEnt.pvc) x.Ents
  · exact (pvLs GReceipt.pvc) x.Receipts
  · exact (pvLs GSale.pvc) x.Sales
  · exact (pvLs GTransit.pvc) x.Transits
  · exact pvI x.Done
structure A11_Int where
  a0 : Int
  a1 : Int
  a2 : Int
  a3 : Int
  a4 : Int
  a5 : Int
  a6 : Int
  a7 : Int
  a8 : Int
  a9 : Int
  a10 : Int
  deriving DecidableEq, Inhabited
@[reducible] def A11_Int.av (x : A11_Int) : List AV := [int x.a0, int x.a1, int x.a2, int x.a3, int x.a4, int x.a5, int x.a6, int x.a7, int x.a8, int x.a9, int x.a10]
theorem A11_Int.pvc (x : A11_Int) : ∀ a ∈ x.av, PV a := by
  intro a ha; simp only [A11_Int.av, List.mem_cons, List.not_mem_nil, or_false] at ha
  rcases ha with rfl | rfl | rfl | rfl | rfl | rfl | rfl | rfl | rfl | rfl | rfl
  · exact pvI x.a0
  · exact pvI x.a1
  · exact pvI x.a2
  · exact pvI x.a3
  · exact pvI x.a4
  · exact pvI x.a5
  · exact pvI x.a6
  · exact pvI x.a7
  · exact pvI x.a8
  · exact pvI x.a9
  · exact pvI x.a10
theorem A11_Int.eqv (x y : A11_Int) : (decide (x.a0 = y.a0) && (decide (x.a1 = y.a1) && (decide (x.a2 = y.a2) && (decide (x.a3 = y.a3) && (decide (x.a4 = y.a4) && (decide (x.a5 = y.a5) && (decide (x.a6 = y.a6) && (decide (x.a7 = y.a7) && (decide (x.a8 = y.a8) && (decide (x.a9 = y.a9) && (decide (x.a10 = y.a10) && true))))))))))) = decide (x = y) := by
  cases x; cases y; rw [Bool.eq_iff_iff]; simp only [Bool.and_eq_true, decide_eq_true_eq, A11_Int.mk.injEq, and_true]
theorem sh22 : tySh Try.prog 22 = some (1, false) := by kernel_rfl
theorem sh41 : tySh Try.prog 41 = some (1, false) := by kernel_rfl
theorem sh43 : tySh Try.prog 43 = some (5, true) := by kernel_rfl
theorem sh48 : tySh Try.prog 48 = some (1, false) := by kernel_rfl
theorem sh49 : tySh Try.prog 49 = some (1, false) := by kernel_rfl
theorem sh50 : tySh Try.prog 50 = some (1, false) := by kernel_rfl
theorem sh51 : tySh Try.prog 51 = some (1, false) := by kernel_rfl
theorem sh53 : tySh Try.prog 53 = some (10, true) := by kernel_rfl
theorem sh63 : tySh Try.prog 63 = some (1, false) := by kernel_rfl
theorem sh64 : tySh Try.prog 64 = some (1, false) := by kernel_rfl
theorem sh66 : tySh Try.prog 66 = some (8, true) := by kernel_rfl
theorem sh68 : tySh Try.prog 68 = some (11, true) := by kernel_rfl
theorem sh69 : tySh Try.prog 69 = some (1, false) := by kernel_rfl
theorem sh72 : tySh Try.prog 72 = some (4, true) := by kernel_rfl
theorem sh73 : tySh Try.prog 73 = some (1, false) := by kernel_rfl
theorem sh91 : tySh Try.prog 91 = some (1, false) := by kernel_rfl
theorem sh104 : tySh Try.prog 104 = some (8, true) := by kernel_rfl
theorem sh106 : tySh Try.prog 106 = some (9, true) := by kernel_rfl
theorem sh108 : tySh Try.prog 108 = some (6, true) := by kernel_rfl
theorem sh110 : tySh Try.prog 110 = some (11, true) := by kernel_rfl
theorem sh119 : tySh Try.prog 119 = some (3, true) := by kernel_rfl
theorem by22 : bby Try.prog 22 = some 24 := by kernel_rfl
theorem by66 : bby Try.prog 66 = some 160 := by kernel_rfl
theorem by68 : bby Try.prog 68 = some 88 := by kernel_rfl
theorem by72 : bby Try.prog 72 = some 48 := by kernel_rfl
theorem bz22 : bsz Try.prog 22 = some (1, [.slice none 0 0]) := by kernel_rfl
theorem bz41 : bsz Try.prog 41 = some (1, [.slice none 0 0]) := by kernel_rfl
theorem bz66 : bsz Try.prog 66 = some (8, [.int .i64 0, .bool false, .slice none 0 0, .slice none 0 0, .slice none 0 0, .slice none 0 0, .slice none 0 0, .slice none 0 0]) := by kernel_rfl
theorem bz68 : bsz Try.prog 68 = some (11, [.int .i64 0, .int .i64 0, .int .i64 0, .int .i64 0, .int .i64 0, .int .i64 0, .int .i64 0, .int .i64 0, .int .i64 0, .int .i64 0, .int .i64 0]) := by kernel_rfl
theorem bz72 : bsz Try.prog 72 = some (4, [.slice none 0 0, .int .i64 0, .int .i64 0, .int .i64 0]) := by kernel_rfl
theorem c3 : Try.prog.cellsOf 3 = 1 := by kernel_rfl
theorem cal25 : cal Try.prog 25 = true := by kernel_rfl
theorem cal26 : cal Try.prog 26 = true := by kernel_rfl
theorem cal28 : cal Try.prog 28 = true := by kernel_rfl
theorem cal29 : cal Try.prog 29 = true := by kernel_rfl
theorem cal30 : cal Try.prog 30 = true := by kernel_rfl
theorem cal31 : cal Try.prog 31 = true := by kernel_rfl
theorem cal32 : cal Try.prog 32 = true := by kernel_rfl
theorem cal33 : cal Try.prog 33 = true := by kernel_rfl
theorem cal34 : cal Try.prog 34 = true := by kernel_rfl
theorem cal35 : cal Try.prog 35 = true := by kernel_rfl
theorem cal36 : cal Try.prog 36 = true := by kernel_rfl
theorem cal37 : cal Try.prog 37 = true := by kernel_rfl
theorem cal44 : cal Try.prog 44 = true := by kernel_rfl
theorem cal45 : cal Try.prog 45 = true := by kernel_rfl
theorem cal46 : cal Try.prog 46 = true := by kernel_rfl
theorem cal47 : cal Try.prog 47 = true := by kernel_rfl
theorem cal48 : cal Try.prog 48 = true := by kernel_rfl
theorem cal49 : cal Try.prog 49 = true := by kernel_rfl
theorem cal50 : cal Try.prog 50 = true := by kernel_rfl
theorem cal51 : cal Try.prog 51 = true := by kernel_rfl
theorem cal52 : cal Try.prog 52 = true := by kernel_rfl
theorem cal53 : cal Try.prog 53 = true := by kernel_rfl
theorem cal54 : cal Try.prog 54 = true := by kernel_rfl
theorem cal55 : cal Try.prog 55 = true := by kernel_rfl
theorem cal56 : cal Try.prog 56 = true := by kernel_rfl
theorem cal57 : cal Try.prog 57 = true := by kernel_rfl
theorem cal58 : cal Try.prog 58 = true := by kernel_rfl
theorem cal59 : cal Try.prog 59 = true := by kernel_rfl
theorem cal60 : cal Try.prog 60 = true := by kernel_rfl
theorem cal61 : cal Try.prog 61 = true := by kernel_rfl
theorem cal62 : cal Try.prog 62 = true := by kernel_rfl
theorem cal64 : cal Try.prog 64 = true := by kernel_rfl
theorem cal65 : cal Try.prog 65 = true := by kernel_rfl
theorem cal66 : cal Try.prog 66 = true := by kernel_rfl
theorem cal67 : cal Try.prog 67 = true := by kernel_rfl
theorem cal68 : cal Try.prog 68 = true := by kernel_rfl
theorem cal69 : cal Try.prog 69 = true := by kernel_rfl
theorem cal70 : cal Try.prog 70 = true := by kernel_rfl
theorem cal72 : cal Try.prog 72 = true := by kernel_rfl
theorem cal73 : cal Try.prog 73 = true := by kernel_rfl
theorem cal74 : cal Try.prog 74 = true := by kernel_rfl
theorem cal75 : cal Try.prog 75 = true := by kernel_rfl
theorem fl104 : flds Try.prog 104 = some [(3, 0), (3, 1), (3, 2), (3, 3), (3, 4), (3, 5), (3, 6), (3, 7)] := by kernel_rfl
theorem fl106 : flds Try.prog 106 = some [(3, 0), (3, 1), (3, 2), (3, 3), (3, 4), (3, 5), (3, 6), (3, 7), (4, 8)] := by kernel_rfl
theorem fl108 : flds Try.prog 108 = some [(3, 0), (3, 1), (3, 2), (3, 3), (3, 4), (3, 5)] := by kernel_rfl
theorem fo119_0 : fOff Try.prog 119 0 = some 0 := by kernel_rfl
theorem fo119_1 : fOff Try.prog 119 1 = some 1 := by kernel_rfl
theorem fo119_2 : fOff Try.prog 119 2 = some 2 := by kernel_rfl
theorem fo43_0 : fOff Try.prog 43 0 = some 0 := by kernel_rfl
theorem fo43_1 : fOff Try.prog 43 1 = some 1 := by kernel_rfl
theorem fo43_2 : fOff Try.prog 43 2 = some 2 := by kernel_rfl
theorem fo43_3 : fOff Try.prog 43 3 = some 3 := by kernel_rfl
theorem fo43_4 : fOff Try.prog 43 4 = some 4 := by kernel_rfl
theorem fo53_0 : fOff Try.prog 53 0 = some 0 := by kernel_rfl
theorem fo53_1 : fOff Try.prog 53 1 = some 5 := by kernel_rfl
theorem fo53_2 : fOff Try.prog 53 2 = some 6 := by kernel_rfl
theorem fo53_3 : fOff Try.prog 53 3 = some 7 := by kernel_rfl
theorem fo53_4 : fOff Try.prog 53 4 = some 8 := by kernel_rfl
theorem fo53_5 : fOff Try.prog 53 5 = some 9 := by kernel_rfl
theorem fo66_0 : fOff Try.prog 66 0 = some 0 := by kernel_rfl
theorem fo66_1 : fOff Try.prog 66 1 = some 1 := by kernel_rfl
theorem fo66_2 : fOff Try.prog 66 2 = some 2 := by kernel_rfl
theorem fo66_3 : fOff Try.prog 66 3 = some 3 := by kernel_rfl
theorem fo66_4 : fOff Try.prog 66 4 = some 4 := by kernel_rfl
theorem fo66_5 : fOff Try.prog 66 5 = some 5 := by kernel_rfl
theorem fo66_6 : fOff Try.prog 66 6 = some 6 := by kernel_rfl
theorem fo66_7 : fOff Try.prog 66 7 = some 7 := by kernel_rfl
theorem fo68_0 : fOff Try.prog 68 0 = some 0 := by kernel_rfl
theorem fo68_1 : fOff Try.prog 68 1 = some 1 := by kernel_rfl
theorem fo68_10 : fOff Try.prog 68 10 = some 10 := by kernel_rfl
theorem fo68_2 : fOff Try.prog 68 2 = some 2 := by kernel_rfl
theorem fo68_3 : fOff Try.prog 68 3 = some 3 := by kernel_rfl
theorem fo68_4 : fOff Try.prog 68 4 = some 4 := by kernel_rfl
theorem fo68_5 : fOff Try.prog 68 5 = some 5 := by kernel_rfl
theorem fo68_6 : fOff Try.prog 68 6 = some 6 := by kernel_rfl
theorem fo68_7 : fOff Try.prog 68 7 = some 7 := by kernel_rfl
theorem fo68_8 : fOff Try.prog 68 8 = some 8 := by kernel_rfl
theorem fo68_9 : fOff Try.prog 68 9 = some 9 := by kernel_rfl
theorem fo72_0 : fOff Try.prog 72 0 = some 0 := by kernel_rfl
theorem fo72_1 : fOff Try.prog 72 1 = some 1 := by kernel_rfl
theorem pl43 : plc Try.prog 43 = some [(0, 1), (1, 1), (2, 1), (3, 1), (4, 1)] := by kernel_rfl
theorem pl53 : plc Try.prog 53 = some [(0, 5), (5, 1), (6, 1), (7, 1), (8, 1), (9, 1)] := by kernel_rfl
theorem pl66 : plc Try.prog 66 = some [(0, 1), (1, 1), (2, 1), (3, 1), (4, 1), (5, 1), (6, 1), (7, 1)] := by kernel_rfl
theorem sz3 : ((Try.prog.info? 3).map (·.size)) = some 1 := by kernel_rfl
theorem z110 : zeroOf Try.prog 110 = some [.int .i64 0, .int .i64 0, .int .i64 0, .int .i64 0, .int .i64 0, .int .i64 0, .int .i64 0, .int .i64 0, .int .i64 0, .int .i64 0, .int .i64 0] := by kernel_rfl
theorem z24 : zeroOf Try.prog 24 = some [.pointer none] := by kernel_rfl
theorem z3 : zeroOf Try.prog 3 = some [.int .i64 0] := by kernel_rfl
theorem z43 : zeroOf Try.prog 43 = some [.int .i64 0, .int .i64 0, .slice none 0 0, .slice none 0 0, .slice none 0 0] := by kernel_rfl
theorem z53 : zeroOf Try.prog 53 = some [.int .i64 0, .int .i64 0, .slice none 0 0, .slice none 0 0, .slice none 0 0, .slice none 0 0, .slice none 0 0, .slice none 0 0, .slice none 0 0, .int .i64 0] := by kernel_rfl
theorem z61 : zeroOf Try.prog 61 = some [.int .i64 0, .int .i64 0, .int .i64 0, .int .i64 0, .int .i64 0, .int .i64 0] := by kernel_rfl
theorem z66 : zeroOf Try.prog 66 = some [.int .i64 0, .bool false, .slice none 0 0, .slice none 0 0, .slice none 0 0, .slice none 0 0, .slice none 0 0, .slice none 0 0] := by kernel_rfl
theorem z73 : zeroOf Try.prog 73 = some [.nilFunc] := by kernel_rfl
def numD (v : Int) : Option (List UInt8) := asrt (-9223372036854775808 ≤ v ∧ v ≤ 9223372036854775807) <| some (enc v)
theorem numD_c {v : Int} {r : List UInt8} (h : numD v = some r) : PP Try.prog 21 [int v] (fun y => y = str r) := by
  unfold numD at h; obtain ⟨p, h⟩ := asrt_e h; obtain rfl := nxt_e h; exact num_p p
def numRD (v : Int) : Option (List UInt8) := asrt (-9223372036854775808 ≤ v ∧ v ≤ 9223372036854775807) <| some (enc v)
theorem numRD_c {v : Int} {r : List UInt8} (h : numRD v = some r) : PP Try.prog 22 [int v] (fun y => y = str r) := by
  unfold numRD at h; obtain ⟨p, h⟩ := asrt_e h; obtain rfl := nxt_e h; exact numref_p p
def listD (v : List Int) : Option (List UInt8) := asrt ((∀ x ∈ v, -9223372036854775808 ≤ x ∧ x ≤ 9223372036854775807) ∧ v.length ≤ 68719476736) <| some (encL v)
theorem listD_c {v : List Int} {r : List UInt8} (h : listD v = some r) : PP Try.prog 23 [ints v] (fun y => y = str r) := by
  unfold listD at h; obtain ⟨p, h⟩ := asrt_e h; obtain rfl := nxt_e h; exact encl_p p.1 p.2
theorem clone46_c {H : AH} {id : Nat} {l : List Int} (hid : H id = none) (hl : l.length ≤ 68719476736) : PC Try.prog 46 [lst 1 fI l] H (fun y H' => ∃ ver, y = .sl id ver 0 l.length ∧ H' = upd H id (some ⟨3, 1, true, true, ver, l.map fI⟩)) := by
  refine pc_of' (c := _) Try.func46 rfl rfl ?_; intro Q hret hnorm
  repeat (refine c_seq ?_)
  refine c_reg ?_; intro K hK
  refine st rfl rfl rfl (yv_assign rfl rfl) ?_
  refine rg_nil (hK _ ?_)
  repeat (refine c_seq ?_)
  refine c_reg ?_; intro K hK
  refine st rfl rfl rfl (yv_move rfl rfl) ?_
  refine se rfl rfl rfl (Yield.weak (yl_slnil (xs := l.map fI) (sz := 1) rfl Try.underlying22 rfl rfl) (fun _ h => h) (fun _ _ => trivial)) ?_; rintro _ _ ⟨b, rfl, hb, rfl⟩
  refine rg_nil (hK _ ?_)
  refine c_if (b := b) rfl ?_ ?_
  · intro h; subst h
    have hl0 : l = [] := List.map_eq_nil_iff.1 (hb rfl)
    subst hl0
    repeat (refine c_seq ?_)
    refine c_reg ?_; intro K hK
    refine st rfl rfl rfl (yv_assign rfl rfl) ?_
    refine rg_nil (hK _ ?_)
    refine c_nilobj 2 id 3 1 rfl hid ?_; intro v
    refine c_ret (hret _ _ _ (.tmp rfl .nil) (fun _ _ h => h) ?_)
    exact ⟨v, rfl, rfl⟩
  · intro h; subst h
    refine c_skip ?_
    repeat (refine c_seq ?_)
    refine c_reg ?_; intro K hK
    refine se rfl rfl rfl (yl_buildO (ps := []) id [] .any rfl Try.underlying22 bz3 .nil rfl rfl rfl rfl) ?_; rintro _ _ ⟨v, -, rfl, rfl⟩
    refine st rfl rfl rfl (yv_move rfl rfl) ?_
    refine se rfl rfl rfl (yl_appT (g := fI) (l := []) (m := l) (l' := l) .any rfl Try.underlying22 bz3 by3 rfl rfl rfl (upd_same _ _ _) rfl rfl rfl rfl rfl rfl rfl (.refl _) (fun _ => rfl) rfl hl) ?_; rintro _ _ ⟨v2, -, rfl, rfl⟩
    refine st rfl rfl rfl (yv_assign rfl rfl) ?_
    refine rg_nil (hK _ ?_)
    refine c_ret (hret _ _ _ (.tmp rfl .nil) (fun _ _ h => h) ?_)
    exact ⟨v2, rfl, upd_updV⟩
theorem grow68_c {H : AH} {id : Nat} {N : Int} (hid : H id = none) (hN : 0 ≤ N ∧ N ≤ 1048576) : PC Try.prog 68 [.sc (.slice none 0 0), int N] H (fun y H' => ∃ ver, y = .sl id ver 0 0 ∧ H' = upd H id (some ⟨22, 1, true, true, ver, []⟩)) := by
  refine pc_of' (c := _) Try.func68 rfl rfl ?_; intro Q hret hnorm
  repeat (refine c_seq ?_)
  refine c_reg ?_; intro K hK
  refine st rfl rfl rfl (yv_assign rfl rfl) ?_
  refine rg_nil (hK _ ?_)
  repeat (refine c_seq ?_)
  refine c_reg ?_; intro K hK
  refine st rfl rfl rfl (yv_move rfl rfl) ?_
  refine st rfl rfl rfl (yv_to (y := boo false) (yv_lss rfl rfl rfl) (congrArg boo (decide_eq_false (by omega)))) ?_
  refine rg_nil (hK _ ?_)
  refine c_false rfl ?_
  refine c_skip ?_
  repeat (refine c_seq ?_)
  refine c_reg ?_; intro K hK
  refine st rfl rfl rfl (yv_move rfl rfl) ?_
  refine st rfl rfl rfl (yv_move rfl rfl) ?_
  refine st rfl rfl rfl (yv_capnil rfl Try.underlying41 rfl) ?_
  refine st rfl rfl rfl (yv_move rfl rfl) ?_
  refine st rfl rfl rfl (yv_len_sl rfl Try.underlying41 rfl (.nil _ _ _)) ?_
  refine st rfl rfl rfl (yv_sub (r := 0) rfl rfl rfl (by decide)) ?_
  refine st rfl rfl rfl (yv_sub (r := N) rfl rfl rfl (by rw [Int.sub_zero]; exact wrap64 (by omega))) ?_
  refine st rfl rfl rfl (yv_assign rfl rfl) ?_
  refine rg_nil (hK _ ?_)
  repeat (refine c_seq ?_)
  refine c_reg ?_; intro K hK
  refine st rfl rfl rfl (yv_move rfl rfl) ?_
  refine st rfl rfl rfl (yv_gtr rfl rfl rfl) ?_
  refine rg_nil (hK _ ?_)
  refine c_dec rfl ?_ ?_
  · intro hp
    repeat (refine c_seq ?_)
    refine c_reg ?_; intro K hK
    refine st rfl rfl rfl (yv_move rfl rfl) ?_
    refine st rfl rfl rfl (yv_move rfl rfl) ?_
    refine st rfl rfl rfl (yv_capnil rfl Try.underlying41 rfl) ?_
    refine st rfl rfl rfl (yv_slnilc rfl Try.underlying41 sh22 rfl .no (.yes rfl rfl)) ?_
    refine st rfl rfl rfl (yv_move rfl rfl) ?_
    refine se rfl rfl rfl (yl_appZ (U2 := no) id .any rfl Try.underlying41 Try.underlying3 bz22 by22 rfl rfl rfl ⟨hp, hN.2⟩ rfl) ?_; rintro _ _ ⟨v, -, rfl, rfl⟩
    refine st rfl rfl rfl (yv_move rfl rfl) ?_
    refine st rfl rfl rfl (yv_len_sl rfl Try.underlying41 rfl (.nil _ _ _)) ?_
    refine st rfl rfl rfl (yv_slO (i := 0) (j := 0) rfl Try.underlying41 sh22 rfl (upd_same _ _ _) rfl rfl .no (.yes rfl rfl) (Nat.le_refl _) (Nat.zero_le _) (.inr rfl)) ?_
    refine st rfl rfl rfl (yv_assign rfl rfl) ?_
    refine rg_nil (hK _ ?_)
    repeat (refine c_seq ?_)
    refine c_reg ?_; intro K hK
    refine st rfl rfl rfl (yv_move rfl rfl) ?_
    refine st rfl rfl rfl (yv_assign rfl rfl) ?_
    refine rg_nil (hK _ ?_)
    refine c_ret (hret _ _ _ (.tmp rfl .nil) (fun _ _ h => h) ?_)
    exact ⟨v, rfl, rfl⟩
  · intro hp
    refine c_skip ?_
    repeat (refine c_seq ?_)
    refine c_reg ?_; intro K hK
    refine st rfl rfl rfl (yv_move rfl rfl) ?_
    refine st rfl rfl rfl (yv_assign rfl rfl) ?_
    refine rg_nil (hK _ ?_)
    refine c_nilobj 4 id 22 1 rfl hid ?_; intro v
    refine c_ret (hret _ _ _ (.tmp rfl .nil) (fun _ _ h => h) ?_)
    exact ⟨v, rfl, rfl⟩
def d_law00_Place (a1 : Int) (a2 : Int) : Option (Int) :=
asrt (a2 ≠ 0) <|
bnd (a1.tmod a2) fun (x4 : Int) =>
bnd (decide (x4 < 0)) fun (x5 : Bool) =>
(show Option (Int) from
cond x5 (bnd (w64 (x4 + a2)) fun (x7 : Int) =>
some (x7 : Int)) (some (x4 : Int))).bind <| fun (y0_1 : Int) =>
some ((y0_1 : Int))
theorem d_law00_Place_c {a1 : Int} {a2 : Int} {r : Int} (h0 : d_law00_Place a1 a2 = some r) : PP Try.prog 11 [int a1, int a2] (fun y => y = int r) := by
  unfold d_law00_Place at h0
  refine pp_of_pc (R0 := fun y H => Cv (frzH H) y (int r)) ?_ (fun y H hc => ⟨_, rfl, pvI r, hc⟩)
  refine pc_of' (c := _) Try.func11 rfl rfl ?_; intro Q hret hnorm
  refine c_seq ?_
  refine c_reg ?_; intro K hK
  refine st rfl rfl rfl (yv_assign rfl rfl) ?_
  refine rg_nil (hK _ ?_)
  refine c_seq ?_
  refine c_reg ?_; intro K hK
  refine st rfl rfl rfl (yv_move rfl rfl) ?_
  refine st rfl rfl rfl (yv_move rfl rfl) ?_
  obtain ⟨p3, h0⟩ := asrt_e h0
  obtain ⟨x4, e4, h0⟩ := bnd_e h0
  refine st rfl rfl rfl (yv_rem rfl rfl rfl p3 e4) ?_
  refine st rfl rfl rfl (yv_assign rfl rfl) ?_
  refine rg_nil (hK _ ?_)
  refine c_seq ?_
  refine c_seq ?_
  refine c_reg ?_; intro K hK
  refine st rfl rfl rfl (yv_move rfl rfl) ?_
  obtain ⟨x5, e5, h0⟩ := bnd_e h0
  refine st rfl rfl rfl (yv_to (y := boo x5) (yv_lss rfl rfl rfl) (congrArg boo e5)) ?_
  refine rg_nil (hK _ ?_)
  obtain ⟨j6, h1, h0⟩ := bind_e h0
  refine c_joinL (fun (a : Int) (k : Unit) => ⟨kn [(4, int 0), (5, int a)], hk []⟩) (fun a => a = j6) ?_ ?_
  · intro Q1 jn1 jx1 jr1
    refine c_if (b := x5) rfl ?_ ?_
    · intro hb; subst hb; replace h1 := ct h1
      refine c_reg ?_; intro K hK
      refine st rfl rfl rfl (yv_move rfl rfl) ?_
      refine st rfl rfl rfl (yv_move rfl rfl) ?_
      obtain ⟨x7, e7, h1⟩ := bnd_e h1
      refine st rfl rfl rfl (yv_add rfl rfl rfl e7) ?_
      refine st rfl rfl rfl (yv_assign rfl rfl) ?_
      refine rg_nil (hK _ ?_)
      obtain rfl := nxt_e h1
      refine c_nil (jn1 _ ⟨x7, (), rfl, leH_kn ⟨⟨_, rfl, (.refl _)⟩, ⟨_, rfl, (.refl _)⟩, trivial⟩ trivial⟩)
    · intro hb; subst hb; replace h1 := cf h1
      refine c_skip ?_
      obtain rfl := nxt_e h1
      refine c_nil (jn1 _ ⟨x4, (), rfl, leH_kn ⟨⟨_, rfl, (.refl _)⟩, ⟨_, rfl, (.refl _)⟩, trivial⟩ trivial⟩)
  · rintro y0_1 _ rfl
    refine c_show ⟨kn [(4, int 0), (5, int y0_1)], hk []⟩ ?_
    refine c_seq ?_
    refine c_reg ?_; intro K hK
    refine st rfl rfl rfl (yv_move rfl rfl) ?_
    refine st rfl rfl rfl (yv_assign rfl rfl) ?_
    refine rg_nil (hK _ ?_)
    obtain rfl := nxt_e h0
    refine c_ret (hret _ _ _ (.tmp rfl .nil) (fun _ _ h => h) ?_)
    exact .refl _
def d_law00_Master_L0 (x3 : Int) (x8 : Int) : Nat → Int → (List Int) → Option ((List Int))
  | 0, _, _ => none
  | n + 1, y0_1, y0_3 =>
    bnd (decide (y0_1 < x8)) fun (x15 : Bool) =>
    cond x15 (bnd (w64 (x3.tdiv 24)) fun (x16 : Int) =>
    bnd (x16.tmod 7) fun (x17 : Int) =>
    bnd (w64 (x17 + y0_1)) fun (x18 : Int) =>
    bnd (y0_3 ++ ([x18] : List Int)) fun (x19 : List Int) =>
    asrt (x19.length ≤ 68719476736) <|
    bnd (w64 (y0_1 + 1)) fun (x22 : Int) =>
    d_law00_Master_L0 x3 x8 n (x22 : Int) (x19 : List Int)) (some (y0_3 : List Int))
def d_law00_Master_L2 (x3 : Int) (x8 : Int) (y2_1 : Int) : Nat → Int → (List Int) → (List Int) → Option ((List Int) × (List Int))
  | 0, _, _, _ => none
  | n + 1, y3_3, y3_4, y3_5 =>
    bnd (decide (y3_3 < x8)) fun (x31 : Bool) =>
    cond x31 (bnd (w64 (x3.tdiv 168)) fun (x32 : Int) =>
    bnd (w64 (x32 + y3_3)) fun (x33 : Int) =>
    bnd (w64 (x3.tdiv 672)) fun (x34 : Int) =>
    bnd (x34.tmod 4) fun (x35 : Int) =>
    bnd (w64 (y2_1 * x35)) fun (x36 : Int) =>
    bnd (w64 (x33 + x36)) fun (x37 : Int) =>
    bnd (x37.tmod 4) fun (x38 : Int) =>
    bnd (w64 (1 + x38)) fun (x39 : Int) =>
    bnd (y3_4 ++ ([x39] : List Int)) fun (x40 : List Int) =>
    asrt (x40.length ≤ 68719476736) <|
    bnd (w64 (x3.tdiv 2688)) fun (x43 : Int) =>
    bnd (w64 (7 * y3_3)) fun (x44 : Int) =>
    bnd (w64 (x43 + x44)) fun (x45 : Int) =>
    bnd (w64 (x45 + y2_1)) fun (x46 : Int) =>
    bnd (x46.tmod 40) fun (x47 : Int) =>
    bnd (y3_5 ++ ([x47] : List Int)) fun (x48 : List Int) =>
    asrt (x48.length ≤ 68719476736) <|
    bnd (w64 (y3_3 + 1)) fun (x51 : Int) =>
    d_law00_Master_L2 x3 x8 y2_1 n (x51 : Int) (x40 : List Int) (x48 : List Int)) (some ((y3_4 : List Int), (y3_5 : List Int)))
def d_law00_Master_L1 (x3 : Int) (x5 : Int) (x8 : Int) : Nat → Int → (List (List Int)) → (List (List Int)) → Option ((List (List Int)) × (List (List Int)))
  | 0, _, _, _ => none
  | n + 1, y2_1, y2_4, y2_5 =>
    bnd (decide (y2_1 < x5)) fun (x26 : Bool) =>
    cond x26 ((show Option ((List (List Int)) × (List (List Int))) from
    (show Option ((List Int) × (List Int)) from
    d_law00_Master_L2 x3 x8 y2_1 n (0 : Int) (([] : List Int) : List Int) (([] : List Int) : List Int)).bind <| p2 fun (y4_3 : List Int) (y4_4 : List Int) =>
    bnd (y2_4 ++ [y4_3]) fun (x52 : List (List Int)) =>
    asrt (x52.length ≤ 68719476736) <|
    bnd (y2_5 ++ [y4_4]) fun (x55 : List (List Int)) =>
    asrt (x55.length ≤ 68719476736) <|
    some ((x52 : List (List Int)), (x55 : List (List Int)))).bind <| p2 fun (y5_3 : List (List Int)) (y5_4 : List (List Int)) =>
    bnd (w64 (y2_1 + 1)) fun (x58 : Int) =>
    d_law00_Master_L1 x3 x5 x8 n (x58 : Int) (y5_3 : List (List Int)) (y5_4 : List (List Int))) (some ((y2_4 : List (List Int)), (y2_5 : List (List Int))))
def d_law00_Master (n : Nat) (a1 : Int) : Option (GMaster) :=
(d_law00_Place a1 1073741824).bind fun (x3 : Int) =>
bnd (x3.tmod 2) fun (x4 : Int) =>
bnd (w64 (2 + x4)) fun (x5 : Int) =>
bnd (w64 (x3.tdiv 2)) fun (x6 : Int) =>
bnd (x6.tmod 3) fun (x7 : Int) =>
bnd (w64 (2 + x7)) fun (x8 : Int) =>
bnd (w64 (x3.tdiv 6)) fun (x9 : Int) =>
bnd (x9.tmod 4) fun (x10 : Int) =>
bnd (w64 (1 + x10)) fun (x11 : Int) =>
(show Option ((List Int)) from
d_law00_Master_L0 x3 x8 n (0 : Int) (([] : List Int) : List Int)).bind <| fun (y1_2 : List Int) =>
(show Option ((List (List Int)) × (List (List Int))) from
d_law00_Master_L1 x3 x5 x8 n (0 : Int) (([] : List (List Int)) : List (List Int)) (([] : List (List Int)) : List (List Int))).bind <| p2 fun (y6_3 : List (List Int)) (y6_4 : List (List Int)) =>
some (((⟨x5, x11, y1_2, y6_3, y6_4⟩ : GMaster) : GMaster))
theorem d_law00_Master_c {n : Nat} {a1 : Int} {r : GMaster} (h0 : d_law00_Master n a1 = some r) : PP Try.prog 37 [int a1] (fun y => y = .agg (GMaster.av r)) := by
  unfold d_law00_Master at h0
  refine pp_of_pc (R0 := fun y H => Cv (frzH H) y (.agg (GMaster.av r))) ?_ (fun y H hc => ⟨_, rfl, (fun (a : GMaster) => PV.agg (GMaster.pvc a)) r, hc⟩)
  refine pc_of' (c := _) Try.func37 rfl rfl ?_; intro Q hret hnorm
  refine c_seq ?_
  refine c_reg ?_; intro K hK
  refine se rfl rfl rfl (yl_alloc 1 .any rfl z43 rfl) ?_; rintro _ _ ⟨v2, -, rfl, rfl⟩
  refine rg_nil (hK _ ?_)
  refine c_seq ?_
  refine c_reg ?_; intro K hK
  refine st rfl rfl rfl (yv_move rfl rfl) ?_
  obtain ⟨x3, e3, h0⟩ := bind_e h0
  refine st rfl rfl rfl (yv_callP rfl rfl (.cons rfl (.cons rfl .nil)) cal11 (CvL.refl _) (d_law00_Place_c e3)) ?_
  refine st rfl rfl rfl (yv_assign rfl rfl) ?_
  refine rg_nil (hK _ ?_)
  refine c_seq ?_
  refine c_reg ?_; intro K hK
  refine st rfl rfl rfl (yv_move rfl rfl) ?_
  obtain ⟨x4, e4, h0⟩ := bnd_e h0
  refine st rfl rfl rfl (yv_rem rfl rfl rfl (by decide) e4) ?_
  obtain ⟨x5, e5, h0⟩ := bnd_e h0
  refine st rfl rfl rfl (yv_add rfl rfl rfl e5) ?_
  refine st rfl rfl rfl (yv_move rfl rfl) ?_
  obtain ⟨x6, e6, h0⟩ := bnd_e h0
  refine st rfl rfl rfl (yv_quo rfl rfl rfl (by decide) e6) ?_
  obtain ⟨x7, e7, h0⟩ := bnd_e h0
  refine st rfl rfl rfl (yv_rem rfl rfl rfl (by decide) e7) ?_
  obtain ⟨x8, e8, h0⟩ := bnd_e h0
  refine st rfl rfl rfl (yv_add rfl rfl rfl e8) ?_
  refine st rfl rfl rfl (yv_assign rfl rfl) ?_
  refine st rfl rfl rfl (yv_assign rfl rfl) ?_
  refine rg_nil (hK _ ?_)
  refine c_seq ?_
  refine c_reg ?_; intro K hK
  refine st rfl rfl rfl (yv_move rfl rfl) ?_
  refine st rfl rfl rfl (yv_move rfl rfl) ?_
  obtain ⟨x9, e9, h0⟩ := bnd_e h0
  refine st rfl rfl rfl (yv_quo rfl rfl rfl (by decide) e9) ?_
  obtain ⟨x10, e10, h0⟩ := bnd_e h0
  refine st rfl rfl rfl (yv_rem rfl rfl rfl (by decide) e10) ?_
  obtain ⟨x11, e11, h0⟩ := bnd_e h0
  refine st rfl rfl rfl (yv_add rfl rfl rfl e11) ?_
  refine st rfl rfl rfl (yv_build (cs := [int x5, int x11, .sc (.slice none 0 0), .sc (.slice none 0 0), .sc (.slice none 0 0)]) (ps := [(0, _), (1, _)]) rfl pl43 z43 rfl (.cons rfl (.cons rfl .nil)) (by kernel_rfl)) ?_
  refine se rfl rfl rfl (yl_alloc 2 .any rfl z43 rfl) ?_; rintro _ _ ⟨v12, -, rfl, rfl⟩
  refine sstore rfl rfl (yl_ob (ob' := (⟨43, 5, true, true, v12, [[int x5, int x11, .sc (.slice none 0 0), .sc (.slice none 0 0), .sc (.slice none 0 0)]]⟩ : AObj)) (yl_store rfl sh43 rfl rfl rfl rfl rfl rfl rfl rfl rfl) rfl) ?_
  refine rg_nil (hK _ ?_)
  refine c_seq ?_
  refine c_seq ?_
  refine c_reg ?_; intro K hK
  refine st rfl rfl rfl (yv_assign rfl rfl) ?_
  refine rg_nil (hK _ ?_)
  obtain ⟨j13, h1, h0⟩ := bind_e h0
  refine c_joinL (fun (a : (List Int)) (k : Nat) => ⟨kn [(2, .pt 1 v2 0 0), (3, int x3), (4, int x5), (5, int x8), (6, .pt 2 v12 0 0)], hk [(1, ⟨43, 5, true, true, v2, [[int 0, int 0, .sc (.slice none 0 0), .sc (.slice none 0 0), .sc (.slice none 0 0)]]⟩), (2, ⟨43, 5, true, true, v12, [[int x5, int x11, .sl 3 k 0 a.length, .sc (.slice none 0 0), .sc (.slice none 0 0)]]⟩), (3, ⟨3, 1, true, true, k, a.map fI⟩)]⟩) (fun a => a = j13) ?_ ?_
  · intro Q1 jn1 jx1 jr1
    refine c_block ?_; intro Q2 bn2 bx2 br2 bo2
    refine c_nilcell 2 0 2 3 3 1 (rows := fun v14 => [[int x5, int x11, .sl 3 v14 0 0, .sc (.slice none 0 0), .sc (.slice none 0 0)]]) rfl rfl rfl rfl (fun _ => rfl) ?_; intro v14
    refine c_loopD (fun (a : Int × (List Int)) (k : Nat) => ⟨kn [(2, .pt 1 v2 0 0), (3, int x3), (4, int x5), (5, int x8), (6, .pt 2 v12 0 0), (7, int a.1)], hk [(1, ⟨43, 5, true, true, v2, [[int 0, int 0, .sc (.slice none 0 0), .sc (.slice none 0 0), .sc (.slice none 0 0)]]⟩), (2, ⟨43, 5, true, true, v12, [[int x5, int x11, .sl 3 k 0 a.2.length, .sc (.slice none 0 0), .sc (.slice none 0 0)]]⟩), (3, ⟨3, 1, true, true, k, a.2.map fI⟩)]⟩) (fun n (a : Int × (List Int)) => d_law00_Master_L0 x3 x8 n a.1 a.2) ((0 : Int), (([] : List Int) : List Int)) v14 h1 (fun _ => rfl)
      (leH_kn ⟨⟨_, rfl, (.refl _)⟩, ⟨_, rfl, (.refl _)⟩, ⟨_, rfl, (.refl _)⟩, ⟨_, rfl, (.refl _)⟩, ⟨_, rfl, (.refl _)⟩, ⟨_, rfl, (.refl _)⟩, trivial⟩ ⟨⟨_, rfl, (.refl _)⟩, ⟨_, rfl, (.refl _)⟩, ⟨_, rfl, (.refl _)⟩, trivial⟩) ?_
    rintro n ⟨y0_1, y0_3⟩ w0_2 hm h1 Q3 ln3 lx3 lr3
    replace h1 : d_law00_Master_L0 x3 x8 (n + 1) y0_1 y0_3 = some _ := h1
    rw [d_law00_Master_L0] at h1
    refine c_show ⟨kn [(2, .pt 1 v2 0 0), (3, int x3), (4, int x5), (5, int x8), (6, .pt 2 v12 0 0), (7, int y0_1)], hk [(1, ⟨43, 5, true, true, v2, [[int 0, int 0, .sc (.slice none 0 0), .sc (.slice none 0 0), .sc (.slice none 0 0)]]⟩), (2, ⟨43, 5, true, true, v12, [[int x5, int x11, .sl 3 w0_2 0 y0_3.length, .sc (.slice none 0 0), .sc (.slice none 0 0)]]⟩), (3, ⟨3, 1, true, true, w0_2, y0_3.map fI⟩)]⟩ ?_
    refine c_seq ?_
    refine c_seq ?_
    refine c_reg ?_; intro K hK
    refine st rfl rfl rfl (yv_move rfl rfl) ?_
    refine st rfl rfl rfl (yv_move rfl rfl) ?_
    obtain ⟨x15, e15, h1⟩ := bnd_e h1
    refine st rfl rfl rfl (yv_to (y := boo x15) (yv_lss rfl rfl rfl) (congrArg boo e15)) ?_
    refine rg_nil (hK _ ?_)
    refine c_if (b := x15) rfl ?_ ?_
    · intro hb; subst hb; replace h1 := ct h1
      refine c_skip ?_
      refine c_seq ?_
      refine c_block ?_; intro Q4 bn4 bx4 br4 bo4
      refine c_reg ?_; intro K hK
      refine st rfl rfl rfl (yv_fieldAddr rfl fo43_2 rfl (.pt rfl rfl rfl) (.pt _ _ _ _ _)) ?_
      refine st rfl rfl rfl (yv_load rfl sh22 rfl (.pt rfl rfl rfl) rfl) ?_
      refine st rfl rfl rfl (yv_move rfl rfl) ?_
      obtain ⟨x16, e16, h1⟩ := bnd_e h1
      refine st rfl rfl rfl (yv_quo rfl rfl rfl (by decide) e16) ?_
      obtain ⟨x17, e17, h1⟩ := bnd_e h1
      refine st rfl rfl rfl (yv_rem rfl rfl rfl (by decide) e17) ?_
      refine st rfl rfl rfl (yv_move rfl rfl) ?_
      obtain ⟨x18, e18, h1⟩ := bnd_e h1
      refine st rfl rfl rfl (yv_add rfl rfl rfl e18) ?_
      refine st rfl rfl rfl (yv_to (y := lst 1 fI ([x18] : List Int)) (yv_buildSlice (ps := [(0, _)]) (rows := [[int x18]]) rfl Try.underlying22 bz3 (.cons rfl .nil) (by kernel_rfl) rfl rfl rfl) rfl) ?_
      obtain ⟨x19, e19, h1⟩ := bnd_e h1
      obtain ⟨p20, h1⟩ := asrt_e h1
      refine se rfl rfl rfl (yl_appT (g := fI) (l := y0_3) (m := ([x18] : List Int)) .any rfl Try.underlying22 bz3 by3 rfl rfl rfl rfl rfl rfl rfl rfl rfl rfl (Eq.symm rfl) (.refl _) (fun _ => rfl) e19 p20) ?_; rintro _ _ ⟨v21, -, rfl, rfl⟩
      refine st rfl rfl rfl (yv_fieldAddr rfl fo43_2 rfl (.pt rfl rfl rfl) (.pt _ _ _ _ _)) ?_
      refine sstore rfl rfl (yl_ob (ob' := (⟨43, 5, true, true, v12, [[int x5, int x11, .sl 3 v21 0 x19.length, .sc (.slice none 0 0), .sc (.slice none 0 0)]]⟩ : AObj)) (yl_store rfl sh22 rfl rfl rfl rfl rfl rfl rfl rfl rfl) rfl) ?_
      refine rg_nil (hK _ ?_)
      refine c_nil (bn4 _ ?_)
      refine c_reg ?_; intro K hK
      refine st rfl rfl rfl (yv_move rfl rfl) ?_
      obtain ⟨x22, e22, h1⟩ := bnd_e h1
      refine st rfl rfl rfl (yv_add rfl rfl rfl e22) ?_
      refine st rfl rfl rfl (yv_assign rfl rfl) ?_
      refine rg_nil (hK _ ?_)
      refine c_nil (ln3 _ ⟨(x22, x19), v21, h1, leH_kn ⟨⟨_, rfl, (.refl _)⟩, ⟨_, rfl, (.refl _)⟩, ⟨_, rfl, (.refl _)⟩, ⟨_, rfl, (.refl _)⟩, ⟨_, rfl, (.refl _)⟩, ⟨_, rfl, (.refl _)⟩, trivial⟩ ⟨⟨_, rfl, (.refl _)⟩, ⟨_, rfl, (.refl _)⟩, ⟨_, rfl, (.refl _)⟩, trivial⟩⟩)
    · intro hb; subst hb; replace h1 := cf h1
      refine c_exit (lx3 _ _ (bx2 _ ?_))
      obtain rfl := nxt_e h1
      refine c_nil (jn1 _ ⟨y0_3, w0_2, rfl, leH_kn ⟨⟨_, rfl, (.refl _)⟩, ⟨_, rfl, (.refl _)⟩, ⟨_, rfl, (.refl _)⟩, ⟨_, rfl, (.refl _)⟩, ⟨_, rfl, (.refl _)⟩, trivial⟩ ⟨⟨_, rfl, (.refl _)⟩, ⟨_, rfl, (.refl _)⟩, ⟨_, rfl, (.refl _)⟩, trivial⟩⟩)
  · rintro y1_2 w1_1 rfl
    refine c_show ⟨kn [(2, .pt 1 v2 0 0), (3, int x3), (4, int x5), (5, int x8), (6, .pt 2 v12 0 0)], hk [(1, ⟨43, 5, true, true, v2, [[int 0, int 0, .sc (.slice none 0 0), .sc (.slice none 0 0), .sc (.slice none 0 0)]]⟩), (2, ⟨43, 5, true, true, v12, [[int x5, int x11, .sl 3 w1_1 0 y1_2.length, .sc (.slice none 0 0), .sc (.slice none 0 0)]]⟩), (3, ⟨3, 1, true, true, w1_1, y1_2.map fI⟩)]⟩ ?_
    refine c_seq ?_
    refine c_seq ?_
    refine c_reg ?_; intro K hK
    refine st rfl rfl rfl (yv_assign rfl rfl) ?_
    refine rg_nil (hK _ ?_)
    obtain ⟨j23, h1, h0⟩ := bind_e h0
    refine c_joinL (fun (a : (List (List Int)) × (List (List Int))) (k : Nat × Nat) => ⟨kn [(2, .pt 1 v2 0 0), (6, .pt 2 v12 0 0)], hk [(1, ⟨43, 5, true, true, v2, [[int 0, int 0, .sc (.slice none 0 0), .sc (.slice none 0 0), .sc (.slice none 0 0)]]⟩), (2, ⟨43, 5, true, true, v12, [[int x5, int x11, .sl 3 w1_1 0 y1_2.length, .sl 4 k.1 0 a.1.length, .sl 5 k.2 0 a.2.length]]⟩), (3, ⟨3, 1, true, true, w1_1, y1_2.map fI⟩), (4, ⟨22, 1, true, true, k.1, a.1.map (fL 1 fI)⟩), (5, ⟨22, 1, true, true, k.2, a.2.map (fL 1 fI)⟩)]⟩) (fun a => a = j23) ?_ ?_
    · intro Q1 jn1 jx1 jr1
      refine c_block ?_; intro Q2 bn2 bx2 br2 bo2
      refine c_nilcell 2 0 3 4 22 1 (rows := fun v24 => [[int x5, int x11, .sl 3 w1_1 0 y1_2.length, .sl 4 v24 0 0, .sc (.slice none 0 0)]]) rfl rfl rfl rfl (fun _ => rfl) ?_; intro v24
      refine c_nilcell 2 0 4 5 22 1 (rows := fun v25 => [[int x5, int x11, .sl 3 w1_1 0 y1_2.length, .sl 4 v24 0 0, .sl 5 v25 0 0]]) rfl rfl rfl rfl (fun _ => rfl) ?_; intro v25
      refine c_loopD (fun (a : Int × (List (List Int)) × (List (List Int))) (k : Nat × Nat) => ⟨kn [(2, .pt 1 v2 0 0), (3, int x3), (4, int x5), (5, int x8), (6, .pt 2 v12 0 0), (8, int a.1)], hk [(1, ⟨43, 5, true, true, v2, [[int 0, int 0, .sc (.slice none 0 0), .sc (.slice none 0 0), .sc (.slice none 0 0)]]⟩), (2, ⟨43, 5, true, true, v12, [[int x5, int x11, .sl 3 w1_1 0 y1_2.length, .sl 4 k.1 0 a.2.1.length, .sl 5 k.2 0 a.2.2.length]]⟩), (3, ⟨3, 1, true, true, w1_1, y1_2.map fI⟩), (4, ⟨22, 1, true, true, k.1, a.2.1.map (fL 1 fI)⟩), (5, ⟨22, 1, true, true, k.2, a.2.2.map (fL 1 fI)⟩)]⟩) (fun n (a : Int × (List (List Int)) × (List (List Int))) => d_law00_Master_L1 x3 x5 x8 n a.1 a.2.1 a.2.2) ((0 : Int), (([] : List (List Int)) : List (List Int)), (([] : List (List Int)) : List (List Int))) (v24, v25) h1 (fun _ => rfl)
        (leH_kn ⟨⟨_, rfl, (.refl _)⟩, ⟨_, rfl, (.refl _)⟩, ⟨_, rfl, (.refl _)⟩, ⟨_, rfl, (.refl _)⟩, ⟨_, rfl, (.refl _)⟩, ⟨_, rfl, (.refl _)⟩, trivial⟩ ⟨⟨_, rfl, (.refl _)⟩, ⟨_, rfl, (.refl _)⟩, ⟨_, rfl, (.refl _)⟩, ⟨_, rfl, (.refl _)⟩, ⟨_, rfl, (.refl _)⟩, trivial⟩) ?_
      rintro n ⟨y2_1, y2_4, y2_5⟩ ⟨w2_2, w2_3⟩ hm h1 Q3 ln3 lx3 lr3
      replace h1 : d_law00_Master_L1 x3 x5 x8 (n + 1) y2_1 y2_4 y2_5 = some _ := h1
      rw [d_law00_Master_L1] at h1
      refine c_show ⟨kn [(2, .pt 1 v2 0 0), (3, int x3), (4, int x5), (5, int x8), (6, .pt 2 v12 0 0), (8, int y2_1)], hk [(1, ⟨43, 5, true, true, v2, [[int 0, int 0, .sc (.slice none 0 0), .sc (.slice none 0 0), .sc (.slice none 0 0)]]⟩), (2, ⟨43, 5, true, true, v12, [[int x5, int x11, .sl 3 w1_1 0 y1_2.length, .sl 4 w2_2 0 y2_4.length, .sl 5 w2_3 0 y2_5.length]]⟩), (3, ⟨3, 1, true, true, w1_1, y1_2.map fI⟩), (4, ⟨22, 1, true, true, w2_2, y2_4.map (fL 1 fI)⟩), (5, ⟨22, 1, true, true, w2_3, y2_5.map (fL 1 fI)⟩)]⟩ ?_
      refine c_seq ?_
      refine c_seq ?_
      refine c_reg ?_; intro K hK
      refine st rfl rfl rfl (yv_move rfl rfl) ?_
      refine st rfl rfl rfl (yv_move rfl rfl) ?_
      obtain ⟨x26, e26, h1⟩ := bnd_e h1
      refine st rfl rfl rfl (yv_to (y := boo x26) (yv_lss rfl rfl rfl) (congrArg boo e26)) ?_
      refine rg_nil (hK _ ?_)
      refine c_if (b := x26) rfl ?_ ?_
      · intro hb; subst hb; replace h1 := ct h1
        refine c_skip ?_
        refine c_seq ?_
        obtain ⟨j27, h2, h1⟩ := bind_e h1
        refine c_joinL (fun (a : (List (List Int)) × (List (List Int))) (k : Nat × Nat) => ⟨kn [(2, .pt 1 v2 0 0), (3, int x3), (4, int x5), (5, int x8), (6, .pt 2 v12 0 0), (8, int y2_1)], hk [(1, ⟨43, 5, true, true, v2, [[int 0, int 0, .sc (.slice none 0 0), .sc (.slice none 0 0), .sc (.slice none 0 0)]]⟩), (2, ⟨43, 5, true, true, v12, [[int x5, int x11, .sl 3 w1_1 0 y1_2.length, .sl 4 k.1 0 a.1.length, .sl 5 k.2 0 a.2.length]]⟩), (3, ⟨3, 1, true, true, w1_1, y1_2.map fI⟩), (4, ⟨22, 1, true, true, k.1, a.1.map (fL 1 fI)⟩), (5, ⟨22, 1, true, true, k.2, a.2.map (fL 1 fI)⟩)]⟩) (fun a => a = j27) ?_ ?_
        · intro Q4 jn4 jx4 jr4
          refine c_block ?_; intro Q5 bn5 bx5 br5 bo5
          refine c_seq ?_
          refine c_reg ?_; intro K hK
          refine st rfl rfl rfl (yv_assign rfl rfl) ?_
          refine st rfl rfl rfl (yv_assign rfl rfl) ?_
          refine rg_nil (hK _ ?_)
          refine c_seq ?_
          refine c_seq ?_
          refine c_reg ?_; intro K hK
          refine st rfl rfl rfl (yv_assign rfl rfl) ?_
          refine rg_nil (hK _ ?_)
          obtain ⟨j28, h3, h2⟩ := bind_e h2
          refine c_joinL (fun (a : (List Int) × (List Int)) (k : Nat × Nat) => ⟨kn [(2, .pt 1 v2 0 0), (3, int x3), (4, int x5), (5, int x8), (6, .pt 2 v12 0 0), (8, int y2_1), (9, .sl 6 k.1 0 a.1.length), (10, .sl 7 k.2 0 a.2.length)], hk [(1, ⟨43, 5, true, true, v2, [[int 0, int 0, .sc (.slice none 0 0), .sc (.slice none 0 0), .sc (.slice none 0 0)]]⟩), (2, ⟨43, 5, true, true, v12, [[int x5, int x11, .sl 3 w1_1 0 y1_2.length, .sl 4 w2_2 0 y2_4.length, .sl 5 w2_3 0 y2_5.length]]⟩), (3, ⟨3, 1, true, true, w1_1, y1_2.map fI⟩), (4, ⟨22, 1, true, true, w2_2, y2_4.map (fL 1 fI)⟩), (5, ⟨22, 1, true, true, w2_3, y2_5.map (fL 1 fI)⟩), (6, ⟨3, 1, true, true, k.1, a.1.map fI⟩), (7, ⟨3, 1, true, true, k.2, a.2.map fI⟩)]⟩) (fun a => a = j28) ?_ ?_
          · intro Q6 jn6 jx6 jr6
            refine c_block ?_; intro Q7 bn7 bx7 br7 bo7
            refine c_nilobj 9 6 3 1 rfl rfl ?_; intro v29
            refine c_nilobj 10 7 3 1 rfl rfl ?_; intro v30
            refine c_loopD (fun (a : Int × (List Int) × (List Int)) (k : Nat × Nat) => ⟨kn [(2, .pt 1 v2 0 0), (3, int x3), (4, int x5), (5, int x8), (6, .pt 2 v12 0 0), (8, int y2_1), (9, .sl 6 k.1 0 a.2.1.length), (10, .sl 7 k.2 0 a.2.2.length), (11, int a.1)], hk [(1, ⟨43, 5, true, true, v2, [[int 0, int 0, .sc (.slice none 0 0), .sc (.slice none 0 0), .sc (.slice none 0 0)]]⟩), (2, ⟨43, 5, true, true, v12, [[int x5, int x11, .sl 3 w1_1 0 y1_2.length, .sl 4 w2_2 0 y2_4.length, .sl 5 w2_3 0 y2_5.length]]⟩), (3, ⟨3, 1, true, true, w1_1, y1_2.map fI⟩), (4, ⟨22, 1, true, true, w2_2, y2_4.map (fL 1 fI)⟩), (5, ⟨22, 1, true, true, w2_3, y2_5.map (fL 1 fI)⟩), (6, ⟨3, 1, true, true, k.1, a.2.1.map fI⟩), (7, ⟨3, 1, true, true, k.2, a.2.2.map fI⟩)]⟩) (fun n (a : Int × (List Int) × (List Int)) => d_law00_Master_L2 x3 x8 y2_1 n a.1 a.2.1 a.2.2) ((0 : Int), (([] : List Int) : List Int), (([] : List Int) : List Int)) (v29, v30) h3 (fun _ => rfl)
              (leH_kn ⟨⟨_, rfl, (.refl _)⟩, ⟨_, rfl, (.refl _)⟩, ⟨_, rfl, (.refl _)⟩, ⟨_, rfl, (.refl _)⟩, ⟨_, rfl, (.refl _)⟩, ⟨_, rfl, (.refl _)⟩, ⟨_, rfl, (.refl _)⟩, ⟨_, rfl, (.refl _)⟩, ⟨_, rfl, (.refl _)⟩, trivial⟩ ⟨⟨_, rfl, (.refl _)⟩, ⟨_, rfl, (.refl _)⟩, ⟨_, rfl, (.refl _)⟩, ⟨_, rfl, (.refl _)⟩, ⟨_, rfl, (.refl _)⟩, ⟨_, rfl, (.refl _)⟩, ⟨_, rfl, (.refl _)⟩, trivial⟩) ?_
            rintro n ⟨y3_3, y3_4, y3_5⟩ ⟨w3_1, w3_2⟩ hm h3 Q8 ln8 lx8 lr8
            replace h3 : d_law00_Master_L2 x3 x8 y2_1 (n + 1) y3_3 y3_4 y3_5 = some _ := h3
            rw [d_law00_Master_L2] at h3
            refine c_show ⟨kn [(2, .pt 1 v2 0 0), (3, int x3), (4, int x5), (5, int x8), (6, .pt 2 v12 0 0), (8, int y2_1), (9, .sl 6 w3_1 0 y3_4.length), (10, .sl 7 w3_2 0 y3_5.length), (11, int y3_3)], hk [(1, ⟨43, 5, true, true, v2, [[int 0, int 0, .sc (.slice none 0 0), .sc (.slice none 0 0), .sc (.slice none 0 0)]]⟩), (2, ⟨43, 5, true, true, v12, [[int x5, int x11, .sl 3 w1_1 0 y1_2.length, .sl 4 w2_2 0 y2_4.length, .sl 5 w2_3 0 y2_5.length]]⟩), (3, ⟨3, 1, true, true, w1_1, y1_2.map fI⟩), (4, ⟨22, 1, true, true, w2_2, y2_4.map (fL 1 fI)⟩), (5, ⟨22, 1, true, true, w2_3, y2_5.map (fL 1 fI)⟩), (6, ⟨3, 1, true, true, w3_1, y3_4.map fI⟩), (7, ⟨3, 1, true, true, w3_2, y3_5.map fI⟩)]⟩ ?_
            refine c_seq ?_
            refine c_seq ?_
            refine c_reg ?_; intro K hK
            refine st rfl rfl rfl (yv_move rfl rfl) ?_
            refine st rfl rfl rfl (yv_move rfl rfl) ?_
            obtain ⟨x31, e31, h3⟩ := bnd_e h3
            refine st rfl rfl rfl (yv_to (y := boo x31) (yv_lss rfl rfl rfl) (congrArg boo e31)) ?_
            refine rg_nil (hK _ ?_)
            refine c_if (b := x31) rfl ?_ ?_
            · intro hb; subst hb; replace h3 := ct h3
              refine c_skip ?_
              refine c_seq ?_
              refine c_block ?_; intro Q9 bn9 bx9 br9 bo9
              refine c_reg ?_; intro K hK
              refine st rfl rfl rfl (yv_move rfl rfl) ?_
              refine st rfl rfl rfl (yv_move rfl rfl) ?_
              obtain ⟨x32, e32, h3⟩ := bnd_e h3
              refine st rfl rfl rfl (yv_quo rfl rfl rfl (by decide) e32) ?_
              refine st rfl rfl rfl (yv_move rfl rfl) ?_
              obtain ⟨x33, e33, h3⟩ := bnd_e h3
              refine st rfl rfl rfl (yv_add rfl rfl rfl e33) ?_
              refine st rfl rfl rfl (yv_move rfl rfl) ?_
              refine st rfl rfl rfl (yv_move rfl rfl) ?_
              obtain ⟨x34, e34, h3⟩ := bnd_e h3
              refine st rfl rfl rfl (yv_quo rfl rfl rfl (by decide) e34) ?_
              obtain ⟨x35, e35, h3⟩ := bnd_e h3
              refine st rfl rfl rfl (yv_rem rfl rfl rfl (by decide) e35) ?_
              obtain ⟨x36, e36, h3⟩ := bnd_e h3
              refine st rfl rfl rfl (yv_mul rfl rfl rfl e36) ?_
              obtain ⟨x37, e37, h3⟩ := bnd_e h3
              refine st rfl rfl rfl (yv_add rfl rfl rfl e37) ?_
              obtain ⟨x38, e38, h3⟩ := bnd_e h3
              refine st rfl rfl rfl (yv_rem rfl rfl rfl (by decide) e38) ?_
              obtain ⟨x39, e39, h3⟩ := bnd_e h3
              refine st rfl rfl rfl (yv_add rfl rfl rfl e39) ?_
              refine st rfl rfl rfl (yv_to (y := lst 1 fI ([x39] : List Int)) (yv_buildSlice (ps := [(0, _)]) (rows := [[int x39]]) rfl Try.underlying22 bz3 (.cons rfl .nil) (by kernel_rfl) rfl rfl rfl) rfl) ?_
              obtain ⟨x40, e40, h3⟩ := bnd_e h3
              obtain ⟨p41, h3⟩ := asrt_e h3
              refine se rfl rfl rfl (yl_appT (g := fI) (l := y3_4) (m := ([x39] : List Int)) .any rfl Try.underlying22 bz3 by3 rfl rfl rfl rfl rfl rfl rfl rfl rfl rfl (Eq.symm rfl) (.refl _) (fun _ => rfl) e40 p41) ?_; rintro _ _ ⟨v42, -, rfl, rfl⟩
              refine st rfl rfl rfl (yv_move rfl rfl) ?_
              refine st rfl rfl rfl (yv_move rfl rfl) ?_
              obtain ⟨x43, e43, h3⟩ := bnd_e h3
              refine st rfl rfl rfl (yv_quo rfl rfl rfl (by decide) e43) ?_
              refine st rfl rfl rfl (yv_move rfl rfl) ?_
              obtain ⟨x44, e44, h3⟩ := bnd_e h3
              refine st rfl rfl rfl (yv_mul rfl rfl rfl e44) ?_
              obtain ⟨x45, e45, h3⟩ := bnd_e h3
              refine st rfl rfl rfl (yv_add rfl rfl rfl e45) ?_
              refine st rfl rfl rfl (yv_move rfl rfl) ?_
              obtain ⟨x46, e46, h3⟩ := bnd_e h3
              refine st rfl rfl rfl (yv_add rfl rfl rfl e46) ?_
              obtain ⟨x47, e47, h3⟩ := bnd_e h3
              refine st rfl rfl rfl (yv_rem rfl rfl rfl (by decide) e47) ?_
              refine st rfl rfl rfl (yv_to (y := lst 1 fI ([x47] : List Int)) (yv_buildSlice (ps := [(0, _)]) (rows := [[int x47]]) rfl Try.underlying22 bz3 (.cons rfl .nil) (by kernel_rfl) rfl rfl rfl) rfl) ?_
              obtain ⟨x48, e48, h3⟩ := bnd_e h3
              obtain ⟨p49, h3⟩ := asrt_e h3
              refine se rfl rfl rfl (yl_appT (g := fI) (l := y3_5) (m := ([x47] : List Int)) .any rfl Try.underlying22 bz3 by3 rfl rfl rfl rfl rfl rfl rfl rfl rfl rfl (Eq.symm rfl) (.refl _) (fun _ => rfl) e48 p49) ?_; rintro _ _ ⟨v50, -, rfl, rfl⟩
              refine st rfl rfl rfl (yv_assign rfl rfl) ?_
              refine st rfl rfl rfl (yv_assign rfl rfl) ?_
              refine rg_nil (hK _ ?_)
              refine c_nil (bn9 _ ?_)
              refine c_reg ?_; intro K hK
              refine st rfl rfl rfl (yv_move rfl rfl) ?_
              obtain ⟨x51, e51, h3⟩ := bnd_e h3
              refine st rfl rfl rfl (yv_add rfl rfl rfl e51) ?_
              refine st rfl rfl rfl (yv_assign rfl rfl) ?_
              refine rg_nil (hK _ ?_)
              refine c_nil (ln8 _ ⟨(x51, x40, x48), (v42, v50), h3, leH_kn ⟨⟨_, rfl, (.refl _)⟩, ⟨_, rfl, (.refl _)⟩, ⟨_, rfl, (.refl _)⟩, ⟨_, rfl, (.refl _)⟩, ⟨_, rfl, (.refl _)⟩, ⟨_, rfl, (.refl _)⟩, ⟨_, rfl, (.refl _)⟩, ⟨_, rfl, (.refl _)⟩, ⟨_, rfl, (.refl _)⟩, trivial⟩ ⟨⟨_, rfl, (.refl _)⟩, ⟨_, rfl, (.refl _)⟩, ⟨_, rfl, (.refl _)⟩, ⟨_, rfl, (.refl _)⟩, ⟨_, rfl, (.refl _)⟩, ⟨_, rfl, (.refl _)⟩, ⟨_, rfl, (.refl _)⟩, trivial⟩⟩)
            · intro hb; subst hb; replace h3 := cf h3
              refine c_exit (lx8 _ _ (bx7 _ ?_))
              obtain rfl := nxt_e h3
              refine c_nil (jn6 _ ⟨(y3_4, y3_5), (w3_1, w3_2), rfl, leH_kn ⟨⟨_, rfl, (.refl _)⟩, ⟨_, rfl, (.refl _)⟩, ⟨_, rfl, (.refl _)⟩, ⟨_, rfl, (.refl _)⟩, ⟨_, rfl, (.refl _)⟩, ⟨_, rfl, (.refl _)⟩, ⟨_, rfl, (.refl _)⟩, ⟨_, rfl, (.refl _)⟩, trivial⟩ ⟨⟨_, rfl, (.refl _)⟩, ⟨_, rfl, (.refl _)⟩, ⟨_, rfl, (.refl _)⟩, ⟨_, rfl, (.refl _)⟩, ⟨_, rfl, (.refl _)⟩, ⟨_, rfl, (.refl _)⟩, ⟨_, rfl, (.refl _)⟩, trivial⟩⟩)
          · rintro ⟨y4_3, y4_4⟩ ⟨w4_1, w4_2⟩ rfl
            replace h2 := p2_e h2
            refine c_show ⟨kn [(2, .pt 1 v2 0 0), (3, int x3), (4, int x5), (5, int x8), (6, .pt 2 v12 0 0), (8, int y2_1), (9, .sl 6 w4_1 0 y4_3.length), (10, .sl 7 w4_2 0 y4_4.length)], hk [(1, ⟨43, 5, true, true, v2, [[int 0, int 0, .sc (.slice none 0 0), .sc (.slice none 0 0), .sc (.slice none 0 0)]]⟩), (2, ⟨43, 5, true, true, v12, [[int x5, int x11, .sl 3 w1_1 0 y1_2.length, .sl 4 w2_2 0 y2_4.length, .sl 5 w2_3 0 y2_5.length]]⟩), (3, ⟨3, 1, true, true, w1_1, y1_2.map fI⟩), (4, ⟨22, 1, true, true, w2_2, y2_4.map (fL 1 fI)⟩), (5, ⟨22, 1, true, true, w2_3, y2_5.map (fL 1 fI)⟩), (6, ⟨3, 1, true, true, w4_1, y4_3.map fI⟩), (7, ⟨3, 1, true, true, w4_2, y4_4.map fI⟩)]⟩ ?_
            refine c_drawE [0, 1, 0, 4, 15, 0, 32, 0, 128, 511, 127, 2047, 4095, 8191] (fun i => bif Nat.beq i 0 then ([2]) else bif Nat.beq i 1 then ([2]) else bif Nat.beq i 5 then ([2]) else bif Nat.beq i 6 then ([2]) else bif Nat.beq i 10 then ([2]) else bif Nat.beq i 12 then ([2]) else []) (fun i => bif Nat.beq i 11 then ([]) else bif Nat.beq i 13 then ([]) else [2]) (fun i => bif Nat.beq i 4 then (false) else bif Nat.beq i 9 then (false) else bif Nat.beq i 11 then (false) else bif Nat.beq i 13 then (false) else true) [0, 1, 2, 3, 5, 6, 7, 8, 4, 10, 9, 11, 12, 13] mixed (by kernel_rfl) ?_; intro K hK
            refine de_pure rfl rfl rfl rfl (fun H hH => yv_fieldAddr rfl fo43_3 rfl (.pt ((hH _ (by decide)).trans rfl) rfl rfl) (.pt _ _ _ _ _)) ?_
            refine de_pure rfl rfl rfl rfl (fun H hH => yv_load rfl sh41 rfl (.pt ((hH _ (by decide)).trans rfl) rfl rfl) rfl) ?_
            refine de_pure rfl rfl rfl rfl (fun H hH => yv_move rfl rfl) ?_
            refine de_pure rfl rfl rfl rfl (fun H hH => yv_buildSlice (ps := [(0, _)]) (rows := [[.sl 6 w4_1 0 y4_3.length]]) rfl Try.underlying41 bz22 (.cons rfl .nil) (by kernel_rfl) rfl rfl rfl) ?_
            refine de_pure rfl rfl rfl rfl (fun H hH => yv_fieldAddr rfl fo43_4 rfl (.pt ((hH _ (by decide)).trans rfl) rfl rfl) (.pt _ _ _ _ _)) ?_
            refine de_pure rfl rfl rfl rfl (fun H hH => yv_load rfl sh41 rfl (.pt ((hH _ (by decide)).trans rfl) rfl rfl) rfl) ?_
            refine de_pure rfl rfl rfl rfl (fun H hH => yv_move rfl rfl) ?_
            refine de_pure rfl rfl rfl rfl (fun H hH => yv_buildSlice (ps := [(0, _)]) (rows := [[.sl 7 w4_2 0 y4_4.length]]) rfl Try.underlying41 bz22 (.cons rfl .nil) (by kernel_rfl) rfl rfl rfl) ?_
            obtain ⟨x52, e52, h2⟩ := bnd_e h2
            obtain ⟨p53, h2⟩ := asrt_e h2
            refine de_eff rfl rfl rfl rfl (Yield.frz 6 rfl (yl_appT (g := (fL 1 fI)) (l := y2_4) (m := [y4_3]) .any rfl Try.underlying41 bz22 by22 rfl rfl rfl rfl rfl rfl rfl rfl rfl rfl (Eq.symm rfl) (CvLL.list (.cons (.cons (cv_lst rfl rfl rfl rfl rfl (Eq.symm rfl)) .nil) .nil)) (fun _ => rfl) e52 p53)) (by rintro _ _ ⟨v54, -, rfl, rfl⟩; exact ⟨rfl, trivial⟩) ?_; rintro _ _ ⟨v54, -, rfl, rfl⟩
            refine de_pure rfl rfl rfl rfl (fun H hH => yv_fieldAddr rfl fo43_3 rfl (.pt ((hH _ (by decide)).trans rfl) rfl rfl) (.pt _ _ _ _ _)) ?_
            obtain ⟨x55, e55, h2⟩ := bnd_e h2
            obtain ⟨p56, h2⟩ := asrt_e h2
            refine de_eff rfl rfl rfl rfl (Yield.frz 7 rfl (yl_appT (g := (fL 1 fI)) (l := y2_5) (m := [y4_4]) .any rfl Try.underlying41 bz22 by22 rfl rfl rfl rfl rfl rfl rfl rfl rfl rfl (Eq.symm rfl) (CvLL.list (.cons (.cons (cv_lst rfl rfl rfl rfl rfl (Eq.symm rfl)) .nil) .nil)) (fun _ => rfl) e55 p56)) (by rintro _ _ ⟨v57, -, rfl, rfl⟩; exact ⟨rfl, trivial⟩) ?_; rintro _ _ ⟨v57, -, rfl, rfl⟩
            refine de_eff0 rfl rfl rfl rfl (Yield.weak (yl_ob (ob' := (⟨43, 5, true, true, v12, [[int x5, int x11, .sl 3 w1_1 0 y1_2.length, .sl 4 v54 0 x52.length, .sl 5 w2_3 0 y2_5.length]]⟩ : AObj)) (yl_store rfl sh41 rfl rfl rfl rfl rfl rfl rfl rfl rfl) rfl) (fun _ h => h) (fun _ _ => trivial)) (by rintro _ _ ⟨rfl, rfl⟩; exact trivial) ?_; rintro _ _ ⟨rfl, rfl⟩
            refine de_pure rfl rfl rfl rfl (fun H hH => yv_fieldAddr rfl fo43_4 rfl (.pt ((hH _ (by decide)).trans rfl) rfl rfl) (.pt _ _ _ _ _)) ?_
            refine de_eff0 rfl rfl rfl rfl (Yield.weak (yl_ob (ob' := (⟨43, 5, true, true, v12, [[int x5, int x11, .sl 3 w1_1 0 y1_2.length, .sl 4 v54 0 x52.length, .sl 5 v57 0 x55.length]]⟩ : AObj)) (yl_store rfl sh41 rfl rfl rfl rfl rfl rfl rfl rfl rfl) rfl) (fun _ h => h) (fun _ _ => trivial)) (by rintro _ _ ⟨rfl, rfl⟩; exact trivial) ?_; rintro _ _ ⟨rfl, rfl⟩
            refine de_nil (hK _ ?_)
            refine c_nil (bn5 _ ?_)
            obtain rfl := nxt_e h2
            refine c_nil (jn4 _ ⟨(x52, x55), (v54, v57), rfl, leH_kn ⟨⟨_, rfl, (.refl _)⟩, ⟨_, rfl, (.refl _)⟩, ⟨_, rfl, (.refl _)⟩, ⟨_, rfl, (.refl _)⟩, ⟨_, rfl, (.refl _)⟩, ⟨_, rfl, (.refl _)⟩, trivial⟩ ⟨⟨_, rfl, (.refl _)⟩, ⟨_, rfl, (.refl _)⟩, ⟨_, rfl, (.refl _)⟩, ⟨_, rfl, (.refl _)⟩, ⟨_, rfl, (.refl _)⟩, trivial⟩⟩)
        · rintro ⟨y5_3, y5_4⟩ ⟨w5_1, w5_2⟩ rfl
          replace h1 := p2_e h1
          refine c_show ⟨kn [(2, .pt 1 v2 0 0), (3, int x3), (4, int x5), (5, int x8), (6, .pt 2 v12 0 0), (8, int y2_1)], hk [(1, ⟨43, 5, true, true, v2, [[int 0, int 0, .sc (.slice none 0 0), .sc (.slice none 0 0), .sc (.slice none 0 0)]]⟩), (2, ⟨43, 5, true, true, v12, [[int x5, int x11, .sl 3 w1_1 0 y1_2.length, .sl 4 w5_1 0 y5_3.length, .sl 5 w5_2 0 y5_4.length]]⟩), (3, ⟨3, 1, true, true, w1_1, y1_2.map fI⟩), (4, ⟨22, 1, true, true, w5_1, y5_3.map (fL 1 fI)⟩), (5, ⟨22, 1, true, true, w5_2, y5_4.map (fL 1 fI)⟩)]⟩ ?_
          refine c_reg ?_; intro K hK
          refine st rfl rfl rfl (yv_move rfl rfl) ?_
          obtain ⟨x58, e58, h1⟩ := bnd_e h1
          refine st rfl rfl rfl (yv_add rfl rfl rfl e58) ?_
          refine st rfl rfl rfl (yv_assign rfl rfl) ?_
          refine rg_nil (hK _ ?_)
          refine c_nil (ln3 _ ⟨(x58, y5_3, y5_4), (w5_1, w5_2), h1, leH_kn ⟨⟨_, rfl, (.refl _)⟩, ⟨_, rfl, (.refl _)⟩, ⟨_, rfl, (.refl _)⟩, ⟨_, rfl, (.refl _)⟩, ⟨_, rfl, (.refl _)⟩, ⟨_, rfl, (.refl _)⟩, trivial⟩ ⟨⟨_, rfl, (.refl _)⟩, ⟨_, rfl, (.refl _)⟩, ⟨_, rfl, (.refl _)⟩, ⟨_, rfl, (.refl _)⟩, ⟨_, rfl, (.refl _)⟩, trivial⟩⟩)
      · intro hb; subst hb; replace h1 := cf h1
        refine c_exit (lx3 _ _ (bx2 _ ?_))
        obtain rfl := nxt_e h1
        refine c_nil (jn1 _ ⟨(y2_4, y2_5), (w2_2, w2_3), rfl, leH_kn ⟨⟨_, rfl, (.refl _)⟩, ⟨_, rfl, (.refl _)⟩, trivial⟩ ⟨⟨_, rfl, (.refl _)⟩, ⟨_, rfl, (.refl _)⟩, ⟨_, rfl, (.refl _)⟩, ⟨_, rfl, (.refl _)⟩, ⟨_, rfl, (.refl _)⟩, trivial⟩⟩)
    · rintro ⟨y6_3, y6_4⟩ ⟨w6_1, w6_2⟩ rfl
      replace h0 := p2_e h0
      refine c_show ⟨kn [(2, .pt 1 v2 0 0), (6, .pt 2 v12 0 0)], hk [(1, ⟨43, 5, true, true, v2, [[int 0, int 0, .sc (.slice none 0 0), .sc (.slice none 0 0), .sc (.slice none 0 0)]]⟩), (2, ⟨43, 5, true, true, v12, [[int x5, int x11, .sl 3 w1_1 0 y1_2.length, .sl 4 w6_1 0 y6_3.length, .sl 5 w6_2 0 y6_4.length]]⟩), (3, ⟨3, 1, true, true, w1_1, y1_2.map fI⟩), (4, ⟨22, 1, true, true, w6_1, y6_3.map (fL 1 fI)⟩), (5, ⟨22, 1, true, true, w6_2, y6_4.map (fL 1 fI)⟩)]⟩ ?_
      refine c_seq ?_
      refine c_reg ?_; intro K hK
      refine st rfl rfl rfl (yv_load rfl sh43 rfl (.pt rfl rfl rfl) rfl) ?_
      refine sstore rfl rfl (yl_ob (ob' := (⟨43, 5, true, true, v2, [[int x5, int x11, .sl 3 w1_1 0 y1_2.length, .sl 4 w6_1 0 y6_3.length, .sl 5 w6_2 0 y6_4.length]]⟩ : AObj)) (yl_store rfl sh43 rfl rfl rfl rfl rfl rfl rfl rfl rfl) rfl) ?_
      refine rg_nil (hK _ ?_)
      obtain rfl := nxt_e h0
      refine c_ret (hret _ _ _ (.cell rfl (.pt rfl rfl rfl) sh43 rfl .nil) (fun _ _ h => h) ?_)
      exact (CvL.agg (.cons (.refl _) (.cons (.refl _) (.cons (cv_lst rfl rfl rfl rfl rfl (Eq.symm rfl)) (.cons (cv_lst rfl rfl rfl rfl rfl (Eq.symm rfl)) (.cons (cv_lst rfl rfl rfl rfl rfl (Eq.symm rfl)) .nil))))))
def d_master_in (a1 : Int) (a2 : Int) (a3 : Int) : Option (Bool) :=
(show Option (Bool) from
bnd (decide (a1 ≥ a2)) fun (x5 : Bool) =>
cond x5 (bnd (decide (a1 ≤ a3)) fun (x6 : Bool) =>
some (x6 : Bool)) (some (false : Bool))).bind <| fun (y0_1 : Bool) =>
some ((y0_1 : Bool))
theorem d_master_in_c {a1 : Int} {a2 : Int} {a3 : Int} {r : Bool} (h0 : d_master_in a1 a2 a3 = some r) : PP Try.prog 49 [int a1, int a2, int a3] (fun y => y = boo r) := by
  unfold d_master_in at h0
  refine pp_of_pc (R0 := fun y H => Cv (frzH H) y (boo r)) ?_ (fun y H hc => ⟨_, rfl, pvB r, hc⟩)
  refine pc_of' (c := _) Try.func49 rfl rfl ?_; intro Q hret hnorm
  refine c_seq ?_
  refine c_reg ?_; intro K hK
  refine st rfl rfl rfl (yv_assign rfl rfl) ?_
  refine rg_nil (hK _ ?_)
  refine c_seq ?_
  obtain ⟨j4, h1, h0⟩ := bind_e h0
  refine c_regL (fun (a : Bool) (k : Unit) => ⟨kn [(6, boo a)], hk []⟩) (fun a => a = j4) ?_ ?_
  · intro K hK
    refine st rfl rfl rfl (yv_move rfl rfl) ?_
    refine st rfl rfl rfl (yv_move rfl rfl) ?_
    obtain ⟨x5, e5, h1⟩ := bnd_e h1
    refine st rfl rfl rfl (yv_to (y := boo x5) (yv_geq rfl rfl rfl) (congrArg boo e5)) ?_
    refine st rfl rfl rfl (yv_move rfl rfl) ?_
    refine scases 10 rfl ?_ ?_
    · intro hb; subst hb; replace h1 := ct h1
      refine st rfl rfl rfl (yv_move rfl rfl) ?_
      refine st rfl rfl rfl (yv_move rfl rfl) ?_
      obtain ⟨x6, e6, h1⟩ := bnd_e h1
      refine st rfl rfl rfl (yv_to (y := boo x6) (yv_leq rfl rfl rfl) (congrArg boo e6)) ?_
      refine st rfl rfl rfl (yv_pick rfl rfl (fun _ => rfl) (fun _ => rfl) rfl) ?_
      refine st rfl rfl rfl (yv_assign rfl rfl) ?_
      obtain rfl := nxt_e h1
      refine rg_nil (hK _ ⟨x6, (), rfl, leH_kn ⟨⟨_, rfl, (.refl _)⟩, trivial⟩ trivial⟩)
    · intro hb; subst hb; replace h1 := cf h1
      refine sk rfl rfl rfl ?_
      refine sk rfl rfl rfl ?_
      refine sk rfl rfl rfl ?_
      refine st rfl rfl rfl (yv_pick rfl rfl (fun _ => rfl) (fun _ => rfl) rfl) ?_
      refine st rfl rfl rfl (yv_assign rfl rfl) ?_
      obtain rfl := nxt_e h1
      refine rg_nil (hK _ ⟨false, (), rfl, leH_kn ⟨⟨_, rfl, (.refl _)⟩, trivial⟩ trivial⟩)
  · rintro y0_1 _ rfl
    refine c_show ⟨kn [(6, boo y0_1)], hk []⟩ ?_
    obtain rfl := nxt_e h0
    refine c_ret (hret _ _ _ (.tmp rfl .nil) (fun _ _ h => h) ?_)
    exact .refl _
def d_master_Check_1 (a1 : Int) : Option (Bool) :=
(d_master_in a1 0 1073741824).bind fun (x2 : Bool) =>
some ((x2 : Bool))
theorem d_master_Check_1_c {a1 : Int} {r : Bool} (h0 : d_master_Check_1 a1 = some r) : PP Try.prog 48 [int a1] (fun y => y = boo r) := by
  unfold d_master_Check_1 at h0
  refine pp_of_pc (R0 := fun y H => Cv (frzH H) y (boo r)) ?_ (fun y H hc => ⟨_, rfl, pvB r, hc⟩)
  refine pc_of' (c := _) Try.func48 rfl rfl ?_; intro Q hret hnorm
  refine c_seq ?_
  refine c_reg ?_; intro K hK
  refine st rfl rfl rfl (yv_assign rfl rfl) ?_
  refine rg_nil (hK _ ?_)
  refine c_seq ?_
  refine c_reg ?_; intro K hK
  refine st rfl rfl rfl (yv_move rfl rfl) ?_
  obtain ⟨x2, e2, h0⟩ := bind_e h0
  refine st rfl rfl rfl (yv_callP rfl rfl (.cons rfl (.cons rfl (.cons rfl .nil))) cal49 (CvL.refl _) (d_master_in_c e2)) ?_
  refine st rfl rfl rfl (yv_assign rfl rfl) ?_
  refine rg_nil (hK _ ?_)
  obtain rfl := nxt_e h0
  refine c_ret (hret _ _ _ (.tmp rfl .nil) (fun _ _ h => h) ?_)
  exact .refl _
def d_master_Check_2_1 (a1 : Int) : Option (Bool) :=
(d_master_in a1 1 4).bind fun (x2 : Bool) =>
some ((x2 : Bool))
theorem d_master_Check_2_1_c {a1 : Int} {r : Bool} (h0 : d_master_Check_2_1 a1 = some r) : PP Try.prog 52 [int a1] (fun y => y = boo r) := by
  unfold d_master_Check_2_1 at h0
  refine pp_of_pc (R0 := fun y H => Cv (frzH H) y (boo r)) ?_ (fun y H hc => ⟨_, rfl, pvB r, hc⟩)
  refine pc_of' (c := _) Try.func52 rfl rfl ?_; intro Q hret hnorm
  refine c_seq ?_
  refine c_reg ?_; intro K hK
  refine st rfl rfl rfl (yv_assign rfl rfl) ?_
  refine rg_nil (hK _ ?_)
  refine c_seq ?_
  refine c_reg ?_; intro K hK
  refine st rfl rfl rfl (yv_move rfl rfl) ?_
  obtain ⟨x2, e2, h0⟩ := bind_e h0
  refine st rfl rfl rfl (yv_callP rfl rfl (.cons rfl (.cons rfl (.cons rfl .nil))) cal49 (CvL.refl _) (d_master_in_c e2)) ?_
  refine st rfl rfl rfl (yv_assign rfl rfl) ?_
  refine rg_nil (hK _ ?_)
  obtain rfl := nxt_e h0
  refine c_ret (hret _ _ _ (.tmp rfl .nil) (fun _ _ h => h) ?_)
  exact .refl _
def d_master_Check_L0 (a1 : GMaster) : Nat → Int → Option ((Unit) ⊕ ((Int)))
  | 0, _ => none
  | n + 1, y0_1 =>
    bnd (decide (y0_1 < (a1.Weights.length : Int))) fun (x16 : Bool) =>
    cond x16 ((ix a1.Weights y0_1).bind fun (x17 : Int) =>
    (show Option ((Bool)) from
    (d_master_Check_1 x17).bind fun (x19 : Bool) =>
    bnd (!x19) fun (x20 : Bool) =>
    some (x20 : Bool)).bind <| fun (y2_1 : Bool) =>
    cond y2_1 (esc (some (y0_1 : Int))) (bnd (w64 (y0_1 + 1)) fun (x22 : Int) =>
    d_master_Check_L0 a1 n (x22 : Int))) (brk ())
def d_master_Check_L2 (x33 : List Int) : Nat → Int → Option ((Unit) ⊕ ((Int)))
  | 0, _ => none
  | n + 1, y9_1 =>
    bnd (decide (y9_1 < (x33.length : Int))) fun (x43 : Bool) =>
    cond x43 ((ix x33 y9_1).bind fun (x44 : Int) =>
    (show Option ((Bool)) from
    (d_master_Check_2_1 x44).bind fun (x46 : Bool) =>
    bnd (!x46) fun (x47 : Bool) =>
    some (x47 : Bool)).bind <| fun (y11_1 : Bool) =>
    cond y11_1 (esc (some (y9_1 : Int))) (bnd (w64 (y9_1 + 1)) fun (x49 : Int) =>
    d_master_Check_L2 x33 n (x49 : Int))) (brk ())
def d_master_Check_L1 (a1 : GMaster) : Nat → Int → Option ((Unit) ⊕ ((Int)))
  | 0, _ => none
  | n + 1, y8_1 =>
    bnd (decide (y8_1 < (a1.Methods.length : Int))) fun (x32 : Bool) =>
    cond x32 ((ix a1.Methods y8_1).bind fun (x33 : List Int) =>
    (show Option ((Bool)) from
    (show Option ((Bool)) from
    (show Option ((Bool)) from
    (show Option (Bool) from
    bnd (decide ((x33.length : Int) = (a1.Weights.length : Int))) fun (x39 : Bool) =>
    cond x39 ((show Option ((Bool)) from
    (show Option ((Int)) from
    (show Option ((Unit) ⊕ ((Int))) from
    d_master_Check_L2 x33 n (0 : Int)).bind <| sel <| fun (_ : Unit) =>
    some ((-1) : Int)).bind <| fun (y13_1 : Int) =>
    bnd (decide (y13_1 ≥ 0)) fun (x50 : Bool) =>
    some (x50 : Bool)).bind <| fun (y14_1 : Bool) =>
    bnd (!y14_1) fun (x51 : Bool) =>
    some (x51 : Bool)) (some (false : Bool))).bind <| fun (y15_1 : Bool) =>
    some (y15_1 : Bool)).bind <| fun (y16_1 : Bool) =>
    some (y16_1 : Bool)).bind <| fun (y17_1 : Bool) =>
    bnd (!y17_1) fun (x52 : Bool) =>
    some (x52 : Bool)).bind <| fun (y19_1 : Bool) =>
    cond y19_1 (esc (some (y8_1 : Int))) (bnd (w64 (y8_1 + 1)) fun (x54 : Int) =>
    d_master_Check_L1 a1 n (x54 : Int))) (brk ())
def d_master_Check_L4 (x65 : List Int) : Nat → Int → Option ((Unit) ⊕ ((Int)))
  | 0, _ => none
  | n + 1, y26_1 =>
    bnd (decide (y26_1 < (x65.length : Int))) fun (x75 : Bool) =>
    cond x75 ((ix x65 y26_1).bind fun (x76 : Int) =>
    (show Option ((Bool)) from
    (d_master_Check_1 x76).bind fun (x78 : Bool) =>
    bnd (!x78) fun (x79 : Bool) =>
    some (x79 : Bool)).bind <| fun (y28_1 : Bool) =>
    cond y28_1 (esc (some (y26_1 : Int))) (bnd (w64 (y26_1 + 1)) fun (x81 : Int) =>
    d_master_Check_L4 x65 n (x81 : Int))) (brk ())
def d_master_Check_L3 (a1 : GMaster) : Nat → Int → Option ((Unit) ⊕ ((Int)))
  | 0, _ => none
  | n + 1, y25_1 =>
    bnd (decide (y25_1 < (a1.Costs.length : Int))) fun (x64 : Bool) =>
    cond x64 ((ix a1.Costs y25_1).bind fun (x65 : List Int) =>
    (show Option ((Bool)) from
    (show Option ((Bool)) from
    (show Option ((Bool)) from
    (show Option (Bool) from
    bnd (decide ((x65.length : Int) = (a1.Weights.length : Int))) fun (x71 : Bool) =>
    cond x71 ((show Option ((Bool)) from
    (show Option ((Int)) from
    (show Option ((Unit) ⊕ ((Int))) from
    d_master_Check_L4 x65 n (0 : Int)).bind <| sel <| fun (_ : Unit) =>
    some ((-1) : Int)).bind <| fun (y30_1 : Int) =>
    bnd (decide (y30_1 ≥ 0)) fun (x82 : Bool) =>
    some (x82 : Bool)).bind <| fun (y31_1 : Bool) =>
    bnd (!y31_1) fun (x83 : Bool) =>
    some (x83 : Bool)) (some (false : Bool))).bind <| fun (y32_1 : Bool) =>
    some (y32_1 : Bool)).bind <| fun (y33_1 : Bool) =>
    some (y33_1 : Bool)).bind <| fun (y34_1 : Bool) =>
    bnd (!y34_1) fun (x84 : Bool) =>
    some (x84 : Bool)).bind <| fun (y36_1 : Bool) =>
    cond y36_1 (esc (some (y25_1 : Int))) (bnd (w64 (y25_1 + 1)) fun (x86 : Int) =>
    d_master_Check_L3 a1 n (x86 : Int))) (brk ())
def d_master_Check (n : Nat) (a1 : GMaster) : Option (Bool) :=
(show Option (Bool) from
(d_master_in a1.Entities 1 4).bind fun (x6 : Bool) =>
cond x6 ((d_master_in a1.Periods 1 12).bind fun (x7 : Bool) =>
cond x7 ((d_master_in (a1.Weights.length : Int) 1 5).bind fun (x8 : Bool) =>
cond x8 ((show Option ((Bool)) from
(show Option (Bool) from
bnd (decide ((a1.Weights.length : Int) = (a1.Weights.length : Int))) fun (x12 : Bool) =>
cond x12 ((show Option ((Bool)) from
(show Option ((Int)) from
(show Option ((Unit) ⊕ ((Int))) from
d_master_Check_L0 a1 n (0 : Int)).bind <| sel <| fun (_ : Unit) =>
some ((-1) : Int)).bind <| fun (y4_1 : Int) =>
bnd (decide (y4_1 ≥ 0)) fun (x23 : Bool) =>
some (x23 : Bool)).bind <| fun (y5_1 : Bool) =>
bnd (!y5_1) fun (x24 : Bool) =>
some (x24 : Bool)) (some (false : Bool))).bind <| fun (y6_1 : Bool) =>
some (y6_1 : Bool)).bind <| fun (y7_1 : Bool) =>
cond y7_1 ((show Option ((Bool)) from
(show Option (Bool) from
bnd (decide ((a1.Methods.length : Int) = a1.Entities)) fun (x28 : Bool) =>
cond x28 ((show Option ((Bool)) from
(show Option ((Int)) from
(show Option ((Unit) ⊕ ((Int))) from
d_master_Check_L1 a1 n (0 : Int)).bind <| sel <| fun (_ : Unit) =>
some ((-1) : Int)).bind <| fun (y21_1 : Int) =>
bnd (decide (y21_1 ≥ 0)) fun (x55 : Bool) =>
some (x55 : Bool)).bind <| fun (y22_1 : Bool) =>
bnd (!y22_1) fun (x56 : Bool) =>
some (x56 : Bool)) (some (false : Bool))).bind <| fun (y23_1 : Bool) =>
some (y23_1 : Bool)).bind <| fun (y24_1 : Bool) =>
cond y24_1 ((show Option ((Bool)) from
(show Option (Bool) from
bnd (decide ((a1.Costs.length : Int) = a1.Entities)) fun (x60 : Bool) =>
cond x60 ((show Option ((Bool)) from
(show Option ((Int)) from
(show Option ((Unit) ⊕ ((Int))) from
d_master_Check_L3 a1 n (0 : Int)).bind <| sel <| fun (_ : Unit) =>
some ((-1) : Int)).bind <| fun (y38_1 : Int) =>
bnd (decide (y38_1 ≥ 0)) fun (x87 : Bool) =>
some (x87 : Bool)).bind <| fun (y39_1 : Bool) =>
bnd (!y39_1) fun (x88 : Bool) =>
some (x88 : Bool)) (some (false : Bool))).bind <| fun (y40_1 : Bool) =>
some (y40_1 : Bool)).bind <| fun (y41_1 : Bool) =>
some (y41_1 : Bool)) (some (false : Bool))) (some (false : Bool))) (some (false : Bool))) (some (false : Bool))) (some (false : Bool))).bind <| fun (y42_1 : Bool) =>
some ((y42_1 : Bool))
theorem d_master_Check_c {n : Nat} {a1 : GMaster} {r : Bool} (h0 : d_master_Check n a1 = some r) : PP Try.prog 30 [.agg (GMaster.av a1)] (fun y => y = boo r) := by
  unfold d_master_Check at h0
  refine pp_of_pc (R0 := fun y H => Cv (frzH H) y (boo r)) ?_ (fun y H hc => ⟨_, rfl, pvB r, hc⟩)
  refine pc_of' (c := _) Try.func30 rfl rfl ?_; intro Q hret hnorm
  refine c_seq ?_
  refine c_reg ?_; intro K hK
  refine se rfl rfl rfl (yl_box 1 .any rfl rfl rfl) ?_; rintro _ _ ⟨v2, -, rfl, rfl⟩
  refine st rfl rfl rfl (yv_assign rfl rfl) ?_
  refine rg_nil (hK _ ?_)
  refine c_seq ?_
  refine c_reg ?_; intro K hK
  refine st rfl rfl rfl (yv_fieldAddr rfl fo43_2 rfl (.pt rfl rfl rfl) (.pt _ _ _ _ _)) ?_
  refine st rfl rfl rfl (yv_load rfl sh22 rfl (.pt rfl rfl rfl) rfl) ?_
  refine st rfl rfl rfl (yv_len_sl rfl Try.underlying22 rfl (lst_len _)) ?_
  refine se rfl rfl rfl (yl_alloc 2 .any rfl z3 rfl) ?_; rintro _ _ ⟨v3, -, rfl, rfl⟩
  refine sstore rfl rfl (yl_ob (ob' := (⟨3, 1, true, true, v3, [[int (a1.Weights.length : Int)]]⟩ : AObj)) (yl_store rfl sh3 rfl rfl rfl rfl rfl rfl rfl rfl rfl) rfl) ?_
  refine rg_nil (hK _ ?_)
  refine c_seq ?_
  refine c_reg ?_; intro K hK
  refine se rfl rfl rfl (yl_alloc 3 .any rfl z73 rfl) ?_; rintro _ _ ⟨v4, -, rfl, rfl⟩
  refine sstore rfl rfl (yl_ob (ob' := (⟨73, 1, true, true, v4, [[.fn (.func 48) [] []]]⟩ : AObj)) (yl_store rfl sh73 rfl rfl rfl rfl rfl rfl rfl rfl rfl) rfl) ?_
  refine rg_nil (hK _ ?_)
  refine c_seq ?_
  refine c_reg ?_; intro K hK
  refine st rfl rfl rfl (yv_makeFunc rfl .nil (.cons rfl .nil)) ?_
  refine st rfl rfl rfl (yv_assign rfl rfl) ?_
  refine rg_nil (hK _ ?_)
  refine c_seq ?_
  refine c_reg ?_; intro K hK
  refine st rfl rfl rfl (yv_makeFunc rfl .nil (.cons rfl (.cons rfl .nil))) ?_
  refine st rfl rfl rfl (yv_assign rfl rfl) ?_
  refine rg_nil (hK _ ?_)
  refine c_seq ?_
  obtain ⟨j5, h1, h0⟩ := bind_e h0
  refine c_regL (fun (a : Bool) (k : Unit) => ⟨kn [(2, boo a)], hk []⟩) (fun a => a = j5) ?_ ?_
  · intro K hK
    refine st rfl rfl rfl (yv_fieldAddr rfl fo43_0 rfl (.pt rfl rfl rfl) (.pt _ _ _ _ _)) ?_
    refine st rfl rfl rfl (yv_load rfl sh3 rfl (.pt rfl rfl rfl) rfl) ?_
    obtain ⟨x6, e6, h1⟩ := bind_e h1
    refine st rfl rfl rfl (yv_callP rfl rfl (.cons rfl (.cons rfl (.cons rfl .nil))) cal49 (CvL.refl _) (d_master_in_c e6)) ?_
    refine st rfl rfl rfl (yv_move rfl rfl) ?_
    refine scases 15 rfl ?_ ?_
    · intro hb; subst hb; replace h1 := ct h1
      refine st rfl rfl rfl (yv_fieldAddr rfl fo43_1 rfl (.pt rfl rfl rfl) (.pt _ _ _ _ _)) ?_
      refine st rfl rfl rfl (yv_load rfl sh3 rfl (.pt rfl rfl rfl) rfl) ?_
      obtain ⟨x7, e7, h1⟩ := bind_e h1
      refine st rfl rfl rfl (yv_callP rfl rfl (.cons rfl (.cons rfl (.cons rfl .nil))) cal49 (CvL.refl _) (d_master_in_c e7)) ?_
      refine st rfl rfl rfl (yv_pick rfl rfl (fun _ => rfl) (fun _ => rfl) rfl) ?_
      refine st rfl rfl rfl (yv_move rfl rfl) ?_
      refine scases 20 rfl ?_ ?_
      · intro hb; subst hb; replace h1 := ct h1
        refine st rfl rfl rfl (yv_load rfl sh3 rfl (.pt rfl rfl rfl) rfl) ?_
        obtain ⟨x8, e8, h1⟩ := bind_e h1
        refine st rfl rfl rfl (yv_callP rfl rfl (.cons rfl (.cons rfl (.cons rfl .nil))) cal49 (CvL.refl _) (d_master_in_c e8)) ?_
        refine st rfl rfl rfl (yv_pick rfl rfl (fun _ => rfl) (fun _ => rfl) rfl) ?_
        refine st rfl rfl rfl (yv_move rfl rfl) ?_
        refine scases 24 rfl ?_ ?_
        · intro hb; subst hb; replace h1 := ct h1
          refine st rfl rfl rfl (yv_fieldAddr rfl fo43_2 rfl (.pt rfl rfl rfl) (.pt _ _ _ _ _)) ?_
          refine st rfl rfl rfl (yv_load rfl sh22 rfl (.pt rfl rfl rfl) rfl) ?_
          refine st rfl rfl rfl (yv_load rfl sh3 rfl (.pt rfl rfl rfl) rfl) ?_
          refine st rfl rfl rfl (yv_load rfl sh73 rfl (.pt rfl rfl rfl) rfl) ?_
          obtain ⟨j9, h2, h1⟩ := bind_e h1
          refine se (Out := fun y H' => (∃ (a : Bool) (k : Unit), a = j9 ∧ y = boo a ∧ H' = hk [(1, ⟨43, 5, true, true, v2, [[int a1.Entities, int a1.Periods, lst 1 fI a1.Weights, lst 1 (fL 1 fI) a1.Methods, lst 1 (fL 1 fI) a1.Costs]]⟩), (2, ⟨3, 1, true, true, v3, [[int (a1.Weights.length : Int)]]⟩), (3, ⟨73, 1, true, true, v4, [[.fn (.func 48) [] []]]⟩)])) rfl rfl rfl (yl_call rfl rfl (.cons rfl (.cons rfl (.cons rfl .nil))) cal51 ?_) ?_
          · refine pc_of' (c := _) Try.func51 rfl rfl ?_; intro Q hret hnorm
            refine c_seq ?_
            refine c_reg ?_; intro K hK
            refine se rfl rfl rfl (yl_box 4 .any rfl rfl rfl) ?_; rintro _ _ ⟨v10, -, rfl, rfl⟩
            refine st rfl rfl rfl (yv_assign rfl rfl) ?_
            refine rg_nil (hK _ ?_)
            refine c_seq ?_
            obtain ⟨j11, h3, h2⟩ := bind_e h2
            refine c_regL (fun (a : Bool) (k : Unit) => ⟨kn [(6, boo a)], hk [(1, ⟨43, 5, true, true, v2, [[int a1.Entities, int a1.Periods, lst 1 fI a1.Weights, lst 1 (fL 1 fI) a1.Methods, lst 1 (fL 1 fI) a1.Costs]]⟩), (2, ⟨3, 1, true, true, v3, [[int (a1.Weights.length : Int)]]⟩), (3, ⟨73, 1, true, true, v4, [[.fn (.func 48) [] []]]⟩)]⟩) (fun a => a = j11) ?_ ?_
            · intro K hK
              refine st rfl rfl rfl (yv_move rfl rfl) ?_
              refine st rfl rfl rfl (yv_len_sl rfl Try.underlying22 rfl (lst_len _)) ?_
              refine st rfl rfl rfl (yv_move rfl rfl) ?_
              obtain ⟨x12, e12, h3⟩ := bnd_e h3
              refine st rfl rfl rfl (yv_to (y := boo x12) (yv_eql rfl rfl rfl) (congrArg boo e12)) ?_
              refine st rfl rfl rfl (yv_move rfl rfl) ?_
              refine scases 11 rfl ?_ ?_
              · intro hb; subst hb; replace h3 := ct h3
                refine st rfl rfl rfl (yv_move rfl rfl) ?_
                refine st rfl rfl rfl (yv_makeFunc rfl .nil (.cons rfl .nil)) ?_
                obtain ⟨j13, h4, h3⟩ := bind_e h3
                refine se (Out := fun y H' => (∃ (a : Bool) (k : Unit), a = j13 ∧ y = boo a ∧ H' = hk [(1, ⟨43, 5, true, true, v2, [[int a1.Entities, int a1.Periods, lst 1 fI a1.Weights, lst 1 (fL 1 fI) a1.Methods, lst 1 (fL 1 fI) a1.Costs]]⟩), (2, ⟨3, 1, true, true, v3, [[int (a1.Weights.length : Int)]]⟩), (3, ⟨73, 1, true, true, v4, [[.fn (.func 48) [] []]]⟩), (4, ⟨73, 1, true, true, v10, [[.fn (.func 48) [] []]]⟩)])) rfl rfl rfl (yl_call rfl rfl (.cons rfl (.cons rfl .nil)) cal64 ?_) ?_
                · refine pc_of' (c := _) Try.func64 rfl rfl ?_; intro Q hret hnorm
                  refine c_seq ?_
                  refine c_reg ?_; intro K hK
                  refine st rfl rfl rfl (yv_assign rfl rfl) ?_
                  refine rg_nil (hK _ ?_)
                  refine c_seq ?_
                  refine c_reg ?_; intro K hK
                  refine st rfl rfl rfl (yv_move rfl rfl) ?_
                  refine st rfl rfl rfl (yv_move rfl rfl) ?_
                  obtain ⟨j14, h5, h4⟩ := bind_e h4
                  refine se (Out := fun y H' => (∃ (a : Int) (k : Unit), a = j14 ∧ y = int a ∧ H' = hk [(1, ⟨43, 5, true, true, v2, [[int a1.Entities, int a1.Periods, lst 1 fI a1.Weights, lst 1 (fL 1 fI) a1.Methods, lst 1 (fL 1 fI) a1.Costs]]⟩), (2, ⟨3, 1, true, true, v3, [[int (a1.Weights.length : Int)]]⟩), (3, ⟨73, 1, true, true, v4, [[.fn (.func 48) [] []]]⟩), (4, ⟨73, 1, true, true, v10, [[.fn (.func 48) [] []]]⟩)])) rfl rfl rfl (yl_call rfl rfl (.cons rfl (.cons rfl .nil)) cal72 ?_) ?_
                  · refine pc_of' (c := _) Try.func72 rfl rfl ?_; intro Q hret hnorm
                    refine c_seq ?_
                    refine c_reg ?_; intro K hK
                    refine st rfl rfl rfl (yv_assign rfl rfl) ?_
                    refine rg_nil (hK _ ?_)
                    refine c_seq ?_
                    refine c_seq ?_
                    refine c_reg ?_; intro K hK
                    refine st rfl rfl rfl (yv_move rfl rfl) ?_
                    refine st rfl rfl rfl (yv_len_sl rfl Try.underlying22 rfl (lst_len _)) ?_
                    refine st rfl rfl rfl (yv_move rfl rfl) ?_
                    refine rg_nil (hK _ ?_)
                    obtain ⟨j15, h6, h5⟩ := bind_e h5
                    refine c_joinL (fun (a : Unit) (k : Unit) => ⟨kn [(4, int 0)], hk [(1, ⟨43, 5, true, true, v2, [[int a1.Entities, int a1.Periods, lst 1 fI a1.Weights, lst 1 (fL 1 fI) a1.Methods, lst 1 (fL 1 fI) a1.Costs]]⟩), (2, ⟨3, 1, true, true, v3, [[int (a1.Weights.length : Int)]]⟩), (3, ⟨73, 1, true, true, v4, [[.fn (.func 48) [] []]]⟩), (4, ⟨73, 1, true, true, v10, [[.fn (.func 48) [] []]]⟩)]⟩) (fun a => j15 = .inl a) ?_ ?_
                    · intro Q1 jn1 jx1 jr1
                      refine c_block ?_; intro Q2 bn2 bx2 br2 bo2
                      refine c_loopD (fun (a : Int) (k : Unit) => ⟨kn [(0, lst 1 fI a1.Weights), (1, .fn (.func 65) [] [.pt 4 v10 0 0]), (4, int 0), (7, int (a1.Weights.length : Int)), (8, int a)], hk [(1, ⟨43, 5, true, true, v2, [[int a1.Entities, int a1.Periods, lst 1 fI a1.Weights, lst 1 (fL 1 fI) a1.Methods, lst 1 (fL 1 fI) a1.Costs]]⟩), (2, ⟨3, 1, true, true, v3, [[int (a1.Weights.length : Int)]]⟩), (3, ⟨73, 1, true, true, v4, [[.fn (.func 48) [] []]]⟩), (4, ⟨73, 1, true, true, v10, [[.fn (.func 48) [] []]]⟩)]⟩) (fun n (a : Int) => d_master_Check_L0 a1 n a) (0 : Int) () h6 (fun _ => rfl)
                        (leH_kn ⟨⟨_, rfl, (.refl _)⟩, ⟨_, rfl, (.refl _)⟩, ⟨_, rfl, (.refl _)⟩, ⟨_, rfl, (.refl _)⟩, ⟨_, rfl, (.refl _)⟩, trivial⟩ ⟨⟨_, rfl, (.refl _)⟩, ⟨_, rfl, (.refl _)⟩, ⟨_, rfl, (.refl _)⟩, ⟨_, rfl, (.refl _)⟩, trivial⟩) ?_
                      rintro n y0_1 _ hm h6 Q3 ln3 lx3 lr3
                      replace h6 : d_master_Check_L0 a1 (n + 1) y0_1 = some _ := h6
                      rw [d_master_Check_L0] at h6
                      refine c_show ⟨kn [(0, lst 1 fI a1.Weights), (1, .fn (.func 65) [] [.pt 4 v10 0 0]), (4, int 0), (7, int (a1.Weights.length : Int)), (8, int y0_1)], hk [(1, ⟨43, 5, true, true, v2, [[int a1.Entities, int a1.Periods, lst 1 fI a1.Weights, lst 1 (fL 1 fI) a1.Methods, lst 1 (fL 1 fI) a1.Costs]]⟩), (2, ⟨3, 1, true, true, v3, [[int (a1.Weights.length : Int)]]⟩), (3, ⟨73, 1, true, true, v4, [[.fn (.func 48) [] []]]⟩), (4, ⟨73, 1, true, true, v10, [[.fn (.func 48) [] []]]⟩)]⟩ ?_
                      refine c_seq ?_
                      refine c_reg ?_; intro K hK
                      obtain ⟨x16, e16, h6⟩ := bnd_e h6
                      refine st rfl rfl rfl (yv_to (y := boo x16) (yv_lss rfl rfl rfl) (congrArg boo e16)) ?_
                      refine rg_nil (hK _ ?_)
                      refine c_seq ?_
                      refine c_if (b := x16) rfl ?_ ?_
                      · intro hb; subst hb; replace h6 := ct h6
                        refine c_skip ?_
                        refine c_seq ?_
                        refine c_block ?_; intro Q4 bn4 bx4 br4 bo4
                        refine c_seq ?_
                        refine c_reg ?_; intro K hK
                        refine st rfl rfl rfl (yv_move rfl rfl) ?_
                        refine st rfl rfl rfl (yv_assign rfl rfl) ?_
                        refine rg_nil (hK _ ?_)
                        refine c_seq ?_
                        refine c_reg ?_; intro K hK
                        refine st rfl rfl rfl (yv_move rfl rfl) ?_
                        refine st rfl rfl rfl (yv_move rfl rfl) ?_
                        refine st rfl rfl rfl (yv_move rfl rfl) ?_
                        obtain ⟨x17, e17, h6⟩ := bind_e h6
                        refine st rfl rfl rfl (yv_ixT rfl Try.underlying22 sh3 rfl rfl e17) ?_
                        refine st rfl rfl rfl (yv_load rfl sh3 rfl (.pp _) rfl) ?_
                        obtain ⟨j18, h7, h6⟩ := bind_e h6
                        refine se (Out := fun y H' => (∃ (a : Bool) (k : Unit), a = j18 ∧ y = boo a ∧ H' = hk [(1, ⟨43, 5, true, true, v2, [[int a1.Entities, int a1.Periods, lst 1 fI a1.Weights, lst 1 (fL 1 fI) a1.Methods, lst 1 (fL 1 fI) a1.Costs]]⟩), (2, ⟨3, 1, true, true, v3, [[int (a1.Weights.length : Int)]]⟩), (3, ⟨73, 1, true, true, v4, [[.fn (.func 48) [] []]]⟩), (4, ⟨73, 1, true, true, v10, [[.fn (.func 48) [] []]]⟩)])) rfl rfl rfl (yl_call rfl rfl (.cons rfl .nil) cal65 ?_) ?_
                        · refine pc_of' (c := _) Try.func65 rfl rfl ?_; intro Q hret hnorm
                          refine c_seq ?_
                          refine c_reg ?_; intro K hK
                          refine st rfl rfl rfl (yv_assign rfl rfl) ?_
                          refine rg_nil (hK _ ?_)
                          refine c_seq ?_
                          refine c_reg ?_; intro K hK
                          refine st rfl rfl rfl (yv_load rfl sh73 rfl (.pt rfl rfl rfl) rfl) ?_
                          refine st rfl rfl rfl (yv_move rfl rfl) ?_
                          obtain ⟨x19, e19, h7⟩ := bind_e h7
                          refine st rfl rfl rfl (yv_callP rfl rfl (.cons rfl .nil) cal48 (CvL.refl _) (d_master_Check_1_c e19)) ?_
                          obtain ⟨x20, e20, h7⟩ := bnd_e h7
                          refine st rfl rfl rfl (yv_not rfl rfl e20) ?_
                          refine st rfl rfl rfl (yv_assign rfl rfl) ?_
                          refine rg_nil (hK _ ?_)
                          obtain rfl := nxt_e h7
                          refine c_ret (hret _ _ (hk [(1, ⟨43, 5, true, true, v2, [[int a1.Entities, int a1.Periods, lst 1 fI a1.Weights, lst 1 (fL 1 fI) a1.Methods, lst 1 (fL 1 fI) a1.Costs]]⟩), (2, ⟨3, 1, true, true, v3, [[int (a1.Weights.length : Int)]]⟩), (3, ⟨73, 1, true, true, v4, [[.fn (.func 48) [] []]]⟩), (4, ⟨73, 1, true, true, v10, [[.fn (.func 48) [] []]]⟩)]) (.tmp rfl .nil) (HK.le ⟨rfl, rfl, rfl, rfl, trivial⟩) ?_)
                          exact ⟨x20, (), rfl, rfl, rfl⟩
                        · rintro y _ ⟨y2_1, _, rfl, hc, rfl⟩
                          subst hc
                          refine rg_nil (hK _ ?_)
                          refine c_if (b := y2_1) rfl ?_ ?_
                          · intro hb; subst hb; replace h6 := ct h6
                            refine c_seq ?_
                            refine c_reg ?_; intro K hK
                            refine st rfl rfl rfl (yv_move rfl rfl) ?_
                            refine st rfl rfl rfl (yv_assign rfl rfl) ?_
                            refine rg_nil (hK _ ?_)
                            obtain ⟨c21, hX, hj⟩ := esc_e h6; subst hj; replace h5 := hX.trans (sel_r h5)
                            obtain rfl := nxt_e h5
                            refine c_ret (br4 _ (lr3 _ (br2 _ (jr1 _ (hret _ _ (hk [(1, ⟨43, 5, true, true, v2, [[int a1.Entities, int a1.Periods, lst 1 fI a1.Weights, lst 1 (fL 1 fI) a1.Methods, lst 1 (fL 1 fI) a1.Costs]]⟩), (2, ⟨3, 1, true, true, v3, [[int (a1.Weights.length : Int)]]⟩), (3, ⟨73, 1, true, true, v4, [[.fn (.func 48) [] []]]⟩), (4, ⟨73, 1, true, true, v10, [[.fn (.func 48) [] []]]⟩)]) (.tmp rfl .nil) (HK.le ⟨rfl, rfl, rfl, rfl, trivial⟩) ?_)))))
                            exact ⟨y0_1, (), rfl, rfl, rfl⟩
                          · intro hb; subst hb; replace h6 := cf h6
                            refine c_skip ?_
                            refine c_nil (bn4 _ ?_)
                            refine c_reg ?_; intro K hK
                            obtain ⟨x22, e22, h6⟩ := bnd_e h6
                            refine st rfl rfl rfl (yv_add rfl rfl rfl e22) ?_
                            refine st rfl rfl rfl (yv_move rfl rfl) ?_
                            refine rg_nil (hK _ ?_)
                            refine c_nil (ln3 _ ⟨x22, (), h6, leH_kn ⟨⟨_, rfl, (.refl _)⟩, ⟨_, rfl, (.refl _)⟩, ⟨_, rfl, (.refl _)⟩, ⟨_, rfl, (.refl _)⟩, ⟨_, rfl, (.refl _)⟩, trivial⟩ ⟨⟨_, rfl, (.refl _)⟩, ⟨_, rfl, (.refl _)⟩, ⟨_, rfl, (.refl _)⟩, ⟨_, rfl, (.refl _)⟩, trivial⟩⟩)
                      · intro hb; subst hb; replace h6 := cf h6
                        refine c_exit (lx3 _ _ (bx2 _ ?_))
                        obtain rfl := brk_e h6
                        refine c_nil (jn1 _ ⟨(), (), rfl, leH_kn ⟨⟨_, rfl, (.refl _)⟩, trivial⟩ ⟨⟨_, rfl, (.refl _)⟩, ⟨_, rfl, (.refl _)⟩, ⟨_, rfl, (.refl _)⟩, ⟨_, rfl, (.refl _)⟩, trivial⟩⟩)
                    · rintro _ _ rfl
                      replace h5 := sel_l h5
                      refine c_show ⟨kn [(4, int 0)], hk [(1, ⟨43, 5, true, true, v2, [[int a1.Entities, int a1.Periods, lst 1 fI a1.Weights, lst 1 (fL 1 fI) a1.Methods, lst 1 (fL 1 fI) a1.Costs]]⟩), (2, ⟨3, 1, true, true, v3, [[int (a1.Weights.length : Int)]]⟩), (3, ⟨73, 1, true, true, v4, [[.fn (.func 48) [] []]]⟩), (4, ⟨73, 1, true, true, v10, [[.fn (.func 48) [] []]]⟩)]⟩ ?_
                      refine c_seq ?_
                      refine c_reg ?_; intro K hK
                      refine st rfl rfl rfl (yv_assign rfl rfl) ?_
                      refine rg_nil (hK _ ?_)
                      obtain rfl := nxt_e h5
                      refine c_ret (hret _ _ (hk [(1, ⟨43, 5, true, true, v2, [[int a1.Entities, int a1.Periods, lst 1 fI a1.Weights, lst 1 (fL 1 fI) a1.Methods, lst 1 (fL 1 fI) a1.Costs]]⟩), (2, ⟨3, 1, true, true, v3, [[int (a1.Weights.length : Int)]]⟩), (3, ⟨73, 1, true, true, v4, [[.fn (.func 48) [] []]]⟩), (4, ⟨73, 1, true, true, v10, [[.fn (.func 48) [] []]]⟩)]) (.tmp rfl .nil) (HK.le ⟨rfl, rfl, rfl, rfl, trivial⟩) ?_)
                      exact ⟨(-1), (), rfl, rfl, rfl⟩
                  · rintro y _ ⟨y4_1, _, rfl, hc, rfl⟩
                    subst hc
                    obtain ⟨x23, e23, h4⟩ := bnd_e h4
                    refine st rfl rfl rfl (yv_to (y := boo x23) (yv_geq rfl rfl rfl) (congrArg boo e23)) ?_
                    refine st rfl rfl rfl (yv_assign rfl rfl) ?_
                    refine rg_nil (hK _ ?_)
                    obtain rfl := nxt_e h4
                    refine c_ret (hret _ _ (hk [(1, ⟨43, 5, true, true, v2, [[int a1.Entities, int a1.Periods, lst 1 fI a1.Weights, lst 1 (fL 1 fI) a1.Methods, lst 1 (fL 1 fI) a1.Costs]]⟩), (2, ⟨3, 1, true, true, v3, [[int (a1.Weights.length : Int)]]⟩), (3, ⟨73, 1, true, true, v4, [[.fn (.func 48) [] []]]⟩), (4, ⟨73, 1, true, true, v10, [[.fn (.func 48) [] []]]⟩)]) (.tmp rfl .nil) (HK.le ⟨rfl, rfl, rfl, rfl, trivial⟩) ?_)
                    exact ⟨x23, (), rfl, rfl, rfl⟩
                · rintro y _ ⟨y5_1, _, rfl, hc, rfl⟩
                  subst hc
                  obtain ⟨x24, e24, h3⟩ := bnd_e h3
                  refine st rfl rfl rfl (yv_not rfl rfl e24) ?_
                  refine st rfl rfl rfl (yv_pick rfl rfl (fun _ => rfl) (fun _ => rfl) rfl) ?_
                  refine st rfl rfl rfl (yv_assign rfl rfl) ?_
                  obtain rfl := nxt_e h3
                  refine rg_nil (hK _ ⟨x24, (), rfl, leH_kn ⟨⟨_, rfl, (.refl _)⟩, trivial⟩ ⟨⟨_, rfl, (.refl _)⟩, ⟨_, rfl, (.refl _)⟩, ⟨_, rfl, (.refl _)⟩, trivial⟩⟩)
              · intro hb; subst hb; replace h3 := cf h3
                refine sk rfl rfl rfl ?_
                refine sk rfl rfl rfl ?_
                refine sk rfl rfl rfl ?_
                refine sk rfl rfl rfl ?_
                refine st rfl rfl rfl (yv_pick rfl rfl (fun _ => rfl) (fun _ => rfl) rfl) ?_
                refine st rfl rfl rfl (yv_assign rfl rfl) ?_
                obtain rfl := nxt_e h3
                refine rg_nil (hK _ ⟨false, (), rfl, leH_kn ⟨⟨_, rfl, (.refl _)⟩, trivial⟩ ⟨⟨_, rfl, (.refl _)⟩, ⟨_, rfl, (.refl _)⟩, ⟨_, rfl, (.refl _)⟩, trivial⟩⟩)
            · rintro y6_1 _ rfl
              refine c_show ⟨kn [(6, boo y6_1)], hk [(1, ⟨43, 5, true, true, v2, [[int a1.Entities, int a1.Periods, lst 1 fI a1.Weights, lst 1 (fL 1 fI) a1.Methods, lst 1 (fL 1 fI) a1.Costs]]⟩), (2, ⟨3, 1, true, true, v3, [[int (a1.Weights.length : Int)]]⟩), (3, ⟨73, 1, true, true, v4, [[.fn (.func 48) [] []]]⟩)]⟩ ?_
              obtain rfl := nxt_e h2
              refine c_ret (hret _ _ (hk [(1, ⟨43, 5, true, true, v2, [[int a1.Entities, int a1.Periods, lst 1 fI a1.Weights, lst 1 (fL 1 fI) a1.Methods, lst 1 (fL 1 fI) a1.Costs]]⟩), (2, ⟨3, 1, true, true, v3, [[int (a1.Weights.length : Int)]]⟩), (3, ⟨73, 1, true, true, v4, [[.fn (.func 48) [] []]]⟩)]) (.tmp rfl .nil) (HK.le ⟨rfl, rfl, rfl, trivial⟩) ?_)
              exact ⟨y6_1, (), rfl, rfl, rfl⟩
          · rintro y _ ⟨y7_1, _, rfl, hc, rfl⟩
            subst hc
            refine st rfl rfl rfl (yv_pick rfl rfl (fun _ => rfl) (fun _ => rfl) rfl) ?_
            refine st rfl rfl rfl (yv_move rfl rfl) ?_
            refine scases 31 rfl ?_ ?_
            · intro hb; subst hb; replace h1 := ct h1
              refine st rfl rfl rfl (yv_fieldAddr rfl fo43_3 rfl (.pt rfl rfl rfl) (.pt _ _ _ _ _)) ?_
              refine st rfl rfl rfl (yv_load rfl sh41 rfl (.pt rfl rfl rfl) rfl) ?_
              refine st rfl rfl rfl (yv_fieldAddr rfl fo43_0 rfl (.pt rfl rfl rfl) (.pt _ _ _ _ _)) ?_
              refine st rfl rfl rfl (yv_load rfl sh3 rfl (.pt rfl rfl rfl) rfl) ?_
              refine st rfl rfl rfl (yv_move rfl rfl) ?_
              obtain ⟨j25, h2, h1⟩ := bind_e h1
              refine se (Out := fun y H' => (∃ (a : Bool) (k : Unit), a = j25 ∧ y = boo a ∧ H' = hk [(1, ⟨43, 5, true, true, v2, [[int a1.Entities, int a1.Periods, lst 1 fI a1.Weights, lst 1 (fL 1 fI) a1.Methods, lst 1 (fL 1 fI) a1.Costs]]⟩), (2, ⟨3, 1, true, true, v3, [[int (a1.Weights.length : Int)]]⟩), (3, ⟨73, 1, true, true, v4, [[.fn (.func 48) [] []]]⟩)])) rfl rfl rfl (yl_call rfl rfl (.cons rfl (.cons rfl (.cons rfl .nil))) cal54 ?_) ?_
              · refine pc_of' (c := _) Try.func54 rfl rfl ?_; intro Q hret hnorm
                refine c_seq ?_
                refine c_reg ?_; intro K hK
                refine se rfl rfl rfl (yl_box 5 .any rfl rfl rfl) ?_; rintro _ _ ⟨v26, -, rfl, rfl⟩
                refine st rfl rfl rfl (yv_assign rfl rfl) ?_
                refine rg_nil (hK _ ?_)
                refine c_seq ?_
                obtain ⟨j27, h3, h2⟩ := bind_e h2
                refine c_regL (fun (a : Bool) (k : Unit) => ⟨kn [(6, boo a)], hk [(1, ⟨43, 5, true, true, v2, [[int a1.Entities, int a1.Periods, lst 1 fI a1.Weights, lst 1 (fL 1 fI) a1.Methods, lst 1 (fL 1 fI) a1.Costs]]⟩), (2, ⟨3, 1, true, true, v3, [[int (a1.Weights.length : Int)]]⟩), (3, ⟨73, 1, true, true, v4, [[.fn (.func 48) [] []]]⟩)]⟩) (fun a => a = j27) ?_ ?_
                · intro K hK
                  refine st rfl rfl rfl (yv_move rfl rfl) ?_
                  refine st rfl rfl rfl (yv_len_sl rfl Try.underlying41 rfl (lst_len _)) ?_
                  refine st rfl rfl rfl (yv_move rfl rfl) ?_
                  obtain ⟨x28, e28, h3⟩ := bnd_e h3
                  refine st rfl rfl rfl (yv_to (y := boo x28) (yv_eql rfl rfl rfl) (congrArg boo e28)) ?_
                  refine st rfl rfl rfl (yv_move rfl rfl) ?_
                  refine scases 11 rfl ?_ ?_
                  · intro hb; subst hb; replace h3 := ct h3
                    refine st rfl rfl rfl (yv_move rfl rfl) ?_
                    refine st rfl rfl rfl (yv_makeFunc rfl .nil (.cons rfl .nil)) ?_
                    obtain ⟨j29, h4, h3⟩ := bind_e h3
                    refine se (Out := fun y H' => (∃ (a : Bool) (k : Unit), a = j29 ∧ y = boo a ∧ H' = hk [(1, ⟨43, 5, true, true, v2, [[int a1.Entities, int a1.Periods, lst 1 fI a1.Weights, lst 1 (fL 1 fI) a1.Methods, lst 1 (fL 1 fI) a1.Costs]]⟩), (2, ⟨3, 1, true, true, v3, [[int (a1.Weights.length : Int)]]⟩), (3, ⟨73, 1, true, true, v4, [[.fn (.func 48) [] []]]⟩), (5, ⟨91, 1, true, true, v26, [[.fn (.func 50) [] [.pt 2 v3 0 0]]]⟩)])) rfl rfl rfl (yl_call rfl rfl (.cons rfl (.cons rfl .nil)) cal66 ?_) ?_
                    · refine pc_of' (c := _) Try.func66 rfl rfl ?_; intro Q hret hnorm
                      refine c_seq ?_
                      refine c_reg ?_; intro K hK
                      refine st rfl rfl rfl (yv_assign rfl rfl) ?_
                      refine rg_nil (hK _ ?_)
                      refine c_seq ?_
                      refine c_reg ?_; intro K hK
                      refine st rfl rfl rfl (yv_move rfl rfl) ?_
                      refine st rfl rfl rfl (yv_move rfl rfl) ?_
                      obtain ⟨j30, h5, h4⟩ := bind_e h4
                      refine se (Out := fun y H' => (∃ (a : Int) (k : Unit), a = j30 ∧ y = int a ∧ H' = hk [(1, ⟨43, 5, true, true, v2, [[int a1.Entities, int a1.Periods, lst 1 fI a1.Weights, lst 1 (fL 1 fI) a1.Methods, lst 1 (fL 1 fI) a1.Costs]]⟩), (2, ⟨3, 1, true, true, v3, [[int (a1.Weights.length : Int)]]⟩), (3, ⟨73, 1, true, true, v4, [[.fn (.func 48) [] []]]⟩), (5, ⟨91, 1, true, true, v26, [[.fn (.func 50) [] [.pt 2 v3 0 0]]]⟩)])) rfl rfl rfl (yl_call rfl rfl (.cons rfl (.cons rfl .nil)) cal73 ?_) ?_
                      · refine pc_of' (c := _) Try.func73 rfl rfl ?_; intro Q hret hnorm
                        refine c_seq ?_
                        refine c_reg ?_; intro K hK
                        refine st rfl rfl rfl (yv_assign rfl rfl) ?_
                        refine rg_nil (hK _ ?_)
                        refine c_seq ?_
                        refine c_seq ?_
                        refine c_reg ?_; intro K hK
                        refine st rfl rfl rfl (yv_move rfl rfl) ?_
                        refine st rfl rfl rfl (yv_len_sl rfl Try.underlying41 rfl (lst_len _)) ?_
                        refine st rfl rfl rfl (yv_move rfl rfl) ?_
                        refine rg_nil (hK _ ?_)
                        obtain ⟨j31, h6, h5⟩ := bind_e h5
                        refine c_joinL (fun (a : Unit) (k : Unit) => ⟨kn [(4, int 0)], hk [(1, ⟨43, 5, true, true, v2, [[int a1.Entities, int a1.Periods, lst 1 fI a1.Weights, lst 1 (fL 1 fI) a1.Methods, lst 1 (fL 1 fI) a1.Costs]]⟩), (2, ⟨3, 1, true, true, v3, [[int (a1.Weights.length : Int)]]⟩), (3, ⟨73, 1, true, true, v4, [[.fn (.func 48) [] []]]⟩), (5, ⟨91, 1, true, true, v26, [[.fn (.func 50) [] [.pt 2 v3 0 0]]]⟩)]⟩) (fun a => j31 = .inl a) ?_ ?_
                        · intro Q1 jn1 jx1 jr1
                          refine c_block ?_; intro Q2 bn2 bx2 br2 bo2
                          refine c_loopD (fun (a : Int) (k : Unit) => ⟨kn [(0, lst 1 (fL 1 fI) a1.Methods), (1, .fn (.func 67) [] [.pt 5 v26 0 0]), (4, int 0), (7, int (a1.Methods.length : Int)), (8, int a)], hk [(1, ⟨43, 5, true, true, v2, [[int a1.Entities, int a1.Periods, lst 1 fI a1.Weights, lst 1 (fL 1 fI) a1.Methods, lst 1 (fL 1 fI) a1.Costs]]⟩), (2, ⟨3, 1, true, true, v3, [[int (a1.Weights.length : Int)]]⟩), (3, ⟨73, 1, true, true, v4, [[.fn (.func 48) [] []]]⟩), (5, ⟨91, 1, true, true, v26, [[.fn (.func 50) [] [.pt 2 v3 0 0]]]⟩)]⟩) (fun n (a : Int) => d_master_Check_L1 a1 n a) (0 : Int) () h6 (fun _ => rfl)
                            (leH_kn ⟨⟨_, rfl, (.refl _)⟩, ⟨_, rfl, (.refl _)⟩, ⟨_, rfl, (.refl _)⟩, ⟨_, rfl, (.refl _)⟩, ⟨_, rfl, (.refl _)⟩, trivial⟩ ⟨⟨_, rfl, (.refl _)⟩, ⟨_, rfl, (.refl _)⟩, ⟨_, rfl, (.refl _)⟩, ⟨_, rfl, (.refl _)⟩, trivial⟩) ?_
                          rintro n y8_1 _ hm h6 Q3 ln3 lx3 lr3
                          replace h6 : d_master_Check_L1 a1 (n + 1) y8_1 = some _ := h6
                          rw [d_master_Check_L1] at h6
                          refine c_show ⟨kn [(0, lst 1 (fL 1 fI) a1.Methods), (1, .fn (.func 67) [] [.pt 5 v26 0 0]), (4, int 0), (7, int (a1.Methods.length : Int)), (8, int y8_1)], hk [(1, ⟨43, 5, true, true, v2, [[int a1.Entities, int a1.Periods, lst 1 fI a1.Weights, lst 1 (fL 1 fI) a1.Methods, lst 1 (fL 1 fI) a1.Costs]]⟩), (2, ⟨3, 1, true, true, v3, [[int (a1.Weights.length : Int)]]⟩), (3, ⟨73, 1, true, true, v4, [[.fn (.func 48) [] []]]⟩), (5, ⟨91, 1, true, true, v26, [[.fn (.func 50) [] [.pt 2 v3 0 0]]]⟩)]⟩ ?_
                          refine c_seq ?_
                          refine c_reg ?_; intro K hK
                          obtain ⟨x32, e32, h6⟩ := bnd_e h6
                          refine st rfl rfl rfl (yv_to (y := boo x32) (yv_lss rfl rfl rfl) (congrArg boo e32)) ?_
                          refine rg_nil (hK _ ?_)
                          refine c_seq ?_
                          refine c_if (b := x32) rfl ?_ ?_
                          · intro hb; subst hb; replace h6 := ct h6
                            refine c_skip ?_
                            refine c_seq ?_
                            refine c_block ?_; intro Q4 bn4 bx4 br4 bo4
                            refine c_seq ?_
                            refine c_reg ?_; intro K hK
                            refine st rfl rfl rfl (yv_move rfl rfl) ?_
                            refine st rfl rfl rfl (yv_assign rfl rfl) ?_
                            refine rg_nil (hK _ ?_)
                            refine c_seq ?_
                            refine c_reg ?_; intro K hK
                            refine st rfl rfl rfl (yv_move rfl rfl) ?_
                            refine st rfl rfl rfl (yv_move rfl rfl) ?_
                            refine st rfl rfl rfl (yv_move rfl rfl) ?_
                            obtain ⟨x33, e33, h6⟩ := bind_e h6
                            refine st rfl rfl rfl (yv_ixT rfl Try.underlying41 sh22 rfl rfl e33) ?_
                            refine st rfl rfl rfl (yv_load rfl sh22 rfl (.pp _) rfl) ?_
                            obtain ⟨j34, h7, h6⟩ := bind_e h6
                            refine se (Out := fun y H' => (∃ (a : Bool) (k : Unit), a = j34 ∧ y = boo a ∧ H' = hk [(1, ⟨43, 5, true, true, v2, [[int a1.Entities, int a1.Periods, lst 1 fI a1.Weights, lst 1 (fL 1 fI) a1.Methods, lst 1 (fL 1 fI) a1.Costs]]⟩), (2, ⟨3, 1, true, true, v3, [[int (a1.Weights.length : Int)]]⟩), (3, ⟨73, 1, true, true, v4, [[.fn (.func 48) [] []]]⟩), (5, ⟨91, 1, true, true, v26, [[.fn (.func 50) [] [.pt 2 v3 0 0]]]⟩)])) rfl rfl rfl (yl_call rfl rfl (.cons rfl .nil) cal67 ?_) ?_
                            · refine pc_of' (c := _) Try.func67 rfl rfl ?_; intro Q hret hnorm
                              refine c_seq ?_
                              refine c_reg ?_; intro K hK
                              refine st rfl rfl rfl (yv_assign rfl rfl) ?_
                              refine rg_nil (hK _ ?_)
                              refine c_seq ?_
                              refine c_reg ?_; intro K hK
                              refine st rfl rfl rfl (yv_load rfl sh91 rfl (.pt rfl rfl rfl) rfl) ?_
                              refine st rfl rfl rfl (yv_move rfl rfl) ?_
                              obtain ⟨j35, h8, h7⟩ := bind_e h7
                              refine se (Out := fun y H' => (∃ (a : Bool) (k : Unit), a = j35 ∧ y = boo a ∧ H' = hk [(1, ⟨43, 5, true, true, v2, [[int a1.Entities, int a1.Periods, lst 1 fI a1.Weights, lst 1 (fL 1 fI) a1.Methods, lst 1 (fL 1 fI) a1.Costs]]⟩), (2, ⟨3, 1, true, true, v3, [[int (a1.Weights.length : Int)]]⟩), (3, ⟨73, 1, true, true, v4, [[.fn (.func 48) [] []]]⟩), (5, ⟨91, 1, true, true, v26, [[.fn (.func 50) [] [.pt 2 v3 0 0]]]⟩)])) rfl rfl rfl (yl_call rfl rfl (.cons rfl .nil) cal50 ?_) ?_
                              · refine pc_of' (c := _) Try.func50 rfl rfl ?_; intro Q hret hnorm
                                refine c_seq ?_
                                refine c_reg ?_; intro K hK
                                refine st rfl rfl rfl (yv_assign rfl rfl) ?_
                                refine rg_nil (hK _ ?_)
                                refine c_seq ?_
                                refine c_reg ?_; intro K hK
                                refine st rfl rfl rfl (yv_move rfl rfl) ?_
                                refine st rfl rfl rfl (yv_load rfl sh3 rfl (.pt rfl rfl rfl) rfl) ?_
                                obtain ⟨j36, h9, h8⟩ := bind_e h8
                                refine se (Out := fun y H' => (∃ (a : Bool) (k : Unit), a = j36 ∧ y = boo a ∧ H' = hk [(1, ⟨43, 5, true, true, v2, [[int a1.Entities, int a1.Periods, lst 1 fI a1.Weights, lst 1 (fL 1 fI) a1.Methods, lst 1 (fL 1 fI) a1.Costs]]⟩), (2, ⟨3, 1, true, true, v3, [[int (a1.Weights.length : Int)]]⟩), (3, ⟨73, 1, true, true, v4, [[.fn (.func 48) [] []]]⟩), (5, ⟨91, 1, true, true, v26, [[.fn (.func 50) [] [.pt 2 v3 0 0]]]⟩)])) rfl rfl rfl (yl_call rfl rfl (.cons rfl (.cons rfl (.cons rfl .nil))) cal51 ?_) ?_
                                · refine pc_of' (c := _) Try.func51 rfl rfl ?_; intro Q hret hnorm
                                  refine c_seq ?_
                                  refine c_reg ?_; intro K hK
                                  refine se rfl rfl rfl (yl_box 6 .any rfl rfl rfl) ?_; rintro _ _ ⟨v37, -, rfl, rfl⟩
                                  refine st rfl rfl rfl (yv_assign rfl rfl) ?_
                                  refine rg_nil (hK _ ?_)
                                  refine c_seq ?_
                                  obtain ⟨j38, h10, h9⟩ := bind_e h9
                                  refine c_regL (fun (a : Bool) (k : Unit) => ⟨kn [(6, boo a)], hk [(1, ⟨43, 5, true, true, v2, [[int a1.Entities, int a1.Periods, lst 1 fI a1.Weights, lst 1 (fL 1 fI) a1.Methods, lst 1 (fL 1 fI) a1.Costs]]⟩), (2, ⟨3, 1, true, true, v3, [[int (a1.Weights.length : Int)]]⟩), (3, ⟨73, 1, true, true, v4, [[.fn (.func 48) [] []]]⟩), (5, ⟨91, 1, true, true, v26, [[.fn (.func 50) [] [.pt 2 v3 0 0]]]⟩)]⟩) (fun a => a = j38) ?_ ?_
                                  · intro K hK
                                    refine st rfl rfl rfl (yv_move rfl rfl) ?_
                                    refine st rfl rfl rfl (yv_len_sl rfl Try.underlying22 rfl (lst_len _)) ?_
                                    refine st rfl rfl rfl (yv_move rfl rfl) ?_
                                    obtain ⟨x39, e39, h10⟩ := bnd_e h10
                                    refine st rfl rfl rfl (yv_to (y := boo x39) (yv_eql rfl rfl rfl) (congrArg boo e39)) ?_
                                    refine st rfl rfl rfl (yv_move rfl rfl) ?_
                                    refine scases 11 rfl ?_ ?_
                                    · intro hb; subst hb; replace h10 := ct h10
                                      refine st rfl rfl rfl (yv_move rfl rfl) ?_
                                      refine st rfl rfl rfl (yv_makeFunc rfl .nil (.cons rfl .nil)) ?_
                                      obtain ⟨j40, h11, h10⟩ := bind_e h10
                                      refine se (Out := fun y H' => (∃ (a : Bool) (k : Unit), a = j40 ∧ y = boo a ∧ H' = hk [(1, ⟨43, 5, true, true, v2, [[int a1.Entities, int a1.Periods, lst 1 fI a1.Weights, lst 1 (fL 1 fI) a1.Methods, lst 1 (fL 1 fI) a1.Costs]]⟩), (2, ⟨3, 1, true, true, v3, [[int (a1.Weights.length : Int)]]⟩), (3, ⟨73, 1, true, true, v4, [[.fn (.func 48) [] []]]⟩), (5, ⟨91, 1, true, true, v26, [[.fn (.func 50) [] [.pt 2 v3 0 0]]]⟩), (6, ⟨73, 1, true, true, v37, [[.fn (.func 52) [] []]]⟩)])) rfl rfl rfl (yl_call rfl rfl (.cons rfl (.cons rfl .nil)) cal64 ?_) ?_
                                      · refine pc_of' (c := _) Try.func64 rfl rfl ?_; intro Q hret hnorm
                                        refine c_seq ?_
                                        refine c_reg ?_; intro K hK
                                        refine st rfl rfl rfl (yv_assign rfl rfl) ?_
                                        refine rg_nil (hK _ ?_)
                                        refine c_seq ?_
                                        refine c_reg ?_; intro K hK
                                        refine st rfl rfl rfl (yv_move rfl rfl) ?_
                                        refine st rfl rfl rfl (yv_move rfl rfl) ?_
                                        obtain ⟨j41, h12, h11⟩ := bind_e h11
                                        refine se (Out := fun y H' => (∃ (a : Int) (k : Unit), a = j41 ∧ y = int a ∧ H' = hk [(1, ⟨43, 5, true, true, v2, [[int a1.Entities, int a1.Periods, lst 1 fI a1.Weights, lst 1 (fL 1 fI) a1.Methods, lst 1 (fL 1 fI) a1.Costs]]⟩), (2, ⟨3, 1, true, true, v3, [[int (a1.Weights.length : Int)]]⟩), (3, ⟨73, 1, true, true, v4, [[.fn (.func 48) [] []]]⟩), (5, ⟨91, 1, true, true, v26, [[.fn (.func 50) [] [.pt 2 v3 0 0]]]⟩), (6, ⟨73, 1, true, true, v37, [[.fn (.func 52) [] []]]⟩)])) rfl rfl rfl (yl_call rfl rfl (.cons rfl (.cons rfl .nil)) cal72 ?_) ?_
                                        · refine pc_of' (c := _) Try.func72 rfl rfl ?_; intro Q hret hnorm
                                          refine c_seq ?_
                                          refine c_reg ?_; intro K hK
                                          refine st rfl rfl rfl (yv_assign rfl rfl) ?_
                                          refine rg_nil (hK _ ?_)
                                          refine c_seq ?_
                                          refine c_seq ?_
                                          refine c_reg ?_; intro K hK
                                          refine st rfl rfl rfl (yv_move rfl rfl) ?_
                                          refine st rfl rfl rfl (yv_len_sl rfl Try.underlying22 rfl (lst_len _)) ?_
                                          refine st rfl rfl rfl (yv_move rfl rfl) ?_
                                          refine rg_nil (hK _ ?_)
                                          obtain ⟨j42, h13, h12⟩ := bind_e h12
                                          refine c_joinL (fun (a : Unit) (k : Unit) => ⟨kn [(4, int 0)], hk [(1, ⟨43, 5, true, true, v2, [[int a1.Entities, int a1.Periods, lst 1 fI a1.Weights, lst 1 (fL 1 fI) a1.Methods, lst 1 (fL 1 fI) a1.Costs]]⟩), (2, ⟨3, 1, true, true, v3, [[int (a1.Weights.length : Int)]]⟩), (3, ⟨73, 1, true, true, v4, [[.fn (.func 48) [] []]]⟩), (5, ⟨91, 1, true, true, v26, [[.fn (.func 50) [] [.pt 2 v3 0 0]]]⟩), (6, ⟨73, 1, true, true, v37, [[.fn (.func 52) [] []]]⟩)]⟩) (fun a => j42 = .inl a) ?_ ?_
                                          · intro Q1 jn1 jx1 jr1
                                            refine c_block ?_; intro Q2 bn2 bx2 br2 bo2
                                            refine c_loopD (fun (a : Int) (k : Unit) => ⟨kn [(0, lst 1 fI x33), (1, .fn (.func 65) [] [.pt 6 v37 0 0]), (4, int 0), (7, int (x33.length : Int)), (8, int a)], hk [(1, ⟨43, 5, true, true, v2, [[int a1.Entities, int a1.Periods, lst 1 fI a1.Weights, lst 1 (fL 1 fI) a1.Methods, lst 1 (fL 1 fI) a1.Costs]]⟩), (2, ⟨3, 1, true, true, v3, [[int (a1.Weights.length : Int)]]⟩), (3, ⟨73, 1, true, true, v4, [[.fn (.func 48) [] []]]⟩), (5, ⟨91, 1, true, true, v26, [[.fn (.func 50) [] [.pt 2 v3 0 0]]]⟩), (6, ⟨73, 1, true, true, v37, [[.fn (.func 52) [] []]]⟩)]⟩) (fun n (a : Int) => d_master_Check_L2 x33 n a) (0 : Int) () h13 (fun _ => rfl)
                                              (leH_kn ⟨⟨_, rfl, (.refl _)⟩, ⟨_, rfl, (.refl _)⟩, ⟨_, rfl, (.refl _)⟩, ⟨_, rfl, (.refl _)⟩, ⟨_, rfl, (.refl _)⟩, trivial⟩ ⟨⟨_, rfl, (.refl _)⟩, ⟨_, rfl, (.refl _)⟩, ⟨_, rfl, (.refl _)⟩, ⟨_, rfl, (.refl _)⟩, ⟨_, rfl, (.refl _)⟩, trivial⟩) ?_
                                            rintro n y9_1 _ hm h13 Q3 ln3 lx3 lr3
                                            replace h13 : d_master_Check_L2 x33 (n + 1) y9_1 = some _ := h13
                                            rw [d_master_Check_L2] at h13
                                            refine c_show ⟨kn [(0, lst 1 fI x33), (1, .fn (.func 65) [] [.pt 6 v37 0 0]), (4, int 0), (7, int (x33.length : Int)), (8, int y9_1)], hk [(1, ⟨43, 5, true, true, v2, [[int a1.Entities, int a1.Periods, lst 1 fI a1.Weights, lst 1 (fL 1 fI) a1.Methods, lst 1 (fL 1 fI) a1.Costs]]⟩), (2, ⟨3, 1, true, true, v3, [[int (a1.Weights.length : Int)]]⟩), (3, ⟨73, 1, true, true, v4, [[.fn (.func 48) [] []]]⟩), (5, ⟨91, 1, true, true, v26, [[.fn (.func 50) [] [.pt 2 v3 0 0]]]⟩), (6, ⟨73, 1, true, true, v37, [[.fn (.func 52) [] []]]⟩)]⟩ ?_
                                            refine c_seq ?_
                                            refine c_reg ?_; intro K hK
                                            obtain ⟨x43, e43, h13⟩ := bnd_e h13
                                            refine st rfl rfl rfl (yv_to (y := boo x43) (yv_lss rfl rfl rfl) (congrArg boo e43)) ?_
                                            refine rg_nil (hK _ ?_)
                                            refine c_seq ?_
                                            refine c_if (b := x43) rfl ?_ ?_
                                            · intro hb; subst hb; replace h13 := ct h13
                                              refine c_skip ?_
                                              refine c_seq ?_
                                              refine c_block ?_; intro Q4 bn4 bx4 br4 bo4
                                              refine c_seq ?_
                                              refine c_reg ?_; intro K hK
                                              refine st rfl rfl rfl (yv_move rfl rfl) ?_
                                              refine st rfl rfl rfl (yv_assign rfl rfl) ?_
                                              refine rg_nil (hK _ ?_)
                                              refine c_seq ?_
                                              refine c_reg ?_; intro K hK
                                              refine st rfl rfl rfl (yv_move rfl rfl) ?_
                                              refine st rfl rfl rfl (yv_move rfl rfl) ?_
                                              refine st rfl rfl rfl (yv_move rfl rfl) ?_
                                              obtain ⟨x44, e44, h13⟩ := bind_e h13
                                              refine st rfl rfl rfl (yv_ixT rfl Try.underlying22 sh3 rfl rfl e44) ?_
                                              refine st rfl rfl rfl (yv_load rfl sh3 rfl (.pp _) rfl) ?_
                                              obtain ⟨j45, h14, h13⟩ := bind_e h13
                                              refine se (Out := fun y H' => (∃ (a : Bool) (k : Unit), a = j45 ∧ y = boo a ∧ H' = hk [(1, ⟨43, 5, true, true, v2, [[int a1.Entities, int a1.Periods, lst 1 fI a1.Weights, lst 1 (fL 1 fI) a1.Methods, lst 1 (fL 1 fI) a1.Costs]]⟩), (2, ⟨3, 1, true, true, v3, [[int (a1.Weights.length : Int)]]⟩), (3, ⟨73, 1, true, true, v4, [[.fn (.func 48) [] []]]⟩), (5, ⟨91, 1, true, true, v26, [[.fn (.func 50) [] [.pt 2 v3 0 0]]]⟩), (6, ⟨73, 1, true, true, v37, [[.fn (.func 52) [] []]]⟩)])) rfl rfl rfl (yl_call rfl rfl (.cons rfl .nil) cal65 ?_) ?_
                                              · refine pc_of' (c := _) Try.func65 rfl rfl ?_; intro Q hret hnorm
                                                refine c_seq ?_
                                                refine c_reg ?_; intro K hK
                                                refine st rfl rfl rfl (yv_assign rfl rfl) ?_
                                                refine rg_nil (hK _ ?_)
                                                refine c_seq ?_
                                                refine c_reg ?_; intro K hK
                                                refine st rfl rfl rfl (yv_load rfl sh73 rfl (.pt rfl rfl rfl) rfl) ?_
                                                refine st rfl rfl rfl (yv_move rfl rfl) ?_
                                                obtain ⟨x46, e46, h14⟩ := bind_e h14
                                                refine st rfl rfl rfl (yv_callP rfl rfl (.cons rfl .nil) cal52 (CvL.refl _) (d_master_Check_2_1_c e46)) ?_
                                                obtain ⟨x47, e47, h14⟩ := bnd_e h14
                                                refine st rfl rfl rfl (yv_not rfl rfl e47) ?_
                                                refine st rfl rfl rfl (yv_assign rfl rfl) ?_
                                                refine rg_nil (hK _ ?_)
                                                obtain rfl := nxt_e h14
                                                refine c_ret (hret _ _ (hk [(1, ⟨43, 5, true, true, v2, [[int a1.Entities, int a1.Periods, lst 1 fI a1.Weights, lst 1 (fL 1 fI) a1.Methods, lst 1 (fL 1 fI) a1.Costs]]⟩), (2, ⟨3, 1, true, true, v3, [[int (a1.Weights.length : Int)]]⟩), (3, ⟨73, 1, true, true, v4, [[.fn (.func 48) [] []]]⟩), (5, ⟨91, 1, true, true, v26, [[.fn (.func 50) [] [.pt 2 v3 0 0]]]⟩), (6, ⟨73, 1, true, true, v37, [[.fn (.func 52) [] []]]⟩)]) (.tmp rfl .nil) (HK.le ⟨rfl, rfl, rfl, rfl, rfl, trivial⟩) ?_)
                                                exact ⟨x47, (), rfl, rfl, rfl⟩
                                              · rintro y _ ⟨y11_1, _, rfl, hc, rfl⟩
                                                subst hc
                                                refine rg_nil (hK _ ?_)
                                                refine c_if (b := y11_1) rfl ?_ ?_
                                                · intro hb; subst hb; replace h13 := ct h13
                                                  refine c_seq ?_
                                                  refine c_reg ?_; intro K hK
                                                  refine st rfl rfl rfl (yv_move rfl rfl) ?_
                                                  refine st rfl rfl rfl (yv_assign rfl rfl) ?_
                                                  refine rg_nil (hK _ ?_)
                                                  obtain ⟨c48, hX, hj⟩ := esc_e h13; subst hj; replace h12 := hX.trans (sel_r h12)
                                                  obtain rfl := nxt_e h12
                                                  refine c_ret (br4 _ (lr3 _ (br2 _ (jr1 _ (hret _ _ (hk [(1, ⟨43, 5, true, true, v2, [[int a1.Entities, int a1.Periods, lst 1 fI a1.Weights, lst 1 (fL 1 fI) a1.Methods, lst 1 (fL 1 fI) a1.Costs]]⟩), (2, ⟨3, 1, true, true, v3, [[int (a1.Weights.length : Int)]]⟩), (3, ⟨73, 1, true, true, v4, [[.fn (.func 48) [] []]]⟩), (5, ⟨91, 1, true, true, v26, [[.fn (.func 50) [] [.pt 2 v3 0 0]]]⟩), (6, ⟨73, 1, true, true, v37, [[.fn (.func 52) [] []]]⟩)]) (.tmp rfl .nil) (HK.le ⟨rfl, rfl, rfl, rfl, rfl, trivial⟩) ?_)))))
                                                  exact ⟨y9_1, (), rfl, rfl, rfl⟩
                                                · intro hb; subst hb; replace h13 := cf h13
                                                  refine c_skip ?_
                                                  refine c_nil (bn4 _ ?_)
                                                  refine c_reg ?_; intro K hK
                                                  obtain ⟨x49, e49, h13⟩ := bnd_e h13
                                                  refine st rfl rfl rfl (yv_add rfl rfl rfl e49) ?_
                                                  refine st rfl rfl rfl (yv_move rfl rfl) ?_
                                                  refine rg_nil (hK _ ?_)
                                                  refine c_nil (ln3 _ ⟨x49, (), h13, leH_kn ⟨⟨_, rfl, (.refl _)⟩, ⟨_, rfl, (.refl _)⟩, ⟨_, rfl, (.refl _)⟩, ⟨_, rfl, (.refl _)⟩, ⟨_, rfl, (.refl _)⟩, trivial⟩ ⟨⟨_, rfl, (.refl _)⟩, ⟨_, rfl, (.refl _)⟩, ⟨_, rfl, (.refl _)⟩, ⟨_, rfl, (.refl _)⟩, ⟨_, rfl, (.refl _)⟩, trivial⟩⟩)
                                            · intro hb; subst hb; replace h13 := cf h13
                                              refine c_exit (lx3 _ _ (bx2 _ ?_))
                                              obtain rfl := brk_e h13
                                              refine c_nil (jn1 _ ⟨(), (), rfl, leH_kn ⟨⟨_, rfl, (.refl _)⟩, trivial⟩ ⟨⟨_, rfl, (.refl _)⟩, ⟨_, rfl, (.refl _)⟩, ⟨_, rfl, (.refl _)⟩, ⟨_, rfl, (.refl _)⟩, ⟨_, rfl, (.refl _)⟩, trivial⟩⟩)
                                          · rintro _ _ rfl
                                            replace h12 := sel_l h12
                                            refine c_show ⟨kn [(4, int 0)], hk [(1, ⟨43, 5, true, true, v2, [[int a1.Entities, int a1.Periods, lst 1 fI a1.Weights, lst 1 (fL 1 fI) a1.Methods, lst 1 (fL 1 fI) a1.Costs]]⟩), (2, ⟨3, 1, true, true, v3, [[int (a1.Weights.length : Int)]]⟩), (3, ⟨73, 1, true, true, v4, [[.fn (.func 48) [] []]]⟩), (5, ⟨91, 1, true, true, v26, [[.fn (.func 50) [] [.pt 2 v3 0 0]]]⟩), (6, ⟨73, 1, true, true, v37, [[.fn (.func 52) [] []]]⟩)]⟩ ?_
                                            refine c_seq ?_
                                            refine c_reg ?_; intro K hK
                                            refine st rfl rfl rfl (yv_assign rfl rfl) ?_
                                            refine rg_nil (hK _ ?_)
                                            obtain rfl := nxt_e h12
                                            refine c_ret (hret _ _ (hk [(1, ⟨43, 5, true, true, v2, [[int a1.Entities, int a1.Periods, lst 1 fI a1.Weights, lst 1 (fL 1 fI) a1.Methods, lst 1 (fL 1 fI) a1.Costs]]⟩), (2, ⟨3, 1, true, true, v3, [[int (a1.Weights.length : Int)]]⟩), (3, ⟨73, 1, true, true, v4, [[.fn (.func 48) [] []]]⟩), (5, ⟨91, 1, true, true, v26, [[.fn (.func 50) [] [.pt 2 v3 0 0]]]⟩), (6, ⟨73, 1, true, true, v37, [[.fn (.func 52) [] []]]⟩)]) (.tmp rfl .nil) (HK.le ⟨rfl, rfl, rfl, rfl, rfl, trivial⟩) ?_)
                                            exact ⟨(-1), (), rfl, rfl, rfl⟩
                                        · rintro y _ ⟨y13_1, _, rfl, hc, rfl⟩
                                          subst hc
                                          obtain ⟨x50, e50, h11⟩ := bnd_e h11
                                          refine st rfl rfl rfl (yv_to (y := boo x50) (yv_geq rfl rfl rfl) (congrArg boo e50)) ?_
                                          refine st rfl rfl rfl (yv_assign rfl rfl) ?_
                                          refine rg_nil (hK _ ?_)
                                          obtain rfl := nxt_e h11
                                          refine c_ret (hret _ _ (hk [(1, ⟨43, 5, true, true, v2, [[int a1.Entities, int a1.Periods, lst 1 fI a1.Weights, lst 1 (fL 1 fI) a1.Methods, lst 1 (fL 1 fI) a1.Costs]]⟩), (2, ⟨3, 1, true, true, v3, [[int (a1.Weights.length : Int)]]⟩), (3, ⟨73, 1, true, true, v4, [[.fn (.func 48) [] []]]⟩), (5, ⟨91, 1, true, true, v26, [[.fn (.func 50) [] [.pt 2 v3 0 0]]]⟩), (6, ⟨73, 1, true, true, v37, [[.fn (.func 52) [] []]]⟩)]) (.tmp rfl .nil) (HK.le ⟨rfl, rfl, rfl, rfl, rfl, trivial⟩) ?_)
                                          exact ⟨x50, (), rfl, rfl, rfl⟩
                                      · rintro y _ ⟨y14_1, _, rfl, hc, rfl⟩
                                        subst hc
                                        obtain ⟨x51, e51, h10⟩ := bnd_e h10
                                        refine st rfl rfl rfl (yv_not rfl rfl e51) ?_
                                        refine st rfl rfl rfl (yv_pick rfl rfl (fun _ => rfl) (fun _ => rfl) rfl) ?_
                                        refine st rfl rfl rfl (yv_assign rfl rfl) ?_
                                        obtain rfl := nxt_e h10
                                        refine rg_nil (hK _ ⟨x51, (), rfl, leH_kn ⟨⟨_, rfl, (.refl _)⟩, trivial⟩ ⟨⟨_, rfl, (.refl _)⟩, ⟨_, rfl, (.refl _)⟩, ⟨_, rfl, (.refl _)⟩, ⟨_, rfl, (.refl _)⟩, trivial⟩⟩)
                                    · intro hb; subst hb; replace h10 := cf h10
                                      refine sk rfl rfl rfl ?_
                                      refine sk rfl rfl rfl ?_
                                      refine sk rfl rfl rfl ?_
                                      refine sk rfl rfl rfl ?_
                                      refine st rfl rfl rfl (yv_pick rfl rfl (fun _ => rfl) (fun _ => rfl) rfl) ?_
                                      refine st rfl rfl rfl (yv_assign rfl rfl) ?_
                                      obtain rfl := nxt_e h10
                                      refine rg_nil (hK _ ⟨false, (), rfl, leH_kn ⟨⟨_, rfl, (.refl _)⟩, trivial⟩ ⟨⟨_, rfl, (.refl _)⟩, ⟨_, rfl, (.refl _)⟩, ⟨_, rfl, (.refl _)⟩, ⟨_, rfl, (.refl _)⟩, trivial⟩⟩)
                                  · rintro y15_1 _ rfl
                                    refine c_show ⟨kn [(6, boo y15_1)], hk [(1, ⟨43, 5, true, true, v2, [[int a1.Entities, int a1.Periods, lst 1 fI a1.Weights, lst 1 (fL 1 fI) a1.Methods, lst 1 (fL 1 fI) a1.Costs]]⟩), (2, ⟨3, 1, true, true, v3, [[int (a1.Weights.length : Int)]]⟩), (3, ⟨73, 1, true, true, v4, [[.fn (.func 48) [] []]]⟩), (5, ⟨91, 1, true, true, v26, [[.fn (.func 50) [] [.pt 2 v3 0 0]]]⟩)]⟩ ?_
                                    obtain rfl := nxt_e h9
                                    refine c_ret (hret _ _ (hk [(1, ⟨43, 5, true, true, v2, [[int a1.Entities, int a1.Periods, lst 1 fI a1.Weights, lst 1 (fL 1 fI) a1.Methods, lst 1 (fL 1 fI) a1.Costs]]⟩), (2, ⟨3, 1, true, true, v3, [[int (a1.Weights.length : Int)]]⟩), (3, ⟨73, 1, true, true, v4, [[.fn (.func 48) [] []]]⟩), (5, ⟨91, 1, true, true, v26, [[.fn (.func 50) [] [.pt 2 v3 0 0]]]⟩)]) (.tmp rfl .nil) (HK.le ⟨rfl, rfl, rfl, rfl, trivial⟩) ?_)
                                    exact ⟨y15_1, (), rfl, rfl, rfl⟩
                                · rintro y _ ⟨y16_1, _, rfl, hc, rfl⟩
                                  subst hc
                                  refine st rfl rfl rfl (yv_assign rfl rfl) ?_
                                  refine rg_nil (hK _ ?_)
                                  obtain rfl := nxt_e h8
                                  refine c_ret (hret _ _ (hk [(1, ⟨43, 5, true, true, v2, [[int a1.Entities, int a1.Periods, lst 1 fI a1.Weights, lst 1 (fL 1 fI) a1.Methods, lst 1 (fL 1 fI) a1.Costs]]⟩), (2, ⟨3, 1, true, true, v3, [[int (a1.Weights.length : Int)]]⟩), (3, ⟨73, 1, true, true, v4, [[.fn (.func 48) [] []]]⟩), (5, ⟨91, 1, true, true, v26, [[.fn (.func 50) [] [.pt 2 v3 0 0]]]⟩)]) (.tmp rfl .nil) (HK.le ⟨rfl, rfl, rfl, rfl, trivial⟩) ?_)
                                  exact ⟨y16_1, (), rfl, rfl, rfl⟩
                              · rintro y _ ⟨y17_1, _, rfl, hc, rfl⟩
                                subst hc
                                obtain ⟨x52, e52, h7⟩ := bnd_e h7
                                refine st rfl rfl rfl (yv_not rfl rfl e52) ?_
                                refine st rfl rfl rfl (yv_assign rfl rfl) ?_
                                refine rg_nil (hK _ ?_)
                                obtain rfl := nxt_e h7
                                refine c_ret (hret _ _ (hk [(1, ⟨43, 5, true, true, v2, [[int a1.Entities, int a1.Periods, lst 1 fI a1.Weights, lst 1 (fL 1 fI) a1.Methods, lst 1 (fL 1 fI) a1.Costs]]⟩), (2, ⟨3, 1, true, true, v3, [[int (a1.Weights.length : Int)]]⟩), (3, ⟨73, 1, true, true, v4, [[.fn (.func 48) [] []]]⟩), (5, ⟨91, 1, true, true, v26, [[.fn (.func 50) [] [.pt 2 v3 0 0]]]⟩)]) (.tmp rfl .nil) (HK.le ⟨rfl, rfl, rfl, rfl, trivial⟩) ?_)
                                exact ⟨x52, (), rfl, rfl, rfl⟩
                            · rintro y _ ⟨y19_1, _, rfl, hc, rfl⟩
                              subst hc
                              refine rg_nil (hK _ ?_)
                              refine c_if (b := y19_1) rfl ?_ ?_
                              · intro hb; subst hb; replace h6 := ct h6
                                refine c_seq ?_
                                refine c_reg ?_; intro K hK
                                refine st rfl rfl rfl (yv_move rfl rfl) ?_
                                refine st rfl rfl rfl (yv_assign rfl rfl) ?_
                                refine rg_nil (hK _ ?_)
                                obtain ⟨c53, hX, hj⟩ := esc_e h6; subst hj; replace h5 := hX.trans (sel_r h5)
                                obtain rfl := nxt_e h5
                                refine c_ret (br4 _ (lr3 _ (br2 _ (jr1 _ (hret _ _ (hk [(1, ⟨43, 5, true, true, v2, [[int a1.Entities, int a1.Periods, lst 1 fI a1.Weights, lst 1 (fL 1 fI) a1.Methods, lst 1 (fL 1 fI) a1.Costs]]⟩), (2, ⟨3, 1, true, true, v3, [[int (a1.Weights.length : Int)]]⟩), (3, ⟨73, 1, true, true, v4, [[.fn (.func 48) [] []]]⟩), (5, ⟨91, 1, true, true, v26, [[.fn (.func 50) [] [.pt 2 v3 0 0]]]⟩)]) (.tmp rfl .nil) (HK.le ⟨rfl, rfl, rfl, rfl, trivial⟩) ?_)))))
                                exact ⟨y8_1, (), rfl, rfl, rfl⟩
                              · intro hb; subst hb; replace h6 := cf h6
                                refine c_skip ?_
                                refine c_nil (bn4 _ ?_)
                                refine c_reg ?_; intro K hK
                                obtain ⟨x54, e54, h6⟩ := bnd_e h6
                                refine st rfl rfl rfl (yv_add rfl rfl rfl e54) ?_
                                refine st rfl rfl rfl (yv_move rfl rfl) ?_
                                refine rg_nil (hK _ ?_)
                                refine c_nil (ln3 _ ⟨x54, (), h6, leH_kn ⟨⟨_, rfl, (.refl _)⟩, ⟨_, rfl, (.refl _)⟩, ⟨_, rfl, (.refl _)⟩, ⟨_, rfl, (.refl _)⟩, ⟨_, rfl, (.refl _)⟩, trivial⟩ ⟨⟨_, rfl, (.refl _)⟩, ⟨_, rfl, (.refl _)⟩, ⟨_, rfl, (.refl _)⟩, ⟨_, rfl, (.refl _)⟩, trivial⟩⟩)
                          · intro hb; subst hb; replace h6 := cf h6
                            refine c_exit (lx3 _ _ (bx2 _ ?_))
                            obtain rfl := brk_e h6
                            refine c_nil (jn1 _ ⟨(), (), rfl, leH_kn ⟨⟨_, rfl, (.refl _)⟩, trivial⟩ ⟨⟨_, rfl, (.refl _)⟩, ⟨_, rfl, (.refl _)⟩, ⟨_, rfl, (.refl _)⟩, ⟨_, rfl, (.refl _)⟩, trivial⟩⟩)
                        · rintro _ _ rfl
                          replace h5 := sel_l h5
                          refine c_show ⟨kn [(4, int 0)], hk [(1, ⟨43, 5, true, true, v2, [[int a1.Entities, int a1.Periods, lst 1 fI a1.Weights, lst 1 (fL 1 fI) a1.Methods, lst 1 (fL 1 fI) a1.Costs]]⟩), (2, ⟨3, 1, true, true, v3, [[int (a1.Weights.length : Int)]]⟩), (3, ⟨73, 1, true, true, v4, [[.fn (.func 48) [] []]]⟩), (5, ⟨91, 1, true, true, v26, [[.fn (.func 50) [] [.pt 2 v3 0 0]]]⟩)]⟩ ?_
                          refine c_seq ?_
                          refine c_reg ?_; intro K hK
                          refine st rfl rfl rfl (yv_assign rfl rfl) ?_
                          refine rg_nil (hK _ ?_)
                          obtain rfl := nxt_e h5
                          refine c_ret (hret _ _ (hk [(1, ⟨43, 5, true, true, v2, [[int a1.Entities, int a1.Periods, lst 1 fI a1.Weights, lst 1 (fL 1 fI) a1.Methods, lst 1 (fL 1 fI) a1.Costs]]⟩), (2, ⟨3, 1, true, true, v3, [[int (a1.Weights.length : Int)]]⟩), (3, ⟨73, 1, true, true, v4, [[.fn (.func 48) [] []]]⟩), (5, ⟨91, 1, true, true, v26, [[.fn (.func 50) [] [.pt 2 v3 0 0]]]⟩)]) (.tmp rfl .nil) (HK.le ⟨rfl, rfl, rfl, rfl, trivial⟩) ?_)
                          exact ⟨(-1), (), rfl, rfl, rfl⟩
                      · rintro y _ ⟨y21_1, _, rfl, hc, rfl⟩
                        subst hc
                        obtain ⟨x55, e55, h4⟩ := bnd_e h4
                        refine st rfl rfl rfl (yv_to (y := boo x55) (yv_geq rfl rfl rfl) (congrArg boo e55)) ?_
                        refine st rfl rfl rfl (yv_assign rfl rfl) ?_
                        refine rg_nil (hK _ ?_)
                        obtain rfl := nxt_e h4
                        refine c_ret (hret _ _ (hk [(1, ⟨43, 5, true, true, v2, [[int a1.Entities, int a1.Periods, lst 1 fI a1.Weights, lst 1 (fL 1 fI) a1.Methods, lst 1 (fL 1 fI) a1.Costs]]⟩), (2, ⟨3, 1, true, true, v3, [[int (a1.Weights.length : Int)]]⟩), (3, ⟨73, 1, true, true, v4, [[.fn (.func 48) [] []]]⟩), (5, ⟨91, 1, true, true, v26, [[.fn (.func 50) [] [.pt 2 v3 0 0]]]⟩)]) (.tmp rfl .nil) (HK.le ⟨rfl, rfl, rfl, rfl, trivial⟩) ?_)
                        exact ⟨x55, (), rfl, rfl, rfl⟩
                    · rintro y _ ⟨y22_1, _, rfl, hc, rfl⟩
                      subst hc
                      obtain ⟨x56, e56, h3⟩ := bnd_e h3
                      refine st rfl rfl rfl (yv_not rfl rfl e56) ?_
                      refine st rfl rfl rfl (yv_pick rfl rfl (fun _ => rfl) (fun _ => rfl) rfl) ?_
                      refine st rfl rfl rfl (yv_assign rfl rfl) ?_
                      obtain rfl := nxt_e h3
                      refine rg_nil (hK _ ⟨x56, (), rfl, leH_kn ⟨⟨_, rfl, (.refl _)⟩, trivial⟩ ⟨⟨_, rfl, (.refl _)⟩, ⟨_, rfl, (.refl _)⟩, ⟨_, rfl, (.refl _)⟩, trivial⟩⟩)
                  · intro hb; subst hb; replace h3 := cf h3
                    refine sk rfl rfl rfl ?_
                    refine sk rfl rfl rfl ?_
                    refine sk rfl rfl rfl ?_
                    refine sk rfl rfl rfl ?_
                    refine st rfl rfl rfl (yv_pick rfl rfl (fun _ => rfl) (fun _ => rfl) rfl) ?_
                    refine st rfl rfl rfl (yv_assign rfl rfl) ?_
                    obtain rfl := nxt_e h3
                    refine rg_nil (hK _ ⟨false, (), rfl, leH_kn ⟨⟨_, rfl, (.refl _)⟩, trivial⟩ ⟨⟨_, rfl, (.refl _)⟩, ⟨_, rfl, (.refl _)⟩, ⟨_, rfl, (.refl _)⟩, trivial⟩⟩)
                · rintro y23_1 _ rfl
                  refine c_show ⟨kn [(6, boo y23_1)], hk [(1, ⟨43, 5, true, true, v2, [[int a1.Entities, int a1.Periods, lst 1 fI a1.Weights, lst 1 (fL 1 fI) a1.Methods, lst 1 (fL 1 fI) a1.Costs]]⟩), (2, ⟨3, 1, true, true, v3, [[int (a1.Weights.length : Int)]]⟩), (3, ⟨73, 1, true, true, v4, [[.fn (.func 48) [] []]]⟩)]⟩ ?_
                  obtain rfl := nxt_e h2
                  refine c_ret (hret _ _ (hk [(1, ⟨43, 5, true, true, v2, [[int a1.Entities, int a1.Periods, lst 1 fI a1.Weights, lst 1 (fL 1 fI) a1.Methods, lst 1 (fL 1 fI) a1.Costs]]⟩), (2, ⟨3, 1, true, true, v3, [[int (a1.Weights.length : Int)]]⟩), (3, ⟨73, 1, true, true, v4, [[.fn (.func 48) [] []]]⟩)]) (.tmp rfl .nil) (HK.le ⟨rfl, rfl, rfl, trivial⟩) ?_)
                  exact ⟨y23_1, (), rfl, rfl, rfl⟩
              · rintro y _ ⟨y24_1, _, rfl, hc, rfl⟩
                subst hc
                refine st rfl rfl rfl (yv_pick rfl rfl (fun _ => rfl) (fun _ => rfl) rfl) ?_
                refine st rfl rfl rfl (yv_move rfl rfl) ?_
                refine scases 39 rfl ?_ ?_
                · intro hb; subst hb; replace h1 := ct h1
                  refine st rfl rfl rfl (yv_fieldAddr rfl fo43_4 rfl (.pt rfl rfl rfl) (.pt _ _ _ _ _)) ?_
                  refine st rfl rfl rfl (yv_load rfl sh41 rfl (.pt rfl rfl rfl) rfl) ?_
                  refine st rfl rfl rfl (yv_fieldAddr rfl fo43_0 rfl (.pt rfl rfl rfl) (.pt _ _ _ _ _)) ?_
                  refine st rfl rfl rfl (yv_load rfl sh3 rfl (.pt rfl rfl rfl) rfl) ?_
                  refine st rfl rfl rfl (yv_move rfl rfl) ?_
                  obtain ⟨j57, h2, h1⟩ := bind_e h1
                  refine se (Out := fun y H' => (∃ (a : Bool) (k : Unit), a = j57 ∧ y = boo a ∧ H' = hk [(1, ⟨43, 5, true, true, v2, [[int a1.Entities, int a1.Periods, lst 1 fI a1.Weights, lst 1 (fL 1 fI) a1.Methods, lst 1 (fL 1 fI) a1.Costs]]⟩), (2, ⟨3, 1, true, true, v3, [[int (a1.Weights.length : Int)]]⟩), (3, ⟨73, 1, true, true, v4, [[.fn (.func 48) [] []]]⟩)])) rfl rfl rfl (yl_call rfl rfl (.cons rfl (.cons rfl (.cons rfl .nil))) cal54 ?_) ?_
                  · refine pc_of' (c := _) Try.func54 rfl rfl ?_; intro Q hret hnorm
                    refine c_seq ?_
                    refine c_reg ?_; intro K hK
                    refine se rfl rfl rfl (yl_box 7 .any rfl rfl rfl) ?_; rintro _ _ ⟨v58, -, rfl, rfl⟩
                    refine st rfl rfl rfl (yv_assign rfl rfl) ?_
                    refine rg_nil (hK _ ?_)
                    refine c_seq ?_
                    obtain ⟨j59, h3, h2⟩ := bind_e h2
                    refine c_regL (fun (a : Bool) (k : Unit) => ⟨kn [(6, boo a)], hk [(1, ⟨43, 5, true, true, v2, [[int a1.Entities, int a1.Periods, lst 1 fI a1.Weights, lst 1 (fL 1 fI) a1.Methods, lst 1 (fL 1 fI) a1.Costs]]⟩), (2, ⟨3, 1, true, true, v3, [[int (a1.Weights.length : Int)]]⟩), (3, ⟨73, 1, true, true, v4, [[.fn (.func 48) [] []]]⟩)]⟩) (fun a => a = j59) ?_ ?_
                    · intro K hK
                      refine st rfl rfl rfl (yv_move rfl rfl) ?_
                      refine st rfl rfl rfl (yv_len_sl rfl Try.underlying41 rfl (lst_len _)) ?_
                      refine st rfl rfl rfl (yv_move rfl rfl) ?_
                      obtain ⟨x60, e60, h3⟩ := bnd_e h3
                      refine st rfl rfl rfl (yv_to (y := boo x60) (yv_eql rfl rfl rfl) (congrArg boo e60)) ?_
                      refine st rfl rfl rfl (yv_move rfl rfl) ?_
                      refine scases 11 rfl ?_ ?_
                      · intro hb; subst hb; replace h3 := ct h3
                        refine st rfl rfl rfl (yv_move rfl rfl) ?_
                        refine st rfl rfl rfl (yv_makeFunc rfl .nil (.cons rfl .nil)) ?_
                        obtain ⟨j61, h4, h3⟩ := bind_e h3
                        refine se (Out := fun y H' => (∃ (a : Bool) (k : Unit), a = j61 ∧ y = boo a ∧ H' = hk [(1, ⟨43, 5, true, true, v2, [[int a1.Entities, int a1.Periods, lst 1 fI a1.Weights, lst 1 (fL 1 fI) a1.Methods, lst 1 (fL 1 fI) a1.Costs]]⟩), (2, ⟨3, 1, true, true, v3, [[int (a1.Weights.length : Int)]]⟩), (3, ⟨73, 1, true, true, v4, [[.fn (.func 48) [] []]]⟩), (7, ⟨91, 1, true, true, v58, [[.fn (.func 53) [] [.pt 2 v3 0 0, .pt 3 v4 0 0]]]⟩)])) rfl rfl rfl (yl_call rfl rfl (.cons rfl (.cons rfl .nil)) cal66 ?_) ?_
                        · refine pc_of' (c := _) Try.func66 rfl rfl ?_; intro Q hret hnorm
                          refine c_seq ?_
                          refine c_reg ?_; intro K hK
                          refine st rfl rfl rfl (yv_assign rfl rfl) ?_
                          refine rg_nil (hK _ ?_)
                          refine c_seq ?_
                          refine c_reg ?_; intro K hK
                          refine st rfl rfl rfl (yv_move rfl rfl) ?_
                          refine st rfl rfl rfl (yv_move rfl rfl) ?_
                          obtain ⟨j62, h5, h4⟩ := bind_e h4
                          refine se (Out := fun y H' => (∃ (a : Int) (k : Unit), a = j62 ∧ y = int a ∧ H' = hk [(1, ⟨43, 5, true, true, v2, [[int a1.Entities, int a1.Periods, lst 1 fI a1.Weights, lst 1 (fL 1 fI) a1.Methods, lst 1 (fL 1 fI) a1.Costs]]⟩), (2, ⟨3, 1, true, true, v3, [[int (a1.Weights.length : Int)]]⟩), (3, ⟨73, 1, true, true, v4, [[.fn (.func 48) [] []]]⟩), (7, ⟨91, 1, true, true, v58, [[.fn (.func 53) [] [.pt 2 v3 0 0, .pt 3 v4 0 0]]]⟩)])) rfl rfl rfl (yl_call rfl rfl (.cons rfl (.cons rfl .nil)) cal73 ?_) ?_
                          · refine pc_of' (c := _) Try.func73 rfl rfl ?_; intro Q hret hnorm
                            refine c_seq ?_
                            refine c_reg ?_; intro K hK
                            refine st rfl rfl rfl (yv_assign rfl rfl) ?_
                            refine rg_nil (hK _ ?_)
                            refine c_seq ?_
                            refine c_seq ?_
                            refine c_reg ?_; intro K hK
                            refine st rfl rfl rfl (yv_move rfl rfl) ?_
                            refine st rfl rfl rfl (yv_len_sl rfl Try.underlying41 rfl (lst_len _)) ?_
                            refine st rfl rfl rfl (yv_move rfl rfl) ?_
                            refine rg_nil (hK _ ?_)
                            obtain ⟨j63, h6, h5⟩ := bind_e h5
                            refine c_joinL (fun (a : Unit) (k : Unit) => ⟨kn [(4, int 0)], hk [(1, ⟨43, 5, true, true, v2, [[int a1.Entities, int a1.Periods, lst 1 fI a1.Weights, lst 1 (fL 1 fI) a1.Methods, lst 1 (fL 1 fI) a1.Costs]]⟩), (2, ⟨3, 1, true, true, v3, [[int (a1.Weights.length : Int)]]⟩), (3, ⟨73, 1, true, true, v4, [[.fn (.func 48) [] []]]⟩), (7, ⟨91, 1, true, true, v58, [[.fn (.func 53) [] [.pt 2 v3 0 0, .pt 3 v4 0 0]]]⟩)]⟩) (fun a => j63 = .inl a) ?_ ?_
                            · intro Q1 jn1 jx1 jr1
                              refine c_block ?_; intro Q2 bn2 bx2 br2 bo2
                              refine c_loopD (fun (a : Int) (k : Unit) => ⟨kn [(0, lst 1 (fL 1 fI) a1.Costs), (1, .fn (.func 67) [] [.pt 7 v58 0 0]), (4, int 0), (7, int (a1.Costs.length : Int)), (8, int a)], hk [(1, ⟨43, 5, true, true, v2, [[int a1.Entities, int a1.Periods, lst 1 fI a1.Weights, lst 1 (fL 1 fI) a1.Methods, lst 1 (fL 1 fI) a1.Costs]]⟩), (2, ⟨3, 1, true, true, v3, [[int (a1.Weights.length : Int)]]⟩), (3, ⟨73, 1, true, true, v4, [[.fn (.func 48) [] []]]⟩), (7, ⟨91, 1, true, true, v58, [[.fn (.func 53) [] [.pt 2 v3 0 0, .pt 3 v4 0 0]]]⟩)]⟩) (fun n (a : Int) => d_master_Check_L3 a1 n a) (0 : Int) () h6 (fun _ => rfl)
                                (leH_kn ⟨⟨_, rfl, (.refl _)⟩, ⟨_, rfl, (.refl _)⟩, ⟨_, rfl, (.refl _)⟩, ⟨_, rfl, (.refl _)⟩, ⟨_, rfl, (.refl _)⟩, trivial⟩ ⟨⟨_, rfl, (.refl _)⟩, ⟨_, rfl, (.refl _)⟩, ⟨_, rfl, (.refl _)⟩, ⟨_, rfl, (.refl _)⟩, trivial⟩) ?_
                              rintro n y25_1 _ hm h6 Q3 ln3 lx3 lr3
                              replace h6 : d_master_Check_L3 a1 (n + 1) y25_1 = some _ := h6
                              rw [d_master_Check_L3] at h6
                              refine c_show ⟨kn [(0, lst 1 (fL 1 fI) a1.Costs), (1, .fn (.func 67) [] [.pt 7 v58 0 0]), (4, int 0), (7, int (a1.Costs.length : Int)), (8, int y25_1)], hk [(1, ⟨43, 5, true, true, v2, [[int a1.Entities, int a1.Periods, lst 1 fI a1.Weights, lst 1 (fL 1 fI) a1.Methods, lst 1 (fL 1 fI) a1.Costs]]⟩), (2, ⟨3, 1, true, true, v3, [[int (a1.Weights.length : Int)]]⟩), (3, ⟨73, 1, true, true, v4, [[.fn (.func 48) [] []]]⟩), (7, ⟨91, 1, true, true, v58, [[.fn (.func 53) [] [.pt 2 v3 0 0, .pt 3 v4 0 0]]]⟩)]⟩ ?_
                              refine c_seq ?_
                              refine c_reg ?_; intro K hK
                              obtain ⟨x64, e64, h6⟩ := bnd_e h6
                              refine st rfl rfl rfl (yv_to (y := boo x64) (yv_lss rfl rfl rfl) (congrArg boo e64)) ?_
                              refine rg_nil (hK _ ?_)
                              refine c_seq ?_
                              refine c_if (b := x64) rfl ?_ ?_
                              · intro hb; subst hb; replace h6 := ct h6
                                refine c_skip ?_
                                refine c_seq ?_
                                refine c_block ?_; intro Q4 bn4 bx4 br4 bo4
                                refine c_seq ?_
                                refine c_reg ?_; intro K hK
                                refine st rfl rfl rfl (yv_move rfl rfl) ?_
                                refine st rfl rfl rfl (yv_assign rfl rfl) ?_
                                refine rg_nil (hK _ ?_)
                                refine c_seq ?_
                                refine c_reg ?_; intro K hK
                                refine st rfl rfl rfl (yv_move rfl rfl) ?_
                                refine st rfl rfl rfl (yv_move rfl rfl) ?_
                                refine st rfl rfl rfl (yv_move rfl rfl) ?_
                                obtain ⟨x65, e65, h6⟩ := bind_e h6
                                refine st rfl rfl rfl (yv_ixT rfl Try.underlying41 sh22 rfl rfl e65) ?_
                                refine st rfl rfl rfl (yv_load rfl sh22 rfl (.pp _) rfl) ?_
                                obtain ⟨j66, h7, h6⟩ := bind_e h6
                                refine se (Out := fun y H' => (∃ (a : Bool) (k : Unit), a = j66 ∧ y = boo a ∧ H' = hk [(1, ⟨43, 5, true, true, v2, [[int a1.Entities, int a1.Periods, lst 1 fI a1.Weights, lst 1 (fL 1 fI) a1.Methods, lst 1 (fL 1 fI) a1.Costs]]⟩), (2, ⟨3, 1, true, true, v3, [[int (a1.Weights.length : Int)]]⟩), (3, ⟨73, 1, true, true, v4, [[.fn (.func 48) [] []]]⟩), (7, ⟨91, 1, true, true, v58, [[.fn (.func 53) [] [.pt 2 v3 0 0, .pt 3 v4 0 0]]]⟩)])) rfl rfl rfl (yl_call rfl rfl (.cons rfl .nil) cal67 ?_) ?_
                                · refine pc_of' (c := _) Try.func67 rfl rfl ?_; intro Q hret hnorm
                                  refine c_seq ?_
                                  refine c_reg ?_; intro K hK
                                  refine st rfl rfl rfl (yv_assign rfl rfl) ?_
                                  refine rg_nil (hK _ ?_)
                                  refine c_seq ?_
                                  refine c_reg ?_; intro K hK
                                  refine st rfl rfl rfl (yv_load rfl sh91 rfl (.pt rfl rfl rfl) rfl) ?_
                                  refine st rfl rfl rfl (yv_move rfl rfl) ?_
                                  obtain ⟨j67, h8, h7⟩ := bind_e h7
                                  refine se (Out := fun y H' => (∃ (a : Bool) (k : Unit), a = j67 ∧ y = boo a ∧ H' = hk [(1, ⟨43, 5, true, true, v2, [[int a1.Entities, int a1.Periods, lst 1 fI a1.Weights, lst 1 (fL 1 fI) a1.Methods, lst 1 (fL 1 fI) a1.Costs]]⟩), (2, ⟨3, 1, true, true, v3, [[int (a1.Weights.length : Int)]]⟩), (3, ⟨73, 1, true, true, v4, [[.fn (.func 48) [] []]]⟩), (7, ⟨91, 1, true, true, v58, [[.fn (.func 53) [] [.pt 2 v3 0 0, .pt 3 v4 0 0]]]⟩)])) rfl rfl rfl (yl_call rfl rfl (.cons rfl .nil) cal53 ?_) ?_
                                  · refine pc_of' (c := _) Try.func53 rfl rfl ?_; intro Q hret hnorm
                                    refine c_seq ?_
                                    refine c_reg ?_; intro K hK
                                    refine st rfl rfl rfl (yv_assign rfl rfl) ?_
                                    refine rg_nil (hK _ ?_)
                                    refine c_seq ?_
                                    refine c_reg ?_; intro K hK
                                    refine st rfl rfl rfl (yv_move rfl rfl) ?_
                                    refine st rfl rfl rfl (yv_load rfl sh3 rfl (.pt rfl rfl rfl) rfl) ?_
                                    refine st rfl rfl rfl (yv_load rfl sh73 rfl (.pt rfl rfl rfl) rfl) ?_
                                    obtain ⟨j68, h9, h8⟩ := bind_e h8
                                    refine se (Out := fun y H' => (∃ (a : Bool) (k : Unit), a = j68 ∧ y = boo a ∧ H' = hk [(1, ⟨43, 5, true, true, v2, [[int a1.Entities, int a1.Periods, lst 1 fI a1.Weights, lst 1 (fL 1 fI) a1.Methods, lst 1 (fL 1 fI) a1.Costs]]⟩), (2, ⟨3, 1, true, true, v3, [[int (a1.Weights.length : Int)]]⟩), (3, ⟨73, 1, true, true, v4, [[.fn (.func 48) [] []]]⟩), (7, ⟨91, 1, true, true, v58, [[.fn (.func 53) [] [.pt 2 v3 0 0, .pt 3 v4 0 0]]]⟩)])) rfl rfl rfl (yl_call rfl rfl (.cons rfl (.cons rfl (.cons rfl .nil))) cal51 ?_) ?_
                                    · refine pc_of' (c := _) Try.func51 rfl rfl ?_; intro Q hret hnorm
                                      refine c_seq ?_
                                      refine c_reg ?_; intro K hK
                                      refine se rfl rfl rfl (yl_box 8 .any rfl rfl rfl) ?_; rintro _ _ ⟨v69, -, rfl, rfl⟩
                                      refine st rfl rfl rfl (yv_assign rfl rfl) ?_
                                      refine rg_nil (hK _ ?_)
                                      refine c_seq ?_
                                      obtain ⟨j70, h10, h9⟩ := bind_e h9
                                      refine c_regL (fun (a : Bool) (k : Unit) => ⟨kn [(6, boo a)], hk [(1, ⟨43, 5, true, true, v2, [[int a1.Entities, int a1.Periods, lst 1 fI a1.Weights, lst 1 (fL 1 fI) a1.Methods, lst 1 (fL 1 fI) a1.Costs]]⟩), (2, ⟨3, 1, true, true, v3, [[int (a1.Weights.length : Int)]]⟩), (3, ⟨73, 1, true, true, v4, [[.fn (.func 48) [] []]]⟩), (7, ⟨91, 1, true, true, v58, [[.fn (.func 53) [] [.pt 2 v3 0 0, .pt 3 v4 0 0]]]⟩)]⟩) (fun a => a = j70) ?_ ?_
                                      · intro K hK
                                        refine st rfl rfl rfl (yv_move rfl rfl) ?_
                                        refine st rfl rfl rfl (yv_len_sl rfl Try.underlying22 rfl (lst_len _)) ?_
                                        refine st rfl rfl rfl (yv_move rfl rfl) ?_
                                        obtain ⟨x71, e71, h10⟩ := bnd_e h10
                                        refine st rfl rfl rfl (yv_to (y := boo x71) (yv_eql rfl rfl rfl) (congrArg boo e71)) ?_
                                        refine st rfl rfl rfl (yv_move rfl rfl) ?_
                                        refine scases 11 rfl ?_ ?_
                                        · intro hb; subst hb; replace h10 := ct h10
                                          refine st rfl rfl rfl (yv_move rfl rfl) ?_
                                          refine st rfl rfl rfl (yv_makeFunc rfl .nil (.cons rfl .nil)) ?_
                                          obtain ⟨j72, h11, h10⟩ := bind_e h10
                                          refine se (Out := fun y H' => (∃ (a : Bool) (k : Unit), a = j72 ∧ y = boo a ∧ H' = hk [(1, ⟨43, 5, true, true, v2, [[int a1.Entities, int a1.Periods, lst 1 fI a1.Weights, lst 1 (fL 1 fI) a1.Methods, lst 1 (fL 1 fI) a1.Costs]]⟩), (2, ⟨3, 1, true, true, v3, [[int (a1.Weights.length : Int)]]⟩), (3, ⟨73, 1, true, true, v4, [[.fn (.func 48) [] []]]⟩), (7, ⟨91, 1, true, true, v58, [[.fn (.func 53) [] [.pt 2 v3 0 0, .pt 3 v4 0 0]]]⟩), (8, ⟨73, 1, true, true, v69, [[.fn (.func 48) [] []]]⟩)])) rfl rfl rfl (yl_call rfl rfl (.cons rfl (.cons rfl .nil)) cal64 ?_) ?_
                                          · refine pc_of' (c := _) Try.func64 rfl rfl ?_; intro Q hret hnorm
                                            refine c_seq ?_
                                            refine c_reg ?_; intro K hK
                                            refine st rfl rfl rfl (yv_assign rfl rfl) ?_
                                            refine rg_nil (hK _ ?_)
                                            refine c_seq ?_
                                            refine c_reg ?_; intro K hK
                                            refine st rfl rfl rfl (yv_move rfl rfl) ?_
                                            refine st rfl rfl rfl (yv_move rfl rfl) ?_
                                            obtain ⟨j73, h12, h11⟩ := bind_e h11
                                            refine se (Out := fun y H' => (∃ (a : Int) (k : Unit), a = j73 ∧ y = int a ∧ H' = hk [(1, ⟨43, 5, true, true, v2, [[int a1.Entities, int a1.Periods, lst 1 fI a1.Weights, lst 1 (fL 1 fI) a1.Methods, lst 1 (fL 1 fI) a1.Costs]]⟩), (2, ⟨3, 1, true, true, v3, [[int (a1.Weights.length : Int)]]⟩), (3, ⟨73, 1, true, true, v4, [[.fn (.func 48) [] []]]⟩), (7, ⟨91, 1, true, true, v58, [[.fn (.func 53) [] [.pt 2 v3 0 0, .pt 3 v4 0 0]]]⟩), (8, ⟨73, 1, true, true, v69, [[.fn (.func 48) [] []]]⟩)])) rfl rfl rfl (yl_call rfl rfl (.cons rfl (.cons rfl .nil)) cal72 ?_) ?_
                                            · refine pc_of' (c := _) Try.func72 rfl rfl ?_; intro Q hret hnorm
                                              refine c_seq ?_
                                              refine c_reg ?_; intro K hK
                                              refine st rfl rfl rfl (yv_assign rfl rfl) ?_
                                              refine rg_nil (hK _ ?_)
                                              refine c_seq ?_
                                              refine c_seq ?_
                                              refine c_reg ?_; intro K hK
                                              refine st rfl rfl rfl (yv_move rfl rfl) ?_
                                              refine st rfl rfl rfl (yv_len_sl rfl Try.underlying22 rfl (lst_len _)) ?_
                                              refine st rfl rfl rfl (yv_move rfl rfl) ?_
                                              refine rg_nil (hK _ ?_)
                                              obtain ⟨j74, h13, h12⟩ := bind_e h12
                                              refine c_joinL (fun (a : Unit) (k : Unit) => ⟨kn [(4, int 0)], hk [(1, ⟨43, 5, true, true, v2, [[int a1.Entities, int a1.Periods, lst 1 fI a1.Weights, lst 1 (fL 1 fI) a1.Methods, lst 1 (fL 1 fI) a1.Costs]]⟩), (2, ⟨3, 1, true, true, v3, [[int (a1.Weights.length : Int)]]⟩), (3, ⟨73, 1, true, true, v4, [[.fn (.func 48) [] []]]⟩), (7, ⟨91, 1, true, true, v58, [[.fn (.func 53) [] [.pt 2 v3 0 0, .pt 3 v4 0 0]]]⟩), (8, ⟨73, 1, true, true, v69, [[.fn (.func 48) [] []]]⟩)]⟩) (fun a => j74 = .inl a) ?_ ?_
                                              · intro Q1 jn1 jx1 jr1
                                                refine c_block ?_; intro Q2 bn2 bx2 br2 bo2
                                                refine c_loopD (fun (a : Int) (k : Unit) => ⟨kn [(0, lst 1 fI x65), (1, .fn (.func 65) [] [.pt 8 v69 0 0]), (4, int 0), (7, int (x65.length : Int)), (8, int a)], hk [(1, ⟨43, 5, true, true, v2, [[int a1.Entities, int a1.Periods, lst 1 fI a1.Weights, lst 1 (fL 1 fI) a1.Methods, lst 1 (fL 1 fI) a1.Costs]]⟩), (2, ⟨3, 1, true, true, v3, [[int (a1.Weights.length : Int)]]⟩), (3, ⟨73, 1, true, true, v4, [[.fn (.func 48) [] []]]⟩), (7, ⟨91, 1, true, true, v58, [[.fn (.func 53) [] [.pt 2 v3 0 0, .pt 3 v4 0 0]]]⟩), (8, ⟨73, 1, true, true, v69, [[.fn (.func 48) [] []]]⟩)]⟩) (fun n (a : Int) => d_master_Check_L4 x65 n a) (0 : Int) () h13 (fun _ => rfl)
                                                  (leH_kn ⟨⟨_, rfl, (.refl _)⟩, ⟨_, rfl, (.refl _)⟩, ⟨_, rfl, (.refl _)⟩, ⟨_, rfl, (.refl _)⟩, ⟨_, rfl, (.refl _)⟩, trivial⟩ ⟨⟨_, rfl, (.refl _)⟩, ⟨_, rfl, (.refl _)⟩, ⟨_, rfl, (.refl _)⟩, ⟨_, rfl, (.refl _)⟩, ⟨_, rfl, (.refl _)⟩, trivial⟩) ?_
                                                rintro n y26_1 _ hm h13 Q3 ln3 lx3 lr3
                                                replace h13 : d_master_Check_L4 x65 (n + 1) y26_1 = some _ := h13
                                                rw [d_master_Check_L4] at h13
                                                refine c_show ⟨kn [(0, lst 1 fI x65), (1, .fn (.func 65) [] [.pt 8 v69 0 0]), (4, int 0), (7, int (x65.length : Int)), (8, int y26_1)], hk [(1, ⟨43, 5, true, true, v2, [[int a1.Entities, int a1.Periods, lst 1 fI a1.Weights, lst 1 (fL 1 fI) a1.Methods, lst 1 (fL 1 fI) a1.Costs]]⟩), (2, ⟨3, 1, true, true, v3, [[int (a1.Weights.length : Int)]]⟩), (3, ⟨73, 1, true, true, v4, [[.fn (.func 48) [] []]]⟩), (7, ⟨91, 1, true, true, v58, [[.fn (.func 53) [] [.pt 2 v3 0 0, .pt 3 v4 0 0]]]⟩), (8, ⟨73, 1, true, true, v69, [[.fn (.func 48) [] []]]⟩)]⟩ ?_
                                                refine c_seq ?_
                                                refine c_reg ?_; intro K hK
                                                obtain ⟨x75, e75, h13⟩ := bnd_e h13
                                                refine st rfl rfl rfl (yv_to (y := boo x75) (yv_lss rfl rfl rfl) (congrArg boo e75)) ?_
                                                refine rg_nil (hK _ ?_)
                                                refine c_seq ?_
                                                refine c_if (b := x75) rfl ?_ ?_
                                                · intro hb; subst hb; replace h13 := ct h13
                                                  refine c_skip ?_
                                                  refine c_seq ?_
                                                  refine c_block ?_; intro Q4 bn4 bx4 br4 bo4
                                                  refine c_seq ?_
                                                  refine c_reg ?_; intro K hK
                                                  refine st rfl rfl rfl (yv_move rfl rfl) ?_
                                                  refine st rfl rfl rfl (yv_assign rfl rfl) ?_
                                                  refine rg_nil (hK _ ?_)
                                                  refine c_seq ?_
                                                  refine c_reg ?_; intro K hK
                                                  refine st rfl rfl rfl (yv_move rfl rfl) ?_
                                                  refine st rfl rfl rfl (yv_move rfl rfl) ?_
                                                  refine st rfl rfl rfl (yv_move rfl rfl) ?_
                                                  obtain ⟨x76, e76, h13⟩ := bind_e h13
                                                  refine st rfl rfl rfl (yv_ixT rfl Try.underlying22 sh3 rfl rfl e76) ?_
                                                  refine st rfl rfl rfl (yv_load rfl sh3 rfl (.pp _) rfl) ?_
                                                  obtain ⟨j77, h14, h13⟩ := bind_e h13
                                                  refine se (Out := fun y H' => (∃ (a : Bool) (k : Unit), a = j77 ∧ y = boo a ∧ H' = hk [(1, ⟨43, 5, true, true, v2, [[int a1.Entities, int a1.Periods, lst 1 fI a1.Weights, lst 1 (fL 1 fI) a1.Methods, lst 1 (fL 1 fI) a1.Costs]]⟩), (2, ⟨3, 1, true, true, v3, [[int (a1.Weights.length : Int)]]⟩), (3, ⟨73, 1, true, true, v4, [[.fn (.func 48) [] []]]⟩), (7, ⟨91, 1, true, true, v58, [[.fn (.func 53) [] [.pt 2 v3 0 0, .pt 3 v4 0 0]]]⟩), (8, ⟨73, 1, true, true, v69, [[.fn (.func 48) [] []]]⟩)])) rfl rfl rfl (yl_call rfl rfl (.cons rfl .nil) cal65 ?_) ?_
                                                  · refine pc_of' (c := _) Try.func65 rfl rfl ?_; intro Q hret hnorm
                                                    refine c_seq ?_
                                                    refine c_reg ?_; intro K hK
                                                    refine st rfl rfl rfl (yv_assign rfl rfl) ?_
                                                    refine rg_nil (hK _ ?_)
                                                    refine c_seq ?_
                                                    refine c_reg ?_; intro K hK
                                                    refine st rfl rfl rfl (yv_load rfl sh73 rfl (.pt rfl rfl rfl) rfl) ?_
                                                    refine st rfl rfl rfl (yv_move rfl rfl) ?_
                                                    obtain ⟨x78, e78, h14⟩ := bind_e h14
                                                    refine st rfl rfl rfl (yv_callP rfl rfl (.cons rfl .nil) cal48 (CvL.refl _) (d_master_Check_1_c e78)) ?_
                                                    obtain ⟨x79, e79, h14⟩ := bnd_e h14
                                                    refine st rfl rfl rfl (yv_not rfl rfl e79) ?_
                                                    refine st rfl rfl rfl (yv_assign rfl rfl) ?_
                                                    refine rg_nil (hK _ ?_)
                                                    obtain rfl := nxt_e h14
                                                    refine c_ret (hret _ _ (hk [(1, ⟨43, 5, true, true, v2, [[int a1.Entities, int a1.Periods, lst 1 fI a1.Weights, lst 1 (fL 1 fI) a1.Methods, lst 1 (fL 1 fI) a1.Costs]]⟩), (2, ⟨3, 1, true, true, v3, [[int (a1.Weights.length : Int)]]⟩), (3, ⟨73, 1, true, true, v4, [[.fn (.func 48) [] []]]⟩), (7, ⟨91, 1, true, true, v58, [[.fn (.func 53) [] [.pt 2 v3 0 0, .pt 3 v4 0 0]]]⟩), (8, ⟨73, 1, true, true, v69, [[.fn (.func 48) [] []]]⟩)]) (.tmp rfl .nil) (HK.le ⟨rfl, rfl, rfl, rfl, rfl, trivial⟩) ?_)
                                                    exact ⟨x79, (), rfl, rfl, rfl⟩
                                                  · rintro y _ ⟨y28_1, _, rfl, hc, rfl⟩
                                                    subst hc
                                                    refine rg_nil (hK _ ?_)
                                                    refine c_if (b := y28_1) rfl ?_ ?_
                                                    · intro hb; subst hb; replace h13 := ct h13
                                                      refine c_seq ?_
                                                      refine c_reg ?_; intro K hK
                                                      refine st rfl rfl rfl (yv_move rfl rfl) ?_
                                                      refine st rfl rfl rfl (yv_assign rfl rfl) ?_
                                                      refine rg_nil (hK _ ?_)
                                                      obtain ⟨c80, hX, hj⟩ := esc_e h13; subst hj; replace h12 := hX.trans (sel_r h12)
                                                      obtain rfl := nxt_e h12
                                                      refine c_ret (br4 _ (lr3 _ (br2 _ (jr1 _ (hret _ _ (hk [(1, ⟨43, 5, true, true, v2, [[int a1.Entities, int a1.Periods, lst 1 fI a1.Weights, lst 1 (fL 1 fI) a1.Methods, lst 1 (fL 1 fI) a1.Costs]]⟩), (2, ⟨3, 1, true, true, v3, [[int (a1.Weights.length : Int)]]⟩), (3, ⟨73, 1, true, true, v4, [[.fn (.func 48) [] []]]⟩), (7, ⟨91, 1, true, true, v58, [[.fn (.func 53) [] [.pt 2 v3 0 0, .pt 3 v4 0 0]]]⟩), (8, ⟨73, 1, true, true, v69, [[.fn (.func 48) [] []]]⟩)]) (.tmp rfl .nil) (HK.le ⟨rfl, rfl, rfl, rfl, rfl, trivial⟩) ?_)))))
                                                      exact ⟨y26_1, (), rfl, rfl, rfl⟩
                                                    · intro hb; subst hb; replace h13 := cf h13
                                                      refine c_skip ?_
                                                      refine c_nil (bn4 _ ?_)
                                                      refine c_reg ?_; intro K hK
                                                      obtain ⟨x81, e81, h13⟩ := bnd_e h13
                                                      refine st rfl rfl rfl (yv_add rfl rfl rfl e81) ?_
                                                      refine st rfl rfl rfl (yv_move rfl rfl) ?_
                                                      refine rg_nil (hK _ ?_)
                                                      refine c_nil (ln3 _ ⟨x81, (), h13, leH_kn ⟨⟨_, rfl, (.refl _)⟩, ⟨_, rfl, (.refl _)⟩, ⟨_, rfl, (.refl _)⟩, ⟨_, rfl, (.refl _)⟩, ⟨_, rfl, (.refl _)⟩, trivial⟩ ⟨⟨_, rfl, (.refl _)⟩, ⟨_, rfl, (.refl _)⟩, ⟨_, rfl, (.refl _)⟩, ⟨_, rfl, (.refl _)⟩, ⟨_, rfl, (.refl _)⟩, trivial⟩⟩)
                                                · intro hb; subst hb; replace h13 := cf h13
                                                  refine c_exit (lx3 _ _ (bx2 _ ?_))
                                                  obtain rfl := brk_e h13
                                                  refine c_nil (jn1 _ ⟨(), (), rfl, leH_kn ⟨⟨_, rfl, (.refl _)⟩, trivial⟩ ⟨⟨_, rfl, (.refl _)⟩, ⟨_, rfl, (.refl _)⟩, ⟨_, rfl, (.refl _)⟩, ⟨_, rfl, (.refl _)⟩, ⟨_, rfl, (.refl _)⟩, trivial⟩⟩)
                                              · rintro _ _ rfl
                                                replace h12 := sel_l h12
                                                refine c_show ⟨kn [(4, int 0)], hk [(1, ⟨43, 5, true, true, v2, [[int a1.Entities, int a1.Periods, lst 1 fI a1.Weights, lst 1 (fL 1 fI) a1.Methods, lst 1 (fL 1 fI) a1.Costs]]⟩), (2, ⟨3, 1, true, true, v3, [[int (a1.Weights.length : Int)]]⟩), (3, ⟨73, 1, true, true, v4, [[.fn (.func 48) [] []]]⟩), (7, ⟨91, 1, true, true, v58, [[.fn (.func 53) [] [.pt 2 v3 0 0, .pt 3 v4 0 0]]]⟩), (8, ⟨73, 1, true, true, v69, [[.fn (.func 48) [] []]]⟩)]⟩ ?_
                                                refine c_seq ?_
                                                refine c_reg ?_; intro K hK
                                                refine st rfl rfl rfl (yv_assign rfl rfl) ?_
                                                refine rg_nil (hK _ ?_)
                                                obtain rfl := nxt_e h12
                                                refine c_ret (hret _ _ (hk [(1, ⟨43, 5, true, true, v2, [[int a1.Entities, int a1.Periods, lst 1 fI a1.Weights, lst 1 (fL 1 fI) a1.Methods, lst 1 (fL 1 fI) a1.Costs]]⟩), (2, ⟨3, 1, true, true, v3, [[int (a1.Weights.length : Int)]]⟩), (3, ⟨73, 1, true, true, v4, [[.fn (.func 48) [] []]]⟩), (7, ⟨91, 1, true, true, v58, [[.fn (.func 53) [] [.pt 2 v3 0 0, .pt 3 v4 0 0]]]⟩), (8, ⟨73, 1, true, true, v69, [[.fn (.func 48) [] []]]⟩)]) (.tmp rfl .nil) (HK.le ⟨rfl, rfl, rfl, rfl, rfl, trivial⟩) ?_)
                                                exact ⟨(-1), (), rfl, rfl, rfl⟩
                                            · rintro y _ ⟨y30_1, _, rfl, hc, rfl⟩
                                              subst hc
                                              obtain ⟨x82, e82, h11⟩ := bnd_e h11
                                              refine st rfl rfl rfl (yv_to (y := boo x82) (yv_geq rfl rfl rfl) (congrArg boo e82)) ?_
                                              refine st rfl rfl rfl (yv_assign rfl rfl) ?_
                                              refine rg_nil (hK _ ?_)
                                              obtain rfl := nxt_e h11
                                              refine c_ret (hret _ _ (hk [(1, ⟨43, 5, true, true, v2, [[int a1.Entities, int a1.Periods, lst 1 fI a1.Weights, lst 1 (fL 1 fI) a1.Methods, lst 1 (fL 1 fI) a1.Costs]]⟩), (2, ⟨3, 1, true, true, v3, [[int (a1.Weights.length : Int)]]⟩), (3, ⟨73, 1, true, true, v4, [[.fn (.func 48) [] []]]⟩), (7, ⟨91, 1, true, true, v58, [[.fn (.func 53) [] [.pt 2 v3 0 0, .pt 3 v4 0 0]]]⟩), (8, ⟨73, 1, true, true, v69, [[.fn (.func 48) [] []]]⟩)]) (.tmp rfl .nil) (HK.le ⟨rfl, rfl, rfl, rfl, rfl, trivial⟩) ?_)
                                              exact ⟨x82, (), rfl, rfl, rfl⟩
                                          · rintro y _ ⟨y31_1, _, rfl, hc, rfl⟩
                                            subst hc
                                            obtain ⟨x83, e83, h10⟩ := bnd_e h10
                                            refine st rfl rfl rfl (yv_not rfl rfl e83) ?_
                                            refine st rfl rfl rfl (yv_pick rfl rfl (fun _ => rfl) (fun _ => rfl) rfl) ?_
                                            refine st rfl rfl rfl (yv_assign rfl rfl) ?_
                                            obtain rfl := nxt_e h10
                                            refine rg_nil (hK _ ⟨x83, (), rfl, leH_kn ⟨⟨_, rfl, (.refl _)⟩, trivial⟩ ⟨⟨_, rfl, (.refl _)⟩, ⟨_, rfl, (.refl _)⟩, ⟨_, rfl, (.refl _)⟩, ⟨_, rfl, (.refl _)⟩, trivial⟩⟩)
                                        · intro hb; subst hb; replace h10 := cf h10
                                          refine sk rfl rfl rfl ?_
                                          refine sk rfl rfl rfl ?_
                                          refine sk rfl rfl rfl ?_
                                          refine sk rfl rfl rfl ?_
                                          refine st rfl rfl rfl (yv_pick rfl rfl (fun _ => rfl) (fun _ => rfl) rfl) ?_
                                          refine st rfl rfl rfl (yv_assign rfl rfl) ?_
                                          obtain rfl := nxt_e h10
                                          refine rg_nil (hK _ ⟨false, (), rfl, leH_kn ⟨⟨_, rfl, (.refl _)⟩, trivial⟩ ⟨⟨_, rfl, (.refl _)⟩, ⟨_, rfl, (.refl _)⟩, ⟨_, rfl, (.refl _)⟩, ⟨_, rfl, (.refl _)⟩, trivial⟩⟩)
                                      · rintro y32_1 _ rfl
                                        refine c_show ⟨kn [(6, boo y32_1)], hk [(1, ⟨43, 5, true, true, v2, [[int a1.Entities, int a1.Periods, lst 1 fI a1.Weights, lst 1 (fL 1 fI) a1.Methods, lst 1 (fL 1 fI) a1.Costs]]⟩), (2, ⟨3, 1, true, true, v3, [[int (a1.Weights.length : Int)]]⟩), (3, ⟨73, 1, true, true, v4, [[.fn (.func 48) [] []]]⟩), (7, ⟨91, 1, true, true, v58, [[.fn (.func 53) [] [.pt 2 v3 0 0, .pt 3 v4 0 0]]]⟩)]⟩ ?_
                                        obtain rfl := nxt_e h9
                                        refine c_ret (hret _ _ (hk [(1, ⟨43, 5, true, true, v2, [[int a1.Entities, int a1.Periods, lst 1 fI a1.Weights, lst 1 (fL 1 fI) a1.Methods, lst 1 (fL 1 fI) a1.Costs]]⟩), (2, ⟨3, 1, true, true, v3, [[int (a1.Weights.length : Int)]]⟩), (3, ⟨73, 1, true, true, v4, [[.fn (.func 48) [] []]]⟩), (7, ⟨91, 1, true, true, v58, [[.fn (.func 53) [] [.pt 2 v3 0 0, .pt 3 v4 0 0]]]⟩)]) (.tmp rfl .nil) (HK.le ⟨rfl, rfl, rfl, rfl, trivial⟩) ?_)
                                        exact ⟨y32_1, (), rfl, rfl, rfl⟩
                                    · rintro y _ ⟨y33_1, _, rfl, hc, rfl⟩
                                      subst hc
                                      refine st rfl rfl rfl (yv_assign rfl rfl) ?_
                                      refine rg_nil (hK _ ?_)
                                      obtain rfl := nxt_e h8
                                      refine c_ret (hret _ _ (hk [(1, ⟨43, 5, true, true, v2, [[int a1.Entities, int a1.Periods, lst 1 fI a1.Weights, lst 1 (fL 1 fI) a1.Methods, lst 1 (fL 1 fI) a1.Costs]]⟩), (2, ⟨3, 1, true, true, v3, [[int (a1.Weights.length : Int)]]⟩), (3, ⟨73, 1, true, true, v4, [[.fn (.func 48) [] []]]⟩), (7, ⟨91, 1, true, true, v58, [[.fn (.func 53) [] [.pt 2 v3 0 0, .pt 3 v4 0 0]]]⟩)]) (.tmp rfl .nil) (HK.le ⟨rfl, rfl, rfl, rfl, trivial⟩) ?_)
                                      exact ⟨y33_1, (), rfl, rfl, rfl⟩
                                  · rintro y _ ⟨y34_1, _, rfl, hc, rfl⟩
                                    subst hc
                                    obtain ⟨x84, e84, h7⟩ := bnd_e h7
                                    refine st rfl rfl rfl (yv_not rfl rfl e84) ?_
                                    refine st rfl rfl rfl (yv_assign rfl rfl) ?_
                                    refine rg_nil (hK _ ?_)
                                    obtain rfl := nxt_e h7
                                    refine c_ret (hret _ _ (hk [(1, ⟨43, 5, true, true, v2, [[int a1.Entities, int a1.Periods, lst 1 fI a1.Weights, lst 1 (fL 1 fI) a1.Methods, lst 1 (fL 1 fI) a1.Costs]]⟩), (2, ⟨3, 1, true, true, v3, [[int (a1.Weights.length : Int)]]⟩), (3, ⟨73, 1, true, true, v4, [[.fn (.func 48) [] []]]⟩), (7, ⟨91, 1, true, true, v58, [[.fn (.func 53) [] [.pt 2 v3 0 0, .pt 3 v4 0 0]]]⟩)]) (.tmp rfl .nil) (HK.le ⟨rfl, rfl, rfl, rfl, trivial⟩) ?_)
                                    exact ⟨x84, (), rfl, rfl, rfl⟩
                                · rintro y _ ⟨y36_1, _, rfl, hc, rfl⟩
                                  subst hc
                                  refine rg_nil (hK _ ?_)
                                  refine c_if (b := y36_1) rfl ?_ ?_
                                  · intro hb; subst hb; replace h6 := ct h6
                                    refine c_seq ?_
                                    refine c_reg ?_; intro K hK
                                    refine st rfl rfl rfl (yv_move rfl rfl) ?_
                                    refine st rfl rfl rfl (yv_assign rfl rfl) ?_
                                    refine rg_nil (hK _ ?_)
                                    obtain ⟨c85, hX, hj⟩ := esc_e h6; subst hj; replace h5 := hX.trans (sel_r h5)
                                    obtain rfl := nxt_e h5
                                    refine c_ret (br4 _ (lr3 _ (br2 _ (jr1 _ (hret _ _ (hk [(1, ⟨43, 5, true, true, v2, [[int a1.Entities, int a1.Periods, lst 1 fI a1.Weights, lst 1 (fL 1 fI) a1.Methods, lst 1 (fL 1 fI) a1.Costs]]⟩), (2, ⟨3, 1, true, true, v3, [[int (a1.Weights.length : Int)]]⟩), (3, ⟨73, 1, true, true, v4, [[.fn (.func 48) [] []]]⟩), (7, ⟨91, 1, true, true, v58, [[.fn (.func 53) [] [.pt 2 v3 0 0, .pt 3 v4 0 0]]]⟩)]) (.tmp rfl .nil) (HK.le ⟨rfl, rfl, rfl, rfl, trivial⟩) ?_)))))
                                    exact ⟨y25_1, (), rfl, rfl, rfl⟩
                                  · intro hb; subst hb; replace h6 := cf h6
                                    refine c_skip ?_
                                    refine c_nil (bn4 _ ?_)
                                    refine c_reg ?_; intro K hK
                                    obtain ⟨x86, e86, h6⟩ := bnd_e h6
                                    refine st rfl rfl rfl (yv_add rfl rfl rfl e86) ?_
                                    refine st rfl rfl rfl (yv_move rfl rfl) ?_
                                    refine rg_nil (hK _ ?_)
                                    refine c_nil (ln3 _ ⟨x86, (), h6, leH_kn ⟨⟨_, rfl, (.refl _)⟩, ⟨_, rfl, (.refl _)⟩, ⟨_, rfl, (.refl _)⟩, ⟨_, rfl, (.refl _)⟩, ⟨_, rfl, (.refl _)⟩, trivial⟩ ⟨⟨_, rfl, (.refl _)⟩, ⟨_, rfl, (.refl _)⟩, ⟨_, rfl, (.refl _)⟩, ⟨_, rfl, (.refl _)⟩, trivial⟩⟩)
                              · intro hb; subst hb; replace h6 := cf h6
                                refine c_exit (lx3 _ _ (bx2 _ ?_))
                                obtain rfl := brk_e h6
                                refine c_nil (jn1 _ ⟨(), (), rfl, leH_kn ⟨⟨_, rfl, (.refl _)⟩, trivial⟩ ⟨⟨_, rfl, (.refl _)⟩, ⟨_, rfl, (.refl _)⟩, ⟨_, rfl, (.refl _)⟩, ⟨_, rfl, (.refl _)⟩, trivial⟩⟩)
                            · rintro _ _ rfl
                              replace h5 := sel_l h5
                              refine c_show ⟨kn [(4, int 0)], hk [(1, ⟨43, 5, true, true, v2, [[int a1.Entities, int a1.Periods, lst 1 fI a1.Weights, lst 1 (fL 1 fI) a1.Methods, lst 1 (fL 1 fI) a1.Costs]]⟩), (2, ⟨3, 1, true, true, v3, [[int (a1.Weights.length : Int)]]⟩), (3, ⟨73, 1, true, true, v4, [[.fn (.func 48) [] []]]⟩), (7, ⟨91, 1, true, true, v58, [[.fn (.func 53) [] [.pt 2 v3 0 0, .pt 3 v4 0 0]]]⟩)]⟩ ?_
                              refine c_seq ?_
                              refine c_reg ?_; intro K hK
                              refine st rfl rfl rfl (yv_assign rfl rfl) ?_
                              refine rg_nil (hK _ ?_)
                              obtain rfl := nxt_e h5
                              refine c_ret (hret _ _ (hk [(1, ⟨43, 5, true, true, v2, [[int a1.Entities, int a1.Periods, lst 1 fI a1.Weights, lst 1 (fL 1 fI) a1.Methods, lst 1 (fL 1 fI) a1.Costs]]⟩), (2, ⟨3, 1, true, true, v3, [[int (a1.Weights.length : Int)]]⟩), (3, ⟨73, 1, true, true, v4, [[.fn (.func 48) [] []]]⟩), (7, ⟨91, 1, true, true, v58, [[.fn (.func 53) [] [.pt 2 v3 0 0, .pt 3 v4 0 0]]]⟩)]) (.tmp rfl .nil) (HK.le ⟨rfl, rfl, rfl, rfl, trivial⟩) ?_)
                              exact ⟨(-1), (), rfl, rfl, rfl⟩
                          · rintro y _ ⟨y38_1, _, rfl, hc, rfl⟩
                            subst hc
                            obtain ⟨x87, e87, h4⟩ := bnd_e h4
                            refine st rfl rfl rfl (yv_to (y := boo x87) (yv_geq rfl rfl rfl) (congrArg boo e87)) ?_
                            refine st rfl rfl rfl (yv_assign rfl rfl) ?_
                            refine rg_nil (hK _ ?_)
                            obtain rfl := nxt_e h4
                            refine c_ret (hret _ _ (hk [(1, ⟨43, 5, true, true, v2, [[int a1.Entities, int a1.Periods, lst 1 fI a1.Weights, lst 1 (fL 1 fI) a1.Methods, lst 1 (fL 1 fI) a1.Costs]]⟩), (2, ⟨3, 1, true, true, v3, [[int (a1.Weights.length : Int)]]⟩), (3, ⟨73, 1, true, true, v4, [[.fn (.func 48) [] []]]⟩), (7, ⟨91, 1, true, true, v58, [[.fn (.func 53) [] [.pt 2 v3 0 0, .pt 3 v4 0 0]]]⟩)]) (.tmp rfl .nil) (HK.le ⟨rfl, rfl, rfl, rfl, trivial⟩) ?_)
                            exact ⟨x87, (), rfl, rfl, rfl⟩
                        · rintro y _ ⟨y39_1, _, rfl, hc, rfl⟩
                          subst hc
                          obtain ⟨x88, e88, h3⟩ := bnd_e h3
                          refine st rfl rfl rfl (yv_not rfl rfl e88) ?_
                          refine st rfl rfl rfl (yv_pick rfl rfl (fun _ => rfl) (fun _ => rfl) rfl) ?_
                          refine st rfl rfl rfl (yv_assign rfl rfl) ?_
                          obtain rfl := nxt_e h3
                          refine rg_nil (hK _ ⟨x88, (), rfl, leH_kn ⟨⟨_, rfl, (.refl _)⟩, trivial⟩ ⟨⟨_, rfl, (.refl _)⟩, ⟨_, rfl, (.refl _)⟩, ⟨_, rfl, (.refl _)⟩, trivial⟩⟩)
                      · intro hb; subst hb; replace h3 := cf h3
                        refine sk rfl rfl rfl ?_
                        refine sk rfl rfl rfl ?_
                        refine sk rfl rfl rfl ?_
                        refine sk rfl rfl rfl ?_
                        refine st rfl rfl rfl (yv_pick rfl rfl (fun _ => rfl) (fun _ => rfl) rfl) ?_
                        refine st rfl rfl rfl (yv_assign rfl rfl) ?_
                        obtain rfl := nxt_e h3
                        refine rg_nil (hK _ ⟨false, (), rfl, leH_kn ⟨⟨_, rfl, (.refl _)⟩, trivial⟩ ⟨⟨_, rfl, (.refl _)⟩, ⟨_, rfl, (.refl _)⟩, ⟨_, rfl, (.refl _)⟩, trivial⟩⟩)
                    · rintro y40_1 _ rfl
                      refine c_show ⟨kn [(6, boo y40_1)], hk [(1, ⟨43, 5, true, true, v2, [[int a1.Entities, int a1.Periods, lst 1 fI a1.Weights, lst 1 (fL 1 fI) a1.Methods, lst 1 (fL 1 fI) a1.Costs]]⟩), (2, ⟨3, 1, true, true, v3, [[int (a1.Weights.length : Int)]]⟩), (3, ⟨73, 1, true, true, v4, [[.fn (.func 48) [] []]]⟩)]⟩ ?_
                      obtain rfl := nxt_e h2
                      refine c_ret (hret _ _ (hk [(1, ⟨43, 5, true, true, v2, [[int a1.Entities, int a1.Periods, lst 1 fI a1.Weights, lst 1 (fL 1 fI) a1.Methods, lst 1 (fL 1 fI) a1.Costs]]⟩), (2, ⟨3, 1, true, true, v3, [[int (a1.Weights.length : Int)]]⟩), (3, ⟨73, 1, true, true, v4, [[.fn (.func 48) [] []]]⟩)]) (.tmp rfl .nil) (HK.le ⟨rfl, rfl, rfl, trivial⟩) ?_)
                      exact ⟨y40_1, (), rfl, rfl, rfl⟩
                  · rintro y _ ⟨y41_1, _, rfl, hc, rfl⟩
                    subst hc
                    refine st rfl rfl rfl (yv_pick rfl rfl (fun _ => rfl) (fun _ => rfl) rfl) ?_
                    refine st rfl rfl rfl (yv_assign rfl rfl) ?_
                    obtain rfl := nxt_e h1
                    refine rg_nil (hK _ ⟨y41_1, (), rfl, leH_kn ⟨⟨_, rfl, (.refl _)⟩, trivial⟩ trivial⟩)
                · intro hb; subst hb; replace h1 := cf h1
                  refine sk rfl rfl rfl ?_
                  refine sk rfl rfl rfl ?_
                  refine sk rfl rfl rfl ?_
                  refine sk rfl rfl rfl ?_
                  refine sk rfl rfl rfl ?_
                  refine sk rfl rfl rfl ?_
                  refine st rfl rfl rfl (yv_pick rfl rfl (fun _ => rfl) (fun _ => rfl) rfl) ?_
                  refine st rfl rfl rfl (yv_assign rfl rfl) ?_
                  obtain rfl := nxt_e h1
                  refine rg_nil (hK _ ⟨false, (), rfl, leH_kn ⟨⟨_, rfl, (.refl _)⟩, trivial⟩ trivial⟩)
            · intro hb; subst hb; replace h1 := cf h1
              refine sk rfl rfl rfl ?_
              refine sk rfl rfl rfl ?_
              refine sk rfl rfl rfl ?_
              refine sk rfl rfl rfl ?_
              refine sk rfl rfl rfl ?_
              refine sk rfl rfl rfl ?_
              refine st rfl rfl rfl (yv_pick rfl rfl (fun _ => rfl) (fun _ => rfl) rfl) ?_
              refine st rfl rfl rfl (yv_move rfl rfl) ?_
              refine sk rfl rfl rfl ?_
              refine sk rfl rfl rfl ?_
              refine sk rfl rfl rfl ?_
              refine sk rfl rfl rfl ?_
              refine sk rfl rfl rfl ?_
              refine sk rfl rfl rfl ?_
              refine st rfl rfl rfl (yv_pick rfl rfl (fun _ => rfl) (fun _ => rfl) rfl) ?_
              refine st rfl rfl rfl (yv_assign rfl rfl) ?_
              obtain rfl := nxt_e h1
              refine rg_nil (hK _ ⟨false, (), rfl, leH_kn ⟨⟨_, rfl, (.refl _)⟩, trivial⟩ trivial⟩)
        · intro hb; subst hb; replace h1 := cf h1
          refine sk rfl rfl rfl ?_
          refine sk rfl rfl rfl ?_
          refine sk rfl rfl rfl ?_
          refine sk rfl rfl rfl ?_
          refine sk rfl rfl rfl ?_
          refine st rfl rfl rfl (yv_pick rfl rfl (fun _ => rfl) (fun _ => rfl) rfl) ?_
          refine st rfl rfl rfl (yv_move rfl rfl) ?_
          refine sk rfl rfl rfl ?_
          refine sk rfl rfl rfl ?_
          refine sk rfl rfl rfl ?_
          refine sk rfl rfl rfl ?_
          refine sk rfl rfl rfl ?_
          refine sk rfl rfl rfl ?_
          refine st rfl rfl rfl (yv_pick rfl rfl (fun _ => rfl) (fun _ => rfl) rfl) ?_
          refine st rfl rfl rfl (yv_move rfl rfl) ?_
          refine sk rfl rfl rfl ?_
          refine sk rfl rfl rfl ?_
          refine sk rfl rfl rfl ?_
          refine sk rfl rfl rfl ?_
          refine sk rfl rfl rfl ?_
          refine sk rfl rfl rfl ?_
          refine st rfl rfl rfl (yv_pick rfl rfl (fun _ => rfl) (fun _ => rfl) rfl) ?_
          refine st rfl rfl rfl (yv_assign rfl rfl) ?_
          obtain rfl := nxt_e h1
          refine rg_nil (hK _ ⟨false, (), rfl, leH_kn ⟨⟨_, rfl, (.refl _)⟩, trivial⟩ trivial⟩)
      · intro hb; subst hb; replace h1 := cf h1
        refine sk rfl rfl rfl ?_
        refine sk rfl rfl rfl ?_
        refine st rfl rfl rfl (yv_pick rfl rfl (fun _ => rfl) (fun _ => rfl) rfl) ?_
        refine st rfl rfl rfl (yv_move rfl rfl) ?_
        refine sk rfl rfl rfl ?_
        refine sk rfl rfl rfl ?_
        refine sk rfl rfl rfl ?_
        refine sk rfl rfl rfl ?_
        refine sk rfl rfl rfl ?_
        refine st rfl rfl rfl (yv_pick rfl rfl (fun _ => rfl) (fun _ => rfl) rfl) ?_
        refine st rfl rfl rfl (yv_move rfl rfl) ?_
        refine sk rfl rfl rfl ?_
        refine sk rfl rfl rfl ?_
        refine sk rfl rfl rfl ?_
        refine sk rfl rfl rfl ?_
        refine sk rfl rfl rfl ?_
        refine sk rfl rfl rfl ?_
        refine st rfl rfl rfl (yv_pick rfl rfl (fun _ => rfl) (fun _ => rfl) rfl) ?_
        refine st rfl rfl rfl (yv_move rfl rfl) ?_
        refine sk rfl rfl rfl ?_
        refine sk rfl rfl rfl ?_
        refine sk rfl rfl rfl ?_
        refine sk rfl rfl rfl ?_
        refine sk rfl rfl rfl ?_
        refine sk rfl rfl rfl ?_
        refine st rfl rfl rfl (yv_pick rfl rfl (fun _ => rfl) (fun _ => rfl) rfl) ?_
        refine st rfl rfl rfl (yv_assign rfl rfl) ?_
        obtain rfl := nxt_e h1
        refine rg_nil (hK _ ⟨false, (), rfl, leH_kn ⟨⟨_, rfl, (.refl _)⟩, trivial⟩ trivial⟩)
    · intro hb; subst hb; replace h1 := cf h1
      refine sk rfl rfl rfl ?_
      refine sk rfl rfl rfl ?_
      refine sk rfl rfl rfl ?_
      refine st rfl rfl rfl (yv_pick rfl rfl (fun _ => rfl) (fun _ => rfl) rfl) ?_
      refine st rfl rfl rfl (yv_move rfl rfl) ?_
      refine sk rfl rfl rfl ?_
      refine sk rfl rfl rfl ?_
      refine st rfl rfl rfl (yv_pick rfl rfl (fun _ => rfl) (fun _ => rfl) rfl) ?_
      refine st rfl rfl rfl (yv_move rfl rfl) ?_
      refine sk rfl rfl rfl ?_
      refine sk rfl rfl rfl ?_
      refine sk rfl rfl rfl ?_
      refine sk rfl rfl rfl ?_
      refine sk rfl rfl rfl ?_
      refine st rfl rfl rfl (yv_pick rfl rfl (fun _ => rfl) (fun _ => rfl) rfl) ?_
      refine st rfl rfl rfl (yv_move rfl rfl) ?_
      refine sk rfl rfl rfl ?_
      refine sk rfl rfl rfl ?_
      refine sk rfl rfl rfl ?_
      refine sk rfl rfl rfl ?_
      refine sk rfl rfl rfl ?_
      refine sk rfl rfl rfl ?_
      refine st rfl rfl rfl (yv_pick rfl rfl (fun _ => rfl) (fun _ => rfl) rfl) ?_
      refine st rfl rfl rfl (yv_move rfl rfl) ?_
      refine sk rfl rfl rfl ?_
      refine sk rfl rfl rfl ?_
      refine sk rfl rfl rfl ?_
      refine sk rfl rfl rfl ?_
      refine sk rfl rfl rfl ?_
      refine sk rfl rfl rfl ?_
      refine st rfl rfl rfl (yv_pick rfl rfl (fun _ => rfl) (fun _ => rfl) rfl) ?_
      refine st rfl rfl rfl (yv_assign rfl rfl) ?_
      obtain rfl := nxt_e h1
      refine rg_nil (hK _ ⟨false, (), rfl, leH_kn ⟨⟨_, rfl, (.refl _)⟩, trivial⟩ trivial⟩)
  · rintro y42_1 _ rfl
    refine c_show ⟨kn [(2, boo y42_1)], hk []⟩ ?_
    obtain rfl := nxt_e h0
    refine c_ret (hret _ _ _ (.tmp rfl .nil) (fun _ _ h => h) ?_)
    exact .refl _
def d_slices_Concat_int_int_L0 (a1 : List (List (List Int))) : Nat → Int → Int → Option (Int)
  | 0, _, _ => none
  | n + 1, y0_1, y0_2 =>
    bnd (decide (y0_2 < (a1.length : Int))) fun (x3 : Bool) =>
    cond x3 ((ix a1 y0_2).bind fun (x4 : List (List Int)) =>
    bnd (w64 (y0_1 + (x4.length : Int))) fun (x5 : Int) =>
    bnd (decide (x5 < 0)) fun (x6 : Bool) =>
    cond x6 (none) (bnd (w64 (y0_2 + 1)) fun (x7 : Int) =>
    d_slices_Concat_int_int_L0 a1 n (x5 : Int) (x7 : Int))) (some (y0_1 : Int))
def d_slices_Concat_int_int_L1 (a1 : List (List (List Int))) : Nat → Int → (List (List Int)) → Option ((List (List Int)))
  | 0, _, _ => none
  | n + 1, y2_2, y2_3 =>
    bnd (decide (y2_2 < (a1.length : Int))) fun (x11 : Bool) =>
    cond x11 ((ix a1 y2_2).bind fun (x12 : List (List Int)) =>
    bnd (y2_3 ++ x12) fun (x13 : List (List Int)) =>
    asrt (x13.length ≤ 68719476736) <|
    bnd (w64 (y2_2 + 1)) fun (x16 : Int) =>
    d_slices_Concat_int_int_L1 a1 n (x16 : Int) (x13 : List (List Int))) (some (y2_3 : List (List Int)))
def d_slices_Concat_int_int (n : Nat) (a1 : List (List (List Int))) : Option ((List (List Int))) :=
(show Option (Int) from
d_slices_Concat_int_int_L0 a1 n (0 : Int) (0 : Int)).bind <| fun (y1_1 : Int) =>
asrt ((0 : Int) ≤ y1_1 ∧ (y1_1 : Int) ≤ 1048576) <|
(show Option ((List (List Int))) from
d_slices_Concat_int_int_L1 a1 n (0 : Int) (([] : List (List Int)) : List (List Int))).bind <| fun (y3_2 : List (List Int)) =>
some ((y3_2 : List (List Int)))
theorem d_slices_Concat_int_int_c {n : Nat} {a1 : List (List (List Int))} {r : (List (List Int))} (h0 : d_slices_Concat_int_int n a1 = some r) : PP Try.prog 59 [lst 1 (fL 1 (fL 1 fI)) a1] (fun y => y = lst 1 (fL 1 fI) r) := by
  unfold d_slices_Concat_int_int at h0
  refine pp_of_pc (R0 := fun y H => Cv (frzH H) y (lst 1 (fL 1 fI) r)) ?_ (fun y H hc => ⟨_, rfl, (pvLs (pvcLs pvcI)) r, hc⟩)
  refine pc_of' (c := _) Try.func59 rfl rfl ?_; intro Q hret hnorm
  refine c_seq ?_
  refine c_reg ?_; intro K hK
  refine st rfl rfl rfl (yv_assign rfl rfl) ?_
  refine rg_nil (hK _ ?_)
  refine c_seq ?_
  refine c_reg ?_; intro K hK
  refine st rfl rfl rfl (yv_assign rfl rfl) ?_
  refine rg_nil (hK _ ?_)
  refine c_seq ?_
  refine c_seq ?_
  refine c_reg ?_; intro K hK
  refine st rfl rfl rfl (yv_move rfl rfl) ?_
  refine st rfl rfl rfl (yv_len_sl rfl Try.underlying101 rfl (lst_len _)) ?_
  refine st rfl rfl rfl (yv_move rfl rfl) ?_
  refine rg_nil (hK _ ?_)
  obtain ⟨j2, h1, h0⟩ := bind_e h0
  refine c_joinL (fun (a : Int) (k : Unit) => ⟨kn [(0, lst 1 (fL 1 (fL 1 fI)) a1), (2, .sc (.slice none 0 0)), (3, int a)], hk []⟩) (fun a => a = j2) ?_ ?_
  · intro Q1 jn1 jx1 jr1
    refine c_block ?_; intro Q2 bn2 bx2 br2 bo2
    refine c_loopD (fun (a : Int × Int) (k : Unit) => ⟨kn [(0, lst 1 (fL 1 (fL 1 fI)) a1), (2, .sc (.slice none 0 0)), (3, int a.1), (9, lst 1 (fL 1 (fL 1 fI)) a1), (10, int (a1.length : Int)), (11, int a.2)], hk []⟩) (fun n (a : Int × Int) => d_slices_Concat_int_int_L0 a1 n a.1 a.2) ((0 : Int), (0 : Int)) () h1 (fun _ => rfl)
      (leH_kn ⟨⟨_, rfl, (.refl _)⟩, ⟨_, rfl, (.refl _)⟩, ⟨_, rfl, (.refl _)⟩, ⟨_, rfl, (.refl _)⟩, ⟨_, rfl, (.refl _)⟩, ⟨_, rfl, (.refl _)⟩, trivial⟩ trivial) ?_
    rintro n ⟨y0_1, y0_2⟩ _ hm h1 Q3 ln3 lx3 lr3
    replace h1 : d_slices_Concat_int_int_L0 a1 (n + 1) y0_1 y0_2 = some _ := h1
    rw [d_slices_Concat_int_int_L0] at h1
    refine c_show ⟨kn [(0, lst 1 (fL 1 (fL 1 fI)) a1), (2, .sc (.slice none 0 0)), (3, int y0_1), (9, lst 1 (fL 1 (fL 1 fI)) a1), (10, int (a1.length : Int)), (11, int y0_2)], hk []⟩ ?_
    refine c_seq ?_
    refine c_reg ?_; intro K hK
    obtain ⟨x3, e3, h1⟩ := bnd_e h1
    refine st rfl rfl rfl (yv_to (y := boo x3) (yv_lss rfl rfl rfl) (congrArg boo e3)) ?_
    refine rg_nil (hK _ ?_)
    refine c_seq ?_
    refine c_if (b := x3) rfl ?_ ?_
    · intro hb; subst hb; replace h1 := ct h1
      refine c_skip ?_
      refine c_seq ?_
      refine c_block ?_; intro Q4 bn4 bx4 br4 bo4
      refine c_seq ?_
      refine c_reg ?_; intro K hK
      obtain ⟨x4, e4, h1⟩ := bind_e h1
      refine st rfl rfl rfl (yv_ixT rfl Try.underlying101 sh41 rfl rfl e4) ?_
      refine st rfl rfl rfl (yv_load rfl sh41 rfl (.pp _) rfl) ?_
      refine st rfl rfl rfl (yv_assign rfl rfl) ?_
      refine rg_nil (hK _ ?_)
      refine c_seq ?_
      refine c_reg ?_; intro K hK
      refine st rfl rfl rfl (yv_move rfl rfl) ?_
      refine st rfl rfl rfl (yv_move rfl rfl) ?_
      refine st rfl rfl rfl (yv_len_sl rfl Try.underlying41 rfl (lst_len _)) ?_
      obtain ⟨x5, e5, h1⟩ := bnd_e h1
      refine st rfl rfl rfl (yv_add rfl rfl rfl e5) ?_
      refine st rfl rfl rfl (yv_assign rfl rfl) ?_
      refine rg_nil (hK _ ?_)
      refine c_seq ?_
      refine c_reg ?_; intro K hK
      refine st rfl rfl rfl (yv_move rfl rfl) ?_
      obtain ⟨x6, e6, h1⟩ := bnd_e h1
      refine st rfl rfl rfl (yv_to (y := boo x6) (yv_lss rfl rfl rfl) (congrArg boo e6)) ?_
      refine rg_nil (hK _ ?_)
      refine c_if (b := x6) rfl ?_ ?_
      · intro hb; subst hb; replace h1 := ct h1
        refine c_reg ?_; intro K hK
        refine st rfl rfl rfl (yv_makeIface rfl Try.underlying9 (by intro _ h; cases h) rfl) ?_
        cases h1
      · intro hb; subst hb; replace h1 := cf h1
        refine c_skip ?_
        refine c_nil (bn4 _ ?_)
        refine c_reg ?_; intro K hK
        obtain ⟨x7, e7, h1⟩ := bnd_e h1
        refine st rfl rfl rfl (yv_add rfl rfl rfl e7) ?_
        refine st rfl rfl rfl (yv_move rfl rfl) ?_
        refine rg_nil (hK _ ?_)
        refine c_nil (ln3 _ ⟨(x5, x7), (), h1, leH_kn ⟨⟨_, rfl, (.refl _)⟩, ⟨_, rfl, (.refl _)⟩, ⟨_, rfl, (.refl _)⟩, ⟨_, rfl, (.refl _)⟩, ⟨_, rfl, (.refl _)⟩, ⟨_, rfl, (.refl _)⟩, trivial⟩ trivial⟩)
    · intro hb; subst hb; replace h1 := cf h1
      refine c_exit (lx3 _ _ (bx2 _ ?_))
      obtain rfl := nxt_e h1
      refine c_nil (jn1 _ ⟨y0_1, (), rfl, leH_kn ⟨⟨_, rfl, (.refl _)⟩, ⟨_, rfl, (.refl _)⟩, ⟨_, rfl, (.refl _)⟩, trivial⟩ trivial⟩)
  · rintro y1_1 _ rfl
    refine c_show ⟨kn [(0, lst 1 (fL 1 (fL 1 fI)) a1), (2, .sc (.slice none 0 0)), (3, int y1_1)], hk []⟩ ?_
    refine c_seq ?_
    refine c_reg ?_; intro K hK
    refine st rfl rfl rfl (yv_move rfl rfl) ?_
    obtain ⟨p8, h0⟩ := asrt_e h0
    refine se rfl rfl rfl (yl_call rfl rfl (.cons rfl (.cons rfl .nil)) cal68 (grow68_c (id := 1) rfl p8)) ?_; rintro _ _ ⟨v9, rfl, rfl⟩
    refine st rfl rfl rfl (yv_assign rfl rfl) ?_
    refine rg_nil (hK _ ?_)
    refine c_seq ?_
    refine c_seq ?_
    refine c_reg ?_; intro K hK
    refine st rfl rfl rfl (yv_move rfl rfl) ?_
    refine st rfl rfl rfl (yv_len_sl rfl Try.underlying101 rfl (lst_len _)) ?_
    refine st rfl rfl rfl (yv_move rfl rfl) ?_
    refine rg_nil (hK _ ?_)
    obtain ⟨j10, h1, h0⟩ := bind_e h0
    refine c_joinL (fun (a : (List (List Int))) (k : Nat) => ⟨kn [(2, .sc (.slice none 0 0)), (6, .sl 1 k 0 a.length)], hk [(1, ⟨22, 1, true, true, k, a.map (fL 1 fI)⟩)]⟩) (fun a => a = j10) ?_ ?_
    · intro Q1 jn1 jx1 jr1
      refine c_block ?_; intro Q2 bn2 bx2 br2 bo2
      refine c_loopD (fun (a : Int × (List (List Int))) (k : Nat) => ⟨kn [(2, .sc (.slice none 0 0)), (6, .sl 1 k 0 a.2.length), (25, lst 1 (fL 1 (fL 1 fI)) a1), (26, int (a1.length : Int)), (27, int a.1)], hk [(1, ⟨22, 1, true, true, k, a.2.map (fL 1 fI)⟩)]⟩) (fun n (a : Int × (List (List Int))) => d_slices_Concat_int_int_L1 a1 n a.1 a.2) ((0 : Int), (([] : List (List Int)) : List (List Int))) v9 h1 (fun _ => rfl)
        (leH_kn ⟨⟨_, rfl, (.refl _)⟩, ⟨_, rfl, (.refl _)⟩, ⟨_, rfl, (.refl _)⟩, ⟨_, rfl, (.refl _)⟩, ⟨_, rfl, (.refl _)⟩, trivial⟩ ⟨⟨_, rfl, (.refl _)⟩, trivial⟩) ?_
      rintro n ⟨y2_2, y2_3⟩ w2_1 hm h1 Q3 ln3 lx3 lr3
      replace h1 : d_slices_Concat_int_int_L1 a1 (n + 1) y2_2 y2_3 = some _ := h1
      rw [d_slices_Concat_int_int_L1] at h1
      refine c_show ⟨kn [(2, .sc (.slice none 0 0)), (6, .sl 1 w2_1 0 y2_3.length), (25, lst 1 (fL 1 (fL 1 fI)) a1), (26, int (a1.length : Int)), (27, int y2_2)], hk [(1, ⟨22, 1, true, true, w2_1, y2_3.map (fL 1 fI)⟩)]⟩ ?_
      refine c_seq ?_
      refine c_reg ?_; intro K hK
      obtain ⟨x11, e11, h1⟩ := bnd_e h1
      refine st rfl rfl rfl (yv_to (y := boo x11) (yv_lss rfl rfl rfl) (congrArg boo e11)) ?_
      refine rg_nil (hK _ ?_)
      refine c_seq ?_
      refine c_if (b := x11) rfl ?_ ?_
      · intro hb; subst hb; replace h1 := ct h1
        refine c_skip ?_
        refine c_seq ?_
        refine c_block ?_; intro Q4 bn4 bx4 br4 bo4
        refine c_seq ?_
        refine c_reg ?_; intro K hK
        obtain ⟨x12, e12, h1⟩ := bind_e h1
        refine st rfl rfl rfl (yv_ixT rfl Try.underlying101 sh41 rfl rfl e12) ?_
        refine st rfl rfl rfl (yv_load rfl sh41 rfl (.pp _) rfl) ?_
        refine st rfl rfl rfl (yv_assign rfl rfl) ?_
        refine rg_nil (hK _ ?_)
        refine c_reg ?_; intro K hK
        refine st rfl rfl rfl (yv_move rfl rfl) ?_
        refine st rfl rfl rfl (yv_move rfl rfl) ?_
        obtain ⟨x13, e13, h1⟩ := bnd_e h1
        obtain ⟨p14, h1⟩ := asrt_e h1
        refine se rfl rfl rfl (yl_appT (g := (fL 1 fI)) (l := y2_3) (m := x12) .any rfl Try.underlying41 bz22 by22 rfl rfl rfl rfl rfl rfl rfl rfl rfl rfl (Eq.symm rfl) (.refl _) (fun _ => rfl) e13 p14) ?_; rintro _ _ ⟨v15, -, rfl, rfl⟩
        refine st rfl rfl rfl (yv_assign rfl rfl) ?_
        refine rg_nil (hK _ ?_)
        refine c_nil (bn4 _ ?_)
        refine c_reg ?_; intro K hK
        obtain ⟨x16, e16, h1⟩ := bnd_e h1
        refine st rfl rfl rfl (yv_add rfl rfl rfl e16) ?_
        refine st rfl rfl rfl (yv_move rfl rfl) ?_
        refine rg_nil (hK _ ?_)
        refine c_nil (ln3 _ ⟨(x16, x13), v15, h1, leH_kn ⟨⟨_, rfl, (.refl _)⟩, ⟨_, rfl, (.refl _)⟩, ⟨_, rfl, (.refl _)⟩, ⟨_, rfl, (.refl _)⟩, ⟨_, rfl, (.refl _)⟩, trivial⟩ ⟨⟨_, rfl, (.refl _)⟩, trivial⟩⟩)
      · intro hb; subst hb; replace h1 := cf h1
        refine c_exit (lx3 _ _ (bx2 _ ?_))
        obtain rfl := nxt_e h1
        refine c_nil (jn1 _ ⟨y2_3, w2_1, rfl, leH_kn ⟨⟨_, rfl, (.refl _)⟩, ⟨_, rfl, (.refl _)⟩, trivial⟩ ⟨⟨_, rfl, (.refl _)⟩, trivial⟩⟩)
    · rintro y3_2 w3_1 rfl
      refine c_show ⟨kn [(2, .sc (.slice none 0 0)), (6, .sl 1 w3_1 0 y3_2.length)], hk [(1, ⟨22, 1, true, true, w3_1, y3_2.map (fL 1 fI)⟩)]⟩ ?_
      refine c_seq ?_
      refine c_reg ?_; intro K hK
      refine st rfl rfl rfl (yv_move rfl rfl) ?_
      refine st rfl rfl rfl (yv_assign rfl rfl) ?_
      refine rg_nil (hK _ ?_)
      obtain rfl := nxt_e h0
      refine c_ret (hret _ _ _ (.tmp rfl .nil) (fun _ _ h => h) ?_)
      exact (cv_lst rfl rfl rfl rfl rfl (Eq.symm rfl))
def d_master_Bytes_L0 (x15 : (List (List Int))) : Nat → Int → (List UInt8) → Option ((List UInt8))
  | 0, _, _ => none
  | n + 1, y0_1, y0_3 =>
    bnd (decide (y0_1 < (x15.length : Int))) fun (x17 : Bool) =>
    cond x17 ((ix x15 y0_1).bind fun (x18 : List Int) =>
    (listD x18).bind fun (x19 : (List UInt8)) =>
    asrt (x19.length ≤ 1099511627776) <|
    asrt (y0_3.length ≤ 1099511627776) <|
    bnd (y0_3 ++ x19) fun (x23 : List UInt8) =>
    bnd (w64 (y0_1 + 1)) fun (x24 : Int) =>
    d_master_Bytes_L0 x15 n (x24 : Int) (x23 : List UInt8)) (some (y0_3 : List UInt8))
def d_master_Bytes (n : Nat) (a1 : GMaster) : Option ((List UInt8)) :=
(d_master_Check n a1).bind fun (x3 : Bool) =>
bnd (!x3) fun (x4 : Bool) =>
cond x4 (some ((([] : List UInt8) : List UInt8))) ((numD a1.Entities).bind fun (x6 : (List UInt8)) =>
(numD a1.Periods).bind fun (x7 : (List UInt8)) =>
asrt (x6.length + x7.length ≤ 9223372036854775807) <|
bnd (x6 ++ x7) fun (x9 : List UInt8) =>
(listD a1.Weights).bind fun (x10 : (List UInt8)) =>
asrt (x9.length + x10.length ≤ 9223372036854775807) <|
bnd (x9 ++ x10) fun (x12 : List UInt8) =>
asrt (x12.length ≤ 1099511627776) <|
(d_slices_Concat_int_int n ([a1.Methods, a1.Costs] : List (List (List Int)))).bind fun (x15 : (List (List Int))) =>
(show Option ((List UInt8)) from
d_master_Bytes_L0 x15 n (0 : Int) (x12 : List UInt8)).bind <| fun (y1_2 : List UInt8) =>
asrt (y1_2 ≠ []) <|
asrt (y1_2.length ≤ 1099511627776) <|
some ((y1_2 : List UInt8)))
theorem d_master_Bytes_c {n : Nat} {a1 : GMaster} {r : (List UInt8)} (h0 : d_master_Bytes n a1 = some r) : PP Try.prog 34 [.agg (GMaster.av a1)] (fun y => y = str r) := by
  unfold d_master_Bytes at h0
  refine pp_of_pc (R0 := fun y H => Cv (frzH H) y (str r)) ?_ (fun y H hc => ⟨_, rfl, pvS r, hc⟩)
  refine pc_of' (c := _) Try.func34 rfl rfl ?_; intro Q hret hnorm
  refine c_seq ?_
  refine c_reg ?_; intro K hK
  refine se rfl rfl rfl (yl_box 1 .any rfl rfl rfl) ?_; rintro _ _ ⟨v2, -, rfl, rfl⟩
  refine st rfl rfl rfl (yv_assign rfl rfl) ?_
  refine rg_nil (hK _ ?_)
  refine c_seq ?_
  refine c_seq ?_
  refine c_reg ?_; intro K hK
  refine st rfl rfl rfl (yv_load rfl sh43 rfl (.pt rfl rfl rfl) rfl) ?_
  obtain ⟨x3, e3, h0⟩ := bind_e h0
  refine st rfl rfl rfl (yv_callP rfl rfl (.cons rfl .nil) cal30 (CvL.refl _) (d_master_Check_c e3)) ?_
  obtain ⟨x4, e4, h0⟩ := bnd_e h0
  refine st rfl rfl rfl (yv_not rfl rfl e4) ?_
  refine rg_nil (hK _ ?_)
  refine c_if (b := x4) rfl ?_ ?_
  · intro hb; subst hb; replace h0 := ct h0
    refine c_seq ?_
    refine c_reg ?_; intro K hK
    refine st rfl rfl rfl (yv_assign rfl rfl) ?_
    refine rg_nil (hK _ ?_)
    obtain rfl := nxt_e h0
    refine c_ret (hret _ _ _ (.tmp rfl .nil) (fun _ _ h => h) ?_)
    exact .refl _
  · intro hb; subst hb; replace h0 := cf h0
    refine c_skip ?_
    refine c_seq ?_
    refine c_reg ?_; intro K hK
    refine se rfl rfl rfl (yl_alloc 2 .any rfl z79 rfl) ?_; rintro _ _ ⟨v5, -, rfl, rfl⟩
    refine rg_nil (hK _ ?_)
    refine c_seq ?_
    refine c_drawE [0, 1, 3, 0, 8, 31, 63, 0, 128, 447, 1023, 2047] (fun i => bif Nat.beq i 0 then ([1]) else bif Nat.beq i 1 then ([1]) else bif Nat.beq i 3 then ([1]) else bif Nat.beq i 4 then ([1]) else bif Nat.beq i 7 then ([1]) else bif Nat.beq i 8 then ([1]) else []) (fun i => bif Nat.beq i 11 then ([]) else [1]) (fun i => bif Nat.beq i 11 then (false) else true) [0, 1, 2, 3, 4, 5, 6, 7, 8, 9, 10, 11] mixed (by kernel_rfl) ?_; intro K hK
    refine de_pure rfl rfl rfl rfl (fun H hH => yv_fieldAddr rfl fo43_0 rfl (.pt ((hH _ (by decide)).trans rfl) rfl rfl) (.pt _ _ _ _ _)) ?_
    refine de_pure rfl rfl rfl rfl (fun H hH => yv_load rfl sh3 rfl (.pt ((hH _ (by decide)).trans rfl) rfl rfl) rfl) ?_
    obtain ⟨x6, e6, h0⟩ := bind_e h0
    refine de_pure rfl rfl rfl rfl (fun H hH => yv_callP rfl rfl (.cons rfl .nil) cal21 (CvL.refl _) (numD_c e6)) ?_
    refine de_pure rfl rfl rfl rfl (fun H hH => yv_fieldAddr rfl fo43_1 rfl (.pt ((hH _ (by decide)).trans rfl) rfl rfl) (.pt _ _ _ _ _)) ?_
    refine de_pure rfl rfl rfl rfl (fun H hH => yv_load rfl sh3 rfl (.pt ((hH _ (by decide)).trans rfl) rfl rfl) rfl) ?_
    obtain ⟨x7, e7, h0⟩ := bind_e h0
    refine de_pure rfl rfl rfl rfl (fun H hH => yv_callP rfl rfl (.cons rfl .nil) cal21 (CvL.refl _) (numD_c e7)) ?_
    obtain ⟨p8, h0⟩ := asrt_e h0
    obtain ⟨x9, e9, h0⟩ := bnd_e h0
    refine de_pure rfl rfl rfl rfl (fun H hH => yv_to (y := str x9) (yv_sadd rfl rfl rfl p8) (congrArg str e9)) ?_
    refine de_pure rfl rfl rfl rfl (fun H hH => yv_fieldAddr rfl fo43_2 rfl (.pt ((hH _ (by decide)).trans rfl) rfl rfl) (.pt _ _ _ _ _)) ?_
    refine de_pure rfl rfl rfl rfl (fun H hH => yv_load rfl sh22 rfl (.pt ((hH _ (by decide)).trans rfl) rfl rfl) rfl) ?_
    obtain ⟨x10, e10, h0⟩ := bind_e h0
    refine de_pure rfl rfl rfl rfl (fun H hH => yv_callP rfl rfl (.cons rfl .nil) cal23 (CvL.refl _) (listD_c e10)) ?_
    obtain ⟨p11, h0⟩ := asrt_e h0
    obtain ⟨x12, e12, h0⟩ := bnd_e h0
    refine de_pure rfl rfl rfl rfl (fun H hH => yv_to (y := str x12) (yv_sadd rfl rfl rfl p11) (congrArg str e12)) ?_
    obtain ⟨p13, h0⟩ := asrt_e h0
    refine de_eff rfl rfl rfl rfl (yl_call rfl rfl (.cons rfl (.cons rfl .nil)) cal43 (wstrN_c (id := 2) (ver := v5) (ib := 3) (t := x12) (by decide) rfl rfl p13)) (by rintro _ _ ⟨rfl, v14, rfl⟩; exact trivial) ?_; rintro _ _ ⟨rfl, v14, rfl⟩
    refine de_nil (hK _ ?_)
    refine c_seq ?_
    refine c_seq ?_
    refine c_reg ?_; intro K hK
    refine st rfl rfl rfl (yv_fieldAddr rfl fo43_3 rfl (.pt rfl rfl rfl) (.pt _ _ _ _ _)) ?_
    refine st rfl rfl rfl (yv_load rfl sh41 rfl (.pt rfl rfl rfl) rfl) ?_
    refine st rfl rfl rfl (yv_fieldAddr rfl fo43_4 rfl (.pt rfl rfl rfl) (.pt _ _ _ _ _)) ?_
    refine st rfl rfl rfl (yv_load rfl sh41 rfl (.pt rfl rfl rfl) rfl) ?_
    refine st rfl rfl rfl (yv_to (y := lst 1 (fL 1 (fL 1 fI)) ([a1.Methods, a1.Costs] : List (List (List Int)))) (yv_buildSlice (ps := [(0, _), (1, _)]) (rows := [[lst 1 (fL 1 fI) a1.Methods], [lst 1 (fL 1 fI) a1.Costs]]) rfl Try.underlying101 bz41 (.cons rfl (.cons rfl .nil)) (by kernel_rfl) rfl rfl rfl) rfl) ?_
    obtain ⟨x15, e15, h0⟩ := bind_e h0
    refine st rfl rfl rfl (yv_callP rfl rfl (.cons rfl .nil) cal59 (CvL.refl _) (d_slices_Concat_int_int_c e15)) ?_
    refine st rfl rfl rfl (yv_len_sl rfl Try.underlying41 rfl (lst_len _)) ?_
    refine st rfl rfl rfl (yv_move rfl rfl) ?_
    refine rg_nil (hK _ ?_)
    obtain ⟨j16, h1, h0⟩ := bind_e h0
    refine c_joinL (fun (a : (List UInt8)) (k : Nat) => ⟨kn [(2, str ([] : List UInt8)), (3, .pt 2 v5 0 0)], hk [(2, ⟨79, 2, true, true, v5, [[.pt 2 v5 0 0, .sl 3 k 0 a.length]]⟩), (3, ⟨5, 1, true, true, k, byteRows a⟩)]⟩) (fun a => a = j16) ?_ ?_
    · intro Q1 jn1 jx1 jr1
      refine c_block ?_; intro Q2 bn2 bx2 br2 bo2
      refine c_loopD (fun (a : Int × (List UInt8)) (k : Nat) => ⟨kn [(2, str ([] : List UInt8)), (3, .pt 2 v5 0 0), (26, lst 1 (fL 1 fI) x15), (27, int (x15.length : Int)), (28, int a.1)], hk [(2, ⟨79, 2, true, true, v5, [[.pt 2 v5 0 0, .sl 3 k 0 a.2.length]]⟩), (3, ⟨5, 1, true, true, k, byteRows a.2⟩)]⟩) (fun n (a : Int × (List UInt8)) => d_master_Bytes_L0 x15 n a.1 a.2) ((0 : Int), (x12 : List UInt8)) v14 h1 (fun _ => rfl)
        (leH_kn ⟨⟨_, rfl, (.refl _)⟩, ⟨_, rfl, (.refl _)⟩, ⟨_, rfl, (.refl _)⟩, ⟨_, rfl, (.refl _)⟩, ⟨_, rfl, (.refl _)⟩, trivial⟩ ⟨⟨_, rfl, (.refl _)⟩, ⟨_, rfl, (.refl _)⟩, trivial⟩) ?_
      rintro n ⟨y0_1, y0_3⟩ w0_2 hm h1 Q3 ln3 lx3 lr3
      replace h1 : d_master_Bytes_L0 x15 (n + 1) y0_1 y0_3 = some _ := h1
      rw [d_master_Bytes_L0] at h1
      refine c_show ⟨kn [(2, str ([] : List UInt8)), (3, .pt 2 v5 0 0), (26, lst 1 (fL 1 fI) x15), (27, int (x15.length : Int)), (28, int y0_1)], hk [(2, ⟨79, 2, true, true, v5, [[.pt 2 v5 0 0, .sl 3 w0_2 0 y0_3.length]]⟩), (3, ⟨5, 1, true, true, w0_2, byteRows y0_3⟩)]⟩ ?_
      refine c_seq ?_
      refine c_reg ?_; intro K hK
      obtain ⟨x17, e17, h1⟩ := bnd_e h1
      refine st rfl rfl rfl (yv_to (y := boo x17) (yv_lss rfl rfl rfl) (congrArg boo e17)) ?_
      refine rg_nil (hK _ ?_)
      refine c_seq ?_
      refine c_if (b := x17) rfl ?_ ?_
      · intro hb; subst hb; replace h1 := ct h1
        refine c_skip ?_
        refine c_seq ?_
        refine c_block ?_; intro Q4 bn4 bx4 br4 bo4
        refine c_seq ?_
        refine c_reg ?_; intro K hK
        obtain ⟨x18, e18, h1⟩ := bind_e h1
        refine st rfl rfl rfl (yv_ixT rfl Try.underlying41 sh22 rfl rfl e18) ?_
        refine st rfl rfl rfl (yv_load rfl sh22 rfl (.pp _) rfl) ?_
        refine st rfl rfl rfl (yv_assign rfl rfl) ?_
        refine rg_nil (hK _ ?_)
        refine c_reg ?_; intro K hK
        refine st rfl rfl rfl (yv_move rfl rfl) ?_
        obtain ⟨x19, e19, h1⟩ := bind_e h1
        refine st rfl rfl rfl (yv_callP rfl rfl (.cons rfl .nil) cal23 (CvL.refl _) (listD_c e19)) ?_
        obtain ⟨p20, h1⟩ := asrt_e h1
        obtain ⟨p22, h1⟩ := asrt_e h1
        obtain ⟨x23, e23, h1⟩ := bnd_e h1
        refine se rfl rfl rfl (yl_call rfl rfl (.cons rfl (.cons rfl .nil)) cal43 (PC.mono (wstrS_c (id := 2) (ver := v5) (ib := 3) (vb := w0_2) (l := y0_3) (t := x19) (by decide) rfl rfl p22 p20) (R' := fun y H' => y = .tup [int (x19.length : Int), .sc .nilIface] ∧ ∃ vb', H' = upd (upd _ 3 (some (bufO 5 vb' x23))) 2 (some (bldO 79 2 v5 3 (some (vb', x23))))) (fun y H' h => by subst e23; exact h))) ?_; rintro _ _ ⟨rfl, v21, rfl⟩
        refine rg_nil (hK _ ?_)
        refine c_nil (bn4 _ ?_)
        refine c_reg ?_; intro K hK
        obtain ⟨x24, e24, h1⟩ := bnd_e h1
        refine st rfl rfl rfl (yv_add rfl rfl rfl e24) ?_
        refine st rfl rfl rfl (yv_move rfl rfl) ?_
        refine rg_nil (hK _ ?_)
        refine c_nil (ln3 _ ⟨(x24, x23), v21, h1, leH_kn ⟨⟨_, rfl, (.refl _)⟩, ⟨_, rfl, (.refl _)⟩, ⟨_, rfl, (.refl _)⟩, ⟨_, rfl, (.refl _)⟩, ⟨_, rfl, (.refl _)⟩, trivial⟩ ⟨⟨_, rfl, (.refl _)⟩, ⟨_, rfl, (.refl _)⟩, trivial⟩⟩)
      · intro hb; subst hb; replace h1 := cf h1
        refine c_exit (lx3 _ _ (bx2 _ ?_))
        obtain rfl := nxt_e h1
        refine c_nil (jn1 _ ⟨y0_3, w0_2, rfl, leH_kn ⟨⟨_, rfl, (.refl _)⟩, ⟨_, rfl, (.refl _)⟩, trivial⟩ ⟨⟨_, rfl, (.refl _)⟩, ⟨_, rfl, (.refl _)⟩, trivial⟩⟩)
    · rintro y1_2 w1_1 rfl
      refine c_show ⟨kn [(2, str ([] : List UInt8)), (3, .pt 2 v5 0 0)], hk [(2, ⟨79, 2, true, true, v5, [[.pt 2 v5 0 0, .sl 3 w1_1 0 y1_2.length]]⟩), (3, ⟨5, 1, true, true, w1_1, byteRows y1_2⟩)]⟩ ?_
      refine c_seq ?_
      refine c_reg ?_; intro K hK
      obtain ⟨p25, h0⟩ := asrt_e h0
      obtain ⟨p26, h0⟩ := asrt_e h0
      refine se rfl rfl rfl (yl_call rfl rfl (.cons rfl .nil) cal42 (bstr_c (id := 2) (ver := v5) (ib := 3) (vb := w1_1) (l := y1_2) rfl rfl p25 p26)) ?_; rintro _ _ ⟨rfl, rfl⟩
      refine st rfl rfl rfl (yv_assign rfl rfl) ?_
      refine rg_nil (hK _ ?_)
      obtain rfl := nxt_e h0
      refine c_ret (hret _ _ _ (.tmp rfl .nil) (fun _ _ h => h) ?_)
      exact .refl _
def d_master_Read_L0 (x7 : Int) : Nat → Int → (List UInt8) → Bool → (List (List Int)) → Option ((List UInt8) × Bool × (List (List Int)))
  | 0, _, _, _, _ => none
  | n + 1, y1_2, y1_3, y1_4, y1_5 =>
    bnd (decide (y1_2 < x7)) fun (x20 : Bool) =>
    cond x20 (asrt (((y1_3, y1_4) : RS).1.length ≤ 1099511627776) <|
    asrt (((y1_3, y1_4) : RS).2 = true → ((y1_3, y1_4) : RS).1 = []) <|
    bnd (lstV ((y1_3, y1_4) : RS) 5) fun (x23 : List Int) =>
    bnd (lstR ((y1_3, y1_4) : RS) 5) fun (x24 : RS) =>
    bnd (y1_5 ++ ([x23] : List (List Int))) fun (x25 : List (List Int)) =>
    asrt (x25.length ≤ 68719476736) <|
    bnd (w64 (y1_2 + 1)) fun (x28 : Int) =>
    d_master_Read_L0 x7 n (x28 : Int) (x24.1 : List UInt8) (x24.2 : Bool) (x25 : List (List Int))) (some ((y1_3 : List UInt8), (y1_4 : Bool), (y1_5 : List (List Int))))
def d_master_Read_L1 (x7 : Int) : Nat → Int → (List UInt8) → Bool → (List (List Int)) → Option ((List UInt8) × Bool × (List (List Int)))
  | 0, _, _, _, _ => none
  | n + 1, y4_2, y4_3, y4_4, y4_5 =>
    bnd (decide (y4_2 < x7)) fun (x32 : Bool) =>
    cond x32 (asrt (((y4_3, y4_4) : RS).1.length ≤ 1099511627776) <|
    asrt (((y4_3, y4_4) : RS).2 = true → ((y4_3, y4_4) : RS).1 = []) <|
    bnd (lstV ((y4_3, y4_4) : RS) 5) fun (x35 : List Int) =>
    bnd (lstR ((y4_3, y4_4) : RS) 5) fun (x36 : RS) =>
    bnd (y4_5 ++ ([x35] : List (List Int))) fun (x37 : List (List Int)) =>
    asrt (x37.length ≤ 68719476736) <|
    bnd (w64 (y4_2 + 1)) fun (x40 : Int) =>
    d_master_Read_L1 x7 n (x40 : Int) (x36.1 : List UInt8) (x36.2 : Bool) (x37 : List (List Int))) (some ((y4_3 : List UInt8), (y4_4 : Bool), (y4_5 : List (List Int))))
def d_master_Read (n : Nat) (a1 : List UInt8) : Option (GMaster × Int) :=
(show Option ((Unit)) from
some ()).bind <| fun (_ : Unit) =>
asrt (((a1, false) : RS).1.length ≤ 9223372036854775806) <|
bnd (cntV ((a1, false) : RS) 4) fun (x7 : Int) =>
bnd (cntR ((a1, false) : RS) 4) fun (x8 : RS) =>
asrt (x8.1.length ≤ 9223372036854775806) <|
bnd (cntV x8 12) fun (x10 : Int) =>
bnd (cntR x8 12) fun (x11 : RS) =>
asrt (x11.1.length ≤ 1099511627776) <|
asrt (x11.2 = true → x11.1 = []) <|
bnd (lstV x11 5) fun (x14 : List Int) =>
bnd (lstR x11 5) fun (x15 : RS) =>
(show Option (((List UInt8) × Bool × (List (List Int)))) from
(show Option ((List UInt8) × Bool × (List (List Int))) from
d_master_Read_L0 x7 n (0 : Int) (x15.1 : List UInt8) (x15.2 : Bool) (([] : List (List Int)) : List (List Int))).bind <| p2 fun (y2_2 : List UInt8) (q0 : Bool × (List (List Int))) => (p2 fun (y2_3 : Bool) (y2_4 : List (List Int)) =>
some ((y2_2 : List UInt8), (y2_3 : Bool), (y2_4 : List (List Int)))) q0).bind <| p2 fun (y3_2 : List UInt8) (q0 : Bool × (List (List Int))) => (p2 fun (y3_3 : Bool) (y3_4 : List (List Int)) =>
(show Option (((List UInt8) × Bool × (List (List Int)))) from
(show Option ((List UInt8) × Bool × (List (List Int))) from
d_master_Read_L1 x7 n (0 : Int) (y3_2 : List UInt8) (y3_3 : Bool) (([] : List (List Int)) : List (List Int))).bind <| p2 fun (y5_2 : List UInt8) (q0 : Bool × (List (List Int))) => (p2 fun (y5_3 : Bool) (y5_4 : List (List Int)) =>
some ((y5_2 : List UInt8), (y5_3 : Bool), (y5_4 : List (List Int)))) q0).bind <| p2 fun (y6_2 : List UInt8) (q0 : Bool × (List (List Int))) => (p2 fun (y6_3 : Bool) (y6_4 : List (List Int)) =>
(show Option (Bool) from
bnd (((y6_2, y6_3) : RS).2) fun (x42 : Bool) =>
cond x42 (some (true : Bool)) (bnd (decide ((((y6_2, y6_3) : RS).1.length : Int) > 0)) fun (x43 : Bool) =>
cond x43 (some (true : Bool)) ((d_master_Check n (⟨x7, x10, x14, y3_4, y6_4⟩ : GMaster)).bind fun (x44 : Bool) =>
bnd (!x44) fun (x45 : Bool) =>
some (x45 : Bool)))).bind <| fun (y7_1 : Bool) =>
cond y7_1 (some (((⟨0, 0, [], [], []⟩ : GMaster) : GMaster), (3 : Int))) (some (((⟨x7, x10, x14, y3_4, y6_4⟩ : GMaster) : GMaster), (0 : Int)))) q0) q0
theorem d_master_Read_c {n : Nat} {a1 : List UInt8} {r : GMaster × Int} (h0 : d_master_Read n a1 = some r) : PP Try.prog 26 [str a1] (fun y => y = .tup [.agg (GMaster.av r.1), int r.2]) := by
  unfold d_master_Read at h0
  refine pp_of_pc (R0 := fun y H => Cv (frzH H) y (.tup [.agg (GMaster.av r.1), int r.2])) ?_ (fun y H hc => ⟨_, rfl, .tup (pvl2 ((fun (a : GMaster) => PV.agg (GMaster.pvc a)) (r.1)) (pvI (r.2))), hc⟩)
  refine pc_of' (c := _) Try.func26 rfl rfl ?_; intro Q hret hnorm
  refine c_seq ?_
  refine c_reg ?_; intro K hK
  refine se rfl rfl rfl (yl_alloc 1 .any rfl z43 rfl) ?_; rintro _ _ ⟨v2, -, rfl, rfl⟩
  refine st rfl rfl rfl (yv_assign rfl rfl) ?_
  refine rg_nil (hK _ ?_)
  refine c_seq ?_
  refine c_reg ?_; intro K hK
  refine st rfl rfl rfl (yv_move rfl rfl) ?_
  obtain ⟨j3, h1, h0⟩ := bind_e h0
  refine se (Out := fun y H' => (∃ (a : Unit) (k : Nat), a = j3 ∧ y = .pt 2 k 0 0 ∧ H' = hk [(1, ⟨43, 5, true, true, v2, [[int 0, int 0, .sc (.slice none 0 0), .sc (.slice none 0 0), .sc (.slice none 0 0)]]⟩), (2, ⟨75, 2, true, true, k, [[str a1, boo false]]⟩)])) rfl rfl rfl (yl_call rfl rfl (.cons rfl .nil) cal10 ?_) ?_
  · refine pc_of' (c := _) Try.func10 rfl rfl ?_; intro Q hret hnorm
    refine c_seq ?_
    refine c_reg ?_; intro K hK
    refine st rfl rfl rfl (yv_assign rfl rfl) ?_
    refine rg_nil (hK _ ?_)
    refine c_seq ?_
    refine c_reg ?_; intro K hK
    refine st rfl rfl rfl (yv_move rfl rfl) ?_
    refine st rfl rfl rfl (yv_build (cs := [str a1, boo false]) (ps := [(0, _)]) rfl pl75 z75 rfl (.cons rfl .nil) (by kernel_rfl)) ?_
    refine se rfl rfl rfl (yl_box 2 .any rfl rfl rfl) ?_; rintro _ _ ⟨v4, -, rfl, rfl⟩
    refine st rfl rfl rfl (yv_assign rfl rfl) ?_
    refine rg_nil (hK _ ?_)
    obtain rfl := nxt_e h1
    refine c_ret (hret _ _ (hk [(1, ⟨43, 5, true, true, v2, [[int 0, int 0, .sc (.slice none 0 0), .sc (.slice none 0 0), .sc (.slice none 0 0)]]⟩), (2, ⟨75, 2, true, true, v4, [[str a1, boo false]]⟩)]) (.tmp rfl .nil) (HK.le ⟨rfl, rfl, trivial⟩) ?_)
    exact ⟨(), v4, rfl, rfl, rfl⟩
  · rintro y _ ⟨_, w0_1, rfl, hc, rfl⟩
    subst hc
    refine se rfl rfl rfl (yl_alloc 3 .any rfl z24 rfl) ?_; rintro _ _ ⟨v5, -, rfl, rfl⟩
    refine sstore rfl rfl (yl_ob (ob' := (⟨24, 1, true, true, v5, [[.pt 2 w0_1 0 0]]⟩ : AObj)) (yl_store rfl sh24 rfl rfl rfl rfl rfl rfl rfl rfl rfl) rfl) ?_
    refine rg_nil (hK _ ?_)
    refine c_seq ?_
    refine c_draw [0, 1, 0, 7, 0, 31, 63, 0, 255] (fun i k => bif Nat.beq i 0 then (Nat.beq k 3) else bif Nat.beq i 1 then (Nat.beq k 2) else bif Nat.beq i 2 then (Nat.beq k 3) else bif Nat.beq i 3 then (Nat.beq k 2) else bif Nat.beq i 4 then (Nat.beq k 3) else bif Nat.beq i 5 then (Nat.beq k 2 || Nat.beq k 17002 || Nat.beq k 17005) else bif Nat.beq i 8 then (Nat.beq k 4) else false) (fun i => bif Nat.beq i 1 then (some 2) else bif Nat.beq i 3 then (some 2) else bif Nat.beq i 5 then (some 2) else bif Nat.beq i 7 then (some 4) else bif Nat.beq i 8 then (some 4) else none) mixed (by kernel_rfl) ?_; intro C K hK
    refine dg_pure rfl (fun H hH => yv_load rfl sh24 rfl (.pt ((hH _ rfl).trans rfl) rfl rfl) rfl) ?_
    obtain ⟨p6, h0⟩ := asrt_e h0
    obtain ⟨x7, e7, h0⟩ := bnd_e h0
    obtain ⟨x8, e8, h0⟩ := bnd_e h0
    refine dg_eff rfl rfl (fun H hH => (yl_callW (ob := rdr 75 w0_1 ((a1, false) : RS)) (ob' := rdr 75 w0_1 x8) rfl rfl (.cons rfl (.cons rfl .nil)) cal14 (PC.mono (countP_c (most := 4) (s := ((a1, false) : RS)) (id := 2) (ver := w0_1) ((hH _ rfl).trans rfl) p6) (R' := fun y H' => y = int x7 ∧ H' = upd H 2 (some (rdr 75 w0_1 x8))) (fun y H' h => ⟨h.1.trans (congrArg int e7), h.2.trans (rdr_cong e8)⟩)) (.sc _) ((hH _ rfl).trans rfl) rfl pv_rdr).weak (fun _ h => h.elim) (fun _ h => h.elim)) ?_
    refine dg_pure rfl (fun H hH => yv_load rfl sh24 rfl (.pt ((hH _ rfl).trans rfl) rfl rfl) rfl) ?_
    obtain ⟨p9, h0⟩ := asrt_e h0
    obtain ⟨x10, e10, h0⟩ := bnd_e h0
    obtain ⟨x11, e11, h0⟩ := bnd_e h0
    refine dg_eff rfl rfl (fun H hH => (yl_callW (ob := rdr 75 w0_1 x8) (ob' := rdr 75 w0_1 x11) rfl rfl (.cons rfl (.cons rfl .nil)) cal14 (PC.mono (countP_c (most := 12) (s := x8) (id := 2) (ver := w0_1) ((hH _ rfl).trans rfl) p9) (R' := fun y H' => y = int x10 ∧ H' = upd H 2 (some (rdr 75 w0_1 x11))) (fun y H' h => ⟨h.1.trans (congrArg int e10), h.2.trans (rdr_cong e11)⟩)) (.sc _) ((hH _ rfl).trans rfl) rfl pv_rdr).weak (fun _ h => h.elim) (fun _ h => h.elim)) ?_
    refine dg_pure rfl (fun H hH => yv_load rfl sh24 rfl (.pt ((hH _ rfl).trans rfl) rfl rfl) rfl) ?_
    obtain ⟨p12, h0⟩ := asrt_e h0
    obtain ⟨p13, h0⟩ := asrt_e h0
    obtain ⟨x14, e14, h0⟩ := bnd_e h0
    obtain ⟨x15, e15, h0⟩ := bnd_e h0
    refine dg_eff rfl rfl (fun H hH => (yl_callW (ob := rdr 75 w0_1 x11) (ob' := rdr 75 w0_1 x15) rfl rfl (.cons rfl (.cons rfl .nil)) cal17 (PC.mono (listP_c (most := 5) (s := x11) (id := 2) (ver := w0_1) ((hH _ rfl).trans rfl) p12 p13 ((hH _ rfl).trans rfl) ((hH _ rfl).trans rfl)) (R' := fun y H' => y = ints x14 ∧ H' = upd H 2 (some (rdr 75 w0_1 x15))) (fun y H' h => ⟨h.1.trans (congrArg ints e14), h.2.trans (rdr_cong e15)⟩)) (pv_ints _) ((hH _ rfl).trans rfl) rfl pv_rdr).weak (fun _ h => h.elim) (fun _ h => h.elim)) ?_
    refine dg_pure rfl (fun H hH => yv_build (cs := [int x7, int x10, lst 1 fI x14, .sc (.slice none 0 0), .sc (.slice none 0 0)]) (ps := [(0, _), (1, _), (2, _)]) rfl pl43 z43 rfl (.cons rfl (.cons rfl (.cons rfl .nil))) (by kernel_rfl)) ?_
    refine dg_eff rfl rfl (fun H hH => yl_alloc1 4 rfl z43 rfl) ?_; generalize C + 7 = v16
    refine dg_store rfl rfl rfl (fun H hH => yl_ob (ob' := (⟨43, 5, true, true, v16, [[int x7, int x10, lst 1 fI x14, .sc (.slice none 0 0), .sc (.slice none 0 0)]]⟩ : AObj)) (yl_store rfl sh43 rfl rfl ((hH _ rfl).trans rfl) rfl rfl rfl rfl rfl rfl) rfl) ?_
    refine dg_nil (hK _ ?_)
    refine c_seq ?_
    refine c_reg ?_; intro K hK
    refine st rfl rfl rfl (yv_makeFunc rfl .nil (.cons rfl (.cons rfl .nil))) ?_
    refine st rfl rfl rfl (yv_assign rfl rfl) ?_
    refine rg_nil (hK _ ?_)
    refine c_seq ?_
    refine c_reg ?_; intro K hK
    refine st rfl rfl rfl (yv_move rfl rfl) ?_
    obtain ⟨j17, h1, h0⟩ := bind_e h0
    refine se (Out := fun y H' => (∃ (a : (List UInt8) × Bool × (List (List Int))) (k : Nat), a = j17 ∧ y = .sl 5 k 0 a.2.2.length ∧ H' = hk [(1, ⟨43, 5, true, true, v2, [[int 0, int 0, .sc (.slice none 0 0), .sc (.slice none 0 0), .sc (.slice none 0 0)]]⟩), (2, ⟨75, 2, true, true, w0_1, [[str a.1, boo a.2.1]]⟩), (3, ⟨24, 1, true, true, v5, [[.pt 2 w0_1 0 0]]⟩), (4, ⟨43, 5, true, true, v16, [[int x7, int x10, lst 1 fI x14, .sc (.slice none 0 0), .sc (.slice none 0 0)]]⟩), (5, ⟨22, 1, true, true, k, a.2.2.map (fL 1 fI)⟩)])) rfl rfl rfl (yl_call rfl rfl .nil cal44 ?_) ?_
    · refine pc_of' (c := _) Try.func44 rfl rfl ?_; intro Q hret hnorm
      refine c_seq ?_
      refine c_reg ?_; intro K hK
      refine st rfl rfl rfl (yv_assign rfl rfl) ?_
      refine rg_nil (hK _ ?_)
      refine c_seq ?_
      refine c_reg ?_; intro K hK
      refine st rfl rfl rfl (yv_assign rfl rfl) ?_
      refine rg_nil (hK _ ?_)
      refine c_seq ?_
      refine c_seq ?_
      refine c_reg ?_; intro K hK
      refine st rfl rfl rfl (yv_fieldAddr rfl fo43_0 rfl (.pt rfl rfl rfl) (.pt _ _ _ _ _)) ?_
      refine st rfl rfl rfl (yv_load rfl sh3 rfl (.pt rfl rfl rfl) rfl) ?_
      refine st rfl rfl rfl (yv_move rfl rfl) ?_
      refine rg_nil (hK _ ?_)
      obtain ⟨j18, h2, h1⟩ := bind_e h1
      refine c_joinL (fun (a : (List UInt8) × Bool × (List (List Int))) (k : Nat) => ⟨kn [(2, .sc (.slice none 0 0)), (3, .sl 5 k 0 a.2.2.length)], hk [(1, ⟨43, 5, true, true, v2, [[int 0, int 0, .sc (.slice none 0 0), .sc (.slice none 0 0), .sc (.slice none 0 0)]]⟩), (2, ⟨75, 2, true, true, w0_1, [[str a.1, boo a.2.1]]⟩), (3, ⟨24, 1, true, true, v5, [[.pt 2 w0_1 0 0]]⟩), (4, ⟨43, 5, true, true, v16, [[int x7, int x10, lst 1 fI x14, .sc (.slice none 0 0), .sc (.slice none 0 0)]]⟩), (5, ⟨22, 1, true, true, k, a.2.2.map (fL 1 fI)⟩)]⟩) (fun a => a = j18) ?_ ?_
      · intro Q1 jn1 jx1 jr1
        refine c_block ?_; intro Q2 bn2 bx2 br2 bo2
        refine c_nilobj 3 5 22 1 rfl rfl ?_; intro v19
        refine c_loopD (fun (a : Int × (List UInt8) × Bool × (List (List Int))) (k : Nat) => ⟨kn [(1, .pt 3 v5 0 0), (2, .sc (.slice none 0 0)), (3, .sl 5 k 0 a.2.2.2.length), (5, int x7), (6, int a.1)], hk [(1, ⟨43, 5, true, true, v2, [[int 0, int 0, .sc (.slice none 0 0), .sc (.slice none 0 0), .sc (.slice none 0 0)]]⟩), (2, ⟨75, 2, true, true, w0_1, [[str a.2.1, boo a.2.2.1]]⟩), (3, ⟨24, 1, true, true, v5, [[.pt 2 w0_1 0 0]]⟩), (4, ⟨43, 5, true, true, v16, [[int x7, int x10, lst 1 fI x14, .sc (.slice none 0 0), .sc (.slice none 0 0)]]⟩), (5, ⟨22, 1, true, true, k, a.2.2.2.map (fL 1 fI)⟩)]⟩) (fun n (a : Int × (List UInt8) × Bool × (List (List Int))) => d_master_Read_L0 x7 n a.1 a.2.1 a.2.2.1 a.2.2.2) ((0 : Int), (x15.1 : List UInt8), (x15.2 : Bool), (([] : List (List Int)) : List (List Int))) v19 h2 (fun _ => rfl)
          (leH_kn ⟨⟨_, rfl, (.refl _)⟩, ⟨_, rfl, (.refl _)⟩, ⟨_, rfl, (.refl _)⟩, ⟨_, rfl, (.refl _)⟩, ⟨_, rfl, (.refl _)⟩, trivial⟩ ⟨⟨_, rfl, (.refl _)⟩, ⟨_, rfl, (.refl _)⟩, ⟨_, rfl, (.refl _)⟩, ⟨_, rfl, (.refl _)⟩, ⟨_, rfl, (.refl _)⟩, trivial⟩) ?_
        rintro n ⟨y1_2, y1_3, y1_4, y1_5⟩ w1_1 hm h2 Q3 ln3 lx3 lr3
        replace h2 : d_master_Read_L0 x7 (n + 1) y1_2 y1_3 y1_4 y1_5 = some _ := h2
        rw [d_master_Read_L0] at h2
        refine c_show ⟨kn [(1, .pt 3 v5 0 0), (2, .sc (.slice none 0 0)), (3, .sl 5 w1_1 0 y1_5.length), (5, int x7), (6, int y1_2)], hk [(1, ⟨43, 5, true, true, v2, [[int 0, int 0, .sc (.slice none 0 0), .sc (.slice none 0 0), .sc (.slice none 0 0)]]⟩), (2, ⟨75, 2, true, true, w0_1, [[str y1_3, boo y1_4]]⟩), (3, ⟨24, 1, true, true, v5, [[.pt 2 w0_1 0 0]]⟩), (4, ⟨43, 5, true, true, v16, [[int x7, int x10, lst 1 fI x14, .sc (.slice none 0 0), .sc (.slice none 0 0)]]⟩), (5, ⟨22, 1, true, true, w1_1, y1_5.map (fL 1 fI)⟩)]⟩ ?_
        refine c_seq ?_
        refine c_reg ?_; intro K hK
        obtain ⟨x20, e20, h2⟩ := bnd_e h2
        refine st rfl rfl rfl (yv_to (y := boo x20) (yv_lss rfl rfl rfl) (congrArg boo e20)) ?_
        refine rg_nil (hK _ ?_)
        refine c_seq ?_
        refine c_if (b := x20) rfl ?_ ?_
        · intro hb; subst hb; replace h2 := ct h2
          refine c_skip ?_
          refine c_seq ?_
          refine c_block ?_; intro Q4 bn4 bx4 br4 bo4
          refine c_reg ?_; intro K hK
          refine st rfl rfl rfl (yv_move rfl rfl) ?_
          refine st rfl rfl rfl (yv_load rfl sh24 rfl (.pt rfl rfl rfl) rfl) ?_
          obtain ⟨p21, h2⟩ := asrt_e h2
          obtain ⟨p22, h2⟩ := asrt_e h2
          obtain ⟨x23, e23, h2⟩ := bnd_e h2
          obtain ⟨x24, e24, h2⟩ := bnd_e h2
          refine se rfl rfl rfl (yl_call rfl rfl (.cons rfl (.cons rfl .nil)) cal17 (PC.mono (listP_c (most := 5) (s := ((y1_3, y1_4) : RS)) (id := 2) (ver := w0_1) rfl p21 p22 rfl rfl) (R' := fun y H' => y = ints x23 ∧ H' = upd _ 2 (some (rdr 75 w0_1 x24))) (fun y H' h => ⟨h.1.trans (congrArg ints e23), h.2.trans (rdr_cong e24)⟩))) ?_; rintro _ _ ⟨rfl, rfl⟩
          refine st rfl rfl rfl (yv_to (y := lst 1 (fL 1 fI) ([x23] : List (List Int))) (yv_buildSlice (ps := [(0, _)]) (rows := [[lst 1 fI x23]]) rfl Try.underlying41 bz22 (.cons rfl .nil) (by kernel_rfl) rfl rfl rfl) rfl) ?_
          obtain ⟨x25, e25, h2⟩ := bnd_e h2
          obtain ⟨p26, h2⟩ := asrt_e h2
          refine se rfl rfl rfl (yl_appT (g := (fL 1 fI)) (l := y1_5) (m := ([x23] : List (List Int))) .any rfl Try.underlying41 bz22 by22 rfl rfl rfl rfl rfl rfl rfl rfl rfl rfl (Eq.symm rfl) (.refl _) (fun _ => rfl) e25 p26) ?_; rintro _ _ ⟨v27, -, rfl, rfl⟩
          refine st rfl rfl rfl (yv_assign rfl rfl) ?_
          refine rg_nil (hK _ ?_)
          refine c_nil (bn4 _ ?_)
          refine c_reg ?_; intro K hK
          obtain ⟨x28, e28, h2⟩ := bnd_e h2
          refine st rfl rfl rfl (yv_add rfl rfl rfl e28) ?_
          refine st rfl rfl rfl (yv_move rfl rfl) ?_
          refine rg_nil (hK _ ?_)
          refine c_nil (ln3 _ ⟨(x28, x24.1, x24.2, x25), v27, h2, leH_kn ⟨⟨_, rfl, (.refl _)⟩, ⟨_, rfl, (.refl _)⟩, ⟨_, rfl, (.refl _)⟩, ⟨_, rfl, (.refl _)⟩, ⟨_, rfl, (.refl _)⟩, trivial⟩ ⟨⟨_, rfl, (.refl _)⟩, ⟨_, rfl, (.refl _)⟩, ⟨_, rfl, (.refl _)⟩, ⟨_, rfl, (.refl _)⟩, ⟨_, rfl, (.refl _)⟩, trivial⟩⟩)
        · intro hb; subst hb; replace h2 := cf h2
          refine c_exit (lx3 _ _ (bx2 _ ?_))
          obtain rfl := nxt_e h2
          refine c_nil (jn1 _ ⟨(y1_3, y1_4, y1_5), w1_1, rfl, leH_kn ⟨⟨_, rfl, (.refl _)⟩, ⟨_, rfl, (.refl _)⟩, trivial⟩ ⟨⟨_, rfl, (.refl _)⟩, ⟨_, rfl, (.refl _)⟩, ⟨_, rfl, (.refl _)⟩, ⟨_, rfl, (.refl _)⟩, ⟨_, rfl, (.refl _)⟩, trivial⟩⟩)
      · rintro ⟨y2_2, y2_3, y2_4⟩ w2_1 rfl
        replace h1 := p2_e h1
        replace h1 := p2_e h1
        refine c_show ⟨kn [(2, .sc (.slice none 0 0)), (3, .sl 5 w2_1 0 y2_4.length)], hk [(1, ⟨43, 5, true, true, v2, [[int 0, int 0, .sc (.slice none 0 0), .sc (.slice none 0 0), .sc (.slice none 0 0)]]⟩), (2, ⟨75, 2, true, true, w0_1, [[str y2_2, boo y2_3]]⟩), (3, ⟨24, 1, true, true, v5, [[.pt 2 w0_1 0 0]]⟩), (4, ⟨43, 5, true, true, v16, [[int x7, int x10, lst 1 fI x14, .sc (.slice none 0 0), .sc (.slice none 0 0)]]⟩), (5, ⟨22, 1, true, true, w2_1, y2_4.map (fL 1 fI)⟩)]⟩ ?_
        refine c_seq ?_
        refine c_reg ?_; intro K hK
        refine st rfl rfl rfl (yv_move rfl rfl) ?_
        refine st rfl rfl rfl (yv_assign rfl rfl) ?_
        refine rg_nil (hK _ ?_)
        obtain rfl := nxt_e h1
        refine c_ret (hret _ _ (hk [(1, ⟨43, 5, true, true, v2, [[int 0, int 0, .sc (.slice none 0 0), .sc (.slice none 0 0), .sc (.slice none 0 0)]]⟩), (2, ⟨75, 2, true, true, w0_1, [[str y2_2, boo y2_3]]⟩), (3, ⟨24, 1, true, true, v5, [[.pt 2 w0_1 0 0]]⟩), (4, ⟨43, 5, true, true, v16, [[int x7, int x10, lst 1 fI x14, .sc (.slice none 0 0), .sc (.slice none 0 0)]]⟩), (5, ⟨22, 1, true, true, w2_1, y2_4.map (fL 1 fI)⟩)]) (.tmp rfl .nil) (HK.le ⟨rfl, rfl, rfl, rfl, rfl, trivial⟩) ?_)
        exact ⟨(y2_2, y2_3, y2_4), w2_1, rfl, rfl, rfl⟩
    · rintro y _ ⟨⟨y3_2, y3_3, y3_4⟩, w3_1, rfl, hc, rfl⟩
      replace h0 := p2_e h0
      replace h0 := p2_e h0
      subst hc
      refine st rfl rfl rfl (yv_fieldAddr rfl fo43_3 rfl (.pt rfl rfl rfl) (.pt _ _ _ _ _)) ?_
      refine sstore rfl rfl (yl_ob (ob' := (⟨43, 5, true, true, v16, [[int x7, int x10, lst 1 fI x14, .sl 5 w3_1 0 y3_4.length, .sc (.slice none 0 0)]]⟩ : AObj)) (yl_store rfl sh41 rfl rfl rfl rfl rfl rfl rfl rfl rfl) rfl) ?_
      refine rg_nil (hK _ ?_)
      refine c_seq ?_
      refine c_reg ?_; intro K hK
      refine st rfl rfl rfl (yv_move rfl rfl) ?_
      obtain ⟨j29, h1, h0⟩ := bind_e h0
      refine se (Out := fun y H' => (∃ (a : (List UInt8) × Bool × (List (List Int))) (k : Nat), a = j29 ∧ y = .sl 6 k 0 a.2.2.length ∧ H' = hk [(1, ⟨43, 5, true, true, v2, [[int 0, int 0, .sc (.slice none 0 0), .sc (.slice none 0 0), .sc (.slice none 0 0)]]⟩), (2, ⟨75, 2, true, true, w0_1, [[str a.1, boo a.2.1]]⟩), (3, ⟨24, 1, true, true, v5, [[.pt 2 w0_1 0 0]]⟩), (4, ⟨43, 5, true, true, v16, [[int x7, int x10, lst 1 fI x14, .sl 5 w3_1 0 y3_4.length, .sc (.slice none 0 0)]]⟩), (5, ⟨22, 1, true, true, w3_1, y3_4.map (fL 1 fI)⟩), (6, ⟨22, 1, true, true, k, a.2.2.map (fL 1 fI)⟩)])) rfl rfl rfl (yl_call rfl rfl .nil cal44 ?_) ?_
      · refine pc_of' (c := _) Try.func44 rfl rfl ?_; intro Q hret hnorm
        refine c_seq ?_
        refine c_reg ?_; intro K hK
        refine st rfl rfl rfl (yv_assign rfl rfl) ?_
        refine rg_nil (hK _ ?_)
        refine c_seq ?_
        refine c_reg ?_; intro K hK
        refine st rfl rfl rfl (yv_assign rfl rfl) ?_
        refine rg_nil (hK _ ?_)
        refine c_seq ?_
        refine c_seq ?_
        refine c_reg ?_; intro K hK
        refine st rfl rfl rfl (yv_fieldAddr rfl fo43_0 rfl (.pt rfl rfl rfl) (.pt _ _ _ _ _)) ?_
        refine st rfl rfl rfl (yv_load rfl sh3 rfl (.pt rfl rfl rfl) rfl) ?_
        refine st rfl rfl rfl (yv_move rfl rfl) ?_
        refine rg_nil (hK _ ?_)
        obtain ⟨j30, h2, h1⟩ := bind_e h1
        refine c_joinL (fun (a : (List UInt8) × Bool × (List (List Int))) (k : Nat) => ⟨kn [(2, .sc (.slice none 0 0)), (3, .sl 6 k 0 a.2.2.length)], hk [(1, ⟨43, 5, true, true, v2, [[int 0, int 0, .sc (.slice none 0 0), .sc (.slice none 0 0), .sc (.slice none 0 0)]]⟩), (2, ⟨75, 2, true, true, w0_1, [[str a.1, boo a.2.1]]⟩), (3, ⟨24, 1, true, true, v5, [[.pt 2 w0_1 0 0]]⟩), (4, ⟨43, 5, true, true, v16, [[int x7, int x10, lst 1 fI x14, .sl 5 w3_1 0 y3_4.length, .sc (.slice none 0 0)]]⟩), (5, ⟨22, 1, true, true, w3_1, y3_4.map (fL 1 fI)⟩), (6, ⟨22, 1, true, true, k, a.2.2.map (fL 1 fI)⟩)]⟩) (fun a => a = j30) ?_ ?_
        · intro Q1 jn1 jx1 jr1
          refine c_block ?_; intro Q2 bn2 bx2 br2 bo2
          refine c_nilobj 3 6 22 1 rfl rfl ?_; intro v31
          refine c_loopD (fun (a : Int × (List UInt8) × Bool × (List (List Int))) (k : Nat) => ⟨kn [(1, .pt 3 v5 0 0), (2, .sc (.slice none 0 0)), (3, .sl 6 k 0 a.2.2.2.length), (5, int x7), (6, int a.1)], hk [(1, ⟨43, 5, true, true, v2, [[int 0, int 0, .sc (.slice none 0 0), .sc (.slice none 0 0), .sc (.slice none 0 0)]]⟩), (2, ⟨75, 2, true, true, w0_1, [[str a.2.1, boo a.2.2.1]]⟩), (3, ⟨24, 1, true, true, v5, [[.pt 2 w0_1 0 0]]⟩), (4, ⟨43, 5, true, true, v16, [[int x7, int x10, lst 1 fI x14, .sl 5 w3_1 0 y3_4.length, .sc (.slice none 0 0)]]⟩), (5, ⟨22, 1, true, true, w3_1, y3_4.map (fL 1 fI)⟩), (6, ⟨22, 1, true, true, k, a.2.2.2.map (fL 1 fI)⟩)]⟩) (fun n (a : Int × (List UInt8) × Bool × (List (List Int))) => d_master_Read_L1 x7 n a.1 a.2.1 a.2.2.1 a.2.2.2) ((0 : Int), (y3_2 : List UInt8), (y3_3 : Bool), (([] : List (List Int)) : List (List Int))) v31 h2 (fun _ => rfl)
            (leH_kn ⟨⟨_, rfl, (.refl _)⟩, ⟨_, rfl, (.refl _)⟩, ⟨_, rfl, (.refl _)⟩, ⟨_, rfl, (.refl _)⟩, ⟨_, rfl, (.refl _)⟩, trivial⟩ ⟨⟨_, rfl, (.refl _)⟩, ⟨_, rfl, (.refl _)⟩, ⟨_, rfl, (.refl _)⟩, ⟨_, rfl, (.refl _)⟩, ⟨_, rfl, (.refl _)⟩, ⟨_, rfl, (.refl _)⟩, trivial⟩) ?_
          rintro n ⟨y4_2, y4_3, y4_4, y4_5⟩ w4_1 hm h2 Q3 ln3 lx3 lr3
          replace h2 : d_master_Read_L1 x7 (n + 1) y4_2 y4_3 y4_4 y4_5 = some _ := h2
          rw [d_master_Read_L1] at h2
          refine c_show ⟨kn [(1, .pt 3 v5 0 0), (2, .sc (.slice none 0 0)), (3, .sl 6 w4_1 0 y4_5.length), (5, int x7), (6, int y4_2)], hk [(1, ⟨43, 5, true, true, v2, [[int 0, int 0, .sc (.slice none 0 0), .sc (.slice none 0 0), .sc (.slice none 0 0)]]⟩), (2, ⟨75, 2, true, true, w0_1, [[str y4_3, boo y4_4]]⟩), (3, ⟨24, 1, true, true, v5, [[.pt 2 w0_1 0 0]]⟩), (4, ⟨43, 5, true, true, v16, [[int x7, int x10, lst 1 fI x14, .sl 5 w3_1 0 y3_4.length, .sc (.slice none 0 0)]]⟩), (5, ⟨22, 1, true, true, w3_1, y3_4.map (fL 1 fI)⟩), (6, ⟨22, 1, true, true, w4_1, y4_5.map (fL 1 fI)⟩)]⟩ ?_
          refine c_seq ?_
          refine c_reg ?_; intro K hK
          obtain ⟨x32, e32, h2⟩ := bnd_e h2
          refine st rfl rfl rfl (yv_to (y := boo x32) (yv_lss rfl rfl rfl) (congrArg boo e32)) ?_
          refine rg_nil (hK _ ?_)
          refine c_seq ?_
          refine c_if (b := x32) rfl ?_ ?_
          · intro hb; subst hb; replace h2 := ct h2
            refine c_skip ?_
            refine c_seq ?_
            refine c_block ?_; intro Q4 bn4 bx4 br4 bo4
            refine c_reg ?_; intro K hK
            refine st rfl rfl rfl (yv_move rfl rfl) ?_
            refine st rfl rfl rfl (yv_load rfl sh24 rfl (.pt rfl rfl rfl) rfl) ?_
            obtain ⟨p33, h2⟩ := asrt_e h2
            obtain ⟨p34, h2⟩ := asrt_e h2
            obtain ⟨x35, e35, h2⟩ := bnd_e h2
            obtain ⟨x36, e36, h2⟩ := bnd_e h2
            refine se rfl rfl rfl (yl_call rfl rfl (.cons rfl (.cons rfl .nil)) cal17 (PC.mono (listP_c (most := 5) (s := ((y4_3, y4_4) : RS)) (id := 2) (ver := w0_1) rfl p33 p34 rfl rfl) (R' := fun y H' => y = ints x35 ∧ H' = upd _ 2 (some (rdr 75 w0_1 x36))) (fun y H' h => ⟨h.1.trans (congrArg ints e35), h.2.trans (rdr_cong e36)⟩))) ?_; rintro _ _ ⟨rfl, rfl⟩
            refine st rfl rfl rfl (yv_to (y := lst 1 (fL 1 fI) ([x35] : List (List Int))) (yv_buildSlice (ps := [(0, _)]) (rows := [[lst 1 fI x35]]) rfl Try.underlying41 bz22 (.cons rfl .nil) (by kernel_rfl) rfl rfl rfl) rfl) ?_
            obtain ⟨x37, e37, h2⟩ := bnd_e h2
            obtain ⟨p38, h2⟩ := asrt_e h2
            refine se rfl rfl rfl (yl_appT (g := (fL 1 fI)) (l := y4_5) (m := ([x35] : List (List Int))) .any rfl Try.underlying41 bz22 by22 rfl rfl rfl rfl rfl rfl rfl rfl rfl rfl (Eq.symm rfl) (.refl _) (fun _ => rfl) e37 p38) ?_; rintro _ _ ⟨v39, -, rfl, rfl⟩
            refine st rfl rfl rfl (yv_assign rfl rfl) ?_
            refine rg_nil (hK _ ?_)
            refine c_nil (bn4 _ ?_)
            refine c_reg ?_; intro K hK
            obtain ⟨x40, e40, h2⟩ := bnd_e h2
            refine st rfl rfl rfl (yv_add rfl rfl rfl e40) ?_
            refine st rfl rfl rfl (yv_move rfl rfl) ?_
            refine rg_nil (hK _ ?_)
            refine c_nil (ln3 _ ⟨(x40, x36.1, x36.2, x37), v39, h2, leH_kn ⟨⟨_, rfl, (.refl _)⟩, ⟨_, rfl, (.refl _)⟩, ⟨_, rfl, (.refl _)⟩, ⟨_, rfl, (.refl _)⟩, ⟨_, rfl, (.refl _)⟩, trivial⟩ ⟨⟨_, rfl, (.refl _)⟩, ⟨_, rfl, (.refl _)⟩, ⟨_, rfl, (.refl _)⟩, ⟨_, rfl, (.refl _)⟩, ⟨_, rfl, (.refl _)⟩, ⟨_, rfl, (.refl _)⟩, trivial⟩⟩)
          · intro hb; subst hb; replace h2 := cf h2
            refine c_exit (lx3 _ _ (bx2 _ ?_))
            obtain rfl := nxt_e h2
            refine c_nil (jn1 _ ⟨(y4_3, y4_4, y4_5), w4_1, rfl, leH_kn ⟨⟨_, rfl, (.refl _)⟩, ⟨_, rfl, (.refl _)⟩, trivial⟩ ⟨⟨_, rfl, (.refl _)⟩, ⟨_, rfl, (.refl _)⟩, ⟨_, rfl, (.refl _)⟩, ⟨_, rfl, (.refl _)⟩, ⟨_, rfl, (.refl _)⟩, ⟨_, rfl, (.refl _)⟩, trivial⟩⟩)
        · rintro ⟨y5_2, y5_3, y5_4⟩ w5_1 rfl
          replace h1 := p2_e h1
          replace h1 := p2_e h1
          refine c_show ⟨kn [(2, .sc (.slice none 0 0)), (3, .sl 6 w5_1 0 y5_4.length)], hk [(1, ⟨43, 5, true, true, v2, [[int 0, int 0, .sc (.slice none 0 0), .sc (.slice none 0 0), .sc (.slice none 0 0)]]⟩), (2, ⟨75, 2, true, true, w0_1, [[str y5_2, boo y5_3]]⟩), (3, ⟨24, 1, true, true, v5, [[.pt 2 w0_1 0 0]]⟩), (4, ⟨43, 5, true, true, v16, [[int x7, int x10, lst 1 fI x14, .sl 5 w3_1 0 y3_4.length, .sc (.slice none 0 0)]]⟩), (5, ⟨22, 1, true, true, w3_1, y3_4.map (fL 1 fI)⟩), (6, ⟨22, 1, true, true, w5_1, y5_4.map (fL 1 fI)⟩)]⟩ ?_
          refine c_seq ?_
          refine c_reg ?_; intro K hK
          refine st rfl rfl rfl (yv_move rfl rfl) ?_
          refine st rfl rfl rfl (yv_assign rfl rfl) ?_
          refine rg_nil (hK _ ?_)
          obtain rfl := nxt_e h1
          refine c_ret (hret _ _ (hk [(1, ⟨43, 5, true, true, v2, [[int 0, int 0, .sc (.slice none 0 0), .sc (.slice none 0 0), .sc (.slice none 0 0)]]⟩), (2, ⟨75, 2, true, true, w0_1, [[str y5_2, boo y5_3]]⟩), (3, ⟨24, 1, true, true, v5, [[.pt 2 w0_1 0 0]]⟩), (4, ⟨43, 5, true, true, v16, [[int x7, int x10, lst 1 fI x14, .sl 5 w3_1 0 y3_4.length, .sc (.slice none 0 0)]]⟩), (5, ⟨22, 1, true, true, w3_1, y3_4.map (fL 1 fI)⟩), (6, ⟨22, 1, true, true, w5_1, y5_4.map (fL 1 fI)⟩)]) (.tmp rfl .nil) (HK.le ⟨rfl, rfl, rfl, rfl, rfl, rfl, trivial⟩) ?_)
          exact ⟨(y5_2, y5_3, y5_4), w5_1, rfl, rfl, rfl⟩
      · rintro y _ ⟨⟨y6_2, y6_3, y6_4⟩, w6_1, rfl, hc, rfl⟩
        replace h0 := p2_e h0
        replace h0 := p2_e h0
        subst hc
        refine st rfl rfl rfl (yv_fieldAddr rfl fo43_4 rfl (.pt rfl rfl rfl) (.pt _ _ _ _ _)) ?_
        refine sstore rfl rfl (yl_ob (ob' := (⟨43, 5, true, true, v16, [[int x7, int x10, lst 1 fI x14, .sl 5 w3_1 0 y3_4.length, .sl 6 w6_1 0 y6_4.length]]⟩ : AObj)) (yl_store rfl sh41 rfl rfl rfl rfl rfl rfl rfl rfl rfl) rfl) ?_
        refine rg_nil (hK _ ?_)
        refine c_seq ?_
        refine c_seq ?_
        obtain ⟨j41, h1, h0⟩ := bind_e h0
        refine c_regL (fun (a : Bool) (k : Unit) => ⟨kn [(2, .pt 1 v2 0 0), (3, int 0), (5, .pt 4 v16 0 0), (34, boo a)], hk [(1, ⟨43, 5, true, true, v2, [[int 0, int 0, .sc (.slice none 0 0), .sc (.slice none 0 0), .sc (.slice none 0 0)]]⟩), (4, ⟨43, 5, true, true, v16, [[int x7, int x10, lst 1 fI x14, .sl 5 w3_1 0 y3_4.length, .sl 6 w6_1 0 y6_4.length]]⟩), (5, ⟨22, 1, true, true, w3_1, y3_4.map (fL 1 fI)⟩), (6, ⟨22, 1, true, true, w6_1, y6_4.map (fL 1 fI)⟩)]⟩) (fun a => a = j41) ?_ ?_
        · intro K hK
          refine st rfl rfl rfl (yv_load rfl sh24 rfl (.pt rfl rfl rfl) rfl) ?_
          refine st rfl rfl rfl (yv_callR rfl rfl (.cons rfl .nil) cal19 (badP_c (s := ((y6_2, y6_3) : RS)) (id := 2) (ver := w0_1) rfl) (.sc _)) ?_
          refine st rfl rfl rfl (yv_move rfl rfl) ?_
          obtain ⟨x42, e42, h1⟩ := bnd_e h1
          refine sas 25 (boo x42) rfl (congrArg boo e42) ?_
          refine scases 25 rfl ?_ ?_
          · intro hb; subst hb; replace h1 := ct h1
            refine sk rfl rfl rfl ?_
            refine sk rfl rfl rfl ?_
            refine sk rfl rfl rfl ?_
            refine st rfl rfl rfl (yv_pick rfl rfl (fun _ => rfl) (fun _ => rfl) rfl) ?_
            refine st rfl rfl rfl (yv_move rfl rfl) ?_
            refine sk rfl rfl rfl ?_
            refine sk rfl rfl rfl ?_
            refine sk rfl rfl rfl ?_
            refine st rfl rfl rfl (yv_pick rfl rfl (fun _ => rfl) (fun _ => rfl) rfl) ?_
            obtain rfl := nxt_e h1
            refine rg_nil (hK _ ⟨true, (), rfl, leH_kn ⟨⟨_, rfl, (.refl _)⟩, ⟨_, rfl, (.refl _)⟩, ⟨_, rfl, (.refl _)⟩, ⟨_, rfl, (.refl _)⟩, trivial⟩ ⟨⟨_, rfl, (.refl _)⟩, ⟨_, rfl, (.refl _)⟩, ⟨_, rfl, (.refl _)⟩, ⟨_, rfl, (.refl _)⟩, trivial⟩⟩)
          · intro hb; subst hb; replace h1 := cf h1
            refine st rfl rfl rfl (yv_load rfl sh24 rfl (.pt rfl rfl rfl) rfl) ?_
            refine st rfl rfl rfl (yv_callR rfl rfl (.cons rfl .nil) cal20 (leftP_c (s := ((y6_2, y6_3) : RS)) (id := 2) (ver := w0_1) rfl) (.sc _)) ?_
            obtain ⟨x43, e43, h1⟩ := bnd_e h1
            refine st rfl rfl rfl (yv_to (y := boo x43) (yv_gtr rfl rfl rfl) (congrArg boo e43)) ?_
            refine st rfl rfl rfl (yv_pick rfl rfl (fun _ => rfl) (fun _ => rfl) rfl) ?_
            refine st rfl rfl rfl (yv_move rfl rfl) ?_
            refine scases 30 rfl ?_ ?_
            · intro hb; subst hb; replace h1 := ct h1
              refine sk rfl rfl rfl ?_
              refine sk rfl rfl rfl ?_
              refine sk rfl rfl rfl ?_
              refine st rfl rfl rfl (yv_pick rfl rfl (fun _ => rfl) (fun _ => rfl) rfl) ?_
              obtain rfl := nxt_e h1
              refine rg_nil (hK _ ⟨true, (), rfl, leH_kn ⟨⟨_, rfl, (.refl _)⟩, ⟨_, rfl, (.refl _)⟩, ⟨_, rfl, (.refl _)⟩, ⟨_, rfl, (.refl _)⟩, trivial⟩ ⟨⟨_, rfl, (.refl _)⟩, ⟨_, rfl, (.refl _)⟩, ⟨_, rfl, (.refl _)⟩, ⟨_, rfl, (.refl _)⟩, trivial⟩⟩)
            · intro hb; subst hb; replace h1 := cf h1
              refine st rfl rfl rfl (yv_load rfl sh43 rfl (.pt rfl rfl rfl) rfl) ?_
              obtain ⟨x44, e44, h1⟩ := bind_e h1
              refine st rfl rfl rfl (yv_callT (v := boo x44) rfl rfl (.cons rfl .nil) cal30 (.cons (CvL.agg (.cons (.refl _) (.cons (.refl _) (.cons (.refl _) (.cons (cv_lst rfl rfl rfl rfl rfl (Eq.symm rfl)) (.cons (cv_lst rfl rfl rfl rfl rfl (Eq.symm rfl)) .nil)))))) .nil) (d_master_Check_c e44) rfl) ?_
              obtain ⟨x45, e45, h1⟩ := bnd_e h1
              refine st rfl rfl rfl (yv_not rfl rfl e45) ?_
              refine st rfl rfl rfl (yv_pick rfl rfl (fun _ => rfl) (fun _ => rfl) rfl) ?_
              obtain rfl := nxt_e h1
              refine rg_nil (hK _ ⟨x45, (), rfl, leH_kn ⟨⟨_, rfl, (.refl _)⟩, ⟨_, rfl, (.refl _)⟩, ⟨_, rfl, (.refl _)⟩, ⟨_, rfl, (.refl _)⟩, trivial⟩ ⟨⟨_, rfl, (.refl _)⟩, ⟨_, rfl, (.refl _)⟩, ⟨_, rfl, (.refl _)⟩, ⟨_, rfl, (.refl _)⟩, trivial⟩⟩)
        · rintro y7_1 _ rfl
          refine c_show ⟨kn [(2, .pt 1 v2 0 0), (3, int 0), (5, .pt 4 v16 0 0), (34, boo y7_1)], hk [(1, ⟨43, 5, true, true, v2, [[int 0, int 0, .sc (.slice none 0 0), .sc (.slice none 0 0), .sc (.slice none 0 0)]]⟩), (4, ⟨43, 5, true, true, v16, [[int x7, int x10, lst 1 fI x14, .sl 5 w3_1 0 y3_4.length, .sl 6 w6_1 0 y6_4.length]]⟩), (5, ⟨22, 1, true, true, w3_1, y3_4.map (fL 1 fI)⟩), (6, ⟨22, 1, true, true, w6_1, y6_4.map (fL 1 fI)⟩)]⟩ ?_
          refine c_if (b := y7_1) rfl ?_ ?_
          · intro hb; subst hb; replace h0 := ct h0
            refine c_seq ?_
            refine c_reg ?_; intro K hK
            refine st rfl rfl rfl (yv_build (cs := [int 0, int 0, .sc (.slice none 0 0), .sc (.slice none 0 0), .sc (.slice none 0 0)]) (ps := []) rfl pl43 z43 rfl .nil (by kernel_rfl)) ?_
            refine sstore rfl rfl (yl_ob (ob' := (⟨43, 5, true, true, v2, [[int 0, int 0, .sc (.slice none 0 0), .sc (.slice none 0 0), .sc (.slice none 0 0)]]⟩ : AObj)) (yl_store rfl sh43 rfl rfl rfl rfl rfl rfl rfl rfl rfl) rfl) ?_
            refine st rfl rfl rfl (yv_assign rfl rfl) ?_
            refine rg_nil (hK _ ?_)
            obtain rfl := nxt_e h0
            refine c_ret (hret _ _ _ (.cell rfl (.pt rfl rfl rfl) sh43 rfl (.tmp rfl .nil)) (fun _ _ h => h) ?_)
            exact CvL.tup (.cons (CvL.agg (.cons (.refl _) (.cons (.refl _) (.cons (.nil _) (.cons (.nil _) (.cons (.nil _) .nil)))))) (.cons (.refl _) .nil))
          · intro hb; subst hb; replace h0 := cf h0
            refine c_skip ?_
            refine c_seq ?_
            refine c_reg ?_; intro K hK
            refine st rfl rfl rfl (yv_load rfl sh43 rfl (.pt rfl rfl rfl) rfl) ?_
            refine sstore rfl rfl (yl_ob (ob' := (⟨43, 5, true, true, v2, [[int x7, int x10, lst 1 fI x14, .sl 5 w3_1 0 y3_4.length, .sl 6 w6_1 0 y6_4.length]]⟩ : AObj)) (yl_store rfl sh43 rfl rfl rfl rfl rfl rfl rfl rfl rfl) rfl) ?_
            refine st rfl rfl rfl (yv_assign rfl rfl) ?_
            refine rg_nil (hK _ ?_)
            obtain rfl := nxt_e h0
            refine c_ret (hret _ _ _ (.cell rfl (.pt rfl rfl rfl) sh43 rfl (.tmp rfl .nil)) (fun _ _ h => h) ?_)
            exact CvL.tup (.cons (CvL.agg (.cons (.refl _) (.cons (.refl _) (.cons (.refl _) (.cons (cv_lst rfl rfl rfl rfl rfl (Eq.symm rfl)) (.cons (cv_lst rfl rfl rfl rfl rfl (Eq.symm rfl)) .nil)))))) (.cons (.refl _) .nil))
def d_ref04_SameInts_L0 (a1 : List Int) (a2 : List Int) : Nat → Int → Option ((Unit) ⊕ (Bool))
  | 0, _ => none
  | n + 1, y0_1 =>
    bnd (decide (y0_1 < (a1.length : Int))) fun (x5 : Bool) =>
    cond x5 ((ix a1 y0_1).bind fun (x6 : Int) =>
    (ix a2 y0_1).bind fun (x7 : Int) =>
    bnd (decide (x6 ≠ x7)) fun (x8 : Bool) =>
    cond x8 (esc (some ((false : Bool)))) (bnd (w64 (y0_1 + 1)) fun (x10 : Int) =>
    d_ref04_SameInts_L0 a1 a2 n (x10 : Int))) (brk ())
def d_ref04_SameInts (n : Nat) (a1 : List Int) (a2 : List Int) : Option (Bool) :=
bnd (decide ((a1.length : Int) ≠ (a2.length : Int))) fun (x3 : Bool) =>
cond x3 (some ((false : Bool))) ((show Option ((Unit) ⊕ (Bool)) from
d_ref04_SameInts_L0 a1 a2 n (0 : Int)).bind <| sel <| fun (_ : Unit) =>
some ((true : Bool)))
theorem d_ref04_SameInts_c {n : Nat} {a1 : List Int} {a2 : List Int} {r : Bool} (h0 : d_ref04_SameInts n a1 a2 = some r) : PP Try.prog 16 [lst 1 fI a1, lst 1 fI a2] (fun y => y = boo r) := by
  unfold d_ref04_SameInts at h0
  refine pp_of_pc (R0 := fun y H => Cv (frzH H) y (boo r)) ?_ (fun y H hc => ⟨_, rfl, pvB r, hc⟩)
  refine pc_of' (c := _) Try.func16 rfl rfl ?_; intro Q hret hnorm
  refine c_seq ?_
  refine c_reg ?_; intro K hK
  refine st rfl rfl rfl (yv_assign rfl rfl) ?_
  refine rg_nil (hK _ ?_)
  refine c_seq ?_
  refine c_seq ?_
  refine c_reg ?_; intro K hK
  refine st rfl rfl rfl (yv_move rfl rfl) ?_
  refine st rfl rfl rfl (yv_len_sl rfl Try.underlying22 rfl (lst_len _)) ?_
  refine st rfl rfl rfl (yv_move rfl rfl) ?_
  refine st rfl rfl rfl (yv_len_sl rfl Try.underlying22 rfl (lst_len _)) ?_
  obtain ⟨x3, e3, h0⟩ := bnd_e h0
  refine st rfl rfl rfl (yv_to (y := boo x3) (yv_neq rfl rfl rfl) (congrArg boo e3)) ?_
  refine rg_nil (hK _ ?_)
  refine c_if (b := x3) rfl ?_ ?_
  · intro hb; subst hb; replace h0 := ct h0
    refine c_seq ?_
    refine c_reg ?_; intro K hK
    refine st rfl rfl rfl (yv_assign rfl rfl) ?_
    refine rg_nil (hK _ ?_)
    obtain rfl := nxt_e h0
    refine c_ret (hret _ _ _ (.tmp rfl .nil) (fun _ _ h => h) ?_)
    exact .refl _
  · intro hb; subst hb; replace h0 := cf h0
    refine c_skip ?_
    refine c_seq ?_
    refine c_seq ?_
    refine c_reg ?_; intro K hK
    refine st rfl rfl rfl (yv_assign rfl rfl) ?_
    refine rg_nil (hK _ ?_)
    obtain ⟨j4, h1, h0⟩ := bind_e h0
    refine c_joinL (fun (a : Unit) (k : Unit) => ⟨kn [(4, boo false)], hk []⟩) (fun a => j4 = .inl a) ?_ ?_
    · intro Q1 jn1 jx1 jr1
      refine c_block ?_; intro Q2 bn2 bx2 br2 bo2
      refine c_loopD (fun (a : Int) (k : Unit) => ⟨kn [(0, lst 1 fI a1), (1, lst 1 fI a2), (4, boo false), (5, int a)], hk []⟩) (fun n (a : Int) => d_ref04_SameInts_L0 a1 a2 n a) (0 : Int) () h1 (fun _ => rfl)
        (leH_kn ⟨⟨_, rfl, (.refl _)⟩, ⟨_, rfl, (.refl _)⟩, ⟨_, rfl, (.refl _)⟩, ⟨_, rfl, (.refl _)⟩, trivial⟩ trivial) ?_
      rintro n y0_1 _ hm h1 Q3 ln3 lx3 lr3
      replace h1 : d_ref04_SameInts_L0 a1 a2 (n + 1) y0_1 = some _ := h1
      rw [d_ref04_SameInts_L0] at h1
      refine c_show ⟨kn [(0, lst 1 fI a1), (1, lst 1 fI a2), (4, boo false), (5, int y0_1)], hk []⟩ ?_
      refine c_seq ?_
      refine c_seq ?_
      refine c_reg ?_; intro K hK
      refine st rfl rfl rfl (yv_move rfl rfl) ?_
      refine st rfl rfl rfl (yv_move rfl rfl) ?_
      refine st rfl rfl rfl (yv_len_sl rfl Try.underlying22 rfl (lst_len _)) ?_
      obtain ⟨x5, e5, h1⟩ := bnd_e h1
      refine st rfl rfl rfl (yv_to (y := boo x5) (yv_lss rfl rfl rfl) (congrArg boo e5)) ?_
      refine rg_nil (hK _ ?_)
      refine c_if (b := x5) rfl ?_ ?_
      · intro hb; subst hb; replace h1 := ct h1
        refine c_skip ?_
        refine c_seq ?_
        refine c_block ?_; intro Q4 bn4 bx4 br4 bo4
        refine c_seq ?_
        refine c_drawE [0, 0, 3, 7, 0, 0, 48, 112, 255] (fun i => []) (fun i => []) (fun i => true) [0, 1, 2, 3, 4, 5, 6, 7, 8] mixed (by kernel_rfl) ?_; intro K hK
        refine de_pure rfl rfl rfl rfl (fun H hH => yv_move rfl rfl) ?_
        refine de_pure rfl rfl rfl rfl (fun H hH => yv_move rfl rfl) ?_
        obtain ⟨x6, e6, h1⟩ := bind_e h1
        refine de_pure rfl rfl rfl rfl (fun H hH => yv_ixT rfl Try.underlying22 sh3 rfl rfl e6) ?_
        refine de_pure rfl rfl rfl rfl (fun H hH => yv_load rfl sh3 rfl (.pp _) rfl) ?_
        refine de_pure rfl rfl rfl rfl (fun H hH => yv_move rfl rfl) ?_
        refine de_pure rfl rfl rfl rfl (fun H hH => yv_move rfl rfl) ?_
        obtain ⟨x7, e7, h1⟩ := bind_e h1
        refine de_pure rfl rfl rfl rfl (fun H hH => yv_ixT rfl Try.underlying22 sh3 rfl rfl e7) ?_
        refine de_pure rfl rfl rfl rfl (fun H hH => yv_load rfl sh3 rfl (.pp _) rfl) ?_
        obtain ⟨x8, e8, h1⟩ := bnd_e h1
        refine de_pure rfl rfl rfl rfl (fun H hH => yv_to (y := boo x8) (yv_neq rfl rfl rfl) (congrArg boo e8)) ?_
        refine de_nil (hK _ ?_)
        refine c_if (b := x8) rfl ?_ ?_
        · intro hb; subst hb; replace h1 := ct h1
          refine c_seq ?_
          refine c_reg ?_; intro K hK
          refine st rfl rfl rfl (yv_assign rfl rfl) ?_
          refine rg_nil (hK _ ?_)
          obtain ⟨c9, hX, hj⟩ := esc_e h1; subst hj; replace h0 := hX.trans (sel_r h0)
          obtain rfl := nxt_e h0
          refine c_ret (br4 _ (lr3 _ (br2 _ (jr1 _ (hret _ _ _ (.tmp rfl .nil) (fun _ _ h => h) ?_)))))
          exact .refl _
        · intro hb; subst hb; replace h1 := cf h1
          refine c_skip ?_
          refine c_nil (bn4 _ ?_)
          refine c_reg ?_; intro K hK
          refine st rfl rfl rfl (yv_move rfl rfl) ?_
          obtain ⟨x10, e10, h1⟩ := bnd_e h1
          refine st rfl rfl rfl (yv_add rfl rfl rfl e10) ?_
          refine st rfl rfl rfl (yv_assign rfl rfl) ?_
          refine rg_nil (hK _ ?_)
          refine c_nil (ln3 _ ⟨x10, (), h1, leH_kn ⟨⟨_, rfl, (.refl _)⟩, ⟨_, rfl, (.refl _)⟩, ⟨_, rfl, (.refl _)⟩, ⟨_, rfl, (.refl _)⟩, trivial⟩ trivial⟩)
      · intro hb; subst hb; replace h1 := cf h1
        refine c_exit (lx3 _ _ (bx2 _ ?_))
        obtain rfl := brk_e h1
        refine c_nil (jn1 _ ⟨(), (), rfl, leH_kn ⟨⟨_, rfl, (.refl _)⟩, trivial⟩ trivial⟩)
    · rintro _ _ rfl
      replace h0 := sel_l h0
      refine c_show ⟨kn [(4, boo false)], hk []⟩ ?_
      refine c_seq ?_
      refine c_reg ?_; intro K hK
      refine st rfl rfl rfl (yv_assign rfl rfl) ?_
      refine rg_nil (hK _ ?_)
      obtain rfl := nxt_e h0
      refine c_ret (hret _ _ _ (.tmp rfl .nil) (fun _ _ h => h) ?_)
      exact .refl _
def d_ref04_sameLists_L0 (a1 : List (List Int)) (a2 : List (List Int)) : Nat → Int → Option ((Unit) ⊕ (Bool))
  | 0, _ => none
  | n + 1, y0_1 =>
    bnd (decide (y0_1 < (a1.length : Int))) fun (x5 : Bool) =>
    cond x5 ((ix a1 y0_1).bind fun (x6 : List Int) =>
    (ix a2 y0_1).bind fun (x7 : List Int) =>
    (d_ref04_SameInts n x6 x7).bind fun (x8 : Bool) =>
    bnd (!x8) fun (x9 : Bool) =>
    cond x9 (esc (some ((false : Bool)))) (bnd (w64 (y0_1 + 1)) fun (x11 : Int) =>
    d_ref04_sameLists_L0 a1 a2 n (x11 : Int))) (brk ())
def d_ref04_sameLists (n : Nat) (a1 : List (List Int)) (a2 : List (List Int)) : Option (Bool) :=
bnd (decide ((a1.length : Int) ≠ (a2.length : Int))) fun (x3 : Bool) =>
cond x3 (some ((false : Bool))) ((show Option ((Unit) ⊕ (Bool)) from
d_ref04_sameLists_L0 a1 a2 n (0 : Int)).bind <| sel <| fun (_ : Unit) =>
some ((true : Bool)))
theorem d_ref04_sameLists_c {n : Nat} {a1 : List (List Int)} {a2 : List (List Int)} {r : Bool} (h0 : d_ref04_sameLists n a1 a2 = some r) : PP Try.prog 58 [lst 1 (fL 1 fI) a1, lst 1 (fL 1 fI) a2] (fun y => y = boo r) := by
  unfold d_ref04_sameLists at h0
  refine pp_of_pc (R0 := fun y H => Cv (frzH H) y (boo r)) ?_ (fun y H hc => ⟨_, rfl, pvB r, hc⟩)
  refine pc_of' (c := _) Try.func58 rfl rfl ?_; intro Q hret hnorm
  refine c_seq ?_
  refine c_reg ?_; intro K hK
  refine st rfl rfl rfl (yv_assign rfl rfl) ?_
  refine rg_nil (hK _ ?_)
  refine c_seq ?_
  refine c_seq ?_
  refine c_reg ?_; intro K hK
  refine st rfl rfl rfl (yv_move rfl rfl) ?_
  refine st rfl rfl rfl (yv_len_sl rfl Try.underlying41 rfl (lst_len _)) ?_
  refine st rfl rfl rfl (yv_move rfl rfl) ?_
  refine st rfl rfl rfl (yv_len_sl rfl Try.underlying41 rfl (lst_len _)) ?_
  obtain ⟨x3, e3, h0⟩ := bnd_e h0
  refine st rfl rfl rfl (yv_to (y := boo x3) (yv_neq rfl rfl rfl) (congrArg boo e3)) ?_
  refine rg_nil (hK _ ?_)
  refine c_if (b := x3) rfl ?_ ?_
  · intro hb; subst hb; replace h0 := ct h0
    refine c_seq ?_
    refine c_reg ?_; intro K hK
    refine st rfl rfl rfl (yv_assign rfl rfl) ?_
    refine rg_nil (hK _ ?_)
    obtain rfl := nxt_e h0
    refine c_ret (hret _ _ _ (.tmp rfl .nil) (fun _ _ h => h) ?_)
    exact .refl _
  · intro hb; subst hb; replace h0 := cf h0
    refine c_skip ?_
    refine c_seq ?_
    refine c_seq ?_
    refine c_reg ?_; intro K hK
    refine st rfl rfl rfl (yv_assign rfl rfl) ?_
    refine rg_nil (hK _ ?_)
    obtain ⟨j4, h1, h0⟩ := bind_e h0
    refine c_joinL (fun (a : Unit) (k : Unit) => ⟨kn [(4, boo false)], hk []⟩) (fun a => j4 = .inl a) ?_ ?_
    · intro Q1 jn1 jx1 jr1
      refine c_block ?_; intro Q2 bn2 bx2 br2 bo2
      refine c_loopD (fun (a : Int) (k : Unit) => ⟨kn [(0, lst 1 (fL 1 fI) a1), (1, lst 1 (fL 1 fI) a2), (4, boo false), (5, int a)], hk []⟩) (fun n (a : Int) => d_ref04_sameLists_L0 a1 a2 n a) (0 : Int) () h1 (fun _ => rfl)
        (leH_kn ⟨⟨_, rfl, (.refl _)⟩, ⟨_, rfl, (.refl _)⟩, ⟨_, rfl, (.refl _)⟩, ⟨_, rfl, (.refl _)⟩, trivial⟩ trivial) ?_
      rintro n y0_1 _ hm h1 Q3 ln3 lx3 lr3
      replace h1 : d_ref04_sameLists_L0 a1 a2 (n + 1) y0_1 = some _ := h1
      rw [d_ref04_sameLists_L0] at h1
      refine c_show ⟨kn [(0, lst 1 (fL 1 fI) a1), (1, lst 1 (fL 1 fI) a2), (4, boo false), (5, int y0_1)], hk []⟩ ?_
      refine c_seq ?_
      refine c_seq ?_
      refine c_reg ?_; intro K hK
      refine st rfl rfl rfl (yv_move rfl rfl) ?_
      refine st rfl rfl rfl (yv_move rfl rfl) ?_
      refine st rfl rfl rfl (yv_len_sl rfl Try.underlying41 rfl (lst_len _)) ?_
      obtain ⟨x5, e5, h1⟩ := bnd_e h1
      refine st rfl rfl rfl (yv_to (y := boo x5) (yv_lss rfl rfl rfl) (congrArg boo e5)) ?_
      refine rg_nil (hK _ ?_)
      refine c_if (b := x5) rfl ?_ ?_
      · intro hb; subst hb; replace h1 := ct h1
        refine c_skip ?_
        refine c_seq ?_
        refine c_block ?_; intro Q4 bn4 bx4 br4 bo4
        refine c_seq ?_
        refine c_drawE [0, 0, 3, 7, 0, 0, 48, 112, 255, 511] (fun i => []) (fun i => []) (fun i => true) [0, 1, 2, 3, 4, 5, 6, 7, 8, 9] mixed (by kernel_rfl) ?_; intro K hK
        refine de_pure rfl rfl rfl rfl (fun H hH => yv_move rfl rfl) ?_
        refine de_pure rfl rfl rfl rfl (fun H hH => yv_move rfl rfl) ?_
        obtain ⟨x6, e6, h1⟩ := bind_e h1
        refine de_pure rfl rfl rfl rfl (fun H hH => yv_ixT rfl Try.underlying41 sh22 rfl rfl e6) ?_
        refine de_pure rfl rfl rfl rfl (fun H hH => yv_load rfl sh22 rfl (.pp _) rfl) ?_
        refine de_pure rfl rfl rfl rfl (fun H hH => yv_move rfl rfl) ?_
        refine de_pure rfl rfl rfl rfl (fun H hH => yv_move rfl rfl) ?_
        obtain ⟨x7, e7, h1⟩ := bind_e h1
        refine de_pure rfl rfl rfl rfl (fun H hH => yv_ixT rfl Try.underlying41 sh22 rfl rfl e7) ?_
        refine de_pure rfl rfl rfl rfl (fun H hH => yv_load rfl sh22 rfl (.pp _) rfl) ?_
        obtain ⟨x8, e8, h1⟩ := bind_e h1
        refine de_pure rfl rfl rfl rfl (fun H hH => yv_callP rfl rfl (.cons rfl (.cons rfl .nil)) cal16 (CvL.refl _) (d_ref04_SameInts_c e8)) ?_
        obtain ⟨x9, e9, h1⟩ := bnd_e h1
        refine de_pure rfl rfl rfl rfl (fun H hH => yv_not rfl rfl e9) ?_
        refine de_nil (hK _ ?_)
        refine c_if (b := x9) rfl ?_ ?_
        · intro hb; subst hb; replace h1 := ct h1
          refine c_seq ?_
          refine c_reg ?_; intro K hK
          refine st rfl rfl rfl (yv_assign rfl rfl) ?_
          refine rg_nil (hK _ ?_)
          obtain ⟨c10, hX, hj⟩ := esc_e h1; subst hj; replace h0 := hX.trans (sel_r h0)
          obtain rfl := nxt_e h0
          refine c_ret (br4 _ (lr3 _ (br2 _ (jr1 _ (hret _ _ _ (.tmp rfl .nil) (fun _ _ h => h) ?_)))))
          exact .refl _
        · intro hb; subst hb; replace h1 := cf h1
          refine c_skip ?_
          refine c_nil (bn4 _ ?_)
          refine c_reg ?_; intro K hK
          refine st rfl rfl rfl (yv_move rfl rfl) ?_
          obtain ⟨x11, e11, h1⟩ := bnd_e h1
          refine st rfl rfl rfl (yv_add rfl rfl rfl e11) ?_
          refine st rfl rfl rfl (yv_assign rfl rfl) ?_
          refine rg_nil (hK _ ?_)
          refine c_nil (ln3 _ ⟨x11, (), h1, leH_kn ⟨⟨_, rfl, (.refl _)⟩, ⟨_, rfl, (.refl _)⟩, ⟨_, rfl, (.refl _)⟩, ⟨_, rfl, (.refl _)⟩, trivial⟩ trivial⟩)
      · intro hb; subst hb; replace h1 := cf h1
        refine c_exit (lx3 _ _ (bx2 _ ?_))
        obtain rfl := brk_e h1
        refine c_nil (jn1 _ ⟨(), (), rfl, leH_kn ⟨⟨_, rfl, (.refl _)⟩, trivial⟩ trivial⟩)
    · rintro _ _ rfl
      replace h0 := sel_l h0
      refine c_show ⟨kn [(4, boo false)], hk []⟩ ?_
      refine c_seq ?_
      refine c_reg ?_; intro K hK
      refine st rfl rfl rfl (yv_assign rfl rfl) ?_
      refine rg_nil (hK _ ?_)
      obtain rfl := nxt_e h0
      refine c_ret (hret _ _ _ (.tmp rfl .nil) (fun _ _ h => h) ?_)
      exact .refl _
def d_ref04_Same (n : Nat) (a1 : GMaster) (a2 : GMaster) : Option (Bool) :=
(show Option (Bool) from
bnd (decide (a1.Entities = a2.Entities)) fun (x6 : Bool) =>
cond x6 (bnd (decide (a1.Periods = a2.Periods)) fun (x7 : Bool) =>
cond x7 ((d_ref04_SameInts n a1.Weights a2.Weights).bind fun (x8 : Bool) =>
cond x8 ((d_ref04_sameLists n a1.Methods a2.Methods).bind fun (x9 : Bool) =>
cond x9 ((d_ref04_sameLists n a1.Costs a2.Costs).bind fun (x10 : Bool) =>
some (x10 : Bool)) (some (false : Bool))) (some (false : Bool))) (some (false : Bool))) (some (false : Bool))).bind <| fun (y0_1 : Bool) =>
some ((y0_1 : Bool))
theorem d_ref04_Same_c {n : Nat} {a1 : GMaster} {a2 : GMaster} {r : Bool} (h0 : d_ref04_Same n a1 a2 = some r) : PP Try.prog 33 [.agg (GMaster.av a1), .agg (GMaster.av a2)] (fun y => y = boo r) := by
  unfold d_ref04_Same at h0
  refine pp_of_pc (R0 := fun y H => Cv (frzH H) y (boo r)) ?_ (fun y H hc => ⟨_, rfl, pvB r, hc⟩)
  refine pc_of' (c := _) Try.func33 rfl rfl ?_; intro Q hret hnorm
  refine c_seq ?_
  refine c_reg ?_; intro K hK
  refine se rfl rfl rfl (yl_box 1 .any rfl rfl rfl) ?_; rintro _ _ ⟨v3, -, rfl, rfl⟩
  refine se rfl rfl rfl (yl_box 2 .any rfl rfl rfl) ?_; rintro _ _ ⟨v4, -, rfl, rfl⟩
  refine st rfl rfl rfl (yv_assign rfl rfl) ?_
  refine rg_nil (hK _ ?_)
  refine c_seq ?_
  obtain ⟨j5, h1, h0⟩ := bind_e h0
  refine c_regL (fun (a : Bool) (k : Unit) => ⟨kn [(4, boo a)], hk []⟩) (fun a => a = j5) ?_ ?_
  · intro K hK
    refine st rfl rfl rfl (yv_fieldAddr rfl fo43_0 rfl (.pt rfl rfl rfl) (.pt _ _ _ _ _)) ?_
    refine st rfl rfl rfl (yv_load rfl sh3 rfl (.pt rfl rfl rfl) rfl) ?_
    refine st rfl rfl rfl (yv_fieldAddr rfl fo43_0 rfl (.pt rfl rfl rfl) (.pt _ _ _ _ _)) ?_
    refine st rfl rfl rfl (yv_load rfl sh3 rfl (.pt rfl rfl rfl) rfl) ?_
    obtain ⟨x6, e6, h1⟩ := bnd_e h1
    refine st rfl rfl rfl (yv_to (y := boo x6) (yv_eql rfl rfl rfl) (congrArg boo e6)) ?_
    refine st rfl rfl rfl (yv_move rfl rfl) ?_
    refine scases 10 rfl ?_ ?_
    · intro hb; subst hb; replace h1 := ct h1
      refine st rfl rfl rfl (yv_fieldAddr rfl fo43_1 rfl (.pt rfl rfl rfl) (.pt _ _ _ _ _)) ?_
      refine st rfl rfl rfl (yv_load rfl sh3 rfl (.pt rfl rfl rfl) rfl) ?_
      refine st rfl rfl rfl (yv_fieldAddr rfl fo43_1 rfl (.pt rfl rfl rfl) (.pt _ _ _ _ _)) ?_
      refine st rfl rfl rfl (yv_load rfl sh3 rfl (.pt rfl rfl rfl) rfl) ?_
      obtain ⟨x7, e7, h1⟩ := bnd_e h1
      refine st rfl rfl rfl (yv_to (y := boo x7) (yv_eql rfl rfl rfl) (congrArg boo e7)) ?_
      refine st rfl rfl rfl (yv_pick rfl rfl (fun _ => rfl) (fun _ => rfl) rfl) ?_
      refine st rfl rfl rfl (yv_move rfl rfl) ?_
      refine scases 17 rfl ?_ ?_
      · intro hb; subst hb; replace h1 := ct h1
        refine st rfl rfl rfl (yv_fieldAddr rfl fo43_2 rfl (.pt rfl rfl rfl) (.pt _ _ _ _ _)) ?_
        refine st rfl rfl rfl (yv_load rfl sh22 rfl (.pt rfl rfl rfl) rfl) ?_
        refine st rfl rfl rfl (yv_fieldAddr rfl fo43_2 rfl (.pt rfl rfl rfl) (.pt _ _ _ _ _)) ?_
        refine st rfl rfl rfl (yv_load rfl sh22 rfl (.pt rfl rfl rfl) rfl) ?_
        obtain ⟨x8, e8, h1⟩ := bind_e h1
        refine st rfl rfl rfl (yv_callP rfl rfl (.cons rfl (.cons rfl .nil)) cal16 (CvL.refl _) (d_ref04_SameInts_c e8)) ?_
        refine st rfl rfl rfl (yv_pick rfl rfl (fun _ => rfl) (fun _ => rfl) rfl) ?_
        refine st rfl rfl rfl (yv_move rfl rfl) ?_
        refine scases 24 rfl ?_ ?_
        · intro hb; subst hb; replace h1 := ct h1
          refine st rfl rfl rfl (yv_fieldAddr rfl fo43_3 rfl (.pt rfl rfl rfl) (.pt _ _ _ _ _)) ?_
          refine st rfl rfl rfl (yv_load rfl sh41 rfl (.pt rfl rfl rfl) rfl) ?_
          refine st rfl rfl rfl (yv_fieldAddr rfl fo43_3 rfl (.pt rfl rfl rfl) (.pt _ _ _ _ _)) ?_
          refine st rfl rfl rfl (yv_load rfl sh41 rfl (.pt rfl rfl rfl) rfl) ?_
          obtain ⟨x9, e9, h1⟩ := bind_e h1
          refine st rfl rfl rfl (yv_callP rfl rfl (.cons rfl (.cons rfl .nil)) cal58 (CvL.refl _) (d_ref04_sameLists_c e9)) ?_
          refine st rfl rfl rfl (yv_pick rfl rfl (fun _ => rfl) (fun _ => rfl) rfl) ?_
          refine st rfl rfl rfl (yv_move rfl rfl) ?_
          refine scases 31 rfl ?_ ?_
          · intro hb; subst hb; replace h1 := ct h1
            refine st rfl rfl rfl (yv_fieldAddr rfl fo43_4 rfl (.pt rfl rfl rfl) (.pt _ _ _ _ _)) ?_
            refine st rfl rfl rfl (yv_load rfl sh41 rfl (.pt rfl rfl rfl) rfl) ?_
            refine st rfl rfl rfl (yv_fieldAddr rfl fo43_4 rfl (.pt rfl rfl rfl) (.pt _ _ _ _ _)) ?_
            refine st rfl rfl rfl (yv_load rfl sh41 rfl (.pt rfl rfl rfl) rfl) ?_
            obtain ⟨x10, e10, h1⟩ := bind_e h1
            refine st rfl rfl rfl (yv_callP rfl rfl (.cons rfl (.cons rfl .nil)) cal58 (CvL.refl _) (d_ref04_sameLists_c e10)) ?_
            refine st rfl rfl rfl (yv_pick rfl rfl (fun _ => rfl) (fun _ => rfl) rfl) ?_
            refine st rfl rfl rfl (yv_assign rfl rfl) ?_
            obtain rfl := nxt_e h1
            refine rg_nil (hK _ ⟨x10, (), rfl, leH_kn ⟨⟨_, rfl, (.refl _)⟩, trivial⟩ trivial⟩)
          · intro hb; subst hb; replace h1 := cf h1
            refine sk rfl rfl rfl ?_
            refine sk rfl rfl rfl ?_
            refine sk rfl rfl rfl ?_
            refine sk rfl rfl rfl ?_
            refine sk rfl rfl rfl ?_
            refine st rfl rfl rfl (yv_pick rfl rfl (fun _ => rfl) (fun _ => rfl) rfl) ?_
            refine st rfl rfl rfl (yv_assign rfl rfl) ?_
            obtain rfl := nxt_e h1
            refine rg_nil (hK _ ⟨false, (), rfl, leH_kn ⟨⟨_, rfl, (.refl _)⟩, trivial⟩ trivial⟩)
        · intro hb; subst hb; replace h1 := cf h1
          refine sk rfl rfl rfl ?_
          refine sk rfl rfl rfl ?_
          refine sk rfl rfl rfl ?_
          refine sk rfl rfl rfl ?_
          refine sk rfl rfl rfl ?_
          refine st rfl rfl rfl (yv_pick rfl rfl (fun _ => rfl) (fun _ => rfl) rfl) ?_
          refine st rfl rfl rfl (yv_move rfl rfl) ?_
          refine sk rfl rfl rfl ?_
          refine sk rfl rfl rfl ?_
          refine sk rfl rfl rfl ?_
          refine sk rfl rfl rfl ?_
          refine sk rfl rfl rfl ?_
          refine st rfl rfl rfl (yv_pick rfl rfl (fun _ => rfl) (fun _ => rfl) rfl) ?_
          refine st rfl rfl rfl (yv_assign rfl rfl) ?_
          obtain rfl := nxt_e h1
          refine rg_nil (hK _ ⟨false, (), rfl, leH_kn ⟨⟨_, rfl, (.refl _)⟩, trivial⟩ trivial⟩)
      · intro hb; subst hb; replace h1 := cf h1
        refine sk rfl rfl rfl ?_
        refine sk rfl rfl rfl ?_
        refine sk rfl rfl rfl ?_
        refine sk rfl rfl rfl ?_
        refine sk rfl rfl rfl ?_
        refine st rfl rfl rfl (yv_pick rfl rfl (fun _ => rfl) (fun _ => rfl) rfl) ?_
        refine st rfl rfl rfl (yv_move rfl rfl) ?_
        refine sk rfl rfl rfl ?_
        refine sk rfl rfl rfl ?_
        refine sk rfl rfl rfl ?_
        refine sk rfl rfl rfl ?_
        refine sk rfl rfl rfl ?_
        refine st rfl rfl rfl (yv_pick rfl rfl (fun _ => rfl) (fun _ => rfl) rfl) ?_
        refine st rfl rfl rfl (yv_move rfl rfl) ?_
        refine sk rfl rfl rfl ?_
        refine sk rfl rfl rfl ?_
        refine sk rfl rfl rfl ?_
        refine sk rfl rfl rfl ?_
        refine sk rfl rfl rfl ?_
        refine st rfl rfl rfl (yv_pick rfl rfl (fun _ => rfl) (fun _ => rfl) rfl) ?_
        refine st rfl rfl rfl (yv_assign rfl rfl) ?_
        obtain rfl := nxt_e h1
        refine rg_nil (hK _ ⟨false, (), rfl, leH_kn ⟨⟨_, rfl, (.refl _)⟩, trivial⟩ trivial⟩)
    · intro hb; subst hb; replace h1 := cf h1
      refine sk rfl rfl rfl ?_
      refine sk rfl rfl rfl ?_
      refine sk rfl rfl rfl ?_
      refine sk rfl rfl rfl ?_
      refine sk rfl rfl rfl ?_
      refine st rfl rfl rfl (yv_pick rfl rfl (fun _ => rfl) (fun _ => rfl) rfl) ?_
      refine st rfl rfl rfl (yv_move rfl rfl) ?_
      refine sk rfl rfl rfl ?_
      refine sk rfl rfl rfl ?_
      refine sk rfl rfl rfl ?_
      refine sk rfl rfl rfl ?_
      refine sk rfl rfl rfl ?_
      refine st rfl rfl rfl (yv_pick rfl rfl (fun _ => rfl) (fun _ => rfl) rfl) ?_
      refine st rfl rfl rfl (yv_move rfl rfl) ?_
      refine sk rfl rfl rfl ?_
      refine sk rfl rfl rfl ?_
      refine sk rfl rfl rfl ?_
      refine sk rfl rfl rfl ?_
      refine sk rfl rfl rfl ?_
      refine st rfl rfl rfl (yv_pick rfl rfl (fun _ => rfl) (fun _ => rfl) rfl) ?_
      refine st rfl rfl rfl (yv_move rfl rfl) ?_
      refine sk rfl rfl rfl ?_
      refine sk rfl rfl rfl ?_
      refine sk rfl rfl rfl ?_
      refine sk rfl rfl rfl ?_
      refine sk rfl rfl rfl ?_
      refine st rfl rfl rfl (yv_pick rfl rfl (fun _ => rfl) (fun _ => rfl) rfl) ?_
      refine st rfl rfl rfl (yv_assign rfl rfl) ?_
      obtain rfl := nxt_e h1
      refine rg_nil (hK _ ⟨false, (), rfl, leH_kn ⟨⟨_, rfl, (.refl _)⟩, trivial⟩ trivial⟩)
  · rintro y0_1 _ rfl
    refine c_show ⟨kn [(4, boo y0_1)], hk []⟩ ?_
    obtain rfl := nxt_e h0
    refine c_ret (hret _ _ _ (.tmp rfl .nil) (fun _ _ h => h) ?_)
    exact .refl _
def d_master_own_L0 (a1 : List (List Int)) : Nat → Int → (List (List Int)) → Option ((List (List Int)))
  | 0, _, _ => none
  | n + 1, y0_2, y0_3 =>
    bnd (decide (y0_2 < (a1.length : Int))) fun (x4 : Bool) =>
    cond x4 ((ix a1 y0_2).bind fun (x5 : List Int) =>
    asrt (x5.length ≤ 68719476736) <|
    bnd (y0_3 ++ [x5]) fun (x8 : List (List Int)) =>
    asrt (x8.length ≤ 68719476736) <|
    bnd (w64 (y0_2 + 1)) fun (x11 : Int) =>
    d_master_own_L0 a1 n (x11 : Int) (x8 : List (List Int))) (some (y0_3 : List (List Int)))
def d_master_own (n : Nat) (a1 : List (List Int)) : Option ((List (List Int))) :=
(show Option ((List (List Int))) from
d_master_own_L0 a1 n (0 : Int) (([] : List (List Int)) : List (List Int))).bind <| fun (y1_2 : List (List Int)) =>
some ((y1_2 : List (List Int)))
theorem d_master_own_c {n : Nat} {a1 : List (List Int)} {r : (List (List Int))} (h0 : d_master_own n a1 = some r) : PP Try.prog 47 [lst 1 (fL 1 fI) a1] (fun y => y = lst 1 (fL 1 fI) r) := by
  unfold d_master_own at h0
  refine pp_of_pc (R0 := fun y H => Cv (frzH H) y (lst 1 (fL 1 fI) r)) ?_ (fun y H hc => ⟨_, rfl, (pvLs (pvcLs pvcI)) r, hc⟩)
  refine pc_of' (c := _) Try.func47 rfl rfl ?_; intro Q hret hnorm
  refine c_seq ?_
  refine c_reg ?_; intro K hK
  refine st rfl rfl rfl (yv_assign rfl rfl) ?_
  refine rg_nil (hK _ ?_)
  refine c_seq ?_
  refine c_reg ?_; intro K hK
  refine st rfl rfl rfl (yv_assign rfl rfl) ?_
  refine rg_nil (hK _ ?_)
  refine c_seq ?_
  refine c_seq ?_
  refine c_reg ?_; intro K hK
  refine st rfl rfl rfl (yv_move rfl rfl) ?_
  refine st rfl rfl rfl (yv_len_sl rfl Try.underlying41 rfl (lst_len _)) ?_
  refine st rfl rfl rfl (yv_move rfl rfl) ?_
  refine rg_nil (hK _ ?_)
  obtain ⟨j2, h1, h0⟩ := bind_e h0
  refine c_joinL (fun (a : (List (List Int))) (k : Nat) => ⟨kn [(2, .sc (.slice none 0 0)), (3, .sl 1 k 0 a.length)], hk [(1, ⟨22, 1, true, true, k, a.map (fL 1 fI)⟩)]⟩) (fun a => a = j2) ?_ ?_
  · intro Q1 jn1 jx1 jr1
    refine c_block ?_; intro Q2 bn2 bx2 br2 bo2
    refine c_nilobj 3 1 22 1 rfl rfl ?_; intro v3
    refine c_loopD (fun (a : Int × (List (List Int))) (k : Nat) => ⟨kn [(2, .sc (.slice none 0 0)), (3, .sl 1 k 0 a.2.length), (6, lst 1 (fL 1 fI) a1), (7, int (a1.length : Int)), (8, int a.1)], hk [(1, ⟨22, 1, true, true, k, a.2.map (fL 1 fI)⟩)]⟩) (fun n (a : Int × (List (List Int))) => d_master_own_L0 a1 n a.1 a.2) ((0 : Int), (([] : List (List Int)) : List (List Int))) v3 h1 (fun _ => rfl)
      (leH_kn ⟨⟨_, rfl, (.refl _)⟩, ⟨_, rfl, (.refl _)⟩, ⟨_, rfl, (.refl _)⟩, ⟨_, rfl, (.refl _)⟩, ⟨_, rfl, (.refl _)⟩, trivial⟩ ⟨⟨_, rfl, (.refl _)⟩, trivial⟩) ?_
    rintro n ⟨y0_2, y0_3⟩ w0_1 hm h1 Q3 ln3 lx3 lr3
    replace h1 : d_master_own_L0 a1 (n + 1) y0_2 y0_3 = some _ := h1
    rw [d_master_own_L0] at h1
    refine c_show ⟨kn [(2, .sc (.slice none 0 0)), (3, .sl 1 w0_1 0 y0_3.length), (6, lst 1 (fL 1 fI) a1), (7, int (a1.length : Int)), (8, int y0_2)], hk [(1, ⟨22, 1, true, true, w0_1, y0_3.map (fL 1 fI)⟩)]⟩ ?_
    refine c_seq ?_
    refine c_reg ?_; intro K hK
    obtain ⟨x4, e4, h1⟩ := bnd_e h1
    refine st rfl rfl rfl (yv_to (y := boo x4) (yv_lss rfl rfl rfl) (congrArg boo e4)) ?_
    refine rg_nil (hK _ ?_)
    refine c_seq ?_
    refine c_if (b := x4) rfl ?_ ?_
    · intro hb; subst hb; replace h1 := ct h1
      refine c_skip ?_
      refine c_seq ?_
      refine c_block ?_; intro Q4 bn4 bx4 br4 bo4
      refine c_seq ?_
      refine c_reg ?_; intro K hK
      obtain ⟨x5, e5, h1⟩ := bind_e h1
      refine st rfl rfl rfl (yv_ixT rfl Try.underlying41 sh22 rfl rfl e5) ?_
      refine st rfl rfl rfl (yv_load rfl sh22 rfl (.pp _) rfl) ?_
      refine st rfl rfl rfl (yv_assign rfl rfl) ?_
      refine rg_nil (hK _ ?_)
      refine c_reg ?_; intro K hK
      refine st rfl rfl rfl (yv_move rfl rfl) ?_
      refine st rfl rfl rfl (yv_move rfl rfl) ?_
      obtain ⟨p6, h1⟩ := asrt_e h1
      refine se rfl rfl rfl (yl_call rfl rfl (.cons rfl .nil) cal46 (pc_cv (clone46_c (id := 2) (l := x5) rfl p6) (.cons (.refl _) .nil))) ?_; rintro _ _ ⟨v7, rfl, rfl⟩
      refine st rfl rfl rfl (yv_buildSlice (ps := [(0, _)]) (rows := [[.sl 2 v7 0 x5.length]]) rfl Try.underlying41 bz22 (.cons rfl .nil) (by kernel_rfl) rfl rfl rfl) ?_
      obtain ⟨x8, e8, h1⟩ := bnd_e h1
      obtain ⟨p9, h1⟩ := asrt_e h1
      refine se rfl rfl rfl (Yield.frz 2 rfl (yl_appT (g := (fL 1 fI)) (l := y0_3) (m := [x5]) .any rfl Try.underlying41 bz22 by22 rfl rfl rfl rfl rfl rfl rfl rfl rfl rfl (Eq.symm rfl) (CvLL.list (.cons (.cons (cv_lst rfl rfl rfl rfl rfl (Eq.symm rfl)) .nil) .nil)) (fun _ => rfl) e8 p9)) ?_; rintro _ _ ⟨v10, -, rfl, rfl⟩
      refine st rfl rfl rfl (yv_assign rfl rfl) ?_
      refine rg_nil (hK _ ?_)
      refine c_nil (bn4 _ ?_)
      refine c_reg ?_; intro K hK
      obtain ⟨x11, e11, h1⟩ := bnd_e h1
      refine st rfl rfl rfl (yv_add rfl rfl rfl e11) ?_
      refine st rfl rfl rfl (yv_move rfl rfl) ?_
      refine rg_nil (hK _ ?_)
      refine c_nil (ln3 _ ⟨(x11, x8), v10, h1, leH_kn ⟨⟨_, rfl, (.refl _)⟩, ⟨_, rfl, (.refl _)⟩, ⟨_, rfl, (.refl _)⟩, ⟨_, rfl, (.refl _)⟩, ⟨_, rfl, (.refl _)⟩, trivial⟩ ⟨⟨_, rfl, (.refl _)⟩, trivial⟩⟩)
    · intro hb; subst hb; replace h1 := cf h1
      refine c_exit (lx3 _ _ (bx2 _ ?_))
      obtain rfl := nxt_e h1
      refine c_nil (jn1 _ ⟨y0_3, w0_1, rfl, leH_kn ⟨⟨_, rfl, (.refl _)⟩, ⟨_, rfl, (.refl _)⟩, trivial⟩ ⟨⟨_, rfl, (.refl _)⟩, trivial⟩⟩)
  · rintro y1_2 w1_1 rfl
    refine c_show ⟨kn [(2, .sc (.slice none 0 0)), (3, .sl 1 w1_1 0 y1_2.length)], hk [(1, ⟨22, 1, true, true, w1_1, y1_2.map (fL 1 fI)⟩)]⟩ ?_
    refine c_seq ?_
    refine c_reg ?_; intro K hK
    refine st rfl rfl rfl (yv_move rfl rfl) ?_
    refine st rfl rfl rfl (yv_assign rfl rfl) ?_
    refine rg_nil (hK _ ?_)
    obtain rfl := nxt_e h0
    refine c_ret (hret _ _ _ (.tmp rfl .nil) (fun _ _ h => h) ?_)
    exact (cv_lst rfl rfl rfl rfl rfl (Eq.symm rfl))
end Go.Pv
