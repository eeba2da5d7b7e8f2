import Derived.Test.YtbcjcecegdfnpaaGreatPvAE
import Derived.Test.YtbcjcecegdfnpaaGreatProg
set_option linter.unusedVariables false
set_option linter.unusedSimpArgs false
namespace Go.Pv
open Go.Proofs
theorem mixed : Tryz.prog.follows .mixedOrders = true := by kernel_rfl
set_option maxRecDepth 10000
set_option maxHeartbeats 4000000
structure GMaster where
  Entities : Int
  Periods : Int
  Weights : List Int
  Methods : List (List Int)
  Costs : List (List Int)
  deriving DecidableEq, Inhabited
@[reducible] def GMaster.av (x : GMaster) : List AV := [int x.Entities, int x.Periods, lst 1 fI x.Weights, lst 1 (fL 1 fI) x.Methods, lst 1 (fL 1 fI) x.Costs]
theorem GMaster.pvc (x : GMaster) : ∀ a ∈ x.av, PV a := by
  intro a ha; simp only [GMaster.av, List.mem_cons, List.not_mem_nil, or_false] at ha
  rcases ha with rfl | rfl | rfl | rfl | rfl
  · exact pvI x.Entities
  · exact pvI x.Periods
  · exact (pvLs pvcI) x.Weights
  · exact (pvLs (pvcLs pvcI)) x.Methods
  · exact (pvLs (pvcLs pvcI)) x.Costs
structure GLayer where
  Qty : Int
  Value : Int
  Profit : Int
  deriving DecidableEq, Inhabited
@[reducible] def GLayer.av (x : GLayer) : List AV := [int x.Qty, int x.Value, int x.Profit]
theorem GLayer.pvc (x : GLayer) : ∀ a ∈ x.av, PV a := by
  intro a ha; simp only [GLayer.av, List.mem_cons, List.not_mem_nil, or_false] at ha
  rcases ha with rfl | rfl | rfl
  · exact pvI x.Qty
  · exact pvI x.Value
  · exact pvI x.Profit
structure A3_Int where
  a0 : Int
  a1 : Int
  a2 : Int
  deriving DecidableEq, Inhabited
@[reducible] def A3_Int.av (x : A3_Int) : List AV := [int x.a0, int x.a1, int x.a2]
theorem A3_Int.pvc (x : A3_Int) : ∀ a ∈ x.av, PV a := by
  intro a ha; simp only [A3_Int.av, List.mem_cons, List.not_mem_nil, or_false] at ha
  rcases ha with rfl | rfl | rfl
  · exact pvI x.a0
  · exact pvI x.a1
  · exact pvI x.a2
structure GPool where
  Layers : List GLayer
  Pend : A3_Int
  deriving DecidableEq, Inhabited
@[reducible] def GPool.av (x : GPool) : List AV := [lst 3 GLayer.av x.Layers, int x.Pend.a0, int x.Pend.a1, int x.Pend.a2]
theorem GPool.pvc (x : GPool) : ∀ a ∈ x.av, PV a := by
  intro a ha; simp only [GPool.av, List.mem_cons, List.not_mem_nil, or_false] at ha
  rcases ha with rfl | rfl | rfl | rfl
  · exact (pvLs GLayer.pvc) x.Layers
  · exact pvI x.Pend.a0
  · exact pvI x.Pend.a1
  · exact pvI x.Pend.a2
structure GRoll where
  Open : Int
  Bought : Int
  Landed : Int
  Arrived : Int
  Returned : Int
  Sold : Int
  Shipped : Int
  SentBack : Int
  Scrapped : Int
  Lost : Int
  Revalued : Int
  deriving DecidableEq, Inhabited
@[reducible] def GRoll.av (x : GRoll) : List AV := [int x.Open, int x.Bought, int x.Landed, int x.Arrived, int x.Returned, int x.Sold, int x.Shipped, int x.SentBack, int x.Scrapped, int x.Lost, int x.Revalued]
theorem GRoll.pvc (x : GRoll) : ∀ a ∈ x.av, PV a := by
  intro a ha; simp only [GRoll.av, List.mem_cons, List.not_mem_nil, or_false] at ha
  rcases ha with rfl | rfl | rfl | rfl | rfl | rfl | rfl | rfl | rfl | rfl | rfl
  · exact pvI x.Open
  · exact pvI x.Bought
  · exact pvI x.Landed
  · exact pvI x.Arrived
  · exact pvI x.Returned
  · exact pvI x.Sold
  · exact pvI x.Shipped
  · exact pvI x.SentBack
  · exact pvI x.Scrapped
  · exact pvI x.Lost
  · exact pvI x.Revalued
structure GEnt where
  Now : Int
  Closed : Bool
  Pools : List GPool
  Bal : List Int
  Rolls : List GRoll
  Prices : List Int
  Down : List Int
  Ahead : List GEnt
  deriving Inhabited
mutual
def GEnt.av : GEnt → List AV
  | ⟨Now, Closed, Pools, Bal, Rolls, Prices, Down, Ahead⟩ => [int Now, boo Closed, lst 4 GPool.av Pools, lst 1 fI Bal, lst 11 GRoll.av Rolls, lst 1 fI Prices, lst 1 fI Down, .list 8 (GEnt.avs Ahead)]
def GEnt.avs : List GEnt → List (List AV)
  | [] => []
  | x :: r => GEnt.av x :: GEnt.avs r
end
theorem GEnt.avs_map (l : List GEnt) : GEnt.avs l = l.map GEnt.av := by
  induction l with
  | nil => unfold GEnt.avs; rfl
  | cons x r ih => unfold GEnt.avs; rw [ih]; rfl
theorem GEnt.av_eq (x : GEnt) : GEnt.av x = [int x.Now, boo x.Closed, lst 4 GPool.av x.Pools, lst 1 fI x.Bal, lst 11 GRoll.av x.Rolls, lst 1 fI x.Prices, lst 1 fI x.Down, lst 8 GEnt.av x.Ahead] := by
  cases x; unfold GEnt.av; rw [GEnt.avs_map]
theorem GEnt.one (x : GEnt) : allOne (GEnt.av x) = true := by rw [GEnt.av_eq]; rfl
mutual
theorem GEnt.pvc : ∀ (x : GEnt), ∀ a ∈ x.av, PV a
  | ⟨Now, Closed, Pools, Bal, Rolls, Prices, Down, Ahead⟩ => by
    intro a ha; unfold GEnt.av at ha; simp only [List.mem_cons, List.not_mem_nil, or_false] at ha
    rcases ha with rfl | rfl | rfl | rfl | rfl | rfl | rfl | rfl
    · exact pvI Now
    · exact pvB Closed
    · exact (pvLs GPool.pvc) Pools
    · exact (pvLs pvcI) Bal
    · exact (pvLs GRoll.pvc) Rolls
    · exact (pvLs pvcI) Prices
    · exact (pvLs pvcI) Down
    · exact .list (fun r hr => GEnt.pvcs Ahead r hr)
theorem GEnt.pvcs : ∀ (l : List GEnt), ∀ r ∈ GEnt.avs l, ∀ a ∈ r, PV a
  | [] => by intro r hr; unfold GEnt.avs at hr; cases hr
  | x :: l => by
    intro r hr; unfold GEnt.avs at hr
    rcases List.mem_cons.1 hr with e | h
    · rw [e]; exact GEnt.pvc x
    · exact GEnt.pvcs l r h
end
structure GReceipt where
  Entity : Int
  Item : Int
  Loc : Int
  Qty : Int
  Value : Int
  Open : Int
  Accrued : Int
  Back : Int
  deriving DecidableEq, Inhabited
@[reducible] def GReceipt.av (x : GReceipt) : List AV := [int x.Entity, int x.Item, int x.Loc, int x.Qty, int x.Value, int x.Open, int x.Accrued, int x.Back]
theorem GReceipt.pvc (x : GReceipt) : ∀ a ∈ x.av, PV a := by
  intro a ha; simp only [GReceipt.av, List.mem_cons, List.not_mem_nil, or_false] at ha
  rcases ha with rfl | rfl | rfl | rfl | rfl | rfl | rfl | rfl
  · exact pvI x.Entity
  · exact pvI x.Item
  · exact pvI x.Loc
  · exact pvI x.Qty
  · exact pvI x.Value
  · exact pvI x.Open
  · exact pvI x.Accrued
  · exact pvI x.Back
theorem GReceipt.eqv (x y : GReceipt) : (decide (x.Entity = y.Entity) && (decide (x.Item = y.Item) && (decide (x.Loc = y.Loc) && (decide (x.Qty = y.Qty) && (decide (x.Value = y.Value) && (decide (x.Open = y.Open) && (decide (x.Accrued = y.Accrued) && (decide (x.Back = y.Back) && true)))))))) = decide (x = y) := by
  cases x; cases y; rw [Bool.eq_iff_iff]; simp only [Bool.and_eq_true, decide_eq_true_eq, GReceipt.mk.injEq, and_true]
structure GSale where
  Entity : Int
  Item : Int
  Loc : Int
  Qty : Int
  Back : Int
  Cost : Int
  Profit : Int
  Period : Int
  Waits : Bool
  deriving DecidableEq, Inhabited
@[reducible] def GSale.av (x : GSale) : List AV := [int x.Entity, int x.Item, int x.Loc, int x.Qty, int x.Back, int x.Cost, int x.Profit, int x.Period, boo x.Waits]
theorem GSale.pvc (x : GSale) : ∀ a ∈ x.av, PV a := by
  intro a ha; simp only [GSale.av, List.mem_cons, List.not_mem_nil, or_false] at ha
  rcases ha with rfl | rfl | rfl | rfl | rfl | rfl | rfl | rfl | rfl
  · exact pvI x.Entity
  · exact pvI x.Item
  · exact pvI x.Loc
  · exact pvI x.Qty
  · exact pvI x.Back
  · exact pvI x.Cost
  · exact pvI x.Profit
  · exact pvI x.Period
  · exact pvB x.Waits
structure GTransit where
  From : Int
  To : Int
  Item : Int
  Qty : Int
  Value : Int
  Profit : Int
  deriving DecidableEq, Inhabited
@[reducible] def GTransit.av (x : GTransit) : List AV := [int x.From, int x.To, int x.Item, int x.Qty, int x.Value, int x.Profit]
theorem GTransit.pvc (x : GTransit) : ∀ a ∈ x.av, PV a := by
  intro a ha; simp only [GTransit.av, List.mem_cons, List.not_mem_nil, or_false] at ha
  rcases ha with rfl | rfl | rfl | rfl | rfl | rfl
  · exact pvI x.From
  · exact pvI x.To
  · exact pvI x.Item
  · exact pvI x.Qty
  · exact pvI x.Value
  · exact pvI x.Profit
structure GState where
  Master : GMaster
  Ents : List GEnt
  Receipts : List GReceipt
  Sales : List GSale
  Transits : List GTransit
  Done : Int
  deriving Inhabited
@[reducible] def GState.av (x : GState) : List AV := [int x.Master.Entities, int x.Master.Periods, lst 1 fI x.Master.Weights, lst 1 (fL 1 fI) x.Master.Methods, lst 1 (fL 1 fI) x.Master.Costs, lst 8 GEnt.av x.Ents, lst 8 GReceipt.av x.Receipts, lst 9 GSale.av x.Sales, lst 6 GTransit.av x.Transits, int x.Done]
theorem GState.pvc (x : GState) : ∀ a ∈ x.av, PV a := by
  intro a ha; simp only [GState.av, List.mem_cons, List.not_mem_nil, or_false] at ha
  rcases ha with rfl | rfl | rfl | rfl | rfl | rfl | rfl | rfl | rfl | rfl
  · exact pvI x.Master.Entities
  · exact pvI x.Master.Periods
  · exact (pvLs pvcI) x.Master.Weights
  · exact (pvLs (pvcLs pvcI)) x.Master.Methods
  · exact (pvLs (pvcLs pvcI)) x.Master.Costs
  · exact (pvLs GEnt.pvc) x.Ents
  · exact (pvLs GReceipt.pvc) x.Receipts
  · exact (pvLs GSale.pvc) x.Sales
  · exact (pvLs GTransit.pvc) x.Transits
  · exact pvI x.Done
structure GOp where
  Kind : Int
  E : Int
  Item : Int
  Loc : Int
  To : Int
  Qty : Int
  Amount : Int
  Ref : Int
  Refs : List Int
  deriving DecidableEq, Inhabited
@[reducible] def GOp.av (x : GOp) : List AV := [int x.Kind, int x.E, int x.Item, int x.Loc, int x.To, int x.Qty, int x.Amount, int x.Ref, lst 1 fI x.Refs]
theorem GOp.pvc (x : GOp) : ∀ a ∈ x.av, PV a := by
  intro a ha; simp only [GOp.av, List.mem_cons, List.not_mem_nil, or_false] at ha
  rcases ha with rfl | rfl | rfl | rfl | rfl | rfl | rfl | rfl | rfl
  · exact pvI x.Kind
  · exact pvI x.E
  · exact pvI x.Item
  · exact pvI x.Loc
  · exact pvI x.To
  · exact pvI x.Qty
  · exact pvI x.Amount
  · exact pvI x.Ref
  · exact (pvLs pvcI) x.Refs
structure Gstandard where
  cost : Int
  deriving DecidableEq, Inhabited
@[reducible] def Gstandard.av (x : Gstandard) : List AV := [int x.cost]
theorem Gstandard.pvc (x : Gstandard) : ∀ a ∈ x.av, PV a := by
  intro a ha; simp only [Gstandard.av, List.mem_cons, List.not_mem_nil, or_false] at ha
  subst ha; exact pvI x.cost
structure Gperiodic where
  deriving DecidableEq, Inhabited
@[reducible] def Gperiodic.av (x : Gperiodic) : List AV := []
theorem Gperiodic.pvc (x : Gperiodic) : ∀ a ∈ x.av, PV a := by
  intro a ha; cases ha
structure Gmoving where
  deriving DecidableEq, Inhabited
@[reducible] def Gmoving.av (x : Gmoving) : List AV := []
theorem Gmoving.pvc (x : Gmoving) : ∀ a ∈ x.av, PV a := by
  intro a ha; cases ha
structure Gfirst where
  deriving DecidableEq, Inhabited
@[reducible] def Gfirst.av (x : Gfirst) : List AV := []
theorem Gfirst.pvc (x : Gfirst) : ∀ a ∈ x.av, PV a := by
  intro a ha; cases ha
structure GLine where
  Account : Int
  Amount : Int
  deriving DecidableEq, Inhabited
@[reducible] def GLine.av (x : GLine) : List AV := [int x.Account, int x.Amount]
theorem GLine.pvc (x : GLine) : ∀ a ∈ x.av, PV a := by
  intro a ha; simp only [GLine.av, List.mem_cons, List.not_mem_nil, or_false] at ha
  rcases ha with rfl | rfl
  · exact pvI x.Account
  · exact pvI x.Amount
theorem sh1 : tySh Tryz.prog 1 = some (1, false) := by kernel_rfl
theorem sh3 : tySh Tryz.prog 3 = some (1, false) := by kernel_rfl
theorem sh4 : tySh Tryz.prog 4 = some (1, false) := by kernel_rfl
theorem sh23 : tySh Tryz.prog 23 = some (1, false) := by kernel_rfl
theorem sh24 : tySh Tryz.prog 24 = some (1, false) := by kernel_rfl
theorem sh26 : tySh Tryz.prog 26 = some (5, true) := by kernel_rfl
theorem sh27 : tySh Tryz.prog 27 = some (1, false) := by kernel_rfl
theorem sh28 : tySh Tryz.prog 28 = some (1, false) := by kernel_rfl
theorem sh32 : tySh Tryz.prog 32 = some (10, true) := by kernel_rfl
theorem sh33 : tySh Tryz.prog 33 = some (1, false) := by kernel_rfl
theorem sh39 : tySh Tryz.prog 39 = some (1, false) := by kernel_rfl
theorem sh40 : tySh Tryz.prog 40 = some (1, false) := by kernel_rfl
theorem sh42 : tySh Tryz.prog 42 = some (8, true) := by kernel_rfl
theorem sh44 : tySh Tryz.prog 44 = some (8, true) := by kernel_rfl
theorem sh46 : tySh Tryz.prog 46 = some (3, true) := by kernel_rfl
theorem sh49 : tySh Tryz.prog 49 = some (11, true) := by kernel_rfl
theorem sh66 : tySh Tryz.prog 66 = some (1, false) := by kernel_rfl
theorem sh69 : tySh Tryz.prog 69 = some (4, true) := by kernel_rfl
theorem sh78 : tySh Tryz.prog 78 = some (2, true) := by kernel_rfl
theorem sh79 : tySh Tryz.prog 79 = some (1, false) := by kernel_rfl
theorem sh104 : tySh Tryz.prog 104 = some (10, true) := by kernel_rfl
theorem sh115 : tySh Tryz.prog 115 = some (1, false) := by kernel_rfl
theorem sh154 : tySh Tryz.prog 154 = some (1, false) := by kernel_rfl
theorem sh159 : tySh Tryz.prog 159 = some (1, false) := by kernel_rfl
theorem sh166 : tySh Tryz.prog 166 = some (1, false) := by kernel_rfl
theorem sh173 : tySh Tryz.prog 173 = some (1, false) := by kernel_rfl
theorem sh187 : tySh Tryz.prog 187 = some (2, true) := by kernel_rfl
theorem sh203 : tySh Tryz.prog 203 = some (4, true) := by kernel_rfl
theorem sh235 : tySh Tryz.prog 235 = some (3, true) := by kernel_rfl
theorem by23 : bby Tryz.prog 23 = some 24 := by kernel_rfl
theorem by3 : bby Tryz.prog 3 = some 8 := by kernel_rfl
theorem by42 : bby Tryz.prog 42 = some 160 := by kernel_rfl
theorem by44 : bby Tryz.prog 44 = some 64 := by kernel_rfl
theorem by46 : bby Tryz.prog 46 = some 24 := by kernel_rfl
theorem by49 : bby Tryz.prog 49 = some 88 := by kernel_rfl
theorem by69 : bby Tryz.prog 69 = some 48 := by kernel_rfl
theorem by78 : bby Tryz.prog 78 = some 16 := by kernel_rfl
theorem bz1 : bsz Tryz.prog 1 = some (1, [.nilFunc]) := by kernel_rfl
theorem bz115 : bsz Tryz.prog 115 = some (1, [.pointer none]) := by kernel_rfl
theorem bz187 : bsz Tryz.prog 187 = some (2, [.pointer none, .slice none 0 0]) := by kernel_rfl
theorem bz23 : bsz Tryz.prog 23 = some (1, [.slice none 0 0]) := by kernel_rfl
theorem bz3 : bsz Tryz.prog 3 = some (1, [.int .i64 0]) := by kernel_rfl
theorem bz42 : bsz Tryz.prog 42 = some (8, [.int .i64 0, .bool false, .slice none 0 0, .slice none 0 0, .slice none 0 0, .slice none 0 0, .slice none 0 0, .slice none 0 0]) := by kernel_rfl
theorem bz44 : bsz Tryz.prog 44 = some (8, [.int .i64 0, .int .i64 0, .int .i64 0, .int .i64 0, .int .i64 0, .int .i64 0, .int .i64 0, .int .i64 0]) := by kernel_rfl
theorem bz46 : bsz Tryz.prog 46 = some (3, [.int .i64 0, .int .i64 0, .int .i64 0]) := by kernel_rfl
theorem bz49 : bsz Tryz.prog 49 = some (11, [.int .i64 0, .int .i64 0, .int .i64 0, .int .i64 0, .int .i64 0, .int .i64 0, .int .i64 0, .int .i64 0, .int .i64 0, .int .i64 0, .int .i64 0]) := by kernel_rfl
theorem bz69 : bsz Tryz.prog 69 = some (4, [.slice none 0 0, .int .i64 0, .int .i64 0, .int .i64 0]) := by kernel_rfl
theorem bz78 : bsz Tryz.prog 78 = some (2, [.int .i64 0, .int .i64 0]) := by kernel_rfl
theorem cal105 : cal Tryz.prog 105 = true := by kernel_rfl
theorem cal106 : cal Tryz.prog 106 = true := by kernel_rfl
theorem cal107 : cal Tryz.prog 107 = true := by kernel_rfl
theorem cal112 : cal Tryz.prog 112 = true := by kernel_rfl
theorem cal113 : cal Tryz.prog 113 = true := by kernel_rfl
theorem cal114 : cal Tryz.prog 114 = true := by kernel_rfl
theorem cal115 : cal Tryz.prog 115 = true := by kernel_rfl
theorem cal116 : cal Tryz.prog 116 = true := by kernel_rfl
theorem cal117 : cal Tryz.prog 117 = true := by kernel_rfl
theorem cal118 : cal Tryz.prog 118 = true := by kernel_rfl
theorem cal119 : cal Tryz.prog 119 = true := by kernel_rfl
theorem cal120 : cal Tryz.prog 120 = true := by kernel_rfl
theorem cal121 : cal Tryz.prog 121 = true := by kernel_rfl
theorem cal122 : cal Tryz.prog 122 = true := by kernel_rfl
theorem cal123 : cal Tryz.prog 123 = true := by kernel_rfl
theorem cal124 : cal Tryz.prog 124 = true := by kernel_rfl
theorem cal125 : cal Tryz.prog 125 = true := by kernel_rfl
theorem cal126 : cal Tryz.prog 126 = true := by kernel_rfl
theorem cal127 : cal Tryz.prog 127 = true := by kernel_rfl
theorem cal128 : cal Tryz.prog 128 = true := by kernel_rfl
theorem cal129 : cal Tryz.prog 129 = true := by kernel_rfl
theorem cal130 : cal Tryz.prog 130 = true := by kernel_rfl
theorem cal131 : cal Tryz.prog 131 = true := by kernel_rfl
theorem cal133 : cal Tryz.prog 133 = true := by kernel_rfl
theorem cal142 : cal Tryz.prog 142 = true := by kernel_rfl
theorem cal144 : cal Tryz.prog 144 = true := by kernel_rfl
theorem cal145 : cal Tryz.prog 145 = true := by kernel_rfl
theorem cal146 : cal Tryz.prog 146 = true := by kernel_rfl
theorem cal147 : cal Tryz.prog 147 = true := by kernel_rfl
theorem cal148 : cal Tryz.prog 148 = true := by kernel_rfl
theorem cal149 : cal Tryz.prog 149 = true := by kernel_rfl
theorem cal15 : cal Tryz.prog 15 = true := by kernel_rfl
theorem cal150 : cal Tryz.prog 150 = true := by kernel_rfl
theorem cal151 : cal Tryz.prog 151 = true := by kernel_rfl
theorem cal152 : cal Tryz.prog 152 = true := by kernel_rfl
theorem cal154 : cal Tryz.prog 154 = true := by kernel_rfl
theorem cal155 : cal Tryz.prog 155 = true := by kernel_rfl
theorem cal16 : cal Tryz.prog 16 = true := by kernel_rfl
theorem cal160 : cal Tryz.prog 160 = true := by kernel_rfl
theorem cal161 : cal Tryz.prog 161 = true := by kernel_rfl
theorem cal162 : cal Tryz.prog 162 = true := by kernel_rfl
theorem cal164 : cal Tryz.prog 164 = true := by kernel_rfl
theorem cal166 : cal Tryz.prog 166 = true := by kernel_rfl
theorem cal17 : cal Tryz.prog 17 = true := by kernel_rfl
theorem cal18 : cal Tryz.prog 18 = true := by kernel_rfl
theorem cal184 : cal Tryz.prog 184 = true := by kernel_rfl
theorem cal186 : cal Tryz.prog 186 = true := by kernel_rfl
theorem cal188 : cal Tryz.prog 188 = true := by kernel_rfl
theorem cal19 : cal Tryz.prog 19 = true := by kernel_rfl
theorem cal190 : cal Tryz.prog 190 = true := by kernel_rfl
theorem cal191 : cal Tryz.prog 191 = true := by kernel_rfl
theorem cal192 : cal Tryz.prog 192 = true := by kernel_rfl
theorem cal193 : cal Tryz.prog 193 = true := by kernel_rfl
theorem cal194 : cal Tryz.prog 194 = true := by kernel_rfl
theorem cal196 : cal Tryz.prog 196 = true := by kernel_rfl
theorem cal198 : cal Tryz.prog 198 = true := by kernel_rfl
theorem cal199 : cal Tryz.prog 199 = true := by kernel_rfl
theorem cal201 : cal Tryz.prog 201 = true := by kernel_rfl
theorem cal203 : cal Tryz.prog 203 = true := by kernel_rfl
theorem cal205 : cal Tryz.prog 205 = true := by kernel_rfl
theorem cal207 : cal Tryz.prog 207 = true := by kernel_rfl
theorem cal208 : cal Tryz.prog 208 = true := by kernel_rfl
theorem cal31 : cal Tryz.prog 31 = true := by kernel_rfl
theorem cal36 : cal Tryz.prog 36 = true := by kernel_rfl
theorem cal37 : cal Tryz.prog 37 = true := by kernel_rfl
theorem cal38 : cal Tryz.prog 38 = true := by kernel_rfl
theorem cal39 : cal Tryz.prog 39 = true := by kernel_rfl
theorem cal40 : cal Tryz.prog 40 = true := by kernel_rfl
theorem cal41 : cal Tryz.prog 41 = true := by kernel_rfl
theorem cal42 : cal Tryz.prog 42 = true := by kernel_rfl
theorem cal43 : cal Tryz.prog 43 = true := by kernel_rfl
theorem cal44 : cal Tryz.prog 44 = true := by kernel_rfl
theorem cal45 : cal Tryz.prog 45 = true := by kernel_rfl
theorem cal46 : cal Tryz.prog 46 = true := by kernel_rfl
theorem cal47 : cal Tryz.prog 47 = true := by kernel_rfl
theorem cal51 : cal Tryz.prog 51 = true := by kernel_rfl
theorem cal65 : cal Tryz.prog 65 = true := by kernel_rfl
theorem cal66 : cal Tryz.prog 66 = true := by kernel_rfl
theorem cal71 : cal Tryz.prog 71 = true := by kernel_rfl
theorem cal72 : cal Tryz.prog 72 = true := by kernel_rfl
theorem cal73 : cal Tryz.prog 73 = true := by kernel_rfl
theorem cal74 : cal Tryz.prog 74 = true := by kernel_rfl
theorem cal75 : cal Tryz.prog 75 = true := by kernel_rfl
theorem cal76 : cal Tryz.prog 76 = true := by kernel_rfl
theorem cal77 : cal Tryz.prog 77 = true := by kernel_rfl
theorem cal78 : cal Tryz.prog 78 = true := by kernel_rfl
theorem cal79 : cal Tryz.prog 79 = true := by kernel_rfl
theorem cal80 : cal Tryz.prog 80 = true := by kernel_rfl
theorem cal81 : cal Tryz.prog 81 = true := by kernel_rfl
theorem cal82 : cal Tryz.prog 82 = true := by kernel_rfl
theorem cal83 : cal Tryz.prog 83 = true := by kernel_rfl
theorem cal84 : cal Tryz.prog 84 = true := by kernel_rfl
theorem cal85 : cal Tryz.prog 85 = true := by kernel_rfl
theorem cal90 : cal Tryz.prog 90 = true := by kernel_rfl
theorem cal92 : cal Tryz.prog 92 = true := by kernel_rfl
theorem fl44 : flds Tryz.prog 44 = some [(3, 0), (3, 1), (3, 2), (3, 3), (3, 4), (3, 5), (3, 6), (3, 7)] := by kernel_rfl
theorem fo104_0 : fOff Tryz.prog 104 0 = some 0 := by kernel_rfl
theorem fo186_0 : fOff Tryz.prog 186 0 = some 0 := by kernel_rfl
theorem fo187_0 : fOff Tryz.prog 187 0 = some 0 := by kernel_rfl
theorem fo187_1 : fOff Tryz.prog 187 1 = some 1 := by kernel_rfl
theorem fo26_0 : fOff Tryz.prog 26 0 = some 0 := by kernel_rfl
theorem fo26_1 : fOff Tryz.prog 26 1 = some 1 := by kernel_rfl
theorem fo26_2 : fOff Tryz.prog 26 2 = some 2 := by kernel_rfl
theorem fo26_3 : fOff Tryz.prog 26 3 = some 3 := by kernel_rfl
theorem fo26_4 : fOff Tryz.prog 26 4 = some 4 := by kernel_rfl
theorem fo32_0 : fOff Tryz.prog 32 0 = some 0 := by kernel_rfl
theorem fo32_1 : fOff Tryz.prog 32 1 = some 5 := by kernel_rfl
theorem fo32_2 : fOff Tryz.prog 32 2 = some 6 := by kernel_rfl
theorem fo38_0 : fOff Tryz.prog 38 0 = some 0 := by kernel_rfl
theorem fo38_1 : fOff Tryz.prog 38 1 = some 1 := by kernel_rfl
theorem fo38_2 : fOff Tryz.prog 38 2 = some 2 := by kernel_rfl
theorem fo38_3 : fOff Tryz.prog 38 3 = some 3 := by kernel_rfl
theorem fo38_5 : fOff Tryz.prog 38 5 = some 5 := by kernel_rfl
theorem fo38_6 : fOff Tryz.prog 38 6 = some 6 := by kernel_rfl
theorem fo42_1 : fOff Tryz.prog 42 1 = some 1 := by kernel_rfl
theorem fo42_2 : fOff Tryz.prog 42 2 = some 2 := by kernel_rfl
theorem fo42_3 : fOff Tryz.prog 42 3 = some 3 := by kernel_rfl
theorem fo42_4 : fOff Tryz.prog 42 4 = some 4 := by kernel_rfl
theorem fo42_5 : fOff Tryz.prog 42 5 = some 5 := by kernel_rfl
theorem fo46_0 : fOff Tryz.prog 46 0 = some 0 := by kernel_rfl
theorem fo46_1 : fOff Tryz.prog 46 1 = some 1 := by kernel_rfl
theorem fo46_2 : fOff Tryz.prog 46 2 = some 2 := by kernel_rfl
theorem fo49_0 : fOff Tryz.prog 49 0 = some 0 := by kernel_rfl
theorem fo49_1 : fOff Tryz.prog 49 1 = some 1 := by kernel_rfl
theorem fo49_10 : fOff Tryz.prog 49 10 = some 10 := by kernel_rfl
theorem fo49_2 : fOff Tryz.prog 49 2 = some 2 := by kernel_rfl
theorem fo49_3 : fOff Tryz.prog 49 3 = some 3 := by kernel_rfl
theorem fo49_4 : fOff Tryz.prog 49 4 = some 4 := by kernel_rfl
theorem fo49_5 : fOff Tryz.prog 49 5 = some 5 := by kernel_rfl
theorem fo49_6 : fOff Tryz.prog 49 6 = some 6 := by kernel_rfl
theorem fo49_7 : fOff Tryz.prog 49 7 = some 7 := by kernel_rfl
theorem fo49_8 : fOff Tryz.prog 49 8 = some 8 := by kernel_rfl
theorem fo49_9 : fOff Tryz.prog 49 9 = some 9 := by kernel_rfl
theorem fo69_0 : fOff Tryz.prog 69 0 = some 0 := by kernel_rfl
theorem fo78_0 : fOff Tryz.prog 78 0 = some 0 := by kernel_rfl
theorem fo78_1 : fOff Tryz.prog 78 1 = some 1 := by kernel_rfl
theorem fp235_0 : fPart Tryz.prog 235 0 = some (0, 173) := by kernel_rfl
theorem fp235_2 : fPart Tryz.prog 235 2 = some (2, 154) := by kernel_rfl
theorem fp69_0 : fPart Tryz.prog 69 0 = some (0, 66) := by kernel_rfl
theorem mth182_184 : mth Tryz.prog 182 "purveyor/pool.in" = some 184 := by kernel_rfl
theorem mth183_194 : mth Tryz.prog 183 "purveyor/pool.in" = some 194 := by kernel_rfl
theorem mth184_199 : mth Tryz.prog 184 "purveyor/pool.in" = some 199 := by kernel_rfl
theorem mth186_203 : mth Tryz.prog 186 "purveyor/pool.in" = some 203 := by kernel_rfl
theorem pl104 : plc Tryz.prog 104 = some [(0, 10)] := by kernel_rfl
theorem pl182 : plc Tryz.prog 182 = some [] := by kernel_rfl
theorem pl183 : plc Tryz.prog 183 = some [] := by kernel_rfl
theorem pl184 : plc Tryz.prog 184 = some [] := by kernel_rfl
theorem pl186 : plc Tryz.prog 186 = some [(0, 1)] := by kernel_rfl
theorem pl187 : plc Tryz.prog 187 = some [(0, 1), (1, 1)] := by kernel_rfl
theorem pl235 : plc Tryz.prog 235 = some [(0, 1), (1, 1), (2, 1)] := by kernel_rfl
theorem pl26 : plc Tryz.prog 26 = some [(0, 1), (1, 1), (2, 1), (3, 1), (4, 1)] := by kernel_rfl
theorem pl32 : plc Tryz.prog 32 = some [(0, 5), (5, 1), (6, 1), (7, 1), (8, 1), (9, 1)] := by kernel_rfl
theorem pl38 : plc Tryz.prog 38 = some [(0, 1), (1, 1), (2, 1), (3, 1), (4, 1), (5, 1), (6, 1), (7, 1), (8, 1)] := by kernel_rfl
theorem pl42 : plc Tryz.prog 42 = some [(0, 1), (1, 1), (2, 1), (3, 1), (4, 1), (5, 1), (6, 1), (7, 1)] := by kernel_rfl
theorem pl44 : plc Tryz.prog 44 = some [(0, 1), (1, 1), (2, 1), (3, 1), (4, 1), (5, 1), (6, 1), (7, 1)] := by kernel_rfl
theorem pl46 : plc Tryz.prog 46 = some [(0, 1), (1, 1), (2, 1)] := by kernel_rfl
theorem pl49 : plc Tryz.prog 49 = some [(0, 1), (1, 1), (2, 1), (3, 1), (4, 1), (5, 1), (6, 1), (7, 1), (8, 1), (9, 1), (10, 1)] := by kernel_rfl
theorem pl69 : plc Tryz.prog 69 = some [(0, 1), (1, 3)] := by kernel_rfl
theorem pl78 : plc Tryz.prog 78 = some [(0, 1), (1, 1)] := by kernel_rfl
theorem z104 : zeroOf Tryz.prog 104 = some [.int .i64 0, .int .i64 0, .slice none 0 0, .slice none 0 0, .slice none 0 0, .slice none 0 0, .slice none 0 0, .slice none 0 0, .slice none 0 0, .int .i64 0] := by kernel_rfl
theorem z182 : zeroOf Tryz.prog 182 = some [] := by kernel_rfl
theorem z183 : zeroOf Tryz.prog 183 = some [] := by kernel_rfl
theorem z184 : zeroOf Tryz.prog 184 = some [] := by kernel_rfl
theorem z186 : zeroOf Tryz.prog 186 = some [.int .i64 0] := by kernel_rfl
theorem z187 : zeroOf Tryz.prog 187 = some [.pointer none, .slice none 0 0] := by kernel_rfl
theorem z203 : zeroOf Tryz.prog 203 = some [.int .u64 0, .int .u64 0, .int .u64 0, .int .u64 0] := by kernel_rfl
theorem z235 : zeroOf Tryz.prog 235 = some [.nilFunc, .nilFunc, .nilFunc] := by kernel_rfl
theorem z26 : zeroOf Tryz.prog 26 = some [.int .i64 0, .int .i64 0, .slice none 0 0, .slice none 0 0, .slice none 0 0] := by kernel_rfl
theorem z3 : zeroOf Tryz.prog 3 = some [.int .i64 0] := by kernel_rfl
theorem z32 : zeroOf Tryz.prog 32 = some [.int .i64 0, .int .i64 0, .slice none 0 0, .slice none 0 0, .slice none 0 0, .slice none 0 0, .slice none 0 0, .slice none 0 0, .slice none 0 0, .int .i64 0] := by kernel_rfl
theorem z33 : zeroOf Tryz.prog 33 = some [.int .i64 0] := by kernel_rfl
theorem z38 : zeroOf Tryz.prog 38 = some [.int .i64 0, .int .i64 0, .int .i64 0, .int .i64 0, .int .i64 0, .int .i64 0, .int .i64 0, .int .i64 0, .slice none 0 0] := by kernel_rfl
theorem z42 : zeroOf Tryz.prog 42 = some [.int .i64 0, .bool false, .slice none 0 0, .slice none 0 0, .slice none 0 0, .slice none 0 0, .slice none 0 0, .slice none 0 0] := by kernel_rfl
theorem z44 : zeroOf Tryz.prog 44 = some [.int .i64 0, .int .i64 0, .int .i64 0, .int .i64 0, .int .i64 0, .int .i64 0, .int .i64 0, .int .i64 0] := by kernel_rfl
theorem z46 : zeroOf Tryz.prog 46 = some [.int .i64 0, .int .i64 0, .int .i64 0] := by kernel_rfl
theorem z49 : zeroOf Tryz.prog 49 = some [.int .i64 0, .int .i64 0, .int .i64 0, .int .i64 0, .int .i64 0, .int .i64 0, .int .i64 0, .int .i64 0, .int .i64 0, .int .i64 0, .int .i64 0] := by kernel_rfl
theorem z69 : zeroOf Tryz.prog 69 = some [.slice none 0 0, .int .i64 0, .int .i64 0, .int .i64 0] := by kernel_rfl
theorem z78 : zeroOf Tryz.prog 78 = some [.int .i64 0, .int .i64 0] := by kernel_rfl
def tb : Tab2 := { sh := [(1, (1, false)), (3, (1, false)), (4, (1, false)), (23, (1, false)), (24, (1, false)), (26, (5, true)), (27, (1, false)), (28, (1, false)), (32, (10, true)), (33, (1, false)), (39, (1, false)), (40, (1, false)), (42, (8, true)), (44, (8, true)), (46, (3, true)), (49, (11, true)), (66, (1, false)), (69, (4, true)), (78, (2, true)), (79, (1, false)), (115, (1, false)), (154, (1, false)), (166, (1, false)), (187, (2, true))], fo := [((26, 0), 0), ((26, 1), 1), ((26, 2), 2), ((26, 3), 3), ((26, 4), 4), ((32, 0), 0), ((32, 1), 5), ((32, 2), 6), ((38, 0), 0), ((38, 1), 1), ((38, 2), 2), ((38, 3), 3), ((38, 5), 5), ((38, 6), 6), ((42, 1), 1), ((42, 2), 2), ((42, 3), 3), ((42, 4), 4), ((42, 5), 5), ((46, 0), 0), ((46, 1), 1), ((46, 2), 2), ((49, 0), 0), ((49, 1), 1), ((49, 2), 2), ((49, 3), 3), ((49, 4), 4), ((49, 5), 5), ((49, 6), 6), ((49, 7), 7), ((49, 8), 8), ((49, 9), 9), ((49, 10), 10), ((69, 0), 0), ((78, 0), 0), ((78, 1), 1), ((104, 0), 0), ((186, 0), 0), ((187, 0), 0), ((187, 1), 1)], fp := [((69, 0), (0, 66)), ((235, 2), (2, 154))], ki := [(3, .i64), (5, .u8), (166, .u64), (169, .u64)], se := [], bl := [(26, [(0, 1), (1, 1), (2, 1), (3, 1), (4, 1)]), (32, [(0, 5), (5, 1), (6, 1), (7, 1), (8, 1), (9, 1)]), (38, [(0, 1), (1, 1), (2, 1), (3, 1), (4, 1), (5, 1), (6, 1), (7, 1), (8, 1)]), (44, [(0, 1), (1, 1), (2, 1), (3, 1), (4, 1), (5, 1), (6, 1), (7, 1)]), (46, [(0, 1), (1, 1), (2, 1)]), (49, [(0, 1), (1, 1), (2, 1), (3, 1), (4, 1), (5, 1), (6, 1), (7, 1), (8, 1), (9, 1), (10, 1)]), (69, [(0, 1), (1, 3)]), (78, [(0, 1), (1, 1)]), (104, [(0, 10)]), (182, []), (183, []), (184, []), (186, [(0, 1)]), (187, [(0, 1), (1, 1)]), (235, [(0, 1), (1, 1), (2, 1)])], zs := [(26, [.int .i64 0, .int .i64 0, .slice none 0 0, .slice none 0 0, .slice none 0 0]), (32, [.int .i64 0, .int .i64 0, .slice none 0 0, .slice none 0 0, .slice none 0 0, .slice none 0 0, .slice none 0 0, .slice none 0 0, .slice none 0 0, .int .i64 0]), (38, [.int .i64 0, .int .i64 0, .int .i64 0, .int .i64 0, .int .i64 0, .int .i64 0, .int .i64 0, .int .i64 0, .slice none 0 0]), (44, [.int .i64 0, .int .i64 0, .int .i64 0, .int .i64 0, .int .i64 0, .int .i64 0, .int .i64 0, .int .i64 0]), (46, [.int .i64 0, .int .i64 0, .int .i64 0]), (49, [.int .i64 0, .int .i64 0, .int .i64 0, .int .i64 0, .int .i64 0, .int .i64 0, .int .i64 0, .int .i64 0, .int .i64 0, .int .i64 0, .int .i64 0]), (69, [.slice none 0 0, .int .i64 0, .int .i64 0, .int .i64 0]), (78, [.int .i64 0, .int .i64 0]), (104, [.int .i64 0, .int .i64 0, .slice none 0 0, .slice none 0 0, .slice none 0 0, .slice none 0 0, .slice none 0 0, .slice none 0 0, .slice none 0 0, .int .i64 0]), (182, []), (183, []), (184, []), (186, [.int .i64 0]), (187, [.pointer none, .slice none 0 0]), (235, [.nilFunc, .nilFunc, .nilFunc])] }
theorem tbk : Tab2Ok Tryz.prog tb := ⟨⟨by kernel_rfl, by kernel_rfl, by kernel_rfl⟩, by kernel_rfl, by kernel_rfl, by kernel_rfl, ⟨z26, z32, z38, z44, z46, z49, z69, z78, z104, z182, z183, z184, z186, z187, z235, trivial⟩⟩
theorem clone45_c {H : AH} {id : Nat} {l : List GReceipt} (hid : H id = none) (hl : l.length ≤ 68719476736) : PC Tryz.prog 45 [lst 8 GReceipt.av l] H (fun y H' => ∃ ver, y = .sl id ver 0 l.length ∧ H' = upd H id (some ⟨44, 8, true, true, ver, l.map GReceipt.av⟩)) := by
  refine pc_of' (c := _) Tryz.func45 rfl rfl ?_; intro Q hret hnorm
  repeat (refine c_seq ?_)
  refine c_reg ?_; intro K hK
  refine st rfl rfl rfl (yv_assign rfl rfl) ?_
  refine rg_nil (hK _ ?_)
  repeat (refine c_seq ?_)
  refine c_reg ?_; intro K hK
  refine st rfl rfl rfl (yv_move rfl rfl) ?_
  refine se rfl rfl rfl (Yield.weak (yl_slnil (xs := l.map GReceipt.av) (sz := 8) rfl Tryz.underlying28 rfl rfl) (fun _ h => h) (fun _ _ => trivial)) ?_; rintro _ _ ⟨b, rfl, hb, rfl⟩
  refine rg_nil (hK _ ?_)
  refine c_if (b := b) rfl ?_ ?_
  · intro h; subst h
    have hl0 : l = [] := List.map_eq_nil_iff.1 (hb rfl)
    subst hl0
    repeat (refine c_seq ?_)
    refine c_reg ?_; intro K hK
    refine st rfl rfl rfl (yv_assign rfl rfl) ?_
    refine rg_nil (hK _ ?_)
    refine c_nilobj 2 id 44 8 rfl hid ?_; intro v
    refine c_ret (hret _ _ _ (.tmp rfl .nil) (fun _ _ h => h) ?_)
    exact ⟨v, rfl, rfl⟩
  · intro h; subst h
    refine c_skip ?_
    repeat (refine c_seq ?_)
    refine c_reg ?_; intro K hK
    refine se rfl rfl rfl (yl_buildO (ps := []) id [] .any rfl Tryz.underlying28 bz44 .nil rfl rfl rfl rfl) ?_; rintro _ _ ⟨v, -, rfl, rfl⟩
    refine st rfl rfl rfl (yv_move rfl rfl) ?_
    refine se rfl rfl rfl (yl_appT (g := GReceipt.av) (l := []) (m := l) (l' := l) .any rfl Tryz.underlying28 bz44 by44 rfl rfl rfl (upd_same _ _ _) rfl rfl rfl rfl rfl rfl rfl (.refl _) (fun _ => rfl) rfl hl) ?_; rintro _ _ ⟨v2, -, rfl, rfl⟩
    refine st rfl rfl rfl (yv_assign rfl rfl) ?_
    refine rg_nil (hK _ ?_)
    refine c_ret (hret _ _ _ (.tmp rfl .nil) (fun _ _ h => h) ?_)
    exact ⟨v2, rfl, upd_updV⟩
theorem clone83_c {H : AH} {id : Nat} {l : List GRoll} (hid : H id = none) (hl : l.length ≤ 68719476736) : PC Tryz.prog 83 [lst 11 GRoll.av l] H (fun y H' => ∃ ver, y = .sl id ver 0 l.length ∧ H' = upd H id (some ⟨49, 11, true, true, ver, l.map GRoll.av⟩)) := by
  refine pc_of' (c := _) Tryz.func83 rfl rfl ?_; intro Q hret hnorm
  repeat (refine c_seq ?_)
  refine c_reg ?_; intro K hK
  refine st rfl rfl rfl (yv_assign rfl rfl) ?_
  refine rg_nil (hK _ ?_)
  repeat (refine c_seq ?_)
  refine c_reg ?_; intro K hK
  refine st rfl rfl rfl (yv_move rfl rfl) ?_
  refine se rfl rfl rfl (Yield.weak (yl_slnil (xs := l.map GRoll.av) (sz := 11) rfl Tryz.underlying40 rfl rfl) (fun _ h => h) (fun _ _ => trivial)) ?_; rintro _ _ ⟨b, rfl, hb, rfl⟩
  refine rg_nil (hK _ ?_)
  refine c_if (b := b) rfl ?_ ?_
  · intro h; subst h
    have hl0 : l = [] := List.map_eq_nil_iff.1 (hb rfl)
    subst hl0
    repeat (refine c_seq ?_)
    refine c_reg ?_; intro K hK
    refine st rfl rfl rfl (yv_assign rfl rfl) ?_
    refine rg_nil (hK _ ?_)
    refine c_nilobj 2 id 49 11 rfl hid ?_; intro v
    refine c_ret (hret _ _ _ (.tmp rfl .nil) (fun _ _ h => h) ?_)
    exact ⟨v, rfl, rfl⟩
  · intro h; subst h
    refine c_skip ?_
    repeat (refine c_seq ?_)
    refine c_reg ?_; intro K hK
    refine se rfl rfl rfl (yl_buildO (ps := []) id [] .any rfl Tryz.underlying40 bz49 .nil rfl rfl rfl rfl) ?_; rintro _ _ ⟨v, -, rfl, rfl⟩
    refine st rfl rfl rfl (yv_move rfl rfl) ?_
    refine se rfl rfl rfl (yl_appT (g := GRoll.av) (l := []) (m := l) (l' := l) .any rfl Tryz.underlying40 bz49 by49 rfl rfl rfl (upd_same _ _ _) rfl rfl rfl rfl rfl rfl rfl (.refl _) (fun _ => rfl) rfl hl) ?_; rintro _ _ ⟨v2, -, rfl, rfl⟩
    refine st rfl rfl rfl (yv_assign rfl rfl) ?_
    refine rg_nil (hK _ ?_)
    refine c_ret (hret _ _ _ (.tmp rfl .nil) (fun _ _ h => h) ?_)
    exact ⟨v2, rfl, upd_updV⟩
theorem clone106_c {H : AH} {id : Nat} {l : List GEnt} (hid : H id = none) (hl : l.length ≤ 68719476736) : PC Tryz.prog 106 [lst 8 GEnt.av l] H (fun y H' => ∃ ver, y = .sl id ver 0 l.length ∧ H' = upd H id (some ⟨42, 8, true, true, ver, l.map GEnt.av⟩)) := by
  refine pc_of' (c := _) Tryz.func106 rfl rfl ?_; intro Q hret hnorm
  repeat (refine c_seq ?_)
  refine c_reg ?_; intro K hK
  refine st rfl rfl rfl (yv_assign rfl rfl) ?_
  refine rg_nil (hK _ ?_)
  repeat (refine c_seq ?_)
  refine c_reg ?_; intro K hK
  refine st rfl rfl rfl (yv_move rfl rfl) ?_
  refine se rfl rfl rfl (Yield.weak (yl_slnil (xs := l.map GEnt.av) (sz := 8) rfl Tryz.underlying27 rfl rfl) (fun _ h => h) (fun _ _ => trivial)) ?_; rintro _ _ ⟨b, rfl, hb, rfl⟩
  refine rg_nil (hK _ ?_)
  refine c_if (b := b) rfl ?_ ?_
  · intro h; subst h
    have hl0 : l = [] := List.map_eq_nil_iff.1 (hb rfl)
    subst hl0
    repeat (refine c_seq ?_)
    refine c_reg ?_; intro K hK
    refine st rfl rfl rfl (yv_assign rfl rfl) ?_
    refine rg_nil (hK _ ?_)
    refine c_nilobj 2 id 42 8 rfl hid ?_; intro v
    refine c_ret (hret _ _ _ (.tmp rfl .nil) (fun _ _ h => h) ?_)
    exact ⟨v, rfl, rfl⟩
  · intro h; subst h
    refine c_skip ?_
    repeat (refine c_seq ?_)
    refine c_reg ?_; intro K hK
    refine se rfl rfl rfl (yl_buildO (ps := []) id [] .any rfl Tryz.underlying27 bz42 .nil rfl rfl rfl rfl) ?_; rintro _ _ ⟨v, -, rfl, rfl⟩
    refine st rfl rfl rfl (yv_move rfl rfl) ?_
    refine se rfl rfl rfl (yl_appT (g := GEnt.av) (l := []) (m := l) (l' := l) .any rfl Tryz.underlying27 bz42 by42 rfl rfl rfl (upd_same _ _ _) rfl rfl rfl rfl rfl rfl rfl (.refl _) GEnt.one rfl hl) ?_; rintro _ _ ⟨v2, -, rfl, rfl⟩
    refine st rfl rfl rfl (yv_assign rfl rfl) ?_
    refine rg_nil (hK _ ?_)
    refine c_ret (hret _ _ _ (.tmp rfl .nil) (fun _ _ h => h) ?_)
    exact ⟨v2, rfl, upd_updV⟩
theorem clone107_c {H : AH} {id : Nat} {l : List GPool} (hid : H id = none) (hl : l.length ≤ 68719476736) : PC Tryz.prog 107 [lst 4 GPool.av l] H (fun y H' => ∃ ver, y = .sl id ver 0 l.length ∧ H' = upd H id (some ⟨69, 4, true, true, ver, l.map GPool.av⟩)) := by
  refine pc_of' (c := _) Tryz.func107 rfl rfl ?_; intro Q hret hnorm
  repeat (refine c_seq ?_)
  refine c_reg ?_; intro K hK
  refine st rfl rfl rfl (yv_assign rfl rfl) ?_
  refine rg_nil (hK _ ?_)
  repeat (refine c_seq ?_)
  refine c_reg ?_; intro K hK
  refine st rfl rfl rfl (yv_move rfl rfl) ?_
  refine se rfl rfl rfl (Yield.weak (yl_slnil (xs := l.map GPool.av) (sz := 4) rfl Tryz.underlying39 rfl rfl) (fun _ h => h) (fun _ _ => trivial)) ?_; rintro _ _ ⟨b, rfl, hb, rfl⟩
  refine rg_nil (hK _ ?_)
  refine c_if (b := b) rfl ?_ ?_
  · intro h; subst h
    have hl0 : l = [] := List.map_eq_nil_iff.1 (hb rfl)
    subst hl0
    repeat (refine c_seq ?_)
    refine c_reg ?_; intro K hK
    refine st rfl rfl rfl (yv_assign rfl rfl) ?_
    refine rg_nil (hK _ ?_)
    refine c_nilobj 2 id 69 4 rfl hid ?_; intro v
    refine c_ret (hret _ _ _ (.tmp rfl .nil) (fun _ _ h => h) ?_)
    exact ⟨v, rfl, rfl⟩
  · intro h; subst h
    refine c_skip ?_
    repeat (refine c_seq ?_)
    refine c_reg ?_; intro K hK
    refine se rfl rfl rfl (yl_buildO (ps := []) id [] .any rfl Tryz.underlying39 bz69 .nil rfl rfl rfl rfl) ?_; rintro _ _ ⟨v, -, rfl, rfl⟩
    refine st rfl rfl rfl (yv_move rfl rfl) ?_
    refine se rfl rfl rfl (yl_appT (g := GPool.av) (l := []) (m := l) (l' := l) .any rfl Tryz.underlying39 bz69 by69 rfl rfl rfl (upd_same _ _ _) rfl rfl rfl rfl rfl rfl rfl (.refl _) (fun _ => rfl) rfl hl) ?_; rintro _ _ ⟨v2, -, rfl, rfl⟩
    refine st rfl rfl rfl (yv_assign rfl rfl) ?_
    refine rg_nil (hK _ ?_)
    refine c_ret (hret _ _ _ (.tmp rfl .nil) (fun _ _ h => h) ?_)
    exact ⟨v2, rfl, upd_updV⟩
theorem clone121_c {H : AH} {id : Nat} {l : List GLine} (hid : H id = none) (hl : l.length ≤ 68719476736) : PC Tryz.prog 121 [lst 2 GLine.av l] H (fun y H' => ∃ ver, y = .sl id ver 0 l.length ∧ H' = upd H id (some ⟨78, 2, true, true, ver, l.map GLine.av⟩)) := by
  refine pc_of' (c := _) Tryz.func121 rfl rfl ?_; intro Q hret hnorm
  repeat (refine c_seq ?_)
  refine c_reg ?_; intro K hK
  refine st rfl rfl rfl (yv_assign rfl rfl) ?_
  refine rg_nil (hK _ ?_)
  repeat (refine c_seq ?_)
  refine c_reg ?_; intro K hK
  refine st rfl rfl rfl (yv_move rfl rfl) ?_
  refine se rfl rfl rfl (Yield.weak (yl_slnil (xs := l.map GLine.av) (sz := 2) rfl Tryz.underlying79 rfl rfl) (fun _ h => h) (fun _ _ => trivial)) ?_; rintro _ _ ⟨b, rfl, hb, rfl⟩
  refine rg_nil (hK _ ?_)
  refine c_if (b := b) rfl ?_ ?_
  · intro h; subst h
    have hl0 : l = [] := List.map_eq_nil_iff.1 (hb rfl)
    subst hl0
    repeat (refine c_seq ?_)
    refine c_reg ?_; intro K hK
    refine st rfl rfl rfl (yv_assign rfl rfl) ?_
    refine rg_nil (hK _ ?_)
    refine c_nilobj 2 id 78 2 rfl hid ?_; intro v
    refine c_ret (hret _ _ _ (.tmp rfl .nil) (fun _ _ h => h) ?_)
    exact ⟨v, rfl, rfl⟩
  · intro h; subst h
    refine c_skip ?_
    repeat (refine c_seq ?_)
    refine c_reg ?_; intro K hK
    refine se rfl rfl rfl (yl_buildO (ps := []) id [] .any rfl Tryz.underlying79 bz78 .nil rfl rfl rfl rfl) ?_; rintro _ _ ⟨v, -, rfl, rfl⟩
    refine st rfl rfl rfl (yv_move rfl rfl) ?_
    refine se rfl rfl rfl (yl_appT (g := GLine.av) (l := []) (m := l) (l' := l) .any rfl Tryz.underlying79 bz78 by78 rfl rfl rfl (upd_same _ _ _) rfl rfl rfl rfl rfl rfl rfl (.refl _) (fun _ => rfl) rfl hl) ?_; rintro _ _ ⟨v2, -, rfl, rfl⟩
    refine st rfl rfl rfl (yv_assign rfl rfl) ?_
    refine rg_nil (hK _ ?_)
    refine c_ret (hret _ _ _ (.tmp rfl .nil) (fun _ _ h => h) ?_)
    exact ⟨v2, rfl, upd_updV⟩
theorem clone144_c {H : AH} {id : Nat} {l : List GLayer} (hid : H id = none) (hl : l.length ≤ 68719476736) : PC Tryz.prog 144 [lst 3 GLayer.av l] H (fun y H' => ∃ ver, y = .sl id ver 0 l.length ∧ H' = upd H id (some ⟨46, 3, true, true, ver, l.map GLayer.av⟩)) := by
  refine pc_of' (c := _) Tryz.func144 rfl rfl ?_; intro Q hret hnorm
  repeat (refine c_seq ?_)
  refine c_reg ?_; intro K hK
  refine st rfl rfl rfl (yv_assign rfl rfl) ?_
  refine rg_nil (hK _ ?_)
  repeat (refine c_seq ?_)
  refine c_reg ?_; intro K hK
  refine st rfl rfl rfl (yv_move rfl rfl) ?_
  refine se rfl rfl rfl (Yield.weak (yl_slnil (xs := l.map GLayer.av) (sz := 3) rfl Tryz.underlying66 rfl rfl) (fun _ h => h) (fun _ _ => trivial)) ?_; rintro _ _ ⟨b, rfl, hb, rfl⟩
  refine rg_nil (hK _ ?_)
  refine c_if (b := b) rfl ?_ ?_
  · intro h; subst h
    have hl0 : l = [] := List.map_eq_nil_iff.1 (hb rfl)
    subst hl0
    repeat (refine c_seq ?_)
    refine c_reg ?_; intro K hK
    refine st rfl rfl rfl (yv_assign rfl rfl) ?_
    refine rg_nil (hK _ ?_)
    refine c_nilobj 2 id 46 3 rfl hid ?_; intro v
    refine c_ret (hret _ _ _ (.tmp rfl .nil) (fun _ _ h => h) ?_)
    exact ⟨v, rfl, rfl⟩
  · intro h; subst h
    refine c_skip ?_
    repeat (refine c_seq ?_)
    refine c_reg ?_; intro K hK
    refine se rfl rfl rfl (yl_buildO (ps := []) id [] .any rfl Tryz.underlying66 bz46 .nil rfl rfl rfl rfl) ?_; rintro _ _ ⟨v, -, rfl, rfl⟩
    refine st rfl rfl rfl (yv_move rfl rfl) ?_
    refine se rfl rfl rfl (yl_appT (g := GLayer.av) (l := []) (m := l) (l' := l) .any rfl Tryz.underlying66 bz46 by46 rfl rfl rfl (upd_same _ _ _) rfl rfl rfl rfl rfl rfl rfl (.refl _) (fun _ => rfl) rfl hl) ?_; rintro _ _ ⟨v2, -, rfl, rfl⟩
    refine st rfl rfl rfl (yv_assign rfl rfl) ?_
    refine rg_nil (hK _ ?_)
    refine c_ret (hret _ _ _ (.tmp rfl .nil) (fun _ _ h => h) ?_)
    exact ⟨v2, rfl, upd_updV⟩
theorem clone150_c {H : AH} {id : Nat} {l : List Int} (hid : H id = none) (hl : l.length ≤ 68719476736) : PC Tryz.prog 150 [lst 1 fI l] H (fun y H' => ∃ ver, y = .sl id ver 0 l.length ∧ H' = upd H id (some ⟨3, 1, true, true, ver, l.map fI⟩)) := by
  refine pc_of' (c := _) Tryz.func150 rfl rfl ?_; intro Q hret hnorm
  repeat (refine c_seq ?_)
  refine c_reg ?_; intro K hK
  refine st rfl rfl rfl (yv_assign rfl rfl) ?_
  refine rg_nil (hK _ ?_)
  repeat (refine c_seq ?_)
  refine c_reg ?_; intro K hK
  refine st rfl rfl rfl (yv_move rfl rfl) ?_
  refine se rfl rfl rfl (Yield.weak (yl_slnil (xs := l.map fI) (sz := 1) rfl Tryz.underlying23 rfl rfl) (fun _ h => h) (fun _ _ => trivial)) ?_; rintro _ _ ⟨b, rfl, hb, rfl⟩
  refine rg_nil (hK _ ?_)
  refine c_if (b := b) rfl ?_ ?_
  · intro h; subst h
    have hl0 : l = [] := List.map_eq_nil_iff.1 (hb rfl)
    subst hl0
    repeat (refine c_seq ?_)
    refine c_reg ?_; intro K hK
    refine st rfl rfl rfl (yv_assign rfl rfl) ?_
    refine rg_nil (hK _ ?_)
    refine c_nilobj 2 id 3 1 rfl hid ?_; intro v
    refine c_ret (hret _ _ _ (.tmp rfl .nil) (fun _ _ h => h) ?_)
    exact ⟨v, rfl, rfl⟩
  · intro h; subst h
    refine c_skip ?_
    repeat (refine c_seq ?_)
    refine c_reg ?_; intro K hK
    refine se rfl rfl rfl (yl_buildO (ps := []) id [] .any rfl Tryz.underlying23 bz3 .nil rfl rfl rfl rfl) ?_; rintro _ _ ⟨v, -, rfl, rfl⟩
    refine st rfl rfl rfl (yv_move rfl rfl) ?_
    refine se rfl rfl rfl (yl_appT (g := fI) (l := []) (m := l) (l' := l) .any rfl Tryz.underlying23 bz3 by3 rfl rfl rfl (upd_same _ _ _) rfl rfl rfl rfl rfl rfl rfl (.refl _) (fun _ => rfl) rfl hl) ?_; rintro _ _ ⟨v2, -, rfl, rfl⟩
    refine st rfl rfl rfl (yv_assign rfl rfl) ?_
    refine rg_nil (hK _ ?_)
    refine c_ret (hret _ _ _ (.tmp rfl .nil) (fun _ _ h => h) ?_)
    exact ⟨v2, rfl, upd_updV⟩
def d_law00_Place (a1 : Int) (a2 : Int) : Option (Int) :=
asrt (a2 ≠ 0) <|
bnd (a1.tmod a2) fun (x4 : Int) =>
bnd (decide (x4 < 0)) fun (x5 : Bool) =>
(show Option (Int) from
cond x5 (bnd (w64 (x4 + a2)) fun (x7 : Int) =>
some (x7 : Int)) (some (x4 : Int))).bind <| fun (y0_1 : Int) =>
some ((y0_1 : Int))
theorem d_law00_Place_c {a1 : Int} {a2 : Int} {r : Int} (h0 : d_law00_Place a1 a2 = some r) : PP Tryz.prog 15 [int a1, int a2] (fun y => y = int r) := by
  unfold d_law00_Place at h0
  refine pp_of_pc (R0 := fun y H => Cv (frzH H) y (int r)) ?_ (fun y H hc => ⟨_, rfl, pvI r, hc⟩)
  refine pcw (c := _) Tryz.func15 rfl rfl ?_; intro Q hret hnorm
  refine tc tbk 8 (.mk ?_)
  obtain ⟨p3, h0⟩ := asrt_e h0
  obtain ⟨x4, e4, h0⟩ := bnd_e h0
  refine rst rfl rfl rfl (yv_rem rfl rfl rfl p3 e4) ?_
  refine tr tbk 6 (.mk ?_)
  refine nb tbk h0 fun x5 h0 => ?_
  refine tr tbk 1 (.mk ?_)
  refine jn h0 [4] [] (fun (a : Int) (k : Unit) => [(5, int a)]) (fun a k => []) ⟨fun j6 h1 => ?_, ?_⟩
  cases x5
  replace h1 := cf h1
  refine tc tbk 2 (.mk ?_)
  exact lf h1 () leA
  replace h1 := ct h1
  refine tc tbk 4 (.mk ?_)
  refine ni tbk h1 fun x7 h1 => ?_
  refine tr tbk 2 (.mk ?_)
  exact lf h1 () leA
  rintro y0_1 _ h0
  refine tc tbk 5 (.mk ?_)
  obtain rfl := nxt_e h0
  refine w_ret (hret _ _ _ (.tmp rfl .nil) (fun _ _ h => h) ?_)
  exact .refl _
def d_ref04_all_L0 (a1 : List Int) (a2 : Int) (a3 : Int) (a4 : Int) : Nat → Int → Option ((Unit) ⊕ (Bool))
  | 0, _ => none
  | n + 1, y0_1 =>
    bnd (decide (y0_1 < a2)) fun (x7 : Bool) =>
    cond x7 ((show Option (Bool) from
    (ix a1 y0_1).bind fun (x9 : Int) =>
    bnd (decide (x9 < a3)) fun (x10 : Bool) =>
    cond x10 (some (true : Bool)) ((ix a1 y0_1).bind fun (x11 : Int) =>
    bnd (decide (x11 > a4)) fun (x12 : Bool) =>
    some (x12 : Bool))).bind <| fun (y1_1 : Bool) =>
    cond y1_1 (esc (some ((false : Bool)))) (bnd (w64 (y0_1 + 1)) fun (x13 : Int) =>
    d_ref04_all_L0 a1 a2 a3 a4 n (x13 : Int))) (brk ())
def d_ref04_all (n : Nat) (a1 : List Int) (a2 : Int) (a3 : Int) (a4 : Int) : Option (Bool) :=
bnd (decide ((a1.length : Int) ≠ a2)) fun (x5 : Bool) =>
cond x5 (some ((false : Bool))) ((show Option ((Unit) ⊕ (Bool)) from
d_ref04_all_L0 a1 a2 a3 a4 n (0 : Int)).bind <| sel <| fun (_ : Unit) =>
some ((true : Bool)))
theorem d_ref04_all_c {n : Nat} {a1 : List Int} {a2 : Int} {a3 : Int} {a4 : Int} {r : Bool} (h0 : d_ref04_all n a1 a2 a3 a4 = some r) : PP Tryz.prog 130 [lst 1 fI a1, int a2, int a3, int a4] (fun y => y = boo r) := by
  unfold d_ref04_all at h0
  refine pp_of_pc (R0 := fun y H => Cv (frzH H) y (boo r)) ?_ (fun y H hc => ⟨_, rfl, pvB r, hc⟩)
  refine pcw (c := _) Tryz.func130 rfl rfl ?_; intro Q hret hnorm
  refine tc tbk 8 (.mk ?_)
  refine rst rfl rfl rfl (yv_len_sl rfl Tryz.underlying23 rfl (lst_len _)) ?_
  refine tr tbk 1 (.mk ?_)
  refine nb tbk h0 fun x5 h0 => ?_
  refine tr tbk 1 (.mk ?_)
  cases x5
  replace h0 := cf h0
  refine tc tbk 7 (.mk ?_)
  refine jnE h0 [8] [] (fun (a : Unit) (k : Unit) => []) (fun a k => []) ⟨fun j6 h1 h0 => ?_, ?_⟩
  refine tc tbk 1 (.mk ?_)
  refine lp (fun n (a : Int) => d_ref04_all_L0 a1 a2 a3 a4 n a) (0 : Int) () h1 [0, 1, 2, 3, 8] [] (fun (a : Int) (k : Unit) => [(9, int a)]) (fun a k => []) (fun _ => rfl) ⟨leA, ?_⟩
  rintro n y0_1 _ hm h1
  replace h1 : d_ref04_all_L0 a1 a2 a3 a4 (n + 1) y0_1 = some _ := h1
  rw [d_ref04_all_L0] at h1
  refine tc tbk 5 (.mk ?_)
  refine nb tbk h1 fun x7 h1 => ?_
  refine tr tbk 1 (.mk ?_)
  cases x7
  replace h1 := cf h1
  refine tc tbk 2 (.mk ?_)
  exact lfE h1 () leA
  replace h1 := ct h1
  refine tc tbk 5 (.mk ?_)
  refine jn h1 [0, 1, 2, 3, 8, 9] [] (fun (a : Bool) (k : Unit) => [(32, boo a)]) (fun a k => []) ⟨fun j8 h2 => ?_, ?_⟩
  refine tc tbk 3 (.mk ?_)
  obtain ⟨x9, e9, h2⟩ := bind_e h2
  refine rst rfl rfl rfl (yv_ixT rfl Tryz.underlying23 sh3 rfl rfl e9) ?_
  refine tr tbk 2 (.mk ?_)
  refine nb tbk h2 fun x10 h2 => ?_
  refine tr tbk 1 (.mk ?_)
  cases x10
  replace h2 := cf h2
  refine tr tbk 2 (.mk ?_)
  obtain ⟨x11, e11, h2⟩ := bind_e h2
  refine rst rfl rfl rfl (yv_ixT rfl Tryz.underlying23 sh3 rfl rfl e11) ?_
  refine tr tbk 2 (.mk ?_)
  refine nb tbk h2 fun x12 h2 => ?_
  refine tr tbk 2 (.mk ?_)
  exact lf h2 () leA
  replace h2 := ct h2
  refine tr tbk 8 (.mk ?_)
  exact lf h2 () leA
  rintro y1_1 _ h1
  cases y1_1
  replace h1 := cf h1
  refine tc tbk 5 (.mk ?_)
  refine ni tbk h1 fun x13 h1 => ?_
  refine tr tbk 2 (.mk ?_)
  exact bk x13 () h1 leA
  replace h1 := ct h1
  refine tc tbk 5 (.mk ?_)
  obtain ⟨c14, hX, hj⟩ := esc_e h1; subst hj; replace h0 := hX.trans (sel_r h0)
  obtain rfl := nxt_e h0
  refine w_ret (hret _ _ _ (.tmp rfl .nil) (fun _ _ h => h) ?_)
  exact .refl _
  rintro _ _ h0
  refine tc tbk 4 (.mk ?_)
  obtain rfl := nxt_e h0
  refine w_ret (hret _ _ _ (.tmp rfl .nil) (fun _ _ h => h) ?_)
  exact .refl _
  replace h0 := ct h0
  refine tc tbk 5 (.mk ?_)
  obtain rfl := nxt_e h0
  refine w_ret (hret _ _ _ (.tmp rfl .nil) (fun _ _ h => h) ?_)
  exact .refl _
def d_ref04_Check_L0 (a1 : GMaster) : Nat → Int → Option ((Unit) ⊕ (Bool))
  | 0, _ => none
  | n + 1, y1_1 =>
    bnd (decide (y1_1 < a1.Entities)) fun (x15 : Bool) =>
    cond x15 ((show Option (Bool) from
    (ix a1.Methods y1_1).bind fun (x17 : List Int) =>
    (d_ref04_all n x17 (a1.Weights.length : Int) 1 4).bind fun (x18 : Bool) =>
    bnd (!x18) fun (x19 : Bool) =>
    cond x19 (some (true : Bool)) ((ix a1.Costs y1_1).bind fun (x20 : List Int) =>
    (d_ref04_all n x20 (a1.Weights.length : Int) 0 1073741824).bind fun (x21 : Bool) =>
    bnd (!x21) fun (x22 : Bool) =>
    some (x22 : Bool))).bind <| fun (y2_1 : Bool) =>
    cond y2_1 (esc (some ((false : Bool)))) (bnd (w64 (y1_1 + 1)) fun (x23 : Int) =>
    d_ref04_Check_L0 a1 n (x23 : Int))) (brk ())
def d_ref04_Check (n : Nat) (a1 : GMaster) : Option (Bool) :=
(show Option (Bool) from
bnd (decide (a1.Entities < 1)) fun (x4 : Bool) =>
cond x4 (some (true : Bool)) (bnd (decide (a1.Entities > 4)) fun (x5 : Bool) =>
cond x5 (some (true : Bool)) (bnd (decide (a1.Periods < 1)) fun (x6 : Bool) =>
cond x6 (some (true : Bool)) (bnd (decide (a1.Periods > 12)) fun (x7 : Bool) =>
cond x7 (some (true : Bool)) (bnd (decide ((a1.Weights.length : Int) < 1)) fun (x8 : Bool) =>
cond x8 (some (true : Bool)) (bnd (decide ((a1.Weights.length : Int) > 5)) fun (x9 : Bool) =>
cond x9 (some (true : Bool)) ((d_ref04_all n a1.Weights (a1.Weights.length : Int) 0 1073741824).bind fun (x10 : Bool) =>
bnd (!x10) fun (x11 : Bool) =>
cond x11 (some (true : Bool)) (bnd (decide ((a1.Methods.length : Int) ≠ a1.Entities)) fun (x12 : Bool) =>
cond x12 (some (true : Bool)) (bnd (decide ((a1.Costs.length : Int) ≠ a1.Entities)) fun (x13 : Bool) =>
some (x13 : Bool)))))))))).bind <| fun (y0_1 : Bool) =>
cond y0_1 (some ((false : Bool))) ((show Option ((Unit) ⊕ (Bool)) from
d_ref04_Check_L0 a1 n (0 : Int)).bind <| sel <| fun (_ : Unit) =>
some ((true : Bool)))
theorem d_ref04_Check_c {n : Nat} {a1 : GMaster} {r : Bool} (h0 : d_ref04_Check n a1 = some r) : PP Tryz.prog 84 [.agg (GMaster.av a1)] (fun y => y = boo r) := by
  unfold d_ref04_Check at h0
  refine pp_of_pc (R0 := fun y H => Cv (frzH H) y (boo r)) ?_ (fun y H hc => ⟨_, rfl, pvB r, hc⟩)
  refine pcw (c := _) Tryz.func84 rfl rfl ?_; intro Q hret hnorm
  refine tc tbk 2 (.mk ?_)
  refine rse rfl rfl rfl (yl_box 1 .any rfl rfl rfl) ?_; rintro _ _ ⟨v2, -, rfl, rfl⟩
  refine tr tbk 6 (.mk ?_)
  refine rst rfl rfl rfl (yv_len_sl rfl Tryz.underlying23 rfl (lst_len _)) ?_
  refine tr tbk 4 (.mk ?_)
  refine jn h0 [1, 2, 3] [1] (fun (a : Bool) (k : Unit) => [(56, boo a)]) (fun a k => []) ⟨fun j3 h1 => ?_, ?_⟩
  refine tc tbk 3 (.mk ?_)
  refine nb tbk h1 fun x4 h1 => ?_
  refine tr tbk 1 (.mk ?_)
  cases x4
  replace h1 := cf h1
  refine tr tbk 2 (.mk ?_)
  refine nb tbk h1 fun x5 h1 => ?_
  refine tr tbk 2 (.mk ?_)
  cases x5
  replace h1 := cf h1
  refine tr tbk 2 (.mk ?_)
  refine nb tbk h1 fun x6 h1 => ?_
  refine tr tbk 2 (.mk ?_)
  cases x6
  replace h1 := cf h1
  refine tr tbk 2 (.mk ?_)
  refine nb tbk h1 fun x7 h1 => ?_
  refine tr tbk 2 (.mk ?_)
  cases x7
  replace h1 := cf h1
  refine tr tbk 1 (.mk ?_)
  refine nb tbk h1 fun x8 h1 => ?_
  refine tr tbk 2 (.mk ?_)
  cases x8
  replace h1 := cf h1
  refine tr tbk 1 (.mk ?_)
  refine nb tbk h1 fun x9 h1 => ?_
  refine tr tbk 2 (.mk ?_)
  cases x9
  replace h1 := cf h1
  refine tr tbk 3 (.mk ?_)
  obtain ⟨x10, e10, h1⟩ := bind_e h1
  refine rst rfl rfl rfl (yv_callP rfl rfl (.cons rfl (.cons rfl (.cons rfl (.cons rfl .nil)))) cal130 (CvL.refl _) (d_ref04_all_c e10)) ?_
  refine nb tbk h1 fun x11 h1 => ?_
  refine tr tbk 2 (.mk ?_)
  cases x11
  replace h1 := cf h1
  refine tr tbk 2 (.mk ?_)
  refine rst rfl rfl rfl (yv_len_sl rfl Tryz.underlying24 rfl (lst_len _)) ?_
  refine tr tbk 2 (.mk ?_)
  refine nb tbk h1 fun x12 h1 => ?_
  refine tr tbk 2 (.mk ?_)
  cases x12
  replace h1 := cf h1
  refine tr tbk 2 (.mk ?_)
  refine rst rfl rfl rfl (yv_len_sl rfl Tryz.underlying24 rfl (lst_len _)) ?_
  refine tr tbk 2 (.mk ?_)
  refine nb tbk h1 fun x13 h1 => ?_
  refine tr tbk 2 (.mk ?_)
  exact lf h1 () leA
  replace h1 := ct h1
  refine tr tbk 8 (.mk ?_)
  exact lf h1 () leA
  replace h1 := ct h1
  refine tr tbk 16 (.mk ?_)
  exact lf h1 () leA
  replace h1 := ct h1
  refine tr tbk 23 (.mk ?_)
  exact lf h1 () leA
  replace h1 := ct h1
  refine tr tbk 27 (.mk ?_)
  exact lf h1 () leA
  replace h1 := ct h1
  refine tr tbk 31 (.mk ?_)
  exact lf h1 () leA
  replace h1 := ct h1
  refine tr tbk 36 (.mk ?_)
  exact lf h1 () leA
  replace h1 := ct h1
  refine tr tbk 41 (.mk ?_)
  exact lf h1 () leA
  replace h1 := ct h1
  refine tr tbk 46 (.mk ?_)
  exact lf h1 () leA
  rintro y0_1 _ h0
  cases y0_1
  replace h0 := cf h0
  refine tc tbk 7 (.mk ?_)
  refine jnE h0 [2] [] (fun (a : Unit) (k : Unit) => []) (fun a k => []) ⟨fun j14 h1 h0 => ?_, ?_⟩
  refine tc tbk 1 (.mk ?_)
  refine lp (fun n (a : Int) => d_ref04_Check_L0 a1 n a) (0 : Int) () h1 [1, 2, 3] [1] (fun (a : Int) (k : Unit) => [(4, int a)]) (fun a k => []) (fun _ => rfl) ⟨leA, ?_⟩
  rintro n y1_1 _ hm h1
  replace h1 : d_ref04_Check_L0 a1 (n + 1) y1_1 = some _ := h1
  rw [d_ref04_Check_L0] at h1
  refine tc tbk 6 (.mk ?_)
  refine nb tbk h1 fun x15 h1 => ?_
  refine tr tbk 1 (.mk ?_)
  cases x15
  replace h1 := cf h1
  refine tc tbk 2 (.mk ?_)
  exact lfE h1 () leA
  replace h1 := ct h1
  refine tc tbk 5 (.mk ?_)
  refine jn h1 [1, 2, 3, 4] [1] (fun (a : Bool) (k : Unit) => [(80, boo a)]) (fun a k => []) ⟨fun j16 h2 => ?_, ?_⟩
  refine tc tbk 4 (.mk ?_)
  obtain ⟨x17, e17, h2⟩ := bind_e h2
  refine rst rfl rfl rfl (yv_ixT rfl Tryz.underlying24 sh23 rfl rfl e17) ?_
  refine tr tbk 2 (.mk ?_)
  obtain ⟨x18, e18, h2⟩ := bind_e h2
  refine rst rfl rfl rfl (yv_callP rfl rfl (.cons rfl (.cons rfl (.cons rfl (.cons rfl .nil)))) cal130 (CvL.refl _) (d_ref04_all_c e18)) ?_
  refine nb tbk h2 fun x19 h2 => ?_
  refine tr tbk 1 (.mk ?_)
  cases x19
  replace h2 := cf h2
  refine tr tbk 3 (.mk ?_)
  obtain ⟨x20, e20, h2⟩ := bind_e h2
  refine rst rfl rfl rfl (yv_ixT rfl Tryz.underlying24 sh23 rfl rfl e20) ?_
  refine tr tbk 2 (.mk ?_)
  obtain ⟨x21, e21, h2⟩ := bind_e h2
  refine rst rfl rfl rfl (yv_callP rfl rfl (.cons rfl (.cons rfl (.cons rfl (.cons rfl .nil)))) cal130 (CvL.refl _) (d_ref04_all_c e21)) ?_
  refine nb tbk h2 fun x22 h2 => ?_
  refine tr tbk 2 (.mk ?_)
  exact lf h2 () leA
  replace h2 := ct h2
  refine tr tbk 10 (.mk ?_)
  exact lf h2 () leA
  rintro y2_1 _ h1
  cases y2_1
  replace h1 := cf h1
  refine tc tbk 5 (.mk ?_)
  refine ni tbk h1 fun x23 h1 => ?_
  refine tr tbk 2 (.mk ?_)
  exact bk x23 () h1 leA
  replace h1 := ct h1
  refine tc tbk 5 (.mk ?_)
  obtain ⟨c24, hX, hj⟩ := esc_e h1; subst hj; replace h0 := hX.trans (sel_r h0)
  obtain rfl := nxt_e h0
  refine w_ret (hret _ _ _ (.tmp rfl .nil) (fun _ _ h => h) ?_)
  exact .refl _
  rintro _ _ h0
  refine tc tbk 4 (.mk ?_)
  obtain rfl := nxt_e h0
  refine w_ret (hret _ _ _ (.tmp rfl .nil) (fun _ _ h => h) ?_)
  exact .refl _
  replace h0 := ct h0
  refine tc tbk 5 (.mk ?_)
  obtain rfl := nxt_e h0
  refine w_ret (hret _ _ _ (.tmp rfl .nil) (fun _ _ h => h) ?_)
  exact .refl _
def d_ref04_Start_L1 (a1 : GMaster) : Nat → Int → (List Int) → Option ((List Int))
  | 0, _, _ => none
  | n + 1, y1_1, y1_2 =>
    bnd (decide (y1_1 < (a1.Weights.length : Int))) fun (x29 : Bool) =>
    cond x29 ((ix y1_2 y1_1).bind fun (x30 : Int) =>
    bnd (y1_2.set (Int.toNat y1_1) ((-1) : Int)) fun (x31 : List Int) =>
    bnd (w64 (y1_1 + 1)) fun (x32 : Int) =>
    d_ref04_Start_L1 a1 n (x32 : Int) (x31 : List Int)) (some (y1_2 : List Int))
def d_ref04_Start_L0 (a1 : GMaster) : Nat → Int → (List GEnt) → Option ((List GEnt))
  | 0, _, _ => none
  | n + 1, y0_1, y0_3 =>
    bnd (decide (y0_1 < a1.Entities)) fun (x9 : Bool) =>
    cond x9 ((show Option ((List GEnt)) from
    bnd (w64 ((a1.Weights.length : Int) * 2)) fun (x11 : Int) =>
    asrt ((0 : Int) ≤ x11 ∧ (x11 : Int) ≤ 1048576) <|
    bnd (List.replicate (Int.toNat x11) ((⟨[], (⟨0, 0, 0⟩ : A3_Int)⟩ : GPool) : GPool)) fun (x13 : List GPool) =>
    asrt ((0 : Int) ≤ 17 ∧ (17 : Int) ≤ 1048576) <|
    bnd (List.replicate (Int.toNat 17) (0 : Int)) fun (x16 : List Int) =>
    asrt ((0 : Int) ≤ (a1.Weights.length : Int) ∧ ((a1.Weights.length : Int) : Int) ≤ 1048576) <|
    bnd (List.replicate (Int.toNat (a1.Weights.length : Int)) ((⟨0, 0, 0, 0, 0, 0, 0, 0, 0, 0, 0⟩ : GRoll) : GRoll)) fun (x19 : List GRoll) =>
    asrt ((0 : Int) ≤ (a1.Weights.length : Int) ∧ ((a1.Weights.length : Int) : Int) ≤ 1048576) <|
    bnd (List.replicate (Int.toNat (a1.Weights.length : Int)) (0 : Int)) fun (x22 : List Int) =>
    asrt ((0 : Int) ≤ (a1.Weights.length : Int) ∧ ((a1.Weights.length : Int) : Int) ≤ 1048576) <|
    bnd (List.replicate (Int.toNat (a1.Weights.length : Int)) (0 : Int)) fun (x25 : List Int) =>
    (show Option ((List Int)) from
    d_ref04_Start_L1 a1 n (0 : Int) (x22 : List Int)).bind <| fun (y2_1 : List Int) =>
    bnd (y0_3 ++ [(⟨1, false, x13, x16, x19, y2_1, x25, []⟩ : GEnt)]) fun (x33 : List GEnt) =>
    asrt (x33.length ≤ 68719476736) <|
    some (x33 : List GEnt)).bind <| fun (y3_2 : List GEnt) =>
    bnd (w64 (y0_1 + 1)) fun (x36 : Int) =>
    d_ref04_Start_L0 a1 n (x36 : Int) (y3_2 : List GEnt)) (some (y0_3 : List GEnt))
def d_ref04_Start (n : Nat) (a1 : GMaster) : Option (GState × Int) :=
(d_ref04_Check n a1).bind fun (x4 : Bool) =>
bnd (!x4) fun (x5 : Bool) =>
cond x5 (some (((⟨(⟨0, 0, [], [], []⟩ : GMaster), [], [], [], [], 0⟩ : GState) : GState), (1 : Int))) ((show Option ((List GEnt)) from
d_ref04_Start_L0 a1 n (0 : Int) (([] : List GEnt) : List GEnt)).bind <| fun (y4_2 : List GEnt) =>
some (((⟨a1, y4_2, [], [], [], 0⟩ : GState) : GState), (0 : Int)))
theorem d_ref04_Start_c {n : Nat} {a1 : GMaster} {r : GState × Int} (h0 : d_ref04_Start n a1 = some r) : PP Tryz.prog 46 [.agg (GMaster.av a1)] (fun y => y = .tup [.agg (GState.av r.1), int r.2]) := by
  unfold d_ref04_Start at h0
  refine pp_of_pc (R0 := fun y H => Cv (frzH H) y (.tup [.agg (GState.av r.1), int r.2])) ?_ (fun y H hc => ⟨_, rfl, .tup (pvl2 ((fun (a : GState) => PV.agg (GState.pvc a)) (r.1)) (pvI (r.2))), hc⟩)
  refine pcw (c := _) Tryz.func46 rfl rfl ?_; intro Q hret hnorm
  refine tc tbk 2 (.mk ?_)
  refine rse rfl rfl rfl (yl_box 1 .any rfl rfl rfl) ?_; rintro _ _ ⟨v2, -, rfl, rfl⟩
  refine rse rfl rfl rfl (yl_alloc 2 .any rfl z32 rfl) ?_; rintro _ _ ⟨v3, -, rfl, rfl⟩
  refine tr tbk 6 (.mk ?_)
  obtain ⟨x4, e4, h0⟩ := bind_e h0
  refine rst rfl rfl rfl (yv_callP rfl rfl (.cons rfl .nil) cal84 (CvL.refl _) (d_ref04_Check_c e4)) ?_
  refine nb tbk h0 fun x5 h0 => ?_
  refine tr tbk 1 (.mk ?_)
  cases x5
  replace h0 := cf h0
  refine tc tbk 6 (.mk ?_)
  refine rse rfl rfl rfl (yl_alloc 3 .any rfl z32 rfl) ?_; rintro _ _ ⟨v6, -, rfl, rfl⟩
  refine rsstore rfl rfl (yl_ob (ob' := (⟨32, 10, true, true, v6, [[int a1.Entities, int a1.Periods, lst 1 fI a1.Weights, lst 1 (fL 1 fI) a1.Methods, lst 1 (fL 1 fI) a1.Costs, .sc (.slice none 0 0), .sc (.slice none 0 0), .sc (.slice none 0 0), .sc (.slice none 0 0), int 0]]⟩ : AObj)) (yl_store rfl sh32 rfl rfl rfl rfl rfl rfl rfl rfl rfl) rfl) ?_
  refine tr tbk 5 (.mk ?_)
  refine rst rfl rfl rfl (yv_len_sl rfl Tryz.underlying23 rfl (lst_len _)) ?_
  refine tr tbk 7 (.mk ?_)
  refine jn h0 [2, 3, 4] [2] (fun (a : (List GEnt)) (k : Nat) => []) (fun a k => [(3, ⟨32, 10, true, true, v6, [[int a1.Entities, int a1.Periods, lst 1 fI a1.Weights, lst 1 (fL 1 fI) a1.Methods, lst 1 (fL 1 fI) a1.Costs, .sl 11 k 0 a.length, .sc (.slice none 0 0), .sc (.slice none 0 0), .sc (.slice none 0 0), int 0]]⟩), (11, ⟨42, 8, true, true, k, a.map GEnt.av⟩)]) ⟨fun j7 h1 => ?_, ?_⟩
  refine tc tbk 1 (.mk ?_)
  refine c_nilcell 3 0 5 11 42 8 (rows := fun v8 => [[int a1.Entities, int a1.Periods, lst 1 fI a1.Weights, lst 1 (fL 1 fI) a1.Methods, lst 1 (fL 1 fI) a1.Costs, .sl 11 v8 0 0, .sc (.slice none 0 0), .sc (.slice none 0 0), .sc (.slice none 0 0), int 0]]) rfl rfl rfl rfl (fun _ => rfl) ?_; intro v8
  refine lp (fun n (a : Int × (List GEnt)) => d_ref04_Start_L0 a1 n a.1 a.2) ((0 : Int), (([] : List GEnt) : List GEnt)) v8 h1 [1, 2, 3, 4, 5] [1, 2] (fun (a : Int × (List GEnt)) (k : Nat) => [(6, int a.1)]) (fun a k => [(3, ⟨32, 10, true, true, v6, [[int a1.Entities, int a1.Periods, lst 1 fI a1.Weights, lst 1 (fL 1 fI) a1.Methods, lst 1 (fL 1 fI) a1.Costs, .sl 11 k 0 a.2.length, .sc (.slice none 0 0), .sc (.slice none 0 0), .sc (.slice none 0 0), int 0]]⟩), (11, ⟨42, 8, true, true, k, a.2.map GEnt.av⟩)]) (fun _ => rfl) ⟨leA, ?_⟩
  rintro n ⟨y0_1, y0_3⟩ w0_2 hm h1
  replace h1 : d_ref04_Start_L0 a1 (n + 1) y0_1 y0_3 = some _ := h1
  rw [d_ref04_Start_L0] at h1
  refine tc tbk 6 (.mk ?_)
  refine nb tbk h1 fun x9 h1 => ?_
  refine tr tbk 1 (.mk ?_)
  cases x9
  replace h1 := cf h1
  refine tc tbk 2 (.mk ?_)
  exact lf h1 w0_2 leA
  replace h1 := ct h1
  refine tc tbk 3 (.mk ?_)
  refine jn h1 [1, 2, 3, 4, 5, 6] [1, 2] (fun (a : (List GEnt)) (k : Nat) => []) (fun a k => [(3, ⟨32, 10, true, true, v6, [[int a1.Entities, int a1.Periods, lst 1 fI a1.Weights, lst 1 (fL 1 fI) a1.Methods, lst 1 (fL 1 fI) a1.Costs, .sl 11 k 0 a.length, .sc (.slice none 0 0), .sc (.slice none 0 0), .sc (.slice none 0 0), int 0]]⟩), (11, ⟨42, 8, true, true, k, a.map GEnt.av⟩)]) ⟨fun j10 h2 => ?_, ?_⟩
  refine tc tbk 2 (.mk ?_)
  refine c_draw [0, 1, 3, 0, 0, 16, 0, 64, 0, 256, 1023, 0, 4095] (fun i k => bif Nat.beq i 12 then (Nat.beq k 4 || Nat.beq k 5 || Nat.beq k 6 || Nat.beq k 7 || Nat.beq k 8 || Nat.beq k 9) else false) (fun i => bif Nat.beq i 2 then (some 4) else bif Nat.beq i 3 then (some 5) else bif Nat.beq i 5 then (some 6) else bif Nat.beq i 7 then (some 7) else bif Nat.beq i 9 then (some 8) else bif Nat.beq i 11 then (some 9) else bif Nat.beq i 12 then (some 9) else none) mixed (by kernel_rfl) ?_; intro C K hK
  refine dg_pure rfl (fun H hH => yv_move rfl rfl) ?_
  obtain ⟨x11, e11, h2⟩ := bnd_e h2
  refine dg_pure rfl (fun H hH => yv_mul rfl rfl rfl e11) ?_
  obtain ⟨p12, h2⟩ := asrt_e h2
  obtain ⟨x13, e13, h2⟩ := bnd_e h2
  have lx13 : x13.length = (Int.toNat x11) := by rw [← e13]; exact List.length_replicate
  refine dg_eff rfl rfl (fun H hH => yl_one (yl_make 4 (g := GPool.av) (z0 := ((⟨[], (⟨0, 0, 0⟩ : A3_Int)⟩ : GPool) : GPool)) (.one _) rfl Tryz.underlying39 bz69 by69 rfl rfl rfl p12 (.cons (.nil _) (.cons (.sc _) (.cons (.sc _) (.cons (.sc _) .nil)))) e13)) ?_; generalize C + 2 = v14
  obtain ⟨p15, h2⟩ := asrt_e h2
  obtain ⟨x16, e16, h2⟩ := bnd_e h2
  have lx16 : x16.length = (Int.toNat 17) := by rw [← e16]; exact List.length_replicate
  refine dg_eff rfl rfl (fun H hH => yl_one (yl_make 5 (g := fI) (z0 := (0 : Int)) (.one _) rfl Tryz.underlying23 bz3 by3 rfl rfl rfl p15 (.cons (.sc _) .nil) e16)) ?_; generalize C + 3 = v17
  refine dg_pure rfl (fun H hH => yv_move rfl rfl) ?_
  obtain ⟨p18, h2⟩ := asrt_e h2
  obtain ⟨x19, e19, h2⟩ := bnd_e h2
  have lx19 : x19.length = (Int.toNat (a1.Weights.length : Int)) := by rw [← e19]; exact List.length_replicate
  refine dg_eff rfl rfl (fun H hH => yl_one (yl_make 6 (g := GRoll.av) (z0 := ((⟨0, 0, 0, 0, 0, 0, 0, 0, 0, 0, 0⟩ : GRoll) : GRoll)) (.one _) rfl Tryz.underlying40 bz49 by49 rfl rfl rfl p18 (.cons (.sc _) (.cons (.sc _) (.cons (.sc _) (.cons (.sc _) (.cons (.sc _) (.cons (.sc _) (.cons (.sc _) (.cons (.sc _) (.cons (.sc _) (.cons (.sc _) (.cons (.sc _) .nil))))))))))) e19)) ?_; generalize C + 5 = v20
  refine dg_pure rfl (fun H hH => yv_move rfl rfl) ?_
  obtain ⟨p21, h2⟩ := asrt_e h2
  obtain ⟨x22, e22, h2⟩ := bnd_e h2
  have lx22 : x22.length = (Int.toNat (a1.Weights.length : Int)) := by rw [← e22]; exact List.length_replicate
  refine dg_eff rfl rfl (fun H hH => yl_one (yl_make 7 (g := fI) (z0 := (0 : Int)) (.one _) rfl Tryz.underlying23 bz3 by3 rfl rfl rfl p21 (.cons (.sc _) .nil) e22)) ?_; generalize C + 7 = v23
  refine dg_pure rfl (fun H hH => yv_move rfl rfl) ?_
  obtain ⟨p24, h2⟩ := asrt_e h2
  obtain ⟨x25, e25, h2⟩ := bnd_e h2
  have lx25 : x25.length = (Int.toNat (a1.Weights.length : Int)) := by rw [← e25]; exact List.length_replicate
  refine dg_eff rfl rfl (fun H hH => yl_one (yl_make 8 (g := fI) (z0 := (0 : Int)) (.one _) rfl Tryz.underlying23 bz3 by3 rfl rfl rfl p24 (.cons (.sc _) .nil) e25)) ?_; generalize C + 9 = v26
  refine dg_pure rfl (fun H hH => yv_build (cs := [int 1, boo false, .sl 4 v14 0 (Int.toNat x11), .sl 5 v17 0 (Int.toNat 17), .sl 6 v20 0 (Int.toNat (a1.Weights.length : Int)), .sl 7 v23 0 (Int.toNat (a1.Weights.length : Int)), .sl 8 v26 0 (Int.toNat (a1.Weights.length : Int)), .sc (.slice none 0 0)]) (ps := [(0, _), (2, _), (3, _), (4, _), (5, _), (6, _)]) rfl pl42 z42 rfl (.cons rfl (.cons rfl (.cons rfl (.cons rfl (.cons rfl (.cons rfl .nil)))))) (by kernel_rfl)) ?_
  refine dg_eff rfl rfl (fun H hH => yl_alloc1 9 rfl z42 rfl) ?_; generalize C + 11 = v27
  refine dg_store rfl rfl rfl (fun H hH => yl_ob (ob' := (⟨42, 8, true, true, v27, [[int 1, boo false, .sl 4 v14 0 (Int.toNat x11), .sl 5 v17 0 (Int.toNat 17), .sl 6 v20 0 (Int.toNat (a1.Weights.length : Int)), .sl 7 v23 0 (Int.toNat (a1.Weights.length : Int)), .sl 8 v26 0 (Int.toNat (a1.Weights.length : Int)), .sc (.slice none 0 0)]]⟩ : AObj)) (yl_store rfl sh42 rfl rfl ((hH _ rfl).trans rfl) rfl rfl rfl rfl rfl rfl) rfl) ?_
  refine dg_nil (hK _ ?_)
  refine tc tbk 5 (.mk ?_)
  refine jn h2 [1, 2, 3, 4, 5, 6, 7] [1, 2, 3, 4, 5, 6, 8, 11] (fun (a : (List Int)) (k : Unit) => []) (fun a k => [(7, ⟨3, 1, true, true, v23, a.map fI⟩), (9, ⟨42, 8, true, true, v27, [[int 1, boo false, .sl 4 v14 0 (Int.toNat x11), .sl 5 v17 0 (Int.toNat 17), .sl 6 v20 0 (Int.toNat (a1.Weights.length : Int)), .sl 7 v23 0 a.length, .sl 8 v26 0 (Int.toNat (a1.Weights.length : Int)), .sc (.slice none 0 0)]]⟩)]) ⟨fun j28 h3 => ?_, ?_⟩
  refine tc tbk 1 (.mk ?_)
  refine lp (fun n (a : Int × (List Int)) => d_ref04_Start_L1 a1 n a.1 a.2) ((0 : Int), (x22 : List Int)) () h3 [1, 2, 3, 4, 5, 6, 7] [1, 2, 3, 4, 5, 6, 8, 11] (fun (a : Int × (List Int)) (k : Unit) => [(8, int a.1)]) (fun a k => [(7, ⟨3, 1, true, true, v23, a.2.map fI⟩), (9, ⟨42, 8, true, true, v27, [[int 1, boo false, .sl 4 v14 0 (Int.toNat x11), .sl 5 v17 0 (Int.toNat 17), .sl 6 v20 0 (Int.toNat (a1.Weights.length : Int)), .sl 7 v23 0 a.2.length, .sl 8 v26 0 (Int.toNat (a1.Weights.length : Int)), .sc (.slice none 0 0)]]⟩)]) (fun _ => rfl) ⟨leH_kn ⟨⟨_, rfl, (.refl _)⟩, ⟨_, rfl, (.refl _)⟩, ⟨_, rfl, (.refl _)⟩, ⟨_, rfl, (.refl _)⟩, ⟨_, rfl, (.refl _)⟩, ⟨_, rfl, (.refl _)⟩, ⟨_, rfl, (.refl _)⟩, ⟨_, rfl, (.refl _)⟩, trivial⟩ ⟨⟨_, rfl, (.refl _)⟩, ⟨_, rfl, ⟨rfl, (.cons (.cons (.refl _) (.cons (.refl _) (.cons (.refl _) (.cons (.refl _) (.cons (.refl _) (.cons (cv_slen (Eq.symm lx22)) (.cons (.refl _) (.cons (.refl _) .nil)))))))) .nil)⟩⟩, ⟨_, rfl, (.refl _)⟩, ⟨_, rfl, (.refl _)⟩, ⟨_, rfl, (.refl _)⟩, ⟨_, rfl, (.refl _)⟩, ⟨_, rfl, (.refl _)⟩, ⟨_, rfl, (.refl _)⟩, ⟨_, rfl, (.refl _)⟩, ⟨_, rfl, (.refl _)⟩, trivial⟩, ?_⟩
  rintro n ⟨y1_1, y1_2⟩ _ hm h3
  replace h3 : d_ref04_Start_L1 a1 (n + 1) y1_1 y1_2 = some _ := h3
  rw [d_ref04_Start_L1] at h3
  refine tc tbk 5 (.mk ?_)
  refine nb tbk h3 fun x29 h3 => ?_
  refine tr tbk 1 (.mk ?_)
  cases x29
  replace h3 := cf h3
  refine tc tbk 2 (.mk ?_)
  exact lf h3 () leA
  replace h3 := ct h3
  refine tc tbk 8 (.mk ?_)
  obtain ⟨x30, e30, h3⟩ := bind_e h3
  refine rst rfl rfl rfl (yv_ixO rfl Tryz.underlying23 sh3 rfl rfl rfl rfl rfl (Eq.symm rfl) (List.length_map _) e30) ?_
  obtain ⟨x31, e31, h3⟩ := bnd_e h3
  have fx31 := ix_set e30 e31; have lx31 := len_setV e31 (rfl : y1_2.length = y1_2.length)
  refine rsstore rfl rfl (yl_ob (ob' := (⟨3, 1, true, true, v23, x31.map fI⟩ : AObj)) (yl_store rfl sh3 rfl rfl rfl rfl rfl (ix_get e30) rfl rfl rfl) (ob_eq (map_setV e31))) ?_
  refine tr tbk 4 (.mk ?_)
  refine ni tbk h3 fun x32 h3 => ?_
  refine tr tbk 2 (.mk ?_)
  exact bk (x32, x31) () h3 (leH_kn ⟨⟨_, rfl, (.refl _)⟩, ⟨_, rfl, (.refl _)⟩, ⟨_, rfl, (.refl _)⟩, ⟨_, rfl, (.refl _)⟩, ⟨_, rfl, (.refl _)⟩, ⟨_, rfl, (.refl _)⟩, ⟨_, rfl, (.refl _)⟩, ⟨_, rfl, (.refl _)⟩, trivial⟩ ⟨⟨_, rfl, (.refl _)⟩, ⟨_, rfl, ⟨rfl, (.cons (.cons (.refl _) (.cons (.refl _) (.cons (.refl _) (.cons (.refl _) (.cons (.refl _) (.cons (cv_slen (Eq.symm lx31)) (.cons (.refl _) (.cons (.refl _) .nil)))))))) .nil)⟩⟩, ⟨_, rfl, (.refl _)⟩, ⟨_, rfl, (.refl _)⟩, ⟨_, rfl, (.refl _)⟩, ⟨_, rfl, (.refl _)⟩, ⟨_, rfl, (.refl _)⟩, ⟨_, rfl, (.refl _)⟩, ⟨_, rfl, (.refl _)⟩, ⟨_, rfl, (.refl _)⟩, trivial⟩)
  rintro y2_1 _ h2
  refine tc tbk 4 (.mk ?_)
  refine rst rfl rfl rfl (yv_buildSlice (ps := [(0, _)]) (rows := [[int 1, boo false, .sl 4 v14 0 (Int.toNat x11), .sl 5 v17 0 (Int.toNat 17), .sl 6 v20 0 (Int.toNat (a1.Weights.length : Int)), .sl 7 v23 0 y2_1.length, .sl 8 v26 0 (Int.toNat (a1.Weights.length : Int)), .sc (.slice none 0 0)]]) rfl Tryz.underlying27 bz42 (.cons rfl .nil) (by kernel_rfl) rfl rfl rfl) ?_
  obtain ⟨x33, e33, h2⟩ := bnd_e h2
  obtain ⟨p34, h2⟩ := asrt_e h2
  refine rse rfl rfl rfl (Yield.frz 4 rfl (Yield.frz 5 rfl (Yield.frz 6 rfl (Yield.frz 7 rfl (Yield.frz 8 rfl (yl_appT (g := GEnt.av) (l := y0_3) (m := [(⟨1, false, x13, x16, x19, y2_1, x25, []⟩ : GEnt)]) .any rfl Tryz.underlying27 bz42 by42 rfl rfl rfl rfl rfl rfl rfl rfl rfl rfl (Eq.symm rfl) (CvLL.list (.cons (.cons (.refl _) (.cons (.refl _) (.cons (cv_lst rfl rfl rfl rfl rfl (Eq.symm lx13)) (.cons (cv_lst rfl rfl rfl rfl rfl (Eq.symm lx16)) (.cons (cv_lst rfl rfl rfl rfl rfl (Eq.symm lx19)) (.cons (cv_lst rfl rfl rfl rfl rfl (Eq.symm rfl)) (.cons (cv_lst rfl rfl rfl rfl rfl (Eq.symm lx25)) (.cons (.nil _) .nil)))))))) .nil)) GEnt.one e33 p34)))))) ?_; rintro _ _ ⟨v35, -, rfl, rfl⟩
  refine tr tbk 1 (.mk ?_)
  refine rsstore rfl rfl (yl_ob (ob' := (⟨32, 10, true, true, v6, [[int a1.Entities, int a1.Periods, lst 1 fI a1.Weights, lst 1 (fL 1 fI) a1.Methods, lst 1 (fL 1 fI) a1.Costs, .sl 11 v35 0 x33.length, .sc (.slice none 0 0), .sc (.slice none 0 0), .sc (.slice none 0 0), int 0]]⟩ : AObj)) (yl_store rfl sh27 rfl rfl rfl rfl rfl rfl rfl rfl rfl) rfl) ?_
  refine tr tbk 2 (.mk ?_)
  exact lf h2 v35 leA
  rintro y3_2 w3_1 h1
  refine tc tbk 2 (.mk ?_)
  refine ni tbk h1 fun x36 h1 => ?_
  refine tr tbk 2 (.mk ?_)
  exact bk (x36, y3_2) w3_1 h1 leA
  rintro y4_2 w4_1 h0
  refine tc tbk 3 (.mk ?_)
  refine rsstore rfl rfl (yl_ob (ob' := (⟨32, 10, true, true, v3, [[int a1.Entities, int a1.Periods, lst 1 fI a1.Weights, lst 1 (fL 1 fI) a1.Methods, lst 1 (fL 1 fI) a1.Costs, .sl 11 w4_1 0 y4_2.length, .sc (.slice none 0 0), .sc (.slice none 0 0), .sc (.slice none 0 0), int 0]]⟩ : AObj)) (yl_store rfl sh32 rfl rfl rfl rfl rfl rfl rfl rfl rfl) rfl) ?_
  refine tr tbk 2 (.mk ?_)
  obtain rfl := nxt_e h0
  refine w_ret (hret _ _ _ (.cell rfl (.pt rfl rfl rfl) sh32 rfl (.tmp rfl .nil)) (fun _ _ h => h) ?_)
  exact CvL.tup (.cons (CvL.agg (.cons (.refl _) (.cons (.refl _) (.cons (.refl _) (.cons (.refl _) (.cons (.refl _) (.cons (cv_lst rfl rfl rfl rfl rfl (Eq.symm rfl)) (.cons (.nil _) (.cons (.nil _) (.cons (.nil _) (.cons (.refl _) .nil))))))))))) (.cons (.refl _) .nil))
  replace h0 := ct h0
  refine tc tbk 4 (.mk ?_)
  refine rsstore rfl rfl (yl_ob (ob' := (⟨32, 10, true, true, v3, [[int 0, int 0, .sc (.slice none 0 0), .sc (.slice none 0 0), .sc (.slice none 0 0), .sc (.slice none 0 0), .sc (.slice none 0 0), .sc (.slice none 0 0), .sc (.slice none 0 0), int 0]]⟩ : AObj)) (yl_store rfl sh32 rfl rfl rfl rfl rfl rfl rfl rfl rfl) rfl) ?_
  refine tr tbk 2 (.mk ?_)
  obtain rfl := nxt_e h0
  refine w_ret (hret _ _ _ (.cell rfl (.pt rfl rfl rfl) sh32 rfl (.tmp rfl .nil)) (fun _ _ h => h) ?_)
  exact CvL.tup (.cons (CvL.agg (.cons (.refl _) (.cons (.refl _) (.cons (.nil _) (.cons (.nil _) (.cons (.nil _) (.cons (.nil _) (.cons (.nil _) (.cons (.nil _) (.cons (.nil _) (.cons (.refl _) .nil))))))))))) (.cons (.refl _) .nil))
def d_law15_start_L0 : Nat → Int → (List (List Int)) → (List (List Int)) → Option ((List (List Int)) × (List (List Int)))
  | 0, _, _, _ => none
  | n + 1, y0_1, y0_4, y0_5 =>
    bnd (decide (y0_1 < 2)) fun (x6 : Bool) =>
    cond x6 (bnd (y0_4 ++ ([([1, 2, 3, 4] : List Int)] : List (List Int))) fun (x7 : List (List Int)) =>
    asrt (x7.length ≤ 68719476736) <|
    bnd (y0_5 ++ ([([10, 10, 10, 10] : List Int)] : List (List Int))) fun (x10 : List (List Int)) =>
    asrt (x10.length ≤ 68719476736) <|
    bnd (w64 (y0_1 + 1)) fun (x13 : Int) =>
    d_law15_start_L0 n (x13 : Int) (x7 : List (List Int)) (x10 : List (List Int))) (some ((y0_4 : List (List Int)), (y0_5 : List (List Int))))
def d_law15_start (n : Nat)  : Option (GState) :=
(show Option ((List (List Int)) × (List (List Int))) from
d_law15_start_L0 n (0 : Int) (([] : List (List Int)) : List (List Int)) (([] : List (List Int)) : List (List Int))).bind <| p2 fun (y1_3 : List (List Int)) (y1_4 : List (List Int)) =>
(d_ref04_Start n (⟨2, 3, ([1, 2, 3, 0] : List Int), y1_3, y1_4⟩ : GMaster)).bind fun (x14 : GState × Int) =>
some ((x14.1 : GState))
theorem d_law15_start_c {n : Nat}  {r : GState} (h0 : d_law15_start n  = some r) : PP Tryz.prog 17 [] (fun y => y = .agg (GState.av r)) := by
  unfold d_law15_start at h0
  refine pp_of_pc (R0 := fun y H => Cv (frzH H) y (.agg (GState.av r))) ?_ (fun y H hc => ⟨_, rfl, (fun (a : GState) => PV.agg (GState.pvc a)) r, hc⟩)
  refine pcw (c := _) Tryz.func17 rfl rfl ?_; intro Q hret hnorm
  refine tc tbk 2 (.mk ?_)
  refine rse rfl rfl rfl (yl_alloc 1 .any rfl z32 rfl) ?_; rintro _ _ ⟨v1, -, rfl, rfl⟩
  refine tr tbk 3 (.mk ?_)
  refine rst rfl rfl rfl (yv_to (y := lst 1 fI ([1, 2, 3, 0] : List Int)) (yv_buildSlice (ps := [(0, _), (1, _), (2, _), (3, _)]) (rows := [[int 1], [int 2], [int 3], [int 0]]) rfl Tryz.underlying23 bz3 (.cons rfl (.cons rfl (.cons rfl (.cons rfl .nil)))) (by kernel_rfl) rfl rfl rfl) rfl) ?_
  refine tr tbk 1 (.mk ?_)
  refine rse rfl rfl rfl (yl_alloc 2 .any rfl z26 rfl) ?_; rintro _ _ ⟨v2, -, rfl, rfl⟩
  refine rsstore rfl rfl (yl_ob (ob' := (⟨26, 5, true, true, v2, [[int 2, int 3, lst 1 fI ([1, 2, 3, 0] : List Int), .sc (.slice none 0 0), .sc (.slice none 0 0)]]⟩ : AObj)) (yl_store rfl sh26 rfl rfl rfl rfl rfl rfl rfl rfl rfl) rfl) ?_
  refine tr tbk 6 (.mk ?_)
  refine jn h0 [0, 1] [1] (fun (a : (List (List Int)) × (List (List Int))) (k : Nat × Nat) => []) (fun a k => [(2, ⟨26, 5, true, true, v2, [[int 2, int 3, lst 1 fI ([1, 2, 3, 0] : List Int), .sl 5 k.1 0 a.1.length, .sl 6 k.2 0 a.2.length]]⟩), (5, ⟨23, 1, true, true, k.1, a.1.map (fL 1 fI)⟩), (6, ⟨23, 1, true, true, k.2, a.2.map (fL 1 fI)⟩)]) ⟨fun j3 h1 => ?_, ?_⟩
  refine tc tbk 1 (.mk ?_)
  refine c_nilcell 2 0 3 5 23 1 (rows := fun v4 => [[int 2, int 3, lst 1 fI ([1, 2, 3, 0] : List Int), .sl 5 v4 0 0, .sc (.slice none 0 0)]]) rfl rfl rfl rfl (fun _ => rfl) ?_; intro v4
  refine c_nilcell 2 0 4 6 23 1 (rows := fun v5 => [[int 2, int 3, lst 1 fI ([1, 2, 3, 0] : List Int), .sl 5 v4 0 0, .sl 6 v5 0 0]]) rfl rfl rfl rfl (fun _ => rfl) ?_; intro v5
  refine lp (fun n (a : Int × (List (List Int)) × (List (List Int))) => d_law15_start_L0 n a.1 a.2.1 a.2.2) ((0 : Int), (([] : List (List Int)) : List (List Int)), (([] : List (List Int)) : List (List Int))) (v4, v5) h1 [0, 1] [1] (fun (a : Int × (List (List Int)) × (List (List Int))) (k : Nat × Nat) => [(2, int a.1)]) (fun a k => [(2, ⟨26, 5, true, true, v2, [[int 2, int 3, lst 1 fI ([1, 2, 3, 0] : List Int), .sl 5 k.1 0 a.2.1.length, .sl 6 k.2 0 a.2.2.length]]⟩), (5, ⟨23, 1, true, true, k.1, a.2.1.map (fL 1 fI)⟩), (6, ⟨23, 1, true, true, k.2, a.2.2.map (fL 1 fI)⟩)]) (fun _ => rfl) ⟨leA, ?_⟩
  rintro n ⟨y0_1, y0_4, y0_5⟩ ⟨w0_2, w0_3⟩ hm h1
  replace h1 : d_law15_start_L0 (n + 1) y0_1 y0_4 y0_5 = some _ := h1
  rw [d_law15_start_L0] at h1
  refine tc tbk 4 (.mk ?_)
  refine nb tbk h1 fun x6 h1 => ?_
  refine tr tbk 1 (.mk ?_)
  cases x6
  replace h1 := cf h1
  refine tc tbk 2 (.mk ?_)
  exact lf h1 (w0_2, w0_3) leA
  replace h1 := ct h1
  refine tc tbk 4 (.mk ?_)
  refine c_drawE [0, 1, 0, 4, 15, 0, 32, 0, 128, 511, 127, 2047, 4095, 8191] (fun i => bif Nat.beq i 0 then ([2]) else bif Nat.beq i 1 then ([2]) else bif Nat.beq i 5 then ([2]) else bif Nat.beq i 6 then ([2]) else bif Nat.beq i 10 then ([2]) else bif Nat.beq i 12 then ([2]) else []) (fun i => bif Nat.beq i 11 then ([]) else bif Nat.beq i 13 then ([]) else [2]) (fun i => bif Nat.beq i 4 then (false) else bif Nat.beq i 9 then (false) else bif Nat.beq i 11 then (false) else bif Nat.beq i 13 then (false) else true) [0, 1, 2, 3, 5, 6, 7, 8, 4, 10, 9, 11, 12, 13] mixed (by kernel_rfl) ?_; intro K hK
  refine de_pure rfl rfl rfl rfl (fun H hH => yv_fieldAddr rfl fo26_3 rfl (.pt ((hH _ (by decide)).trans rfl) rfl rfl) (.pt _ _ _ _ _)) ?_
  refine de_pure rfl rfl rfl rfl (fun H hH => yv_load rfl sh24 rfl (.pt ((hH _ (by decide)).trans rfl) rfl rfl) rfl) ?_
  refine de_pure rfl rfl rfl rfl (fun H hH => yv_to (y := lst 1 fI ([1, 2, 3, 4] : List Int)) (yv_buildSlice (ps := [(0, _), (1, _), (2, _), (3, _)]) (rows := [[int 1], [int 2], [int 3], [int 4]]) rfl Tryz.underlying23 bz3 (.cons rfl (.cons rfl (.cons rfl (.cons rfl .nil)))) (by kernel_rfl) rfl rfl rfl) rfl) ?_
  refine de_pure rfl rfl rfl rfl (fun H hH => yv_to (y := lst 1 (fL 1 fI) ([([1, 2, 3, 4] : List Int)] : List (List Int))) (yv_buildSlice (ps := [(0, _)]) (rows := [[lst 1 fI ([1, 2, 3, 4] : List Int)]]) rfl Tryz.underlying24 bz23 (.cons rfl .nil) (by kernel_rfl) rfl rfl rfl) rfl) ?_
  refine de_pure rfl rfl rfl rfl (fun H hH => yv_fieldAddr rfl fo26_4 rfl (.pt ((hH _ (by decide)).trans rfl) rfl rfl) (.pt _ _ _ _ _)) ?_
  refine de_pure rfl rfl rfl rfl (fun H hH => yv_load rfl sh24 rfl (.pt ((hH _ (by decide)).trans rfl) rfl rfl) rfl) ?_
  refine de_pure rfl rfl rfl rfl (fun H hH => yv_to (y := lst 1 fI ([10, 10, 10, 10] : List Int)) (yv_buildSlice (ps := [(0, _), (1, _), (2, _), (3, _)]) (rows := [[int 10], [int 10], [int 10], [int 10]]) rfl Tryz.underlying23 bz3 (.cons rfl (.cons rfl (.cons rfl (.cons rfl .nil)))) (by kernel_rfl) rfl rfl rfl) rfl) ?_
  refine de_pure rfl rfl rfl rfl (fun H hH => yv_to (y := lst 1 (fL 1 fI) ([([10, 10, 10, 10] : List Int)] : List (List Int))) (yv_buildSlice (ps := [(0, _)]) (rows := [[lst 1 fI ([10, 10, 10, 10] : List Int)]]) rfl Tryz.underlying24 bz23 (.cons rfl .nil) (by kernel_rfl) rfl rfl rfl) rfl) ?_
  obtain ⟨x7, e7, h1⟩ := bnd_e h1
  obtain ⟨p8, h1⟩ := asrt_e h1
  refine de_eff rfl rfl rfl rfl (yl_appT (g := (fL 1 fI)) (l := y0_4) (m := ([([1, 2, 3, 4] : List Int)] : List (List Int))) .any rfl Tryz.underlying24 bz23 by23 rfl rfl rfl rfl rfl rfl rfl rfl rfl rfl (Eq.symm rfl) (.refl _) (fun _ => rfl) e7 p8) (by rintro _ _ ⟨v9, -, rfl, rfl⟩; exact ⟨rfl, trivial⟩) ?_; rintro _ _ ⟨v9, -, rfl, rfl⟩
  refine de_pure rfl rfl rfl rfl (fun H hH => yv_fieldAddr rfl fo26_3 rfl (.pt ((hH _ (by decide)).trans rfl) rfl rfl) (.pt _ _ _ _ _)) ?_
  obtain ⟨x10, e10, h1⟩ := bnd_e h1
  obtain ⟨p11, h1⟩ := asrt_e h1
  refine de_eff rfl rfl rfl rfl (yl_appT (g := (fL 1 fI)) (l := y0_5) (m := ([([10, 10, 10, 10] : List Int)] : List (List Int))) .any rfl Tryz.underlying24 bz23 by23 rfl rfl rfl rfl rfl rfl rfl rfl rfl rfl (Eq.symm rfl) (.refl _) (fun _ => rfl) e10 p11) (by rintro _ _ ⟨v12, -, rfl, rfl⟩; exact ⟨rfl, trivial⟩) ?_; rintro _ _ ⟨v12, -, rfl, rfl⟩
  refine de_eff0 rfl rfl rfl rfl (Yield.weak (yl_ob (ob' := (⟨26, 5, true, true, v2, [[int 2, int 3, lst 1 fI ([1, 2, 3, 0] : List Int), .sl 5 v9 0 x7.length, .sl 6 w0_3 0 y0_5.length]]⟩ : AObj)) (yl_store rfl sh24 rfl rfl rfl rfl rfl rfl rfl rfl rfl) rfl) (fun _ h => h) (fun _ _ => trivial)) (by rintro _ _ ⟨rfl, rfl⟩; exact trivial) ?_; rintro _ _ ⟨rfl, rfl⟩
  refine de_pure rfl rfl rfl rfl (fun H hH => yv_fieldAddr rfl fo26_4 rfl (.pt ((hH _ (by decide)).trans rfl) rfl rfl) (.pt _ _ _ _ _)) ?_
  refine de_eff0 rfl rfl rfl rfl (Yield.weak (yl_ob (ob' := (⟨26, 5, true, true, v2, [[int 2, int 3, lst 1 fI ([1, 2, 3, 0] : List Int), .sl 5 v9 0 x7.length, .sl 6 v12 0 x10.length]]⟩ : AObj)) (yl_store rfl sh24 rfl rfl rfl rfl rfl rfl rfl rfl rfl) rfl) (fun _ h => h) (fun _ _ => trivial)) (by rintro _ _ ⟨rfl, rfl⟩; exact trivial) ?_; rintro _ _ ⟨rfl, rfl⟩
  refine de_nil (hK _ ?_)
  refine tc tbk 3 (.mk ?_)
  refine ni tbk h1 fun x13 h1 => ?_
  refine tr tbk 2 (.mk ?_)
  exact bk (x13, x7, x10) (v9, v12) h1 leA
  rintro ⟨y1_3, y1_4⟩ ⟨w1_1, w1_2⟩ h0
  replace h0 := p2_e h0
  refine tc tbk 3 (.mk ?_)
  obtain ⟨x14, e14, h0⟩ := bind_e h0
  refine rse rfl rfl rfl (Yield.frz 5 rfl (Yield.frz 6 rfl (Yield.weak (yv_callP rfl rfl (.cons rfl .nil) cal46 (.cons (CvL.agg (.cons (.refl _) (.cons (.refl _) (.cons (.refl _) (.cons (cv_lst rfl rfl rfl rfl rfl (Eq.symm rfl)) (.cons (cv_lst rfl rfl rfl rfl rfl (Eq.symm rfl)) .nil)))))) .nil) (d_ref04_Start_c e14)) (fun _ h => h) (fun _ h => h.elim)))) ?_; rintro _ _ ⟨rfl, rfl⟩
  refine tr tbk 3 (.mk ?_)
  refine rse rfl rfl rfl (yl_alloc 7 .any rfl z32 rfl) ?_; rintro _ _ ⟨v15, -, rfl, rfl⟩
  refine rsstore rfl rfl (yl_ob (ob' := (⟨32, 10, true, true, v15, [[int x14.1.Master.Entities, int x14.1.Master.Periods, lst 1 fI x14.1.Master.Weights, lst 1 (fL 1 fI) x14.1.Master.Methods, lst 1 (fL 1 fI) x14.1.Master.Costs, lst 8 GEnt.av x14.1.Ents, lst 8 GReceipt.av x14.1.Receipts, lst 9 GSale.av x14.1.Sales, lst 6 GTransit.av x14.1.Transits, int x14.1.Done]]⟩ : AObj)) (yl_store rfl sh32 rfl rfl rfl rfl rfl rfl rfl rfl rfl) rfl) ?_
  refine tr tbk 5 (.mk ?_)
  refine rsstore rfl rfl (yl_ob (ob' := (⟨32, 10, true, true, v1, [[int x14.1.Master.Entities, int x14.1.Master.Periods, lst 1 fI x14.1.Master.Weights, lst 1 (fL 1 fI) x14.1.Master.Methods, lst 1 (fL 1 fI) x14.1.Master.Costs, lst 8 GEnt.av x14.1.Ents, lst 8 GReceipt.av x14.1.Receipts, lst 9 GSale.av x14.1.Sales, lst 6 GTransit.av x14.1.Transits, int x14.1.Done]]⟩ : AObj)) (yl_store rfl sh32 rfl rfl rfl rfl rfl rfl rfl rfl rfl) rfl) ?_
  refine tr tbk 1 (.mk ?_)
  obtain rfl := nxt_e h0
  refine w_ret (hret _ _ _ (.cell rfl (.pt rfl rfl rfl) sh32 rfl .nil) (fun _ _ h => h) ?_)
  exact .refl _
def d_stock_is (a1 : GState) (a2 : Int) (a3 : Int) : Option (Bool) :=
(show Option (Bool) from
bnd (decide (a2 < 0)) fun (x6 : Bool) =>
cond x6 (some (true : Bool)) (bnd (decide (a2 ≥ (a1.Ents.length : Int))) fun (x7 : Bool) =>
cond x7 (some (true : Bool)) (bnd (decide (a3 < 0)) fun (x8 : Bool) =>
cond x8 (some (true : Bool)) (bnd (decide (a3 ≥ (a1.Master.Weights.length : Int))) fun (x9 : Bool) =>
some (x9 : Bool))))).bind <| fun (y0_1 : Bool) =>
cond y0_1 (some ((false : Bool))) ((ix a1.Ents a2).bind fun (x10 : GEnt) =>
(show Option (Bool) from
bnd (w64 ((a1.Master.Weights.length : Int) * 2)) fun (x13 : Int) =>
bnd (decide ((x10.Pools.length : Int) ≥ x13)) fun (x14 : Bool) =>
cond x14 (bnd (decide ((x10.Rolls.length : Int) ≥ (a1.Master.Weights.length : Int))) fun (x15 : Bool) =>
cond x15 (bnd (decide (a2 < (a1.Master.Methods.length : Int))) fun (x16 : Bool) =>
cond x16 (bnd (decide (a2 < (a1.Master.Costs.length : Int))) fun (x17 : Bool) =>
cond x17 ((ix a1.Master.Methods a2).bind fun (x18 : List Int) =>
bnd (decide ((x18.length : Int) ≥ (a1.Master.Weights.length : Int))) fun (x19 : Bool) =>
cond x19 ((ix a1.Master.Costs a2).bind fun (x20 : List Int) =>
bnd (decide ((x20.length : Int) ≥ (a1.Master.Weights.length : Int))) fun (x21 : Bool) =>
some (x21 : Bool)) (some (false : Bool))) (some (false : Bool))) (some (false : Bool))) (some (false : Bool))) (some (false : Bool))).bind <| fun (y1_1 : Bool) =>
some ((y1_1 : Bool)))
theorem d_stock_is_c {a1 : GState} {a2 : Int} {a3 : Int} {r : Bool} (h0 : d_stock_is a1 a2 a3 = some r) : PP Tryz.prog 71 [.agg (GState.av a1), int a2, int a3] (fun y => y = boo r) := by
  unfold d_stock_is at h0
  refine pp_of_pc (R0 := fun y H => Cv (frzH H) y (boo r)) ?_ (fun y H hc => ⟨_, rfl, pvB r, hc⟩)
  refine pcw (c := _) Tryz.func71 rfl rfl ?_; intro Q hret hnorm
  refine tc tbk 2 (.mk ?_)
  refine rse rfl rfl rfl (yl_box 1 .any rfl rfl rfl) ?_; rintro _ _ ⟨v4, -, rfl, rfl⟩
  refine tr tbk 4 (.mk ?_)
  refine jn h0 [1, 3, 6] [1] (fun (a : Bool) (k : Unit) => [(29, boo a)]) (fun a k => []) ⟨fun j5 h1 => ?_, ?_⟩
  refine tc tbk 2 (.mk ?_)
  refine nb tbk h1 fun x6 h1 => ?_
  refine tr tbk 1 (.mk ?_)
  cases x6
  replace h1 := cf h1
  refine tr tbk 3 (.mk ?_)
  refine rst rfl rfl rfl (yv_len_sl rfl Tryz.underlying27 rfl (lst_len _)) ?_
  refine nb tbk h1 fun x7 h1 => ?_
  refine tr tbk 2 (.mk ?_)
  cases x7
  replace h1 := cf h1
  refine tr tbk 1 (.mk ?_)
  refine nb tbk h1 fun x8 h1 => ?_
  refine tr tbk 2 (.mk ?_)
  cases x8
  replace h1 := cf h1
  refine tr tbk 4 (.mk ?_)
  refine rst rfl rfl rfl (yv_len_sl rfl Tryz.underlying23 rfl (lst_len _)) ?_
  refine nb tbk h1 fun x9 h1 => ?_
  refine tr tbk 2 (.mk ?_)
  exact lf h1 () leA
  replace h1 := ct h1
  refine tr tbk 8 (.mk ?_)
  exact lf h1 () leA
  replace h1 := ct h1
  refine tr tbk 12 (.mk ?_)
  exact lf h1 () leA
  replace h1 := ct h1
  refine tr tbk 19 (.mk ?_)
  exact lf h1 () leA
  rintro y0_1 _ h0
  cases y0_1
  replace h0 := cf h0
  refine tc tbk 3 (.mk ?_)
  refine c_drawE [0, 1, 0, 7, 15, 0, 32, 96, 224, 0, 543, 2047] (fun i => bif Nat.beq i 0 then ([1]) else bif Nat.beq i 1 then ([1]) else bif Nat.beq i 5 then ([1]) else bif Nat.beq i 6 then ([1]) else bif Nat.beq i 7 then ([1]) else []) (fun i => [1]) (fun i => bif Nat.beq i 9 then (false) else bif Nat.beq i 10 then (false) else true) [0, 1, 2, 3, 4, 5, 6, 7, 8, 9, 10, 11] mixed (by kernel_rfl) ?_; intro K hK
  refine de_pure rfl rfl rfl rfl (fun H hH => yv_fieldAddr rfl fo32_1 rfl (.pt ((hH _ (by decide)).trans rfl) rfl rfl) (.pt _ _ _ _ _)) ?_
  refine de_pure rfl rfl rfl rfl (fun H hH => yv_load rfl sh27 rfl (.pt ((hH _ (by decide)).trans rfl) rfl rfl) rfl) ?_
  refine de_pure rfl rfl rfl rfl (fun H hH => yv_move rfl rfl) ?_
  obtain ⟨x10, e10, h0⟩ := bind_e h0
  refine de_pure rfl rfl rfl rfl (fun H hH => yv_to (y := .pp [int x10.Now, boo x10.Closed, lst 4 GPool.av x10.Pools, lst 1 fI x10.Bal, lst 11 GRoll.av x10.Rolls, lst 1 fI x10.Prices, lst 1 fI x10.Down, lst 8 GEnt.av x10.Ahead]) (yv_ixT rfl Tryz.underlying27 sh42 rfl rfl e10) (congrArg AV.pp (GEnt.av_eq x10))) ?_
  refine de_pure rfl rfl rfl rfl (fun H hH => yv_load rfl sh42 rfl (.pp _) rfl) ?_
  refine de_pure rfl rfl rfl rfl (fun H hH => yv_fieldAddr rfl fo32_0 rfl (.pt ((hH _ (by decide)).trans rfl) rfl rfl) (.pt _ _ _ _ _)) ?_
  refine de_pure rfl rfl rfl rfl (fun H hH => yv_fieldAddr rfl fo26_2 rfl (.pt ((hH _ (by decide)).trans rfl) rfl rfl) (.pt _ _ _ _ _)) ?_
  refine de_pure rfl rfl rfl rfl (fun H hH => yv_load rfl sh23 rfl (.pt ((hH _ (by decide)).trans rfl) rfl rfl) rfl) ?_
  refine de_pure rfl rfl rfl rfl (fun H hH => yv_len_sl rfl Tryz.underlying23 rfl (lst_len _)) ?_
  refine de_eff rfl rfl rfl rfl (yl_alloc 2 .any rfl z42 rfl) (by rintro _ _ ⟨v11, -, rfl, rfl⟩; exact ⟨rfl, trivial⟩) ?_; rintro _ _ ⟨v11, -, rfl, rfl⟩
  refine de_eff0 rfl rfl rfl rfl (Yield.weak (yl_ob (ob' := (⟨42, 8, true, true, v11, [[int x10.Now, boo x10.Closed, lst 4 GPool.av x10.Pools, lst 1 fI x10.Bal, lst 11 GRoll.av x10.Rolls, lst 1 fI x10.Prices, lst 1 fI x10.Down, lst 8 GEnt.av x10.Ahead]]⟩ : AObj)) (yl_store rfl sh42 rfl rfl rfl rfl rfl rfl rfl rfl rfl) rfl) (fun _ h => h) (fun _ _ => trivial)) (by rintro _ _ ⟨rfl, rfl⟩; exact ⟨rfl, trivial⟩) ?_; rintro _ _ ⟨rfl, rfl⟩
  refine de_pure rfl rfl rfl rfl (fun H hH => yv_assign rfl rfl) ?_
  refine de_nil (hK _ ?_)
  refine tc tbk 1 (.mk ?_)
  refine jn h0 [] [] (fun (a : Bool) (k : Unit) => [(6, boo a)]) (fun a k => []) ⟨fun j12 h1 => ?_, ?_⟩
  refine tc tbk 3 (.mk ?_)
  refine rst rfl rfl rfl (yv_len_sl rfl Tryz.underlying39 rfl (lst_len _)) ?_
  refine tr tbk 1 (.mk ?_)
  refine ni tbk h1 fun x13 h1 => ?_
  refine nb tbk h1 fun x14 h1 => ?_
  refine tr tbk 1 (.mk ?_)
  cases x14
  replace h1 := cf h1
  refine tr tbk 46 (.mk ?_)
  exact lf h1 () leA
  replace h1 := ct h1
  refine tr tbk 2 (.mk ?_)
  refine rst rfl rfl rfl (yv_len_sl rfl Tryz.underlying40 rfl (lst_len _)) ?_
  refine tr tbk 1 (.mk ?_)
  refine nb tbk h1 fun x15 h1 => ?_
  refine tr tbk 2 (.mk ?_)
  cases x15
  replace h1 := cf h1
  refine tr tbk 39 (.mk ?_)
  exact lf h1 () leA
  replace h1 := ct h1
  refine tr tbk 4 (.mk ?_)
  refine rst rfl rfl rfl (yv_len_sl rfl Tryz.underlying24 rfl (lst_len _)) ?_
  refine nb tbk h1 fun x16 h1 => ?_
  refine tr tbk 2 (.mk ?_)
  cases x16
  replace h1 := cf h1
  refine tr tbk 31 (.mk ?_)
  exact lf h1 () leA
  replace h1 := ct h1
  refine tr tbk 4 (.mk ?_)
  refine rst rfl rfl rfl (yv_len_sl rfl Tryz.underlying24 rfl (lst_len _)) ?_
  refine nb tbk h1 fun x17 h1 => ?_
  refine tr tbk 2 (.mk ?_)
  cases x17
  replace h1 := cf h1
  refine tr tbk 23 (.mk ?_)
  exact lf h1 () leA
  replace h1 := ct h1
  refine tr tbk 4 (.mk ?_)
  obtain ⟨x18, e18, h1⟩ := bind_e h1
  refine rst rfl rfl rfl (yv_ixT rfl Tryz.underlying24 sh23 rfl rfl e18) ?_
  refine tr tbk 1 (.mk ?_)
  refine rst rfl rfl rfl (yv_len_sl rfl Tryz.underlying23 rfl (lst_len _)) ?_
  refine tr tbk 1 (.mk ?_)
  refine nb tbk h1 fun x19 h1 => ?_
  refine tr tbk 2 (.mk ?_)
  cases x19
  replace h1 := cf h1
  refine tr tbk 12 (.mk ?_)
  exact lf h1 () leA
  replace h1 := ct h1
  refine tr tbk 4 (.mk ?_)
  obtain ⟨x20, e20, h1⟩ := bind_e h1
  refine rst rfl rfl rfl (yv_ixT rfl Tryz.underlying24 sh23 rfl rfl e20) ?_
  refine tr tbk 1 (.mk ?_)
  refine rst rfl rfl rfl (yv_len_sl rfl Tryz.underlying23 rfl (lst_len _)) ?_
  refine tr tbk 1 (.mk ?_)
  refine nb tbk h1 fun x21 h1 => ?_
  refine tr tbk 3 (.mk ?_)
  exact lf h1 () leA
  rintro y1_1 _ h0
  obtain rfl := nxt_e h0
  refine w_ret (hret _ _ _ (.tmp rfl .nil) (fun _ _ h => h) ?_)
  exact .refl _
  replace h0 := ct h0
  refine tc tbk 5 (.mk ?_)
  obtain rfl := nxt_e h0
  refine w_ret (hret _ _ _ (.tmp rfl .nil) (fun _ _ h => h) ?_)
  exact .refl _
def d_stock_Ready (a1 : GState) (a2 : Int) (a3 : Int) : Option (Int) :=
(d_stock_is a1 a2 a3).bind fun (x5 : Bool) =>
bnd (!x5) fun (x6 : Bool) =>
cond x6 (some ((4 : Int))) ((ix a1.Ents a2).bind fun (x7 : GEnt) =>
bnd x7.Closed fun (x8 : Bool) =>
cond x8 (some ((7 : Int))) (some ((0 : Int))))
theorem d_stock_Ready_c {a1 : GState} {a2 : Int} {a3 : Int} {r : Int} (h0 : d_stock_Ready a1 a2 a3 = some r) : PP Tryz.prog 37 [.agg (GState.av a1), int a2, int a3] (fun y => y = int r) := by
  unfold d_stock_Ready at h0
  refine pp_of_pc (R0 := fun y H => Cv (frzH H) y (int r)) ?_ (fun y H hc => ⟨_, rfl, pvI r, hc⟩)
  refine pcw (c := _) Tryz.func37 rfl rfl ?_; intro Q hret hnorm
  refine tc tbk 2 (.mk ?_)
  refine rse rfl rfl rfl (yl_box 1 .any rfl rfl rfl) ?_; rintro _ _ ⟨v4, -, rfl, rfl⟩
  refine tr tbk 9 (.mk ?_)
  obtain ⟨x5, e5, h0⟩ := bind_e h0
  refine rst rfl rfl rfl (yv_callP rfl rfl (.cons rfl (.cons rfl (.cons rfl .nil))) cal71 (CvL.refl _) (d_stock_is_c e5)) ?_
  refine nb tbk h0 fun x6 h0 => ?_
  refine tr tbk 2 (.mk ?_)
  cases x6
  replace h0 := cf h0
  refine tc tbk 6 (.mk ?_)
  obtain ⟨x7, e7, h0⟩ := bind_e h0
  refine rst rfl rfl rfl (yv_to (y := .pp [int x7.Now, boo x7.Closed, lst 4 GPool.av x7.Pools, lst 1 fI x7.Bal, lst 11 GRoll.av x7.Rolls, lst 1 fI x7.Prices, lst 1 fI x7.Down, lst 8 GEnt.av x7.Ahead]) (yv_ixT rfl Tryz.underlying27 sh42 rfl rfl e7) (congrArg AV.pp (GEnt.av_eq x7))) ?_
  refine tr tbk 4 (.mk ?_)
  obtain ⟨x8, e8, h0⟩ := bnd_e h0
  refine c_as (t := 13) (boo x8) rfl (congrArg boo e8) ?_
  cases x8
  replace h0 := cf h0
  refine tc tbk 7 (.mk ?_)
  obtain rfl := nxt_e h0
  refine w_ret (hret _ _ _ (.tmp rfl .nil) (fun _ _ h => h) ?_)
  exact .refl _
  replace h0 := ct h0
  refine tc tbk 5 (.mk ?_)
  obtain rfl := nxt_e h0
  refine w_ret (hret _ _ _ (.tmp rfl .nil) (fun _ _ h => h) ?_)
  exact .refl _
  replace h0 := ct h0
  refine tc tbk 5 (.mk ?_)
  obtain rfl := nxt_e h0
  refine w_ret (hret _ _ _ (.tmp rfl .nil) (fun _ _ h => h) ?_)
  exact .refl _
def d_stock_in (a1 : Int) (a2 : Int) (a3 : Int) : Option (Bool) :=
(show Option (Bool) from
bnd (decide (a1 ≥ a2)) fun (x5 : Bool) =>
cond x5 (bnd (decide (a1 ≤ a3)) fun (x6 : Bool) =>
some (x6 : Bool)) (some (false : Bool))).bind <| fun (y0_1 : Bool) =>
some ((y0_1 : Bool))
theorem d_stock_in_c {a1 : Int} {a2 : Int} {a3 : Int} {r : Bool} (h0 : d_stock_in a1 a2 a3 = some r) : PP Tryz.prog 112 [int a1, int a2, int a3] (fun y => y = boo r) := by
  unfold d_stock_in at h0
  refine pp_of_pc (R0 := fun y H => Cv (frzH H) y (boo r)) ?_ (fun y H hc => ⟨_, rfl, pvB r, hc⟩)
  refine pcw (c := _) Tryz.func112 rfl rfl ?_; intro Q hret hnorm
  refine tc tbk 5 (.mk ?_)
  refine jn h0 [] [] (fun (a : Bool) (k : Unit) => [(6, boo a)]) (fun a k => []) ⟨fun j4 h1 => ?_, ?_⟩
  refine tc tbk 3 (.mk ?_)
  refine nb tbk h1 fun x5 h1 => ?_
  refine tr tbk 1 (.mk ?_)
  cases x5
  replace h1 := cf h1
  refine tr tbk 6 (.mk ?_)
  exact lf h1 () leA
  replace h1 := ct h1
  refine tr tbk 2 (.mk ?_)
  refine nb tbk h1 fun x6 h1 => ?_
  refine tr tbk 3 (.mk ?_)
  exact lf h1 () leA
  rintro y0_1 _ h0
  obtain rfl := nxt_e h0
  refine w_ret (hret _ _ _ (.tmp rfl .nil) (fun _ _ h => h) ?_)
  exact .refl _
def d_stock_place (a1 : GState) (a2 : Int) (a3 : Int) (a4 : Int) : Option (Int) :=
(show Option (Bool) from
(d_stock_is a1 a2 a3).bind fun (x7 : Bool) =>
bnd (!x7) fun (x8 : Bool) =>
cond x8 (some (true : Bool)) ((d_stock_in a4 0 1).bind fun (x9 : Bool) =>
bnd (!x9) fun (x10 : Bool) =>
some (x10 : Bool))).bind <| fun (y0_1 : Bool) =>
cond y0_1 (some (((-1) : Int))) (bnd (w64 (a3 * 2)) fun (x11 : Int) =>
bnd (w64 (x11 + a4)) fun (x12 : Int) =>
some ((x12 : Int)))
theorem d_stock_place_c {a1 : GState} {a2 : Int} {a3 : Int} {a4 : Int} {r : Int} (h0 : d_stock_place a1 a2 a3 a4 = some r) : PP Tryz.prog 72 [.agg (GState.av a1), int a2, int a3, int a4] (fun y => y = int r) := by
  unfold d_stock_place at h0
  refine pp_of_pc (R0 := fun y H => Cv (frzH H) y (int r)) ?_ (fun y H hc => ⟨_, rfl, pvI r, hc⟩)
  refine pcw (c := _) Tryz.func72 rfl rfl ?_; intro Q hret hnorm
  refine tc tbk 2 (.mk ?_)
  refine rse rfl rfl rfl (yl_box 1 .any rfl rfl rfl) ?_; rintro _ _ ⟨v5, -, rfl, rfl⟩
  refine tr tbk 4 (.mk ?_)
  refine jn h0 [2, 3, 8] [] (fun (a : Bool) (k : Unit) => [(18, boo a)]) (fun a k => []) ⟨fun j6 h1 => ?_, ?_⟩
  refine tc tbk 4 (.mk ?_)
  obtain ⟨x7, e7, h1⟩ := bind_e h1
  refine rst rfl rfl rfl (yv_callP rfl rfl (.cons rfl (.cons rfl (.cons rfl .nil))) cal71 (CvL.refl _) (d_stock_is_c e7)) ?_
  refine nb tbk h1 fun x8 h1 => ?_
  refine tr tbk 1 (.mk ?_)
  cases x8
  replace h1 := cf h1
  refine tr tbk 1 (.mk ?_)
  obtain ⟨x9, e9, h1⟩ := bind_e h1
  refine rst rfl rfl rfl (yv_callP rfl rfl (.cons rfl (.cons rfl (.cons rfl .nil))) cal112 (CvL.refl _) (d_stock_in_c e9)) ?_
  refine nb tbk h1 fun x10 h1 => ?_
  refine tr tbk 2 (.mk ?_)
  exact lf h1 () leA
  replace h1 := ct h1
  refine tr tbk 5 (.mk ?_)
  exact lf h1 () leA
  rintro y0_1 _ h0
  cases y0_1
  replace h0 := cf h0
  refine tc tbk 5 (.mk ?_)
  refine ni tbk h0 fun x11 h0 => ?_
  refine tr tbk 1 (.mk ?_)
  refine ni tbk h0 fun x12 h0 => ?_
  refine tr tbk 2 (.mk ?_)
  obtain rfl := nxt_e h0
  refine w_ret (hret _ _ _ (.tmp rfl .nil) (fun _ _ h => h) ?_)
  exact .refl _
  replace h0 := ct h0
  refine tc tbk 5 (.mk ?_)
  obtain rfl := nxt_e h0
  refine w_ret (hret _ _ _ (.tmp rfl .nil) (fun _ _ h => h) ?_)
  exact .refl _
def d_pool_with (a1 : GPool) (a2 : List GLayer) : Option (GPool) :=
some (((⟨a2, a1.Pend⟩ : GPool) : GPool))
theorem d_pool_with_c {a1 : GPool} {a2 : List GLayer} {r : GPool} (h0 : d_pool_with a1 a2 = some r) : PP Tryz.prog 145 [.agg (GPool.av a1), lst 3 GLayer.av a2] (fun y => y = .agg (GPool.av r)) := by
  unfold d_pool_with at h0
  refine pp_of_pc (R0 := fun y H => Cv (frzH H) y (.agg (GPool.av r))) ?_ (fun y H hc => ⟨_, rfl, (fun (a : GPool) => PV.agg (GPool.pvc a)) r, hc⟩)
  refine pcw (c := _) Tryz.func145 rfl rfl ?_; intro Q hret hnorm
  refine tc tbk 2 (.mk ?_)
  refine rse rfl rfl rfl (yl_box 1 .any rfl rfl rfl) ?_; rintro _ _ ⟨v3, -, rfl, rfl⟩
  refine rse rfl rfl rfl (yl_alloc 2 .any rfl z69 rfl) ?_; rintro _ _ ⟨v4, -, rfl, rfl⟩
  refine tr tbk 5 (.mk ?_)
  refine rsstore rfl rfl (yl_ob (ob' := (⟨69, 4, true, true, v3, [[lst 3 GLayer.av a2, int a1.Pend.a0, int a1.Pend.a1, int a1.Pend.a2]]⟩ : AObj)) (yl_store rfl sh66 rfl rfl rfl rfl rfl rfl rfl rfl rfl) rfl) ?_
  refine tr tbk 4 (.mk ?_)
  refine rsstore rfl rfl (yl_ob (ob' := (⟨69, 4, true, true, v4, [[lst 3 GLayer.av a2, int a1.Pend.a0, int a1.Pend.a1, int a1.Pend.a2]]⟩ : AObj)) (yl_store rfl sh69 rfl rfl rfl rfl rfl rfl rfl rfl rfl) rfl) ?_
  refine tr tbk 1 (.mk ?_)
  obtain rfl := nxt_e h0
  refine w_ret (hret _ _ _ (.cell rfl (.pt rfl rfl rfl) sh69 rfl .nil) (fun _ _ h => h) ?_)
  exact .refl _
def d_pool_own (a1 : GPool) : Option (GPool) :=
asrt (a1.Layers.length ≤ 68719476736) <|
(show Option ((Unit)) from
some ()).bind <| fun (_ : Unit) =>
some ((a1 : GPool))
theorem d_pool_own_c {a1 : GPool} {r : GPool} (h0 : d_pool_own a1 = some r) : PP Tryz.prog 114 [.agg (GPool.av a1)] (fun y => y = .agg (GPool.av r)) := by
  unfold d_pool_own at h0
  refine pp_of_pc (R0 := fun y H => Cv (frzH H) y (.agg (GPool.av r))) ?_ (fun y H hc => ⟨_, rfl, (fun (a : GPool) => PV.agg (GPool.pvc a)) r, hc⟩)
  refine pcw (c := _) Tryz.func114 rfl rfl ?_; intro Q hret hnorm
  refine tc tbk 2 (.mk ?_)
  refine rse rfl rfl rfl (yl_box 1 .any rfl rfl rfl) ?_; rintro _ _ ⟨v2, -, rfl, rfl⟩
  refine rse rfl rfl rfl (yl_alloc 2 .any rfl z69 rfl) ?_; rintro _ _ ⟨v3, -, rfl, rfl⟩
  refine tr tbk 2 (.mk ?_)
  refine c_drawE [0, 0, 2, 6, 15, 31] (fun i => bif Nat.beq i 0 then ([1]) else bif Nat.beq i 1 then ([1]) else bif Nat.beq i 2 then ([1]) else []) (fun i => bif Nat.beq i 4 then ([]) else bif Nat.beq i 5 then ([]) else [1]) (fun i => bif Nat.beq i 3 then (false) else bif Nat.beq i 4 then (false) else bif Nat.beq i 5 then (false) else true) [0, 1, 2, 3, 4, 5] mixed (by kernel_rfl) ?_; intro K hK
  refine de_pure rfl rfl rfl rfl (fun H hH => yv_load rfl sh69 rfl (.pt ((hH _ (by decide)).trans rfl) rfl rfl) rfl) ?_
  refine de_pure rfl rfl rfl rfl (fun H hH => yv_fieldAddr rfl fo69_0 rfl (.pt ((hH _ (by decide)).trans rfl) rfl rfl) (.pt _ _ _ _ _)) ?_
  refine de_pure rfl rfl rfl rfl (fun H hH => yv_load rfl sh66 rfl (.pt ((hH _ (by decide)).trans rfl) rfl rfl) rfl) ?_
  obtain ⟨p4, h0⟩ := asrt_e h0
  refine de_eff rfl rfl rfl rfl (yl_call rfl rfl (.cons rfl .nil) cal144 (pc_cv (clone144_c (id := 3) (l := a1.Layers) rfl p4) (.cons (.refl _) .nil))) (by rintro _ _ ⟨v5, rfl, rfl⟩; exact ⟨rfl, trivial⟩) ?_; rintro _ _ ⟨v5, rfl, rfl⟩
  obtain ⟨j6, h1, h0⟩ := bind_e h0
  refine de_eff (Out := fun y H' => (∃ (a : Unit) (k : Unit), a = j6 ∧ y = .agg [.sl 3 v5 0 a1.Layers.length, int a1.Pend.a0, int a1.Pend.a1, int a1.Pend.a2] ∧ H' = hk [(1, ⟨69, 4, true, true, v2, [[lst 3 GLayer.av a1.Layers, int a1.Pend.a0, int a1.Pend.a1, int a1.Pend.a2]]⟩), (2, ⟨69, 4, true, true, v3, [[.sc (.slice none 0 0), int 0, int 0, int 0]]⟩), (3, ⟨46, 3, true, true, v5, a1.Layers.map GLayer.av⟩)])) rfl rfl rfl rfl (yl_call rfl rfl (.cons rfl (.cons rfl .nil)) cal145 ?_) (by rintro y _ ⟨_, _, rfl, hc, rfl⟩ <;> exact trivial) ?_
  refine pcw (c := _) Tryz.func145 rfl rfl ?_; intro Q hret hnorm
  refine tc tbk 2 (.mk ?_)
  refine rse rfl rfl rfl (yl_box 4 .any rfl rfl rfl) ?_; rintro _ _ ⟨v7, -, rfl, rfl⟩
  refine rse rfl rfl rfl (yl_alloc 5 .any rfl z69 rfl) ?_; rintro _ _ ⟨v8, -, rfl, rfl⟩
  refine tr tbk 5 (.mk ?_)
  refine rsstore rfl rfl (yl_ob (ob' := (⟨69, 4, true, true, v7, [[.sl 3 v5 0 a1.Layers.length, int a1.Pend.a0, int a1.Pend.a1, int a1.Pend.a2]]⟩ : AObj)) (yl_store rfl sh66 rfl rfl rfl rfl rfl rfl rfl rfl rfl) rfl) ?_
  refine tr tbk 4 (.mk ?_)
  refine rsstore rfl rfl (yl_ob (ob' := (⟨69, 4, true, true, v8, [[.sl 3 v5 0 a1.Layers.length, int a1.Pend.a0, int a1.Pend.a1, int a1.Pend.a2]]⟩ : AObj)) (yl_store rfl sh69 rfl rfl rfl rfl rfl rfl rfl rfl rfl) rfl) ?_
  refine tr tbk 1 (.mk ?_)
  obtain rfl := nxt_e h1
  refine w_ret (hret _ _ (hk [(1, ⟨69, 4, true, true, v2, [[lst 3 GLayer.av a1.Layers, int a1.Pend.a0, int a1.Pend.a1, int a1.Pend.a2]]⟩), (2, ⟨69, 4, true, true, v3, [[.sc (.slice none 0 0), int 0, int 0, int 0]]⟩), (3, ⟨46, 3, true, true, v5, a1.Layers.map GLayer.av⟩)]) (.cell rfl (.pt rfl rfl rfl) sh69 rfl .nil) (HK.le ⟨rfl, rfl, rfl, trivial⟩) ?_)
  exact ⟨(), (), rfl, rfl, rfl⟩
  rintro y _ ⟨_, _, rfl, hc, rfl⟩
  subst hc
  refine de_eff0 rfl rfl rfl rfl (Yield.weak (yl_ob (ob' := (⟨69, 4, true, true, v3, [[.sl 3 v5 0 a1.Layers.length, int a1.Pend.a0, int a1.Pend.a1, int a1.Pend.a2]]⟩ : AObj)) (yl_store rfl sh69 rfl rfl rfl rfl rfl rfl rfl rfl rfl) rfl) (fun _ h => h) (fun _ _ => trivial)) (by rintro _ _ ⟨rfl, rfl⟩; exact trivial) ?_; rintro _ _ ⟨rfl, rfl⟩
  refine de_nil (hK _ ?_)
  obtain rfl := nxt_e h0
  refine w_ret (hret _ _ _ (.cell rfl (.pt rfl rfl rfl) sh69 rfl .nil) (fun _ _ h => h) ?_)
  exact (CvL.agg (.cons (cv_lst rfl rfl rfl rfl rfl (Eq.symm rfl)) (.cons (.refl _) (.cons (.refl _) (.cons (.refl _) .nil)))))
def d_stdcost_rate_fits (a1 : Int) : Option (Bool) :=
(show Option (Bool) from
bnd (decide (a1 ≥ 0)) fun (x3 : Bool) =>
cond x3 (bnd (decide (a1 ≤ 1073741824)) fun (x4 : Bool) =>
some (x4 : Bool)) (some (false : Bool))).bind <| fun (y0_1 : Bool) =>
some ((y0_1 : Bool))
theorem d_stdcost_rate_fits_c {a1 : Int} {r : Bool} (h0 : d_stdcost_rate_fits a1 = some r) : PP Tryz.prog 207 [int a1] (fun y => y = boo r) := by
  unfold d_stdcost_rate_fits at h0
  refine pp_of_pc (R0 := fun y H => Cv (frzH H) y (boo r)) ?_ (fun y H hc => ⟨_, rfl, pvB r, hc⟩)
  refine pcw (c := _) Tryz.func207 rfl rfl ?_; intro Q hret hnorm
  refine tc tbk 5 (.mk ?_)
  refine jn h0 [] [] (fun (a : Bool) (k : Unit) => [(2, boo a)]) (fun a k => []) ⟨fun j2 h1 => ?_, ?_⟩
  refine tc tbk 2 (.mk ?_)
  refine nb tbk h1 fun x3 h1 => ?_
  refine tr tbk 1 (.mk ?_)
  cases x3
  replace h1 := cf h1
  refine tr tbk 5 (.mk ?_)
  exact lf h1 () leA
  replace h1 := ct h1
  refine tr tbk 1 (.mk ?_)
  refine nb tbk h1 fun x4 h1 => ?_
  refine tr tbk 3 (.mk ?_)
  exact lf h1 () leA
  rintro y0_1 _ h0
  obtain rfl := nxt_e h0
  refine w_ret (hret _ _ _ (.tmp rfl .nil) (fun _ _ h => h) ?_)
  exact .refl _
def d_money_Wide (a1 : Int) (a2 : Int) : Option (Int × Int) :=
bnd (wu64 a1) fun (x3 : Int) =>
bnd (wu64 a2) fun (x4 : Int) =>
bnd (x3.tmod 4294967296) fun (x5 : Int) =>
bnd (x4.tmod 4294967296) fun (x6 : Int) =>
bnd (wu64 (x5 * x6)) fun (x7 : Int) =>
bnd (wu64 (x3.tdiv 4294967296)) fun (x8 : Int) =>
bnd (x4.tmod 4294967296) fun (x9 : Int) =>
bnd (wu64 (x8 * x9)) fun (x10 : Int) =>
bnd (x3.tmod 4294967296) fun (x11 : Int) =>
bnd (wu64 (x4.tdiv 4294967296)) fun (x12 : Int) =>
bnd (wu64 (x11 * x12)) fun (x13 : Int) =>
bnd (wu64 (x3.tdiv 4294967296)) fun (x14 : Int) =>
bnd (wu64 (x4.tdiv 4294967296)) fun (x15 : Int) =>
bnd (wu64 (x14 * x15)) fun (x16 : Int) =>
bnd (wu64 (x7.tdiv 4294967296)) fun (x18 : Int) =>
bnd (x10.tmod 4294967296) fun (x19 : Int) =>
bnd (wu64 (x18 + x19)) fun (x20 : Int) =>
bnd (x13.tmod 4294967296) fun (x21 : Int) =>
bnd (wu64 (x20 + x21)) fun (x22 : Int) =>
bnd (wu64 (x10.tdiv 4294967296)) fun (x23 : Int) =>
bnd (wu64 (x16 + x23)) fun (x24 : Int) =>
bnd (wu64 (x13.tdiv 4294967296)) fun (x25 : Int) =>
bnd (wu64 (x24 + x25)) fun (x26 : Int) =>
bnd (wu64 (x22.tdiv 4294967296)) fun (x27 : Int) =>
bnd (wu64 (x26 + x27)) fun (x28 : Int) =>
bnd (wu64 (x3 * x4)) fun (x29 : Int) =>
some ((x28 : Int), (x29 : Int))
theorem d_money_Wide_c {a1 : Int} {a2 : Int} {r : Int × Int} (h0 : d_money_Wide a1 a2 = some r) : PP Tryz.prog 154 [int a1, int a2] (fun y => y = .tup [.sc (.int .u64 r.1), .sc (.int .u64 r.2)]) := by
  unfold d_money_Wide at h0
  refine pp_of_pc (R0 := fun y H => Cv (frzH H) y (.tup [.sc (.int .u64 r.1), .sc (.int .u64 r.2)])) ?_ (fun y H hc => ⟨_, rfl, .tup (pvl2 ((pvK .u64) (r.1)) ((pvK .u64) (r.2))), hc⟩)
  refine pcw (c := _) Tryz.func154 rfl rfl ?_; intro Q hret hnorm
  refine tc tbk 8 (.mk ?_)
  refine ni tbk h0 fun x3 h0 => ?_
  refine tr tbk 1 (.mk ?_)
  refine ni tbk h0 fun x4 h0 => ?_
  refine tr tbk 6 (.mk ?_)
  refine ni tbk h0 fun x5 h0 => ?_
  refine tr tbk 1 (.mk ?_)
  refine ni tbk h0 fun x6 h0 => ?_
  refine ni tbk h0 fun x7 h0 => ?_
  refine tr tbk 1 (.mk ?_)
  refine ni tbk h0 fun x8 h0 => ?_
  refine tr tbk 1 (.mk ?_)
  refine ni tbk h0 fun x9 h0 => ?_
  refine ni tbk h0 fun x10 h0 => ?_
  refine tr tbk 1 (.mk ?_)
  refine ni tbk h0 fun x11 h0 => ?_
  refine tr tbk 1 (.mk ?_)
  refine ni tbk h0 fun x12 h0 => ?_
  refine ni tbk h0 fun x13 h0 => ?_
  refine tr tbk 1 (.mk ?_)
  refine ni tbk h0 fun x14 h0 => ?_
  refine tr tbk 1 (.mk ?_)
  refine ni tbk h0 fun x15 h0 => ?_
  refine ni tbk h0 fun x16 h0 => ?_
  refine rst rfl rfl rfl (yv_buildA (cs := [.sc (.int .u64 x7), .sc (.int .u64 x10), .sc (.int .u64 x13), .sc (.int .u64 x16)]) (ps := [(0, _), (1, _), (2, _), (3, _)]) rfl Tryz.underlying203 sh166 z203 rfl (.cons rfl (.cons rfl (.cons rfl (.cons rfl .nil)))) (by kernel_rfl)) ?_
  refine rse rfl rfl rfl (yl_alloc 1 .any rfl z203 rfl) ?_; rintro _ _ ⟨v17, -, rfl, rfl⟩
  refine rsstore rfl rfl (yl_ob (ob' := (⟨203, 4, true, true, v17, [[.sc (.int .u64 x7), .sc (.int .u64 x10), .sc (.int .u64 x13), .sc (.int .u64 x16)]]⟩ : AObj)) (yl_store rfl sh203 rfl rfl rfl rfl rfl rfl rfl rfl rfl) rfl) ?_
  refine tr tbk 3 (.mk ?_)
  refine rst rfl rfl rfl (yv_indexAddrA rfl Tryz.underlying203 sh166 rfl rfl rfl rfl rfl (by decide)) ?_
  refine tr tbk 1 (.mk ?_)
  refine ni tbk h0 fun x18 h0 => ?_
  refine rst rfl rfl rfl (yv_indexAddrA rfl Tryz.underlying203 sh166 rfl rfl rfl rfl rfl (by decide)) ?_
  refine tr tbk 1 (.mk ?_)
  refine ni tbk h0 fun x19 h0 => ?_
  refine ni tbk h0 fun x20 h0 => ?_
  refine rst rfl rfl rfl (yv_indexAddrA rfl Tryz.underlying203 sh166 rfl rfl rfl rfl rfl (by decide)) ?_
  refine tr tbk 1 (.mk ?_)
  refine ni tbk h0 fun x21 h0 => ?_
  refine ni tbk h0 fun x22 h0 => ?_
  refine tr tbk 4 (.mk ?_)
  refine rst rfl rfl rfl (yv_indexAddrA rfl Tryz.underlying203 sh166 rfl rfl rfl rfl rfl (by decide)) ?_
  refine tr tbk 1 (.mk ?_)
  refine rst rfl rfl rfl (yv_indexAddrA rfl Tryz.underlying203 sh166 rfl rfl rfl rfl rfl (by decide)) ?_
  refine tr tbk 1 (.mk ?_)
  refine ni tbk h0 fun x23 h0 => ?_
  refine ni tbk h0 fun x24 h0 => ?_
  refine rst rfl rfl rfl (yv_indexAddrA rfl Tryz.underlying203 sh166 rfl rfl rfl rfl rfl (by decide)) ?_
  refine tr tbk 1 (.mk ?_)
  refine ni tbk h0 fun x25 h0 => ?_
  refine ni tbk h0 fun x26 h0 => ?_
  refine tr tbk 1 (.mk ?_)
  refine ni tbk h0 fun x27 h0 => ?_
  refine ni tbk h0 fun x28 h0 => ?_
  refine tr tbk 2 (.mk ?_)
  refine ni tbk h0 fun x29 h0 => ?_
  refine tr tbk 3 (.mk ?_)
  obtain rfl := nxt_e h0
  refine w_ret (hret _ _ _ (.tmp rfl (.tmp rfl .nil)) (fun _ _ h => h) ?_)
  exact .refl _
def d_math_bits_Len64 (a1 : Int) : Option (Int) :=
bnd (decide (a1 ≥ 4294967296)) fun (x2 : Bool) =>
(show Option (Int × Int) from
cond x2 (bnd (a1.fdiv (2 ^ (min (32 : Int).toNat IntKind.u64.bits))) fun (x4 : Int) =>
some ((x4 : Int), (32 : Int))) (some ((a1 : Int), (0 : Int)))).bind <| p2 fun (y0_1 : Int) (y0_2 : Int) =>
bnd (decide (y0_1 ≥ 65536)) fun (x5 : Bool) =>
(show Option (Int × Int) from
cond x5 (bnd (y0_1.fdiv (2 ^ (min (16 : Int).toNat IntKind.u64.bits))) fun (x7 : Int) =>
bnd (w64 (y0_2 + 16)) fun (x8 : Int) =>
some ((x7 : Int), (x8 : Int))) (some ((y0_1 : Int), (y0_2 : Int)))).bind <| p2 fun (y1_1 : Int) (y1_2 : Int) =>
bnd (decide (y1_1 ≥ 256)) fun (x9 : Bool) =>
(show Option (Int × Int) from
cond x9 (bnd (y1_1.fdiv (2 ^ (min (8 : Int).toNat IntKind.u64.bits))) fun (x11 : Int) =>
bnd (w64 (y1_2 + 8)) fun (x12 : Int) =>
some ((x11 : Int), (x12 : Int))) (some ((y1_1 : Int), (y1_2 : Int)))).bind <| p2 fun (y2_1 : Int) (y2_2 : Int) =>
bnd (wu8 y2_1) fun (x13 : Int) =>
(ix ([0, 1, 2, 2, 3, 3, 3, 3, 4, 4, 4, 4, 4, 4, 4, 4, 5, 5, 5, 5, 5, 5, 5, 5, 5, 5, 5, 5, 5, 5, 5, 5, 6, 6, 6, 6, 6, 6, 6, 6, 6, 6, 6, 6, 6, 6, 6, 6, 6, 6, 6, 6, 6, 6, 6, 6, 6, 6, 6, 6, 6, 6, 6, 6, 7, 7, 7, 7, 7, 7, 7, 7, 7, 7, 7, 7, 7, 7, 7, 7, 7, 7, 7, 7, 7, 7, 7, 7, 7, 7, 7, 7, 7, 7, 7, 7, 7, 7, 7, 7, 7, 7, 7, 7, 7, 7, 7, 7, 7, 7, 7, 7, 7, 7, 7, 7, 7, 7, 7, 7, 7, 7, 7, 7, 7, 7, 7, 7, 8, 8, 8, 8, 8, 8, 8, 8, 8, 8, 8, 8, 8, 8, 8, 8, 8, 8, 8, 8, 8, 8, 8, 8, 8, 8, 8, 8, 8, 8, 8, 8, 8, 8, 8, 8, 8, 8, 8, 8, 8, 8, 8, 8, 8, 8, 8, 8, 8, 8, 8, 8, 8, 8, 8, 8, 8, 8, 8, 8, 8, 8, 8, 8, 8, 8, 8, 8, 8, 8, 8, 8, 8, 8, 8, 8, 8, 8, 8, 8, 8, 8, 8, 8, 8, 8, 8, 8, 8, 8, 8, 8, 8, 8, 8, 8, 8, 8, 8, 8, 8, 8, 8, 8, 8, 8, 8, 8, 8, 8, 8, 8, 8, 8, 8, 8, 8, 8, 8, 8, 8, 8, 8, 8, 8, 8, 8, 8] : List UInt8) x13).bind fun (x14 : UInt8) =>
bnd (w64 (x14.toNat : Int)) fun (x15 : Int) =>
bnd (w64 (y2_2 + x15)) fun (x16 : Int) =>
some ((x16 : Int))
theorem d_math_bits_Len64_c {a1 : Int} {r : Int} (h0 : d_math_bits_Len64 a1 = some r) : PP Tryz.prog 166 [.sc (.int .u64 a1)] (fun y => y = int r) := by
  unfold d_math_bits_Len64 at h0
  refine pp_of_pc (R0 := fun y H => Cv (frzH H) y (int r)) ?_ (fun y H hc => ⟨_, rfl, pvI r, hc⟩)
  refine pcw (c := _) Tryz.func166 rfl rfl ?_; intro Q hret hnorm
  refine tc tbk 8 (.mk ?_)
  refine nb tbk h0 fun x2 h0 => ?_
  refine tr tbk 1 (.mk ?_)
  refine jn h0 [] [] (fun (a : Int × Int) (k : Unit) => [(0, .sc (.int .u64 a.1)), (2, int a.2)]) (fun a k => []) ⟨fun j3 h1 => ?_, ?_⟩
  cases x2
  replace h1 := cf h1
  refine tc tbk 2 (.mk ?_)
  exact lf h1 () leA
  replace h1 := ct h1
  refine tc tbk 4 (.mk ?_)
  refine ni tbk h1 fun x4 h1 => ?_
  refine tr tbk 5 (.mk ?_)
  exact lf h1 () leA
  rintro ⟨y0_1, y0_2⟩ _ h0
  replace h0 := p2_e h0
  refine tc tbk 4 (.mk ?_)
  refine nb tbk h0 fun x5 h0 => ?_
  refine tr tbk 1 (.mk ?_)
  refine jn h0 [] [] (fun (a : Int × Int) (k : Unit) => [(0, .sc (.int .u64 a.1)), (2, int a.2)]) (fun a k => []) ⟨fun j6 h1 => ?_, ?_⟩
  cases x5
  replace h1 := cf h1
  refine tc tbk 2 (.mk ?_)
  exact lf h1 () leA
  replace h1 := ct h1
  refine tc tbk 4 (.mk ?_)
  refine ni tbk h1 fun x7 h1 => ?_
  refine tr tbk 4 (.mk ?_)
  refine ni tbk h1 fun x8 h1 => ?_
  refine tr tbk 2 (.mk ?_)
  exact lf h1 () leA
  rintro ⟨y1_1, y1_2⟩ _ h0
  replace h0 := p2_e h0
  refine tc tbk 4 (.mk ?_)
  refine nb tbk h0 fun x9 h0 => ?_
  refine tr tbk 1 (.mk ?_)
  refine jn h0 [] [] (fun (a : Int × Int) (k : Unit) => [(0, .sc (.int .u64 a.1)), (2, int a.2)]) (fun a k => []) ⟨fun j10 h1 => ?_, ?_⟩
  cases x9
  replace h1 := cf h1
  refine tc tbk 2 (.mk ?_)
  exact lf h1 () leA
  replace h1 := ct h1
  refine tc tbk 4 (.mk ?_)
  refine ni tbk h1 fun x11 h1 => ?_
  refine tr tbk 4 (.mk ?_)
  refine ni tbk h1 fun x12 h1 => ?_
  refine tr tbk 2 (.mk ?_)
  exact lf h1 () leA
  rintro ⟨y2_1, y2_2⟩ _ h0
  replace h0 := p2_e h0
  refine tc tbk 4 (.mk ?_)
  refine ni tbk h0 fun x13 h0 => ?_
  obtain ⟨x14, e14, h0⟩ := bind_e h0
  refine rst rfl rfl rfl (yv_index_str rfl Tryz.underlying9 rfl rfl (ix_e e14).1 (ix_e e14).2) ?_
  refine ni tbk h0 fun x15 h0 => ?_
  refine ni tbk h0 fun x16 h0 => ?_
  refine tr tbk 2 (.mk ?_)
  obtain rfl := nxt_e h0
  refine w_ret (hret _ _ _ (.tmp rfl .nil) (fun _ _ h => h) ?_)
  exact .refl _
def d_math_bits_LeadingZeros64 (a1 : Int) : Option (Int) :=
(d_math_bits_Len64 a1).bind fun (x2 : Int) =>
bnd (w64 (64 - x2)) fun (x3 : Int) =>
some ((x3 : Int))
theorem d_math_bits_LeadingZeros64_c {a1 : Int} {r : Int} (h0 : d_math_bits_LeadingZeros64 a1 = some r) : PP Tryz.prog 162 [.sc (.int .u64 a1)] (fun y => y = int r) := by
  unfold d_math_bits_LeadingZeros64 at h0
  refine pp_of_pc (R0 := fun y H => Cv (frzH H) y (int r)) ?_ (fun y H hc => ⟨_, rfl, pvI r, hc⟩)
  refine pcw (c := _) Tryz.func162 rfl rfl ?_; intro Q hret hnorm
  refine tc tbk 7 (.mk ?_)
  obtain ⟨x2, e2, h0⟩ := bind_e h0
  refine rst rfl rfl rfl (yv_callP rfl rfl (.cons rfl .nil) cal166 (CvL.refl _) (d_math_bits_Len64_c e2)) ?_
  refine ni tbk h0 fun x3 h0 => ?_
  refine tr tbk 2 (.mk ?_)
  obtain rfl := nxt_e h0
  refine w_ret (hret _ _ _ (.tmp rfl .nil) (fun _ _ h => h) ?_)
  exact .refl _
def d_math_bits_Div64_L0 (x11 : Int) (x12 : Int) (x21 : Int) : Nat → Int → Int → Option (Int)
  | 0, _, _ => none
  | n + 1, y0_1, y0_2 =>
    (show Option (Bool) from
    bnd (decide (y0_1 ≥ 4294967296)) fun (x29 : Bool) =>
    cond x29 (some (true : Bool)) (bnd (wu64 (y0_1 * x12)) fun (x30 : Int) =>
    bnd (wu64 (4294967296 * y0_2)) fun (x31 : Int) =>
    bnd (wu64 (x31 + x21)) fun (x32 : Int) =>
    bnd (decide (x30 > x32)) fun (x33 : Bool) =>
    some (x33 : Bool))).bind <| fun (y1_1 : Bool) =>
    cond y1_1 (bnd (wu64 (y0_1 - 1)) fun (x34 : Int) =>
    bnd (wu64 (y0_2 + x11)) fun (x35 : Int) =>
    bnd (decide (x35 ≥ 4294967296)) fun (x36 : Bool) =>
    cond x36 (some (x34 : Int)) (d_math_bits_Div64_L0 x11 x12 x21 n (x34 : Int) (x35 : Int))) (some (y0_1 : Int))
def d_math_bits_Div64_L1 (x11 : Int) (x12 : Int) (x22 : Int) : Nat → Int → Int → Option (Int)
  | 0, _, _ => none
  | n + 1, y3_1, y3_2 =>
    (show Option (Bool) from
    bnd (decide (y3_2 ≥ 4294967296)) fun (x47 : Bool) =>
    cond x47 (some (true : Bool)) (bnd (wu64 (y3_2 * x12)) fun (x48 : Int) =>
    bnd (wu64 (4294967296 * y3_1)) fun (x49 : Int) =>
    bnd (wu64 (x49 + x22)) fun (x50 : Int) =>
    bnd (decide (x48 > x50)) fun (x51 : Bool) =>
    some (x51 : Bool))).bind <| fun (y4_1 : Bool) =>
    cond y4_1 (bnd (wu64 (y3_2 - 1)) fun (x52 : Int) =>
    bnd (wu64 (y3_1 + x11)) fun (x53 : Int) =>
    bnd (decide (x53 ≥ 4294967296)) fun (x54 : Bool) =>
    cond x54 (some (x52 : Int)) (d_math_bits_Div64_L1 x11 x12 x22 n (x53 : Int) (x52 : Int))) (some (y3_2 : Int))
def d_math_bits_Div64 (n : Nat) (a1 : Int) (a2 : Int) (a3 : Int) : Option (Int × Int) :=
bnd (decide (a3 = 0)) fun (x4 : Bool) =>
cond x4 (none) (bnd (decide (a3 ≤ a1)) fun (x5 : Bool) =>
cond x5 (none) (bnd (decide (a1 = 0)) fun (x6 : Bool) =>
cond x6 (asrt (a3 ≠ 0) <|
bnd (wu64 (a2.tdiv a3)) fun (x64 : Int) =>
asrt (a3 ≠ 0) <|
bnd (a2.tmod a3) fun (x66 : Int) =>
some ((x64 : Int), (x66 : Int))) ((d_math_bits_LeadingZeros64 a3).bind fun (x7 : Int) =>
bnd (wu64 x7) fun (x8 : Int) =>
asrt (0 ≤ x8) <|
bnd (wu64 (a3 * (2 ^ (min x8.toNat IntKind.u64.bits)))) fun (x10 : Int) =>
bnd (x10.fdiv (2 ^ (min (32 : Int).toNat IntKind.u64.bits))) fun (x11 : Int) =>
bnd (wu64 ((BitVec.ofInt IntKind.u64.bits x10 &&& BitVec.ofInt IntKind.u64.bits 4294967295).toNat : Int)) fun (x12 : Int) =>
asrt (0 ≤ x8) <|
bnd (wu64 (a1 * (2 ^ (min x8.toNat IntKind.u64.bits)))) fun (x14 : Int) =>
bnd (wu64 (64 - x8)) fun (x15 : Int) =>
asrt (0 ≤ x15) <|
bnd (a2.fdiv (2 ^ (min x15.toNat IntKind.u64.bits))) fun (x17 : Int) =>
bnd (wu64 ((BitVec.ofInt IntKind.u64.bits x14 ||| BitVec.ofInt IntKind.u64.bits x17).toNat : Int)) fun (x18 : Int) =>
asrt (0 ≤ x8) <|
bnd (wu64 (a2 * (2 ^ (min x8.toNat IntKind.u64.bits)))) fun (x20 : Int) =>
bnd (x20.fdiv (2 ^ (min (32 : Int).toNat IntKind.u64.bits))) fun (x21 : Int) =>
bnd (wu64 ((BitVec.ofInt IntKind.u64.bits x20 &&& BitVec.ofInt IntKind.u64.bits 4294967295).toNat : Int)) fun (x22 : Int) =>
asrt (x11 ≠ 0) <|
bnd (wu64 (x18.tdiv x11)) fun (x24 : Int) =>
bnd (wu64 (x24 * x11)) fun (x25 : Int) =>
bnd (wu64 (x18 - x25)) fun (x26 : Int) =>
(show Option (Int) from
d_math_bits_Div64_L0 x11 x12 x21 n (x24 : Int) (x26 : Int)).bind <| fun (y2_1 : Int) =>
bnd (wu64 (x18 * 4294967296)) fun (x37 : Int) =>
bnd (wu64 (x37 + x21)) fun (x38 : Int) =>
bnd (wu64 (y2_1 * x10)) fun (x39 : Int) =>
bnd (wu64 (x38 - x39)) fun (x40 : Int) =>
asrt (x11 ≠ 0) <|
bnd (wu64 (x40.tdiv x11)) fun (x42 : Int) =>
bnd (wu64 (x42 * x11)) fun (x43 : Int) =>
bnd (wu64 (x40 - x43)) fun (x44 : Int) =>
(show Option (Int) from
d_math_bits_Div64_L1 x11 x12 x22 n (x44 : Int) (x42 : Int)).bind <| fun (y5_1 : Int) =>
bnd (wu64 (y2_1 * 4294967296)) fun (x55 : Int) =>
bnd (wu64 (x55 + y5_1)) fun (x56 : Int) =>
bnd (wu64 (x40 * 4294967296)) fun (x57 : Int) =>
bnd (wu64 (x57 + x22)) fun (x58 : Int) =>
bnd (wu64 (y5_1 * x10)) fun (x59 : Int) =>
bnd (wu64 (x58 - x59)) fun (x60 : Int) =>
asrt (0 ≤ x8) <|
bnd (x60.fdiv (2 ^ (min x8.toNat IntKind.u64.bits))) fun (x62 : Int) =>
some ((x56 : Int), (x62 : Int)))))
theorem d_math_bits_Div64_c {n : Nat} {a1 : Int} {a2 : Int} {a3 : Int} {r : Int × Int} (h0 : d_math_bits_Div64 n a1 a2 a3 = some r) : PP Tryz.prog 155 [.sc (.int .u64 a1), .sc (.int .u64 a2), .sc (.int .u64 a3)] (fun y => y = .tup [.sc (.int .u64 r.1), .sc (.int .u64 r.2)]) := by
  unfold d_math_bits_Div64 at h0
  refine pp_of_pc (R0 := fun y H => Cv (frzH H) y (.tup [.sc (.int .u64 r.1), .sc (.int .u64 r.2)])) ?_ (fun y H hc => ⟨_, rfl, .tup (pvl2 ((pvK .u64) (r.1)) ((pvK .u64) (r.2))), hc⟩)
  refine pcw (c := _) Tryz.func155 rfl rfl ?_; intro Q hret hnorm
  refine tc tbk 9 (.mk ?_)
  refine nb tbk h0 fun x4 h0 => ?_
  refine tr tbk 1 (.mk ?_)
  cases x4
  replace h0 := cf h0
  refine tc tbk 7 (.mk ?_)
  refine nb tbk h0 fun x5 h0 => ?_
  refine tr tbk 1 (.mk ?_)
  cases x5
  replace h0 := cf h0
  refine tc tbk 6 (.mk ?_)
  refine nb tbk h0 fun x6 h0 => ?_
  refine tr tbk 1 (.mk ?_)
  cases x6
  replace h0 := cf h0
  refine tc tbk 5 (.mk ?_)
  obtain ⟨x7, e7, h0⟩ := bind_e h0
  refine rst rfl rfl rfl (yv_callP rfl rfl (.cons rfl .nil) cal162 (CvL.refl _) (d_math_bits_LeadingZeros64_c e7)) ?_
  refine ni tbk h0 fun x8 h0 => ?_
  refine tr tbk 6 (.mk ?_)
  obtain ⟨p9, h0⟩ := asrt_e h0
  obtain ⟨x10, e10, h0⟩ := bnd_e h0
  refine rst rfl rfl rfl (yv_shl rfl rfl rfl p9 e10) ?_
  refine tr tbk 5 (.mk ?_)
  refine ni tbk h0 fun x11 h0 => ?_
  refine tr tbk 5 (.mk ?_)
  obtain ⟨x12, e12, h0⟩ := bnd_e h0
  refine rst rfl rfl rfl (yv_and rfl rfl rfl e12) ?_
  refine tr tbk 6 (.mk ?_)
  obtain ⟨p13, h0⟩ := asrt_e h0
  obtain ⟨x14, e14, h0⟩ := bnd_e h0
  refine rst rfl rfl rfl (yv_shl rfl rfl rfl p13 e14) ?_
  refine tr tbk 2 (.mk ?_)
  refine ni tbk h0 fun x15 h0 => ?_
  obtain ⟨p16, h0⟩ := asrt_e h0
  obtain ⟨x17, e17, h0⟩ := bnd_e h0
  refine rst rfl rfl rfl (yv_shr rfl rfl rfl p16 e17) ?_
  obtain ⟨x18, e18, h0⟩ := bnd_e h0
  refine rst rfl rfl rfl (yv_or rfl rfl rfl e18) ?_
  refine tr tbk 6 (.mk ?_)
  obtain ⟨p19, h0⟩ := asrt_e h0
  obtain ⟨x20, e20, h0⟩ := bnd_e h0
  refine rst rfl rfl rfl (yv_shl rfl rfl rfl p19 e20) ?_
  refine tr tbk 5 (.mk ?_)
  refine ni tbk h0 fun x21 h0 => ?_
  refine tr tbk 5 (.mk ?_)
  obtain ⟨x22, e22, h0⟩ := bnd_e h0
  refine rst rfl rfl rfl (yv_and rfl rfl rfl e22) ?_
  refine tr tbk 6 (.mk ?_)
  obtain ⟨p23, h0⟩ := asrt_e h0
  obtain ⟨x24, e24, h0⟩ := bnd_e h0
  refine rst rfl rfl rfl (yv_quo rfl rfl rfl p23 e24) ?_
  refine tr tbk 7 (.mk ?_)
  refine ni tbk h0 fun x25 h0 => ?_
  refine ni tbk h0 fun x26 h0 => ?_
  refine tr tbk 3 (.mk ?_)
  refine jn h0 [2, 6, 7, 8, 9, 10, 11, 13, 14] [] (fun (a : Int) (k : Unit) => [(15, .sc (.int .u64 a))]) (fun a k => []) ⟨fun j27 h1 => ?_, ?_⟩
  refine tc tbk 1 (.mk ?_)
  refine lp (fun n (a : Int × Int) => d_math_bits_Div64_L0 x11 x12 x21 n a.1 a.2) ((x24 : Int), (x26 : Int)) () h1 [2, 6, 7, 8, 9, 10, 11, 13, 14] [] (fun (a : Int × Int) (k : Unit) => [(15, .sc (.int .u64 a.1)), (16, .sc (.int .u64 a.2))]) (fun a k => []) (fun _ => rfl) ⟨leA, ?_⟩
  rintro n ⟨y0_1, y0_2⟩ _ hm h1
  replace h1 : d_math_bits_Div64_L0 x11 x12 x21 (n + 1) y0_1 y0_2 = some _ := h1
  rw [d_math_bits_Div64_L0] at h1
  refine tc tbk 2 (.mk ?_)
  refine jn h1 [2, 6, 7, 8, 9, 10, 11, 13, 14, 15, 16] [] (fun (a : Bool) (k : Unit) => [(78, boo a)]) (fun a k => []) ⟨fun j28 h2 => ?_, ?_⟩
  refine tc tbk 2 (.mk ?_)
  refine nb tbk h2 fun x29 h2 => ?_
  refine tr tbk 1 (.mk ?_)
  cases x29
  replace h2 := cf h2
  refine tr tbk 2 (.mk ?_)
  refine ni tbk h2 fun x30 h2 => ?_
  refine tr tbk 1 (.mk ?_)
  refine ni tbk h2 fun x31 h2 => ?_
  refine tr tbk 1 (.mk ?_)
  refine ni tbk h2 fun x32 h2 => ?_
  refine nb tbk h2 fun x33 h2 => ?_
  refine tr tbk 2 (.mk ?_)
  exact lf h2 () leA
  replace h2 := ct h2
  refine tr tbk 10 (.mk ?_)
  exact lf h2 () leA
  rintro y1_1 _ h1
  cases y1_1
  replace h1 := cf h1
  refine tc tbk 2 (.mk ?_)
  exact lf h1 () leA
  replace h1 := ct h1
  refine tc tbk 6 (.mk ?_)
  refine ni tbk h1 fun x34 h1 => ?_
  refine tr tbk 6 (.mk ?_)
  refine ni tbk h1 fun x35 h1 => ?_
  refine tr tbk 5 (.mk ?_)
  refine nb tbk h1 fun x36 h1 => ?_
  refine tr tbk 1 (.mk ?_)
  cases x36
  replace h1 := cf h1
  refine tc tbk 3 (.mk ?_)
  exact bk (x34, x35) () h1 leA
  replace h1 := ct h1
  refine tc tbk 2 (.mk ?_)
  exact lf h1 () leA
  rintro y2_1 _ h0
  refine tc tbk 3 (.mk ?_)
  refine ni tbk h0 fun x37 h0 => ?_
  refine tr tbk 1 (.mk ?_)
  refine ni tbk h0 fun x38 h0 => ?_
  refine tr tbk 2 (.mk ?_)
  refine ni tbk h0 fun x39 h0 => ?_
  refine ni tbk h0 fun x40 h0 => ?_
  refine tr tbk 6 (.mk ?_)
  obtain ⟨p41, h0⟩ := asrt_e h0
  obtain ⟨x42, e42, h0⟩ := bnd_e h0
  refine rst rfl rfl rfl (yv_quo rfl rfl rfl p41 e42) ?_
  refine tr tbk 7 (.mk ?_)
  refine ni tbk h0 fun x43 h0 => ?_
  refine ni tbk h0 fun x44 h0 => ?_
  refine tr tbk 3 (.mk ?_)
  refine jn h0 [2, 6, 7, 8, 14, 15, 17] [] (fun (a : Int) (k : Unit) => [(18, .sc (.int .u64 a))]) (fun a k => []) ⟨fun j45 h1 => ?_, ?_⟩
  refine tc tbk 1 (.mk ?_)
  refine lp (fun n (a : Int × Int) => d_math_bits_Div64_L1 x11 x12 x22 n a.1 a.2) ((x44 : Int), (x42 : Int)) () h1 [2, 6, 7, 8, 9, 10, 14, 15, 17] [] (fun (a : Int × Int) (k : Unit) => [(16, .sc (.int .u64 a.1)), (18, .sc (.int .u64 a.2))]) (fun a k => []) (fun _ => rfl) ⟨leA, ?_⟩
  rintro n ⟨y3_1, y3_2⟩ _ hm h1
  replace h1 : d_math_bits_Div64_L1 x11 x12 x22 (n + 1) y3_1 y3_2 = some _ := h1
  rw [d_math_bits_Div64_L1] at h1
  refine tc tbk 2 (.mk ?_)
  refine jn h1 [2, 6, 7, 8, 9, 10, 14, 15, 16, 17, 18] [] (fun (a : Bool) (k : Unit) => [(113, boo a)]) (fun a k => []) ⟨fun j46 h2 => ?_, ?_⟩
  refine tc tbk 2 (.mk ?_)
  refine nb tbk h2 fun x47 h2 => ?_
  refine tr tbk 1 (.mk ?_)
  cases x47
  replace h2 := cf h2
  refine tr tbk 2 (.mk ?_)
  refine ni tbk h2 fun x48 h2 => ?_
  refine tr tbk 1 (.mk ?_)
  refine ni tbk h2 fun x49 h2 => ?_
  refine tr tbk 1 (.mk ?_)
  refine ni tbk h2 fun x50 h2 => ?_
  refine nb tbk h2 fun x51 h2 => ?_
  refine tr tbk 2 (.mk ?_)
  exact lf h2 () leA
  replace h2 := ct h2
  refine tr tbk 10 (.mk ?_)
  exact lf h2 () leA
  rintro y4_1 _ h1
  cases y4_1
  replace h1 := cf h1
  refine tc tbk 2 (.mk ?_)
  exact lf h1 () leA
  replace h1 := ct h1
  refine tc tbk 6 (.mk ?_)
  refine ni tbk h1 fun x52 h1 => ?_
  refine tr tbk 6 (.mk ?_)
  refine ni tbk h1 fun x53 h1 => ?_
  refine tr tbk 5 (.mk ?_)
  refine nb tbk h1 fun x54 h1 => ?_
  refine tr tbk 1 (.mk ?_)
  cases x54
  replace h1 := cf h1
  refine tc tbk 3 (.mk ?_)
  exact bk (x53, x52) () h1 leA
  replace h1 := ct h1
  refine tc tbk 2 (.mk ?_)
  exact lf h1 () leA
  rintro y5_1 _ h0
  refine tc tbk 3 (.mk ?_)
  refine ni tbk h0 fun x55 h0 => ?_
  refine tr tbk 1 (.mk ?_)
  refine ni tbk h0 fun x56 h0 => ?_
  refine tr tbk 1 (.mk ?_)
  refine ni tbk h0 fun x57 h0 => ?_
  refine tr tbk 1 (.mk ?_)
  refine ni tbk h0 fun x58 h0 => ?_
  refine tr tbk 2 (.mk ?_)
  refine ni tbk h0 fun x59 h0 => ?_
  refine ni tbk h0 fun x60 h0 => ?_
  refine tr tbk 1 (.mk ?_)
  obtain ⟨p61, h0⟩ := asrt_e h0
  obtain ⟨x62, e62, h0⟩ := bnd_e h0
  refine rst rfl rfl rfl (yv_shr rfl rfl rfl p61 e62) ?_
  refine tr tbk 3 (.mk ?_)
  obtain rfl := nxt_e h0
  refine w_ret (hret _ _ _ (.tmp rfl (.tmp rfl .nil)) (fun _ _ h => h) ?_)
  exact .refl _
  replace h0 := ct h0
  refine tc tbk 2 (.mk ?_)
  refine c_drawE [0, 0, 3, 0, 0, 24, 7, 127] (fun i => []) (fun i => []) (fun i => true) [0, 1, 2, 3, 4, 5, 6, 7] mixed (by kernel_rfl) ?_; intro K hK
  refine de_pure rfl rfl rfl rfl (fun H hH => yv_move rfl rfl) ?_
  refine de_pure rfl rfl rfl rfl (fun H hH => yv_move rfl rfl) ?_
  obtain ⟨p63, h0⟩ := asrt_e h0
  obtain ⟨x64, e64, h0⟩ := bnd_e h0
  refine de_pure rfl rfl rfl rfl (fun H hH => yv_quo rfl rfl rfl p63 e64) ?_
  refine de_pure rfl rfl rfl rfl (fun H hH => yv_move rfl rfl) ?_
  refine de_pure rfl rfl rfl rfl (fun H hH => yv_move rfl rfl) ?_
  obtain ⟨p65, h0⟩ := asrt_e h0
  obtain ⟨x66, e66, h0⟩ := bnd_e h0
  refine de_pure rfl rfl rfl rfl (fun H hH => yv_rem rfl rfl rfl p65 e66) ?_
  refine de_pure rfl rfl rfl rfl (fun H hH => yv_assign rfl rfl) ?_
  refine de_pure rfl rfl rfl rfl (fun H hH => yv_assign rfl rfl) ?_
  refine de_nil (hK _ ?_)
  obtain rfl := nxt_e h0
  refine w_ret (hret _ _ _ (.tmp rfl (.tmp rfl .nil)) (fun _ _ h => h) ?_)
  exact .refl _
  replace h0 := ct h0
  refine tc tbk 1 (.mk ?_)
  cases h0
  replace h0 := ct h0
  refine tc tbk 1 (.mk ?_)
  cases h0
def d_money_MulDiv (n : Nat) (a1 : Int) (a2 : Int) (a3 : Int) : Option (Int × Int × Int) :=
(show Option (Bool) from
bnd (decide (a1 < 0)) fun (x5 : Bool) =>
cond x5 (some (true : Bool)) (bnd (decide (a2 < 0)) fun (x6 : Bool) =>
cond x6 (some (true : Bool)) (bnd (decide (a3 < 1)) fun (x7 : Bool) =>
some (x7 : Bool)))).bind <| fun (y0_1 : Bool) =>
cond y0_1 (some ((0 : Int), (0 : Int), (1 : Int))) ((d_money_Wide a1 a2).bind fun (x8 : Int × Int) =>
bnd (wu64 a3) fun (x9 : Int) =>
bnd (decide (x8.1 ≥ x9)) fun (x10 : Bool) =>
cond x10 (some ((0 : Int), (0 : Int), (2 : Int))) (bnd (wu64 a3) fun (x11 : Int) =>
(d_math_bits_Div64 n x8.1 x8.2 x11).bind fun (x12 : Int × Int) =>
bnd (decide (x12.1 > 288230376151711744)) fun (x13 : Bool) =>
cond x13 (some ((0 : Int), (0 : Int), (2 : Int))) (bnd (w64 x12.1) fun (x14 : Int) =>
bnd (w64 x12.2) fun (x15 : Int) =>
some ((x14 : Int), (x15 : Int), (0 : Int)))))
theorem d_money_MulDiv_c {n : Nat} {a1 : Int} {a2 : Int} {a3 : Int} {r : Int × Int × Int} (h0 : d_money_MulDiv n a1 a2 a3 = some r) : PP Tryz.prog 133 [int a1, int a2, int a3] (fun y => y = .tup [int r.1, int r.2.1, int r.2.2]) := by
  unfold d_money_MulDiv at h0
  refine pp_of_pc (R0 := fun y H => Cv (frzH H) y (.tup [int r.1, int r.2.1, int r.2.2])) ?_ (fun y H hc => ⟨_, rfl, .tup (pvl3 (pvI (r.1)) (pvI (r.2.1)) (pvI (r.2.2))), hc⟩)
  refine pcw (c := _) Tryz.func133 rfl rfl ?_; intro Q hret hnorm
  refine tc tbk 8 (.mk ?_)
  refine jn h0 [0, 1, 2, 6, 7, 8] [] (fun (a : Bool) (k : Unit) => [(22, boo a)]) (fun a k => []) ⟨fun j4 h1 => ?_, ?_⟩
  refine tc tbk 2 (.mk ?_)
  refine nb tbk h1 fun x5 h1 => ?_
  refine tr tbk 1 (.mk ?_)
  cases x5
  replace h1 := cf h1
  refine tr tbk 1 (.mk ?_)
  refine nb tbk h1 fun x6 h1 => ?_
  refine tr tbk 2 (.mk ?_)
  cases x6
  replace h1 := cf h1
  refine tr tbk 1 (.mk ?_)
  refine nb tbk h1 fun x7 h1 => ?_
  refine tr tbk 2 (.mk ?_)
  exact lf h1 () leA
  replace h1 := ct h1
  refine tr tbk 4 (.mk ?_)
  exact lf h1 () leA
  replace h1 := ct h1
  refine tr tbk 8 (.mk ?_)
  exact lf h1 () leA
  rintro y0_1 _ h0
  cases y0_1
  replace h0 := cf h0
  refine tc tbk 6 (.mk ?_)
  obtain ⟨x8, e8, h0⟩ := bind_e h0
  refine rst rfl rfl rfl (yv_callP rfl rfl (.cons rfl (.cons rfl .nil)) cal154 (CvL.refl _) (d_money_Wide_c e8)) ?_
  refine tr tbk 11 (.mk ?_)
  refine ni tbk h0 fun x9 h0 => ?_
  refine nb tbk h0 fun x10 h0 => ?_
  refine tr tbk 1 (.mk ?_)
  cases x10
  replace h0 := cf h0
  refine tc tbk 7 (.mk ?_)
  refine ni tbk h0 fun x11 h0 => ?_
  obtain ⟨x12, e12, h0⟩ := bind_e h0
  refine rst rfl rfl rfl (yv_callP rfl rfl (.cons rfl (.cons rfl (.cons rfl .nil))) cal155 (CvL.refl _) (d_math_bits_Div64_c e12)) ?_
  refine tr tbk 10 (.mk ?_)
  refine nb tbk h0 fun x13 h0 => ?_
  refine tr tbk 1 (.mk ?_)
  cases x13
  replace h0 := cf h0
  refine tc tbk 5 (.mk ?_)
  refine ni tbk h0 fun x14 h0 => ?_
  refine tr tbk 1 (.mk ?_)
  refine ni tbk h0 fun x15 h0 => ?_
  refine tr tbk 4 (.mk ?_)
  obtain rfl := nxt_e h0
  refine w_ret (hret _ _ _ (.tmp rfl (.tmp rfl (.tmp rfl .nil))) (fun _ _ h => h) ?_)
  exact .refl _
  replace h0 := ct h0
  refine tc tbk 7 (.mk ?_)
  obtain rfl := nxt_e h0
  refine w_ret (hret _ _ _ (.tmp rfl (.tmp rfl (.tmp rfl .nil))) (fun _ _ h => h) ?_)
  exact .refl _
  replace h0 := ct h0
  refine tc tbk 7 (.mk ?_)
  obtain rfl := nxt_e h0
  refine w_ret (hret _ _ _ (.tmp rfl (.tmp rfl (.tmp rfl .nil))) (fun _ _ h => h) ?_)
  exact .refl _
  replace h0 := ct h0
  refine tc tbk 7 (.mk ?_)
  obtain rfl := nxt_e h0
  refine w_ret (hret _ _ _ (.tmp rfl (.tmp rfl (.tmp rfl .nil))) (fun _ _ h => h) ?_)
  exact .refl _
def d_stdcost_rate_of (n : Nat) (a1 : Int) (a2 : Int) : Option (Int × Int) :=
bnd (if 0 > a2 then 0 else a2) fun (x3 : Int) =>
(d_money_MulDiv n x3 a1 1).bind fun (x4 : Int × Int × Int) =>
some ((x4.1 : Int), (x4.2.2 : Int))
theorem d_stdcost_rate_of_c {n : Nat} {a1 : Int} {a2 : Int} {r : Int × Int} (h0 : d_stdcost_rate_of n a1 a2 = some r) : PP Tryz.prog 208 [int a1, int a2] (fun y => y = .tup [int r.1, int r.2]) := by
  unfold d_stdcost_rate_of at h0
  refine pp_of_pc (R0 := fun y H => Cv (frzH H) y (.tup [int r.1, int r.2])) ?_ (fun y H hc => ⟨_, rfl, .tup (pvl2 (pvI (r.1)) (pvI (r.2))), hc⟩)
  refine pcw (c := _) Tryz.func208 rfl rfl ?_; intro Q hret hnorm
  refine tc tbk 8 (.mk ?_)
  obtain ⟨x3, e3, h0⟩ := bnd_e h0
  refine rst rfl rfl rfl (yv_max rfl rfl rfl e3) ?_
  refine tr tbk 1 (.mk ?_)
  obtain ⟨x4, e4, h0⟩ := bind_e h0
  refine rst rfl rfl rfl (yv_callP rfl rfl (.cons rfl (.cons rfl (.cons rfl .nil))) cal133 (CvL.refl _) (d_money_MulDiv_c e4)) ?_
  refine tr tbk 15 (.mk ?_)
  obtain rfl := nxt_e h0
  refine w_ret (hret _ _ _ (.tmp rfl (.tmp rfl .nil)) (fun _ _ h => h) ?_)
  exact .refl _
def d_fifo_wrong (a1 : GLayer) : Option (Bool) :=
(show Option (Bool) from
bnd (decide (a1.Qty < 1)) fun (x4 : Bool) =>
cond x4 (some (true : Bool)) (bnd (decide (a1.Qty > 288230376151711744)) fun (x5 : Bool) =>
cond x5 (some (true : Bool)) (bnd (decide (a1.Value < 0)) fun (x6 : Bool) =>
cond x6 (some (true : Bool)) (bnd (decide (a1.Value > 288230376151711744)) fun (x7 : Bool) =>
cond x7 (some (true : Bool)) (bnd (decide (a1.Profit < (-288230376151711744))) fun (x8 : Bool) =>
cond x8 (some (true : Bool)) (bnd (decide (a1.Profit > 288230376151711744)) fun (x9 : Bool) =>
some (x9 : Bool))))))).bind <| fun (y0_1 : Bool) =>
some ((y0_1 : Bool))
theorem d_fifo_wrong_c {a1 : GLayer} {r : Bool} (h0 : d_fifo_wrong a1 = some r) : PP Tryz.prog 191 [.agg (GLayer.av a1)] (fun y => y = boo r) := by
  unfold d_fifo_wrong at h0
  refine pp_of_pc (R0 := fun y H => Cv (frzH H) y (boo r)) ?_ (fun y H hc => ⟨_, rfl, pvB r, hc⟩)
  refine pcw (c := _) Tryz.func191 rfl rfl ?_; intro Q hret hnorm
  refine tc tbk 2 (.mk ?_)
  refine rse rfl rfl rfl (yl_box 1 .any rfl rfl rfl) ?_; rintro _ _ ⟨v2, -, rfl, rfl⟩
  refine tr tbk 3 (.mk ?_)
  refine jn h0 [] [] (fun (a : Bool) (k : Unit) => [(2, boo a)]) (fun a k => []) ⟨fun j3 h1 => ?_, ?_⟩
  refine tc tbk 3 (.mk ?_)
  refine nb tbk h1 fun x4 h1 => ?_
  refine tr tbk 1 (.mk ?_)
  cases x4
  replace h1 := cf h1
  refine tr tbk 2 (.mk ?_)
  refine nb tbk h1 fun x5 h1 => ?_
  refine tr tbk 2 (.mk ?_)
  cases x5
  replace h1 := cf h1
  refine tr tbk 2 (.mk ?_)
  refine nb tbk h1 fun x6 h1 => ?_
  refine tr tbk 2 (.mk ?_)
  cases x6
  replace h1 := cf h1
  refine tr tbk 2 (.mk ?_)
  refine nb tbk h1 fun x7 h1 => ?_
  refine tr tbk 2 (.mk ?_)
  cases x7
  replace h1 := cf h1
  refine tr tbk 2 (.mk ?_)
  refine nb tbk h1 fun x8 h1 => ?_
  refine tr tbk 2 (.mk ?_)
  cases x8
  replace h1 := cf h1
  refine tr tbk 2 (.mk ?_)
  refine nb tbk h1 fun x9 h1 => ?_
  refine tr tbk 3 (.mk ?_)
  exact lf h1 () leA
  replace h1 := ct h1
  refine tr tbk 6 (.mk ?_)
  exact lf h1 () leA
  replace h1 := ct h1
  refine tr tbk 11 (.mk ?_)
  exact lf h1 () leA
  replace h1 := ct h1
  refine tr tbk 16 (.mk ?_)
  exact lf h1 () leA
  replace h1 := ct h1
  refine tr tbk 21 (.mk ?_)
  exact lf h1 () leA
  replace h1 := ct h1
  refine tr tbk 26 (.mk ?_)
  exact lf h1 () leA
  rintro y0_1 _ h0
  obtain rfl := nxt_e h0
  refine w_ret (hret _ _ _ (.tmp rfl .nil) (fun _ _ h => h) ?_)
  exact .refl _
def d_money_in (a1 : Int) : Option (Bool) :=
(show Option (Bool) from
bnd (decide (a1 ≥ (-288230376151711744))) fun (x3 : Bool) =>
cond x3 (bnd (decide (a1 ≤ 288230376151711744)) fun (x4 : Bool) =>
some (x4 : Bool)) (some (false : Bool))).bind <| fun (y0_1 : Bool) =>
some ((y0_1 : Bool))
theorem d_money_in_c {a1 : Int} {r : Bool} (h0 : d_money_in a1 = some r) : PP Tryz.prog 129 [int a1] (fun y => y = boo r) := by
  unfold d_money_in at h0
  refine pp_of_pc (R0 := fun y H => Cv (frzH H) y (boo r)) ?_ (fun y H hc => ⟨_, rfl, pvB r, hc⟩)
  refine pcw (c := _) Tryz.func129 rfl rfl ?_; intro Q hret hnorm
  refine tc tbk 5 (.mk ?_)
  refine jn h0 [] [] (fun (a : Bool) (k : Unit) => [(2, boo a)]) (fun a k => []) ⟨fun j2 h1 => ?_, ?_⟩
  refine tc tbk 2 (.mk ?_)
  refine nb tbk h1 fun x3 h1 => ?_
  refine tr tbk 1 (.mk ?_)
  cases x3
  replace h1 := cf h1
  refine tr tbk 5 (.mk ?_)
  exact lf h1 () leA
  replace h1 := ct h1
  refine tr tbk 1 (.mk ?_)
  refine nb tbk h1 fun x4 h1 => ?_
  refine tr tbk 3 (.mk ?_)
  exact lf h1 () leA
  rintro y0_1 _ h0
  obtain rfl := nxt_e h0
  refine w_ret (hret _ _ _ (.tmp rfl .nil) (fun _ _ h => h) ?_)
  exact .refl _
def d_money_Add (a1 : Int) (a2 : Int) : Option (Int × Int) :=
(show Option (Bool) from
(d_money_in a1).bind fun (x4 : Bool) =>
bnd (!x4) fun (x5 : Bool) =>
cond x5 (some (true : Bool)) ((d_money_in a2).bind fun (x6 : Bool) =>
bnd (!x6) fun (x7 : Bool) =>
cond x7 (some (true : Bool)) (bnd (w64 (a1 + a2)) fun (x8 : Int) =>
(d_money_in x8).bind fun (x9 : Bool) =>
bnd (!x9) fun (x10 : Bool) =>
some (x10 : Bool)))).bind <| fun (y0_1 : Bool) =>
cond y0_1 (some ((0 : Int), (2 : Int))) (bnd (w64 (a1 + a2)) fun (x11 : Int) =>
some ((x11 : Int), (0 : Int)))
theorem d_money_Add_c {a1 : Int} {a2 : Int} {r : Int × Int} (h0 : d_money_Add a1 a2 = some r) : PP Tryz.prog 82 [int a1, int a2] (fun y => y = .tup [int r.1, int r.2]) := by
  unfold d_money_Add at h0
  refine pp_of_pc (R0 := fun y H => Cv (frzH H) y (.tup [int r.1, int r.2])) ?_ (fun y H hc => ⟨_, rfl, .tup (pvl2 (pvI (r.1)) (pvI (r.2))), hc⟩)
  refine pcw (c := _) Tryz.func82 rfl rfl ?_; intro Q hret hnorm
  refine tc tbk 7 (.mk ?_)
  refine jn h0 [0, 1, 4, 5] [] (fun (a : Bool) (k : Unit) => [(20, boo a)]) (fun a k => []) ⟨fun j3 h1 => ?_, ?_⟩
  refine tc tbk 2 (.mk ?_)
  obtain ⟨x4, e4, h1⟩ := bind_e h1
  refine rst rfl rfl rfl (yv_callP rfl rfl (.cons rfl .nil) cal129 (CvL.refl _) (d_money_in_c e4)) ?_
  refine nb tbk h1 fun x5 h1 => ?_
  refine tr tbk 1 (.mk ?_)
  cases x5
  replace h1 := cf h1
  refine tr tbk 1 (.mk ?_)
  obtain ⟨x6, e6, h1⟩ := bind_e h1
  refine rst rfl rfl rfl (yv_callP rfl rfl (.cons rfl .nil) cal129 (CvL.refl _) (d_money_in_c e6)) ?_
  refine nb tbk h1 fun x7 h1 => ?_
  refine tr tbk 2 (.mk ?_)
  cases x7
  replace h1 := cf h1
  refine tr tbk 2 (.mk ?_)
  refine ni tbk h1 fun x8 h1 => ?_
  obtain ⟨x9, e9, h1⟩ := bind_e h1
  refine rst rfl rfl rfl (yv_callP rfl rfl (.cons rfl .nil) cal129 (CvL.refl _) (d_money_in_c e9)) ?_
  refine nb tbk h1 fun x10 h1 => ?_
  refine tr tbk 2 (.mk ?_)
  exact lf h1 () leA
  replace h1 := ct h1
  refine tr tbk 7 (.mk ?_)
  exact lf h1 () leA
  replace h1 := ct h1
  refine tr tbk 12 (.mk ?_)
  exact lf h1 () leA
  rintro y0_1 _ h0
  cases y0_1
  replace h0 := cf h0
  refine tc tbk 6 (.mk ?_)
  refine ni tbk h0 fun x11 h0 => ?_
  refine tr tbk 3 (.mk ?_)
  obtain rfl := nxt_e h0
  refine w_ret (hret _ _ _ (.tmp rfl (.tmp rfl .nil)) (fun _ _ h => h) ?_)
  exact .refl _
  replace h0 := ct h0
  refine tc tbk 6 (.mk ?_)
  obtain rfl := nxt_e h0
  refine w_ret (hret _ _ _ (.tmp rfl (.tmp rfl .nil)) (fun _ _ h => h) ?_)
  exact .refl _
def d_money_Sum_L0 (a1 : List Int) : Nat → Int → Int → Option ((Int) ⊕ (Int × Int))
  | 0, _, _ => none
  | n + 1, y0_1, y0_2 =>
    bnd (decide (y0_2 < (a1.length : Int))) fun (x3 : Bool) =>
    cond x3 ((ix a1 y0_2).bind fun (x4 : Int) =>
    (d_money_Add y0_1 x4).bind fun (x5 : Int × Int) =>
    bnd (decide (x5.2 ≠ 0)) fun (x6 : Bool) =>
    cond x6 (esc (some ((0 : Int), (x5.2 : Int)))) (bnd (w64 (y0_2 + 1)) fun (x7 : Int) =>
    d_money_Sum_L0 a1 n (x5.1 : Int) (x7 : Int))) (brk (y0_1 : Int))
def d_money_Sum (n : Nat) (a1 : List Int) : Option (Int × Int) :=
(show Option ((Int) ⊕ (Int × Int)) from
d_money_Sum_L0 a1 n (0 : Int) (0 : Int)).bind <| sel <| fun (y1_1 : Int) =>
some ((y1_1 : Int), (0 : Int))
theorem d_money_Sum_c {n : Nat} {a1 : List Int} {r : Int × Int} (h0 : d_money_Sum n a1 = some r) : PP Tryz.prog 116 [lst 1 fI a1] (fun y => y = .tup [int r.1, int r.2]) := by
  unfold d_money_Sum at h0
  refine pp_of_pc (R0 := fun y H => Cv (frzH H) y (.tup [int r.1, int r.2])) ?_ (fun y H hc => ⟨_, rfl, .tup (pvl2 (pvI (r.1)) (pvI (r.2))), hc⟩)
  refine pcw (c := _) Tryz.func116 rfl rfl ?_; intro Q hret hnorm
  refine tc tbk 13 (.mk ?_)
  refine rst rfl rfl rfl (yv_len_sl rfl Tryz.underlying23 rfl (lst_len _)) ?_
  refine tr tbk 2 (.mk ?_)
  refine jnE h0 [2, 3] [] (fun (a : Int) (k : Unit) => [(4, int a)]) (fun a k => []) ⟨fun j2 h1 h0 => ?_, ?_⟩
  refine tc tbk 1 (.mk ?_)
  refine lp (fun n (a : Int × Int) => d_money_Sum_L0 a1 n a.1 a.2) ((0 : Int), (0 : Int)) () h1 [2, 3, 8, 9] [] (fun (a : Int × Int) (k : Unit) => [(4, int a.1), (10, int a.2)]) (fun a k => []) (fun _ => rfl) ⟨leA, ?_⟩
  rintro n ⟨y0_1, y0_2⟩ _ hm h1
  replace h1 : d_money_Sum_L0 a1 (n + 1) y0_1 y0_2 = some _ := h1
  rw [d_money_Sum_L0] at h1
  refine tc tbk 2 (.mk ?_)
  refine nb tbk h1 fun x3 h1 => ?_
  refine tr tbk 2 (.mk ?_)
  cases x3
  replace h1 := cf h1
  refine tc tbk 2 (.mk ?_)
  exact lfE h1 () leA
  replace h1 := ct h1
  refine tc tbk 6 (.mk ?_)
  obtain ⟨x4, e4, h1⟩ := bind_e h1
  refine rst rfl rfl rfl (yv_ixT rfl Tryz.underlying23 sh3 rfl rfl e4) ?_
  refine tr tbk 11 (.mk ?_)
  obtain ⟨x5, e5, h1⟩ := bind_e h1
  refine rst rfl rfl rfl (yv_callP rfl rfl (.cons rfl (.cons rfl .nil)) cal82 (CvL.refl _) (d_money_Add_c e5)) ?_
  refine tr tbk 9 (.mk ?_)
  refine nb tbk h1 fun x6 h1 => ?_
  refine tr tbk 1 (.mk ?_)
  cases x6
  replace h1 := cf h1
  refine tc tbk 4 (.mk ?_)
  refine ni tbk h1 fun x7 h1 => ?_
  refine tr tbk 2 (.mk ?_)
  exact bk (x5.1, x7) () h1 leA
  replace h1 := ct h1
  refine tc tbk 7 (.mk ?_)
  obtain ⟨c8, hX, hj⟩ := esc_e h1; subst hj; replace h0 := hX.trans (sel_r h0)
  obtain rfl := nxt_e h0
  refine w_ret (hret _ _ _ (.tmp rfl (.tmp rfl .nil)) (fun _ _ h => h) ?_)
  exact .refl _
  rintro y1_1 _ h0
  refine tc tbk 6 (.mk ?_)
  obtain rfl := nxt_e h0
  refine w_ret (hret _ _ _ (.tmp rfl (.tmp rfl .nil)) (fun _ _ h => h) ?_)
  exact .refl _
def d_fifo_Total_L0 (a1 : List GLayer) : Nat → Int → (List Int) → (List Int) → (List Int) → Option ((List Int) × (List Int) × (List Int))
  | 0, _, _, _, _ => none
  | n + 1, y0_4, y0_5, y0_6, y0_7 =>
    bnd (decide (y0_4 < (a1.length : Int))) fun (x7 : Bool) =>
    cond x7 ((ix a1 y0_4).bind fun (x8 : GLayer) =>
    bnd (y0_5 ++ ([x8.Qty] : List Int)) fun (x10 : List Int) =>
    asrt (x10.length ≤ 68719476736) <|
    bnd (y0_6 ++ ([x8.Value] : List Int)) fun (x13 : List Int) =>
    asrt (x13.length ≤ 68719476736) <|
    bnd (y0_7 ++ ([x8.Profit] : List Int)) fun (x16 : List Int) =>
    asrt (x16.length ≤ 68719476736) <|
    bnd (w64 (y0_4 + 1)) fun (x19 : Int) =>
    d_fifo_Total_L0 a1 n (x19 : Int) (x10 : List Int) (x13 : List Int) (x16 : List Int)) (some ((y0_5 : List Int), (y0_6 : List Int), (y0_7 : List Int)))
def d_fifo_Total (n : Nat) (a1 : List GLayer) : Option (GLayer × Int) :=
(show Option ((List Int) × (List Int) × (List Int)) from
d_fifo_Total_L0 a1 n (0 : Int) (([] : List Int) : List Int) (([] : List Int) : List Int) (([] : List Int) : List Int)).bind <| p2 fun (y1_4 : List Int) (q0 : (List Int) × (List Int)) => (p2 fun (y1_5 : List Int) (y1_6 : List Int) =>
(show Option ((GLayer) ⊕ (GLayer × Int)) from
(d_money_Sum n y1_4).bind fun (x23 : Int × Int) =>
bnd (decide (x23.2 ≠ 0)) fun (x24 : Bool) =>
cond x24 (esc (some (((⟨0, 0, 0⟩ : GLayer) : GLayer), (x23.2 : Int)))) ((d_money_Sum n y1_5).bind fun (x26 : Int × Int) =>
bnd (decide (x26.2 ≠ 0)) fun (x27 : Bool) =>
cond x27 (esc (some (((⟨0, 0, 0⟩ : GLayer) : GLayer), (x26.2 : Int)))) ((d_money_Sum n y1_6).bind fun (x29 : Int × Int) =>
bnd (decide (x29.2 ≠ 0)) fun (x30 : Bool) =>
cond x30 (esc (some (((⟨0, 0, 0⟩ : GLayer) : GLayer), (x29.2 : Int)))) (brk ((⟨x23.1, x26.1, x29.1⟩ : GLayer) : GLayer))))).bind <| sel <| fun (y2_1 : GLayer) =>
some ((y2_1 : GLayer), (0 : Int))) q0
theorem d_fifo_Total_c {n : Nat} {a1 : List GLayer} {r : GLayer × Int} (h0 : d_fifo_Total n a1 = some r) : PP Tryz.prog 115 [lst 3 GLayer.av a1] (fun y => y = .tup [.agg (GLayer.av r.1), int r.2]) := by
  unfold d_fifo_Total at h0
  refine pp_of_pc (R0 := fun y H => Cv (frzH H) y (.tup [.agg (GLayer.av r.1), int r.2])) ?_ (fun y H hc => ⟨_, rfl, .tup (pvl2 ((fun (a : GLayer) => PV.agg (GLayer.pvc a)) (r.1)) (pvI (r.2))), hc⟩)
  refine pcw (c := _) Tryz.func115 rfl rfl ?_; intro Q hret hnorm
  refine tc tbk 2 (.mk ?_)
  refine rse rfl rfl rfl (yl_alloc 1 .any rfl z46 rfl) ?_; rintro _ _ ⟨v2, -, rfl, rfl⟩
  refine tr tbk 12 (.mk ?_)
  refine rst rfl rfl rfl (yv_len_sl rfl Tryz.underlying66 rfl (lst_len _)) ?_
  refine tr tbk 2 (.mk ?_)
  refine jn h0 [2, 3] [1] (fun (a : (List Int) × (List Int) × (List Int)) (k : Nat × Nat × Nat) => [(4, .sl 6 k.1 0 a.1.length), (5, .sl 7 k.2.1 0 a.2.1.length), (6, .sl 8 k.2.2 0 a.2.2.length)]) (fun a k => [(6, ⟨3, 1, true, true, k.1, a.1.map fI⟩), (7, ⟨3, 1, true, true, k.2.1, a.2.1.map fI⟩), (8, ⟨3, 1, true, true, k.2.2, a.2.2.map fI⟩)]) ⟨fun j3 h1 => ?_, ?_⟩
  refine tc tbk 1 (.mk ?_)
  refine c_nilobj 4 6 3 1 rfl rfl ?_; intro v4
  refine c_nilobj 5 7 3 1 rfl rfl ?_; intro v5
  refine c_nilobj 6 8 3 1 rfl rfl ?_; intro v6
  refine lp (fun n (a : Int × (List Int) × (List Int) × (List Int)) => d_fifo_Total_L0 a1 n a.1 a.2.1 a.2.2.1 a.2.2.2) ((0 : Int), (([] : List Int) : List Int), (([] : List Int) : List Int), (([] : List Int) : List Int)) (v4, v5, v6) h1 [2, 3, 14, 15] [1] (fun (a : Int × (List Int) × (List Int) × (List Int)) (k : Nat × Nat × Nat) => [(4, .sl 6 k.1 0 a.2.1.length), (5, .sl 7 k.2.1 0 a.2.2.1.length), (6, .sl 8 k.2.2 0 a.2.2.2.length), (16, int a.1)]) (fun a k => [(6, ⟨3, 1, true, true, k.1, a.2.1.map fI⟩), (7, ⟨3, 1, true, true, k.2.1, a.2.2.1.map fI⟩), (8, ⟨3, 1, true, true, k.2.2, a.2.2.2.map fI⟩)]) (fun _ => rfl) ⟨leA, ?_⟩
  rintro n ⟨y0_4, y0_5, y0_6, y0_7⟩ ⟨w0_1, w0_2, w0_3⟩ hm h1
  replace h1 : d_fifo_Total_L0 a1 (n + 1) y0_4 y0_5 y0_6 y0_7 = some _ := h1
  rw [d_fifo_Total_L0] at h1
  refine tc tbk 2 (.mk ?_)
  refine nb tbk h1 fun x7 h1 => ?_
  refine tr tbk 2 (.mk ?_)
  cases x7
  replace h1 := cf h1
  refine tc tbk 2 (.mk ?_)
  exact lf h1 (w0_1, w0_2, w0_3) leA
  replace h1 := ct h1
  refine tc tbk 6 (.mk ?_)
  obtain ⟨x8, e8, h1⟩ := bind_e h1
  refine rst rfl rfl rfl (yv_ixT rfl Tryz.underlying66 sh46 rfl rfl e8) ?_
  refine tr tbk 1 (.mk ?_)
  refine rse rfl rfl rfl (yl_alloc 2 .any rfl z46 rfl) ?_; rintro _ _ ⟨v9, -, rfl, rfl⟩
  refine rsstore rfl rfl (yl_ob (ob' := (⟨46, 3, true, true, v9, [[int x8.Qty, int x8.Value, int x8.Profit]]⟩ : AObj)) (yl_store rfl sh46 rfl rfl rfl rfl rfl rfl rfl rfl rfl) rfl) ?_
  refine tr tbk 1 (.mk ?_)
  refine c_drawE [0, 0, 2, 6, 15, 0, 0, 64, 192, 511, 0, 0, 2048, 6144, 16383, 32767, 65535, 131071] (fun i => bif Nat.beq i 1 then ([2]) else bif Nat.beq i 2 then ([2]) else bif Nat.beq i 6 then ([2]) else bif Nat.beq i 7 then ([2]) else bif Nat.beq i 11 then ([2]) else bif Nat.beq i 12 then ([2]) else []) (fun i => bif Nat.beq i 14 then ([]) else [2]) (fun i => bif Nat.beq i 4 then (false) else bif Nat.beq i 9 then (false) else bif Nat.beq i 14 then (false) else true) [0, 1, 2, 3, 5, 6, 7, 8, 10, 11, 12, 13, 4, 9, 14, 15, 16, 17] mixed (by kernel_rfl) ?_; intro K hK
  refine de_pure rfl rfl rfl rfl (fun H hH => yv_move rfl rfl) ?_
  refine de_pure rfl rfl rfl rfl (fun H hH => yv_fieldAddr rfl fo46_0 rfl (.pt ((hH _ (by decide)).trans rfl) rfl rfl) (.pt _ _ _ _ _)) ?_
  refine de_pure rfl rfl rfl rfl (fun H hH => yv_load rfl sh3 rfl (.pt ((hH _ (by decide)).trans rfl) rfl rfl) rfl) ?_
  refine de_pure rfl rfl rfl rfl (fun H hH => yv_to (y := lst 1 fI ([x8.Qty] : List Int)) (yv_buildSlice (ps := [(0, _)]) (rows := [[int x8.Qty]]) rfl Tryz.underlying23 bz3 (.cons rfl .nil) (by kernel_rfl) rfl rfl rfl) rfl) ?_
  refine de_pure rfl rfl rfl rfl (fun H hH => yv_move rfl rfl) ?_
  refine de_pure rfl rfl rfl rfl (fun H hH => yv_fieldAddr rfl fo46_1 rfl (.pt ((hH _ (by decide)).trans rfl) rfl rfl) (.pt _ _ _ _ _)) ?_
  refine de_pure rfl rfl rfl rfl (fun H hH => yv_load rfl sh3 rfl (.pt ((hH _ (by decide)).trans rfl) rfl rfl) rfl) ?_
  refine de_pure rfl rfl rfl rfl (fun H hH => yv_to (y := lst 1 fI ([x8.Value] : List Int)) (yv_buildSlice (ps := [(0, _)]) (rows := [[int x8.Value]]) rfl Tryz.underlying23 bz3 (.cons rfl .nil) (by kernel_rfl) rfl rfl rfl) rfl) ?_
  refine de_pure rfl rfl rfl rfl (fun H hH => yv_move rfl rfl) ?_
  refine de_pure rfl rfl rfl rfl (fun H hH => yv_fieldAddr rfl fo46_2 rfl (.pt ((hH _ (by decide)).trans rfl) rfl rfl) (.pt _ _ _ _ _)) ?_
  refine de_pure rfl rfl rfl rfl (fun H hH => yv_load rfl sh3 rfl (.pt ((hH _ (by decide)).trans rfl) rfl rfl) rfl) ?_
  refine de_pure rfl rfl rfl rfl (fun H hH => yv_to (y := lst 1 fI ([x8.Profit] : List Int)) (yv_buildSlice (ps := [(0, _)]) (rows := [[int x8.Profit]]) rfl Tryz.underlying23 bz3 (.cons rfl .nil) (by kernel_rfl) rfl rfl rfl) rfl) ?_
  obtain ⟨x10, e10, h1⟩ := bnd_e h1
  obtain ⟨p11, h1⟩ := asrt_e h1
  refine de_eff rfl rfl rfl rfl (yl_appT (g := fI) (l := y0_5) (m := ([x8.Qty] : List Int)) .any rfl Tryz.underlying23 bz3 by3 rfl rfl rfl rfl rfl rfl rfl rfl rfl rfl (Eq.symm rfl) (.refl _) (fun _ => rfl) e10 p11) (by rintro _ _ ⟨v12, -, rfl, rfl⟩; exact ⟨rfl, trivial⟩) ?_; rintro _ _ ⟨v12, -, rfl, rfl⟩
  obtain ⟨x13, e13, h1⟩ := bnd_e h1
  obtain ⟨p14, h1⟩ := asrt_e h1
  refine de_eff rfl rfl rfl rfl (yl_appT (g := fI) (l := y0_6) (m := ([x8.Value] : List Int)) .any rfl Tryz.underlying23 bz3 by3 rfl rfl rfl rfl rfl rfl rfl rfl rfl rfl (Eq.symm rfl) (.refl _) (fun _ => rfl) e13 p14) (by rintro _ _ ⟨v15, -, rfl, rfl⟩; exact ⟨rfl, trivial⟩) ?_; rintro _ _ ⟨v15, -, rfl, rfl⟩
  obtain ⟨x16, e16, h1⟩ := bnd_e h1
  obtain ⟨p17, h1⟩ := asrt_e h1
  refine de_eff rfl rfl rfl rfl (yl_appT (g := fI) (l := y0_7) (m := ([x8.Profit] : List Int)) .any rfl Tryz.underlying23 bz3 by3 rfl rfl rfl rfl rfl rfl rfl rfl rfl rfl (Eq.symm rfl) (.refl _) (fun _ => rfl) e16 p17) (by rintro _ _ ⟨v18, -, rfl, rfl⟩; exact trivial) ?_; rintro _ _ ⟨v18, -, rfl, rfl⟩
  refine de_pure rfl rfl rfl rfl (fun H hH => yv_assign rfl rfl) ?_
  refine de_pure rfl rfl rfl rfl (fun H hH => yv_assign rfl rfl) ?_
  refine de_pure rfl rfl rfl rfl (fun H hH => yv_assign rfl rfl) ?_
  refine de_nil (hK _ ?_)
  refine tc tbk 2 (.mk ?_)
  refine ni tbk h1 fun x19 h1 => ?_
  refine tr tbk 2 (.mk ?_)
  exact bk (x19, x10, x13, x16) (v12, v15, v18) h1 leA
  rintro ⟨y1_4, y1_5, y1_6⟩ ⟨w1_1, w1_2, w1_3⟩ h0
  replace h0 := p2_e h0
  replace h0 := p2_e h0
  refine tc tbk 2 (.mk ?_)
  refine rse rfl rfl rfl (yl_alloc 9 .any rfl z46 rfl) ?_; rintro _ _ ⟨v20, -, rfl, rfl⟩
  refine tr tbk 13 (.mk ?_)
  refine rst rfl rfl rfl (yv_buildSlice (ps := [(0, _), (1, _), (2, _)]) (rows := [[.pt 9 v20 0 0, .sl 6 w1_1 0 y1_4.length], [.pt 9 v20 0 1, .sl 7 w1_2 0 y1_5.length], [.pt 9 v20 0 2, .sl 8 w1_3 0 y1_6.length]]) rfl Tryz.underlying188 bz187 (.cons rfl (.cons rfl (.cons rfl .nil))) (by kernel_rfl) rfl rfl rfl) ?_
  refine rst rfl rfl rfl (yv_to (y := int 3) (yv_len_sl rfl Tryz.underlying188 rfl (.list _ _)) rfl) ?_
  refine tr tbk 2 (.mk ?_)
  refine jnE h0 [2, 3, 9] [1] (fun (a : GLayer) (k : Unit) => []) (fun a k => [(9, ⟨46, 3, true, true, v20, [[int a.Qty, int a.Value, int a.Profit]]⟩)]) ⟨fun j21 h1 h0 => ?_, ?_⟩
  refine tc tbk 4 (.mk ?_)
  refine rst rfl rfl rfl (yv_to (y := boo true) (yv_lss rfl rfl rfl) (congrArg boo (by decide))) ?_
  refine tr tbk 8 (.mk ?_)
  refine rst rfl rfl rfl (yv_indexAddr (j := 0) rfl Tryz.underlying188 sh187 rfl rfl rfl (.list rfl)) ?_
  refine tr tbk 1 (.mk ?_)
  refine rse rfl rfl rfl (yl_alloc 10 .any rfl z187 rfl) ?_; rintro _ _ ⟨v22, -, rfl, rfl⟩
  refine rsstore rfl rfl (yl_ob (ob' := (⟨187, 2, true, true, v22, [[.pt 9 v20 0 0, .sl 6 w1_1 0 y1_4.length]]⟩ : AObj)) (yl_store rfl sh187 rfl rfl rfl rfl rfl rfl rfl rfl rfl) rfl) ?_
  refine tr tbk 5 (.mk ?_)
  obtain ⟨x23, e23, h1⟩ := bind_e h1
  refine rst rfl rfl rfl (yv_callT (v := .tup [int x23.1, int x23.2]) rfl rfl (.cons rfl .nil) cal116 (.cons (cv_lst rfl rfl rfl rfl rfl (Eq.symm rfl)) .nil) (d_money_Sum_c e23) rfl) ?_
  refine tr tbk 10 (.mk ?_)
  refine nb tbk h1 fun x24 h1 => ?_
  refine tr tbk 1 (.mk ?_)
  cases x24
  replace h1 := cf h1
  refine tc tbk 7 (.mk ?_)
  refine rsstore rfl rfl (yl_ob (ob' := (⟨46, 3, true, true, v20, [[int x23.1, int 0, int 0]]⟩ : AObj)) (yl_store rfl sh3 rfl rfl rfl rfl rfl rfl rfl rfl rfl) rfl) ?_
  refine tr tbk 3 (.mk ?_)
  refine rst rfl rfl rfl (yv_add (r := 1) rfl rfl rfl (by decide)) ?_
  refine tr tbk 5 (.mk ?_)
  refine rst rfl rfl rfl (yv_to (y := boo true) (yv_lss rfl rfl rfl) (congrArg boo (by decide))) ?_
  refine tr tbk 8 (.mk ?_)
  refine rst rfl rfl rfl (yv_indexAddr (j := 1) rfl Tryz.underlying188 sh187 rfl rfl rfl (.list rfl)) ?_
  refine tr tbk 1 (.mk ?_)
  refine rse rfl rfl rfl (yl_alloc 11 .any rfl z187 rfl) ?_; rintro _ _ ⟨v25, -, rfl, rfl⟩
  refine rsstore rfl rfl (yl_ob (ob' := (⟨187, 2, true, true, v25, [[.pt 9 v20 0 1, .sl 7 w1_2 0 y1_5.length]]⟩ : AObj)) (yl_store rfl sh187 rfl rfl rfl rfl rfl rfl rfl rfl rfl) rfl) ?_
  refine tr tbk 5 (.mk ?_)
  obtain ⟨x26, e26, h1⟩ := bind_e h1
  refine rst rfl rfl rfl (yv_callT (v := .tup [int x26.1, int x26.2]) rfl rfl (.cons rfl .nil) cal116 (.cons (cv_lst rfl rfl rfl rfl rfl (Eq.symm rfl)) .nil) (d_money_Sum_c e26) rfl) ?_
  refine tr tbk 10 (.mk ?_)
  refine nb tbk h1 fun x27 h1 => ?_
  refine tr tbk 1 (.mk ?_)
  cases x27
  replace h1 := cf h1
  refine tc tbk 7 (.mk ?_)
  refine rsstore rfl rfl (yl_ob (ob' := (⟨46, 3, true, true, v20, [[int x23.1, int x26.1, int 0]]⟩ : AObj)) (yl_store rfl sh3 rfl rfl rfl rfl rfl rfl rfl rfl rfl) rfl) ?_
  refine tr tbk 3 (.mk ?_)
  refine rst rfl rfl rfl (yv_add (r := 2) rfl rfl rfl (by decide)) ?_
  refine tr tbk 5 (.mk ?_)
  refine rst rfl rfl rfl (yv_to (y := boo true) (yv_lss rfl rfl rfl) (congrArg boo (by decide))) ?_
  refine tr tbk 8 (.mk ?_)
  refine rst rfl rfl rfl (yv_indexAddr (j := 2) rfl Tryz.underlying188 sh187 rfl rfl rfl (.list rfl)) ?_
  refine tr tbk 1 (.mk ?_)
  refine rse rfl rfl rfl (yl_alloc 12 .any rfl z187 rfl) ?_; rintro _ _ ⟨v28, -, rfl, rfl⟩
  refine rsstore rfl rfl (yl_ob (ob' := (⟨187, 2, true, true, v28, [[.pt 9 v20 0 2, .sl 8 w1_3 0 y1_6.length]]⟩ : AObj)) (yl_store rfl sh187 rfl rfl rfl rfl rfl rfl rfl rfl rfl) rfl) ?_
  refine tr tbk 5 (.mk ?_)
  obtain ⟨x29, e29, h1⟩ := bind_e h1
  refine rst rfl rfl rfl (yv_callT (v := .tup [int x29.1, int x29.2]) rfl rfl (.cons rfl .nil) cal116 (.cons (cv_lst rfl rfl rfl rfl rfl (Eq.symm rfl)) .nil) (d_money_Sum_c e29) rfl) ?_
  refine tr tbk 10 (.mk ?_)
  refine nb tbk h1 fun x30 h1 => ?_
  refine tr tbk 1 (.mk ?_)
  cases x30
  replace h1 := cf h1
  refine tc tbk 7 (.mk ?_)
  refine rsstore rfl rfl (yl_ob (ob' := (⟨46, 3, true, true, v20, [[int x23.1, int x26.1, int x29.1]]⟩ : AObj)) (yl_store rfl sh3 rfl rfl rfl rfl rfl rfl rfl rfl rfl) rfl) ?_
  refine tr tbk 3 (.mk ?_)
  refine rst rfl rfl rfl (yv_add (r := 3) rfl rfl rfl (by decide)) ?_
  refine tr tbk 5 (.mk ?_)
  refine rst rfl rfl rfl (yv_to (y := boo false) (yv_lss rfl rfl rfl) (congrArg boo (by decide))) ?_
  refine tr tbk 4 (.mk ?_)
  exact lfE h1 () leA
  replace h1 := ct h1
  refine tc tbk 5 (.mk ?_)
  refine rsstore rfl rfl (yl_ob (ob' := (⟨46, 3, true, true, v2, [[int 0, int 0, int 0]]⟩ : AObj)) (yl_store rfl sh46 rfl rfl rfl rfl rfl rfl rfl rfl rfl) rfl) ?_
  refine tr tbk 2 (.mk ?_)
  obtain ⟨c31, hX, hj⟩ := esc_e h1; subst hj; replace h0 := hX.trans (sel_r h0)
  obtain rfl := nxt_e h0
  refine w_ret (hret _ _ _ (.cell rfl (.pt rfl rfl rfl) sh46 rfl (.tmp rfl .nil)) (fun _ _ h => h) ?_)
  exact .refl _
  replace h1 := ct h1
  refine tc tbk 5 (.mk ?_)
  refine rsstore rfl rfl (yl_ob (ob' := (⟨46, 3, true, true, v2, [[int 0, int 0, int 0]]⟩ : AObj)) (yl_store rfl sh46 rfl rfl rfl rfl rfl rfl rfl rfl rfl) rfl) ?_
  refine tr tbk 2 (.mk ?_)
  obtain ⟨c32, hX, hj⟩ := esc_e h1; subst hj; replace h0 := hX.trans (sel_r h0)
  obtain rfl := nxt_e h0
  refine w_ret (hret _ _ _ (.cell rfl (.pt rfl rfl rfl) sh46 rfl (.tmp rfl .nil)) (fun _ _ h => h) ?_)
  exact .refl _
  replace h1 := ct h1
  refine tc tbk 5 (.mk ?_)
  refine rsstore rfl rfl (yl_ob (ob' := (⟨46, 3, true, true, v2, [[int 0, int 0, int 0]]⟩ : AObj)) (yl_store rfl sh46 rfl rfl rfl rfl rfl rfl rfl rfl rfl) rfl) ?_
  refine tr tbk 2 (.mk ?_)
  obtain ⟨c33, hX, hj⟩ := esc_e h1; subst hj; replace h0 := hX.trans (sel_r h0)
  obtain rfl := nxt_e h0
  refine w_ret (hret _ _ _ (.cell rfl (.pt rfl rfl rfl) sh46 rfl (.tmp rfl .nil)) (fun _ _ h => h) ?_)
  exact .refl _
  rintro y2_1 _ h0
  refine tc tbk 3 (.mk ?_)
  refine rsstore rfl rfl (yl_ob (ob' := (⟨46, 3, true, true, v2, [[int y2_1.Qty, int y2_1.Value, int y2_1.Profit]]⟩ : AObj)) (yl_store rfl sh46 rfl rfl rfl rfl rfl rfl rfl rfl rfl) rfl) ?_
  refine tr tbk 2 (.mk ?_)
  obtain rfl := nxt_e h0
  refine w_ret (hret _ _ _ (.cell rfl (.pt rfl rfl rfl) sh46 rfl (.tmp rfl .nil)) (fun _ _ h => h) ?_)
  exact .refl _
def d_fifo_steady_L0 (a1 : List GLayer) : Nat → Int → (List Int) → Option ((List Int))
  | 0, _, _ => none
  | n + 1, y0_2, y0_3 =>
    bnd (decide (y0_2 < (a1.length : Int))) fun (x4 : Bool) =>
    cond x4 ((ix a1 y0_2).bind fun (x5 : GLayer) =>
    bnd (w64 (0 - x5.Profit)) fun (x7 : Int) =>
    bnd (if x7 > x5.Profit then x7 else x5.Profit) fun (x8 : Int) =>
    bnd (y0_3 ++ ([x8] : List Int)) fun (x9 : List Int) =>
    asrt (x9.length ≤ 68719476736) <|
    bnd (w64 (y0_2 + 1)) fun (x12 : Int) =>
    d_fifo_steady_L0 a1 n (x12 : Int) (x9 : List Int)) (some (y0_3 : List Int))
def d_fifo_steady (n : Nat) (a1 : List GLayer) : Option (Bool) :=
(show Option ((List Int)) from
d_fifo_steady_L0 a1 n (0 : Int) (([] : List Int) : List Int)).bind <| fun (y1_2 : List Int) =>
(d_money_Sum n y1_2).bind fun (x13 : Int × Int) =>
bnd (decide (x13.2 = 0)) fun (x14 : Bool) =>
some ((x14 : Bool))
theorem d_fifo_steady_c {n : Nat} {a1 : List GLayer} {r : Bool} (h0 : d_fifo_steady n a1 = some r) : PP Tryz.prog 192 [lst 3 GLayer.av a1] (fun y => y = boo r) := by
  unfold d_fifo_steady at h0
  refine pp_of_pc (R0 := fun y H => Cv (frzH H) y (boo r)) ?_ (fun y H hc => ⟨_, rfl, pvB r, hc⟩)
  refine pcw (c := _) Tryz.func192 rfl rfl ?_; intro Q hret hnorm
  refine tc tbk 12 (.mk ?_)
  refine rst rfl rfl rfl (yv_len_sl rfl Tryz.underlying66 rfl (lst_len _)) ?_
  refine tr tbk 2 (.mk ?_)
  refine jn h0 [2] [] (fun (a : (List Int)) (k : Nat) => [(3, .sl 3 k 0 a.length)]) (fun a k => [(3, ⟨3, 1, true, true, k, a.map fI⟩)]) ⟨fun j2 h1 => ?_, ?_⟩
  refine tc tbk 1 (.mk ?_)
  refine c_nilobj 3 3 3 1 rfl rfl ?_; intro v3
  refine lp (fun n (a : Int × (List Int)) => d_fifo_steady_L0 a1 n a.1 a.2) ((0 : Int), (([] : List Int) : List Int)) v3 h1 [2, 8, 9] [] (fun (a : Int × (List Int)) (k : Nat) => [(3, .sl 3 k 0 a.2.length), (10, int a.1)]) (fun a k => [(3, ⟨3, 1, true, true, k, a.2.map fI⟩)]) (fun _ => rfl) ⟨leA, ?_⟩
  rintro n ⟨y0_2, y0_3⟩ w0_1 hm h1
  replace h1 : d_fifo_steady_L0 a1 (n + 1) y0_2 y0_3 = some _ := h1
  rw [d_fifo_steady_L0] at h1
  refine tc tbk 2 (.mk ?_)
  refine nb tbk h1 fun x4 h1 => ?_
  refine tr tbk 2 (.mk ?_)
  cases x4
  replace h1 := cf h1
  refine tc tbk 2 (.mk ?_)
  exact lf h1 w0_1 leA
  replace h1 := ct h1
  refine tc tbk 6 (.mk ?_)
  obtain ⟨x5, e5, h1⟩ := bind_e h1
  refine rst rfl rfl rfl (yv_ixT rfl Tryz.underlying66 sh46 rfl rfl e5) ?_
  refine tr tbk 1 (.mk ?_)
  refine rse rfl rfl rfl (yl_alloc 1 .any rfl z46 rfl) ?_; rintro _ _ ⟨v6, -, rfl, rfl⟩
  refine rsstore rfl rfl (yl_ob (ob' := (⟨46, 3, true, true, v6, [[int x5.Qty, int x5.Value, int x5.Profit]]⟩ : AObj)) (yl_store rfl sh46 rfl rfl rfl rfl rfl rfl rfl rfl rfl) rfl) ?_
  refine tr tbk 7 (.mk ?_)
  refine ni tbk h1 fun x7 h1 => ?_
  obtain ⟨x8, e8, h1⟩ := bnd_e h1
  refine rst rfl rfl rfl (yv_max rfl rfl rfl e8) ?_
  refine rst rfl rfl rfl (yv_to (y := lst 1 fI ([x8] : List Int)) (yv_buildSlice (ps := [(0, _)]) (rows := [[int x8]]) rfl Tryz.underlying23 bz3 (.cons rfl .nil) (by kernel_rfl) rfl rfl rfl) rfl) ?_
  obtain ⟨x9, e9, h1⟩ := bnd_e h1
  obtain ⟨p10, h1⟩ := asrt_e h1
  refine rse rfl rfl rfl (yl_appT (g := fI) (l := y0_3) (m := ([x8] : List Int)) .any rfl Tryz.underlying23 bz3 by3 rfl rfl rfl rfl rfl rfl rfl rfl rfl rfl (Eq.symm rfl) (.refl _) (fun _ => rfl) e9 p10) ?_; rintro _ _ ⟨v11, -, rfl, rfl⟩
  refine tr tbk 4 (.mk ?_)
  refine ni tbk h1 fun x12 h1 => ?_
  refine tr tbk 2 (.mk ?_)
  exact bk (x12, x9) v11 h1 leA
  rintro y1_2 w1_1 h0
  refine tc tbk 3 (.mk ?_)
  obtain ⟨x13, e13, h0⟩ := bind_e h0
  refine rst rfl rfl rfl (yv_callT (v := .tup [int x13.1, int x13.2]) rfl rfl (.cons rfl .nil) cal116 (.cons (cv_lst rfl rfl rfl rfl rfl (Eq.symm rfl)) .nil) (d_money_Sum_c e13) rfl) ?_
  refine tr tbk 9 (.mk ?_)
  refine nb tbk h0 fun x14 h0 => ?_
  refine tr tbk 2 (.mk ?_)
  obtain rfl := nxt_e h0
  refine w_ret (hret _ _ _ (.tmp rfl .nil) (fun _ _ h => h) ?_)
  exact .refl _
def d_fifo_Right_L0 (a1 : List GLayer) : Nat → Int → Option ((Unit) ⊕ ((Int)))
  | 0, _ => none
  | n + 1, y0_1 =>
    bnd (decide (y0_1 < (a1.length : Int))) fun (x7 : Bool) =>
    cond x7 ((ix a1 y0_1).bind fun (x8 : GLayer) =>
    (d_fifo_wrong x8).bind fun (x9 : Bool) =>
    cond x9 (esc (some (y0_1 : Int))) (bnd (w64 (y0_1 + 1)) fun (x10 : Int) =>
    d_fifo_Right_L0 a1 n (x10 : Int))) (brk ())
def d_fifo_Right (n : Nat) (a1 : List GLayer) : Option (Bool) :=
(show Option (Bool) from
bnd (decide ((a1.length : Int) > 30)) fun (x3 : Bool) =>
cond x3 (some (true : Bool)) ((show Option ((Bool)) from
(show Option ((Int)) from
(show Option ((Unit) ⊕ ((Int))) from
d_fifo_Right_L0 a1 n (0 : Int)).bind <| sel <| fun (_ : Unit) =>
some ((-1) : Int)).bind <| fun (y2_1 : Int) =>
bnd (decide (y2_1 ≥ 0)) fun (x12 : Bool) =>
some (x12 : Bool)).bind <| fun (y3_1 : Bool) =>
some (y3_1 : Bool))).bind <| fun (y4_1 : Bool) =>
cond y4_1 (some ((false : Bool))) ((d_fifo_Total n a1).bind fun (x13 : GLayer × Int) =>
(show Option (Bool) from
bnd (decide (x13.2 = 0)) fun (x16 : Bool) =>
cond x16 ((d_fifo_steady n a1).bind fun (x17 : Bool) =>
some (x17 : Bool)) (some (false : Bool))).bind <| fun (y5_1 : Bool) =>
some ((y5_1 : Bool)))
theorem d_fifo_Right_c {n : Nat} {a1 : List GLayer} {r : Bool} (h0 : d_fifo_Right n a1 = some r) : PP Tryz.prog 188 [lst 3 GLayer.av a1] (fun y => y = boo r) := by
  unfold d_fifo_Right at h0
  refine pp_of_pc (R0 := fun y H => Cv (frzH H) y (boo r)) ?_ (fun y H hc => ⟨_, rfl, pvB r, hc⟩)
  refine pcw (c := _) Tryz.func188 rfl rfl ?_; intro Q hret hnorm
  refine tc tbk 6 (.mk ?_)
  refine jn h0 [0, 2] [] (fun (a : Bool) (k : Unit) => [(11, boo a)]) (fun a k => []) ⟨fun j2 h1 => ?_, ?_⟩
  refine tc tbk 2 (.mk ?_)
  refine rst rfl rfl rfl (yv_len_sl rfl Tryz.underlying66 rfl (lst_len _)) ?_
  refine nb tbk h1 fun x3 h1 => ?_
  refine tr tbk 1 (.mk ?_)
  cases x3
  replace h1 := cf h1
  refine tr tbk 1 (.mk ?_)
  obtain ⟨j4, h2, h1⟩ := bind_e h1
  refine rse (Out := fun y H' => (∃ (a : Bool) (k : Unit), a = j4 ∧ y = boo a ∧ H' = hk [])) rfl rfl rfl (yl_call rfl rfl (.cons rfl (.cons rfl .nil)) cal190 ?_) ?_
  refine pcw (c := _) Tryz.func190 rfl rfl ?_; intro Q hret hnorm
  refine tc tbk 8 (.mk ?_)
  obtain ⟨j5, h3, h2⟩ := bind_e h2
  refine rse (Out := fun y H' => (∃ (a : Int) (k : Unit), a = j5 ∧ y = int a ∧ H' = hk [])) rfl rfl rfl (yl_call rfl rfl (.cons rfl (.cons rfl .nil)) cal193 ?_) ?_
  refine pcw (c := _) Tryz.func193 rfl rfl ?_; intro Q hret hnorm
  refine tc tbk 8 (.mk ?_)
  refine rst rfl rfl rfl (yv_len_sl rfl Tryz.underlying66 rfl (lst_len _)) ?_
  refine tr tbk 2 (.mk ?_)
  refine jnE h3 [4] [] (fun (a : Unit) (k : Unit) => []) (fun a k => []) ⟨fun j6 h4 h3 => ?_, ?_⟩
  refine tc tbk 1 (.mk ?_)
  refine lp (fun n (a : Int) => d_fifo_Right_L0 a1 n a) (0 : Int) () h4 [0, 1, 4, 7] [] (fun (a : Int) (k : Unit) => [(8, int a)]) (fun a k => []) (fun _ => rfl) ⟨leA, ?_⟩
  rintro n y0_1 _ hm h4
  replace h4 : d_fifo_Right_L0 a1 (n + 1) y0_1 = some _ := h4
  rw [d_fifo_Right_L0] at h4
  refine tc tbk 2 (.mk ?_)
  refine nb tbk h4 fun x7 h4 => ?_
  refine tr tbk 2 (.mk ?_)
  cases x7
  replace h4 := cf h4
  refine tc tbk 2 (.mk ?_)
  exact lfE h4 () leA
  replace h4 := ct h4
  refine tc tbk 14 (.mk ?_)
  obtain ⟨x8, e8, h4⟩ := bind_e h4
  refine rst rfl rfl rfl (yv_ixT rfl Tryz.underlying66 sh46 rfl rfl e8) ?_
  refine tr tbk 1 (.mk ?_)
  obtain ⟨x9, e9, h4⟩ := bind_e h4
  refine rst rfl rfl rfl (yv_callP rfl rfl (.cons rfl .nil) cal191 (CvL.refl _) (d_fifo_wrong_c e9)) ?_
  refine tr tbk 1 (.mk ?_)
  cases x9
  replace h4 := cf h4
  refine tc tbk 4 (.mk ?_)
  refine ni tbk h4 fun x10 h4 => ?_
  refine tr tbk 2 (.mk ?_)
  exact bk x10 () h4 leA
  replace h4 := ct h4
  refine tc tbk 6 (.mk ?_)
  obtain ⟨c11, hX, hj⟩ := esc_e h4; subst hj; replace h3 := hX.trans (sel_r h3)
  obtain rfl := nxt_e h3
  refine w_ret (hret _ _ (hk []) (.tmp rfl .nil) (fun _ _ h => nomatch h) ?_)
  exact ⟨y0_1, (), rfl, rfl, rfl⟩
  rintro _ _ h3
  refine tc tbk 4 (.mk ?_)
  obtain rfl := nxt_e h3
  refine w_ret (hret _ _ (hk []) (.tmp rfl .nil) (fun _ _ h => nomatch h) ?_)
  exact ⟨(-1), (), rfl, rfl, rfl⟩
  rintro y _ ⟨y2_1, _, rfl, hc, rfl⟩
  subst hc
  refine nb tbk h2 fun x12 h2 => ?_
  refine tr tbk 2 (.mk ?_)
  obtain rfl := nxt_e h2
  refine w_ret (hret _ _ (hk []) (.tmp rfl .nil) (fun _ _ h => nomatch h) ?_)
  exact ⟨x12, (), rfl, rfl, rfl⟩
  rintro y _ ⟨y3_1, _, rfl, hc, rfl⟩
  subst hc
  refine tr tbk 2 (.mk ?_)
  exact lf h1 () leA
  replace h1 := ct h1
  refine tr tbk 4 (.mk ?_)
  exact lf h1 () leA
  rintro y4_1 _ h0
  cases y4_1
  replace h0 := cf h0
  refine tc tbk 5 (.mk ?_)
  obtain ⟨x13, e13, h0⟩ := bind_e h0
  refine rst rfl rfl rfl (yv_callP rfl rfl (.cons rfl .nil) cal115 (CvL.refl _) (d_fifo_Total_c e13)) ?_
  refine tr tbk 3 (.mk ?_)
  refine rse rfl rfl rfl (yl_alloc 1 .any rfl z46 rfl) ?_; rintro _ _ ⟨v14, -, rfl, rfl⟩
  refine rsstore rfl rfl (yl_ob (ob' := (⟨46, 3, true, true, v14, [[int x13.1.Qty, int x13.1.Value, int x13.1.Profit]]⟩ : AObj)) (yl_store rfl sh46 rfl rfl rfl rfl rfl rfl rfl rfl rfl) rfl) ?_
  refine tr tbk 3 (.mk ?_)
  refine jn h0 [] [] (fun (a : Bool) (k : Unit) => [(2, boo a)]) (fun a k => []) ⟨fun j15 h1 => ?_, ?_⟩
  refine tc tbk 2 (.mk ?_)
  refine nb tbk h1 fun x16 h1 => ?_
  refine tr tbk 1 (.mk ?_)
  cases x16
  replace h1 := cf h1
  refine tr tbk 5 (.mk ?_)
  exact lf h1 () leA
  replace h1 := ct h1
  refine tr tbk 1 (.mk ?_)
  obtain ⟨x17, e17, h1⟩ := bind_e h1
  refine rst rfl rfl rfl (yv_callP rfl rfl (.cons rfl .nil) cal192 (CvL.refl _) (d_fifo_steady_c e17)) ?_
  refine tr tbk 3 (.mk ?_)
  exact lf h1 () leA
  rintro y5_1 _ h0
  obtain rfl := nxt_e h0
  refine w_ret (hret _ _ _ (.tmp rfl .nil) (fun _ _ h => h) ?_)
  exact .refl _
  replace h0 := ct h0
  refine tc tbk 5 (.mk ?_)
  obtain rfl := nxt_e h0
  refine w_ret (hret _ _ _ (.tmp rfl .nil) (fun _ _ h => h) ?_)
  exact .refl _
def d_fifo_In (n : Nat) (a1 : List GLayer) (a2 : GLayer) : Option ((List GLayer) × Int) :=
asrt (a1.length ≤ 68719476736) <|
(show Option (Bool) from
bnd (decide (a2.Qty < 1)) fun (x7 : Bool) =>
cond x7 (some (true : Bool)) (bnd (decide (a2.Value < 0)) fun (x8 : Bool) =>
some (x8 : Bool))).bind <| fun (y0_1 : Bool) =>
cond y0_1 (some ((a1 : List GLayer), (1 : Int))) (bnd (decide ((a1.length : Int) ≥ 30)) fun (x9 : Bool) =>
cond x9 (some ((a1 : List GLayer), (6 : Int))) (asrt (a1.length ≤ 68719476736) <|
bnd (a1 ++ ([a2] : List GLayer)) fun (x12 : List GLayer) =>
asrt (x12.length ≤ 68719476736) <|
(d_fifo_Right n x12).bind fun (x15 : Bool) =>
bnd (!x15) fun (x16 : Bool) =>
cond x16 (some ((a1 : List GLayer), (2 : Int))) (some ((x12 : List GLayer), (0 : Int)))))
theorem d_fifo_In_c {n : Nat} {a1 : List GLayer} {a2 : GLayer} {r : (List GLayer) × Int} (h0 : d_fifo_In n a1 a2 = some r) : PP Tryz.prog 186 [lst 3 GLayer.av a1, .agg (GLayer.av a2)] (fun y => y = .tup [lst 3 GLayer.av r.1, int r.2]) := by
  unfold d_fifo_In at h0
  refine pp_of_pc (R0 := fun y H => Cv (frzH H) y (.tup [lst 3 GLayer.av r.1, int r.2])) ?_ (fun y H hc => ⟨_, rfl, .tup (pvl2 ((pvLs GLayer.pvc) (r.1)) (pvI (r.2))), hc⟩)
  refine pcw (c := _) Tryz.func186 rfl rfl ?_; intro Q hret hnorm
  refine tc tbk 2 (.mk ?_)
  refine rse rfl rfl rfl (yl_box 1 .any rfl rfl rfl) ?_; rintro _ _ ⟨v3, -, rfl, rfl⟩
  refine tr tbk 6 (.mk ?_)
  obtain ⟨p4, h0⟩ := asrt_e h0
  refine rse rfl rfl rfl (yl_call rfl rfl (.cons rfl .nil) cal144 (pc_cv (clone144_c (id := 2) (l := a1) rfl p4) (.cons (.refl _) .nil))) ?_; rintro _ _ ⟨v5, rfl, rfl⟩
  refine tr tbk 5 (.mk ?_)
  refine jn h0 [0, 3, 4, 5] [1, 2] (fun (a : Bool) (k : Unit) => [(9, boo a)]) (fun a k => []) ⟨fun j6 h1 => ?_, ?_⟩
  refine tc tbk 3 (.mk ?_)
  refine nb tbk h1 fun x7 h1 => ?_
  refine tr tbk 1 (.mk ?_)
  cases x7
  replace h1 := cf h1
  refine tr tbk 2 (.mk ?_)
  refine nb tbk h1 fun x8 h1 => ?_
  refine tr tbk 3 (.mk ?_)
  exact lf h1 () leA
  replace h1 := ct h1
  refine tr tbk 6 (.mk ?_)
  exact lf h1 () leA
  rintro y0_1 _ h0
  cases y0_1
  replace h0 := cf h0
  refine tc tbk 4 (.mk ?_)
  refine rst rfl rfl rfl (yv_len_sl rfl Tryz.underlying66 rfl (.sl rfl rfl)) ?_
  refine nb tbk h0 fun x9 h0 => ?_
  refine tr tbk 2 (.mk ?_)
  cases x9
  replace h0 := cf h0
  refine tc tbk 4 (.mk ?_)
  refine c_drawE [0, 1, 0, 4, 15, 31] (fun i => bif Nat.beq i 2 then ([1]) else []) (fun i => bif Nat.beq i 4 then ([]) else [1]) (fun i => bif Nat.beq i 1 then (false) else bif Nat.beq i 4 then (false) else true) [0, 2, 3, 1, 4, 5] mixed (by kernel_rfl) ?_; intro K hK
  refine de_pure rfl rfl rfl rfl (fun H hH => yv_move rfl rfl) ?_
  refine de_pure rfl rfl rfl rfl (fun H hH => yv_load rfl sh46 rfl (.pt ((hH _ (by decide)).trans rfl) rfl rfl) rfl) ?_
  refine de_pure rfl rfl rfl rfl (fun H hH => yv_to (y := lst 3 GLayer.av ([a2] : List GLayer)) (yv_buildSlice (ps := [(0, _)]) (rows := [[int a2.Qty, int a2.Value, int a2.Profit]]) rfl Tryz.underlying66 bz46 (.cons rfl .nil) (by kernel_rfl) rfl rfl rfl) rfl) ?_
  obtain ⟨p10, h0⟩ := asrt_e h0
  refine de_eff rfl rfl rfl rfl (Yield.frz 2 rfl (yl_call rfl rfl (.cons rfl .nil) cal144 (pc_cv (clone144_c (id := 3) (l := a1) rfl p10) (.cons (cv_lst rfl rfl rfl rfl rfl (Eq.symm rfl)) .nil)))) (by rintro _ _ ⟨v11, rfl, rfl⟩; exact ⟨rfl, trivial⟩) ?_; rintro _ _ ⟨v11, rfl, rfl⟩
  obtain ⟨x12, e12, h0⟩ := bnd_e h0
  obtain ⟨p13, h0⟩ := asrt_e h0
  refine de_eff rfl rfl rfl rfl (yl_appT (g := GLayer.av) (l := a1) (m := ([a2] : List GLayer)) .any rfl Tryz.underlying66 bz46 by46 rfl rfl rfl rfl rfl rfl rfl rfl rfl rfl (Eq.symm rfl) (.refl _) (fun _ => rfl) e12 p13) (by rintro _ _ ⟨v14, -, rfl, rfl⟩; exact trivial) ?_; rintro _ _ ⟨v14, -, rfl, rfl⟩
  refine de_pure rfl rfl rfl rfl (fun H hH => yv_assign rfl rfl) ?_
  refine de_nil (hK _ ?_)
  refine tc tbk 4 (.mk ?_)
  obtain ⟨x15, e15, h0⟩ := bind_e h0
  refine rst rfl rfl rfl (yv_callT (v := boo x15) rfl rfl (.cons rfl .nil) cal188 (.cons (cv_lst rfl rfl rfl rfl rfl (Eq.symm rfl)) .nil) (d_fifo_Right_c e15) rfl) ?_
  refine nb tbk h0 fun x16 h0 => ?_
  refine tr tbk 1 (.mk ?_)
  cases x16
  replace h0 := cf h0
  refine tc tbk 8 (.mk ?_)
  obtain rfl := nxt_e h0
  refine w_ret (hret _ _ _ (.tmp rfl (.tmp rfl .nil)) (fun _ _ h => h) ?_)
  exact CvL.tup (.cons (cv_lst rfl rfl rfl rfl rfl (Eq.symm rfl)) (.cons (.refl _) .nil))
  replace h0 := ct h0
  refine tc tbk 7 (.mk ?_)
  obtain rfl := nxt_e h0
  refine w_ret (hret _ _ _ (.tmp rfl (.tmp rfl .nil)) (fun _ _ h => h) ?_)
  exact CvL.tup (.cons (cv_lst rfl rfl rfl rfl rfl (Eq.symm rfl)) (.cons (.refl _) .nil))
  replace h0 := ct h0
  refine tc tbk 7 (.mk ?_)
  obtain rfl := nxt_e h0
  refine w_ret (hret _ _ _ (.tmp rfl (.tmp rfl .nil)) (fun _ _ h => h) ?_)
  exact CvL.tup (.cons (cv_lst rfl rfl rfl rfl rfl (Eq.symm rfl)) (.cons (.refl _) .nil))
  replace h0 := ct h0
  refine tc tbk 7 (.mk ?_)
  obtain rfl := nxt_e h0
  refine w_ret (hret _ _ _ (.tmp rfl (.tmp rfl .nil)) (fun _ _ h => h) ?_)
  exact CvL.tup (.cons (cv_lst rfl rfl rfl rfl rfl (Eq.symm rfl)) (.cons (.refl _) .nil))
def d_mavg_In (n : Nat) (a1 : List GLayer) (a2 : GLayer) : Option ((List GLayer) × Int) :=
(show Option ((Unit)) from
some ()).bind <| fun (_ : Unit) =>
(d_fifo_In n a1 a2).bind fun (x6 : (List GLayer) × Int) =>
bnd (decide (x6.2 ≠ 0)) fun (x7 : Bool) =>
cond x7 (some ((x6.1 : List GLayer), (x6.2 : Int))) ((show Option ((Unit)) from
some ()).bind <| fun (_ : Unit) =>
(d_fifo_Total n x6.1).bind fun (x10 : GLayer × Int) =>
bnd (decide (x10.2 ≠ 0)) fun (x12 : Bool) =>
cond x12 (asrt (a1.length ≤ 68719476736) <|
some ((a1 : List GLayer), (x10.2 : Int))) (some ((([x10.1] : List GLayer) : List GLayer), (0 : Int))))
theorem d_mavg_In_c {n : Nat} {a1 : List GLayer} {a2 : GLayer} {r : (List GLayer) × Int} (h0 : d_mavg_In n a1 a2 = some r) : PP Tryz.prog 196 [lst 3 GLayer.av a1, .agg (GLayer.av a2)] (fun y => y = .tup [lst 3 GLayer.av r.1, int r.2]) := by
  unfold d_mavg_In at h0
  refine pp_of_pc (R0 := fun y H => Cv (frzH H) y (.tup [lst 3 GLayer.av r.1, int r.2])) ?_ (fun y H hc => ⟨_, rfl, .tup (pvl2 ((pvLs GLayer.pvc) (r.1)) (pvI (r.2))), hc⟩)
  refine pcw (c := _) Tryz.func196 rfl rfl ?_; intro Q hret hnorm
  refine tc tbk 2 (.mk ?_)
  refine rse rfl rfl rfl (yl_box 1 .any rfl rfl rfl) ?_; rintro _ _ ⟨v3, -, rfl, rfl⟩
  refine tr tbk 4 (.mk ?_)
  refine c_drawE [0, 1, 0, 0, 15, 31, 63, 63, 127, 511] (fun i => bif Nat.beq i 3 then ([1]) else []) (fun i => [1]) (fun i => bif Nat.beq i 0 then (false) else true) [2, 3, 0, 1, 4, 5, 6, 7, 8, 9] mixed (by kernel_rfl) ?_; intro K hK
  refine de_pure rfl rfl rfl rfl (fun H hH => yv_move rfl rfl) ?_
  refine de_pure rfl rfl rfl rfl (fun H hH => yv_load rfl sh46 rfl (.pt ((hH _ (by decide)).trans rfl) rfl rfl) rfl) ?_
  obtain ⟨j4, h1, h0⟩ := bind_e h0
  refine de_eff (Out := fun y H' => (∃ (a : Unit) (k : Unit), a = j4 ∧ y = .agg [.fn (.func 186) [] [], .fn (.func 187) [] [], .fn (.func 115) [] []] ∧ H' = hk [(1, ⟨46, 3, true, true, v3, [[int a2.Qty, int a2.Value, int a2.Profit]]⟩)])) rfl rfl rfl rfl (yl_call rfl rfl .nil cal198 ?_) (by rintro y _ ⟨_, _, rfl, hc, rfl⟩ <;> exact ⟨rfl, trivial⟩) ?_
  refine pcw (c := _) Tryz.func198 rfl rfl ?_; intro Q hret hnorm
  refine tc tbk 2 (.mk ?_)
  refine rse rfl rfl rfl (yl_alloc 2 .any rfl z235 rfl) ?_; rintro _ _ ⟨v5, -, rfl, rfl⟩
  refine tr tbk 4 (.mk ?_)
  refine rsstore rfl rfl (yl_ob (ob' := (⟨235, 3, true, true, v5, [[.fn (.func 186) [] [], .fn (.func 187) [] [], .fn (.func 115) [] []]]⟩ : AObj)) (yl_store rfl sh235 rfl rfl rfl rfl rfl rfl rfl rfl rfl) rfl) ?_
  refine tr tbk 1 (.mk ?_)
  obtain rfl := nxt_e h1
  refine w_ret (hret _ _ (hk [(1, ⟨46, 3, true, true, v3, [[int a2.Qty, int a2.Value, int a2.Profit]]⟩)]) (.cell rfl (.pt rfl rfl rfl) sh235 rfl .nil) (HK.le ⟨rfl, trivial⟩) ?_)
  exact ⟨(), (), rfl, rfl, rfl⟩
  rintro y _ ⟨_, _, rfl, hc, rfl⟩
  subst hc
  refine de_pure rfl rfl rfl rfl (fun H hH => yv_field rfl fp235_0 sh173 rfl rfl) ?_
  obtain ⟨x6, e6, h0⟩ := bind_e h0
  refine de_pure rfl rfl rfl rfl (fun H hH => yv_callP rfl rfl (.cons rfl (.cons rfl .nil)) cal186 (CvL.refl _) (d_fifo_In_c e6)) ?_
  refine de_pure rfl rfl rfl rfl (fun H hH => yv_move rfl rfl) ?_
  refine de_pure rfl rfl rfl rfl (fun H hH => yv_extract rfl rfl rfl) ?_
  refine de_pure rfl rfl rfl rfl (fun H hH => yv_extract rfl rfl rfl) ?_
  refine de_pure rfl rfl rfl rfl (fun H hH => yv_assign rfl rfl) ?_
  refine de_pure rfl rfl rfl rfl (fun H hH => yv_assign rfl rfl) ?_
  refine de_nil (hK _ ?_)
  refine tc tbk 4 (.mk ?_)
  refine nb tbk h0 fun x7 h0 => ?_
  refine tr tbk 1 (.mk ?_)
  cases x7
  replace h0 := cf h0
  refine tc tbk 4 (.mk ?_)
  obtain ⟨j8, h1, h0⟩ := bind_e h0
  refine rse (Out := fun y H' => (∃ (a : Unit) (k : Unit), a = j8 ∧ y = .agg [.fn (.func 186) [] [], .fn (.func 187) [] [], .fn (.func 115) [] []] ∧ H' = hk [(1, ⟨46, 3, true, true, v3, [[int a2.Qty, int a2.Value, int a2.Profit]]⟩)])) rfl rfl rfl (yl_call rfl rfl .nil cal198 ?_) ?_
  refine pcw (c := _) Tryz.func198 rfl rfl ?_; intro Q hret hnorm
  refine tc tbk 2 (.mk ?_)
  refine rse rfl rfl rfl (yl_alloc 3 .any rfl z235 rfl) ?_; rintro _ _ ⟨v9, -, rfl, rfl⟩
  refine tr tbk 4 (.mk ?_)
  refine rsstore rfl rfl (yl_ob (ob' := (⟨235, 3, true, true, v9, [[.fn (.func 186) [] [], .fn (.func 187) [] [], .fn (.func 115) [] []]]⟩ : AObj)) (yl_store rfl sh235 rfl rfl rfl rfl rfl rfl rfl rfl rfl) rfl) ?_
  refine tr tbk 1 (.mk ?_)
  obtain rfl := nxt_e h1
  refine w_ret (hret _ _ (hk [(1, ⟨46, 3, true, true, v3, [[int a2.Qty, int a2.Value, int a2.Profit]]⟩)]) (.cell rfl (.pt rfl rfl rfl) sh235 rfl .nil) (HK.le ⟨rfl, trivial⟩) ?_)
  exact ⟨(), (), rfl, rfl, rfl⟩
  rintro y _ ⟨_, _, rfl, hc, rfl⟩
  subst hc
  refine tr tbk 2 (.mk ?_)
  obtain ⟨x10, e10, h0⟩ := bind_e h0
  refine rst rfl rfl rfl (yv_callP rfl rfl (.cons rfl .nil) cal115 (CvL.refl _) (d_fifo_Total_c e10)) ?_
  refine tr tbk 3 (.mk ?_)
  refine rse rfl rfl rfl (yl_alloc 4 .any rfl z46 rfl) ?_; rintro _ _ ⟨v11, -, rfl, rfl⟩
  refine rsstore rfl rfl (yl_ob (ob' := (⟨46, 3, true, true, v11, [[int x10.1.Qty, int x10.1.Value, int x10.1.Profit]]⟩ : AObj)) (yl_store rfl sh46 rfl rfl rfl rfl rfl rfl rfl rfl rfl) rfl) ?_
  refine tr tbk 6 (.mk ?_)
  refine nb tbk h0 fun x12 h0 => ?_
  refine tr tbk 1 (.mk ?_)
  cases x12
  replace h0 := cf h0
  refine tc tbk 5 (.mk ?_)
  refine rst rfl rfl rfl (yv_to (y := lst 3 GLayer.av ([x10.1] : List GLayer)) (yv_buildSlice (ps := [(0, _)]) (rows := [[int x10.1.Qty, int x10.1.Value, int x10.1.Profit]]) rfl Tryz.underlying66 bz46 (.cons rfl .nil) (by kernel_rfl) rfl rfl rfl) rfl) ?_
  refine tr tbk 3 (.mk ?_)
  obtain rfl := nxt_e h0
  refine w_ret (hret _ _ _ (.tmp rfl (.tmp rfl .nil)) (fun _ _ h => h) ?_)
  exact .refl _
  replace h0 := ct h0
  refine tc tbk 4 (.mk ?_)
  obtain ⟨p13, h0⟩ := asrt_e h0
  refine rse rfl rfl rfl (yl_app0T (g := GLayer.av) (m := a1) 5 rfl Tryz.underlying66 bz46 by46 rfl rfl rfl rfl (.refl _) (fun _ => rfl) p13) ?_; rintro _ _ ⟨v14, rfl, rfl⟩
  refine tr tbk 4 (.mk ?_)
  obtain rfl := nxt_e h0
  refine w_ret (hret _ _ _ (.tmp rfl (.tmp rfl .nil)) (fun _ _ h => h) ?_)
  exact CvL.tup (.cons (cv_lst rfl rfl rfl rfl rfl (Eq.symm rfl)) (.cons (.refl _) .nil))
  replace h0 := ct h0
  refine tc tbk 8 (.mk ?_)
  obtain rfl := nxt_e h0
  refine w_ret (hret _ _ _ (.tmp rfl (.tmp rfl .nil)) (fun _ _ h => h) ?_)
  exact .refl _
def d_stdcost_In (n : Nat) (a1 : List GLayer) (a2 : GLayer) (a3 : Int) : Option ((List GLayer) × Int × Int) :=
asrt (a1.length ≤ 68719476736) <|
(show Option (Bool) from
(d_stdcost_rate_fits a3).bind fun (x8 : Bool) =>
bnd (!x8) fun (x9 : Bool) =>
cond x9 (some (true : Bool)) (bnd (decide (a2.Qty < 1)) fun (x10 : Bool) =>
cond x10 (some (true : Bool)) (bnd (decide (a2.Value < 0)) fun (x11 : Bool) =>
some (x11 : Bool)))).bind <| fun (y0_1 : Bool) =>
cond y0_1 (some ((a1 : List GLayer), (0 : Int), (1 : Int))) ((d_stdcost_rate_of n a3 a2.Qty).bind fun (x12 : Int × Int) =>
(show Option (Bool) from
bnd (decide (x12.2 ≠ 0)) fun (x14 : Bool) =>
cond x14 (some (true : Bool)) (bnd (decide (a2.Value > 288230376151711744)) fun (x15 : Bool) =>
some (x15 : Bool))).bind <| fun (y1_1 : Bool) =>
cond y1_1 (some ((a1 : List GLayer), (0 : Int), (2 : Int))) (bnd (w64 (a2.Value - x12.1)) fun (x16 : Int) =>
(show Option (((List GLayer)) ⊕ (Int) ⊕ (Int)) from
(show Option ((Unit)) from
some ()).bind <| fun (_ : Unit) =>
(show Option (((List GLayer)) ⊕ (Int)) from
asrt (a1.length ≤ 68719476736) <|
(show Option (Bool) from
bnd (decide (a2.Qty < 1)) fun (x26 : Bool) =>
cond x26 (some (true : Bool)) (bnd (decide (x12.1 < 0)) fun (x27 : Bool) =>
some (x27 : Bool))).bind <| fun (y3_1 : Bool) =>
cond y3_1 (some (.inr (1 : Int))) (bnd (decide ((a1.length : Int) ≥ 30)) fun (x28 : Bool) =>
cond x28 (some (.inr (6 : Int))) (asrt (a1.length ≤ 68719476736) <|
bnd (a1 ++ ([(⟨a2.Qty, x12.1, a2.Profit⟩ : GLayer)] : List GLayer)) fun (x31 : List GLayer) =>
asrt (x31.length ≤ 68719476736) <|
(d_fifo_Right n x31).bind fun (x34 : Bool) =>
bnd (!x34) fun (x35 : Bool) =>
cond x35 (some (.inr (2 : Int))) (some (.inl (x31 : List GLayer)))))).bind <| selr (fun (y4_2 : List GLayer) =>
(show Option ((Unit)) from
some ()).bind <| fun (_ : Unit) =>
(d_fifo_Total n y4_2).bind fun (x38 : GLayer × Int) =>
bnd (decide (x38.2 ≠ 0)) fun (x40 : Bool) =>
cond x40 (asrt (a1.length ≤ 68719476736) <|
some (.inr (.inl (x38.2 : Int)))) (some (.inl (([x38.1] : List GLayer) : List GLayer)))) <| fun (y5_2 : Int) =>
bnd (decide (y5_2 ≠ 0)) fun (x43 : Bool) =>
cond x43 (some (.inr (.inr (y5_2 : Int)))) ((show Option ((Unit)) from
some ()).bind <| fun (_ : Unit) =>
(d_fifo_Total n a1).bind fun (x46 : GLayer × Int) =>
bnd (decide (x46.2 ≠ 0)) fun (x48 : Bool) =>
cond x48 (asrt (a1.length ≤ 68719476736) <|
some (.inr (.inl (x46.2 : Int)))) (some (.inl (([x46.1] : List GLayer) : List GLayer))))).bind <| selr (fun (y10_1 : List GLayer) =>
some ((y10_1 : List GLayer), (x16 : Int), (0 : Int))) <| selr (fun (y11_2 : Int) =>
bnd (decide (y11_2 ≠ 0)) fun (x51 : Bool) =>
cond x51 (some ((a1 : List GLayer), (0 : Int), (y11_2 : Int))) (some ((a1 : List GLayer), (x16 : Int), (0 : Int)))) <| fun (y12_2 : Int) =>
bnd (decide (y12_2 ≠ 0)) fun (x52 : Bool) =>
cond x52 (some ((a1 : List GLayer), (0 : Int), (y12_2 : Int))) (some ((a1 : List GLayer), (x16 : Int), (0 : Int)))))
theorem d_stdcost_In_c {n : Nat} {a1 : List GLayer} {a2 : GLayer} {a3 : Int} {r : (List GLayer) × Int × Int} (h0 : d_stdcost_In n a1 a2 a3 = some r) : PP Tryz.prog 205 [lst 3 GLayer.av a1, .agg (GLayer.av a2), int a3] (fun y => y = .tup [lst 3 GLayer.av r.1, int r.2.1, int r.2.2]) := by
  unfold d_stdcost_In at h0
  refine pp_of_pc (R0 := fun y H => Cv (frzH H) y (.tup [lst 3 GLayer.av r.1, int r.2.1, int r.2.2])) ?_ (fun y H hc => ⟨_, rfl, .tup (pvl3 ((pvLs GLayer.pvc) (r.1)) (pvI (r.2.1)) (pvI (r.2.2))), hc⟩)
  refine pcw (c := _) Tryz.func205 rfl rfl ?_; intro Q hret hnorm
  refine tc tbk 2 (.mk ?_)
  refine rse rfl rfl rfl (yl_box 1 .any rfl rfl rfl) ?_; rintro _ _ ⟨v4, -, rfl, rfl⟩
  refine tr tbk 7 (.mk ?_)
  obtain ⟨p5, h0⟩ := asrt_e h0
  refine rse rfl rfl rfl (yl_call rfl rfl (.cons rfl .nil) cal144 (pc_cv (clone144_c (id := 2) (l := a1) rfl p5) (.cons (.refl _) .nil))) ?_; rintro _ _ ⟨v6, rfl, rfl⟩
  refine tr tbk 9 (.mk ?_)
  refine jn h0 [0, 2, 4, 6, 7, 8, 10] [1, 2] (fun (a : Bool) (k : Unit) => [(30, boo a)]) (fun a k => []) ⟨fun j7 h1 => ?_, ?_⟩
  refine tc tbk 3 (.mk ?_)
  obtain ⟨x8, e8, h1⟩ := bind_e h1
  refine rst rfl rfl rfl (yv_callP rfl rfl (.cons rfl .nil) cal207 (CvL.refl _) (d_stdcost_rate_fits_c e8)) ?_
  refine nb tbk h1 fun x9 h1 => ?_
  refine tr tbk 1 (.mk ?_)
  cases x9
  replace h1 := cf h1
  refine tr tbk 2 (.mk ?_)
  refine nb tbk h1 fun x10 h1 => ?_
  refine tr tbk 2 (.mk ?_)
  cases x10
  replace h1 := cf h1
  refine tr tbk 2 (.mk ?_)
  refine nb tbk h1 fun x11 h1 => ?_
  refine tr tbk 2 (.mk ?_)
  exact lf h1 () leA
  replace h1 := ct h1
  refine tr tbk 5 (.mk ?_)
  exact lf h1 () leA
  replace h1 := ct h1
  refine tr tbk 10 (.mk ?_)
  exact lf h1 () leA
  rintro y0_1 _ h0
  cases y0_1
  replace h0 := cf h0
  refine tc tbk 8 (.mk ?_)
  obtain ⟨x12, e12, h0⟩ := bind_e h0
  refine rst rfl rfl rfl (yv_callP rfl rfl (.cons rfl (.cons rfl .nil)) cal208 (CvL.refl _) (d_stdcost_rate_of_c e12)) ?_
  refine tr tbk 8 (.mk ?_)
  refine jn h0 [0, 4, 6, 7, 8, 11] [1, 2] (fun (a : Bool) (k : Unit) => [(46, boo a)]) (fun a k => []) ⟨fun j13 h1 => ?_, ?_⟩
  refine tc tbk 2 (.mk ?_)
  refine nb tbk h1 fun x14 h1 => ?_
  refine tr tbk 1 (.mk ?_)
  cases x14
  replace h1 := cf h1
  refine tr tbk 2 (.mk ?_)
  refine nb tbk h1 fun x15 h1 => ?_
  refine tr tbk 2 (.mk ?_)
  exact lf h1 () leA
  replace h1 := ct h1
  refine tr tbk 5 (.mk ?_)
  exact lf h1 () leA
  rintro y1_1 _ h0
  cases y1_1
  replace h0 := cf h0
  refine tc tbk 7 (.mk ?_)
  refine ni tbk h0 fun x16 h0 => ?_
  refine tr tbk 6 (.mk ?_)
  refine rsstore rfl rfl (yl_ob (ob' := (⟨46, 3, true, true, v4, [[int a2.Qty, int x12.1, int a2.Profit]]⟩ : AObj)) (yl_store rfl sh3 rfl rfl rfl rfl rfl rfl rfl rfl rfl) rfl) ?_
  refine tr tbk 5 (.mk ?_)
  obtain ⟨j17, h1, h0⟩ := bind_e h0
  refine rse (Out := fun y H' => (∃ (a : (List GLayer)) (k : Unit), (.inl a) = j17 ∧ y = .tup [lst 3 GLayer.av a, int 0] ∧ H' = hk [(1, ⟨46, 3, true, true, v4, [[int a2.Qty, int x12.1, int a2.Profit]]⟩), (2, ⟨46, 3, false, true, v6, a1.map GLayer.av⟩)]) ∨ (∃ (a : Int) (k : Nat), (.inr (.inl a)) = j17 ∧ y = .tup [.sl 10 k 0 a1.length, int a] ∧ H' = hk [(1, ⟨46, 3, true, true, v4, [[int a2.Qty, int x12.1, int a2.Profit]]⟩), (2, ⟨46, 3, false, true, v6, a1.map GLayer.av⟩), (10, ⟨46, 3, true, true, k, a1.map GLayer.av⟩)]) ∨ (∃ (a : Int) (k : Nat), (.inr (.inr a)) = j17 ∧ y = .tup [.sl 6 k 0 a1.length, int a] ∧ H' = hk [(1, ⟨46, 3, true, true, v4, [[int a2.Qty, int x12.1, int a2.Profit]]⟩), (2, ⟨46, 3, false, true, v6, a1.map GLayer.av⟩), (6, ⟨46, 3, false, true, k, a1.map GLayer.av⟩)])) rfl rfl rfl (yl_call rfl rfl (.cons rfl (.cons rfl .nil)) cal196 ?_) ?_
  refine pcw (c := _) Tryz.func196 rfl rfl ?_; intro Q hret hnorm
  refine tc tbk 2 (.mk ?_)
  refine rse rfl rfl rfl (yl_box 3 .any rfl rfl rfl) ?_; rintro _ _ ⟨v18, -, rfl, rfl⟩
  refine tr tbk 4 (.mk ?_)
  refine c_drawE [0, 1, 0, 0, 15, 31, 63, 63, 127, 511] (fun i => bif Nat.beq i 3 then ([3]) else []) (fun i => bif Nat.beq i 4 then ([]) else [3]) (fun i => bif Nat.beq i 0 then (false) else bif Nat.beq i 4 then (false) else true) [2, 3, 0, 1, 4, 5, 6, 7, 8, 9] mixed (by kernel_rfl) ?_; intro K hK
  refine de_pure rfl rfl rfl rfl (fun H hH => yv_move rfl rfl) ?_
  refine de_pure rfl rfl rfl rfl (fun H hH => yv_load rfl sh46 rfl (.pt ((hH _ (by decide)).trans rfl) rfl rfl) rfl) ?_
  obtain ⟨j19, h2, h1⟩ := bind_e h1
  refine de_eff (Out := fun y H' => (∃ (a : Unit) (k : Unit), a = j19 ∧ y = .agg [.fn (.func 186) [] [], .fn (.func 187) [] [], .fn (.func 115) [] []] ∧ H' = hk [(1, ⟨46, 3, true, true, v4, [[int a2.Qty, int x12.1, int a2.Profit]]⟩), (2, ⟨46, 3, true, true, v6, a1.map GLayer.av⟩), (3, ⟨46, 3, true, true, v18, [[int a2.Qty, int x12.1, int a2.Profit]]⟩)])) rfl rfl rfl rfl (yl_call rfl rfl .nil cal198 ?_) (by rintro y _ ⟨_, _, rfl, hc, rfl⟩ <;> exact ⟨rfl, trivial⟩) ?_
  refine pcw (c := _) Tryz.func198 rfl rfl ?_; intro Q hret hnorm
  refine tc tbk 2 (.mk ?_)
  refine rse rfl rfl rfl (yl_alloc 4 .any rfl z235 rfl) ?_; rintro _ _ ⟨v20, -, rfl, rfl⟩
  refine tr tbk 4 (.mk ?_)
  refine rsstore rfl rfl (yl_ob (ob' := (⟨235, 3, true, true, v20, [[.fn (.func 186) [] [], .fn (.func 187) [] [], .fn (.func 115) [] []]]⟩ : AObj)) (yl_store rfl sh235 rfl rfl rfl rfl rfl rfl rfl rfl rfl) rfl) ?_
  refine tr tbk 1 (.mk ?_)
  obtain rfl := nxt_e h2
  refine w_ret (hret _ _ (hk [(1, ⟨46, 3, true, true, v4, [[int a2.Qty, int x12.1, int a2.Profit]]⟩), (2, ⟨46, 3, true, true, v6, a1.map GLayer.av⟩), (3, ⟨46, 3, true, true, v18, [[int a2.Qty, int x12.1, int a2.Profit]]⟩)]) (.cell rfl (.pt rfl rfl rfl) sh235 rfl .nil) (HK.le ⟨rfl, rfl, rfl, trivial⟩) ?_)
  exact ⟨(), (), rfl, rfl, rfl⟩
  rintro y _ ⟨_, _, rfl, hc, rfl⟩
  subst hc
  refine de_pure rfl rfl rfl rfl (fun H hH => yv_field rfl fp235_0 sh173 rfl rfl) ?_
  obtain ⟨j21, h2, h1⟩ := bind_e h1
  refine de_eff (Out := fun y H' => (∃ (a : (List GLayer)) (k : Nat), (.inl a) = j21 ∧ y = .tup [.sl 7 k 0 a.length, int 0] ∧ H' = hk [(1, ⟨46, 3, true, true, v4, [[int a2.Qty, int x12.1, int a2.Profit]]⟩), (2, ⟨46, 3, false, true, v6, a1.map GLayer.av⟩), (3, ⟨46, 3, true, true, v18, [[int a2.Qty, int x12.1, int a2.Profit]]⟩), (7, ⟨46, 3, true, true, k, a.map GLayer.av⟩)]) ∨ (∃ (a : Int) (k : Nat), (.inr a) = j21 ∧ y = .tup [.sl 6 k 0 a1.length, int a] ∧ H' = hk [(1, ⟨46, 3, true, true, v4, [[int a2.Qty, int x12.1, int a2.Profit]]⟩), (2, ⟨46, 3, false, true, v6, a1.map GLayer.av⟩), (3, ⟨46, 3, true, true, v18, [[int a2.Qty, int x12.1, int a2.Profit]]⟩), (6, ⟨46, 3, false, true, k, a1.map GLayer.av⟩)])) rfl rfl rfl rfl (yl_call rfl rfl (.cons rfl (.cons rfl .nil)) cal186 ?_) (by rintro y _ (⟨y4_2, w4_1, rfl, hc, rfl⟩ | ⟨y5_2, w5_1, rfl, hc, rfl⟩) <;> exact trivial) ?_
  refine pcw (c := _) Tryz.func186 rfl rfl ?_; intro Q hret hnorm
  refine tc tbk 2 (.mk ?_)
  refine rse rfl rfl rfl (yl_box 5 .any rfl rfl rfl) ?_; rintro _ _ ⟨v22, -, rfl, rfl⟩
  refine tr tbk 6 (.mk ?_)
  obtain ⟨p23, h2⟩ := asrt_e h2
  refine rse rfl rfl rfl (Yield.frz 2 rfl (yl_call rfl rfl (.cons rfl .nil) cal144 (pc_cv (clone144_c (id := 6) (l := a1) rfl p23) (.cons (cv_lst rfl rfl rfl rfl rfl (Eq.symm rfl)) .nil)))) ?_; rintro _ _ ⟨v24, rfl, rfl⟩
  refine rs_freeze 6 rfl ?_
  refine tr tbk 5 (.mk ?_)
  refine jn h2 [0, 3, 4, 5] [1, 2, 3, 5, 6] (fun (a : Bool) (k : Unit) => [(9, boo a)]) (fun a k => []) ⟨fun j25 h3 => ?_, ?_⟩
  refine tc tbk 3 (.mk ?_)
  refine nb tbk h3 fun x26 h3 => ?_
  refine tr tbk 1 (.mk ?_)
  cases x26
  replace h3 := cf h3
  refine tr tbk 2 (.mk ?_)
  refine nb tbk h3 fun x27 h3 => ?_
  refine tr tbk 3 (.mk ?_)
  exact lf h3 () leA
  replace h3 := ct h3
  refine tr tbk 6 (.mk ?_)
  exact lf h3 () leA
  rintro y3_1 _ h2
  cases y3_1
  replace h2 := cf h2
  refine tc tbk 4 (.mk ?_)
  refine rst rfl rfl rfl (yv_len_sl rfl Tryz.underlying66 rfl (.sl rfl rfl)) ?_
  refine nb tbk h2 fun x28 h2 => ?_
  refine tr tbk 2 (.mk ?_)
  cases x28
  replace h2 := cf h2
  refine tc tbk 4 (.mk ?_)
  refine c_drawE [0, 1, 0, 4, 15, 31] (fun i => bif Nat.beq i 2 then ([5]) else []) (fun i => bif Nat.beq i 4 then ([]) else [5]) (fun i => bif Nat.beq i 1 then (false) else bif Nat.beq i 4 then (false) else true) [0, 2, 3, 1, 4, 5] mixed (by kernel_rfl) ?_; intro K hK
  refine de_pure rfl rfl rfl rfl (fun H hH => yv_move rfl rfl) ?_
  refine de_pure rfl rfl rfl rfl (fun H hH => yv_load rfl sh46 rfl (.pt ((hH _ (by decide)).trans rfl) rfl rfl) rfl) ?_
  refine de_pure rfl rfl rfl rfl (fun H hH => yv_to (y := lst 3 GLayer.av ([(⟨a2.Qty, x12.1, a2.Profit⟩ : GLayer)] : List GLayer)) (yv_buildSlice (ps := [(0, _)]) (rows := [[int a2.Qty, int x12.1, int a2.Profit]]) rfl Tryz.underlying66 bz46 (.cons rfl .nil) (by kernel_rfl) rfl rfl rfl) rfl) ?_
  obtain ⟨p29, h2⟩ := asrt_e h2
  refine de_eff rfl rfl rfl rfl (yl_call rfl rfl (.cons rfl .nil) cal144 (pc_cv (clone144_c (id := 7) (l := a1) rfl p29) (.cons (cv_lst rfl rfl rfl rfl rfl (Eq.symm rfl)) .nil))) (by rintro _ _ ⟨v30, rfl, rfl⟩; exact ⟨rfl, trivial⟩) ?_; rintro _ _ ⟨v30, rfl, rfl⟩
  obtain ⟨x31, e31, h2⟩ := bnd_e h2
  obtain ⟨p32, h2⟩ := asrt_e h2
  refine de_eff rfl rfl rfl rfl (yl_appT (g := GLayer.av) (l := a1) (m := ([(⟨a2.Qty, x12.1, a2.Profit⟩ : GLayer)] : List GLayer)) .any rfl Tryz.underlying66 bz46 by46 rfl rfl rfl rfl rfl rfl rfl rfl rfl rfl (Eq.symm rfl) (.refl _) (fun _ => rfl) e31 p32) (by rintro _ _ ⟨v33, -, rfl, rfl⟩; exact trivial) ?_; rintro _ _ ⟨v33, -, rfl, rfl⟩
  refine de_pure rfl rfl rfl rfl (fun H hH => yv_assign rfl rfl) ?_
  refine de_nil (hK _ ?_)
  refine tc tbk 4 (.mk ?_)
  obtain ⟨x34, e34, h2⟩ := bind_e h2
  refine rst rfl rfl rfl (yv_callT (v := boo x34) rfl rfl (.cons rfl .nil) cal188 (.cons (cv_lst rfl rfl rfl rfl rfl (Eq.symm rfl)) .nil) (d_fifo_Right_c e34) rfl) ?_
  refine nb tbk h2 fun x35 h2 => ?_
  refine tr tbk 1 (.mk ?_)
  cases x35
  replace h2 := cf h2
  refine tc tbk 8 (.mk ?_)
  obtain rfl := nxt_e h2
  refine w_ret (hret _ _ (hk [(1, ⟨46, 3, true, true, v4, [[int a2.Qty, int x12.1, int a2.Profit]]⟩), (2, ⟨46, 3, false, true, v6, a1.map GLayer.av⟩), (3, ⟨46, 3, true, true, v18, [[int a2.Qty, int x12.1, int a2.Profit]]⟩), (7, ⟨46, 3, true, true, v33, x31.map GLayer.av⟩)]) (.tmp rfl (.tmp rfl .nil)) (HK.le ⟨rfl, rfl, rfl, rfl, trivial⟩) ?_)
  exact (.inl ⟨x31, v33, rfl, rfl, rfl⟩)
  replace h2 := ct h2
  refine tc tbk 7 (.mk ?_)
  obtain rfl := nxt_e h2
  refine w_ret (hret _ _ (hk [(1, ⟨46, 3, true, true, v4, [[int a2.Qty, int x12.1, int a2.Profit]]⟩), (2, ⟨46, 3, false, true, v6, a1.map GLayer.av⟩), (3, ⟨46, 3, true, true, v18, [[int a2.Qty, int x12.1, int a2.Profit]]⟩), (6, ⟨46, 3, false, true, v24, a1.map GLayer.av⟩)]) (.tmp rfl (.tmp rfl .nil)) (HK.le ⟨rfl, rfl, rfl, rfl, trivial⟩) ?_)
  exact (.inr ⟨2, v24, rfl, rfl, rfl⟩)
  replace h2 := ct h2
  refine tc tbk 7 (.mk ?_)
  obtain rfl := nxt_e h2
  refine w_ret (hret _ _ (hk [(1, ⟨46, 3, true, true, v4, [[int a2.Qty, int x12.1, int a2.Profit]]⟩), (2, ⟨46, 3, false, true, v6, a1.map GLayer.av⟩), (3, ⟨46, 3, true, true, v18, [[int a2.Qty, int x12.1, int a2.Profit]]⟩), (6, ⟨46, 3, false, true, v24, a1.map GLayer.av⟩)]) (.tmp rfl (.tmp rfl .nil)) (HK.le ⟨rfl, rfl, rfl, rfl, trivial⟩) ?_)
  exact (.inr ⟨6, v24, rfl, rfl, rfl⟩)
  replace h2 := ct h2
  refine tc tbk 7 (.mk ?_)
  obtain rfl := nxt_e h2
  refine w_ret (hret _ _ (hk [(1, ⟨46, 3, true, true, v4, [[int a2.Qty, int x12.1, int a2.Profit]]⟩), (2, ⟨46, 3, false, true, v6, a1.map GLayer.av⟩), (3, ⟨46, 3, true, true, v18, [[int a2.Qty, int x12.1, int a2.Profit]]⟩), (6, ⟨46, 3, false, true, v24, a1.map GLayer.av⟩)]) (.tmp rfl (.tmp rfl .nil)) (HK.le ⟨rfl, rfl, rfl, rfl, trivial⟩) ?_)
  exact (.inr ⟨1, v24, rfl, rfl, rfl⟩)
  rintro y _ (⟨y4_2, w4_1, rfl, hc, rfl⟩ | ⟨y5_2, w5_1, rfl, hc, rfl⟩)
  replace h1 := selr_l h1
  subst hc
  refine de_pure rfl rfl rfl rfl (fun H hH => yv_move rfl rfl) ?_
  refine de_pure rfl rfl rfl rfl (fun H hH => yv_extract rfl rfl rfl) ?_
  refine de_pure rfl rfl rfl rfl (fun H hH => yv_extract rfl rfl rfl) ?_
  refine de_pure rfl rfl rfl rfl (fun H hH => yv_assign rfl rfl) ?_
  refine de_pure rfl rfl rfl rfl (fun H hH => yv_assign rfl rfl) ?_
  refine de_nil (hK _ ?_)
  refine tc tbk 4 (.mk ?_)
  refine rst rfl rfl rfl (yv_to (y := boo false) (yv_neq rfl rfl rfl) (congrArg boo (by decide))) ?_
  refine tr tbk 5 (.mk ?_)
  obtain ⟨j36, h2, h1⟩ := bind_e h1
  refine rse (Out := fun y H' => (∃ (a : Unit) (k : Unit), a = j36 ∧ y = .agg [.fn (.func 186) [] [], .fn (.func 187) [] [], .fn (.func 115) [] []] ∧ H' = hk [(1, ⟨46, 3, true, true, v4, [[int a2.Qty, int x12.1, int a2.Profit]]⟩), (2, ⟨46, 3, false, true, v6, a1.map GLayer.av⟩), (3, ⟨46, 3, true, true, v18, [[int a2.Qty, int x12.1, int a2.Profit]]⟩), (7, ⟨46, 3, true, true, w4_1, y4_2.map GLayer.av⟩)])) rfl rfl rfl (yl_call rfl rfl .nil cal198 ?_) ?_
  refine pcw (c := _) Tryz.func198 rfl rfl ?_; intro Q hret hnorm
  refine tc tbk 2 (.mk ?_)
  refine rse rfl rfl rfl (yl_alloc 8 .any rfl z235 rfl) ?_; rintro _ _ ⟨v37, -, rfl, rfl⟩
  refine tr tbk 4 (.mk ?_)
  refine rsstore rfl rfl (yl_ob (ob' := (⟨235, 3, true, true, v37, [[.fn (.func 186) [] [], .fn (.func 187) [] [], .fn (.func 115) [] []]]⟩ : AObj)) (yl_store rfl sh235 rfl rfl rfl rfl rfl rfl rfl rfl rfl) rfl) ?_
  refine tr tbk 1 (.mk ?_)
  obtain rfl := nxt_e h2
  refine w_ret (hret _ _ (hk [(1, ⟨46, 3, true, true, v4, [[int a2.Qty, int x12.1, int a2.Profit]]⟩), (2, ⟨46, 3, false, true, v6, a1.map GLayer.av⟩), (3, ⟨46, 3, true, true, v18, [[int a2.Qty, int x12.1, int a2.Profit]]⟩), (7, ⟨46, 3, true, true, w4_1, y4_2.map GLayer.av⟩)]) (.cell rfl (.pt rfl rfl rfl) sh235 rfl .nil) (HK.le ⟨rfl, rfl, rfl, rfl, trivial⟩) ?_)
  exact ⟨(), (), rfl, rfl, rfl⟩
  rintro y _ ⟨_, _, rfl, hc, rfl⟩
  subst hc
  refine tr tbk 2 (.mk ?_)
  obtain ⟨x38, e38, h1⟩ := bind_e h1
  refine rst rfl rfl rfl (yv_callT (v := .tup [.agg [int x38.1.Qty, int x38.1.Value, int x38.1.Profit], int x38.2]) rfl rfl (.cons rfl .nil) cal115 (.cons (cv_lst rfl rfl rfl rfl rfl (Eq.symm rfl)) .nil) (d_fifo_Total_c e38) rfl) ?_
  refine tr tbk 3 (.mk ?_)
  refine rse rfl rfl rfl (yl_alloc 9 .any rfl z46 rfl) ?_; rintro _ _ ⟨v39, -, rfl, rfl⟩
  refine rsstore rfl rfl (yl_ob (ob' := (⟨46, 3, true, true, v39, [[int x38.1.Qty, int x38.1.Value, int x38.1.Profit]]⟩ : AObj)) (yl_store rfl sh46 rfl rfl rfl rfl rfl rfl rfl rfl rfl) rfl) ?_
  refine tr tbk 6 (.mk ?_)
  refine nb tbk h1 fun x40 h1 => ?_
  refine tr tbk 1 (.mk ?_)
  cases x40
  replace h1 := cf h1
  refine tc tbk 5 (.mk ?_)
  refine rst rfl rfl rfl (yv_to (y := lst 3 GLayer.av ([x38.1] : List GLayer)) (yv_buildSlice (ps := [(0, _)]) (rows := [[int x38.1.Qty, int x38.1.Value, int x38.1.Profit]]) rfl Tryz.underlying66 bz46 (.cons rfl .nil) (by kernel_rfl) rfl rfl rfl) rfl) ?_
  refine tr tbk 3 (.mk ?_)
  obtain rfl := nxt_e h1
  refine w_ret (hret _ _ (hk [(1, ⟨46, 3, true, true, v4, [[int a2.Qty, int x12.1, int a2.Profit]]⟩), (2, ⟨46, 3, false, true, v6, a1.map GLayer.av⟩)]) (.tmp rfl (.tmp rfl .nil)) (HK.le ⟨rfl, rfl, trivial⟩) ?_)
  exact (.inl ⟨([x38.1] : List GLayer), (), rfl, rfl, rfl⟩)
  replace h1 := ct h1
  refine tc tbk 4 (.mk ?_)
  obtain ⟨p41, h1⟩ := asrt_e h1
  refine rse rfl rfl rfl (yl_app0T (g := GLayer.av) (m := a1) 10 rfl Tryz.underlying66 bz46 by46 rfl rfl rfl rfl (cv_lst rfl rfl rfl rfl rfl (Eq.symm rfl)) (fun _ => rfl) p41) ?_; rintro _ _ ⟨v42, rfl, rfl⟩
  refine tr tbk 4 (.mk ?_)
  obtain rfl := nxt_e h1
  refine w_ret (hret _ _ (hk [(1, ⟨46, 3, true, true, v4, [[int a2.Qty, int x12.1, int a2.Profit]]⟩), (2, ⟨46, 3, false, true, v6, a1.map GLayer.av⟩), (10, ⟨46, 3, true, true, v42, a1.map GLayer.av⟩)]) (.tmp rfl (.tmp rfl .nil)) (HK.le ⟨rfl, rfl, rfl, trivial⟩) ?_)
  exact (.inr (.inl ⟨x38.2, v42, rfl, rfl, rfl⟩))
  replace h1 := selr_r h1
  subst hc
  refine de_pure rfl rfl rfl rfl (fun H hH => yv_move rfl rfl) ?_
  refine de_pure rfl rfl rfl rfl (fun H hH => yv_extract rfl rfl rfl) ?_
  refine de_pure rfl rfl rfl rfl (fun H hH => yv_extract rfl rfl rfl) ?_
  refine de_pure rfl rfl rfl rfl (fun H hH => yv_assign rfl rfl) ?_
  refine de_pure rfl rfl rfl rfl (fun H hH => yv_assign rfl rfl) ?_
  refine de_nil (hK _ ?_)
  refine tc tbk 4 (.mk ?_)
  refine nb tbk h1 fun x43 h1 => ?_
  refine tr tbk 1 (.mk ?_)
  cases x43
  replace h1 := cf h1
  refine tc tbk 4 (.mk ?_)
  obtain ⟨j44, h2, h1⟩ := bind_e h1
  refine rse (Out := fun y H' => (∃ (a : Unit) (k : Unit), a = j44 ∧ y = .agg [.fn (.func 186) [] [], .fn (.func 187) [] [], .fn (.func 115) [] []] ∧ H' = hk [(1, ⟨46, 3, true, true, v4, [[int a2.Qty, int x12.1, int a2.Profit]]⟩), (2, ⟨46, 3, false, true, v6, a1.map GLayer.av⟩), (3, ⟨46, 3, true, true, v18, [[int a2.Qty, int x12.1, int a2.Profit]]⟩), (6, ⟨46, 3, false, true, w5_1, a1.map GLayer.av⟩)])) rfl rfl rfl (yl_call rfl rfl .nil cal198 ?_) ?_
  refine pcw (c := _) Tryz.func198 rfl rfl ?_; intro Q hret hnorm
  refine tc tbk 2 (.mk ?_)
  refine rse rfl rfl rfl (yl_alloc 8 .any rfl z235 rfl) ?_; rintro _ _ ⟨v45, -, rfl, rfl⟩
  refine tr tbk 4 (.mk ?_)
  refine rsstore rfl rfl (yl_ob (ob' := (⟨235, 3, true, true, v45, [[.fn (.func 186) [] [], .fn (.func 187) [] [], .fn (.func 115) [] []]]⟩ : AObj)) (yl_store rfl sh235 rfl rfl rfl rfl rfl rfl rfl rfl rfl) rfl) ?_
  refine tr tbk 1 (.mk ?_)
  obtain rfl := nxt_e h2
  refine w_ret (hret _ _ (hk [(1, ⟨46, 3, true, true, v4, [[int a2.Qty, int x12.1, int a2.Profit]]⟩), (2, ⟨46, 3, false, true, v6, a1.map GLayer.av⟩), (3, ⟨46, 3, true, true, v18, [[int a2.Qty, int x12.1, int a2.Profit]]⟩), (6, ⟨46, 3, false, true, w5_1, a1.map GLayer.av⟩)]) (.cell rfl (.pt rfl rfl rfl) sh235 rfl .nil) (HK.le ⟨rfl, rfl, rfl, rfl, trivial⟩) ?_)
  exact ⟨(), (), rfl, rfl, rfl⟩
  rintro y _ ⟨_, _, rfl, hc, rfl⟩
  subst hc
  refine tr tbk 2 (.mk ?_)
  obtain ⟨x46, e46, h1⟩ := bind_e h1
  refine rst rfl rfl rfl (yv_callP rfl rfl (.cons rfl .nil) cal115 (.cons (cv_lst rfl rfl rfl rfl rfl (Eq.symm rfl)) .nil) (d_fifo_Total_c e46)) ?_
  refine tr tbk 3 (.mk ?_)
  refine rse rfl rfl rfl (yl_alloc 9 .any rfl z46 rfl) ?_; rintro _ _ ⟨v47, -, rfl, rfl⟩
  refine rsstore rfl rfl (yl_ob (ob' := (⟨46, 3, true, true, v47, [[int x46.1.Qty, int x46.1.Value, int x46.1.Profit]]⟩ : AObj)) (yl_store rfl sh46 rfl rfl rfl rfl rfl rfl rfl rfl rfl) rfl) ?_
  refine tr tbk 6 (.mk ?_)
  refine nb tbk h1 fun x48 h1 => ?_
  refine tr tbk 1 (.mk ?_)
  cases x48
  replace h1 := cf h1
  refine tc tbk 5 (.mk ?_)
  refine rst rfl rfl rfl (yv_to (y := lst 3 GLayer.av ([x46.1] : List GLayer)) (yv_buildSlice (ps := [(0, _)]) (rows := [[int x46.1.Qty, int x46.1.Value, int x46.1.Profit]]) rfl Tryz.underlying66 bz46 (.cons rfl .nil) (by kernel_rfl) rfl rfl rfl) rfl) ?_
  refine tr tbk 3 (.mk ?_)
  obtain rfl := nxt_e h1
  refine w_ret (hret _ _ (hk [(1, ⟨46, 3, true, true, v4, [[int a2.Qty, int x12.1, int a2.Profit]]⟩), (2, ⟨46, 3, false, true, v6, a1.map GLayer.av⟩)]) (.tmp rfl (.tmp rfl .nil)) (HK.le ⟨rfl, rfl, trivial⟩) ?_)
  exact (.inl ⟨([x46.1] : List GLayer), (), rfl, rfl, rfl⟩)
  replace h1 := ct h1
  refine tc tbk 4 (.mk ?_)
  obtain ⟨p49, h1⟩ := asrt_e h1
  refine rse rfl rfl rfl (yl_app0T (g := GLayer.av) (m := a1) 10 rfl Tryz.underlying66 bz46 by46 rfl rfl rfl rfl (cv_lst rfl rfl rfl rfl rfl (Eq.symm rfl)) (fun _ => rfl) p49) ?_; rintro _ _ ⟨v50, rfl, rfl⟩
  refine tr tbk 4 (.mk ?_)
  obtain rfl := nxt_e h1
  refine w_ret (hret _ _ (hk [(1, ⟨46, 3, true, true, v4, [[int a2.Qty, int x12.1, int a2.Profit]]⟩), (2, ⟨46, 3, false, true, v6, a1.map GLayer.av⟩), (10, ⟨46, 3, true, true, v50, a1.map GLayer.av⟩)]) (.tmp rfl (.tmp rfl .nil)) (HK.le ⟨rfl, rfl, rfl, trivial⟩) ?_)
  exact (.inr (.inl ⟨x46.2, v50, rfl, rfl, rfl⟩))
  replace h1 := ct h1
  refine tc tbk 8 (.mk ?_)
  obtain rfl := nxt_e h1
  refine w_ret (hret _ _ (hk [(1, ⟨46, 3, true, true, v4, [[int a2.Qty, int x12.1, int a2.Profit]]⟩), (2, ⟨46, 3, false, true, v6, a1.map GLayer.av⟩), (6, ⟨46, 3, false, true, w5_1, a1.map GLayer.av⟩)]) (.tmp rfl (.tmp rfl .nil)) (HK.le ⟨rfl, rfl, rfl, trivial⟩) ?_)
  exact (.inr (.inr ⟨y5_2, w5_1, rfl, rfl, rfl⟩))
  rintro y _ (⟨y10_1, _, rfl, hc, rfl⟩ | ⟨y11_2, w11_1, rfl, hc, rfl⟩ | ⟨y12_2, w12_1, rfl, hc, rfl⟩)
  replace h0 := selr_l h0
  subst hc
  refine tr tbk 10 (.mk ?_)
  refine rst rfl rfl rfl (yv_to (y := boo false) (yv_neq rfl rfl rfl) (congrArg boo (by decide))) ?_
  refine tr tbk 11 (.mk ?_)
  obtain rfl := nxt_e h0
  refine w_ret (hret _ _ _ (.tmp rfl (.tmp rfl (.tmp rfl .nil))) (fun _ _ h => h) ?_)
  exact .refl _
  replace h0 := selr_r h0
  replace h0 := selr_l h0
  subst hc
  refine tr tbk 10 (.mk ?_)
  refine nb tbk h0 fun x51 h0 => ?_
  refine tr tbk 1 (.mk ?_)
  cases x51
  replace h0 := cf h0
  refine tc tbk 10 (.mk ?_)
  obtain rfl := nxt_e h0
  refine w_ret (hret _ _ _ (.tmp rfl (.tmp rfl (.tmp rfl .nil))) (fun _ _ h => h) ?_)
  exact CvL.tup (.cons (cv_lst rfl rfl rfl rfl rfl (Eq.symm rfl)) (.cons (.refl _) (.cons (.refl _) .nil)))
  replace h0 := ct h0
  refine tc tbk 9 (.mk ?_)
  obtain rfl := nxt_e h0
  refine w_ret (hret _ _ _ (.tmp rfl (.tmp rfl (.tmp rfl .nil))) (fun _ _ h => h) ?_)
  exact CvL.tup (.cons (cv_lst rfl rfl rfl rfl rfl (Eq.symm rfl)) (.cons (.refl _) (.cons (.refl _) .nil)))
  replace h0 := selr_r h0
  replace h0 := selr_r h0
  subst hc
  refine tr tbk 10 (.mk ?_)
  refine nb tbk h0 fun x52 h0 => ?_
  refine tr tbk 1 (.mk ?_)
  cases x52
  replace h0 := cf h0
  refine tc tbk 10 (.mk ?_)
  obtain rfl := nxt_e h0
  refine w_ret (hret _ _ _ (.tmp rfl (.tmp rfl (.tmp rfl .nil))) (fun _ _ h => h) ?_)
  exact CvL.tup (.cons (cv_lst rfl rfl rfl rfl rfl (Eq.symm rfl)) (.cons (.refl _) (.cons (.refl _) .nil)))
  replace h0 := ct h0
  refine tc tbk 9 (.mk ?_)
  obtain rfl := nxt_e h0
  refine w_ret (hret _ _ _ (.tmp rfl (.tmp rfl (.tmp rfl .nil))) (fun _ _ h => h) ?_)
  exact CvL.tup (.cons (cv_lst rfl rfl rfl rfl rfl (Eq.symm rfl)) (.cons (.refl _) (.cons (.refl _) .nil)))
  replace h0 := ct h0
  refine tc tbk 8 (.mk ?_)
  obtain rfl := nxt_e h0
  refine w_ret (hret _ _ _ (.tmp rfl (.tmp rfl (.tmp rfl .nil))) (fun _ _ h => h) ?_)
  exact CvL.tup (.cons (cv_lst rfl rfl rfl rfl rfl (Eq.symm rfl)) (.cons (.refl _) (.cons (.refl _) .nil)))
  replace h0 := ct h0
  refine tc tbk 8 (.mk ?_)
  obtain rfl := nxt_e h0
  refine w_ret (hret _ _ _ (.tmp rfl (.tmp rfl (.tmp rfl .nil))) (fun _ _ h => h) ?_)
  exact CvL.tup (.cons (cv_lst rfl rfl rfl rfl rfl (Eq.symm rfl)) (.cons (.refl _) (.cons (.refl _) .nil)))
def d_pavg_own (a1 : GPool) (a2 : List GLayer) : Option (GPool) :=
asrt (a2.length ≤ 68719476736) <|
some (((⟨a2, a1.Pend⟩ : GPool) : GPool))
theorem d_pavg_own_c {a1 : GPool} {a2 : List GLayer} {r : GPool} (h0 : d_pavg_own a1 a2 = some r) : PP Tryz.prog 142 [.agg (GPool.av a1), lst 3 GLayer.av a2] (fun y => y = .agg (GPool.av r)) := by
  unfold d_pavg_own at h0
  refine pp_of_pc (R0 := fun y H => Cv (frzH H) y (.agg (GPool.av r))) ?_ (fun y H hc => ⟨_, rfl, (fun (a : GPool) => PV.agg (GPool.pvc a)) r, hc⟩)
  refine pcw (c := _) Tryz.func142 rfl rfl ?_; intro Q hret hnorm
  refine tc tbk 2 (.mk ?_)
  refine rse rfl rfl rfl (yl_box 1 .any rfl rfl rfl) ?_; rintro _ _ ⟨v3, -, rfl, rfl⟩
  refine rse rfl rfl rfl (yl_alloc 2 .any rfl z69 rfl) ?_; rintro _ _ ⟨v4, -, rfl, rfl⟩
  refine tr tbk 4 (.mk ?_)
  obtain ⟨p5, h0⟩ := asrt_e h0
  refine rse rfl rfl rfl (yl_app0T (g := GLayer.av) (m := a2) 3 rfl Tryz.underlying66 bz46 by46 rfl rfl rfl rfl (.refl _) (fun _ => rfl) p5) ?_; rintro _ _ ⟨v6, rfl, rfl⟩
  refine tr tbk 1 (.mk ?_)
  refine rsstore rfl rfl (yl_ob (ob' := (⟨69, 4, true, true, v3, [[.sl 3 v6 0 a2.length, int a1.Pend.a0, int a1.Pend.a1, int a1.Pend.a2]]⟩ : AObj)) (yl_store rfl sh66 rfl rfl rfl rfl rfl rfl rfl rfl rfl) rfl) ?_
  refine tr tbk 4 (.mk ?_)
  refine rsstore rfl rfl (yl_ob (ob' := (⟨69, 4, true, true, v4, [[.sl 3 v6 0 a2.length, int a1.Pend.a0, int a1.Pend.a1, int a1.Pend.a2]]⟩ : AObj)) (yl_store rfl sh69 rfl rfl rfl rfl rfl rfl rfl rfl rfl) rfl) ?_
  refine tr tbk 1 (.mk ?_)
  obtain rfl := nxt_e h0
  refine w_ret (hret _ _ _ (.cell rfl (.pt rfl rfl rfl) sh69 rfl .nil) (fun _ _ h => h) ?_)
  exact (CvL.agg (.cons (cv_lst rfl rfl rfl rfl rfl (Eq.symm rfl)) (.cons (.refl _) (.cons (.refl _) (.cons (.refl _) .nil)))))
def d_pavg_In (n : Nat) (a1 : GPool) (a2 : GLayer) : Option (GPool × Int) :=
(d_mavg_In n a1.Layers a2).bind fun (x6 : (List GLayer) × Int) =>
(d_pavg_own a1 x6.1).bind fun (x7 : GPool) =>
some ((x7 : GPool), (x6.2 : Int))
theorem d_pavg_In_c {n : Nat} {a1 : GPool} {a2 : GLayer} {r : GPool × Int} (h0 : d_pavg_In n a1 a2 = some r) : PP Tryz.prog 201 [.agg (GPool.av a1), .agg (GLayer.av a2)] (fun y => y = .tup [.agg (GPool.av r.1), int r.2]) := by
  unfold d_pavg_In at h0
  refine pp_of_pc (R0 := fun y H => Cv (frzH H) y (.tup [.agg (GPool.av r.1), int r.2])) ?_ (fun y H hc => ⟨_, rfl, .tup (pvl2 ((fun (a : GPool) => PV.agg (GPool.pvc a)) (r.1)) (pvI (r.2))), hc⟩)
  refine pcw (c := _) Tryz.func201 rfl rfl ?_; intro Q hret hnorm
  refine tc tbk 2 (.mk ?_)
  refine rse rfl rfl rfl (yl_box 1 .any rfl rfl rfl) ?_; rintro _ _ ⟨v3, -, rfl, rfl⟩
  refine rse rfl rfl rfl (yl_box 2 .any rfl rfl rfl) ?_; rintro _ _ ⟨v4, -, rfl, rfl⟩
  refine rse rfl rfl rfl (yl_alloc 3 .any rfl z69 rfl) ?_; rintro _ _ ⟨v5, -, rfl, rfl⟩
  refine tr tbk 7 (.mk ?_)
  obtain ⟨x6, e6, h0⟩ := bind_e h0
  refine rst rfl rfl rfl (yv_callP rfl rfl (.cons rfl (.cons rfl .nil)) cal196 (CvL.refl _) (d_mavg_In_c e6)) ?_
  refine tr tbk 10 (.mk ?_)
  obtain ⟨x7, e7, h0⟩ := bind_e h0
  refine rst rfl rfl rfl (yv_callP rfl rfl (.cons rfl (.cons rfl .nil)) cal142 (CvL.refl _) (d_pavg_own_c e7)) ?_
  refine tr tbk 1 (.mk ?_)
  refine rsstore rfl rfl (yl_ob (ob' := (⟨69, 4, true, true, v5, [[lst 3 GLayer.av x7.Layers, int x7.Pend.a0, int x7.Pend.a1, int x7.Pend.a2]]⟩ : AObj)) (yl_store rfl sh69 rfl rfl rfl rfl rfl rfl rfl rfl rfl) rfl) ?_
  refine tr tbk 2 (.mk ?_)
  obtain rfl := nxt_e h0
  refine w_ret (hret _ _ _ (.cell rfl (.pt rfl rfl rfl) sh69 rfl (.tmp rfl .nil)) (fun _ _ h => h) ?_)
  exact .refl _
def d_pool_In (n : Nat) (a1 : Int) (a2 : Int) (a3 : GPool) (a4 : GLayer) : Option (GPool × Int × Int) :=
(show Option ((Unit) ⊕ (Unit) ⊕ (Unit) ⊕ (Unit) ⊕ (Unit)) from
bnd (decide (a1 = 1)) fun (x9 : Bool) =>
cond x9 (some (.inr (.inr (.inr (.inr ()))))) (bnd (decide (a1 = 2)) fun (x10 : Bool) =>
cond x10 (some (.inr (.inr (.inr (.inl ()))))) (bnd (decide (a1 = 3)) fun (x11 : Bool) =>
cond x11 (some (.inr (.inr (.inl ())))) (bnd (decide (a1 = 4)) fun (x12 : Bool) =>
cond x12 (some (.inr (.inl ()))) (some (.inl ())))))).bind <| selr (fun (_ : Unit) =>
(d_pool_own a3).bind fun (x13 : GPool) =>
some ((x13 : GPool), (0 : Int), (12 : Int))) <| selr (fun (_ : Unit) =>
(show Option ((GPool × Int × Int)) from
(d_stdcost_In n a3.Layers a4 a2).bind fun (x19 : (List GLayer) × Int × Int) =>
(d_pool_with a3 x19.1).bind fun (x20 : GPool) =>
some ((x20 : GPool), (x19.2.1 : Int), (x19.2.2 : Int))).bind <| p2 fun (y5_1 : GPool) (q0 : Int × Int) => (p2 fun (y5_2 : Int) (y5_3 : Int) =>
bnd (decide (y5_3 ≠ 0)) fun (x22 : Bool) =>
cond x22 ((d_pool_own a3).bind fun (x23 : GPool) =>
some ((x23 : GPool), (0 : Int), (y5_3 : Int))) (some ((y5_1 : GPool), (y5_2 : Int), (0 : Int)))) q0) <| selr (fun (_ : Unit) =>
(show Option ((GPool × Int)) from
(d_pavg_In n a3 a4).bind fun (x29 : GPool × Int) =>
some ((x29.1 : GPool), (x29.2 : Int))).bind <| p2 fun (y6_1 : GPool) (y6_2 : Int) =>
bnd (decide (y6_2 ≠ 0)) fun (x31 : Bool) =>
cond x31 ((d_pool_own a3).bind fun (x32 : GPool) =>
some ((x32 : GPool), (0 : Int), (y6_2 : Int))) (some ((y6_1 : GPool), (0 : Int), (0 : Int)))) <| selr (fun (_ : Unit) =>
(show Option ((GPool × Int)) from
(d_mavg_In n a3.Layers a4).bind fun (x38 : (List GLayer) × Int) =>
(d_pool_with a3 x38.1).bind fun (x39 : GPool) =>
some ((x39 : GPool), (x38.2 : Int))).bind <| p2 fun (y7_1 : GPool) (y7_2 : Int) =>
bnd (decide (y7_2 ≠ 0)) fun (x41 : Bool) =>
cond x41 ((d_pool_own a3).bind fun (x42 : GPool) =>
some ((x42 : GPool), (0 : Int), (y7_2 : Int))) (some ((y7_1 : GPool), (0 : Int), (0 : Int)))) <| fun (_ : Unit) =>
(show Option ((GPool × Int)) from
(d_fifo_In n a3.Layers a4).bind fun (x48 : (List GLayer) × Int) =>
(d_pool_with a3 x48.1).bind fun (x49 : GPool) =>
some ((x49 : GPool), (x48.2 : Int))).bind <| p2 fun (y8_1 : GPool) (y8_2 : Int) =>
bnd (decide (y8_2 ≠ 0)) fun (x51 : Bool) =>
cond x51 ((d_pool_own a3).bind fun (x52 : GPool) =>
some ((x52 : GPool), (0 : Int), (y8_2 : Int))) (some ((y8_1 : GPool), (0 : Int), (0 : Int)))
theorem d_pool_In_c {n : Nat} {a1 : Int} {a2 : Int} {a3 : GPool} {a4 : GLayer} {r : GPool × Int × Int} (h0 : d_pool_In n a1 a2 a3 a4 = some r) : PP Tryz.prog 73 [int a1, int a2, .agg (GPool.av a3), .agg (GLayer.av a4)] (fun y => y = .tup [.agg (GPool.av r.1), int r.2.1, int r.2.2]) := by
  unfold d_pool_In at h0
  refine pp_of_pc (R0 := fun y H => Cv (frzH H) y (.tup [.agg (GPool.av r.1), int r.2.1, int r.2.2])) ?_ (fun y H hc => ⟨_, rfl, .tup (pvl3 ((fun (a : GPool) => PV.agg (GPool.pvc a)) (r.1)) (pvI (r.2.1)) (pvI (r.2.2))), hc⟩)
  refine pcw (c := _) Tryz.func73 rfl rfl ?_; intro Q hret hnorm
  refine tc tbk 2 (.mk ?_)
  refine rse rfl rfl rfl (yl_box 1 .any rfl rfl rfl) ?_; rintro _ _ ⟨v5, -, rfl, rfl⟩
  refine rse rfl rfl rfl (yl_box 2 .any rfl rfl rfl) ?_; rintro _ _ ⟨v6, -, rfl, rfl⟩
  refine rse rfl rfl rfl (yl_alloc 3 .any rfl z69 rfl) ?_; rintro _ _ ⟨v7, -, rfl, rfl⟩
  refine tr tbk 7 (.mk ?_)
  obtain ⟨j8, h1, h0⟩ := bind_e h0
  refine rse (Out := fun y H' => (∃ (a : Unit) (k : Unit), (.inl a) = j8 ∧ y = .sc .nilIface ∧ H' = hk [(1, ⟨69, 4, true, true, v5, [[lst 3 GLayer.av a3.Layers, int a3.Pend.a0, int a3.Pend.a1, int a3.Pend.a2]]⟩), (2, ⟨46, 3, true, true, v6, [[int a4.Qty, int a4.Value, int a4.Profit]]⟩), (3, ⟨69, 4, true, true, v7, [[.sc (.slice none 0 0), int 0, int 0, int 0]]⟩)]) ∨ (∃ (a : Unit) (k : Unit), (.inr (.inl a)) = j8 ∧ y = .ifc 186 (.agg [int a2]) ∧ H' = hk [(1, ⟨69, 4, true, true, v5, [[lst 3 GLayer.av a3.Layers, int a3.Pend.a0, int a3.Pend.a1, int a3.Pend.a2]]⟩), (2, ⟨46, 3, true, true, v6, [[int a4.Qty, int a4.Value, int a4.Profit]]⟩), (3, ⟨69, 4, true, true, v7, [[.sc (.slice none 0 0), int 0, int 0, int 0]]⟩)]) ∨ (∃ (a : Unit) (k : Unit), (.inr (.inr (.inl a))) = j8 ∧ y = .ifc 184 (.agg []) ∧ H' = hk [(1, ⟨69, 4, true, true, v5, [[lst 3 GLayer.av a3.Layers, int a3.Pend.a0, int a3.Pend.a1, int a3.Pend.a2]]⟩), (2, ⟨46, 3, true, true, v6, [[int a4.Qty, int a4.Value, int a4.Profit]]⟩), (3, ⟨69, 4, true, true, v7, [[.sc (.slice none 0 0), int 0, int 0, int 0]]⟩)]) ∨ (∃ (a : Unit) (k : Unit), (.inr (.inr (.inr (.inl a)))) = j8 ∧ y = .ifc 183 (.agg []) ∧ H' = hk [(1, ⟨69, 4, true, true, v5, [[lst 3 GLayer.av a3.Layers, int a3.Pend.a0, int a3.Pend.a1, int a3.Pend.a2]]⟩), (2, ⟨46, 3, true, true, v6, [[int a4.Qty, int a4.Value, int a4.Profit]]⟩), (3, ⟨69, 4, true, true, v7, [[.sc (.slice none 0 0), int 0, int 0, int 0]]⟩)]) ∨ (∃ (a : Unit) (k : Unit), (.inr (.inr (.inr (.inr a)))) = j8 ∧ y = .ifc 182 (.agg []) ∧ H' = hk [(1, ⟨69, 4, true, true, v5, [[lst 3 GLayer.av a3.Layers, int a3.Pend.a0, int a3.Pend.a1, int a3.Pend.a2]]⟩), (2, ⟨46, 3, true, true, v6, [[int a4.Qty, int a4.Value, int a4.Profit]]⟩), (3, ⟨69, 4, true, true, v7, [[.sc (.slice none 0 0), int 0, int 0, int 0]]⟩)])) rfl rfl rfl (yl_call rfl rfl (.cons rfl (.cons rfl .nil)) cal113 ?_) ?_
  refine pcw (c := _) Tryz.func113 rfl rfl ?_; intro Q hret hnorm
  refine tc tbk 12 (.mk ?_)
  refine nb tbk h1 fun x9 h1 => ?_
  refine tr tbk 2 (.mk ?_)
  cases x9
  replace h1 := cf h1
  refine tc tbk 3 (.mk ?_)
  refine nb tbk h1 fun x10 h1 => ?_
  refine tr tbk 2 (.mk ?_)
  cases x10
  replace h1 := cf h1
  refine tc tbk 3 (.mk ?_)
  refine nb tbk h1 fun x11 h1 => ?_
  refine tr tbk 2 (.mk ?_)
  cases x11
  replace h1 := cf h1
  refine tc tbk 3 (.mk ?_)
  refine nb tbk h1 fun x12 h1 => ?_
  refine tr tbk 2 (.mk ?_)
  cases x12
  replace h1 := cf h1
  refine tc tbk 7 (.mk ?_)
  obtain rfl := nxt_e h1
  refine w_ret (hret _ _ (hk [(1, ⟨69, 4, true, true, v5, [[lst 3 GLayer.av a3.Layers, int a3.Pend.a0, int a3.Pend.a1, int a3.Pend.a2]]⟩), (2, ⟨46, 3, true, true, v6, [[int a4.Qty, int a4.Value, int a4.Profit]]⟩), (3, ⟨69, 4, true, true, v7, [[.sc (.slice none 0 0), int 0, int 0, int 0]]⟩)]) (.tmp rfl .nil) (HK.le ⟨rfl, rfl, rfl, trivial⟩) ?_)
  exact (.inl ⟨(), (), rfl, rfl, rfl⟩)
  replace h1 := ct h1
  refine tc tbk 5 (.mk ?_)
  refine rst rfl rfl rfl (yv_makeIface rfl Tryz.underlying186 (by intro _ h; cases h) rfl) ?_
  refine tr tbk 2 (.mk ?_)
  obtain rfl := nxt_e h1
  refine w_ret (hret _ _ (hk [(1, ⟨69, 4, true, true, v5, [[lst 3 GLayer.av a3.Layers, int a3.Pend.a0, int a3.Pend.a1, int a3.Pend.a2]]⟩), (2, ⟨46, 3, true, true, v6, [[int a4.Qty, int a4.Value, int a4.Profit]]⟩), (3, ⟨69, 4, true, true, v7, [[.sc (.slice none 0 0), int 0, int 0, int 0]]⟩)]) (.tmp rfl .nil) (HK.le ⟨rfl, rfl, rfl, trivial⟩) ?_)
  exact (.inr (.inl ⟨(), (), rfl, rfl, rfl⟩))
  replace h1 := ct h1
  refine tc tbk 4 (.mk ?_)
  refine rst rfl rfl rfl (yv_makeIface rfl Tryz.underlying184 (by intro _ h; cases h) rfl) ?_
  refine tr tbk 2 (.mk ?_)
  obtain rfl := nxt_e h1
  refine w_ret (hret _ _ (hk [(1, ⟨69, 4, true, true, v5, [[lst 3 GLayer.av a3.Layers, int a3.Pend.a0, int a3.Pend.a1, int a3.Pend.a2]]⟩), (2, ⟨46, 3, true, true, v6, [[int a4.Qty, int a4.Value, int a4.Profit]]⟩), (3, ⟨69, 4, true, true, v7, [[.sc (.slice none 0 0), int 0, int 0, int 0]]⟩)]) (.tmp rfl .nil) (HK.le ⟨rfl, rfl, rfl, trivial⟩) ?_)
  exact (.inr (.inr (.inl ⟨(), (), rfl, rfl, rfl⟩)))
  replace h1 := ct h1
  refine tc tbk 4 (.mk ?_)
  refine rst rfl rfl rfl (yv_makeIface rfl Tryz.underlying183 (by intro _ h; cases h) rfl) ?_
  refine tr tbk 2 (.mk ?_)
  obtain rfl := nxt_e h1
  refine w_ret (hret _ _ (hk [(1, ⟨69, 4, true, true, v5, [[lst 3 GLayer.av a3.Layers, int a3.Pend.a0, int a3.Pend.a1, int a3.Pend.a2]]⟩), (2, ⟨46, 3, true, true, v6, [[int a4.Qty, int a4.Value, int a4.Profit]]⟩), (3, ⟨69, 4, true, true, v7, [[.sc (.slice none 0 0), int 0, int 0, int 0]]⟩)]) (.tmp rfl .nil) (HK.le ⟨rfl, rfl, rfl, trivial⟩) ?_)
  exact (.inr (.inr (.inr (.inl ⟨(), (), rfl, rfl, rfl⟩))))
  replace h1 := ct h1
  refine tc tbk 4 (.mk ?_)
  refine rst rfl rfl rfl (yv_makeIface rfl Tryz.underlying182 (by intro _ h; cases h) rfl) ?_
  refine tr tbk 2 (.mk ?_)
  obtain rfl := nxt_e h1
  refine w_ret (hret _ _ (hk [(1, ⟨69, 4, true, true, v5, [[lst 3 GLayer.av a3.Layers, int a3.Pend.a0, int a3.Pend.a1, int a3.Pend.a2]]⟩), (2, ⟨46, 3, true, true, v6, [[int a4.Qty, int a4.Value, int a4.Profit]]⟩), (3, ⟨69, 4, true, true, v7, [[.sc (.slice none 0 0), int 0, int 0, int 0]]⟩)]) (.tmp rfl .nil) (HK.le ⟨rfl, rfl, rfl, trivial⟩) ?_)
  exact (.inr (.inr (.inr (.inr ⟨(), (), rfl, rfl, rfl⟩))))
  rintro y _ (⟨_, _, rfl, hc, rfl⟩ | ⟨_, _, rfl, hc, rfl⟩ | ⟨_, _, rfl, hc, rfl⟩ | ⟨_, _, rfl, hc, rfl⟩ | ⟨_, _, rfl, hc, rfl⟩)
  replace h0 := selr_l h0
  subst hc
  refine tr tbk 6 (.mk ?_)
  refine rst rfl rfl rfl (yv_ifeqN rfl Tryz.underlying149 rfl rfl) ?_
  refine tr tbk 5 (.mk ?_)
  obtain ⟨x13, e13, h0⟩ := bind_e h0
  refine rst rfl rfl rfl (yv_callP rfl rfl (.cons rfl .nil) cal114 (CvL.refl _) (d_pool_own_c e13)) ?_
  refine rsstore rfl rfl (yl_ob (ob' := (⟨69, 4, true, true, v7, [[lst 3 GLayer.av x13.Layers, int x13.Pend.a0, int x13.Pend.a1, int x13.Pend.a2]]⟩ : AObj)) (yl_store rfl sh69 rfl rfl rfl rfl rfl rfl rfl rfl rfl) rfl) ?_
  refine tr tbk 3 (.mk ?_)
  obtain rfl := nxt_e h0
  refine w_ret (hret _ _ _ (.cell rfl (.pt rfl rfl rfl) sh69 rfl (.tmp rfl (.tmp rfl .nil))) (fun _ _ h => h) ?_)
  exact .refl _
  replace h0 := selr_r h0
  replace h0 := selr_l h0
  subst hc
  refine tr tbk 6 (.mk ?_)
  refine rst rfl rfl rfl (yv_ifeq rfl Tryz.underlying149 rfl rfl) ?_
  refine tr tbk 8 (.mk ?_)
  obtain ⟨j14, h1, h0⟩ := bind_e h0
  refine rse (Out := fun y H' => (∃ (a : GPool × Int × Int) (k : Unit), a = j14 ∧ y = .tup [.agg [lst 3 GLayer.av a.1.Layers, int a.1.Pend.a0, int a.1.Pend.a1, int a.1.Pend.a2], int a.2.1, int a.2.2] ∧ H' = hk [(1, ⟨69, 4, true, true, v5, [[lst 3 GLayer.av a3.Layers, int a3.Pend.a0, int a3.Pend.a1, int a3.Pend.a2]]⟩), (2, ⟨46, 3, true, true, v6, [[int a4.Qty, int a4.Value, int a4.Profit]]⟩), (3, ⟨69, 4, true, true, v7, [[.sc (.slice none 0 0), int 0, int 0, int 0]]⟩)])) rfl rfl rfl (yl_callI rfl rfl mth186_203 (.cons rfl (.cons rfl .nil)) cal203 ?_) ?_
  refine pcw (c := _) Tryz.func203 rfl rfl ?_; intro Q hret hnorm
  refine tc tbk 2 (.mk ?_)
  refine rse rfl rfl rfl (yl_box 4 .any rfl rfl rfl) ?_; rintro _ _ ⟨v15, -, rfl, rfl⟩
  refine rse rfl rfl rfl (yl_box 5 .any rfl rfl rfl) ?_; rintro _ _ ⟨v16, -, rfl, rfl⟩
  refine rse rfl rfl rfl (yl_box 6 .any rfl rfl rfl) ?_; rintro _ _ ⟨v17, -, rfl, rfl⟩
  refine rse rfl rfl rfl (yl_alloc 7 .any rfl z69 rfl) ?_; rintro _ _ ⟨v18, -, rfl, rfl⟩
  refine tr tbk 10 (.mk ?_)
  obtain ⟨x19, e19, h1⟩ := bind_e h1
  refine rst rfl rfl rfl (yv_callP rfl rfl (.cons rfl (.cons rfl (.cons rfl .nil))) cal205 (CvL.refl _) (d_stdcost_In_c e19)) ?_
  refine tr tbk 12 (.mk ?_)
  obtain ⟨x20, e20, h1⟩ := bind_e h1
  refine rst rfl rfl rfl (yv_callP rfl rfl (.cons rfl (.cons rfl .nil)) cal145 (CvL.refl _) (d_pool_with_c e20)) ?_
  refine tr tbk 2 (.mk ?_)
  refine rsstore rfl rfl (yl_ob (ob' := (⟨69, 4, true, true, v18, [[lst 3 GLayer.av x20.Layers, int x20.Pend.a0, int x20.Pend.a1, int x20.Pend.a2]]⟩ : AObj)) (yl_store rfl sh69 rfl rfl rfl rfl rfl rfl rfl rfl rfl) rfl) ?_
  refine tr tbk 3 (.mk ?_)
  obtain rfl := nxt_e h1
  refine w_ret (hret _ _ (hk [(1, ⟨69, 4, true, true, v5, [[lst 3 GLayer.av a3.Layers, int a3.Pend.a0, int a3.Pend.a1, int a3.Pend.a2]]⟩), (2, ⟨46, 3, true, true, v6, [[int a4.Qty, int a4.Value, int a4.Profit]]⟩), (3, ⟨69, 4, true, true, v7, [[.sc (.slice none 0 0), int 0, int 0, int 0]]⟩)]) (.cell rfl (.pt rfl rfl rfl) sh69 rfl (.tmp rfl (.tmp rfl .nil))) (HK.le ⟨rfl, rfl, rfl, trivial⟩) ?_)
  exact ⟨(x20, x19.2.1, x19.2.2), (), rfl, rfl, rfl⟩
  rintro y _ ⟨⟨y5_1, y5_2, y5_3⟩, _, rfl, hc, rfl⟩
  replace h0 := p2_e h0
  replace h0 := p2_e h0
  subst hc
  refine tr tbk 4 (.mk ?_)
  refine rse rfl rfl rfl (yl_alloc 8 .any rfl z69 rfl) ?_; rintro _ _ ⟨v21, -, rfl, rfl⟩
  refine rsstore rfl rfl (yl_ob (ob' := (⟨69, 4, true, true, v21, [[lst 3 GLayer.av y5_1.Layers, int y5_1.Pend.a0, int y5_1.Pend.a1, int y5_1.Pend.a2]]⟩ : AObj)) (yl_store rfl sh69 rfl rfl rfl rfl rfl rfl rfl rfl rfl) rfl) ?_
  refine tr tbk 7 (.mk ?_)
  refine nb tbk h0 fun x22 h0 => ?_
  refine tr tbk 1 (.mk ?_)
  cases x22
  replace h0 := cf h0
  refine tc tbk 6 (.mk ?_)
  refine rsstore rfl rfl (yl_ob (ob' := (⟨69, 4, true, true, v7, [[lst 3 GLayer.av y5_1.Layers, int y5_1.Pend.a0, int y5_1.Pend.a1, int y5_1.Pend.a2]]⟩ : AObj)) (yl_store rfl sh69 rfl rfl rfl rfl rfl rfl rfl rfl rfl) rfl) ?_
  refine tr tbk 3 (.mk ?_)
  obtain rfl := nxt_e h0
  refine w_ret (hret _ _ _ (.cell rfl (.pt rfl rfl rfl) sh69 rfl (.tmp rfl (.tmp rfl .nil))) (fun _ _ h => h) ?_)
  exact .refl _
  replace h0 := ct h0
  refine tc tbk 4 (.mk ?_)
  obtain ⟨x23, e23, h0⟩ := bind_e h0
  refine rst rfl rfl rfl (yv_callP rfl rfl (.cons rfl .nil) cal114 (CvL.refl _) (d_pool_own_c e23)) ?_
  refine tr tbk 1 (.mk ?_)
  refine rsstore rfl rfl (yl_ob (ob' := (⟨69, 4, true, true, v7, [[lst 3 GLayer.av x23.Layers, int x23.Pend.a0, int x23.Pend.a1, int x23.Pend.a2]]⟩ : AObj)) (yl_store rfl sh69 rfl rfl rfl rfl rfl rfl rfl rfl rfl) rfl) ?_
  refine tr tbk 3 (.mk ?_)
  obtain rfl := nxt_e h0
  refine w_ret (hret _ _ _ (.cell rfl (.pt rfl rfl rfl) sh69 rfl (.tmp rfl (.tmp rfl .nil))) (fun _ _ h => h) ?_)
  exact .refl _
  replace h0 := selr_r h0
  replace h0 := selr_r h0
  replace h0 := selr_l h0
  subst hc
  refine tr tbk 6 (.mk ?_)
  refine rst rfl rfl rfl (yv_ifeq rfl Tryz.underlying149 rfl rfl) ?_
  refine tr tbk 8 (.mk ?_)
  obtain ⟨j24, h1, h0⟩ := bind_e h0
  refine rse (Out := fun y H' => (∃ (a : GPool × Int) (k : Unit), a = j24 ∧ y = .tup [.agg [lst 3 GLayer.av a.1.Layers, int a.1.Pend.a0, int a.1.Pend.a1, int a.1.Pend.a2], int 0, int a.2] ∧ H' = hk [(1, ⟨69, 4, true, true, v5, [[lst 3 GLayer.av a3.Layers, int a3.Pend.a0, int a3.Pend.a1, int a3.Pend.a2]]⟩), (2, ⟨46, 3, true, true, v6, [[int a4.Qty, int a4.Value, int a4.Profit]]⟩), (3, ⟨69, 4, true, true, v7, [[.sc (.slice none 0 0), int 0, int 0, int 0]]⟩)])) rfl rfl rfl (yl_callI rfl rfl mth184_199 (.cons rfl (.cons rfl .nil)) cal199 ?_) ?_
  refine pcw (c := _) Tryz.func199 rfl rfl ?_; intro Q hret hnorm
  refine tc tbk 2 (.mk ?_)
  refine rse rfl rfl rfl (yl_box 9 .any rfl rfl rfl) ?_; rintro _ _ ⟨v25, -, rfl, rfl⟩
  refine rse rfl rfl rfl (yl_box 10 .any rfl rfl rfl) ?_; rintro _ _ ⟨v26, -, rfl, rfl⟩
  refine rse rfl rfl rfl (yl_box 11 .any rfl rfl rfl) ?_; rintro _ _ ⟨v27, -, rfl, rfl⟩
  refine rse rfl rfl rfl (yl_alloc 12 .any rfl z69 rfl) ?_; rintro _ _ ⟨v28, -, rfl, rfl⟩
  refine tr tbk 7 (.mk ?_)
  obtain ⟨x29, e29, h1⟩ := bind_e h1
  refine rst rfl rfl rfl (yv_callP rfl rfl (.cons rfl (.cons rfl .nil)) cal201 (CvL.refl _) (d_pavg_In_c e29)) ?_
  refine tr tbk 3 (.mk ?_)
  refine rsstore rfl rfl (yl_ob (ob' := (⟨69, 4, true, true, v26, [[lst 3 GLayer.av x29.1.Layers, int x29.1.Pend.a0, int x29.1.Pend.a1, int x29.1.Pend.a2]]⟩ : AObj)) (yl_store rfl sh69 rfl rfl rfl rfl rfl rfl rfl rfl rfl) rfl) ?_
  refine tr tbk 6 (.mk ?_)
  refine rsstore rfl rfl (yl_ob (ob' := (⟨69, 4, true, true, v28, [[lst 3 GLayer.av x29.1.Layers, int x29.1.Pend.a0, int x29.1.Pend.a1, int x29.1.Pend.a2]]⟩ : AObj)) (yl_store rfl sh69 rfl rfl rfl rfl rfl rfl rfl rfl rfl) rfl) ?_
  refine tr tbk 3 (.mk ?_)
  obtain rfl := nxt_e h1
  refine w_ret (hret _ _ (hk [(1, ⟨69, 4, true, true, v5, [[lst 3 GLayer.av a3.Layers, int a3.Pend.a0, int a3.Pend.a1, int a3.Pend.a2]]⟩), (2, ⟨46, 3, true, true, v6, [[int a4.Qty, int a4.Value, int a4.Profit]]⟩), (3, ⟨69, 4, true, true, v7, [[.sc (.slice none 0 0), int 0, int 0, int 0]]⟩)]) (.cell rfl (.pt rfl rfl rfl) sh69 rfl (.tmp rfl (.tmp rfl .nil))) (HK.le ⟨rfl, rfl, rfl, trivial⟩) ?_)
  exact ⟨(x29.1, x29.2), (), rfl, rfl, rfl⟩
  rintro y _ ⟨⟨y6_1, y6_2⟩, _, rfl, hc, rfl⟩
  replace h0 := p2_e h0
  subst hc
  refine tr tbk 4 (.mk ?_)
  refine rse rfl rfl rfl (yl_alloc 8 .any rfl z69 rfl) ?_; rintro _ _ ⟨v30, -, rfl, rfl⟩
  refine rsstore rfl rfl (yl_ob (ob' := (⟨69, 4, true, true, v30, [[lst 3 GLayer.av y6_1.Layers, int y6_1.Pend.a0, int y6_1.Pend.a1, int y6_1.Pend.a2]]⟩ : AObj)) (yl_store rfl sh69 rfl rfl rfl rfl rfl rfl rfl rfl rfl) rfl) ?_
  refine tr tbk 7 (.mk ?_)
  refine nb tbk h0 fun x31 h0 => ?_
  refine tr tbk 1 (.mk ?_)
  cases x31
  replace h0 := cf h0
  refine tc tbk 6 (.mk ?_)
  refine rsstore rfl rfl (yl_ob (ob' := (⟨69, 4, true, true, v7, [[lst 3 GLayer.av y6_1.Layers, int y6_1.Pend.a0, int y6_1.Pend.a1, int y6_1.Pend.a2]]⟩ : AObj)) (yl_store rfl sh69 rfl rfl rfl rfl rfl rfl rfl rfl rfl) rfl) ?_
  refine tr tbk 3 (.mk ?_)
  obtain rfl := nxt_e h0
  refine w_ret (hret _ _ _ (.cell rfl (.pt rfl rfl rfl) sh69 rfl (.tmp rfl (.tmp rfl .nil))) (fun _ _ h => h) ?_)
  exact .refl _
  replace h0 := ct h0
  refine tc tbk 4 (.mk ?_)
  obtain ⟨x32, e32, h0⟩ := bind_e h0
  refine rst rfl rfl rfl (yv_callP rfl rfl (.cons rfl .nil) cal114 (CvL.refl _) (d_pool_own_c e32)) ?_
  refine tr tbk 1 (.mk ?_)
  refine rsstore rfl rfl (yl_ob (ob' := (⟨69, 4, true, true, v7, [[lst 3 GLayer.av x32.Layers, int x32.Pend.a0, int x32.Pend.a1, int x32.Pend.a2]]⟩ : AObj)) (yl_store rfl sh69 rfl rfl rfl rfl rfl rfl rfl rfl rfl) rfl) ?_
  refine tr tbk 3 (.mk ?_)
  obtain rfl := nxt_e h0
  refine w_ret (hret _ _ _ (.cell rfl (.pt rfl rfl rfl) sh69 rfl (.tmp rfl (.tmp rfl .nil))) (fun _ _ h => h) ?_)
  exact .refl _
  replace h0 := selr_r h0
  replace h0 := selr_r h0
  replace h0 := selr_r h0
  replace h0 := selr_l h0
  subst hc
  refine tr tbk 6 (.mk ?_)
  refine rst rfl rfl rfl (yv_ifeq rfl Tryz.underlying149 rfl rfl) ?_
  refine tr tbk 8 (.mk ?_)
  obtain ⟨j33, h1, h0⟩ := bind_e h0
  refine rse (Out := fun y H' => (∃ (a : GPool × Int) (k : Unit), a = j33 ∧ y = .tup [.agg [lst 3 GLayer.av a.1.Layers, int a.1.Pend.a0, int a.1.Pend.a1, int a.1.Pend.a2], int 0, int a.2] ∧ H' = hk [(1, ⟨69, 4, true, true, v5, [[lst 3 GLayer.av a3.Layers, int a3.Pend.a0, int a3.Pend.a1, int a3.Pend.a2]]⟩), (2, ⟨46, 3, true, true, v6, [[int a4.Qty, int a4.Value, int a4.Profit]]⟩), (3, ⟨69, 4, true, true, v7, [[.sc (.slice none 0 0), int 0, int 0, int 0]]⟩)])) rfl rfl rfl (yl_callI rfl rfl mth183_194 (.cons rfl (.cons rfl .nil)) cal194 ?_) ?_
  refine pcw (c := _) Tryz.func194 rfl rfl ?_; intro Q hret hnorm
  refine tc tbk 2 (.mk ?_)
  refine rse rfl rfl rfl (yl_box 13 .any rfl rfl rfl) ?_; rintro _ _ ⟨v34, -, rfl, rfl⟩
  refine rse rfl rfl rfl (yl_box 14 .any rfl rfl rfl) ?_; rintro _ _ ⟨v35, -, rfl, rfl⟩
  refine rse rfl rfl rfl (yl_box 15 .any rfl rfl rfl) ?_; rintro _ _ ⟨v36, -, rfl, rfl⟩
  refine rse rfl rfl rfl (yl_alloc 16 .any rfl z69 rfl) ?_; rintro _ _ ⟨v37, -, rfl, rfl⟩
  refine tr tbk 8 (.mk ?_)
  obtain ⟨x38, e38, h1⟩ := bind_e h1
  refine rst rfl rfl rfl (yv_callP rfl rfl (.cons rfl (.cons rfl .nil)) cal196 (CvL.refl _) (d_mavg_In_c e38)) ?_
  refine tr tbk 10 (.mk ?_)
  obtain ⟨x39, e39, h1⟩ := bind_e h1
  refine rst rfl rfl rfl (yv_callP rfl rfl (.cons rfl (.cons rfl .nil)) cal145 (CvL.refl _) (d_pool_with_c e39)) ?_
  refine tr tbk 1 (.mk ?_)
  refine rsstore rfl rfl (yl_ob (ob' := (⟨69, 4, true, true, v37, [[lst 3 GLayer.av x39.Layers, int x39.Pend.a0, int x39.Pend.a1, int x39.Pend.a2]]⟩ : AObj)) (yl_store rfl sh69 rfl rfl rfl rfl rfl rfl rfl rfl rfl) rfl) ?_
  refine tr tbk 3 (.mk ?_)
  obtain rfl := nxt_e h1
  refine w_ret (hret _ _ (hk [(1, ⟨69, 4, true, true, v5, [[lst 3 GLayer.av a3.Layers, int a3.Pend.a0, int a3.Pend.a1, int a3.Pend.a2]]⟩), (2, ⟨46, 3, true, true, v6, [[int a4.Qty, int a4.Value, int a4.Profit]]⟩), (3, ⟨69, 4, true, true, v7, [[.sc (.slice none 0 0), int 0, int 0, int 0]]⟩)]) (.cell rfl (.pt rfl rfl rfl) sh69 rfl (.tmp rfl (.tmp rfl .nil))) (HK.le ⟨rfl, rfl, rfl, trivial⟩) ?_)
  exact ⟨(x39, x38.2), (), rfl, rfl, rfl⟩
  rintro y _ ⟨⟨y7_1, y7_2⟩, _, rfl, hc, rfl⟩
  replace h0 := p2_e h0
  subst hc
  refine tr tbk 4 (.mk ?_)
  refine rse rfl rfl rfl (yl_alloc 8 .any rfl z69 rfl) ?_; rintro _ _ ⟨v40, -, rfl, rfl⟩
  refine rsstore rfl rfl (yl_ob (ob' := (⟨69, 4, true, true, v40, [[lst 3 GLayer.av y7_1.Layers, int y7_1.Pend.a0, int y7_1.Pend.a1, int y7_1.Pend.a2]]⟩ : AObj)) (yl_store rfl sh69 rfl rfl rfl rfl rfl rfl rfl rfl rfl) rfl) ?_
  refine tr tbk 7 (.mk ?_)
  refine nb tbk h0 fun x41 h0 => ?_
  refine tr tbk 1 (.mk ?_)
  cases x41
  replace h0 := cf h0
  refine tc tbk 6 (.mk ?_)
  refine rsstore rfl rfl (yl_ob (ob' := (⟨69, 4, true, true, v7, [[lst 3 GLayer.av y7_1.Layers, int y7_1.Pend.a0, int y7_1.Pend.a1, int y7_1.Pend.a2]]⟩ : AObj)) (yl_store rfl sh69 rfl rfl rfl rfl rfl rfl rfl rfl rfl) rfl) ?_
  refine tr tbk 3 (.mk ?_)
  obtain rfl := nxt_e h0
  refine w_ret (hret _ _ _ (.cell rfl (.pt rfl rfl rfl) sh69 rfl (.tmp rfl (.tmp rfl .nil))) (fun _ _ h => h) ?_)
  exact .refl _
  replace h0 := ct h0
  refine tc tbk 4 (.mk ?_)
  obtain ⟨x42, e42, h0⟩ := bind_e h0
  refine rst rfl rfl rfl (yv_callP rfl rfl (.cons rfl .nil) cal114 (CvL.refl _) (d_pool_own_c e42)) ?_
  refine tr tbk 1 (.mk ?_)
  refine rsstore rfl rfl (yl_ob (ob' := (⟨69, 4, true, true, v7, [[lst 3 GLayer.av x42.Layers, int x42.Pend.a0, int x42.Pend.a1, int x42.Pend.a2]]⟩ : AObj)) (yl_store rfl sh69 rfl rfl rfl rfl rfl rfl rfl rfl rfl) rfl) ?_
  refine tr tbk 3 (.mk ?_)
  obtain rfl := nxt_e h0
  refine w_ret (hret _ _ _ (.cell rfl (.pt rfl rfl rfl) sh69 rfl (.tmp rfl (.tmp rfl .nil))) (fun _ _ h => h) ?_)
  exact .refl _
  replace h0 := selr_r h0
  replace h0 := selr_r h0
  replace h0 := selr_r h0
  replace h0 := selr_r h0
  subst hc
  refine tr tbk 6 (.mk ?_)
  refine rst rfl rfl rfl (yv_ifeq rfl Tryz.underlying149 rfl rfl) ?_
  refine tr tbk 8 (.mk ?_)
  obtain ⟨j43, h1, h0⟩ := bind_e h0
  refine rse (Out := fun y H' => (∃ (a : GPool × Int) (k : Unit), a = j43 ∧ y = .tup [.agg [lst 3 GLayer.av a.1.Layers, int a.1.Pend.a0, int a.1.Pend.a1, int a.1.Pend.a2], int 0, int a.2] ∧ H' = hk [(1, ⟨69, 4, true, true, v5, [[lst 3 GLayer.av a3.Layers, int a3.Pend.a0, int a3.Pend.a1, int a3.Pend.a2]]⟩), (2, ⟨46, 3, true, true, v6, [[int a4.Qty, int a4.Value, int a4.Profit]]⟩), (3, ⟨69, 4, true, true, v7, [[.sc (.slice none 0 0), int 0, int 0, int 0]]⟩)])) rfl rfl rfl (yl_callI rfl rfl mth182_184 (.cons rfl (.cons rfl .nil)) cal184 ?_) ?_
  refine pcw (c := _) Tryz.func184 rfl rfl ?_; intro Q hret hnorm
  refine tc tbk 2 (.mk ?_)
  refine rse rfl rfl rfl (yl_box 17 .any rfl rfl rfl) ?_; rintro _ _ ⟨v44, -, rfl, rfl⟩
  refine rse rfl rfl rfl (yl_box 18 .any rfl rfl rfl) ?_; rintro _ _ ⟨v45, -, rfl, rfl⟩
  refine rse rfl rfl rfl (yl_box 19 .any rfl rfl rfl) ?_; rintro _ _ ⟨v46, -, rfl, rfl⟩
  refine rse rfl rfl rfl (yl_alloc 20 .any rfl z69 rfl) ?_; rintro _ _ ⟨v47, -, rfl, rfl⟩
  refine tr tbk 8 (.mk ?_)
  obtain ⟨x48, e48, h1⟩ := bind_e h1
  refine rst rfl rfl rfl (yv_callP rfl rfl (.cons rfl (.cons rfl .nil)) cal186 (CvL.refl _) (d_fifo_In_c e48)) ?_
  refine tr tbk 10 (.mk ?_)
  obtain ⟨x49, e49, h1⟩ := bind_e h1
  refine rst rfl rfl rfl (yv_callP rfl rfl (.cons rfl (.cons rfl .nil)) cal145 (CvL.refl _) (d_pool_with_c e49)) ?_
  refine tr tbk 1 (.mk ?_)
  refine rsstore rfl rfl (yl_ob (ob' := (⟨69, 4, true, true, v47, [[lst 3 GLayer.av x49.Layers, int x49.Pend.a0, int x49.Pend.a1, int x49.Pend.a2]]⟩ : AObj)) (yl_store rfl sh69 rfl rfl rfl rfl rfl rfl rfl rfl rfl) rfl) ?_
  refine tr tbk 3 (.mk ?_)
  obtain rfl := nxt_e h1
  refine w_ret (hret _ _ (hk [(1, ⟨69, 4, true, true, v5, [[lst 3 GLayer.av a3.Layers, int a3.Pend.a0, int a3.Pend.a1, int a3.Pend.a2]]⟩), (2, ⟨46, 3, true, true, v6, [[int a4.Qty, int a4.Value, int a4.Profit]]⟩), (3, ⟨69, 4, true, true, v7, [[.sc (.slice none 0 0), int 0, int 0, int 0]]⟩)]) (.cell rfl (.pt rfl rfl rfl) sh69 rfl (.tmp rfl (.tmp rfl .nil))) (HK.le ⟨rfl, rfl, rfl, trivial⟩) ?_)
  exact ⟨(x49, x48.2), (), rfl, rfl, rfl⟩
  rintro y _ ⟨⟨y8_1, y8_2⟩, _, rfl, hc, rfl⟩
  replace h0 := p2_e h0
  subst hc
  refine tr tbk 4 (.mk ?_)
  refine rse rfl rfl rfl (yl_alloc 8 .any rfl z69 rfl) ?_; rintro _ _ ⟨v50, -, rfl, rfl⟩
  refine rsstore rfl rfl (yl_ob (ob' := (⟨69, 4, true, true, v50, [[lst 3 GLayer.av y8_1.Layers, int y8_1.Pend.a0, int y8_1.Pend.a1, int y8_1.Pend.a2]]⟩ : AObj)) (yl_store rfl sh69 rfl rfl rfl rfl rfl rfl rfl rfl rfl) rfl) ?_
  refine tr tbk 7 (.mk ?_)
  refine nb tbk h0 fun x51 h0 => ?_
  refine tr tbk 1 (.mk ?_)
  cases x51
  replace h0 := cf h0
  refine tc tbk 6 (.mk ?_)
  refine rsstore rfl rfl (yl_ob (ob' := (⟨69, 4, true, true, v7, [[lst 3 GLayer.av y8_1.Layers, int y8_1.Pend.a0, int y8_1.Pend.a1, int y8_1.Pend.a2]]⟩ : AObj)) (yl_store rfl sh69 rfl rfl rfl rfl rfl rfl rfl rfl rfl) rfl) ?_
  refine tr tbk 3 (.mk ?_)
  obtain rfl := nxt_e h0
  refine w_ret (hret _ _ _ (.cell rfl (.pt rfl rfl rfl) sh69 rfl (.tmp rfl (.tmp rfl .nil))) (fun _ _ h => h) ?_)
  exact .refl _
  replace h0 := ct h0
  refine tc tbk 4 (.mk ?_)
  obtain ⟨x52, e52, h0⟩ := bind_e h0
  refine rst rfl rfl rfl (yv_callP rfl rfl (.cons rfl .nil) cal114 (CvL.refl _) (d_pool_own_c e52)) ?_
  refine tr tbk 1 (.mk ?_)
  refine rsstore rfl rfl (yl_ob (ob' := (⟨69, 4, true, true, v7, [[lst 3 GLayer.av x52.Layers, int x52.Pend.a0, int x52.Pend.a1, int x52.Pend.a2]]⟩ : AObj)) (yl_store rfl sh69 rfl rfl rfl rfl rfl rfl rfl rfl rfl) rfl) ?_
  refine tr tbk 3 (.mk ?_)
  obtain rfl := nxt_e h0
  refine w_ret (hret _ _ _ (.cell rfl (.pt rfl rfl rfl) sh69 rfl (.tmp rfl (.tmp rfl .nil))) (fun _ _ h => h) ?_)
  exact .refl _
def d_stock_At (a1 : GState) (a2 : Int) (a3 : Int) (a4 : Int) : Option (GPool) :=
(d_stock_place a1 a2 a3 a4).bind fun (x7 : Int) =>
bnd (decide (x7 < 0)) fun (x8 : Bool) =>
cond x8 (some (((⟨[], (⟨0, 0, 0⟩ : A3_Int)⟩ : GPool) : GPool))) ((ix a1.Ents a2).bind fun (x9 : GEnt) =>
(ix x9.Pools x7).bind fun (x10 : GPool) =>
asrt (x10.Layers.length ≤ 68719476736) <|
some ((x10 : GPool)))
theorem d_stock_At_c {a1 : GState} {a2 : Int} {a3 : Int} {a4 : Int} {r : GPool} (h0 : d_stock_At a1 a2 a3 a4 = some r) : PP Tryz.prog 105 [.agg (GState.av a1), int a2, int a3, int a4] (fun y => y = .agg (GPool.av r)) := by
  unfold d_stock_At at h0
  refine pp_of_pc (R0 := fun y H => Cv (frzH H) y (.agg (GPool.av r))) ?_ (fun y H hc => ⟨_, rfl, (fun (a : GPool) => PV.agg (GPool.pvc a)) r, hc⟩)
  refine pcw (c := _) Tryz.func105 rfl rfl ?_; intro Q hret hnorm
  refine tc tbk 2 (.mk ?_)
  refine rse rfl rfl rfl (yl_box 1 .any rfl rfl rfl) ?_; rintro _ _ ⟨v5, -, rfl, rfl⟩
  refine rse rfl rfl rfl (yl_alloc 2 .any rfl z69 rfl) ?_; rintro _ _ ⟨v6, -, rfl, rfl⟩
  refine tr tbk 7 (.mk ?_)
  obtain ⟨x7, e7, h0⟩ := bind_e h0
  refine rst rfl rfl rfl (yv_callP rfl rfl (.cons rfl (.cons rfl (.cons rfl (.cons rfl .nil)))) cal72 (CvL.refl _) (d_stock_place_c e7)) ?_
  refine tr tbk 6 (.mk ?_)
  refine nb tbk h0 fun x8 h0 => ?_
  refine tr tbk 1 (.mk ?_)
  cases x8
  replace h0 := cf h0
  refine tc tbk 7 (.mk ?_)
  obtain ⟨x9, e9, h0⟩ := bind_e h0
  refine rst rfl rfl rfl (yv_to (y := .pp [int x9.Now, boo x9.Closed, lst 4 GPool.av x9.Pools, lst 1 fI x9.Bal, lst 11 GRoll.av x9.Rolls, lst 1 fI x9.Prices, lst 1 fI x9.Down, lst 8 GEnt.av x9.Ahead]) (yv_ixT rfl Tryz.underlying27 sh42 rfl rfl e9) (congrArg AV.pp (GEnt.av_eq x9))) ?_
  refine tr tbk 3 (.mk ?_)
  obtain ⟨x10, e10, h0⟩ := bind_e h0
  refine rst rfl rfl rfl (yv_ixT rfl Tryz.underlying39 sh69 rfl rfl e10) ?_
  refine tr tbk 1 (.mk ?_)
  refine rse rfl rfl rfl (yl_alloc 3 .any rfl z69 rfl) ?_; rintro _ _ ⟨v11, -, rfl, rfl⟩
  refine rsstore rfl rfl (yl_ob (ob' := (⟨69, 4, true, true, v11, [[lst 3 GLayer.av x10.Layers, int x10.Pend.a0, int x10.Pend.a1, int x10.Pend.a2]]⟩ : AObj)) (yl_store rfl sh69 rfl rfl rfl rfl rfl rfl rfl rfl rfl) rfl) ?_
  refine tr tbk 5 (.mk ?_)
  obtain ⟨p12, h0⟩ := asrt_e h0
  refine rse rfl rfl rfl (yl_call rfl rfl (.cons rfl .nil) cal144 (pc_cv (clone144_c (id := 4) (l := x10.Layers) rfl p12) (.cons (.refl _) .nil))) ?_; rintro _ _ ⟨v13, rfl, rfl⟩
  refine tr tbk 1 (.mk ?_)
  refine rsstore rfl rfl (yl_ob (ob' := (⟨69, 4, true, true, v11, [[.sl 4 v13 0 x10.Layers.length, int x10.Pend.a0, int x10.Pend.a1, int x10.Pend.a2]]⟩ : AObj)) (yl_store rfl sh66 rfl rfl rfl rfl rfl rfl rfl rfl rfl) rfl) ?_
  refine tr tbk 4 (.mk ?_)
  refine rsstore rfl rfl (yl_ob (ob' := (⟨69, 4, true, true, v6, [[.sl 4 v13 0 x10.Layers.length, int x10.Pend.a0, int x10.Pend.a1, int x10.Pend.a2]]⟩ : AObj)) (yl_store rfl sh69 rfl rfl rfl rfl rfl rfl rfl rfl rfl) rfl) ?_
  refine tr tbk 1 (.mk ?_)
  obtain rfl := nxt_e h0
  refine w_ret (hret _ _ _ (.cell rfl (.pt rfl rfl rfl) sh69 rfl .nil) (fun _ _ h => h) ?_)
  exact (CvL.agg (.cons (cv_lst rfl rfl rfl rfl rfl (Eq.symm rfl)) (.cons (.refl _) (.cons (.refl _) (.cons (.refl _) .nil)))))
  replace h0 := ct h0
  refine tc tbk 4 (.mk ?_)
  refine rsstore rfl rfl (yl_ob (ob' := (⟨69, 4, true, true, v6, [[.sc (.slice none 0 0), int 0, int 0, int 0]]⟩ : AObj)) (yl_store rfl sh69 rfl rfl rfl rfl rfl rfl rfl rfl rfl) rfl) ?_
  refine tr tbk 1 (.mk ?_)
  obtain rfl := nxt_e h0
  refine w_ret (hret _ _ _ (.cell rfl (.pt rfl rfl rfl) sh69 rfl .nil) (fun _ _ h => h) ?_)
  exact (CvL.agg (.cons (.nil _) (.cons (.refl _) (.cons (.refl _) (.cons (.refl _) .nil)))))
def d_stock_worth_L0 (a1 : GState) (a2 : Int) (a3 : Int) : Nat → Int → (List Int) → (List Int) → (List Int) → Option ((List Int) × (List Int) × (List Int))
  | 0, _, _, _, _ => none
  | n + 1, y0_4, y0_5, y0_6, y0_7 =>
    bnd (decide (y0_4 < 2)) fun (x10 : Bool) =>
    cond x10 ((d_stock_At a1 a2 a3 y0_4).bind fun (x11 : GPool) =>
    (d_fifo_Total n x11.Layers).bind fun (x12 : GLayer × Int) =>
    bnd (y0_5 ++ ([x12.1.Qty] : List Int)) fun (x14 : List Int) =>
    asrt (x14.length ≤ 68719476736) <|
    bnd (y0_6 ++ ([x12.1.Value] : List Int)) fun (x17 : List Int) =>
    asrt (x17.length ≤ 68719476736) <|
    bnd (y0_7 ++ ([x12.1.Profit] : List Int)) fun (x20 : List Int) =>
    asrt (x20.length ≤ 68719476736) <|
    bnd (w64 (y0_4 + 1)) fun (x23 : Int) =>
    d_stock_worth_L0 a1 a2 a3 n (x23 : Int) (x14 : List Int) (x17 : List Int) (x20 : List Int)) (some ((y0_5 : List Int), (y0_6 : List Int), (y0_7 : List Int)))
def d_stock_worth (n : Nat) (a1 : GState) (a2 : Int) (a3 : Int) : Option (GLayer × Bool) :=
(show Option ((List Int) × (List Int) × (List Int)) from
d_stock_worth_L0 a1 a2 a3 n (0 : Int) (([] : List Int) : List Int) (([] : List Int) : List Int) (([] : List Int) : List Int)).bind <| p2 fun (y1_4 : List Int) (q0 : (List Int) × (List Int)) => (p2 fun (y1_5 : List Int) (y1_6 : List Int) =>
(d_money_Sum n y1_4).bind fun (x24 : Int × Int) =>
(d_money_Sum n y1_5).bind fun (x25 : Int × Int) =>
(d_money_Sum n y1_6).bind fun (x26 : Int × Int) =>
bnd (if x26.2 > (if x25.2 > x24.2 then x25.2 else x24.2) then x26.2 else (if x25.2 > x24.2 then x25.2 else x24.2)) fun (x27 : Int) =>
bnd (decide (x27 = 0)) fun (x28 : Bool) =>
some (((⟨x24.1, x25.1, x26.1⟩ : GLayer) : GLayer), (x28 : Bool))) q0
theorem d_stock_worth_c {n : Nat} {a1 : GState} {a2 : Int} {a3 : Int} {r : GLayer × Bool} (h0 : d_stock_worth n a1 a2 a3 = some r) : PP Tryz.prog 75 [.agg (GState.av a1), int a2, int a3] (fun y => y = .tup [.agg (GLayer.av r.1), boo r.2]) := by
  unfold d_stock_worth at h0
  refine pp_of_pc (R0 := fun y H => Cv (frzH H) y (.tup [.agg (GLayer.av r.1), boo r.2])) ?_ (fun y H hc => ⟨_, rfl, .tup (pvl2 ((fun (a : GLayer) => PV.agg (GLayer.pvc a)) (r.1)) (pvB (r.2))), hc⟩)
  refine pcw (c := _) Tryz.func75 rfl rfl ?_; intro Q hret hnorm
  refine tc tbk 2 (.mk ?_)
  refine rse rfl rfl rfl (yl_box 1 .any rfl rfl rfl) ?_; rintro _ _ ⟨v4, -, rfl, rfl⟩
  refine rse rfl rfl rfl (yl_alloc 2 .any rfl z46 rfl) ?_; rintro _ _ ⟨v5, -, rfl, rfl⟩
  refine tr tbk 13 (.mk ?_)
  refine jn h0 [6, 7] [2] (fun (a : (List Int) × (List Int) × (List Int)) (k : Nat × Nat × Nat) => [(8, .sl 7 k.1 0 a.1.length), (9, .sl 8 k.2.1 0 a.2.1.length), (10, .sl 9 k.2.2 0 a.2.2.length)]) (fun a k => [(7, ⟨3, 1, true, true, k.1, a.1.map fI⟩), (8, ⟨3, 1, true, true, k.2.1, a.2.1.map fI⟩), (9, ⟨3, 1, true, true, k.2.2, a.2.2.map fI⟩)]) ⟨fun j6 h1 => ?_, ?_⟩
  refine tc tbk 1 (.mk ?_)
  refine c_nilobj 8 7 3 1 rfl rfl ?_; intro v7
  refine c_nilobj 9 8 3 1 rfl rfl ?_; intro v8
  refine c_nilobj 10 9 3 1 rfl rfl ?_; intro v9
  refine lp (fun n (a : Int × (List Int) × (List Int) × (List Int)) => d_stock_worth_L0 a1 a2 a3 n a.1 a.2.1 a.2.2.1 a.2.2.2) ((0 : Int), (([] : List Int) : List Int), (([] : List Int) : List Int), (([] : List Int) : List Int)) (v7, v8, v9) h1 [1, 2, 3, 6, 7] [1, 2] (fun (a : Int × (List Int) × (List Int) × (List Int)) (k : Nat × Nat × Nat) => [(8, .sl 7 k.1 0 a.2.1.length), (9, .sl 8 k.2.1 0 a.2.2.1.length), (10, .sl 9 k.2.2 0 a.2.2.2.length), (20, int a.1)]) (fun a k => [(7, ⟨3, 1, true, true, k.1, a.2.1.map fI⟩), (8, ⟨3, 1, true, true, k.2.1, a.2.2.1.map fI⟩), (9, ⟨3, 1, true, true, k.2.2, a.2.2.2.map fI⟩)]) (fun _ => rfl) ⟨leA, ?_⟩
  rintro n ⟨y0_4, y0_5, y0_6, y0_7⟩ ⟨w0_1, w0_2, w0_3⟩ hm h1
  replace h1 : d_stock_worth_L0 a1 a2 a3 (n + 1) y0_4 y0_5 y0_6 y0_7 = some _ := h1
  rw [d_stock_worth_L0] at h1
  refine tc tbk 2 (.mk ?_)
  refine nb tbk h1 fun x10 h1 => ?_
  refine tr tbk 2 (.mk ?_)
  cases x10
  replace h1 := cf h1
  refine tc tbk 2 (.mk ?_)
  exact lf h1 (w0_1, w0_2, w0_3) leA
  replace h1 := ct h1
  refine tc tbk 15 (.mk ?_)
  obtain ⟨x11, e11, h1⟩ := bind_e h1
  refine rst rfl rfl rfl (yv_callP rfl rfl (.cons rfl (.cons rfl (.cons rfl (.cons rfl .nil)))) cal105 (CvL.refl _) (d_stock_At_c e11)) ?_
  refine tr tbk 1 (.mk ?_)
  obtain ⟨x12, e12, h1⟩ := bind_e h1
  refine rst rfl rfl rfl (yv_callP rfl rfl (.cons rfl .nil) cal115 (CvL.refl _) (d_fifo_Total_c e12)) ?_
  refine tr tbk 3 (.mk ?_)
  refine rse rfl rfl rfl (yl_alloc 3 .any rfl z46 rfl) ?_; rintro _ _ ⟨v13, -, rfl, rfl⟩
  refine rsstore rfl rfl (yl_ob (ob' := (⟨46, 3, true, true, v13, [[int x12.1.Qty, int x12.1.Value, int x12.1.Profit]]⟩ : AObj)) (yl_store rfl sh46 rfl rfl rfl rfl rfl rfl rfl rfl rfl) rfl) ?_
  refine tr tbk 2 (.mk ?_)
  refine c_drawE [0, 0, 2, 6, 15, 0, 0, 64, 192, 511, 0, 0, 2048, 6144, 16383, 32767, 65535, 131071] (fun i => bif Nat.beq i 1 then ([3]) else bif Nat.beq i 2 then ([3]) else bif Nat.beq i 6 then ([3]) else bif Nat.beq i 7 then ([3]) else bif Nat.beq i 11 then ([3]) else bif Nat.beq i 12 then ([3]) else []) (fun i => bif Nat.beq i 14 then ([]) else [3]) (fun i => bif Nat.beq i 4 then (false) else bif Nat.beq i 9 then (false) else bif Nat.beq i 14 then (false) else true) [0, 1, 2, 3, 5, 6, 7, 8, 10, 11, 12, 13, 4, 9, 14, 15, 16, 17] mixed (by kernel_rfl) ?_; intro K hK
  refine de_pure rfl rfl rfl rfl (fun H hH => yv_move rfl rfl) ?_
  refine de_pure rfl rfl rfl rfl (fun H hH => yv_fieldAddr rfl fo46_0 rfl (.pt ((hH _ (by decide)).trans rfl) rfl rfl) (.pt _ _ _ _ _)) ?_
  refine de_pure rfl rfl rfl rfl (fun H hH => yv_load rfl sh3 rfl (.pt ((hH _ (by decide)).trans rfl) rfl rfl) rfl) ?_
  refine de_pure rfl rfl rfl rfl (fun H hH => yv_to (y := lst 1 fI ([x12.1.Qty] : List Int)) (yv_buildSlice (ps := [(0, _)]) (rows := [[int x12.1.Qty]]) rfl Tryz.underlying23 bz3 (.cons rfl .nil) (by kernel_rfl) rfl rfl rfl) rfl) ?_
  refine de_pure rfl rfl rfl rfl (fun H hH => yv_move rfl rfl) ?_
  refine de_pure rfl rfl rfl rfl (fun H hH => yv_fieldAddr rfl fo46_1 rfl (.pt ((hH _ (by decide)).trans rfl) rfl rfl) (.pt _ _ _ _ _)) ?_
  refine de_pure rfl rfl rfl rfl (fun H hH => yv_load rfl sh3 rfl (.pt ((hH _ (by decide)).trans rfl) rfl rfl) rfl) ?_
  refine de_pure rfl rfl rfl rfl (fun H hH => yv_to (y := lst 1 fI ([x12.1.Value] : List Int)) (yv_buildSlice (ps := [(0, _)]) (rows := [[int x12.1.Value]]) rfl Tryz.underlying23 bz3 (.cons rfl .nil) (by kernel_rfl) rfl rfl rfl) rfl) ?_
  refine de_pure rfl rfl rfl rfl (fun H hH => yv_move rfl rfl) ?_
  refine de_pure rfl rfl rfl rfl (fun H hH => yv_fieldAddr rfl fo46_2 rfl (.pt ((hH _ (by decide)).trans rfl) rfl rfl) (.pt _ _ _ _ _)) ?_
  refine de_pure rfl rfl rfl rfl (fun H hH => yv_load rfl sh3 rfl (.pt ((hH _ (by decide)).trans rfl) rfl rfl) rfl) ?_
  refine de_pure rfl rfl rfl rfl (fun H hH => yv_to (y := lst 1 fI ([x12.1.Profit] : List Int)) (yv_buildSlice (ps := [(0, _)]) (rows := [[int x12.1.Profit]]) rfl Tryz.underlying23 bz3 (.cons rfl .nil) (by kernel_rfl) rfl rfl rfl) rfl) ?_
  obtain ⟨x14, e14, h1⟩ := bnd_e h1
  obtain ⟨p15, h1⟩ := asrt_e h1
  refine de_eff rfl rfl rfl rfl (yl_appT (g := fI) (l := y0_5) (m := ([x12.1.Qty] : List Int)) .any rfl Tryz.underlying23 bz3 by3 rfl rfl rfl rfl rfl rfl rfl rfl rfl rfl (Eq.symm rfl) (.refl _) (fun _ => rfl) e14 p15) (by rintro _ _ ⟨v16, -, rfl, rfl⟩; exact ⟨rfl, trivial⟩) ?_; rintro _ _ ⟨v16, -, rfl, rfl⟩
  obtain ⟨x17, e17, h1⟩ := bnd_e h1
  obtain ⟨p18, h1⟩ := asrt_e h1
  refine de_eff rfl rfl rfl rfl (yl_appT (g := fI) (l := y0_6) (m := ([x12.1.Value] : List Int)) .any rfl Tryz.underlying23 bz3 by3 rfl rfl rfl rfl rfl rfl rfl rfl rfl rfl (Eq.symm rfl) (.refl _) (fun _ => rfl) e17 p18) (by rintro _ _ ⟨v19, -, rfl, rfl⟩; exact ⟨rfl, trivial⟩) ?_; rintro _ _ ⟨v19, -, rfl, rfl⟩
  obtain ⟨x20, e20, h1⟩ := bnd_e h1
  obtain ⟨p21, h1⟩ := asrt_e h1
  refine de_eff rfl rfl rfl rfl (yl_appT (g := fI) (l := y0_7) (m := ([x12.1.Profit] : List Int)) .any rfl Tryz.underlying23 bz3 by3 rfl rfl rfl rfl rfl rfl rfl rfl rfl rfl (Eq.symm rfl) (.refl _) (fun _ => rfl) e20 p21) (by rintro _ _ ⟨v22, -, rfl, rfl⟩; exact trivial) ?_; rintro _ _ ⟨v22, -, rfl, rfl⟩
  refine de_pure rfl rfl rfl rfl (fun H hH => yv_assign rfl rfl) ?_
  refine de_pure rfl rfl rfl rfl (fun H hH => yv_assign rfl rfl) ?_
  refine de_pure rfl rfl rfl rfl (fun H hH => yv_assign rfl rfl) ?_
  refine de_nil (hK _ ?_)
  refine tc tbk 2 (.mk ?_)
  refine ni tbk h1 fun x23 h1 => ?_
  refine tr tbk 2 (.mk ?_)
  exact bk (x23, x14, x17, x20) (v16, v19, v22) h1 leA
  rintro ⟨y1_4, y1_5, y1_6⟩ ⟨w1_1, w1_2, w1_3⟩ h0
  replace h0 := p2_e h0
  replace h0 := p2_e h0
  refine tc tbk 3 (.mk ?_)
  obtain ⟨x24, e24, h0⟩ := bind_e h0
  refine rst rfl rfl rfl (yv_callT (v := .tup [int x24.1, int x24.2]) rfl rfl (.cons rfl .nil) cal116 (.cons (cv_lst rfl rfl rfl rfl rfl (Eq.symm rfl)) .nil) (d_money_Sum_c e24) rfl) ?_
  refine tr tbk 9 (.mk ?_)
  obtain ⟨x25, e25, h0⟩ := bind_e h0
  refine rst rfl rfl rfl (yv_callT (v := .tup [int x25.1, int x25.2]) rfl rfl (.cons rfl .nil) cal116 (.cons (cv_lst rfl rfl rfl rfl rfl (Eq.symm rfl)) .nil) (d_money_Sum_c e25) rfl) ?_
  refine tr tbk 9 (.mk ?_)
  obtain ⟨x26, e26, h0⟩ := bind_e h0
  refine rst rfl rfl rfl (yv_callT (v := .tup [int x26.1, int x26.2]) rfl rfl (.cons rfl .nil) cal116 (.cons (cv_lst rfl rfl rfl rfl rfl (Eq.symm rfl)) .nil) (d_money_Sum_c e26) rfl) ?_
  refine tr tbk 15 (.mk ?_)
  obtain ⟨x27, e27, h0⟩ := bnd_e h0
  refine rst rfl rfl rfl (yv_max3 rfl rfl rfl rfl e27) ?_
  refine nb tbk h0 fun x28 h0 => ?_
  refine rsstore rfl rfl (yl_ob (ob' := (⟨46, 3, true, true, v5, [[int x24.1, int x25.1, int x26.1]]⟩ : AObj)) (yl_store rfl sh46 rfl rfl rfl rfl rfl rfl rfl rfl rfl) rfl) ?_
  refine tr tbk 2 (.mk ?_)
  obtain rfl := nxt_e h0
  refine w_ret (hret _ _ _ (.cell rfl (.pt rfl rfl rfl) sh46 rfl (.tmp rfl .nil)) (fun _ _ h => h) ?_)
  exact .refl _
def d_stock_steady_L1 (x9 : GPool) : Nat → Int → (List Int) → Option ((List Int))
  | 0, _, _ => none
  | n + 1, y1_2, y1_3 =>
    bnd (decide (y1_2 < (x9.Layers.length : Int))) fun (x11 : Bool) =>
    cond x11 ((ix x9.Layers y1_2).bind fun (x12 : GLayer) =>
    bnd (w64 (0 - x12.Profit)) fun (x14 : Int) =>
    bnd (if x14 > x12.Profit then x14 else x12.Profit) fun (x15 : Int) =>
    bnd (y1_3 ++ ([x15] : List Int)) fun (x16 : List Int) =>
    asrt (x16.length ≤ 68719476736) <|
    bnd (w64 (y1_2 + 1)) fun (x19 : Int) =>
    d_stock_steady_L1 x9 n (x19 : Int) (x16 : List Int)) (some (y1_3 : List Int))
def d_stock_steady_L0 (a1 : GState) (a2 : Int) (a3 : Int) : Nat → Int → (List Int) → Option ((List Int))
  | 0, _, _ => none
  | n + 1, y0_2, y0_3 =>
    bnd (decide (y0_2 < 2)) fun (x7 : Bool) =>
    cond x7 ((show Option ((List Int)) from
    (d_stock_At a1 a2 a3 y0_2).bind fun (x9 : GPool) =>
    (show Option ((List Int)) from
    d_stock_steady_L1 x9 n (0 : Int) (y0_3 : List Int)).bind <| fun (y2_2 : List Int) =>
    some (y2_2 : List Int)).bind <| fun (y3_2 : List Int) =>
    bnd (w64 (y0_2 + 1)) fun (x20 : Int) =>
    d_stock_steady_L0 a1 a2 a3 n (x20 : Int) (y3_2 : List Int)) (some (y0_3 : List Int))
def d_stock_steady (n : Nat) (a1 : GState) (a2 : Int) (a3 : Int) : Option (Bool) :=
(show Option ((List Int)) from
d_stock_steady_L0 a1 a2 a3 n (0 : Int) (([] : List Int) : List Int)).bind <| fun (y4_2 : List Int) =>
(d_money_Sum n y4_2).bind fun (x21 : Int × Int) =>
bnd (decide (x21.2 = 0)) fun (x22 : Bool) =>
some ((x22 : Bool))
theorem d_stock_steady_c {n : Nat} {a1 : GState} {a2 : Int} {a3 : Int} {r : Bool} (h0 : d_stock_steady n a1 a2 a3 = some r) : PP Tryz.prog 76 [.agg (GState.av a1), int a2, int a3] (fun y => y = boo r) := by
  unfold d_stock_steady at h0
  refine pp_of_pc (R0 := fun y H => Cv (frzH H) y (boo r)) ?_ (fun y H hc => ⟨_, rfl, pvB r, hc⟩)
  refine pcw (c := _) Tryz.func76 rfl rfl ?_; intro Q hret hnorm
  refine tc tbk 2 (.mk ?_)
  refine rse rfl rfl rfl (yl_box 1 .any rfl rfl rfl) ?_; rintro _ _ ⟨v4, -, rfl, rfl⟩
  refine tr tbk 11 (.mk ?_)
  refine jn h0 [6] [] (fun (a : (List Int)) (k : Nat) => [(7, .sl 4 k 0 a.length)]) (fun a k => [(4, ⟨3, 1, true, true, k, a.map fI⟩)]) ⟨fun j5 h1 => ?_, ?_⟩
  refine tc tbk 1 (.mk ?_)
  refine c_nilobj 7 4 3 1 rfl rfl ?_; intro v6
  refine lp (fun n (a : Int × (List Int)) => d_stock_steady_L0 a1 a2 a3 n a.1 a.2) ((0 : Int), (([] : List Int) : List Int)) v6 h1 [1, 2, 3, 6] [1] (fun (a : Int × (List Int)) (k : Nat) => [(7, .sl 4 k 0 a.2.length), (13, int a.1)]) (fun a k => [(4, ⟨3, 1, true, true, k, a.2.map fI⟩)]) (fun _ => rfl) ⟨leA, ?_⟩
  rintro n ⟨y0_2, y0_3⟩ w0_1 hm h1
  replace h1 : d_stock_steady_L0 a1 a2 a3 (n + 1) y0_2 y0_3 = some _ := h1
  rw [d_stock_steady_L0] at h1
  refine tc tbk 2 (.mk ?_)
  refine nb tbk h1 fun x7 h1 => ?_
  refine tr tbk 2 (.mk ?_)
  cases x7
  replace h1 := cf h1
  refine tc tbk 2 (.mk ?_)
  exact lf h1 w0_1 leA
  replace h1 := ct h1
  refine tc tbk 3 (.mk ?_)
  refine jn h1 [1, 2, 3, 6, 13] [1] (fun (a : (List Int)) (k : Nat) => [(7, .sl 4 k 0 a.length)]) (fun a k => [(4, ⟨3, 1, true, true, k, a.map fI⟩)]) ⟨fun j8 h2 => ?_, ?_⟩
  refine tc tbk 12 (.mk ?_)
  obtain ⟨x9, e9, h2⟩ := bind_e h2
  refine rst rfl rfl rfl (yv_callP rfl rfl (.cons rfl (.cons rfl (.cons rfl (.cons rfl .nil)))) cal105 (CvL.refl _) (d_stock_At_c e9)) ?_
  refine tr tbk 1 (.mk ?_)
  refine rst rfl rfl rfl (yv_len_sl rfl Tryz.underlying66 rfl (lst_len _)) ?_
  refine tr tbk 2 (.mk ?_)
  refine jn h2 [1, 2, 3, 6, 13] [1] (fun (a : (List Int)) (k : Nat) => [(7, .sl 4 k 0 a.length)]) (fun a k => [(4, ⟨3, 1, true, true, k, a.map fI⟩)]) ⟨fun j10 h3 => ?_, ?_⟩
  refine tc tbk 1 (.mk ?_)
  refine lp (fun n (a : Int × (List Int)) => d_stock_steady_L1 x9 n a.1 a.2) ((0 : Int), (y0_3 : List Int)) w0_1 h3 [1, 2, 3, 6, 13, 21, 22] [1] (fun (a : Int × (List Int)) (k : Nat) => [(7, .sl 4 k 0 a.2.length), (23, int a.1)]) (fun a k => [(4, ⟨3, 1, true, true, k, a.2.map fI⟩)]) (fun _ => rfl) ⟨leA, ?_⟩
  rintro n ⟨y1_2, y1_3⟩ w1_1 hm h3
  replace h3 : d_stock_steady_L1 x9 (n + 1) y1_2 y1_3 = some _ := h3
  rw [d_stock_steady_L1] at h3
  refine tc tbk 2 (.mk ?_)
  refine nb tbk h3 fun x11 h3 => ?_
  refine tr tbk 2 (.mk ?_)
  cases x11
  replace h3 := cf h3
  refine tc tbk 2 (.mk ?_)
  exact lf h3 w1_1 leA
  replace h3 := ct h3
  refine tc tbk 6 (.mk ?_)
  obtain ⟨x12, e12, h3⟩ := bind_e h3
  refine rst rfl rfl rfl (yv_ixT rfl Tryz.underlying66 sh46 rfl rfl e12) ?_
  refine tr tbk 1 (.mk ?_)
  refine rse rfl rfl rfl (yl_alloc 2 .any rfl z46 rfl) ?_; rintro _ _ ⟨v13, -, rfl, rfl⟩
  refine rsstore rfl rfl (yl_ob (ob' := (⟨46, 3, true, true, v13, [[int x12.Qty, int x12.Value, int x12.Profit]]⟩ : AObj)) (yl_store rfl sh46 rfl rfl rfl rfl rfl rfl rfl rfl rfl) rfl) ?_
  refine tr tbk 7 (.mk ?_)
  refine ni tbk h3 fun x14 h3 => ?_
  obtain ⟨x15, e15, h3⟩ := bnd_e h3
  refine rst rfl rfl rfl (yv_max rfl rfl rfl e15) ?_
  refine rst rfl rfl rfl (yv_to (y := lst 1 fI ([x15] : List Int)) (yv_buildSlice (ps := [(0, _)]) (rows := [[int x15]]) rfl Tryz.underlying23 bz3 (.cons rfl .nil) (by kernel_rfl) rfl rfl rfl) rfl) ?_
  obtain ⟨x16, e16, h3⟩ := bnd_e h3
  obtain ⟨p17, h3⟩ := asrt_e h3
  refine rse rfl rfl rfl (yl_appT (g := fI) (l := y1_3) (m := ([x15] : List Int)) .any rfl Tryz.underlying23 bz3 by3 rfl rfl rfl rfl rfl rfl rfl rfl rfl rfl (Eq.symm rfl) (.refl _) (fun _ => rfl) e16 p17) ?_; rintro _ _ ⟨v18, -, rfl, rfl⟩
  refine tr tbk 4 (.mk ?_)
  refine ni tbk h3 fun x19 h3 => ?_
  refine tr tbk 2 (.mk ?_)
  exact bk (x19, x16) v18 h3 leA
  rintro y2_2 w2_1 h2
  refine tc tbk 1 (.mk ?_)
  exact lf h2 w2_1 leA
  rintro y3_2 w3_1 h1
  refine tc tbk 1 (.mk ?_)
  refine ni tbk h1 fun x20 h1 => ?_
  refine tr tbk 2 (.mk ?_)
  exact bk (x20, y3_2) w3_1 h1 leA
  rintro y4_2 w4_1 h0
  refine tc tbk 3 (.mk ?_)
  obtain ⟨x21, e21, h0⟩ := bind_e h0
  refine rst rfl rfl rfl (yv_callT (v := .tup [int x21.1, int x21.2]) rfl rfl (.cons rfl .nil) cal116 (.cons (cv_lst rfl rfl rfl rfl rfl (Eq.symm rfl)) .nil) (d_money_Sum_c e21) rfl) ?_
  refine tr tbk 9 (.mk ?_)
  refine nb tbk h0 fun x22 h0 => ?_
  refine tr tbk 2 (.mk ?_)
  obtain rfl := nxt_e h0
  refine w_ret (hret _ _ _ (.tmp rfl .nil) (fun _ _ h => h) ?_)
  exact .refl _
end Go.Pv
