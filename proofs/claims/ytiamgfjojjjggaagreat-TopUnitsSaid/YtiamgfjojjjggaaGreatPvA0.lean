/- Code in a frame of a function or of a round: the laws of the walk for both at once. -/
import Derived.WalkKit
import Derived.RangeFuncIn
import Derived.RangeFuncRecord
import Derived.Orders
import Derived.Scope
import Derived.OrdersIn
set_option linter.unusedSimpArgs false
set_option linter.unusedVariables false
namespace Go.Pv
structure NT where
  n : Nat
  rd : Bool
  ds : List Deferred
structure Wide (rd : Bool) (F : Fence) : Prop where
  fn : ∀ f, F.fn f
  depth : F.depth = none
  alive : F.alive = false
  round : rd = false → F.round = none
theorem wide_wide {rd : Bool} : Wide rd Fence.wide := ⟨fun _ => trivial, rfl, rfl, fun _ => rfl⟩
theorem wide_round (l : Nat) : Wide true (Fence.wide.inRound l) := ⟨fun _ => trivial, rfl, rfl, fun h => by cases h⟩
section
variable {rd : Bool} {F : Fence} {P : Program}
theorem Wide.room (h : Wide rd F) (n : Nat) : F.room n := fun _ hd => by rw [h.depth] at hd; cases hd
theorem Wide.fenced (h : Wide rd F) (m : Machine) : m.fenced P F := by
  intro g _
  exact ⟨fun ha => (by rw [h.alive] at ha; cases ha), Or.inl (h.fn _), fun _ _ => h.fn _, h.room _⟩
theorem Wide.steps (h : Wide rd F) {m m' : Machine} : StepsIn (Machine.fenced P F) P m m' ↔ Steps P m m' :=
  ⟨StepsIn.steps, fun k => (StepsIn.of_steps k).mono fun m _ => h.fenced m⟩
theorem Wide.comes (h : Wide rd F) {m m' : Machine} {e : Ending} (k : Comes P m m' e) : ComesIn (Machine.fenced P F) P m m' e := by
  cases e with
  | returned v => exact h.steps.2 k
  | panicked chain => exact h.steps.2 k
  | outgrown => exact k
theorem Wide.calls (h : Wide rd F) {n : Nat} {f : FuncId} {args : Array Value} {w : World} {R : Ending → World → Prop} (k : Calls P f args w R) : CallsIn F n P f args w R :=
  ⟨h.fn f, fun cs _ => let ⟨e, w', fr, r, s, x⟩ := k cs; ⟨e, w', fr, r, h.comes s, x⟩⟩
theorem Wide.rows (h : Wide rd F) {n : Nat} {f : String} {args : Array Value} {w : World} {R : Value → World → Prop} (k : Rows P f args w R) : RowsIn F n P f args w R :=
  fun c cs _ => let ⟨v, w', r, s⟩ := k c cs; ⟨v, w', r, h.steps.2 s⟩
def ndef (o : Oper) : Bool := match o.op with
  | .defer _ => false
  | _ => true
theorem ndef_ne {o : Oper} (h : ndef o = true) : ∀ c, o.op ≠ .defer c := fun c hc => by simp [ndef, hc] at h
theorem Wide.oper (h : Wide rd F) {n : Nat} {o : Oper} {a : Act} {w : World} {K : Act → World → Prop} {Q : Go.Exit → Act → World → Prop} (hd : ndef o = true) (k : o.wp P a w K Q) : o.wpIn F n P a w K Q := by
  refine ⟨fun f _ => h.fn f, ?_⟩
  rw [Oper.semAt_eq _ _ _ (ndef_ne hd)]
  unfold Oper.wp at k
  generalize (execOp a.eval o).run P w = r at *
  have hdep : F.depth.isSome = true → 1 ≤ n := fun hs => by rw [h.depth] at hs; cases hs
  cases r with
  | ok x w' =>
    cases x <;> simp only [Oper.upon, Oper.uponIn] at k ⊢ <;>
      first
        | exact k
        | exact ⟨hdep, h.calls k⟩
        | exact ⟨hdep, h.rows k⟩
        | exact k.elim
  | halt x w' => cases x <;> simp only [Oper.upon, Oper.uponIn] at k ⊢ <;> first | exact k | exact k.elim
theorem Wide.ops (h : Wide rd F) {n : Nat} {ops : Array Oper} {Q : Go.Exit → Act → World → Prop} (hd : ops.all ndef = true) (hq : ¬ LetsOut Q) :
    ∀ (l : List Nat) (a : Act) (w : World), wpOps P ops Q l a w → wpOpsIn F n P ops Q l a w
  | [], a, w, k => k
  | i :: rest, a, w, k => by
    simp only [wpOps, wpOpsIn] at k ⊢
    cases ho : ops[i]? with
    | none => simp only [ho] at k ⊢; exact h.ops hd hq rest a w k
    | some o =>
      simp only [ho] at k ⊢
      have hdo : ndef o = true := by
        rw [Array.all_eq_true] at hd
        obtain ⟨hi, e⟩ := Array.getElem?_eq_some_iff.1 ho
        exact e ▸ hd i hi
      split
      · rename_i hw
        simp only [hw, if_true] at k
        rcases k with k | ⟨_, a1, w1, k⟩
        · have := h.oper (n := n) hdo k
          exact Oper.wpIn_mono (fun a w hh => h.ops hd hq rest a w hh) this
        · exact (hq ⟨a1, w1, k⟩).elim
      · rename_i hw
        simp only [hw] at k
        exact ⟨fun f _ => h.fn f, h.ops hd hq rest _ w k⟩
end
def wpA (rd : Bool) (P : Program) (c : Code) (Q : Go.Exit → Act → World → Prop) (a : Act) (w : World) : Prop := ∀ F : Fence, Wide rd F → c.wpIn F 0 P Q a w
section
variable {rd : Bool} {P : Program} {Q Q' : Go.Exit → Act → World → Prop} {a : Act} {w : World} {c x y : Code}
theorem wpA_mono (h : wpA rd P c Q a w) (hq : ∀ e a w, Q e a w → Q' e a w) : wpA rd P c Q' a w := fun F hF => wpIn_mono (h F hF) hq
theorem wpA_skip (h : Q .normal a w) : wpA rd P .skip Q a w := fun _ _ => wpIn_skip h
theorem wpA_label {l : Nat} (h : Q .normal a w) : wpA rd P (.label l) Q a w := fun _ _ => wpIn_label h
theorem wpA_exit {id : Nat} (h : Q (.exit id) a w) : wpA rd P (.exit id) Q a w := fun _ _ => wpIn_exit h
theorem wpA_ret (h : Q .ret a w) : wpA rd P .ret Q a w := fun _ _ => wpIn_ret h
theorem wpA_seq (h : wpA rd P x (Go.Exit.then (wpA rd P y Q) Q) a w) : wpA rd P (.seq x y) Q a w := fun F hF =>
  wpIn_seq (wpIn_mono (h F hF) fun e a w q => by
    cases e with
    | normal => exact q F hF
    | _ => exact q)
theorem wpA_cond_split {o : Operand} {t : Bool} (hc : a.eval o = .bool t) (ht : t = true → wpA rd P x Q a w) (hf : t = false → wpA rd P y Q a w) : wpA rd P (.cond o x y) Q a w :=
  fun F hF => wpIn_cond_split hc (fun h => ht h F hF) (fun h => hf h F hF)
theorem wpA_block {id : Nat} (h : wpA rd P c (Go.Exit.inBlock id Q) a w) : wpA rd P (.block id c) Q a w := fun F hF => wpIn_block (h F hF)
theorem wpA_loop (I : Act → World → Prop) (μ : Act → World → Nat) (h₀ : I a w)
    (round : ∀ a w, I a w → wpA rd P c (Go.Exit.then (fun a' w' => I a' w' ∧ μ a' w' < μ a w) Q) a w) : wpA rd P (.loop c) Q a w :=
  fun F hF => wpIn_loop I μ h₀ fun a w h => round a w h F hF
theorem wpA_region {id : Nat} {ops : Array Oper} (hd : ops.all ndef = true) (hq : ¬ LetsOut Q) (h : wpOps P ops Q (List.range ops.size) a w) : wpA rd P (.region id ops false) Q a w :=
  fun F hF => wpIn_region (hF.ops hd hq _ _ _ h)
theorem wpA_region_any {id : Nat} {ops : Array Oper} (hm : P.follows .mixedOrders = true) (hd : ops.all ndef = true) (hq : ¬ LetsOut Q)
    (h : wpAny P .any ops Q ops.size (Array.replicate ops.size false) a { w with drawn := w.drawn + 1 }) : wpA rd P (.region id ops true) Q a w :=
  fun F hF => wpIn_region_draw fun t => hF.ops hd hq _ _ _ (by
    simp only [Region.schedule, hm, Bool.true_or, if_true]
    exact wpAny_sound ops.size t _ a _ h)
theorem wpA_regN {K : Act → World → Prop} {id : Nat} {ops : Array Oper} (hd : ops.all ndef = true) (h : wpOps P ops (fun e a w => e = .normal ∧ K a w) (List.range ops.size) a w) :
    wpA rd P (.region id ops false) (fun e a w => e = .normal ∧ K a w) a w := wpA_region hd (fun ⟨_, _, h, _⟩ => nomatch h) h
theorem wpA_regQ {id : Nat} {ops : Array Oper} (hd : ops.all ndef = true) (h : wpOps P ops (fun e a w => e = .normal ∧ Q .normal a w) (List.range ops.size) a w) :
    wpA rd P (.region id ops false) Q a w := wpA_mono (wpA_regN (K := Q .normal) hd h) fun e a w ⟨he, hk⟩ => by subst he; exact hk
theorem wpA_reg_anyN {K : Act → World → Prop} {id : Nat} {ops : Array Oper} (hm : P.follows .mixedOrders = true) (hd : ops.all ndef = true)
    (h : wpAny P .any ops (fun e a w => e = .normal ∧ K a w) ops.size (Array.replicate ops.size false) a { w with drawn := w.drawn + 1 }) :
    wpA rd P (.region id ops true) (fun e a w => e = .normal ∧ K a w) a w := wpA_region_any hm hd (fun ⟨_, _, h, _⟩ => nomatch h) h
theorem stepR_scope' {b : Frame} {k : List Item} {cs : List Frame} {c : Code} : step P (lone (b.atR a (.code (.scope c) :: k)) cs w) = .next (lone (b.atR a (.code c :: .inScope c :: k)) cs w) :=
  step_lone_go (by simp [stepG, stepG.exec, Frame.atR])
theorem stepR_inScope' {b : Frame} {k : List Item} {cs : List Frame} {c : Code} : step P (lone (b.atR a (.inScope c :: k)) cs w) = .next (lone (b.atR a k) cs w) :=
  step_lone_go (by simp [stepG, stepG.exec, Frame.atR])
theorem wpA_scope_straight (h : wpA rd P c (Go.Exit.noGoto Q) a w) : wpA rd P (.scope c) Q a w := by
  intro F hF b k cs hro hb hr
  obtain ⟨e, a₁, w₁, hq, harr⟩ := h F hF b (.inScope c :: k) cs hro hb hr
  have st : StepsIn (Machine.fenced P F) P (lone (b.atR a (.code (.scope c) :: k)) cs w) (lone (b.atR a (.code c :: .inScope c :: k)) cs w) := hF.steps.2 (.one stepR_scope')
  have hx : ∀ id, exitTo id (.inScope c :: k) = exitTo id k := fun id => by simp [exitTo]
  cases e with
  | normal => exact ⟨.normal, a₁, w₁, hq, (StepsIn.trans st harr).trans (hF.steps.2 (.one stepR_inScope'))⟩
  | exit id => exact ⟨.exit id, a₁, w₁, hq, fun k' hk => st.trans (harr.1 k' (by rw [hx]; exact hk)), fun hr' hk => let ⟨k₁, h1, h2⟩ := harr.2 hr' (by rw [hx]; exact hk); ⟨k₁, h1, st.trans h2⟩⟩
  | goto l => exact hq.elim
  | ret => exact ⟨_, a₁, w₁, hq, .of_steps st harr⟩
  | panic ch => exact ⟨_, a₁, w₁, hq, .of_steps st harr⟩
  | outgrown => exact ⟨_, a₁, w₁, hq, .of_steps st harr⟩
theorem calls_of_wpA {f : FuncId} {fn : Func} {args : Array Value} {R : Ending → World → Prop} (hf : P.funcs[f]? = some fn) (hb : fn.body = some c)
    (h : wpA false P c (bodyPost P fn R) { tmps := args ++ Array.replicate (fn.ntmps - args.size) undef, defers := [] } w) : Calls P f args w R :=
  callsIn_wide.1 (callsIn_of_wp (n := 0) hf hb trivial (h _ wide_wide))
end
end Go.Pv
