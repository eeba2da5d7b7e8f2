/- A region that draws its order, in which a map of numbers is made, filled and looked up. -/
import Derived.Test.YtiamgfjojjjggaaGreatPvAH
set_option linter.unusedSimpArgs false
set_option linter.unusedVariables false
namespace Go.Pv
def lkI : List (Int × Int) → Int → Int
  | [], _ => 0
  | (a, v) :: r, k => bif decide (k = a) then v else lkI r k
def MEq (es : List MapEntry) (m : Int → Option Int) : Prop :=
  ∀ k : Int, match m k with
    | some v => ∀ j, ∃ i, Instr.findNow (.int .i64) (.int .i64 k) es j = some (some (i, .int .i64 v))
    | none => ∀ j, Instr.findNow (.int .i64) (.int .i64 k) es j = some none
theorem findNow_append (k : Int) (e : MapEntry) : ∀ (es : List MapEntry) (j : Nat), Instr.findNow (.int .i64) (.int .i64 k) (es ++ [e]) j = match Instr.findNow (.int .i64) (.int .i64 k) es j with
    | some none => Instr.findNow (.int .i64) (.int .i64 k) [e] (j + es.length)
    | r => r
  | [], j => by simp [Instr.findNow]
  | a :: r, j => by
    have ih := findNow_append k e r (j + 1)
    rw [show j + 1 + r.length = j + (a :: r).length by simp; omega] at ih
    rw [List.cons_append]
    unfold Instr.findNow
    split
    · rfl
    · rw [ih]
      cases Instr.findNow (.int .i64) (.int .i64 k) r (j + 1) with
      | none => rfl
      | some x => cases x with
        | none => unfold Instr.findNow; rfl
        | some y => rfl
    · rfl
theorem MEq.push {es : List MapEntry} {m : Int → Option Int} (h : MEq es m) {q v : Int} {born : Nat} (hq : m q = none) : MEq (es ++ [{ key := .int .i64 q, val := .int .i64 v, born := born }]) (fun k => bif decide (k = q) then some v else m k) := by
  intro k
  have hk := h k
  by_cases e : k = q
  · subst e
    rw [hq] at hk
    simp only [decide_true, cond_true]
    intro j
    refine ⟨j + es.length, ?_⟩
    rw [findNow_append, hk j]
    simp [Instr.findNow, Instr.sameNow]
  · simp only [decide_eq_false e, cond_false]
    cases hm : m k with
    | some u =>
      rw [hm] at hk
      intro j
      obtain ⟨i, hi⟩ := hk j
      exact ⟨i, by rw [findNow_append, hi]⟩
    | none =>
      rw [hm] at hk
      intro j
      rw [findNow_append, hk j]
      simp [Instr.findNow, Instr.sameNow, beq_eq_false_iff_ne.2 e]
inductive MK where
  | mk
  | ins (k v : Int)
  | lk (k : Int)
  | pu
abbrev Sl := Option (Nat × (Nat → AV))
def stL (L : Nat → Bool) (b : Nat) : List Sl → Nat → (Nat → Option AV) → (Nat → Option AV)
  | [], _, f => f
  | none :: r, i, f => stL L b r (i + 1) f
  | some (t, v) :: r, i, f => stL L b r (i + 1) (bif L i then upd f t (some (v b)) else f)
def wr : List Sl → Nat → Nat → Option (Nat × (Nat → AV))
  | [], _, _ => none
  | none :: r, i, t => wr r (i + 1) t
  | some (t', v) :: r, i, t => bif Nat.beq t' t then some (i, v) else wr r (i + 1) t
def keysOf (I : List (Nat × Int × Int)) : List (Int × Int) := I.map fun p => (p.2.1, p.2.2)
structure MapF (s : Sit) (H : AH) (b : Nat) (m : Int → Option Int) : Prop where
  him : ¬ s.Im b
  hno : ¬ Owned s H b
  at' : ∃ es clock, s.w.heap[b]? = some (.map es clock) ∧ MEq es.toList m
theorem MapF.fr {s s' : Sit} {H H' : AH} {b : Nat} {m : Int → Option Int} (h : MapF s H b m) (hb : b < s.w.heap.size) (hf : Fr s H s' H') : MapF s' H' b m := by
  obtain ⟨es, clock, h1, h2⟩ := h.at'
  exact ⟨fun hi => h.him (hf.imo b hb h.hno hi), fun ho => h.hno (hf.own b hb ho), es, clock, (hf.keep b hb h.hno).trans h1, h2⟩
def valM (b : Nat) : Option AV → AV
  | some v => v
  | none => .sc (.map (some b))
def cvE (E0 : List (Option (Nat × Option AV))) : List Sl := E0.map fun x => x.map fun p => (p.1, fun b => valM b p.2)
def fullM (E0 : List (Option (Nat × Option AV))) (f : Nat → Option AV) (b : Nat) : Nat → Option AV := stL (fun _ => true) b (cvE E0) 0 f
def Ob1 (P : Program) (T : TypeId) (tm mkI : Nat) (E0 : List (Option (Nat × Option AV))) (I : List (Nat × Int × Int)) (f : Nat → Option AV) (hp : AH) (o : Oper) (i : Nat) : MK → Prop
  | .mk => o.op = .makeMap T none ∧ o.dst = some tm ∧ E0[i]? = some (some (tm, none)) ∧ i = mkI
  | .ins q v => o.op = .insert T (.tmp tm) (.const (.int .i64 q)) (.const (.int .i64 v)) ∧ o.dst = none ∧ E0[i]? = some none ∧ (i, q, v) ∈ I
  | .lk k => ∃ x y t, o.op = .lookup T (.tmp x) y false ∧ o.dst = some t ∧ E0[i]? = some (some (t, some (int (lkI (keysOf I) k)))) ∧ (∀ b, fullM E0 f b x = some (.sc (.map (some b)))) ∧ ∀ b, (AS.mk (fullM E0 f b) hp).ev y = some (int k)
  | .pu => ∃ t w, o.dst = some t ∧ E0[i]? = some (some (t, w)) ∧ ∀ b, YieldV P o ⟨fullM E0 f b, hp⟩ (valM b w)
def ObM (P : Program) (T : TypeId) (tm mkI : Nat) (E0 : List (Option (Nat × Option AV))) (I : List (Nat × Int × Int)) (f : Nat → Option AV) (hp : AH) : List Oper → List MK → Nat → Prop
  | [], _, _ => True
  | o :: r, c :: cs, i => Ob1 P T tm mkI E0 I f hp o i c ∧ ObM P T tm mkI E0 I f hp r cs (i + 1)
  | _ :: _, [], _ => False
theorem ObM.get {P : Program} {T : TypeId} {tm mkI : Nat} {E0 : List (Option (Nat × Option AV))} {I : List (Nat × Int × Int)} {f : Nat → Option AV} {hp : AH} : ∀ {l : List Oper} {cs : List MK} {k : Nat}, ObM P T tm mkI E0 I f hp l cs k → ∀ {i : Nat} {o : Oper}, l[i]? = some o → ∃ c, cs[i]? = some c ∧ Ob1 P T tm mkI E0 I f hp o (k + i) c
  | [], _, _, _, i, o, h => by simp at h
  | _ :: _, [], _, h, _, _, _ => h.elim
  | a :: r, c :: cs, k, h, 0, o, ho => by simp only [List.getElem?_cons_zero, Option.some.injEq] at ho; subst ho; exact ⟨c, rfl, h.1⟩
  | a :: r, c :: cs, k, h, i + 1, o, ho => by
    obtain ⟨c', h1, h2⟩ := ObM.get h.2 (i := i) (by simpa using ho)
    exact ⟨c', by simpa using h1, by rw [show k + (i + 1) = k + 1 + i by omega]; exact h2⟩
section
variable {P : Program} {n : NT} {ops : List Oper} {T K E : TypeId} {tm mkI : Nat} {E0 : List (Option (Nat × Option AV))} {I : List (Nat × Int × Int)} {cs : List MK} {f : Nat → Option AV} {hp : AH} {s0 : Sit}
end
end Go.Pv
