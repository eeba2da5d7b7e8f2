/- Plain readings as trees: what they ask, what they reckon; a tree run by a list of answers, with what must be true for these. -/
import Derived.Test.YtpbcnilkippahaaPvAE
set_option linter.unusedSimpArgs false
set_option linter.unusedVariables false
namespace Go.Pv
inductive T (A : Type) (α : Type) where
  | ret (a : α)
  | fail
  | ask (b : Bool) (k : Bool → T A α)
  | wr (e : Int) (k : Int → T A α)
  | op (o : Option A) (k : A → T A α)
namespace T
variable {A α β γ : Type}
def run : T A α → Option α
  | ret a => some a
  | fail => none
  | ask b k => run (k b)
  | wr e k => run (k (w64 e))
  | op o k => match o with | some v => run (k v) | none => none
def bind : T A α → (α → T A β) → T A β
  | ret a, f => f a
  | fail, _ => fail
  | ask b k, f => ask b fun x => bind (k x) f
  | wr e k, f => wr e fun x => bind (k x) f
  | op o k, f => op o fun x => bind (k x) f
def bnd (x : α) (f : α → T A β) : T A β := f x
def asrt (p : Prop) [Decidable p] (k : T A β) : T A β := ask (decide p) fun c => cond c k fail
def ifv (p : Prop) [Decidable p] (a b : α) : T A α := ask (decide p) fun c => ret (cond c a b)
def ofO (x : Option α) : T A α := match x with | some v => ret v | none => fail
def ix (l : List α) (i : Int) : T A α := ofO (Go.Pv.ix l i)
def brk (a : α) : T A (α ⊕ β) := ret (.inl a)
def esc : T A β → T A (α ⊕ β) := fun x => bind x fun c => ret (.inr c)
def sel (f : α → T A β) : α ⊕ β → T A β
  | .inl a => f a
  | .inr c => ret c
def selr (f : α → T A γ) (g : β → T A γ) : α ⊕ β → T A γ
  | .inl a => f a
  | .inr b => g b
theorem rA (f : α → T A β) : ∀ t : T A α, (bind t f).run = t.run.bind fun x => (f x).run
  | ret a => rfl
  | fail => rfl
  | ask b k => rA f (k b)
  | wr e k => rA f (k (w64 e))
  | op o k => by
    cases o with
    | none => rfl
    | some v => exact rA f (k v)
theorem rB (a : α) : (ret a : T A α).run = some a := rfl
theorem rC : (fail : T A α).run = none := rfl
theorem rD (b : Bool) (k : Bool → T A α) : (ask b k).run = Go.Pv.bnd b fun x => (k x).run := rfl
theorem rE (e : Int) (k : Int → T A α) : (wr e k).run = Go.Pv.bnd (w64 e) fun x => (k x).run := rfl
theorem rF (x : β) (k : β → T A α) : (bnd x k).run = Go.Pv.bnd x fun x => (k x).run := rfl
theorem rG (b : Bool) (x y : T A α) : (cond b x y).run = cond b x.run y.run := by cases b <;> rfl
theorem rH (p : Prop) [Decidable p] (k : T A α) : (asrt p k).run = Go.Pv.asrt p k.run := by
  unfold asrt Go.Pv.asrt
  by_cases h : p
  · rw [decide_eq_true h, if_pos h]; rfl
  · rw [decide_eq_false h, if_neg h]; rfl
theorem rI (p : Prop) [Decidable p] (a b : β) (k : β → Option α) : (ifv p a b : T A β).run.bind k = Go.Pv.bnd (if p then a else b) k := by
  by_cases h : p
  · show (some (cond (decide p) a b)).bind k = k (if p then a else b)
    rw [decide_eq_true h, if_pos h]; rfl
  · show (some (cond (decide p) a b)).bind k = k (if p then a else b)
    rw [decide_eq_false h, if_neg h]; rfl
theorem rJ (l : List α) (i : Int) : (ix l i : T A α).run = Go.Pv.ix l i := by unfold ix ofO; cases Go.Pv.ix l i <;> rfl
theorem rK (a : α) : (brk a : T A (α ⊕ β)).run = Go.Pv.brk a := rfl
theorem rL (x : T A β) : (esc x : T A (α ⊕ β)).run = Go.Pv.esc x.run := by
  unfold esc Go.Pv.esc; rw [rA]; cases x.run <;> rfl
theorem rM (f : α → T A β) (x : α ⊕ β) : (sel f x).run = Go.Pv.sel (fun a => (f a).run) x := by cases x <;> rfl
theorem rN (f : α → T A γ) (g : β → T A γ) (x : α ⊕ β) : (selr f g x).run = Go.Pv.selr (fun a => (f a).run) (fun a => (g a).run) x := by cases x <;> rfl
theorem rO (f : α → β → T A γ) (x : α × β) : (p2 f x).run = p2 (fun a b => (f a b).run) x := rfl
inductive E (A : Type) where
  | q (v b : Bool)
  | w (e v : Int)
  | o (x : Option A) (v : A)
inductive Ob (A : Type) where
  | b (b : Bool)
  | e (e : Int)
  | o (x : Option A)
def E.ob : E A → Ob A
  | .q _ b => .b b
  | .w e _ => .e e
  | .o x _ => .o x
def E.ok : E A → Prop
  | .q v b => b = v
  | .w e v => e = v ∧ -9223372036854775808 ≤ v ∧ v ≤ 9223372036854775807
  | .o x v => x = some v
def gt : List (E A) → Nat → E A
  | [], _ => .q true true
  | e :: _, 0 => e
  | _ :: r, n + 1 => gt r n
def exp (tab : List (E A)) : List (Nat × Nat) → List (Ob A) → List (Ob A)
  | [], acc => acc
  | (i, _) :: os, acc => exp tab os ((gt tab i).ob :: acc)
def go (tab : List (E A)) : T A α → Nat → List (Nat × Nat) → List (Ob A) → Option (α × List (Ob A))
  | ret a, _, _, acc => some (a, acc)
  | fail, _, _, _ => none
  | ask b k, s, os, acc =>
    match s with
    | s + 1 => match b with
      | true => go tab (k true) s os acc
      | false => go tab (k false) s os acc
    | 0 => match os with
      | [] => none
      | (i, s) :: os => match gt tab i with
        | .q true _ => go tab (k true) s os (.b b :: acc)
        | .q false _ => go tab (k false) s os (.b b :: acc)
        | _ => none
  | wr e k, s, os, acc =>
    match s with
    | s + 1 => match e with
      | .ofNat m => match Nat.ble m 9223372036854775807 with
        | true => match m with
          | 0 => go tab (k (.ofNat 0)) s os acc
          | m + 1 => go tab (k (.ofNat (m + 1))) s os acc
        | false => none
      | .negSucc m => match Nat.ble m 9223372036854775807 with
        | true => match m with
          | 0 => go tab (k (.negSucc 0)) s os acc
          | m + 1 => go tab (k (.negSucc (m + 1))) s os acc
        | false => none
    | 0 => match os with
      | [] => none
      | (i, s) :: os => match gt tab i with
        | .w _ v => go tab (k v) s os (.e e :: acc)
        | _ => none
  | op x k, s, os, acc =>
    match s with
    | s + 1 => match x with
      | some v => go tab (k v) s os acc
      | none => none
    | 0 => match os with
      | [] => none
      | (i, s) :: os => match gt tab i with
        | .o _ v => go tab (k v) s os (.o x :: acc)
        | _ => none
theorem exp_len (tab : List (E A)) : ∀ (os : List (Nat × Nat)) (acc : List (Ob A)), ∃ pre, exp tab os acc = pre ++ acc ∧ pre.length = os.length
  | [], acc => ⟨[], rfl, rfl⟩
  | (i, s) :: os, acc => by
    obtain ⟨pre, h1, h2⟩ := exp_len tab os ((gt tab i).ob :: acc)
    exact ⟨pre ++ [(gt tab i).ob], by rw [exp, h1]; simp, by simp [h2]⟩
theorem go_len (tab : List (E A)) {r : α} {out : List (Ob A)} : ∀ (t : T A α) (s : Nat) (os : List (Nat × Nat)) (acc : List (Ob A)), go tab t s os acc = some (r, out) → ∃ pre, out = pre ++ acc ∧ pre.length ≤ os.length := by
  have step : ∀ {i s : Nat} {os : List (Nat × Nat)} {acc : List (Ob A)} {q : Ob A}, (∃ pre, out = pre ++ q :: acc ∧ pre.length ≤ os.length) → ∃ pre, out = pre ++ acc ∧ pre.length ≤ ((i, s) :: os).length := by
    rintro i s os acc q ⟨pre, h1, h2⟩
    exact ⟨pre ++ [q], by rw [h1]; simp, by simp; omega⟩
  intro t
  induction t with
  | ret a => intro s os acc h; simp only [go, Option.some.injEq, Prod.mk.injEq] at h; exact ⟨[], by rw [← h.2]; rfl, by simp⟩
  | fail => intro s os acc h; simp [go] at h
  | ask b k ih =>
    intro s os acc h
    cases s with
    | succ s => cases b <;> exact ih _ _ _ _ h
    | zero => cases os with
      | nil => simp [go] at h
      | cons p os =>
        obtain ⟨i, s⟩ := p
        unfold go at h; dsimp only at h
        split at h
        · exact step (ih _ _ _ _ h)
        · exact step (ih _ _ _ _ h)
        · cases h
  | wr e k ih =>
    intro s os acc h
    cases s with
    | succ s =>
      unfold go at h; dsimp only at h
      split at h
      · split at h
        · split at h <;> exact ih _ _ _ _ h
        · cases h
      · split at h
        · split at h <;> exact ih _ _ _ _ h
        · cases h
    | zero => cases os with
      | nil => simp [go] at h
      | cons p os =>
        obtain ⟨i, s⟩ := p
        unfold go at h; dsimp only at h
        split at h
        · exact step (ih _ _ _ _ h)
        · cases h
  | op x k ih =>
    intro s os acc h
    cases s with
    | succ s =>
      unfold go at h; dsimp only at h
      split at h
      · exact ih _ _ _ _ h
      · cases h
    | zero => cases os with
      | nil => simp [go] at h
      | cons p os =>
        obtain ⟨i, s⟩ := p
        unfold go at h; dsimp only at h
        split at h
        · exact step (ih _ _ _ _ h)
        · cases h
theorem head_eq {tab : List (E A)} {os : List (Nat × Nat)} {t : T A α} {s : Nat} {r : α} {a b : Ob A} {acc : List (Ob A)} (h : go tab t s os (a :: acc) = some (r, exp tab os (b :: acc))) : a = b := by
  obtain ⟨p1, h1, l1⟩ := go_len tab t s os _ h
  obtain ⟨p2, h2, l2⟩ := exp_len tab os (b :: acc)
  rw [h1] at h2
  have hl : p1.length = p2.length := by
    have := congrArg List.length h2; simp at this; omega
  have := (List.append_inj h2 hl).2
  simpa using this
theorem go_ok {tab : List (E A)} (hk : ∀ i, (gt tab i).ok) {r : α} : ∀ (t : T A α) (s : Nat) (os : List (Nat × Nat)) (acc : List (Ob A)), go tab t s os acc = some (r, exp tab os acc) → t.run = some r := by
  intro t
  induction t with
  | ret a => intro s os acc h; simp only [go, Option.some.injEq, Prod.mk.injEq] at h; rw [← h.1]; rfl
  | fail => intro s os acc h; simp [go] at h
  | ask b k ih =>
    intro s os acc h
    cases s with
    | succ s => cases b <;> exact ih _ _ _ _ h
    | zero => cases os with
      | nil => simp [go] at h
      | cons p os =>
        obtain ⟨i, s⟩ := p
        have hi := hk i
        unfold go exp at h; dsimp only at h
        split at h
        · rename_i b' he
          rw [he] at h hi
          have := head_eq h
          simp only [E.ob, Ob.b.injEq] at this
          have hb : b = true := by rw [this]; exact hi
          rw [← this] at h
          show (k b).run = _
          rw [hb]; exact ih _ _ _ _ (by rw [hb] at h; exact h)
        · rename_i b' he
          rw [he] at h hi
          have := head_eq h
          simp only [E.ob, Ob.b.injEq] at this
          have hb : b = false := by rw [this]; exact hi
          rw [← this] at h
          show (k b).run = _
          rw [hb]; exact ih _ _ _ _ (by rw [hb] at h; exact h)
        · cases h
  | wr e k ih =>
    intro s os acc h
    cases s with
    | succ s =>
      unfold go at h; dsimp only at h
      split at h
      · split at h
        · rename_i m _ hm
          have hm := Nat.le_of_ble_eq_true hm
          show (k (w64 _)).run = _
          rw [show w64 (Int.ofNat m) = Int.ofNat m from wrap64 (by constructor <;> (simp only [Int.ofNat_eq_natCast]; omega))]
          split at h <;> exact ih _ _ _ _ h
        · cases h
      · split at h
        · rename_i m _ hm
          have hm := Nat.le_of_ble_eq_true hm
          show (k (w64 _)).run = _
          rw [show w64 (Int.negSucc m) = Int.negSucc m from wrap64 (by constructor <;> omega)]
          split at h <;> exact ih _ _ _ _ h
        · cases h
    | zero => cases os with
      | nil => simp [go] at h
      | cons p os =>
        obtain ⟨i, s⟩ := p
        have hi := hk i
        unfold go exp at h; dsimp only at h
        split at h
        · rename_i e' v he
          rw [he] at h hi
          have := head_eq h
          simp only [E.ob, Ob.e.injEq] at this
          have hw : w64 e = v := by rw [this, hi.1]; exact wrap64 hi.2
          rw [← this] at h
          show (k (w64 e)).run = _
          rw [hw]; exact ih _ _ _ _ h
        · cases h
  | op x k ih =>
    intro s os acc h
    cases s with
    | succ s =>
      unfold go at h; dsimp only at h
      split at h
      · exact ih _ _ _ _ h
      · cases h
    | zero => cases os with
      | nil => simp [go] at h
      | cons p os =>
        obtain ⟨i, s⟩ := p
        have hi := hk i
        unfold go exp at h; dsimp only at h
        split at h
        · rename_i e' v he
          rw [he] at h hi
          have := head_eq h
          simp only [E.ob, Ob.o.injEq] at this
          have hx : x = some v := by rw [this]; exact hi
          rw [← this] at h
          subst hx
          exact ih _ _ _ _ h
        · cases h
def nx (s : Nat) (os : List (Nat × Nat)) (t : T A α) (acc : List (Ob A)) (r : Option (T A α × List (Ob A))) : Option (T A α × List (Ob A)) :=
  match s, os with
  | 0, [] => some (t, acc)
  | _, _ => r
def AllE : List (E A) → Prop
  | [] => True
  | e :: r => e.ok ∧ AllE r
theorem AllE.gt : ∀ {tab : List (E A)}, AllE tab → ∀ i, (gt tab i).ok
  | [], _, _ => rfl
  | _ :: _, h, 0 => h.1
  | _ :: _, h, i + 1 => AllE.gt h.2 i
theorem by_go (tab : List (E A)) (s : Nat) (os : List (Nat × Nat)) {t : T A α} {r : α} {d : Option α} (hd : t.run = d) (hk : AllE tab) (h : go tab t s os [] = some (r, exp tab os [])) : d = some r :=
  hd ▸ go_ok hk.gt t s os [] h
theorem fin {d : Option α} {r r' : α} (h : d = some r) (e : r = r') : d = some r' := e ▸ h
theorem rPP (o : Option α) : (ofO o : T A α).run = o := by cases o <;> rfl
def opx (f : β → A) (g : A → Option β) (o : Option β) : T A β := op (o.map f) fun v => ofO (g v)
theorem run_opx {f : β → A} {g : A → Option β} (h : ∀ b, g (f b) = some b) (o : Option β) : (opx f g o).run = o := by
  cases o with
  | none => rfl
  | some b => show (ofO (g (f b)) : T A β).run = some b; rw [rPP, h]
def prs : List Nat → List (Nat × Nat)
  | a :: r => (a % 1000, a / 1000) :: prs r
  | _ => []
def E.a (p : Prop) [Decidable p] : E A := .q true (decide p)
def E.b (p : Prop) [Decidable p] : E A := .q false (decide p)
def E.s (e : Int) : E A := .w e e
theorem rs : (∀ {α β : Type} (f : α → T A β) (t : T A α), (bind t f).run = t.run.bind fun x => (f x).run) ∧ (∀ {α : Type} (a : α), (ret a : T A α).run = some a) ∧ (∀ {α : Type}, (fail : T A α).run = none) ∧
    (∀ {α : Type} (b : Bool) (k : Bool → T A α), (ask b k).run = Go.Pv.bnd b fun x => (k x).run) ∧ (∀ {α : Type} (e : Int) (k : Int → T A α), (wr e k).run = Go.Pv.bnd (w64 e) fun x => (k x).run) ∧
    (∀ {α β : Type} (x : β) (k : β → T A α), (bnd x k).run = Go.Pv.bnd x fun x => (k x).run) ∧ (∀ {α : Type} (b : Bool) (x y : T A α), (cond b x y).run = cond b x.run y.run) ∧
    (∀ {α : Type} (p : Prop) [Decidable p] (k : T A α), (asrt p k).run = Go.Pv.asrt p k.run) ∧ (∀ {α β : Type} (p : Prop) [Decidable p] (a b : β) (k : β → Option α), (ifv p a b : T A β).run.bind k = Go.Pv.bnd (if p then a else b) k) ∧
    (∀ {α : Type} (l : List α) (i : Int), (ix l i : T A α).run = Go.Pv.ix l i) ∧ (∀ {α β : Type} (a : α), (brk a : T A (α ⊕ β)).run = Go.Pv.brk a) ∧ (∀ {α β : Type} (x : T A β), (esc x : T A (α ⊕ β)).run = Go.Pv.esc x.run) ∧
    (∀ {α β : Type} (f : α → T A β) (x : α ⊕ β), (sel f x).run = Go.Pv.sel (fun a => (f a).run) x) ∧ (∀ {α β γ : Type} (f : α → T A γ) (g : β → T A γ) (x : α ⊕ β), (selr f g x).run = Go.Pv.selr (fun a => (f a).run) (fun a => (g a).run) x) ∧
    (∀ {α β γ : Type} (f : α → β → T A γ) (x : α × β), (p2 f x).run = p2 (fun a b => (f a b).run) x) :=
  ⟨rA, rB, rC, rD, rE, rF, rG, fun p => rH p, fun p => rI p, rJ, rK, rL, rM, rN, rO⟩
theorem okWn {a b n v : Int} (hv : v = 0 - b / n) (h : a = 0 - b) (hb : 0 ≤ b) (hr : -9223372036854775808 ≤ v ∧ v ≤ 9223372036854775807) : (E.ok (.w (Int.tdiv a n) v : E A)) := by
  refine ⟨?_, hr.1, hr.2⟩
  rw [hv, h, Int.zero_sub, Int.neg_tdiv, Int.tdiv_eq_ediv_of_nonneg hb, Int.zero_sub]
theorem okN : AllE ([] : List (E A)) := trivial
theorem okC {e : E A} {r : List (E A)} (h : e.ok) (k : AllE r) : AllE (e :: r) := ⟨h, k⟩
theorem okT {p : Prop} [Decidable p] (h : p) : (E.ok (.q true (decide p) : E A)) := decide_eq_true h
theorem okF {p : Prop} [Decidable p] (h : ¬ p) : (E.ok (.q false (decide p) : E A)) := decide_eq_false h
theorem okW {e v : Int} (h : e = v ∧ -9223372036854775808 ≤ v ∧ v ≤ 9223372036854775807) : (E.ok (.w e v : E A)) := h
theorem okO {f : β → A} {x : Option β} {v : β} (h : x = some v) : E.ok (.o (x.map f) (f v)) := by subst h; rfl
end T
end Go.Pv
