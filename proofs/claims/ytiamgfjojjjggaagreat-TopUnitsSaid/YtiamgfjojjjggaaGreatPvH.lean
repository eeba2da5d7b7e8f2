/- The abstract layer, part 8: the steps of a proof. -/
import Derived.Test.YtiamgfjojjjggaaGreatPvG
set_option linter.unusedSimpArgs false
set_option linter.unusedVariables false
namespace Go.Pv
section
variable {P : Program} {n : NT} {f : Nat → Option AV} {hp : AH} {ops rest todo : List Oper} {K : AS → Prop} {o : Oper} {Q : Go.Exit → AS → Prop} {x y z : Code} {S : AS}
theorem st {t : Nat} {v : AV} (hw : Wd ops ⟨f, hp⟩ o = some true) (hd : o.dst = some t) (hn : Nat.blt t n.n = true) (hy : YieldV P o ⟨f, hp⟩ v) (h : Rg P n ops rest ⟨upd f t (some v), hp⟩ K) : Rg P n ops (o :: rest) ⟨f, hp⟩ K :=
  rg_pure hw (by rw [hd]; exact hn) hy (by rw [hd]; exact h)
theorem sk {t : Nat} (hw : Wd ops ⟨f, hp⟩ o = some false) (hd : o.dst = some t) (hn : Nat.blt t n.n = true) (h : Rg P n ops rest ⟨upd f t (some (.sc undef)), hp⟩ K) : Rg P n ops (o :: rest) ⟨f, hp⟩ K :=
  rg_skip hw (by rw [hd]; exact hn) (by rw [hd]; exact h)
theorem se {t : Nat} {Out : AV → AH → Prop} (hw : Wd ops ⟨f, hp⟩ o = some true) (hd : o.dst = some t) (hn : Nat.blt t n.n = true) (hy : Yield P o ⟨f, hp⟩ no any Out)
    (h : ∀ v H', Out v H' → Rg P n ops rest ⟨upd f t (some v), H'⟩ K) : Rg P n ops (o :: rest) ⟨f, hp⟩ K :=
  rg_go hw (by rw [hd]; exact hn) hy fun v H' hO => by rw [hd]; exact h v H' hO
theorem sstore {v : AV} {H' : AH} (hw : Wd ops ⟨f, hp⟩ o = some true) (hd : o.dst = none) (hy : Yield P o ⟨f, hp⟩ no no (fun z H => z = v ∧ H = H'))
    (h : Rg P n ops rest ⟨f, H'⟩ K) : Rg P n ops (o :: rest) ⟨f, hp⟩ K :=
  rg_go hw (by rw [hd]; rfl) (hy.weak (fun _ h => h) fun _ h => h.elim) fun v' H2 ⟨_, h2⟩ => by rw [hd, h2]; exact h
theorem sas {u : AV} (t : Nat) (v : AV) (h : f t = some u) (e : u = v) (h1 : Rg P n ops todo ⟨upd f t (some v), hp⟩ K) : Rg P n ops todo ⟨f, hp⟩ K :=
  rg_as (S := ⟨f, hp⟩) v t h e h1
def Trs (P : Program) (n : NT) (Q : Go.Exit → AS → Prop) : List Code → AS → Prop
  | [], S => Q .normal S
  | c :: cs, S => Tr P n c S (Exit.thn (Trs P n Q cs) Q)
variable {cs : List Code}
theorem trs_of (h : Trs P n Q [x] S) : Tr P n x S Q := Tr.mono h fun e S hq => by cases e <;> exact hq
theorem c_nil (h : Q .normal S) : Trs P n Q [] S := h
theorem c_seq (h : Trs P n Q (x :: y :: cs) S) : Trs P n Q (.seq x y :: cs) S :=
  tr_seq (Tr.mono h fun e S hq => by cases e <;> exact hq)
theorem c_skip (h : Trs P n Q cs S) : Trs P n Q (.skip :: cs) S := tr_skip h
theorem c_label {l : Nat} (h : Trs P n Q cs S) : Trs P n Q (.label l :: cs) S := tr_label h
theorem c_ret (h : Q .ret S) : Trs P n Q (.ret :: cs) S := tr_ret h
theorem c_exit {id : Nat} (h : Q (.exit id) S) : Trs P n Q (.exit id :: cs) S := tr_exit h
theorem c_reg {id : Nat} {l : List Oper} (h : ∀ K : AS → Prop, (∀ S', Trs P n Q cs S' → K S') → Rg P n l l S K) (hd : l.all ndef = true := by rfl) : Trs P n Q (.region id l.toArray false :: cs) S :=
  tr_region hd (h _ fun _ h => h)
theorem c_draw {id : Nat} {l : List Oper} (bm : List Nat) (rd : Nat → Nat → Bool) (wr : Nat → Option Nat) (hm : P.follows .mixedOrders = true) (hB : lexA n l bm rd wr = true)
    (h : ∀ C, ∀ K : AS → Prop, (∀ S', Trs P n Q cs S' → K S') → DG P rd wr C l K l 0 S) : Trs P n Q (.region id l.toArray true :: cs) S :=
  tr_draw bm rd wr hm hB fun C => h C _ fun _ h => h
theorem c_if {c : Operand} {b : Bool} (hc : S.ev c = some (.sc (.bool b))) (ht : b = true → Trs P n Q (x :: cs) S) (hf : b = false → Trs P n Q (y :: cs) S) : Trs P n Q (.cond c x y :: cs) S :=
  tr_cond hc ht hf
theorem c_true {c : Operand} (hc : S.ev c = some (.sc (.bool true))) (ht : Trs P n Q (x :: cs) S) : Trs P n Q (.cond c x y :: cs) S := c_if hc (fun _ => ht) (fun e => by cases e)
theorem c_false {c : Operand} (hc : S.ev c = some (.sc (.bool false))) (ht : Trs P n Q (y :: cs) S) : Trs P n Q (.cond c x y :: cs) S := c_if hc (fun e => by cases e) (fun _ => ht)
theorem s_cv {u : AV} (t : Nat) (v : AV) (h : f t = some u) (hc : Cv hp u v) (h1 : Rg P n ops todo ⟨upd f t (some v), hp⟩ K) : Rg P n ops todo ⟨f, hp⟩ K := rg_cv (S := ⟨f, hp⟩) v t h hc h1
theorem c_as {t : Nat} {u : AV} (v : AV) (h : f t = some u) (e : u = v) (h1 : Trs P n Q (x :: cs) ⟨upd f t (some v), hp⟩) : Trs P n Q (x :: cs) ⟨f, hp⟩ :=
  tr_as (S := ⟨f, hp⟩) v t h e h1
def kn : List (Nat × AV) → Nat → Option AV
  | [] => fun _ => none
  | (t, v) :: r => upd (kn r) t (some v)
def hk : List (Nat × AObj) → AH
  | [] => H0
  | (t, v) :: r => upd (hk r) t (some v)
def KN (f : Nat → Option AV) : List (Nat × AV) → Prop
  | [] => True
  | (t, v) :: r => f t = some v ∧ KN f r
def HK (H : AH) : List (Nat × AObj) → Prop
  | [] => True
  | (t, v) :: r => H t = some v ∧ HK H r
theorem KN.le {l : List (Nat × AV)} (h : KN f l) : ∀ t v, kn l t = some v → f t = some v := by
  induction l with
  | nil => intro t v h; cases h
  | cons p r ih =>
    intro t v hv
    obtain ⟨q, u⟩ := p
    simp only [kn] at hv
    by_cases ht : t = q
    · subst ht; rw [upd_same] at hv; cases hv; exact h.1
    · rw [upd_ne _ _ ht] at hv; exact ih h.2 t v hv
theorem HK.le {H : AH} {l : List (Nat × AObj)} (h : HK H l) : ∀ t v, hk l t = some v → H t = some v := by
  induction l with
  | nil => intro t v h; cases h
  | cons p r ih =>
    intro t v hv
    obtain ⟨q, u⟩ := p
    simp only [hk] at hv
    by_cases ht : t = q
    · subst ht; rw [upd_same] at hv; cases hv; exact h.1
    · rw [upd_ne _ _ ht] at hv; exact ih h.2 t v hv
theorem pc_of' {f : FuncId} {fn : Func} {c : Code} {args : List AV} {H : AH} {R : AV → AH → Prop} (hf : P.funcs[f]? = some fn) (hb : fn.body = some c) (hle : Nat.ble args.length fn.ntmps = true)
    (h : ∀ Q : Go.Exit → AS → Prop, (∀ S' vs H2, ResA P S' fn.results.toList vs → (∀ t v, H2 t = some v → S'.hp t = some v) → R (oneOrTup vs) H2 → Q .ret S') → (∀ S' vs H2, ResA P S' fn.results.toList vs → (∀ t v, H2 t = some v → S'.hp t = some v) → R (oneOrTup vs) H2 → Q .normal S') →
      Trs P ⟨fn.ntmps, false, []⟩ Q [c] ⟨fun t => args[t]?, H⟩) : PC P f args H R :=
  pc_of hf hb (Nat.le_of_ble_eq_true hle) (trs_of (h _ (fun _ vs H2 h1 hs h2 => ⟨.inr rfl, vs, H2, h1, hs, h2⟩) (fun _ vs H2 h1 hs h2 => ⟨.inl rfl, vs, H2, h1, hs, h2⟩)))
theorem wrap64 {a : Int} (h : -9223372036854775808 ≤ a ∧ a ≤ 9223372036854775807) : IntKind.i64.wrap a = a := IntWalk.i64_in a (by omega)
end
end Go.Pv
