/- Sums of ways; arrays; structs that are compared. -/
import Derived.Test.YtkinibckmebacaaGreatPvW
import Derived.Laws.StructEq
import Derived.ChangeKeysEq
set_option linter.unusedSimpArgs false
set_option linter.unusedVariables false
namespace Go.Pv
def selr {α β γ : Type} (f : α → Option γ) (g : β → Option γ) : α ⊕ β → Option γ
  | .inl a => f a
  | .inr b => g b
theorem selr_l {α β γ : Type} {f : α → Option γ} {g : β → Option γ} {a : α} {r : Option γ} (h : selr f g (.inl a) = r) : f a = r := h
theorem selr_r {α β γ : Type} {f : α → Option γ} {g : β → Option γ} {b : β} {r : Option γ} (h : selr f g (.inr b) = r) : g b = r := h
section
variable {P : Program} {n : NT} {S : AS} {o : Oper} {T : TypeId} {x y : Operand} {α : Type}
theorem yv_buildA {N e sz : Nat} {b : Bool} {zs : List Value} {ps : List (Nat × Operand)} {vs cs : List AV} (ho : o.op = .build T ps.toArray) (hT : P.underlying T = some (.array N e)) (he : tySh P e = some (sz, b)) (hz : zeroOf P T = some zs) (h1 : allOneV zs = true)
    (hv : EvL S (ps.map (·.2)) vs) (hf : fillA (fun i => some (i * sz, sz)) (zs.map .sc) ((ps.map (·.1)).zip vs) = some cs) : YieldV P o S (.agg cs) :=
  yv_of fun s ρ hH h => by
    obtain ⟨z, hz1, hz2⟩ := run_zeroValue' hz s.w
    obtain ⟨a1, a2⟩ := hv.val (s := s) (ρ := ρ) fun q hq => h q (by simp only [ho, Op.operands]; simpa using hq)
    obtain ⟨cells', g1, g2⟩ := CR.fill (place := fun i => some (i * sz, sz)) (ρ := ρ) ps vs _ cs z.cells (by simpa using a1) (by simpa [Function.comp_def] using a2) (CR.zero s zs h1 hz1) hf
    refine ⟨_, g2.agg, ?_⟩
    simp only [execOp, ho, Instr.build, Sem.run_bind, hz2, Result.andThen_ok, run_underlying hT, run_sizeOf' he, List.map_toArray]
    have g1' : Instr.fill (fun i => some (i * sz, sz)) z.cells (ps.map fun (i, x) => (i, ρ x)) = some cells' := g1
    rw [g1']
    rfl
theorem flat_dropV {sz : Nat} {g : α → List AV} (hg : ∀ a, (g a).length = sz) : ∀ (l : List α) (i : Nat) (v : α), l[i]? = some v → ∃ r, ((l.map g).flatten).drop (i * sz) = g v ++ r
  | [], i, v, h => by simp at h
  | a :: l, 0, v, h => by simp at h; subst h; exact ⟨(l.map g).flatten, by simp⟩
  | a :: l, i + 1, v, h => by
    obtain ⟨r, hr⟩ := flat_dropV hg l i v (by simpa using h)
    refine ⟨r, ?_⟩
    rw [List.map_cons, List.flatten_cons, Nat.add_mul, Nat.one_mul, Nat.add_comm, ← List.drop_drop, ← hg a, List.drop_left, hg a, hr]
theorem yv_indexAT {e N sz : Nat} {b : Bool} {g : α → List AV} {l : List α} {kk : IntKind} {i : Int} {v : α} {w : AV} (ho : o.op = .index T x y) (hT : P.underlying T = some (.array N e)) (he : tySh P e = some (sz, b)) (hx : S.ev x = some (.agg ((l.map g).flatten))) (hy : S.ev y = some (.sc (.int kk i)))
    (hN : l.length = N) (h : ix l i = some v) (hg : ∀ a, (g a).length = sz) (hw : ∀ r, cellsV sz b (g v ++ r) = some w) : YieldV P o S w := by
  obtain ⟨r, hr⟩ := flat_dropV hg l i.toNat v (ix_e h).2
  have hlt := ix_lt h
  have := (ix_e h).1
  exact yv_indexA ho hT he hx hy (by omega) (by rw [hr]; exact hw r)
theorem hw1 {a : AV} : ∀ r, cellsV 1 false ([a] ++ r) = some a := fun _ => rfl
inductive EqC (P : Program) : TypeId → AV → AV → Bool → Prop
  | int {t : TypeId} {k : IntKind} {a b : Int} (h : P.underlying t = some (.int k)) : EqC P t (.sc (.int k a)) (.sc (.int k b)) (decide (a = b))
  | bool {t : TypeId} {a b : Bool} (h : P.underlying t = some .bool) : EqC P t (.sc (.bool a)) (.sc (.bool b)) (decide (a = b))
theorem EqC.run {t : TypeId} {a b : AV} {r : Bool} (h : EqC P t a b r) {s : Sit} {u v : Value} (hu : VR s a u) (hv : VR s b v) (d : Nat) (w : World) : (Op.equalIn (d + 1) t u v).run P w = .ok r w := by
  cases h with
  | int h => rw [hu.sc_inv, hv.sc_inv]; simp [Op.equalIn, run_underlying h]; rfl
  | bool h => rw [hu.sc_inv, hv.sc_inv]; simp [Op.equalIn, run_underlying h]; rename_i a b; cases a <;> cases b <;> rfl
inductive EqL (P : Program) : Nat → List (Nat × Nat) → List AV → List AV → Bool → Prop
  | nil (i : Nat) : EqL P i [] [] [] true
  | cons {i t : Nat} {ts : List (Nat × Nat)} {a b : AV} {as bs : List AV} {r q : Bool} (h : EqC P t a b r) (ht : tySh P t = some (1, false)) (hr : EqL P (i + 1) ts as bs q) : EqL P i ((t, i) :: ts) (a :: as) (b :: bs) (r && q)
theorem run_eqI {s : Sit} {xs ys : Array Value} {cs ds : List AV} {e : Nat} (hx : cs.length = xs.size ∧ ∀ (i : Nat) (x : AV) (v : Value), cs[i]? = some x → xs[i]? = some v → VR s x v) (hy : ds.length = ys.size ∧ ∀ (i : Nat) (x : AV) (v : Value), ds[i]? = some x → ys[i]? = some v → VR s x v) (hc1 : P.cellsOf e = 1) (d : Nat) :
    ∀ (k i : Nat) (r : Bool), EqL P i ((List.range' i k).map fun j => (e, j)) (cs.drop i) (ds.drop i) r → (Op.eqItems (d + 1) e (P.cellsOf e) xs ys (List.range' i k)).run P s.w = .ok r s.w
  | 0, i, r, h => by
    cases hc : cs.drop i <;> cases hd : ds.drop i <;> rw [hc, hd] at h <;> cases h
    rfl
  | k + 1, i, r, h => by
    rw [List.range'_succ] at h ⊢
    cases hc : cs.drop i with
    | nil => rw [hc] at h; cases h
    | cons a as =>
      cases hd : ds.drop i with
      | nil => rw [hc, hd] at h; cases h
      | cons b bs =>
        rw [hc, hd, List.map_cons] at h
        cases h with
        | cons h1 ht h2 =>
          rename_i r1 q
          obtain ⟨u, g1, g2⟩ := run_part (P := P) (t := e) (off := i) (v := a) ht hx.1 hx.2 (by simp [cellsV, hc])
          obtain ⟨v, g3, g4⟩ := run_part (P := P) (t := e) (off := i) (v := b) ht hy.1 hy.2 (by simp [cellsV, hd])
          have g5 := h1.run g1 g3 d s.w
          have ih := run_eqI hx hy hc1 d k (i + 1) q (by rw [(drop_cons hc).2, (drop_cons hd).2]; exact h2)
          have e1 : i * P.cellsOf e = i := by rw [hc1, Nat.mul_one]
          simp only [Op.eqItems, Sem.run_bind, e1, g2, g4, g5, Result.andThen_ok]
          cases r1
          · simp
          · simpa using ih
theorem run_eqA {s : Sit} {u v : Value} {cs ds : List AV} {e N : Nat} {r : Bool} (hT : P.underlying T = some (.array N e)) (hi : ((P.info? e).map (·.size)) = some 1) (hc1 : P.cellsOf e = 1) (hne : 0 < N) (hu : VR s (.agg cs) u) (hv : VR s (.agg ds) v) (h : EqL P 0 ((List.range' 0 N).map fun j => (e, j)) cs ds r) :
    (do eqGuard .eql T x y u v; binOp .eql T u v : Sem Value).run P s.w = .ok (.bool r) s.w ∧ (do eqGuard .neq T x y u v; binOp .neq T u v : Sem Value).run P s.w = .ok (.bool (!r)) s.w := by
  obtain ⟨j, hj1, hj2⟩ := info_of hi
  cases hu with
  | agg hl1 hh1 =>
    cases hv with
    | agg hl2 hh2 =>
      rename_i xs ys
      have hrun : ∀ w, w = s.w → (Op.equal T (.agg xs) (.agg ys)).run P w = .ok r w := fun w hw => by
        subst hw
        have := run_equalIn_array s.w 9999 xs ys hT hj1
        simp only [Op.equal, Op.maxDepth]
        rw [this, List.range_eq_range']
        exact run_eqI ⟨hl1, hh1⟩ ⟨hl2, hh2⟩ hc1 9998 N 0 r (by simpa using h)
      have hg : P.eqGuardType P.depth T = false := by
        obtain ⟨N', rfl⟩ : ∃ N', N = N' + 1 := ⟨N - 1, by omega⟩
        rw [List.range'_succ, List.map_cons] at h
        have hdp : P.depth = ((2 * (P.types.size + Made.depth)) + 1) + 1 := rfl
        rw [hdp]
        cases h with
        | cons h1 ht h2 =>
          cases h1 with
          | int h => simp [Program.eqGuardType, hT, h]
          | bool h => simp [Program.eqGuardType, hT, h]
      have hprog : (program).run P s.w = .ok P s.w := rfl
      constructor
      · simp [eqGuard, binOp, hprog, hg, hrun _ rfl]
      · simp [eqGuard, binOp, hprog, hg, hrun _ rfl]
theorem yv_areql {cs ds : List AV} {e N : Nat} {r r' : Bool} {Ty : TypeId} (ho : o.op = .binOp .eql T x y Ty) (hT : P.underlying T = some (.array N e)) (hi : ((P.info? e).map (·.size)) = some 1) (hc1 : P.cellsOf e = 1) (hne : 0 < N) (hx : S.ev x = some (.agg cs)) (hy : S.ev y = some (.agg ds))
    (h : EqL P 0 ((List.range' 0 N).map fun j => (e, j)) cs ds r) (hr : r = r') : YieldV P o S (boo r') :=
  yv_of fun s ρ hH hh => ⟨.bool r', .sc _, by
    have := (run_eqA (x := x) (y := y) hT hi hc1 hne (hh x (by simp [ho, Op.operands]) _ hx) (hh y (by simp [ho, Op.operands]) _ hy) h).1
    simp only [execOp, ho, Sem.run_bind] at this ⊢
    rw [this, hr]; rfl⟩
theorem yv_arneq {cs ds : List AV} {e N : Nat} {r r' : Bool} {Ty : TypeId} (ho : o.op = .binOp .neq T x y Ty) (hT : P.underlying T = some (.array N e)) (hi : ((P.info? e).map (·.size)) = some 1) (hc1 : P.cellsOf e = 1) (hne : 0 < N) (hx : S.ev x = some (.agg cs)) (hy : S.ev y = some (.agg ds))
    (h : EqL P 0 ((List.range' 0 N).map fun j => (e, j)) cs ds r) (hr : (!r) = r') : YieldV P o S (boo r') :=
  yv_of fun s ρ hH hh => ⟨.bool r', .sc _, by
    have := (run_eqA (x := x) (y := y) hT hi hc1 hne (hh x (by simp [ho, Op.operands]) _ hx) (hh y (by simp [ho, Op.operands]) _ hy) h).2
    simp only [execOp, ho, Sem.run_bind] at this ⊢
    rw [this, hr]; rfl⟩
theorem yv_max {kk : IntKind} {a b r : Int} {ts : Array TypeId} (ho : o.op = .call { callee := .builtin .max, args := #[x, y], argTypes := ts }) (hx : S.ev x = some (.sc (.int kk a))) (hy : S.ev y = some (.sc (.int kk b))) (hr : (if b > a then b else a) = r) : YieldV P o S (.sc (.int kk r)) :=
  yv_sc2 hx hy (by simp [ho, Op.operands, Call.operands]) (by simp [ho, Op.operands, Call.operands]) fun ρ w h1 h2 => by
    subst hr; simp [execOp, ho, h1, h2, resolve, invoke, builtin, Builtin.max_, Builtin.max2]
theorem yv_min {kk : IntKind} {a b r : Int} {ts : Array TypeId} (ho : o.op = .call { callee := .builtin .min, args := #[x, y], argTypes := ts }) (hx : S.ev x = some (.sc (.int kk a))) (hy : S.ev y = some (.sc (.int kk b))) (hr : (if b < a then b else a) = r) : YieldV P o S (.sc (.int kk r)) :=
  yv_sc2 hx hy (by simp [ho, Op.operands, Call.operands]) (by simp [ho, Op.operands, Call.operands]) fun ρ w h1 h2 => by
    subst hr; simp [execOp, ho, h1, h2, resolve, invoke, builtin, Builtin.min_, Builtin.min2]
end
end Go.Pv
namespace Go.Pv
end Go.Pv
