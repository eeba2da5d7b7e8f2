/- Sums of ways; arrays; structs that are compared. -/
import Derived.Test.YtiamgfjojjjggaaGreatPvW
import Derived.Laws.StructEq
import Derived.ChangeKeysEq
set_option linter.unusedSimpArgs false
set_option linter.unusedVariables false
namespace Go.Pv
def selr {α β γ : Type} (f : α → Option γ) (g : β → Option γ) : α ⊕ β → Option γ
  | .inl a => f a
  | .inr b => g b
theorem selr_l {α β γ : Type} {f : α → Option γ} {g : β → Option γ} {a : α} {r : Option γ} (h : selr f g (.inl a) = r) : f a = r := h
theorem selr_r {α β γ : Type} {f : α → Option γ} {g : β → Option γ} {b : β} {r : Option γ} (h : selr f g (.inr b) = r) : g b = r := h
section
variable {P : Program} {n : NT} {S : AS} {o : Oper} {T : TypeId} {x y : Operand} {α : Type}
theorem yv_buildA {N e sz : Nat} {b : Bool} {zs : List Value} {ps : List (Nat × Operand)} {vs cs : List AV} (ho : o.op = .build T ps.toArray) (hT : P.underlying T = some (.array N e)) (he : tySh P e = some (sz, b)) (hz : zeroOf P T = some zs) (h1 : allOneV zs = true)
    (hv : EvL S (ps.map (·.2)) vs) (hf : fillA (fun i => some (i * sz, sz)) (zs.map .sc) ((ps.map (·.1)).zip vs) = some cs) : YieldV P o S (.agg cs) :=
  yv_of fun s ρ hH h => by
    obtain ⟨z, hz1, hz2⟩ := run_zeroValue' hz s.w
    obtain ⟨a1, a2⟩ := hv.val (s := s) (ρ := ρ) fun q hq => h q (by simp only [ho, Op.operands]; simpa using hq)
    obtain ⟨cells', g1, g2⟩ := CR.fill (place := fun i => some (i * sz, sz)) (ρ := ρ) ps vs _ cs z.cells (by simpa using a1) (by simpa [Function.comp_def] using a2) (CR.zero s zs h1 hz1) hf
    refine ⟨_, g2.agg, ?_⟩
    simp only [execOp, ho, Instr.build, Sem.run_bind, hz2, Result.andThen_ok, run_underlying hT, run_sizeOf' he, List.map_toArray]
    have g1' : Instr.fill (fun i => some (i * sz, sz)) z.cells (ps.map fun (i, x) => (i, ρ x)) = some cells' := g1
    rw [g1']
    rfl
theorem flat_dropV {sz : Nat} {g : α → List AV} (hg : ∀ a, (g a).length = sz) : ∀ (l : List α) (i : Nat) (v : α), l[i]? = some v → ∃ r, ((l.map g).flatten).drop (i * sz) = g v ++ r
  | [], i, v, h => by simp at h
  | a :: l, 0, v, h => by simp at h; subst h; exact ⟨(l.map g).flatten, by simp⟩
  | a :: l, i + 1, v, h => by
    obtain ⟨r, hr⟩ := flat_dropV hg l i v (by simpa using h)
    refine ⟨r, ?_⟩
    rw [List.map_cons, List.flatten_cons, Nat.add_mul, Nat.one_mul, Nat.add_comm, ← List.drop_drop, ← hg a, List.drop_left, hg a, hr]
theorem yv_indexAT {e N sz : Nat} {b : Bool} {g : α → List AV} {l : List α} {kk : IntKind} {i : Int} {v : α} {w : AV} (ho : o.op = .index T x y) (hT : P.underlying T = some (.array N e)) (he : tySh P e = some (sz, b)) (hx : S.ev x = some (.agg ((l.map g).flatten))) (hy : S.ev y = some (.sc (.int kk i)))
    (hN : l.length = N) (h : ix l i = some v) (hg : ∀ a, (g a).length = sz) (hw : ∀ r, cellsV sz b (g v ++ r) = some w) : YieldV P o S w := by
  obtain ⟨r, hr⟩ := flat_dropV hg l i.toNat v (ix_e h).2
  have hlt := ix_lt h
  have := (ix_e h).1
  exact yv_indexA ho hT he hx hy (by omega) (by rw [hr]; exact hw r)
theorem hw1 {a : AV} : ∀ r, cellsV 1 false ([a] ++ r) = some a := fun _ => rfl
theorem hwn {sz : Nat} {cs : List AV} (h : cs.length = sz) : ∀ r, cellsV sz true (cs ++ r) = some (.agg cs) := fun r => by
  simp only [cellsV, if_true]
  rw [if_pos (by rw [List.length_append]; omega), ← h, List.take_left]
inductive EqC (P : Program) : TypeId → AV → AV → Bool → Prop
  | int {t : TypeId} {k : IntKind} {a b : Int} (h : P.underlying t = some (.int k)) : EqC P t (.sc (.int k a)) (.sc (.int k b)) (decide (a = b))
  | bool {t : TypeId} {a b : Bool} (h : P.underlying t = some .bool) : EqC P t (.sc (.bool a)) (.sc (.bool b)) (decide (a = b))
theorem EqC.run {t : TypeId} {a b : AV} {r : Bool} (h : EqC P t a b r) {s : Sit} {u v : Value} (hu : VR s a u) (hv : VR s b v) (d : Nat) (w : World) : (Op.equalIn (d + 1) t u v).run P w = .ok r w := by
  cases h with
  | int h => rw [hu.sc_inv, hv.sc_inv]; simp [Op.equalIn, run_underlying h]; rfl
  | bool h => rw [hu.sc_inv, hv.sc_inv]; simp [Op.equalIn, run_underlying h]; rename_i a b; cases a <;> cases b <;> rfl
inductive EqL (P : Program) : Nat → List (Nat × Nat) → List AV → List AV → Bool → Prop
  | nil (i : Nat) : EqL P i [] [] [] true
  | cons {i t : Nat} {ts : List (Nat × Nat)} {a b : AV} {as bs : List AV} {r q : Bool} (h : EqC P t a b r) (ht : tySh P t = some (1, false)) (hr : EqL P (i + 1) ts as bs q) : EqL P i ((t, i) :: ts) (a :: as) (b :: bs) (r && q)
theorem yv_max {kk : IntKind} {a b r : Int} {ts : Array TypeId} (ho : o.op = .call { callee := .builtin .max, args := #[x, y], argTypes := ts }) (hx : S.ev x = some (.sc (.int kk a))) (hy : S.ev y = some (.sc (.int kk b))) (hr : (if b > a then b else a) = r) : YieldV P o S (.sc (.int kk r)) :=
  yv_sc2 hx hy (by simp [ho, Op.operands, Call.operands]) (by simp [ho, Op.operands, Call.operands]) fun ρ w h1 h2 => by
    subst hr; simp [execOp, ho, h1, h2, resolve, invoke, builtin, Builtin.max_, Builtin.max2]
theorem yv_min {kk : IntKind} {a b r : Int} {ts : Array TypeId} (ho : o.op = .call { callee := .builtin .min, args := #[x, y], argTypes := ts }) (hx : S.ev x = some (.sc (.int kk a))) (hy : S.ev y = some (.sc (.int kk b))) (hr : (if b < a then b else a) = r) : YieldV P o S (.sc (.int kk r)) :=
  yv_sc2 hx hy (by simp [ho, Op.operands, Call.operands]) (by simp [ho, Op.operands, Call.operands]) fun ρ w h1 h2 => by
    subst hr; simp [execOp, ho, h1, h2, resolve, invoke, builtin, Builtin.min_, Builtin.min2]
end
end Go.Pv
namespace Go.Pv
end Go.Pv
