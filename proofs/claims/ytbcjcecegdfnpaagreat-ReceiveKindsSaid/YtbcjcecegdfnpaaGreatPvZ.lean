/- What slices.Clone and slices.Grow want; contracts over other words for what comes in. -/
import Derived.Test.YtbcjcecegdfnpaaGreatPvY
import Derived.Lib.AppendZeros
set_option linter.unusedSimpArgs false
set_option linter.unusedVariables false
namespace Go.Pv
section
variable {P : Program} {n : Nat} {S : AS} {o : Oper} {T : TypeId} {x y : Operand} {α : Type}

theorem pc_cv {f : FuncId} {args args' : List AV} {H : AH} {R : AV → AH → Prop} (h : PC P f args' H R) (hc : CvL H args args') : PC P f args H R :=
  fun s vs h1 h2 => h s vs h1 (hc.all h1 h2)

/-- append(nil, make([]T, n)...): an object with nothing told in it. -/
theorem yl_appZ {U2 : Nat → Prop} {F U V : Nat → Prop} {e T2 : TypeId} {sz by' : Nat} {zs : List Value} (id : Nat) {N : Int} {kn : IntKind} (hp : Pick F U V) (ho : o.op = .call { callee := .builtin .append, args := #[x, y], argTypes := #[T, T2] }) (hT : P.underlying T = some (.slice e)) (hT2 : P.underlying T2 = some (.int kn))
    (hz : bsz P e = some (sz, zs)) (hby : bby P e = some by') (hb : Nat.ble by' 2048 = true) (hx : S.ev x = some (.sc (.slice none 0 0))) (hy : S.ev y = some (.sc (.int .i64 N))) (hN : 0 < N ∧ N ≤ 1048576) (_h : U2 = U2) :
    Yield P o S F U (fun z H' => ∃ ver', V ver' ∧ z = .sl id ver' 0 N.toNat ∧ H' = upd S.hp id (some ⟨e, sz, true, true, ver', []⟩)) := by
  intro s a next Q hH hops hF hn
  obtain ⟨ver', hV, hU, hun⟩ := hp.get hH hF
  obtain ⟨i, hi, hsz, hzo, hzl, hpos, hzone⟩ := bsz_spec hz
  have hiz : ∃ z, i.zero = some z ∧ z.cells.toList = zs := by
    unfold zeroOf at hzo; rw [hi] at hzo
    simp only [Option.bind_some] at hzo
    cases hz : i.zero with
    | none => rw [hz] at hzo; cases hzo
    | some z => rw [hz] at hzo; exact ⟨z, rfl, by simpa using hzo⟩
  obtain ⟨z, hz1, hz2⟩ := hiz
  have hzc : z.cells.size = sz := by rw [← Array.length_toList, hz2, hzl]
  have hib : i.bytes = by' := by unfold bby at hby; rw [hi] at hby; simpa using hby
  have hb' := Nat.le_of_ble_eq_true hb
  have hxv := (hops x (by simp [ho, Op.operands, Call.operands]) _ hx).sc_inv
  have hyv := (hops y (by simp [ho, Op.operands, Call.operands]) _ hy).sc_inv
  obtain ⟨k, rfl⟩ : ∃ k : Nat, N = (k : Int) := ⟨N.toNat, by omega⟩
  have hk : k ≤ 1048576 := by omega
  have hmul : k * i.bytes ≤ 1048576 * 2048 := by rw [hib]; exact Nat.mul_le_mul hk hb'
  have hrun := Lib.run_append_nil_zeros (P := P) s.w T T2 o.type e i z .i64 kn hT hT2 hi hz1 k (by omega) (by rw [hsz]; exact hpos) (by omega) (by omega)
  have hge := grownCap_ge s.w k 0 e
  have hzcells : ∀ (q : Nat) (j : Nat) (v : Value), (Builtin.zeroCells z.cells q)[j]? = some v → v.oneCell' = true := fun q j v hv => by
    simp only [Builtin.zeroCells, Array.getElem?_map] at hv
    obtain ⟨jj, hjj, rfl⟩ := Option.map_eq_some_iff.1 hv
    have hm' : jj % z.cells.size < z.cells.size := Nat.mod_lt _ (by omega)
    rw [getElem!_pos z.cells _ hm']
    exact allOneV_get hzone (jj % z.cells.size) _ (by rw [← hz2, Array.getElem?_toList]; simp [hm'])
  have hct : grownCap s.w k 0 e ≤ maxLen := grownCap_le_maxLen s.w k 0 e (by simp only [maxLen]; omega)
  obtain ⟨s', g1, g2, g3, g4, g5⟩ := sit_re hH id ⟨e, sz, true, true, ver', []⟩ s.w.heap.size (grownCap s.w k 0 e) (Builtin.zeroCells z.cells k ++ Builtin.zeroCells z.cells (grownCap s.w k 0 e - k)) (s.w.drew.alloc (.cells (Builtin.zeroCells z.cells k ++ Builtin.zeroCells z.cells (grownCap s.w k 0 e - k)) e)) rfl rfl rfl (by simp)
    (fun j hj _ => alloc_old s.w.drew _ j hj) (alloc_new s.w.drew _) (.inl (Nat.le_refl _)) hun rfl (by rw [Array.size_append, size_zeroCells, size_zeroCells, hzc, ← Nat.add_mul]; congr 1; omega) hct (Nat.zero_le _)
    (fun i r hr => by simp at hr) (fun i r j x v hr _ _ => by simp at hr)
    (fun j v hv => by
      rw [← Array.getElem?_toList, Array.toList_append] at hv
      rcases rows_append hv with ⟨_, h⟩ | ⟨_, h⟩
      · exact hzcells _ _ v (by rw [← Array.getElem?_toList]; exact h)
      · exact hzcells _ _ v (by rw [← Array.getElem?_toList]; exact h))
  refine wp_val (w' := s'.w) (v := .slice (some ⟨s.w.heap.size, 0, none⟩) k (grownCap s.w k 0 e)) ?_ (hn s' _ (.sl id ver' 0 k) _ ⟨ver', hV, by simp, rfl⟩ ?_ g4 g5 fun j hj => ?_)
  · rw [g1]
    simp only [execOp, ho, resolve, invoke, builtin, List.map_toArray, List.map_cons, List.map_nil, Sem.run_bind, Sem.run_pure, Result.andThen_ok, hxv, hyv, hrun]
  · refine .sl (by rw [g2]; exact .inr rfl) rfl fun m hm _ => ?_
    rw [g3] at hm; cases hm
    exact ⟨fun h => (by cases h), fun _ => ⟨_, by rw [Nat.zero_mul], hge, by simp⟩⟩
  · rw [g2] at hj; rcases hj with h | h; exact .inl h; exact .inr (h ▸ hU)

/-- Part of a slice of the call's own. -/
theorem yv_slO {e : TypeId} {sz id ver off len i j : Nat} {b : Bool} {lo hi : Option Operand} {ob : AObj} (ho : o.op = .slice T x lo hi none) (hT : P.underlying T = some (.slice e)) (he : tySh P e = some (sz, b)) (hx : S.ev x = some (.sl id ver off len))
    (hob : S.hp id = some ob) (hver : ob.ver = ver) (hsz : ob.sz = sz) (hlo : BdO S 0 lo i) (hhi : BdO S len hi j) (hij : i ≤ j) (hj : j ≤ len) (hne : i < len ∨ (i = 0)) : YieldV P o S (.sl id ver (off + i) (j - i)) :=
  yv_of fun s ρ hH h => by
    have hv := h x (by simp [ho, Op.operands]) _ hx
    generalize hu : ρ x = u at hv
    have b1 := hlo.val (s := s) (ρ := ρ) fun q hq av => h q (by simp [ho, Op.operands, hq]) av
    have b2 := hhi.val (s := s) (ρ := ρ) fun q hq av => h q (by simp [ho, Op.operands, hq]) av
    obtain ⟨m, hm⟩ := hH.obj id ob hob
    cases hv with
    | sl hk h1 hh =>
      have hh := hh m hm.hm (hm.hver.trans hver)
      cases hn : m.nil with
      | true =>
        obtain ⟨q1, q2⟩ := hh.1 hn
        subst q2
        have hj0 : j = 0 := by omega
        have hi0 : i = 0 := by omega
        subst hj0 hi0
        have hb := run_bounds (P := P) true 0 0 _ _ 0 0 s.w b1 b2 (Nat.le_refl _) (Nat.le_refl _)
        refine ⟨.slice none 0 0, .sl hk rfl fun m' hm' _ => ?_, ?_⟩
        · rw [hm.hm] at hm'; cases hm'
          exact ⟨fun _ => ⟨rfl, rfl⟩, fun h => by rw [hn] at h; cases h⟩
        · simp only [execOp, ho, hu, q1, Instr.sliceAt, Instr.slice, Sem.run_bind, run_underlying hT, Result.andThen_ok, Option.map_none, hb, run_sizeOf' he, Sem.run_pure, if_true]
      | false =>
        obtain ⟨cap, q1, q2, q3⟩ := hh.2 hn
        have hb := run_bounds (P := P) true len cap _ _ i j s.w b1 b2 hij (by omega)
        by_cases hci : cap = i
        · have hi0 : i = 0 := by omega
          have hj0 : j = 0 := by omega
          have hl0 : len = 0 := by omega
          subst hi0 hj0 hl0
          refine ⟨.slice (some ⟨m.b, off * m.sz, none⟩) 0 0, .sl hk rfl fun m' hm' _ => ?_, ?_⟩
          · rw [hm.hm] at hm'; cases hm'
            exact ⟨fun h => (by rw [hn] at h; cases h), fun _ => ⟨0, rfl, Nat.le_refl _, by omega⟩⟩
          · rw [hci] at hb
            simp only [execOp, ho, hu, q1, hci, Instr.sliceAt, Instr.slice, Sem.run_bind, run_underlying hT, Result.andThen_ok, Option.map_none, hb, run_sizeOf' he, Sem.run_pure, if_true, Nat.sub_self]
        · refine ⟨.slice (some ⟨m.b, (off + i) * m.sz, none⟩) (j - i) (cap - i), .sl hk rfl fun m' hm' _ => ?_, ?_⟩
          · rw [hm.hm] at hm'; cases hm'
            exact ⟨fun h => (by rw [hn] at h; cases h), fun _ => ⟨cap - i, rfl, by omega, by omega⟩⟩
          · have hms : m.sz = sz := hm.hsz.trans hsz
            simp only [execOp, ho, hu, q1, Instr.sliceAt, Instr.slice, Sem.run_bind, run_underlying hT, Result.andThen_ok, Option.map_none, hb, run_sizeOf' he, Sem.run_pure, Option.map_some, addr_add, if_neg hci, hms, Nat.add_mul]
theorem yv_capnil {e : TypeId} (ho : o.op = .call { callee := .builtin .cap, args := #[x], argTypes := #[T] }) (hT : P.underlying T = some (.slice e)) (hx : S.ev x = some (.sc (.slice none 0 0))) : YieldV P o S (int 0) :=
  yv_sc1 hx (by simp [ho, Op.operands, Call.operands]) fun ρ w h1 => by
    simp [execOp, ho, h1, resolve, invoke, builtin, Builtin.cap_, run_underlying hT, goInt]
theorem yv_slnilc {e sz : TypeId} {b : Bool} {lo hi : Option Operand} (ho : o.op = .slice T x lo hi none) (hT : P.underlying T = some (.slice e)) (he : tySh P e = some (sz, b)) (hx : S.ev x = some (.sc (.slice none 0 0))) (hlo : BdO S 0 lo 0) (hhi : BdO S 0 hi 0) : YieldV P o S (.sc (.slice none 0 0)) :=
  yv_of fun s ρ hH h => by
    have hxv := (h x (by simp [ho, Op.operands]) _ hx).sc_inv
    have b1 := hlo.val (s := s) (ρ := ρ) fun q hq av => h q (by simp [ho, Op.operands, hq]) av
    have b2 := hhi.val (s := s) (ρ := ρ) fun q hq av => h q (by simp [ho, Op.operands, hq]) av
    have hb := run_bounds (P := P) true 0 0 _ _ 0 0 s.w b1 b2 (Nat.le_refl _) (Nat.le_refl _)
    exact ⟨_, .sc _, by simp only [execOp, ho, hxv, Instr.sliceAt, Instr.slice, Sem.run_bind, run_underlying hT, Result.andThen_ok, Option.map_none, hb, run_sizeOf' he, Sem.run_pure, if_true]⟩
/-- A list one row of which is told otherwise. -/
theorem cvll_ov {H : AH} {g : α → List AV} {l : List α} {i : Int} {v' : α} {cells : List AV} {rows : List (List AV)} (hr : rows = (l.map g).set i.toNat cells) (hc : CvL H cells (g v')) : CvLL H rows ((l.set i.toNat v').map g) := by
  rw [hr, List.map_set]
  have : ∀ (xs : List (List AV)) (k : Nat) (c c' : List AV), CvL H c c' → CvLL H (xs.set k c) (xs.set k c') := by
    intro xs
    induction xs with
    | nil => intro k c c' _; simp; exact .nil
    | cons a r ih =>
      intro k c c' h
      cases k with
      | zero => exact .cons h (CvLL.refl _)
      | succ k => exact .cons (CvL.refl _) (ih k c c' h)
  exact this _ _ _ _ hc
theorem frz_at {H : AH} {id : Nat} {ob : AObj} (h : H id = some ob) : frzH H id = some { ob with mt := false } := by unfold frzH; rw [h]; rfl
theorem cvll_set {H : AH} {c c' : List AV} (h : CvL H c c') : ∀ {xs : List (List AV)} {k : Nat}, CvLL H (xs.set k c) (xs.set k c')
  | [], k => by simp; exact .nil
  | a :: r, 0 => .cons h (CvLL.refl _)
  | a :: r, k + 1 => .cons (CvL.refl _) (cvll_set h)
/-- Part of a list of the call's own. -/
theorem cv_win {H : AH} {id ver off len sz : Nat} {ob : AObj} {g : α → List AV} {l l' : List α} (ho : H id = some ob) (hver : ob.ver = ver) (hmt : ob.mt = false) (hsz : ob.sz = sz) (hr : CvLL H ob.rows (l.map g)) (hb : off + len ≤ l.length) (e : (l.drop off).take len = l') :
    Cv H (.sl id ver off len) (lst sz g l') := by
  have := Cv.sl (rows := l.map g) (off := off) (len := len) ho hver hmt hr (by rw [List.length_map]; exact hb)
  rw [hsz, ← List.map_drop, ← List.map_take, e] at this; exact this
end
end Go.Pv
namespace Go.Pv
theorem yv_slT {P : Program} {S : AS} {o : Oper} {T : TypeId} {x : Operand} {α : Type} {g : α → List AV} {l l' : List α} {lo hi : Option Operand} {e : TypeId} {sz : Nat} {b : Bool} {i j : Nat} (ho : o.op = .slice T x lo hi none) (hT : P.underlying T = some (.slice e)) (he : tySh P e = some (sz, b)) (hx : S.ev x = some (lst sz g l))
    (hlo : BdO S 0 lo i) (hhi : BdO S l.length hi j) (hij : i ≤ j) (hj : j ≤ l.length) (hl : (l.take j).drop i = l') : YieldV P o S (lst sz g l') := by
  subst hl
  have := yv_slice_list ho hT he hx hlo (by rw [List.length_map]; exact hhi) hij (by rw [List.length_map]; exact hj)
  refine yv_to this ?_
  rw [lst, List.map_drop, List.map_take]
end Go.Pv
