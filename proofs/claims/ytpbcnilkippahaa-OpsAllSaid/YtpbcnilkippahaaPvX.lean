import Derived.Test.YtpbcnilkippahaaPvU
import Derived.WalkSpells
import Derived.Laws.StructEq
import Derived.ChangeKeysEq
set_option linter.unusedSimpArgs false
set_option linter.unusedVariables false
namespace Go.Pv
section
variable {P : Program} {n : NT} {S : AS} {o : Oper} {T : TypeId} {x y : Operand}
variable {α : Type}
theorem one_map {g : α → List AV} (h : ∀ a, allOne (g a) = true) (l : List α) : ∀ r ∈ l.map g, allOne r = true := fun r hr => by
  obtain ⟨a, _, rfl⟩ := List.mem_map.1 hr; exact h a
theorem yl_appT {F U V : Nat → Prop} {e : TypeId} {sz by' : Nat} {zs : List Value} {id ver k : Nat} {ob : AObj} {p : AV} {g : α → List AV} {l m l' : List α} (hp : Pick F U V)
    (ho : o.op = .call { callee := .builtin .append, args := #[x, y], argTypes := #[T, T] }) (hT : P.underlying T = some (.slice e)) (hz : bsz P e = some (sz, zs)) (hby : bby P e = some by') (hb : Nat.ble by' 2048 = true)
    (hx : S.ev x = some (.sl id ver 0 k)) (hy : S.ev y = some p) (hob : S.hp id = some ob) (hver : ob.ver = ver) (hmt : ob.mt = true) (happ : ob.app = true) (hel : ob.elem = e) (hosz : ob.sz = sz) (hr : ob.rows = l.map g) (hk : k = l.length)
    (hcv : Cv S.hp p (lst sz g m)) (h1 : ∀ a, allOne (g a) = true) (hl : l ++ m = l') (hfit : l'.length ≤ 68719476736) :
    Yield P o S F U (fun z H' => ∃ ver', V ver' ∧ z = .sl id ver' 0 l'.length ∧ H' = upd S.hp id (some ⟨e, sz, true, true, ver', l'.map g⟩)) := by
  subst hl hk
  have hb' := Nat.le_of_ble_eq_true hb
  have e1 : l.length + (m.map g).length = (l ++ m).length := by rw [List.length_map, List.length_append]
  have hmul : (l ++ m).length * by' ≤ 68719476736 * 2048 := Nat.mul_le_mul hfit hb'
  have := yl_append (news := m.map g) hp ho hT hz hby hx hy hob hver hmt happ hel hosz (by rw [hr, List.length_map]) hcv (one_map h1 m) (by rw [e1]; omega) (by rw [e1]; omega)
  intro s a next Q q1 q2 q3 q4
  refine this s a next Q q1 q2 q3 ?_
  rintro s' v z H' ⟨ver', hV, rfl, rfl⟩
  refine q4 s' v _ _ ⟨ver', hV, by rw [e1], ?_⟩
  rw [hr, List.map_append]
  obtain ⟨oe, os, om, oa, ov, orr⟩ := ob
  simp only at hmt happ hel hosz hr
  subst hmt happ hel hosz
  rfl
theorem CvLL.list {H : AH} {sz : Nat} {xs ys : List (List AV)} (h : CvLL H xs ys) : Cv H (.list sz xs) (.list sz ys) := fun s hs v hv => by
  obtain ⟨h1, h2⟩ := h.get
  cases hv with
  | nil =>
    have : ys = [] := List.eq_nil_of_length_eq_zero (by simpa using h1.symm)
    subst this; exact .nil sz
  | emp _ a =>
    have : ys = [] := List.eq_nil_of_length_eq_zero (by simpa using h1.symm)
    subst this; exact .emp sz a
  | list f hI hc hm hr hf hv =>
    rw [h1]
    refine .list f hI (by omega) hm (fun i r hi => ?_) (fun i r j x hi hj => ?_) (fun i r j x hi hj => ?_)
    · obtain ⟨r0, g1, g2⟩ := h2 i r hi; rw [← g2.get.1]; exact hr i r0 g1
    · obtain ⟨r0, g1, g2⟩ := h2 i r hi
      obtain ⟨x0, g3, _⟩ := g2.get.2 j x hj
      exact hf i r0 j x0 g1 g3
    · obtain ⟨r0, g1, g2⟩ := h2 i r hi
      obtain ⟨x0, g3, g4⟩ := g2.get.2 j x hj
      exact g4 s hs _ (hv i r0 j x0 g1 g3)
inductive ZC : AV → Value → Prop
  | sc (v : Value) : ZC (.sc v) v
  | nil (sz : Nat) : ZC (.list sz []) (.slice none 0 0)
inductive ZL : List AV → List Value → Prop
  | nil : ZL [] []
  | cons {x : AV} {v : Value} {xs : List AV} {vs : List Value} (h : ZC x v) (t : ZL xs vs) : ZL (x :: xs) (v :: vs)
theorem ZL.get {xs : List AV} {vs : List Value} (h : ZL xs vs) : xs.length = vs.length ∧ ∀ (s : Sit) (j : Nat) (x : AV) (v : Value), xs[j]? = some x → vs[j]? = some v → VR s x v := by
  induction h with
  | nil => exact ⟨rfl, fun s j x v h => by simp at h⟩
  | cons h t ih =>
    refine ⟨by simp [ih.1], fun s j x v h1 h2 => ?_⟩
    cases j with
    | zero =>
      simp at h1 h2; subst h1 h2
      cases h with
      | sc => exact .sc _
      | nil => exact .nil _
    | succ j => exact ih.2 s j x v (by simpa using h1) (by simpa using h2)
end
end Go.Pv
set_option linter.unusedSimpArgs false
set_option linter.unusedVariables false
namespace Go.Pv
section
variable {P : Program} {n : NT} {S : AS} {o : Oper} {T : TypeId} {x y : Operand} {α : Type}
theorem run_part {t : TypeId} {k : Nat} {b : Bool} (h : tySh P t = some (k, b)) {s : Sit} {cs : List AV} {vs : Array Value} {off : Nat} {v : AV} (hl : cs.length = vs.size) (hv : ∀ (i : Nat) (x : AV) (v : Value), cs[i]? = some x → vs[i]? = some v → VR s x v)
    (hx : cellsV k b (cs.drop off) = some v) : ∃ u, VR s v u ∧ (part t vs off).run P s.w = .ok u s.w := by
  unfold part
  rw [Sem.run_bind, run_isAgg h]
  simp only [Result.andThen_ok]
  cases b with
  | false =>
    simp only [cellsV, Bool.false_eq_true, if_false] at hx ⊢
    rw [List.head?_drop] at hx
    have hlt : off < vs.size := by rw [← hl]; exact (List.getElem?_eq_some_iff.1 hx).1
    refine ⟨vs[off], hv off v _ hx (by simp [hlt]), ?_⟩
    simp [hlt]
  | true =>
    simp only [cellsV, if_true] at hx ⊢
    split at hx
    · rename_i hk
      cases hx
      rw [List.length_drop] at hk
      refine ⟨.agg (vs.extract off (off + k)), ?_, by simp only [if_true, Sem.run_bind, run_sizeOf' h, Result.andThen_ok, Sem.run_pure]⟩
      refine .agg (by simp; omega) fun i x u h1 h2 => ?_
      have hi : i < k := by have := (List.getElem?_eq_some_iff.1 h1).1; simp at this; omega
      rw [List.getElem?_take_of_lt hi, List.getElem?_drop] at h1
      rw [Array.getElem?_extract] at h2
      split at h2
      · exact hv _ x u h1 h2
      · cases h2
    · simp at hx
theorem yv_field {f off T2 k : Nat} {b : Bool} {cs : List AV} {v : AV} (ho : o.op = .field T x f) (hp : fPart P T f = some (off, T2)) (h2 : tySh P T2 = some (k, b)) (hx : S.ev x = some (.agg cs)) (hv : cellsV k b (cs.drop off) = some v) : YieldV P o S v :=
  yv_of fun s ρ hH h => by
    have hxv := h x (by simp [ho, Op.operands]) _ hx
    generalize hu : ρ x = u at hxv
    cases hxv with
    | agg hl hh =>
      obtain ⟨u, g1, g2⟩ := run_part h2 hl hh hv
      refine ⟨u, g1, ?_⟩
      unfold fPart at hp
      cases hd : P.underlying T with
      | none => rw [hd] at hp; cases hp
      | some d =>
        rw [hd] at hp
        cases d with
        | struct fs =>
          simp only at hp
          cases hf : fs[f]? with
          | none => rw [hf] at hp; cases hp
          | some fl =>
            rw [hf] at hp
            simp only [Option.map_some, Option.some.injEq, Prod.mk.injEq] at hp
            obtain ⟨e1, e2⟩ := hp
            subst e1 e2
            simp only [execOp, ho, hu, Instr.field, Sem.run_bind, run_underlying hd, Result.andThen_ok, hf, asAgg, Sem.run_pure, g2]
        | _ => simp at hp
theorem yv_indexA {e N k : Nat} {b : Bool} {cs : List AV} {v : AV} {kk : IntKind} {i : Int} (ho : o.op = .index T x y) (hT : P.underlying T = some (.array N e)) (he : tySh P e = some (k, b)) (hx : S.ev x = some (.agg cs)) (hy : S.ev y = some (.sc (.int kk i)))
    (hi : 0 ≤ i ∧ i < (N : Int)) (hv : cellsV k b (cs.drop (i.toNat * k)) = some v) : YieldV P o S v :=
  yv_of fun s ρ hH h => by
    have hxv := h x (by simp [ho, Op.operands]) _ hx
    have hyv := (h y (by simp [ho, Op.operands]) _ hy).sc_inv
    generalize hu : ρ x = u at hxv
    cases hxv with
    | agg hl hh =>
      obtain ⟨u, g1, g2⟩ := run_part he hl hh hv
      refine ⟨u, g1, ?_⟩
      simp only [execOp, ho, hu, hyv, Instr.index, asIntOf, Sem.run_bind, Sem.run_pure, run_underlying hT, Result.andThen_ok, hi, and_self, if_true, run_sizeOf' he, g2]
theorem yv_indexAddrA {e N k id ver row off : Nat} {b : Bool} {ob : AObj} {r : List AV} {kk : IntKind} {i : Int} (ho : o.op = .indexAddr T x y) (hT : P.underlying T = some (.array N e)) (he : tySh P e = some (k, b)) (hx : S.ev x = some (.pt id ver row off)) (hy : S.ev y = some (.sc (.int kk i)))
    (hob : S.hp id = some ob) (hver : ob.ver = ver) (hr : ob.rows[row]? = some r) (hi : 0 ≤ i ∧ i < (N : Int)) : YieldV P o S (.pt id ver row (off + i.toNat * k)) :=
  yv_of fun s ρ hH h => by
    have hxv := h x (by simp [ho, Op.operands]) _ hx
    have hyv := (h y (by simp [ho, Op.operands]) _ hy).sc_inv
    obtain ⟨m, cur, fr, hm, hb, h1⟩ := pt_live hH hob hver (fun e => by rw [e] at hr; simp at hr) hxv
    have hk : s.used ver := by cases hxv with | pt hk _ _ => exact hk
    have hadr : (Instr.indexAt T (.pointer (some ⟨m.b, row * ob.sz + off, none⟩)) (.int kk i)).run P s.w = .ok (.pointer (some ⟨m.b, row * ob.sz + off + i.toNat * k, none⟩)) s.w := by
      simp only [Instr.indexAt, asIntOf, Sem.run_bind, Sem.run_pure, run_underlying hT, Result.andThen_ok, Instr.sureAddr, hi, and_self, if_true, run_sizeOf' he, addr_add]
    refine ⟨.pointer (some ⟨m.b, row * ob.sz + (off + i.toNat * k), none⟩), ?_, ?_⟩
    · refine .pt hk rfl fun m' hm' _ _ => ?_
      obtain ⟨m0, hm0⟩ := hH.obj id ob hob
      have e1 : m0 = m := by have h3 := hm0.hm; rw [hm] at h3; cases h3; rfl
      have e2 : m' = m := by rw [hm] at hm'; cases hm'; rfl
      rw [e2, ← e1, hm0.hsz]
    · simp only [execOp, ho, h1, hyv, Sem.run_bind, hadr, Nat.add_assoc]
      rfl
end
end Go.Pv
set_option linter.unusedSimpArgs false
set_option linter.unusedVariables false
namespace Go.Pv
section
variable {P : Program} {n : NT} {S : AS} {o : Oper} {T : TypeId} {x y : Operand} {α : Type}
theorem yv_buildA {N e sz : Nat} {b : Bool} {zs : List Value} {ps : List (Nat × Operand)} {vs cs : List AV} (ho : o.op = .build T ps.toArray) (hT : P.underlying T = some (.array N e)) (he : tySh P e = some (sz, b)) (hz : zeroOf P T = some zs) (h1 : allOneV zs = true)
    (hv : EvL S (ps.map (·.2)) vs) (hf : fillA (fun i => some (i * sz, sz)) (zs.map .sc) ((ps.map (·.1)).zip vs) = some cs) : YieldV P o S (.agg cs) :=
  yv_of fun s ρ hH h => by
    obtain ⟨z, hz1, hz2⟩ := run_zeroValue' hz s.w
    obtain ⟨a1, a2⟩ := hv.val (s := s) (ρ := ρ) fun q hq => h q (by simp only [ho, Op.operands]; simpa using hq)
    obtain ⟨cells', g1, g2⟩ := CR.fill (place := fun i => some (i * sz, sz)) (ρ := ρ) ps vs _ cs z.cells (by simpa using a1) (by simpa [Function.comp_def] using a2) (CR.zero s zs h1 hz1) hf
    refine ⟨_, g2.agg, ?_⟩
    simp only [execOp, ho, Instr.build, Sem.run_bind, hz2, Result.andThen_ok, run_underlying hT, run_sizeOf' he, List.map_toArray]
    have g1' : Instr.fill (fun i => some (i * sz, sz)) z.cells (ps.map fun (i, x) => (i, ρ x)) = some cells' := g1
    rw [g1']
    rfl
theorem flat_dropV {sz : Nat} {g : α → List AV} (hg : ∀ a, (g a).length = sz) : ∀ (l : List α) (i : Nat) (v : α), l[i]? = some v → ∃ r, ((l.map g).flatten).drop (i * sz) = g v ++ r
  | [], i, v, h => by simp at h
  | a :: l, 0, v, h => by simp at h; subst h; exact ⟨(l.map g).flatten, by simp⟩
  | a :: l, i + 1, v, h => by
    obtain ⟨r, hr⟩ := flat_dropV hg l i v (by simpa using h)
    refine ⟨r, ?_⟩
    rw [List.map_cons, List.flatten_cons, Nat.add_mul, Nat.one_mul, Nat.add_comm, ← List.drop_drop, ← hg a, List.drop_left, hg a, hr]
theorem yv_indexAT {e N sz : Nat} {b : Bool} {g : α → List AV} {l : List α} {kk : IntKind} {i : Int} {v : α} {w : AV} (ho : o.op = .index T x y) (hT : P.underlying T = some (.array N e)) (he : tySh P e = some (sz, b)) (hx : S.ev x = some (.agg ((l.map g).flatten))) (hy : S.ev y = some (.sc (.int kk i)))
    (hN : l.length = N) (h : ix l i = some v) (hg : ∀ a, (g a).length = sz) (hw : ∀ r, cellsV sz b (g v ++ r) = some w) : YieldV P o S w := by
  obtain ⟨r, hr⟩ := flat_dropV hg l i.toNat v (ix_e h).2
  have hlt := ix_lt h
  have := (ix_e h).1
  exact yv_indexA ho hT he hx hy (by omega) (by rw [hr]; exact hw r)
theorem hw1 {a : AV} : ∀ r, cellsV 1 false ([a] ++ r) = some a := fun _ => rfl
inductive EqC (P : Program) : TypeId → AV → AV → Bool → Prop
  | int {t : TypeId} {k : IntKind} {a b : Int} (h : P.underlying t = some (.int k)) : EqC P t (.sc (.int k a)) (.sc (.int k b)) (decide (a = b))
  | bool {t : TypeId} {a b : Bool} (h : P.underlying t = some .bool) : EqC P t (.sc (.bool a)) (.sc (.bool b)) (decide (a = b))
theorem EqC.run {t : TypeId} {a b : AV} {r : Bool} (h : EqC P t a b r) {s : Sit} {u v : Value} (hu : VR s a u) (hv : VR s b v) (d : Nat) (w : World) : (Op.equalIn (d + 1) t u v).run P w = .ok r w := by
  cases h with
  | int h => rw [hu.sc_inv, hv.sc_inv]; simp [Op.equalIn, run_underlying h]; rfl
  | bool h => rw [hu.sc_inv, hv.sc_inv]; simp [Op.equalIn, run_underlying h]; rename_i a b; cases a <;> cases b <;> rfl
inductive EqL (P : Program) : Nat → List (Nat × Nat) → List AV → List AV → Bool → Prop
  | nil (i : Nat) : EqL P i [] [] [] true
  | cons {i t : Nat} {ts : List (Nat × Nat)} {a b : AV} {as bs : List AV} {r q : Bool} (h : EqC P t a b r) (ht : tySh P t = some (1, false)) (hr : EqL P (i + 1) ts as bs q) : EqL P i ((t, i) :: ts) (a :: as) (b :: bs) (r && q)
end
end Go.Pv
namespace Go.Pv
theorem rdr_cong {H : AH} {id T ver : Nat} {s s' : RS} (h : s = s') : upd H id (some (rdr T ver s)) = upd H id (some (rdr T ver s')) := by rw [h]
end Go.Pv
