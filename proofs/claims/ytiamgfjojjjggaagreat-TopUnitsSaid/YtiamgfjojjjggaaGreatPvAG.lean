/- Maps of functions by a number: looked up. -/
import Derived.Test.YtiamgfjojjjggaaGreatPvAF
set_option linter.unusedSimpArgs false
set_option linter.unusedVariables false
namespace Go.Pv
def fix (k : Int) : List Int → Option Nat
  | [] => none
  | a :: r => match decide (k = a) with
    | true => some 0
    | false => (fix k r).map (· + 1)
theorem findNow_fix (k : Int) : ∀ (es : List MapEntry) (ks : List Int) (i j : Nat), es.map (·.key) = ks.map (Value.int .i64) → fix k ks = some j →
    ∃ e, es[j]? = some e ∧ Instr.findNow (.int .i64) (.int .i64 k) es i = some (some (i + j, e.val))
  | [], ks, i, j, h, hj => by
    have : ks = [] := by cases ks with | nil => rfl | cons a r => simp at h
    subst this; simp [fix] at hj
  | e :: es, [], i, j, h, hj => by simp at h
  | e :: es, a :: r, i, j, h, hj => by
    simp only [List.map_cons, List.cons.injEq] at h
    unfold fix at hj
    by_cases hk : k = a
    · rw [decide_eq_true hk] at hj
      simp only [Option.some.injEq] at hj
      subst hj
      exact ⟨e, rfl, by simp [Instr.findNow, Instr.sameNow, h.1, hk]⟩
    · rw [decide_eq_false hk] at hj
      simp only [Option.map_eq_some_iff] at hj
      obtain ⟨j', h1, rfl⟩ := hj
      obtain ⟨e', h2, h3⟩ := findNow_fix k es r (i + 1) j' h.2 h1
      exact ⟨e', by simpa using h2, by rw [Nat.add_right_comm, Nat.add_assoc] at h3; simp [Instr.findNow, Instr.sameNow, h.1, beq_eq_false_iff_ne.2 hk, h3]⟩
section
variable {P : Program} {S : AS} {o : Oper} {T K E : TypeId} {x y : Operand}
theorem run_checkKey_int {b : Bool} {n : Nat} {v : Value} {kk : IntKind} (hK : P.underlying K = some (.int kk)) (w : World) : (Instr.checkKey b (n + 1) K v).run P w = .ok () w := by
  unfold Instr.checkKey
  simp only [Sem.run_bind, run_underlying hK, Result.andThen_ok]
  rfl
theorem yv_lookup {ks : List Int} {vs : List AV} {k : Int} {v : AV} {j : Nat} (ho : o.op = .lookup T x y true) (hT : P.underlying T = some (.map K E)) (hK : P.underlying K = some (.int .i64))
    (hx : S.ev x = some (.mp ks vs)) (hy : S.ev y = some (.sc (.int .i64 k))) (hj : fix k ks = some j) (hv : vs[j]? = some v) : YieldV P o S (.tup [v, .sc (.bool true)]) :=
  yv_of fun s ρ _ h => by
    have h1 := h x (by simp [ho, Op.operands]) _ hx
    have h2 := (h y (by simp [ho, Op.operands]) _ hy).sc_inv
    generalize hu : ρ x = u at h1
    cases h1 with
    | mp hI hb hk hl hvv =>
      rename_i b clock es
      obtain ⟨e, g1, g2⟩ := findNow_fix k es.toList ks 0 j hk hj
      refine ⟨.tuple #[e.val, .bool true], .tup rfl fun i y w hy hw => ?_, ?_⟩
      · cases i with
        | zero => simp at hy hw; subst hy hw; exact hvv j v e hv g1
        | succ i => cases i with
          | zero => simp at hy hw; subst hy hw; exact .sc _
          | succ i => simp at hy
      · have hc := run_checkKey_int (P := P) (K := K) (b := es.isEmpty) (n := 9999) (v := .int .i64 k) hK s.w
        simp only [execOp, ho, hu, h2, Instr.lookup, Sem.run_bind, run_underlying hT, Result.andThen_ok, run_getObj_map s.w _ _ _ hb, hc, Instr.findKey, run_underlying hK, g2, Sem.run_pure]
        rfl
structure MapAt (s : Sit) (H : AH) (b : Nat) (ks : List Int) (xs : List AV) : Prop where
  him : ¬ s.Im b
  hno : ¬ Owned s H b
  at' : ∃ es clock, s.w.heap[b]? = some (.map es clock) ∧ es.toList.map (·.key) = ks.map (Value.int .i64) ∧ xs.length = es.toList.length ∧ ∀ (i : Nat) (x : AV) (e : MapEntry), xs[i]? = some x → es.toList[i]? = some e → VR s x e.val
def RgM (P : Program) (n : NT) (ops todo : List Oper) (S : AS) (b : Nat) (ks : List Int) (xs : List AV) (K : AS → Prop) : Prop :=
  ∀ k, ops.drop k = todo → ∀ s0 s a, Fr s0 S.hp s S.hp → s0.w.heap.size ≤ b → b < s.w.heap.size → SR n s S a → MapAt s S.hp b ks xs →
    wpOps P ops.toArray (fun e a' w' => e = .normal ∧ ∃ S' s', w' = s'.w ∧ K S' ∧ SR n s' S' a' ∧ Fr s0 S.hp s' S'.hp) (List.range' k todo.length) a s.w
theorem not_used {s : Sit} {H : AH} {b id : Nat} {ob : AObj} {m : Mu} {cur : Array Value} {fr : Nat × Nat} (him : ¬ s.Im b) (hno : ¬ Owned s H b) (h : H id = some ob) (hm : s.mu id = some m) (hb : ObjB s ob m cur fr) : m.b ≠ b := by
  intro e
  cases hmt : ob.mt with
  | true => exact hno ⟨id, ob, m, h, hmt, hm, hb.hnil, e⟩
  | false => exact him (e ▸ hb.him hmt)
theorem sit_w {s : Sit} {H : AH} (hH : HR s H) (w' : World) (hsize : s.w.heap.size ≤ w'.heap.size) (hk : ∀ j, (s.Im j ∨ ∃ id o m, H id = some o ∧ s.mu id = some m ∧ m.nil = false ∧ m.b = j) → w'.heap[j]? = s.w.heap[j]?) :
    HR { s with w := w' } H ∧ ∀ x v, VR s x v → VR { s with w := w' } x v := by
  have hmono : ∀ x v, VR s x v → VR { s with w := w' } x v := fun x v h => VR.mono (s := s) (s' := { s with w := w' }) (fun b hi => ⟨hi, hk b (.inl hi)⟩) (fun i m' hm' => .inl hm') (fun _ h => h) h
  refine ⟨⟨fun id o ho => ?_, hH.uniq, fun b hb => Nat.lt_of_lt_of_le (hH.im b hb) hsize, hH.fin⟩, hmono⟩
  obtain ⟨m, hm⟩ := hH.obj id o ho
  refine ⟨m, hm.hm, hm.hver, hm.hsz, hm.hk, ?_⟩
  rcases hm.body with h | ⟨cur, fr, hb⟩
  · exact .inl h
  · exact .inr ⟨cur, fr, ⟨hb.hnil, (hk _ (.inr ⟨id, o, m, ho, hm.hm, hb.hnil, rfl⟩)).trans hb.hb, hb.hfr, hb.happ, hb.hcs, hb.hct, hb.hlen, hb.hr, fun i r j x v a b c => hmono _ _ (hb.hv i r j x v a b c), hb.h1, hb.him, hb.hnim⟩⟩
theorem SR.vals {n : NT} {s s' : Sit} {S : AS} {a : Act} (hs : SR n s S a) (hH : HR s' S.hp) (hv : ∀ x v, VR s x v → VR s' x v) : SR n s' S a :=
  ⟨hs.size, hs.defers, fun t x hx => let ⟨v, h1, h2⟩ := hs.slot t x hx; ⟨v, h1, hv _ _ h2⟩, hH⟩
variable {n : NT} {ops rest : List Oper} {K' : AS → Prop}
theorem rgm_make {t : Nat} (ho : o.op = .makeMap T none) (hg : o.guard = none) (hd : o.dst = some t) (ht : Nat.blt t n.n = true)
    (h : ∀ b, RgM P n ops rest ⟨upd S.sl t (some (.sc (.map (some b)))), S.hp⟩ b [] [] K') : Rg P n ops (o :: rest) S K' := by
  intro k hk s a hs
  obtain ⟨h0, h1⟩ := drop_cons hk
  rw [List.length_cons, List.range'_succ]
  have hw : Wd ops S o = some true := by unfold Wd; rw [hg]
  simp only [wpOps, List.getElem?_toArray, h0, Wd_spec hs hw, if_true]
  have hrun : (execOp a.eval o).run P s.w = .ok (.value (.map (some s.w.heap.size))) (s.w.alloc (.map #[] 0)) := by
    simp [execOp, ho, Instr.makeMap, newObj, Sem.run]
  refine .inl (wp_val hrun ?_)
  have hsz : (s.w.alloc (.map #[] 0)).heap.size = s.w.heap.size + 1 := by simp
  have hold : ∀ j, j < s.w.heap.size → (s.w.alloc (.map #[] 0)).heap[j]? = s.w.heap[j]? := fun j hj => alloc_old s.w _ j hj
  obtain ⟨g1, g2⟩ := sit_w hs.heap (s.w.alloc (.map #[] 0)) (by rw [hsz]; omega) (fun j hj => hold j (by
    rcases hj with hj | ⟨id, ob, m, q1, q2, q3, q4⟩
    · exact hs.heap.im j hj
    · obtain ⟨m', hm'⟩ := hs.heap.obj id ob q1
      have e : m' = m := by have := hm'.hm.symm.trans q2; simpa using this
      subst e
      rcases hm'.body with ⟨q, _⟩ | ⟨cur, fr, hb⟩
      · rw [q] at q3; cases q3
      · have := hb.hb; rw [q4] at this
        exact (Array.getElem?_eq_some_iff.1 this).1))
  have hno : ¬ Owned { s with w := s.w.alloc (.map #[] 0) } S.hp s.w.heap.size := by
    rintro ⟨id, ob, m, q1, q2, q3, q4, q5⟩
    obtain ⟨m', hm'⟩ := hs.heap.obj id ob q1
    have e : m' = m := by have := hm'.hm.symm.trans q3; simpa using this
    subst e
    rcases hm'.body with ⟨q, _⟩ | ⟨cur, fr, hb⟩
    · rw [q] at q4; cases q4
    · have := hb.hb; rw [q5] at this
      exact absurd (Array.getElem?_eq_some_iff.1 this).1 (Nat.lt_irrefl _)
  have hfr : Fr s S.hp { s with w := s.w.alloc (.map #[] 0) } S.hp :=
    ⟨rfl, rfl, rfl, by simp, fun b hb _ => hold b hb, fun _ h => h, fun _ _ _ h => h, fun _ _ h => h, g2, fun _ h => h⟩
  have hs' := (hs.vals (s' := { s with w := s.w.alloc (.map #[] 0) }) g1 g2).put (d := some t) (x := .sc (.map (some s.w.heap.size))) (v := .map (some s.w.heap.size)) (by simpa [dstOk] using ht) (.sc _)
  rw [hd]
  exact h s.w.heap.size (k + 1) h1 s { s with w := s.w.alloc (.map #[] 0) } _ hfr (Nat.le_refl _) (by simp) hs' ⟨fun hi => absurd (hs.heap.im _ hi) (Nat.lt_irrefl _), hno, #[], 0, alloc_new s.w _, rfl, rfl, fun i x e hx => by simp at hx⟩
theorem rgm_pure {b : Nat} {ks : List Int} {xs : List AV} {t : Nat} {v : AV} (hg : o.guard = none) (hd : o.dst = some t) (ht : Nat.blt t n.n = true) (hy : YieldV P o S v) (h : RgM P n ops rest ⟨upd S.sl t (some v), S.hp⟩ b ks xs K') : RgM P n ops (o :: rest) S b ks xs K' := by
  intro k hk s0 s a hf0 hb0 hb1 hs hm
  obtain ⟨h0, h1⟩ := drop_cons hk
  rw [List.length_cons, List.range'_succ]
  have hw : Wd ops S o = some true := by unfold Wd; rw [hg]
  simp only [wpOps, List.getElem?_toArray, h0, Wd_spec hs hw, if_true]
  refine .inl (hy s a _ _ hs.heap (hs.opers o) (fun _ h => h.elim) ?_)
  rintro s' u x H' ⟨rfl, rfl⟩ hv hH hf _
  have hs' := (hs.fr hH hf).put (d := o.dst) (by rw [hd]; simpa [dstOk] using ht) hv
  rw [hd] at hs' ⊢
  obtain ⟨es, clock, q1, q2, q3, q4⟩ := hm.at'
  exact h (k + 1) h1 s0 s' _ (hf0.trans hf) hb0 (Nat.lt_of_lt_of_le hb1 hf.size) hs' ⟨fun hi => hm.him (hf.imo b hb1 hm.hno hi), fun ho => hm.hno (hf.own b hb1 ho), es, clock, (hf.keep b hb1 hm.hno).trans q1, q2, q3, fun i x e g1 g2 => hf.vals _ _ (q4 i x e g1 g2)⟩
theorem findNow_none (k : Int) : ∀ (es : List MapEntry) (ks : List Int) (i : Nat), es.map (·.key) = ks.map (Value.int .i64) → fix k ks = none → Instr.findNow (.int .i64) (.int .i64 k) es i = some none
  | [], _, _, _, _ => rfl
  | e :: es, [], i, h, _ => by simp at h
  | e :: es, a :: r, i, h, hj => by
    simp only [List.map_cons, List.cons.injEq] at h
    unfold fix at hj
    by_cases hk : k = a
    · rw [decide_eq_true hk] at hj; cases hj
    · rw [decide_eq_false hk] at hj
      simp only [Option.map_eq_none_iff] at hj
      simp [Instr.findNow, Instr.sameNow, h.1, beq_eq_false_iff_ne.2 hk, findNow_none k es r (i + 1) h.2 hj]
theorem rgm_insert {m y v : Operand} {b : Nat} {ks : List Int} {xs : List AV} {q : Int} {x : AV} (ho : o.op = .insert T m y v) (hg : o.guard = none) (hd : o.dst = none) (hT : P.underlying T = some (.map K E)) (hK : P.underlying K = some (.int .i64))
    (hm : S.ev m = some (.sc (.map (some b)))) (hy : S.ev y = some (.sc (.int .i64 q))) (hv : S.ev v = some x) (hq : fix q ks = none)
    (h : RgM P n ops rest S b (ks ++ [q]) (xs ++ [x]) K') : RgM P n ops (o :: rest) S b ks xs K' := by
  intro k hk s0 s a hf0 hb0 hb1 hs hma
  obtain ⟨h0, h1⟩ := drop_cons hk
  rw [List.length_cons, List.range'_succ]
  have hw : Wd ops S o = some true := by unfold Wd; rw [hg]
  simp only [wpOps, List.getElem?_toArray, h0, Wd_spec hs hw, if_true]
  obtain ⟨es, clock, q1, q2, q3, q4⟩ := hma.at'
  have e1 := (hs.opers o m (by simp [ho, Op.operands]) _ hm).sc_inv
  have e2 := (hs.opers o y (by simp [ho, Op.operands]) _ hy).sc_inv
  have e3 := hs.opers o v (by simp [ho, Op.operands]) _ hv
  have hc := run_checkKey_int (P := P) (K := K) (b := false) (n := 9999) (v := .int .i64 q) hK s.w
  have hrun : (execOp a.eval o).run P s.w = .ok .skip { s.w with heap := s.w.heap.setIfInBounds b (.map (es.push { key := .int .i64 q, val := a.eval v, born := clock }) (clock + 1)) } := by
    simp only [execOp, ho, e1, e2, Instr.mapUpdate, Sem.run_bind, run_underlying hT, Result.andThen_ok, run_getObj_map s.w _ _ _ q1, hc, Instr.findKey, run_underlying hK, findNow_none q es.toList ks 0 q2 hq, Sem.run_pure]
    simp [setObj, Sem.run, q1]
  refine .inl (wp_skp hrun ?_)
  have hold : ∀ j, j ≠ b → (s.w.heap.setIfInBounds b (.map (es.push { key := .int .i64 q, val := a.eval v, born := clock }) (clock + 1)))[j]? = s.w.heap[j]? := fun j hj => by rw [Array.getElem?_setIfInBounds_ne (Ne.symm hj)]
  obtain ⟨g1, g2⟩ := sit_w hs.heap { s.w with heap := s.w.heap.setIfInBounds b (.map (es.push { key := .int .i64 q, val := a.eval v, born := clock }) (clock + 1)) } (by simp) (fun j hj => hold j (by
    rintro rfl
    rcases hj with hj | ⟨id, ob, m', p1, p2, p3, p4⟩
    · exact hma.him hj
    · obtain ⟨m2, hm2⟩ := hs.heap.obj id ob p1
      have e : m2 = m' := by have := hm2.hm.symm.trans p2; simpa using this
      subst e
      rcases hm2.body with ⟨q, _⟩ | ⟨cur, fr, hb⟩
      · rw [q] at p3; cases p3
      · exact not_used hma.him hma.hno p1 p2 hb p4))
  have hs' := hs.vals (s' := { s with w := { s.w with heap := s.w.heap.setIfInBounds b (.map (es.push { key := .int .i64 q, val := a.eval v, born := clock }) (clock + 1)) } }) g1 g2
  rw [hd]
  refine h (k + 1) h1 s0 { s with w := { s.w with heap := s.w.heap.setIfInBounds b (.map (es.push { key := .int .i64 q, val := a.eval v, born := clock }) (clock + 1)) } } a ?_ hb0 (by simpa using hb1) hs' ⟨hma.him, hma.hno, _, _, Array.getElem?_setIfInBounds_self_of_lt hb1, by simp [q2], by simp [q3], fun i z e z1 z2 => g2 _ _ ?_⟩
  · exact ⟨hf0.os, hf0.tape, hf0.output, by simpa using hf0.size, fun j hj hno => (hold j (by omega)).trans (hf0.keep j hj hno), hf0.imk, hf0.imo, hf0.own, fun x v hx => g2 _ _ (hf0.vals x v hx), hf0.usd⟩
  · rw [Array.toList_push] at z2
    by_cases hi : i < xs.length
    · rw [List.getElem?_append_left hi] at z1
      rw [List.getElem?_append_left (by omega)] at z2
      exact q4 i z e z1 z2
    · rw [List.getElem?_append_right (by omega)] at z1
      rw [List.getElem?_append_right (by omega), ← q3] at z2
      have hi0 : i - xs.length = 0 := by
        have := (List.getElem?_eq_some_iff.1 z1).1
        simp at this; omega
      rw [hi0] at z1 z2
      simp at z1 z2
      subst z1 z2
      exact e3
theorem rgm_end {todo : List Oper} {t : Nat} {f : Nat → Option AV} {hp : AH} {b : Nat} {ks : List Int} {xs : List AV} (ht : f t = some (.sc (.map (some b)))) (h : Rg P n ops todo ⟨upd f t (some (.mp ks xs)), hp⟩ K') : RgM P n ops todo ⟨f, hp⟩ b ks xs K' := by
  intro k hk s0 s a hf0 hb0 hb1 hs hma
  obtain ⟨es, clock, q1, q2, q3, q4⟩ := hma.at'
  have hmono : ∀ x v, VR s x v → VR { s with Im := fun j => s.Im j ∨ j = b } x v := fun x v h => VR.mono (s := s) (s' := { s with Im := fun j => s.Im j ∨ j = b }) (fun b hi => ⟨.inl hi, rfl⟩) (fun i m' hm' => .inl hm') (fun _ h => h) h
  have hH : HR { s with Im := fun j => s.Im j ∨ j = b } hp := by
    refine ⟨fun id o ho => ?_, hs.heap.uniq, fun j hj => ?_, hs.heap.fin⟩
    · obtain ⟨m, hm⟩ := hs.heap.obj id o ho
      refine ⟨m, hm.hm, hm.hver, hm.hsz, hm.hk, ?_⟩
      rcases hm.body with h | ⟨cur, fr, hb⟩
      · exact .inl h
      · refine .inr ⟨cur, fr, ⟨hb.hnil, hb.hb, hb.hfr, hb.happ, hb.hcs, hb.hct, hb.hlen, hb.hr, fun i r j x v a b c => hmono _ _ (hb.hv i r j x v a b c), hb.h1, fun h => .inl (hb.him h), fun h hi => ?_⟩⟩
        rcases hi with hi | hi
        · exact hb.hnim h hi
        · exact not_used hma.him hma.hno ho hm.hm hb hi
    · rcases hj with hj | hj
      · exact hs.heap.im j hj
      · exact hj ▸ hb1
  have hs' : SR n { s with Im := fun j => s.Im j ∨ j = b } ⟨upd f t (some (.mp ks xs)), hp⟩ a := by
    refine ⟨hs.size, hs.defers, fun i x hx => ?_, hH⟩
    by_cases hi : i = t
    · subst hi
      simp only [upd_same, Option.some.injEq] at hx
      subst hx
      obtain ⟨v, h1, h2⟩ := hs.slot i _ ht
      have := h2.sc_inv; subst this
      exact ⟨_, h1, .mp (.inr rfl) q1 q2 q3 fun i x e z1 z2 => hmono _ _ (q4 i x e z1 z2)⟩
    · simp only [upd_ne _ _ hi] at hx
      obtain ⟨v, h1, h2⟩ := hs.slot i x hx
      exact ⟨v, h1, hmono _ _ h2⟩
  refine wpOps_mono' ?_ _ _ _ (h k hk { s with Im := fun j => s.Im j ∨ j = b } a hs')
  rintro e a' w' ⟨rfl, S2, s2, g1, g2, g3, g4⟩
  have hf1 : Fr s0 hp { s with Im := fun j => s.Im j ∨ j = b } hp :=
    ⟨hf0.os, hf0.tape, hf0.output, hf0.size, hf0.keep, fun j hj => .inl (hf0.imk j hj), fun j hj hno hi => by
      rcases hi with hi | hi
      · exact hf0.imo j hj hno hi
      · omega, hf0.own, fun x v hx => hmono _ _ (hf0.vals x v hx), hf0.usd⟩
  exact ⟨rfl, S2, s2, g1, g2, g3, hf1.trans g4⟩
def RRm (P : Program) (n : NT) (Q0 : Go.Exit → AS → Prop) (st : List Fm) (l todo : List Oper) (cs : List Code) (S : AS) (b : Nat) (ks : List Int) (xs : List AV) : Prop :=
  ∀ K : AS → Prop, (∀ S', Trs P n (QQ P n Q0 st) cs S' → K S') → RgM P n l todo S b ks xs K
variable {Q0 : Go.Exit → AS → Prop} {st : List Fm} {cs : List Code} {b : Nat} {ks : List Int} {xs : List AV}
theorem mmk {t : Nat} (ho : o.op = .makeMap T none) (hg : o.guard = none) (hd : o.dst = some t) (ht : Nat.blt t n.n = true)
    (h : ∀ b, RRm P n Q0 st ops rest cs ⟨upd S.sl t (some (.sc (.map (some b)))), S.hp⟩ b [] []) : RR P n Q0 st ops (o :: rest) cs S := fun K hK => rgm_make ho hg hd ht fun b => h b K hK
theorem mpu {t : Nat} {v : AV} (hg : o.guard = none) (hd : o.dst = some t) (ht : Nat.blt t n.n = true) (hy : YieldV P o S v) (h : RRm P n Q0 st ops rest cs ⟨upd S.sl t (some v), S.hp⟩ b ks xs) : RRm P n Q0 st ops (o :: rest) cs S b ks xs :=
  fun K hK => rgm_pure hg hd ht hy (h K hK)
theorem mins {m y v : Operand} {q : Int} {x : AV} (ho : o.op = .insert T m y v) (hg : o.guard = none) (hd : o.dst = none) (hT : P.underlying T = some (.map K E)) (hK : P.underlying K = some (.int .i64))
    (hm : S.ev m = some (.sc (.map (some b)))) (hy : S.ev y = some (.sc (.int .i64 q))) (hv : S.ev v = some x) (hq : fix q ks = none)
    (h : RRm P n Q0 st ops rest cs S b (ks ++ [q]) (xs ++ [x])) : RRm P n Q0 st ops (o :: rest) cs S b ks xs := fun K hK' => rgm_insert ho hg hd hT hK hm hy hv hq (h K hK')
theorem mend {f : Nat → Option AV} {hp : AH} {todo : List Oper} (t : Nat) (ht : f t = some (.sc (.map (some b)))) (h : RR P n Q0 st ops todo cs ⟨upd f t (some (.mp ks xs)), hp⟩) : RRm P n Q0 st ops todo cs ⟨f, hp⟩ b ks xs :=
  fun K hK => rgm_end ht (h K hK)
end
end Go.Pv
