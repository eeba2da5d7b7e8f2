/- The abstract layer, part 5: stores, appends, makes, literals, calls. -/
import Derived.Test.YtiamgfjojjjggaaGreatPvD
set_option linter.unusedSimpArgs false
set_option linter.unusedVariables false
namespace Go.Pv
section
variable {P : Program} {n : NT} {S : AS}
theorem run_stores (P : Program) (g o : Nat) (e : TypeId) (fr : Nat × Nat) : ∀ (vs : List Value) (i : Nat) (cur : Array Value) (w : World), w.heap[g]? = some (.cells cur e fr) → o + i + vs.length ≤ cur.size →
    (∀ k, k < cur.size → ¬ (fr.1 ≤ k ∧ k < fr.2)) → (∀ (k : Nat) (v : Value), vs[k]? = some v → v.oneCell' = true) →
    ∃ w' cur', (storeCells ⟨g, o, none⟩ vs i).run P w = .ok () w' ∧ w'.heap[g]? = some (.cells cur' e fr) ∧ cur'.size = cur.size ∧
      (∀ k, cur'[k]? = if o + i ≤ k ∧ k < o + i + vs.length then vs[k - (o + i)]? else cur[k]?) ∧
      (∀ k, k ≠ g → w'.heap[k]? = w.heap[k]?) ∧ w'.heap.size = w.heap.size ∧ w'.os = w.os ∧ w'.tape = w.tape ∧ w'.output = w.output
  | [], i, cur, w, hg, _, _, _ => ⟨w, cur, rfl, hg, rfl, fun k => by rw [if_neg (by simp)], fun _ _ => rfl, rfl, rfl, rfl, rfl⟩
  | v :: vs, i, cur, w, hg, hl, hfr, h1 => by
    simp only [List.length_cons] at hl
    have hlt : o + i < cur.size := by omega
    have hc : w.cell? ⟨g, o + i, none⟩ = some cur[o + i] := by rw [cell_of_cells hg]; simp [hlt]
    have hf : w.frozen? ⟨g, o + i, none⟩ = false := by
      have := hfr (o + i) hlt
      simp only [World.frozen?, hg]
      simp only [Bool.and_eq_false_iff, decide_eq_false_iff_not]
      omega
    let w1 := w.setCell ⟨g, o + i, none⟩ v
    have hheap : w1.heap = w.heap.modify g fun
        | .cells c elem frozen => .cells (if (none : Option Nat).isSome then c else c.setIfInBounds (o + i) v) elem frozen
        | o => o := rfl
    have hg1 : w1.heap[g]? = some (.cells (cur.setIfInBounds (o + i) v) e fr) := by
      rw [hheap, Array.getElem?_modify, if_pos rfl, hg]; rfl
    obtain ⟨w', cur', r1, r2, r3, r4, r5, r6, r7, r8, r9⟩ := run_stores P g o e fr vs (i + 1) (cur.setIfInBounds (o + i) v) w1 hg1 (by simp; omega) (fun k hk => hfr k (by simpa using hk)) (fun k u hu => h1 (k + 1) u (by simpa using hu))
    refine ⟨w', cur', ?_, r2, by rw [r3]; simp, fun k => ?_, fun k hk => (r5 k hk).trans ?_, r6.trans ?_, r7, r8, r9⟩
    · simp only [storeCells, Sem.run_bind, addr_add]
      rw [run_store P w _ v .plain (h1 0 v rfl), hc]
      simp only [hf, Bool.false_eq_true, if_false, Result.andThen_ok]
      exact r1
    · rw [r4 k]
      by_cases hk : k = o + i
      · subst hk
        rw [if_neg (by omega), if_pos (by simp)]
        simp [hlt]
      · rw [Array.getElem?_setIfInBounds_ne (by omega)]
        by_cases h2 : o + (i + 1) ≤ k ∧ k < o + (i + 1) + vs.length
        · rw [if_pos h2, if_pos (by simp; omega)]
          have : k - (o + i) = (k - (o + (i + 1))) + 1 := by omega
          rw [this]; rfl
        · rw [if_neg h2, if_neg (by simp; omega)]
    · rw [hheap, Array.getElem?_modify, if_neg (by omega)]
    · rw [hheap]; simp
def putRow (r : List AV) (off : Nat) (xs : List AV) : List AV := r.take off ++ xs ++ r.drop (off + xs.length)
theorem putRow_get {r : List AV} {off : Nat} {xs : List AV} (h : off + xs.length ≤ r.length) (j : Nat) : (putRow r off xs)[j]? = if off ≤ j ∧ j < off + xs.length then xs[j - off]? else r[j]? := by
  unfold putRow
  have hl : (r.take off).length = off := by simp; omega
  by_cases h1 : j < off
  · rw [if_neg (by omega), List.append_assoc, List.getElem?_append_left (by omega), List.getElem?_take_of_lt h1]
  · rw [List.append_assoc, List.getElem?_append_right (by omega), hl]
    by_cases h2 : j < off + xs.length
    · rw [if_pos (by omega), List.getElem?_append_left (by omega)]
    · rw [if_neg (by omega), List.getElem?_append_right (by omega), List.getElem?_drop]
      congr 1; omega
theorem putRow_length {r : List AV} {off : Nat} {xs : List AV} (h : off + xs.length ≤ r.length) : (putRow r off xs).length = r.length := by
  unfold putRow; simp; omega
theorem rows_cell {i row sz j off k : Nat} (hj : j < sz) (ho : off + k ≤ sz) (h1 : row * sz + off ≤ i * sz + j) (h2 : i * sz + j < row * sz + off + k) : i = row := by
  rcases Nat.lt_trichotomy i row with h | h | h
  · have : (i + 1) * sz ≤ row * sz := Nat.mul_le_mul_right _ h
    rw [Nat.add_mul] at this; omega
  · exact h
  · have : (row + 1) * sz ≤ i * sz := Nat.mul_le_mul_right _ h
    rw [Nat.add_mul] at this; omega
section ops
variable {o : Oper} {T : TypeId} {x y : Operand}
theorem yl_store {id ver row off k : Nat} {b : Bool} {ob : AObj} {r : List AV} {v : AV} (ho : o.op = .store T x y) (hT0 : tySh P T = some (k, b)) (hx : S.ev x = some (.pt id ver row off)) (hy : S.ev y = some v)
    (hob : S.hp id = some ob) (hver : ob.ver = ver) (hmt : ob.mt = true) (hr : ob.rows[row]? = some r) (hcl : v.cells.length = k) (hfit0 : Nat.ble (off + k) r.length = true) (h1 : allOne v.cells = true) :
    Yield P o S no no (fun z H' => z = .sc undef ∧ H' = upd S.hp id (some { ob with rows := ob.rows.set row (putRow r off v.cells) })) := by
  have hT : tySh P T = some (v.cells.length, b) := by rw [hcl]; exact hT0
  have hfit : off + v.cells.length ≤ r.length := by rw [hcl]; exact Nat.le_of_ble_eq_true hfit0
  intro s a next Q hH hops _ hn
  have hxv := hops x (by simp [ho, Op.operands]) _ hx
  have hyv := hops y (by simp [ho, Op.operands]) _ hy
  obtain ⟨m, cur, fr, hm, hb, hp⟩ := pt_live hH hob hver (fun e => by rw [e] at hr; simp at hr) hxv
  obtain ⟨c1, c2, c3⟩ := hyv.cells h1
  have hrow : row < ob.rows.length := (List.getElem?_eq_some_iff.1 hr).1
  have hrl : r.length = ob.sz := hb.hr row r hr
  have hroom : row * ob.sz + off + 0 + v.cells.length ≤ cur.size := by
    rw [hb.hcs]
    have : (row + 1) * ob.sz ≤ m.ct * ob.sz := Nat.mul_le_mul_right _ (by have := hb.hlen; omega)
    rw [Nat.add_mul] at this; omega
  obtain ⟨w', cur', r1, r2, r3, r4, r5, r6, r7, r8, r9⟩ := run_stores P m.b (row * ob.sz + off) ob.elem fr (a.eval y).cells.toList 0 cur s.w hb.hb (by rw [Array.length_toList, c1]; exact hroom) hb.hfr
    (fun k u hu => c3 k u (by rw [← hu, Array.getElem?_toList]))
  have hlen : (a.eval y).cells.toList.length = v.cells.length := by rw [Array.length_toList, c1]
  simp only [Nat.add_zero, hlen] at r4
  have hpl := putRow_length hfit
  obtain ⟨s', g1, gu, g2, g3⟩ := sit_set hH id ob m cur cur' fr (ob.rows.set row (putRow r off v.cells)) w' hob hm hb hmt r7 r8 r9 r6 r5 r2 r3 (by rw [List.length_set]; exact hb.hlen)
    (fun i q hq => by
      by_cases hi : i = row
      · subst hi; rw [List.getElem?_set_self hrow] at hq; cases hq; rw [hpl, hrl]
      · rw [List.getElem?_set_ne (Ne.symm hi)] at hq; exact hb.hr i q hq)
    (fun i q j z u hq hz hu => by
      rw [r4] at hu
      by_cases hi : i = row
      · subst hi
        rw [List.getElem?_set_self hrow] at hq; cases hq
        rw [putRow_get hfit] at hz
        by_cases hc : off ≤ j ∧ j < off + v.cells.length
        · rw [if_pos hc] at hz
          rw [if_pos (by omega)] at hu
          rw [show i * ob.sz + j - (i * ob.sz + off) = j - off by omega, Array.getElem?_toList] at hu
          exact c2 _ z u hz hu
        · rw [if_neg hc] at hz
          rw [if_neg (by omega)] at hu
          exact hb.hv i r j z u hr hz hu
      · rw [List.getElem?_set_ne (Ne.symm hi)] at hq
        have hj : j < ob.sz := by have := (List.getElem?_eq_some_iff.1 hz).1; rw [hb.hr i q hq] at this; exact this
        rw [if_neg (fun hc => hi (rows_cell hj (by omega) hc.1 hc.2))] at hu
        exact hb.hv i q j z u hq hz hu)
    (fun k u hu => by
      rw [r4] at hu
      split at hu
      · exact c3 _ u (by rw [← hu, Array.getElem?_toList])
      · exact hb.h1 k u hu)
  refine wp_skp (w' := s'.w) ?_ (hn s' undef (.sc undef) _ ⟨rfl, rfl⟩ (.sc _) g2 g3 (fun k hk => .inl (gu ▸ hk)))
  rw [g1]
  have hnz : ¬ ((a.eval y).cells.size ≠ v.cells.length) := by rw [c1]; simp
  simp only [execOp, ho, Instr.storeAt, Sem.run_bind, hp, Instr.sureAddr, Sem.run_pure, Result.andThen_ok, storeVar, run_sizeOf' hT, hnz, if_false, r1]
theorem yl_box {v : AV} {F U V : Nat → Prop} (id : Nat) (hp : Pick F U V) (ho : o.op = .box T x) (hx : S.ev x = some v) (h1 : allOne v.cells = true) :
    Yield P o S F U (fun y H' => ∃ ver, V ver ∧ y = .pt id ver 0 0 ∧ H' = upd S.hp id (some ⟨T, v.cells.length, true, true, ver, [v.cells]⟩)) := by
  intro s a next Q hH hops hF hn
  obtain ⟨ver, hV, hU, hun⟩ := hp.get hH hF
  have hxv := hops x (by simp [ho, Op.operands]) _ hx
  obtain ⟨c1, c2, c3⟩ := hxv.cells h1
  obtain ⟨s', g1, g2, g3, g4, g5⟩ := sit_re hH id ⟨T, v.cells.length, true, true, ver, [v.cells]⟩ s.w.heap.size 1 (a.eval x).cells (s.w.alloc (.cells (a.eval x).cells T)) rfl rfl rfl (by simp)
    (fun k hk _ => alloc_old s.w _ k hk) (alloc_new s.w _) (.inl (Nat.le_refl _)) hun rfl (by simp [c1]) (by simp [maxLen]) (by simp)
    (fun i r hr => by cases i with | zero => simp at hr; subst hr; simp | succ i => simp at hr)
    (fun i r j z u hr hz hu => by
      cases i with
      | succ i => simp at hr
      | zero => simp at hr; subst hr; rw [Nat.zero_mul, Nat.zero_add] at hu; exact c2 j z u hz hu)
    (fun k u hu => c3 k u hu)
  refine wp_val (w' := s'.w) (v := .pointer (some ⟨s.w.heap.size, 0, none⟩)) ?_ (hn s' _ (.pt id ver 0 0) _ ⟨ver, hV, rfl, rfl⟩ ?_ g4 g5 ?_)
  · rw [g1]
    simp only [execOp, ho, Instr.box, Sem.run_bind, newVar, newRow, newObj, Sem.run, Sem.run_pure]
    rfl
  · refine .pt (by rw [g2]; exact .inr rfl) rfl fun m hm _ _ => ?_
    rw [g3] at hm; cases hm; simp
  · intro k hk; rw [g2] at hk; rcases hk with h | h; exact .inl h; exact .inr (h ▸ hU)
end ops
end
end Go.Pv
