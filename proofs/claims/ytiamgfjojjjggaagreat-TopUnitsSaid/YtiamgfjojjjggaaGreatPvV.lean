/- Append, make: cores and typed forms. -/
import Derived.Test.YtiamgfjojjjggaaGreatPvU
set_option linter.unusedSimpArgs false
set_option linter.unusedVariables false
namespace Go.Pv
section
variable {P : Program} {n : NT} {S : AS} {o : Oper} {T : TypeId} {x y : Operand}
theorem upd_updV {f : AH} {i : Nat} {v w : Option AObj} : upd (upd f i v) i w = upd f i w := by
  funext k; by_cases h : k = i
  · subst h; rw [upd_same, upd_same]
  · rw [upd_ne _ _ h, upd_ne _ _ h, upd_ne _ _ h]
variable {α : Type}
theorem one_map {g : α → List AV} (h : ∀ a, allOne (g a) = true) (l : List α) : ∀ r ∈ l.map g, allOne r = true := fun r hr => by
  obtain ⟨a, _, rfl⟩ := List.mem_map.1 hr; exact h a
theorem yl_appT {F U V : Nat → Prop} {e : TypeId} {sz by' : Nat} {zs : List Value} {id ver k : Nat} {ob : AObj} {p : AV} {g : α → List AV} {l m l' : List α} (hp : Pick F U V)
    (ho : o.op = .call { callee := .builtin .append, args := #[x, y], argTypes := #[T, T] }) (hT : P.underlying T = some (.slice e)) (hz : bsz P e = some (sz, zs)) (hby : bby P e = some by') (hb : Nat.ble by' 2048 = true)
    (hx : S.ev x = some (.sl id ver 0 k)) (hy : S.ev y = some p) (hob : S.hp id = some ob) (hver : ob.ver = ver) (hmt : ob.mt = true) (happ : ob.app = true) (hel : ob.elem = e) (hosz : ob.sz = sz) (hr : ob.rows = l.map g) (hk : k = l.length)
    (hcv : Cv S.hp p (lst sz g m)) (h1 : ∀ a, allOne (g a) = true) (hl : l ++ m = l') (hfit : l'.length ≤ 68719476736) :
    Yield P o S F U (fun z H' => ∃ ver', V ver' ∧ z = .sl id ver' 0 l'.length ∧ H' = upd S.hp id (some ⟨e, sz, true, true, ver', l'.map g⟩)) := by
  subst hl hk
  have hb' := Nat.le_of_ble_eq_true hb
  have e1 : l.length + (m.map g).length = (l ++ m).length := by rw [List.length_map, List.length_append]
  have hmul : (l ++ m).length * by' ≤ 68719476736 * 2048 := Nat.mul_le_mul hfit hb'
  have := yl_append (news := m.map g) hp ho hT hz hby hx hy hob hver hmt happ hel hosz (by rw [hr, List.length_map]) hcv (one_map h1 m) (by rw [e1]; omega) (by rw [e1]; omega)
  intro s a next Q q1 q2 q3 q4
  refine this s a next Q q1 q2 q3 ?_
  rintro s' v z H' ⟨ver', hV, rfl, rfl⟩
  refine q4 s' v _ _ ⟨ver', hV, by rw [e1], ?_⟩
  rw [hr, List.map_append]
  obtain ⟨oe, os, om, oa, ov, orr⟩ := ob
  simp only at hmt happ hel hosz hr
  subst hmt happ hel hosz
  rfl
theorem yv_ixO {e : TypeId} {sz k id ver : Nat} {b : Bool} {kk : IntKind} {i : Int} {ob : AObj} {l : List α} {v : α} (ho : o.op = .indexAddr T x y) (hT : P.underlying T = some (.slice e)) (he : tySh P e = some (sz, b))
    (hx : S.ev x = some (.sl id ver 0 k)) (hy : S.ev y = some (.sc (.int kk i))) (hob : S.hp id = some ob) (hver : ob.ver = ver) (hsz : ob.sz = sz) (hk : k = l.length) (hrl : ob.rows.length = l.length) (h : ix l i = some v) : YieldV P o S (.pt id ver i.toNat 0) := by
  have hlt := ix_lt h
  have := IAd.sl (S := S) (sz := sz) (id := id) (ver := ver) (off := 0) (len := k) (i := i.toNat) hob hver hsz (by omega) (by omega)
  rw [Nat.zero_add] at this
  exact yv_indexAddr ho hT he hx hy (ix_e h).1 this
theorem ix_set {β : Type} {l l' : List β} {i : Int} {v v' : β} (h : ix l i = some v) (e : l.set i.toNat v' = l') : ix l' i = some v' := by
  subst e
  have h1 := ix_e h
  have hlt := ix_lt h
  unfold ix
  rw [if_neg (by omega), List.getElem?_set_self hlt]
theorem set_get {β : Type} {l : List β} {i : Int} {v : β} {g : β → List AV} {c : List AV} (h : ix l i = some v) : ((l.map g).set i.toNat c)[i.toNat]? = some c :=
  List.getElem?_set_self (by rw [List.length_map]; exact ix_lt h)
theorem ob_eq {T sz ver : Nat} {mt app : Bool} {r r' : List (List AV)} (h : r = r') : (⟨T, sz, mt, app, ver, r⟩ : AObj) = ⟨T, sz, mt, app, ver, r'⟩ := by rw [h]
theorem map_setV {β : Type} {l l' : List β} {i : Nat} {v' : β} {g : β → List AV} (e : l.set i v' = l') : (l.map g).set i (g v') = l'.map g := by subst e; rw [List.map_set]
theorem len_setV {β : Type} {l l' : List β} {i k : Nat} {v' : β} (e : l.set i v' = l') (h : l.length = k) : l'.length = k := by subst e; rw [List.length_set]; exact h
theorem cv_slen {H : AH} {id ver off a b : Nat} (h : a = b) : Cv H (.sl id ver off a) (.sl id ver off b) := by subst h; exact .refl _
theorem CvLL.list {H : AH} {sz : Nat} {xs ys : List (List AV)} (h : CvLL H xs ys) : Cv H (.list sz xs) (.list sz ys) := fun s hs v hv => by
  obtain ⟨h1, h2⟩ := h.get
  cases hv with
  | nil =>
    have : ys = [] := List.eq_nil_of_length_eq_zero (by simpa using h1.symm)
    subst this; exact .nil sz
  | emp _ a =>
    have : ys = [] := List.eq_nil_of_length_eq_zero (by simpa using h1.symm)
    subst this; exact .emp sz a
  | list f hI hc hm hr hf hv =>
    rw [h1]
    refine .list f hI (by omega) hm (fun i r hi => ?_) (fun i r j x hi hj => ?_) (fun i r j x hi hj => ?_)
    · obtain ⟨r0, g1, g2⟩ := h2 i r hi; rw [← g2.get.1]; exact hr i r0 g1
    · obtain ⟨r0, g1, g2⟩ := h2 i r hi
      obtain ⟨x0, g3, _⟩ := g2.get.2 j x hj
      exact hf i r0 j x0 g1 g3
    · obtain ⟨r0, g1, g2⟩ := h2 i r hi
      obtain ⟨x0, g3, g4⟩ := g2.get.2 j x hj
      exact g4 s hs _ (hv i r0 j x0 g1 g3)
theorem cv_ov {H : AH} {id ver len sz : Nat} {ob : AObj} {g : α → List AV} {l : List α} {i : Int} {v v' : α} {cells : List AV} (ho : H id = some ob) (hver : ob.ver = ver) (hmt : ob.mt = false) (hsz : ob.sz = sz)
    (hr : ob.rows = (l.map g).set i.toNat cells) (hl : len = l.length) (hx : ix l i = some v) (hc : CvL H cells (g v')) : Cv H (.sl id ver 0 len) (lst sz g (l.set i.toNat v')) := by
  have hlt := ix_lt hx
  have hrr : CvLL H ob.rows ((l.set i.toNat v').map g) := by
    rw [hr, List.map_set]
    have : ∀ (xs : List (List AV)) (k : Nat) (c c' : List AV), CvL H c c' → CvLL H (xs.set k c) (xs.set k c') := by
      intro xs
      induction xs with
      | nil => intro k c c' _; simp; exact .nil
      | cons a r ih =>
        intro k c c' h
        cases k with
        | zero => exact .cons h (CvLL.refl _)
        | succ k => exact .cons (CvL.refl _) (ih k c c' h)
    exact this _ _ _ _ hc
  have := Cv.sl (rows := (l.set i.toNat v').map g) (off := 0) (len := len) ho hver hmt hrr (by rw [List.length_map, List.length_set]; omega)
  rw [hsz] at this
  have e : (((l.set i.toNat v').map g).drop 0).take len = (l.set i.toNat v').map g := by rw [List.drop_zero, hl, List.take_of_length_le (by rw [List.length_map, List.length_set]; exact Nat.le_refl _)]
  rw [e] at this; exact this
inductive ZC : AV → Value → Prop
  | sc (v : Value) : ZC (.sc v) v
  | nil (sz : Nat) : ZC (.list sz []) (.slice none 0 0)
inductive ZL : List AV → List Value → Prop
  | nil : ZL [] []
  | cons {x : AV} {v : Value} {xs : List AV} {vs : List Value} (h : ZC x v) (t : ZL xs vs) : ZL (x :: xs) (v :: vs)
theorem ZL.get {xs : List AV} {vs : List Value} (h : ZL xs vs) : xs.length = vs.length ∧ ∀ (s : Sit) (j : Nat) (x : AV) (v : Value), xs[j]? = some x → vs[j]? = some v → VR s x v := by
  induction h with
  | nil => exact ⟨rfl, fun s j x v h => by simp at h⟩
  | cons h t ih =>
    refine ⟨by simp [ih.1], fun s j x v h1 h2 => ?_⟩
    cases j with
    | zero =>
      simp at h1 h2; subst h1 h2
      cases h with
      | sc => exact .sc _
      | nil => exact .nil _
    | succ j => exact ih.2 s j x v (by simpa using h1) (by simpa using h2)
theorem yl_make {F U V : Nat → Prop} {e : TypeId} {sz by' : Nat} {zs : List Value} (id : Nat) {g : α → List AV} {z0 : α} {N : Int} {l : List α} (hp : Pick F U V)
    (ho : o.op = .makeSlice T x y) (hT : P.underlying T = some (.slice e)) (hz : bsz P e = some (sz, zs)) (hby : bby P e = some by') (hb : Nat.ble by' 2048 = true)
    (hx : S.ev x = some (.sc (.int .i64 N))) (hy : S.ev y = some (.sc (.int .i64 N))) (hN : 0 ≤ N ∧ N ≤ 1048576) (hg : ZL (g z0) zs) (hl : List.replicate N.toNat z0 = l) :
    Yield P o S F U (fun z H' => ∃ ver', V ver' ∧ z = .sl id ver' 0 N.toNat ∧ H' = upd S.hp id (some ⟨e, sz, true, true, ver', l.map g⟩)) := by
  subst hl
  intro s a next Q hH hops hF hn
  obtain ⟨ver', hV, hU, hun⟩ := hp.get hH hF
  obtain ⟨i, hi, hsz, hzo, hzl, hpos, h1⟩ := bsz_spec hz
  obtain ⟨z, hz1, hz2⟩ := run_zeroValue' hzo s.w
  have hzc : z.cells.size = sz := by rw [← Array.length_toList, hz1, hzl]
  have hib : i.bytes = by' := by unfold bby at hby; rw [hi] at hby; simpa using hby
  have hb' := Nat.le_of_ble_eq_true hb
  have hxv := (hops x (by simp [ho, Op.operands]) _ hx).sc_inv
  have hyv := (hops y (by simp [ho, Op.operands]) _ hy).sc_inv
  obtain ⟨k, rfl⟩ : ∃ k : Nat, N = (k : Int) := ⟨N.toNat, by omega⟩
  have hk : k ≤ 1048576 := by omega
  obtain ⟨zl, zg⟩ := hg.get
  let z0' : Array Value := (Array.range (k * sz)).map (z.cells[· % z.cells.size]!)
  have hget : ∀ j, j < k * sz → z0'[j]? = zs[j % sz]? := fun j hj => by
    have hm : j % sz < sz := Nat.mod_lt _ hpos
    simp only [z0', Array.getElem?_map, Array.getElem?_range, hj, if_true, Option.map_some, hzc]
    rw [← hz1, Array.getElem?_toList]
    rw [getElem!_pos z.cells (j % sz) (by omega), Array.getElem?_eq_getElem (by omega)]
  have hsize : z0'.size = k * sz := by simp [z0']
  obtain ⟨s', g1, g2, g3, g4, g5⟩ := sit_re hH id ⟨e, sz, true, true, ver', (List.replicate k z0).map g⟩ s.w.heap.size k z0' (s.w.alloc (.cells z0' e)) rfl rfl rfl (by simp)
    (fun j hj _ => alloc_old s.w _ j hj) (alloc_new s.w _) (.inl (Nat.le_refl _)) hun rfl (by simp [hsize]) (by simp [maxLen]; omega) (by simp)
    (fun i r hr => by
      rw [List.getElem?_map] at hr
      obtain ⟨q, hq, rfl⟩ := Option.map_eq_some_iff.1 hr
      have := List.mem_of_getElem? hq
      rw [(List.eq_of_mem_replicate this)]
      simp [zl, hzl])
    (fun i r j x v hr hxx hv => by
      rw [List.getElem?_map] at hr
      obtain ⟨q, hq, rfl⟩ := Option.map_eq_some_iff.1 hr
      have hik : i < k := by have := (List.getElem?_eq_some_iff.1 hq).1; simpa using this
      rw [List.eq_of_mem_replicate (List.mem_of_getElem? hq)] at hxx
      have hj : j < sz := by have := (List.getElem?_eq_some_iff.1 hxx).1; omega
      simp only at hv
      have hlt : i * sz + j < k * sz := by
        have : (i + 1) * sz ≤ k * sz := Nat.mul_le_mul_right _ (by omega)
        rw [Nat.add_mul] at this; omega
      rw [hget _ hlt, Nat.mul_comm, Nat.mul_add_mod, Nat.mod_eq_of_lt hj] at hv
      exact zg s j x v hxx hv)
    (fun j v hv => by
      have hj : j < k * sz := by have := (Array.getElem?_eq_some_iff.1 hv).1; omega
      rw [hget j hj] at hv
      exact allOneV_get h1 _ v hv)
  refine wp_val (w' := s'.w) (v := .slice (some ⟨s.w.heap.size, 0, none⟩) k k) ?_ (hn s' _ (.sl id ver' 0 k) _ ⟨ver', hV, by simp, by simp⟩ ?_ g4 g5 fun j hj => ?_)
  · rw [g1]
    have hty : (typeInfo e).run P s.w = .ok i s.w := by simp [typeInfo, program, Sem.run, hi]
    have hsz' : (sizeOf e).run P s.w = .ok sz s.w := by simp [sizeOf, typeInfo, program, Sem.run, hi, hsz]
    have hwr : IntKind.i64.wrap (k : Int) = k := IntWalk.i64_in _ (by omega)
    have hmul : i.bytes * k ≤ 2048 * 1048576 := by rw [hib]; exact Nat.mul_le_mul hb' hk
    have hmulI : ((i.bytes : Int) * (k : Int)) ≤ 2147483648 := by
      have h : ((i.bytes * k : Nat) : Int) ≤ ((2048 * 1048576 : Nat) : Int) := Int.ofNat_le.2 hmul
      rw [Int.natCast_mul] at h; omega
    have hroom : ¬ (k * i.bytes > roomBytes) := by rw [Nat.mul_comm]; simp only [roomBytes]; omega
    have ht1 : ¬ ((k : Int) < 0) := by omega
    have ht2 : ¬ ((i.bytes : Int) * (k : Int) > 2 ^ 48) := by omega
    simp only [execOp, ho, hxv, hyv, Instr.makeSlice, Sem.run_bind, run_underlying hT, Result.andThen_ok, asInt, asIntOf, Sem.run_pure, hty, hwr]
    simp only [ht1, ht2, decide_false, Bool.or_self, Bool.false_or, Bool.false_eq_true, Int.lt_irrefl, if_false, gt_iff_lt, askRoom, Int.toNat_natCast, hroom, Sem.run_bind, Sem.run_pure, Result.andThen_ok, hsz']
    by_cases h0 : k * sz = 0
    · have hzz : (Array.range 0).map ((#[] : Array Value)[· % (#[] : Array Value).size]!) = z0' := by simp [z0', h0]
      simp only [h0, if_true, Sem.run_pure, Result.andThen_ok, hzz, newRow, newObj, Sem.run, Sem.run_bind]
      rfl
    · simp only [h0, if_false, Sem.run_bind, hz2, Result.andThen_ok, Sem.run_pure, newRow, newObj, Sem.run]
      rfl
  · refine .sl (by rw [g2]; exact .inr rfl) rfl fun m hm _ => ?_
    rw [g3] at hm; cases hm
    exact ⟨fun h => (by cases h), fun _ => ⟨k, by simp, Nat.le_refl _, by simp⟩⟩
  · rw [g2] at hj; rcases hj with h | h; exact .inl h; exact .inr (h ▸ hU)
end
end Go.Pv
