/- The abstract layer: a list of the call's own behind rows that are of no more use (a slice that was cut from its front, then appended to). -/
import Derived.Test.YtiamgfjojjjggaaGreatPvAL
set_option linter.unusedSimpArgs false
set_option linter.unusedVariables false
namespace Go.Pv
def pad (id o w : Nat) : List (List AV) := List.replicate o [.sl id w 0 0]
theorem pad_len {id o w : Nat} : (pad id o w).length = o := List.length_replicate
theorem pad_ge {id o w i : Nat} {rows : List (List AV)} (h : o ≤ i) : (pad id o w ++ rows)[i]? = rows[i - o]? := by
  rw [List.getElem?_append_right (by rw [pad_len]; exact h), pad_len]
theorem pad_lt {id o w i : Nat} {rows : List (List AV)} (h : i < o) : (pad id o w ++ rows)[i]? = some [.sl id w 0 0] := by
  rw [List.getElem?_append_left (by rw [pad_len]; exact h)]; simp [pad, h]
theorem sit_waste {s : Sit} {H : AH} (hH : HR s H) : ∃ (s1 : Sit) (C : Nat), s1.w = s.w ∧ s1.mu = s.mu ∧ s1.Im = s.Im ∧ s1.used = (fun k => s.used k ∨ k = C) ∧ ¬ s.used C ∧ HR s1 H ∧ Fr s H s1 H := by
  obtain ⟨C, hC⟩ := hH.fin
  let s1 : Sit := { w := s.w, Im := s.Im, mu := s.mu, used := fun k => s.used k ∨ k = C }
  have hmono : ∀ x v, VR s x v → VR s1 x v := fun x v h => VR.mono (s := s) (s' := s1) (fun b hi => ⟨hi, rfl⟩) (fun i m' hm' => .inl hm') (fun _ h => .inl h) h
  refine ⟨s1, C, rfl, rfl, rfl, rfl, hC C (Nat.le_refl _), ⟨?_, hH.uniq, hH.im, ?_⟩, ⟨rfl, rfl, rfl, Nat.le_refl _, fun _ _ _ => rfl, fun _ h => h, fun _ _ _ h => h, fun _ _ h => h, hmono, fun _ h => .inl h⟩⟩
  · intro i o' ho'
    obtain ⟨m, hm⟩ := hH.obj i o' ho'
    refine ⟨m, ⟨hm.hm, hm.hver, hm.hsz, .inl hm.hk, ?_⟩⟩
    rcases hm.body with h | ⟨cur', fr', hb'⟩
    · exact .inl h
    · exact .inr ⟨cur', fr', ⟨hb'.hnil, hb'.hb, hb'.hfr, hb'.happ, hb'.hcs, hb'.hct, hb'.hlen, hb'.hr, fun i r j x v a b c => hmono _ _ (hb'.hv i r j x v a b c), hb'.h1, hb'.him, hb'.hnim⟩⟩
  · exact ⟨C + 1, fun k hk h => by rcases h with h | h; exact hC k (by omega) h; omega⟩
section
variable {P : Program} {n : NT} {S : AS} {o : Oper} {T : TypeId} {x y : Operand} {α : Type}
theorem ixP_get {l : List α} {i : Int} {v : α} {g : α → List AV} {id f w : Nat} (h : ix l i = some v) : (pad id f w ++ l.map g)[((f : Int) + i).toNat]? = some (g v) := by
  have h0 := ix_e h
  have e1 : ((f : Int) + i).toNat = f + i.toNat := by omega
  rw [e1, pad_ge (Nat.le_add_right ..), Nat.add_sub_cancel_left, List.getElem?_map, h0.2]; rfl
theorem yv_ixP {e : TypeId} {sz id ver off k w : Nat} {b : Bool} {kk : IntKind} {i : Int} {ob : AObj} {l : List α} {v : α} {g : α → List AV} (ho : o.op = .indexAddr T x y) (hT : P.underlying T = some (.slice e)) (he : tySh P e = some (sz, b))
    (hx : S.ev x = some (.sl id ver off k)) (hy : S.ev y = some (.sc (.int kk i))) (hob : S.hp id = some ob) (hver : ob.ver = ver) (hsz : ob.sz = sz) (hk : k = l.length) (hrl : ob.rows = pad id off w ++ l.map g) (h : ix l i = some v) : YieldV P o S (.pt id ver ((off : Int) + i).toNat 0) := by
  have hlt := ix_lt h
  have h0 := ix_e h
  have e1 : ((off : Int) + i).toNat = off + i.toNat := by omega
  have := IAd.sl (S := S) (sz := sz) (id := id) (ver := ver) (off := off) (len := k) (i := i.toNat) hob hver hsz (by omega) (by rw [hrl, List.length_append, pad_len, List.length_map]; omega)
  rw [e1]
  exact yv_indexAddr ho hT he hx hy (by omega) this
theorem yl_appP {e : TypeId} {by' : Nat} {zs : List Value} {id ver f w k : Nat} {ob : AObj} {p : AV} {g : α → List AV} {l m l' : List α}
    (ho : o.op = .call { callee := .builtin .append, args := #[x, y], argTypes := #[T, T] }) (hT : P.underlying T = some (.slice e)) (hz : bsz P e = some (1, zs)) (hby : bby P e = some by') (hb : Nat.ble by' 2048 = true)
    (hx : S.ev x = some (.sl id ver f k)) (hy : S.ev y = some p) (hob : S.hp id = some ob) (hver : ob.ver = ver) (hmt : ob.mt = true) (happ : ob.app = true) (hel : ob.elem = e) (hosz : ob.sz = 1) (hr : ob.rows = pad id f w ++ l.map g) (hk : k = l.length)
    (hcv : Cv S.hp p (lst 1 g m)) (h1 : ∀ a, allOne (g a) = true) (g1 : ∀ a, (g a).length = 1) (hl : l ++ m = l') (hfit : l'.length ≤ 68719476736) (hm1 : m ≠ []) :
    Yield P o S no any (fun z H' => ∃ ver' f' w', z = .sl id ver' f' l'.length ∧ H' = upd S.hp id (some ⟨e, 1, true, true, ver', pad id f' w' ++ l'.map g⟩)) := by
  subst hl hk
  intro s a next Q hH hops hF hn
  have hb' := Nat.le_of_ble_eq_true hb
  have hmul : (l ++ m).length * by' ≤ 68719476736 * 2048 := Nat.mul_le_mul hfit hb'
  obtain ⟨C, hC⟩ := hH.fin
  have hun := hC C (Nat.le_refl _)
  obtain ⟨i, hi, hsz, hzo, hzl, hpos, hzone⟩ := bsz_spec hz
  have hiz : ∃ z, i.zero = some z ∧ z.cells.toList = zs := by
    unfold zeroOf at hzo; rw [hi] at hzo
    simp only [Option.bind_some] at hzo
    cases hz : i.zero with
    | none => rw [hz] at hzo; cases hzo
    | some z => rw [hz] at hzo; exact ⟨z, rfl, by simpa using hzo⟩
  obtain ⟨z, hz1, hz2⟩ := hiz
  have hzc : z.cells.size = 1 := by rw [← Array.length_toList, hz2, hzl]
  have hib : i.bytes = by' := by unfold bby at hby; rw [hi] at hby; simpa using hby
  have hxv := hops x (by simp [ho, Op.operands, Call.operands]) _ hx
  have hyv := hcv s hH _ (hops y (by simp [ho, Op.operands, Call.operands]) _ hy)
  obtain ⟨mu, hm⟩ := hH.obj id ob hob
  have hms : mu.sz = 1 := hm.hsz.trans hosz
  generalize hux : a.eval x = ux at hxv
  generalize huy : a.eval y = uy at hyv
  have hll : (l ++ m).length = l.length + m.length := List.length_append
  have hm0 : 0 < m.length := by cases m with | nil => exact absurd rfl hm1 | cons a b => simp
  cases hxv with
  | sl hk0 hone hh =>
    have hh := hh mu hm.hm (hm.hver.trans hver)
    have run : ∀ {w' : World} {r : Value}, (Builtin.append_ #[T, T] o.type #[ux, uy]).run P s.w = .ok r w' → (execOp a.eval o).run P s.w = .ok (.value r) w' := fun h => by
      simp only [execOp, ho, resolve, invoke, builtin, List.map_toArray, List.map_cons, List.map_nil, Sem.run_bind, Sem.run_pure, Result.andThen_ok, hux, huy, h]
    rcases list_cells hpos hyv (one_map h1 m) with ⟨hy0, hnil⟩ | ⟨ad, cap, nv, hy0, hnl, hnc, hn1, hrl, hnv⟩
    · rw [List.map_eq_nil_iff] at hnil; exact absurd hnil hm1
    rw [List.length_map] at hnl hy0
    have hnl1 : nv.length = m.length := by omega
    have hnl' : nv.length = m.length * i.size := by rw [hnl, hsz]
    have fin : ∀ (q ct f' w' : Nat) (cur' : Array Value) (W : World) (cap' : Nat), W.os = s.w.os → W.tape = s.w.tape → W.output = s.w.output → s.w.heap.size ≤ W.heap.size →
        (∀ j, j < s.w.heap.size → j ≠ q → W.heap[j]? = s.w.heap[j]?) → W.heap[q]? = some (.cells cur' e (0, 0)) → (s.w.heap.size ≤ q ∨ ∃ o0 m0, S.hp id = some o0 ∧ o0.mt = true ∧ s.mu id = some m0 ∧ m0.nil = false ∧ m0.b = q) →
        cur'.size = ct → ct ≤ maxLen → (l ++ m).length ≤ cap' → f' + cap' ≤ ct →
        (∀ (i : Nat) (x : AV) (v : Value), i < f' → x = .sl id w' 0 0 → cur'[i]? = some v → VR s x v) →
        (∀ (i : Nat) (r : List AV) (x : AV) (v : Value), ((l ++ m).map g)[i]? = some r → r[0]? = some x → cur'[f' + i]? = some v → VR s x v) →
        (∀ (j : Nat) (v : Value), cur'[j]? = some v → v.oneCell' = true) →
        (Builtin.append_ #[T, T] o.type #[ux, uy]).run P s.w = .ok (.slice (some ⟨q, f', none⟩) (l ++ m).length cap') W → o.wp P a s.w next Q := by
      intro q ct f' w' cur' W cap' a1 a2 a3 a4 a5 a6 a7 a8 a9 a10 a11 a12 a13 a14 hrun
      have hone' : ∀ (i : Nat) (r : List AV), (pad id f' w' ++ (l ++ m).map g)[i]? = some r → r.length = 1 := fun i r hr => by
        by_cases hi : i < f'
        · rw [pad_lt hi] at hr; cases hr; rfl
        · rw [pad_ge (by omega), List.getElem?_map] at hr
          obtain ⟨b, _, rfl⟩ := Option.map_eq_some_iff.1 hr
          exact g1 b
      obtain ⟨s', g1', g2, g3, g4, g5⟩ := sit_re hH id ⟨e, 1, true, true, C, pad id f' w' ++ (l ++ m).map g⟩ q ct cur' W a1 a2 a3 a4 a5 a6 a7 hun rfl (by simpa using a8) a9
        (by show (pad id f' w' ++ (l ++ m).map g).length ≤ ct; rw [List.length_append, pad_len, List.length_map]; omega) hone'
        (fun i r j x v hr hj hv => by
          have hr1 := hone' i r hr
          have hj0 : j = 0 := by have := (List.getElem?_eq_some_iff.1 hj).1; omega
          subst hj0
          simp only [Nat.mul_one, Nat.add_zero] at hv
          by_cases hi : i < f'
          · simp only [pad_lt hi, Option.some.injEq] at hr; subst hr
            exact a12 i x v hi (by simpa using hj.symm) hv
          · simp only at hr
            rw [pad_ge (by omega)] at hr
            exact a13 (i - f') r x v hr hj (by rw [show f' + (i - f') = i by omega]; exact hv)) a14
      refine wp_val (w' := s'.w) (by rw [g1']; exact run hrun) (hn s' _ (.sl id C f' (l ++ m).length) _ ⟨C, f', w', rfl, rfl⟩ ?_ g4 g5 fun j hj => ?_)
      · refine .sl (by rw [g2]; exact .inr rfl) rfl fun m' hm' _ => ?_
        rw [g3] at hm'; cases hm'
        exact ⟨fun h => (by cases h), fun _ => ⟨cap', by simp, a10, a11⟩⟩
      · exact .inr trivial
    have hzcells : ∀ (q : Nat) (j : Nat) (v : Value), (Builtin.zeroCells z.cells q)[j]? = some v → v.oneCell' = true := fun q j v hv => by
      simp only [Builtin.zeroCells, Array.getElem?_map] at hv
      obtain ⟨jj, hjj, rfl⟩ := Option.map_eq_some_iff.1 hv
      have hm' : jj % z.cells.size < z.cells.size := Nat.mod_lt _ (by omega)
      rw [getElem!_pos z.cells _ hm']
      exact allOneV_get hzone (jj % z.cells.size) _ (by rw [← hz2, Array.getElem?_toList]; simp [hm'])
    have cells : ∀ (olds tail : List Value), olds.length = l.length → (∀ (i : Nat) (r : List AV) (x : AV) (v : Value), (l.map g)[i]? = some r → r[0]? = some x → olds[i]? = some v → VR s x v) →
        ∀ (i : Nat) (r : List AV) (x : AV) (v : Value), ((l ++ m).map g)[i]? = some r → r[0]? = some x → (olds ++ nv ++ tail)[i]? = some v → VR s x v := by
      intro olds tail ho1 ho2 i r x v hr hxx hv
      rw [List.map_append] at hr
      rcases rows_append hr with ⟨hi1, h⟩ | ⟨hi1, h⟩
      · rw [List.length_map] at hi1
        rw [List.append_assoc, List.getElem?_append_left (by omega)] at hv
        exact ho2 i r x v h hxx hv
      · rw [List.length_map] at hi1 h
        have hi2 := (List.getElem?_eq_some_iff.1 h).1
        rw [List.length_map] at hi2
        rw [List.append_assoc, List.getElem?_append_right (by omega), ho1, List.getElem?_append_left (by omega)] at hv
        exact hnv (i - l.length) r 0 x v h hxx (by rw [Nat.mul_one]; exact hv)
    rcases hm.body with ⟨hn', hr0⟩ | ⟨cur, fr, hb⟩
    · -- the nil slice
      obtain ⟨q1, q2⟩ := hh.1 hn'
      have hrun := run_append_nil (P := P) s.w T o.type e i z hT hi hz1 ad m.length cap nv hnl' hnc (by omega) (by omega) (by rw [hib]; rw [hll] at hmul; have : m.length * by' ≤ (l.length + m.length) * by' := Nat.mul_le_mul_right _ (by omega); omega)
      have hge := grownCap_ge s.w m.length 0 e
      have hl0 : l = [] := List.eq_nil_of_length_eq_zero q2
      subst hl0
      refine fin s.w.heap.size (grownCap s.w m.length 0 e) 0 0 _ (s.w.drew.alloc (.cells (nv.toArray ++ Builtin.zeroCells z.cells (grownCap s.w m.length 0 e - m.length)) e)) (grownCap s.w m.length 0 e) rfl rfl rfl (by simp) (fun j hj _ => alloc_old s.w.drew _ j hj) (alloc_new s.w.drew _) (.inl (Nat.le_refl _)) ?_ (grownCap_le_maxLen _ _ _ _ (by simp only [maxLen]; omega)) (by rw [hll]; simpa using hge) (by omega) (fun i x v h => by omega) ?_ ?_ (by rw [q1, hy0, hrun]; simp)
      · rw [Array.size_append, List.size_toArray, size_zeroCells, hzc]; omega
      · intro i r x v hr hxx hv
        rw [Nat.zero_add] at hv
        refine cells [] (Builtin.zeroCells z.cells (grownCap s.w m.length 0 e - m.length)).toList rfl (fun i r x v h => by simp at h) i r x v hr hxx ?_
        rw [← hv, ← Array.getElem?_toList]; simp
      · intro j v hv
        rw [← Array.getElem?_toList, Array.toList_append] at hv
        rcases rows_append hv with ⟨_, h⟩ | ⟨_, h⟩
        · exact hn1 v (List.mem_of_getElem? h)
        · exact hzcells _ _ v (by rw [← Array.getElem?_toList]; exact h)
    · obtain ⟨cp, q1, q2, q3⟩ := hh.2 hb.hnil
      rw [hms, Nat.mul_one] at q1
      have hcur : cur.size = mu.ct := by rw [hb.hcs, hosz, Nat.mul_one]
      have hheap : s.w.heap[mu.b]? = some (.cells cur e (0, 0)) := by rw [hb.hb, hb.happ happ, hel]
      have holdv : ∀ (i : Nat) (r : List AV) (x : AV) (v : Value), (l.map g)[i]? = some r → r[0]? = some x → cur[f + i]? = some v → VR s x v := fun i r x v h1' h2 h3 =>
        hb.hv (f + i) r 0 x v (by rw [hr, pad_ge (Nat.le_add_right ..), Nat.add_sub_cancel_left]; exact h1') h2 (by rw [hosz, Nat.mul_one, Nat.add_zero]; exact h3)
      by_cases hroom : l.length + m.length ≤ cp
      · obtain ⟨w', cur', r1, r2, r3, r4, r5, r6, r7, r8, r9⟩ := run_stores P mu.b (f + l.length) e (0, 0) nv 0 cur s.w hheap (by omega) (fun k _ h => by simp at h) (fun k v hv => hn1 v (List.mem_of_getElem? hv))
        have hfc := run_firstCells_some (P := P) s.w i.size m.length ad m.length cap nv hnl' hnc
        rw [hsz] at hfc
        have hrun : (Builtin.append_ #[T, T] o.type #[.slice (some ⟨mu.b, f, none⟩) l.length cp, .slice (some ad) m.length cap]).run P s.w = .ok (.slice (some ⟨mu.b, f, none⟩) (l.length + m.length) cp) w' := by
          simp [Builtin.append_, run_underlying hT, sizeOf, typeInfo, hi, Builtin.lenOf, hroom, hfc, addr_add, hsz, r1]
        simp only [Nat.add_zero] at r4
        refine fin mu.b mu.ct f w cur' w' cp r7 r8 r9 (by rw [r6]; exact Nat.le_refl _) (fun j _ hne => r5 j hne) r2 (.inr ⟨ob, mu, hob, hmt, hm.hm, hb.hnil, rfl⟩) (by rw [r3, hcur]) hb.hct (by rw [hll]; exact hroom) q3 ?_ ?_ ?_ (by rw [q1, hy0, hrun, hll])
        · intro i x v hi' hx' hv
          rw [r4, if_neg (by omega)] at hv
          exact hb.hv i _ 0 x v (by rw [hr]; exact pad_lt hi') (by rw [hx']; rfl) (by rw [hosz, Nat.mul_one, Nat.add_zero]; exact hv)
        · intro i r x v hr' hxx hv
          rw [r4] at hv
          rw [List.map_append] at hr'
          rcases rows_append hr' with ⟨hi1, h⟩ | ⟨hi1, h⟩
          · rw [List.length_map] at hi1
            rw [if_neg (by omega)] at hv
            exact holdv i r x v h hxx hv
          · rw [List.length_map] at hi1 h
            have hi2 := (List.getElem?_eq_some_iff.1 h).1
            rw [List.length_map] at hi2
            rw [if_pos (by omega), show f + i - (f + l.length) = i - l.length by omega] at hv
            exact hnv (i - l.length) r 0 x v h hxx (by rw [Nat.mul_one]; exact hv)
        · intro j v hv
          rw [r4] at hv
          split at hv
          · exact hn1 v (List.mem_of_getElem? hv)
          · exact hb.h1 j v hv
      · have hol : ((cur.toList.drop f).take l.length).length = l.length := by
          have h9 : cur.toList.length = cur.size := Array.length_toList
          rw [List.length_take, List.length_drop, h9]; omega
        have hrun := run_append_grow (P := P) s.w T o.type e i z hT hi hz1 ⟨mu.b, f, none⟩ l.length cp ((cur.toList.drop f).take l.length) (by rw [hsz, hol]; omega) (fun j v hv => by
            rw [addr_add, cell_of_cells hheap]
            have hlt : j < l.length := by have := (List.getElem?_eq_some_iff.1 hv).1; omega
            rw [List.getElem?_take_of_lt hlt, List.getElem?_drop, Array.getElem?_toList] at hv; exact hv)
          ad m.length cap nv hnl' hnc (by omega) (by omega) (growslice_fits (by omega) (by rw [hib]; rw [hll] at hmul; omega))
        have hge := grownCap_ge s.w (l.length + m.length) cp e
        refine fin s.w.heap.size (grownCap s.w (l.length + m.length) cp e) 0 0 _ (s.w.drew.alloc (.cells (((cur.toList.drop f).take l.length).toArray ++ nv.toArray ++ Builtin.zeroCells z.cells (grownCap s.w (l.length + m.length) cp e - (l.length + m.length))) e)) (grownCap s.w (l.length + m.length) cp e) rfl rfl rfl (by simp) (fun j hj _ => alloc_old s.w.drew _ j hj) (alloc_new s.w.drew _) (.inl (Nat.le_refl _)) ?_ (grownCap_le_maxLen _ _ _ _ (by simp only [maxLen]; omega)) (by rw [hll]; exact hge) (by omega) (fun i x v h => by omega) ?_ ?_ (by rw [q1, hy0, hrun, hll])
        · rw [Array.size_append, Array.size_append, List.size_toArray, List.size_toArray, size_zeroCells, hzc, hol]; omega
        · intro i r x v hr' hxx hv
          rw [Nat.zero_add] at hv
          refine cells ((cur.toList.drop f).take l.length) (Builtin.zeroCells z.cells (grownCap s.w (l.length + m.length) cp e - (l.length + m.length))).toList hol (fun i r x v h1' h2 h3 => ?_) i r x v hr' hxx ?_
          · have hlt : i < l.length := by have := (List.getElem?_eq_some_iff.1 h3).1; omega
            rw [List.getElem?_take_of_lt hlt, List.getElem?_drop, Array.getElem?_toList] at h3
            exact holdv i r x v h1' h2 h3
          · rw [← hv, ← Array.getElem?_toList]; simp
        · intro j v hv
          rw [← Array.getElem?_toList, Array.toList_append, Array.toList_append] at hv
          rcases rows_append hv with ⟨_, h⟩ | ⟨_, h⟩
          · rcases rows_append h with ⟨_, h⟩ | ⟨_, h⟩
            · have h : ((cur.toList.drop f).take l.length)[j]? = some v := h
              have hlt : j < l.length := by have := (List.getElem?_eq_some_iff.1 h).1; omega
              rw [List.getElem?_take_of_lt hlt, List.getElem?_drop, Array.getElem?_toList] at h
              exact hb.h1 _ v h
            · exact hn1 v (List.mem_of_getElem? h)
          · exact hzcells _ _ v (by rw [← Array.getElem?_toList]; exact h)
theorem yl_slP {e : TypeId} {id ver f w k i : Nat} {b : Bool} {lo : Option Operand} {ob : AObj} {g : α → List AV} {l l' : List α} (ho : o.op = .slice T x lo none none) (hT : P.underlying T = some (.slice e)) (he : tySh P e = some (1, b))
    (hx : S.ev x = some (.sl id ver f k)) (hob : S.hp id = some ob) (hver : ob.ver = ver) (hmt : ob.mt = true) (happ : ob.app = true) (hel : ob.elem = e) (hosz : ob.sz = 1) (hr : ob.rows = pad id f w ++ l.map g) (hk : k = l.length)
    (hlo : BdO S 0 lo i) (hi : i ≤ l.length) (g1 : ∀ a, (g a).length = 1) (hl : l.drop i = l') :
    Yield P o S no any (fun z H' => ∃ ver' f' w', z = .sl id ver' f' l'.length ∧ H' = upd S.hp id (some ⟨e, 1, true, true, ver', pad id f' w' ++ l'.map g⟩)) := by
  subst hl hk
  intro s a next Q hH hops hF hn
  obtain ⟨s1, D, w1, w2, w3, w4, w5, hH1, hF1⟩ := sit_waste hH
  obtain ⟨C, hC⟩ := hH1.fin
  have hun := hC C (Nat.le_refl _)
  have hv := hops x (by simp [ho, Op.operands]) _ hx
  generalize hu : a.eval x = u at hv
  have b1 := hlo.val (s := s) (ρ := a.eval) fun q hq av => hops q (by simp [ho, Op.operands, hq]) av
  have b2 : BdO S l.length none l.length := .no
  have b2 := b2.val (s := s) (ρ := a.eval) fun q hq av => by cases hq
  obtain ⟨mu, hm⟩ := hH.obj id ob hob
  obtain ⟨mu1, hm1⟩ := hH1.obj id ob hob
  have he1 : mu1 = mu := by have := hm1.hm; rw [w2, hm.hm] at this; exact (Option.some.inj this).symm
  subst he1
  have hms : mu1.sz = 1 := hm.hsz.trans hosz
  have hsub : (l.drop i).length = l.length - i := List.length_drop
  have hone' : ∀ (f' w' : Nat) (j : Nat) (r : List AV), (pad id f' w' ++ (l.drop i).map g)[j]? = some r → r.length = 1 := fun f' w' j r hr => by
    by_cases hj : j < f'
    · rw [pad_lt hj] at hr; cases hr; rfl
    · rw [pad_ge (by omega), List.getElem?_map] at hr
      obtain ⟨b, _, rfl⟩ := Option.map_eq_some_iff.1 hr
      exact g1 b
  cases hv with
  | sl hk0 h1 hh =>
    have hh := hh mu1 hm.hm (hm.hver.trans hver)
    cases hnl : mu1.nil with
    | true =>
      obtain ⟨q1, q2⟩ := hh.1 hnl
      have hl0 : l = [] := List.eq_nil_of_length_eq_zero q2
      subst hl0
      have hi0 : i = 0 := by simpa using hi
      subst hi0
      have hb := run_bounds (P := P) true 0 0 _ _ 0 0 s.w b1 b2 (Nat.le_refl _) (Nat.le_refl _)
      simp only [Option.map_none] at hb
      obtain ⟨s', g1', g2, g3, g4, g5⟩ := sit_nil hH1 id ⟨e, 1, true, true, C, pad id 0 0 ++ (([] : List α).drop 0).map g⟩ hun rfl (.inr ⟨mu1, hm1.hm, hnl⟩)
      refine wp_val (w' := s'.w) (v := .slice none 0 0) ?_ (hn s' _ (.sl id C 0 0) _ ⟨C, 0, 0, rfl, rfl⟩ ?_ g4 (hF1.trans g5) fun j hj => .inr trivial)
      · rw [g1', w1]
        simp only [execOp, ho, hu, q1, Instr.sliceAt, Instr.slice, Sem.run_bind, run_underlying hT, Result.andThen_ok, Option.map_none, List.length_nil, hb, run_sizeOf' he, Sem.run_pure, if_true]
      · refine .sl (by rw [g2]; exact .inr rfl) rfl fun m' hm' _ => ?_
        rw [g3] at hm'; cases hm'
        exact ⟨fun _ => ⟨rfl, rfl⟩, fun h => by cases h⟩
    | false =>
      obtain ⟨cap, q1, q2, q3⟩ := hh.2 hnl
      rw [hms, Nat.mul_one] at q1
      have hb := run_bounds (P := P) true l.length cap _ _ i l.length s.w b1 b2 hi q2
      simp only [Option.map_none] at hb
      rcases hm1.body with ⟨hn', _⟩ | ⟨cur, fr, hB⟩
      · rw [hnl] at hn'; cases hn'
      have hheap : s1.w.heap[mu1.b]? = some (.cells cur e (0, 0)) := by rw [hB.hb, hB.happ happ, hel]
      have hrl : ob.rows.length = f + l.length := by rw [hr, List.length_append, pad_len, List.length_map]
      have hlen := hB.hlen
      by_cases hci : cap = i
      · have hil : i = l.length := by omega
        have hd : l.drop i = [] := List.drop_eq_nil_of_le (by omega)
        obtain ⟨s', g1', g2, g3, g4, g5⟩ := sit_re hH1 id ⟨e, 1, true, true, C, pad id f w ++ (l.drop i).map g⟩ mu1.b mu1.ct cur s1.w rfl rfl rfl (Nat.le_refl _) (fun _ _ _ => rfl) hheap (.inr ⟨ob, mu1, hob, hmt, hm1.hm, hnl, rfl⟩) hun rfl (by rw [hB.hcs, hosz]) hB.hct
          (by simp only [hd, List.map_nil, List.append_nil, pad_len]; omega) (hone' f w)
          (fun j r t x v hr' hj hv => by
            have hr1 := hone' f w j r hr'
            simp only [hd, List.map_nil, List.append_nil] at hr'
            have hjf : j < f := by have := (List.getElem?_eq_some_iff.1 hr').1; rwa [pad_len] at this
            exact hB.hv j r t x v (by rw [hr, List.getElem?_append_left (by rw [pad_len]; exact hjf)]; exact hr') hj (by rw [hosz]; exact hv)) hB.h1
        refine wp_val (w' := s'.w) (v := .slice (some ⟨mu1.b, f, none⟩) 0 0) ?_ (hn s' _ (.sl id C f 0) _ ⟨C, f, w, by rw [hd]; rfl, rfl⟩ ?_ g4 (hF1.trans g5) fun j hj => .inr trivial)
        · rw [g1', w1]
          rw [hci] at hb
          simp only [execOp, ho, hu, q1, hci, Instr.sliceAt, Instr.slice, Sem.run_bind, run_underlying hT, Result.andThen_ok, Option.map_none, hb, run_sizeOf' he, Sem.run_pure, if_true, Nat.sub_self]
          rw [show l.length - i = 0 by omega]
        · refine .sl (by rw [g2]; exact .inr rfl) rfl fun m' hm' _ => ?_
          rw [g3] at hm'; cases hm'
          exact ⟨fun h => (by cases h), fun _ => ⟨0, by simp, Nat.le_refl _, by show f + 0 ≤ mu1.ct; omega⟩⟩
      · obtain ⟨s', g1', g2, g3, g4, g5⟩ := sit_re hH1 id ⟨e, 1, true, true, C, pad id (f + i) D ++ (l.drop i).map g⟩ mu1.b mu1.ct cur s1.w rfl rfl rfl (Nat.le_refl _) (fun _ _ _ => rfl) hheap (.inr ⟨ob, mu1, hob, hmt, hm1.hm, hnl, rfl⟩) hun rfl (by rw [hB.hcs, hosz]) hB.hct
          (by simp only [List.length_append, pad_len, List.length_map, hsub]; omega) (hone' (f + i) D)
          (fun j r t x v hr' hj hv => by
            have hr1 := hone' (f + i) D j r hr'
            have ht : t = 0 := by have := (List.getElem?_eq_some_iff.1 hj).1; omega
            subst ht
            by_cases hjf : j < f + i
            · simp only [pad_lt hjf, Option.some.injEq] at hr'
              subst hr'
              have hx' : x = .sl id D 0 0 := by simpa using hj.symm
              subst hx'
              refine .sl (by rw [w4]; exact .inr rfl) (hB.h1 _ v hv) fun m' hm' hv' => ?_
              have : m' = mu1 := by rw [hm1.hm] at hm'; exact (Option.some.inj hm').symm
              subst this
              exact absurd (by rw [← hv', hm.hver]; exact hm.hk) w5
            · simp only at hr'
              rw [pad_ge (by omega), List.getElem?_map, List.getElem?_drop] at hr'
              refine hB.hv j r 0 x v ?_ hj (by rw [hosz]; exact hv)
              rw [hr, pad_ge (by omega), List.getElem?_map, show j - f = i + (j - (f + i)) by omega]; exact hr') hB.h1
        refine wp_val (w' := s'.w) (v := .slice (some ⟨mu1.b, f + i, none⟩) (l.length - i) (cap - i)) ?_ (hn s' _ (.sl id C (f + i) (l.drop i).length) _ ⟨C, f + i, D, rfl, rfl⟩ ?_ g4 (hF1.trans g5) fun j hj => .inr trivial)
        · rw [g1', w1]
          simp only [execOp, ho, hu, q1, Instr.sliceAt, Instr.slice, Sem.run_bind, run_underlying hT, Result.andThen_ok, Option.map_none, hb, run_sizeOf' he, Sem.run_pure, Option.map_some, addr_add, if_neg hci, Nat.mul_one]
        · refine .sl (by rw [g2]; exact .inr rfl) rfl fun m' hm' _ => ?_
          rw [g3] at hm'; cases hm'
          exact ⟨fun h => (by cases h), fun _ => ⟨cap - i, by rw [hsub]; simp, by rw [hsub]; omega, by show f + i + (cap - i) ≤ mu1.ct; omega⟩⟩
end
end Go.Pv
