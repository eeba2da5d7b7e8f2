/- The abstract layer, part 4: operations that make or write objects of the call's own. -/
import Derived.Test.YtiamgfjojjjggaaGreatPvC
set_option linter.unusedSimpArgs false
set_option linter.unusedVariables false
namespace Go.Pv
section
variable {P : Program} {n : NT} {S : AS}
theorem alloc_old (w : World) (o : Obj) (k : Nat) (h : k < w.heap.size) : (w.alloc o).heap[k]? = w.heap[k]? := by
  show (w.heap.push o)[k]? = _
  rw [Array.getElem?_push_lt h, Array.getElem?_eq_getElem h]
theorem alloc_new (w : World) (o : Obj) : (w.alloc o).heap[w.heap.size]? = some o := by
  show (w.heap.push o)[w.heap.size]? = _
  simp
theorem sit_refr {fr0 : Nat × Nat} {s : Sit} {H : AH} (hH : HR s H) (id : Nat) (o : AObj) (g ct : Nat) (cur : Array Value) (w' : World)
    (hos : w'.os = s.w.os) (htape : w'.tape = s.w.tape) (hout : w'.output = s.w.output) (hsize : s.w.heap.size ≤ w'.heap.size)
    (hkeep : ∀ k, k < s.w.heap.size → k ≠ g → w'.heap[k]? = s.w.heap[k]?)
    (hb : w'.heap[g]? = some (.cells cur o.elem fr0)) (hfr0 : ∀ k, k < cur.size → ¬ (fr0.1 ≤ k ∧ k < fr0.2)) (happ0 : o.app = true → fr0 = (0, 0))
    (hg : s.w.heap.size ≤ g ∨ ∃ o0 m0, H id = some o0 ∧ o0.mt = true ∧ s.mu id = some m0 ∧ m0.nil = false ∧ m0.b = g)
    (hver : ¬ s.used o.ver) (hmt : o.mt = true) (hcs : cur.size = ct * o.sz) (hct : ct ≤ maxLen) (hlen : o.rows.length ≤ ct)
    (hr : ∀ (i : Nat) (r : List AV), o.rows[i]? = some r → r.length = o.sz)
    (hv : ∀ (i : Nat) (r : List AV) (j : Nat) (x : AV) (v : Value), o.rows[i]? = some r → r[j]? = some x → cur[i * o.sz + j]? = some v → VR s x v)
    (h1 : ∀ (k : Nat) (v : Value), cur[k]? = some v → v.oneCell' = true) :
    ∃ s' : Sit, s'.w = w' ∧ s'.used = (fun k => s.used k ∨ k = o.ver) ∧ s'.mu id = some ⟨false, g, o.sz, ct, o.ver⟩ ∧ HR s' (upd H id (some o)) ∧ Fr s H s' (upd H id (some o)) := by
  have hnim : ¬ s.Im g := by
    intro hi
    rcases hg with h | ⟨o0, m0, h1, h2, h3, h4, h5⟩
    · have := hH.im g hi; omega
    · obtain ⟨m, hm⟩ := hH.obj id o0 h1
      have := hm.hm; rw [h3] at this; cases this
      rcases hm.body with ⟨hn, _⟩ | ⟨cur, fr, hb⟩
      · rw [h4] at hn; cases hn
      · exact hb.hnim h2 (by rw [h5]; exact hi)
  have hsame : ∀ b, s.Im b → w'.heap[b]? = s.w.heap[b]? := fun b hi => hkeep b (hH.im b hi) (fun e => hnim (e ▸ hi))
  let s' : Sit := { w := w', Im := s.Im, mu := upd s.mu id (some ⟨false, g, o.sz, ct, o.ver⟩), used := fun k => s.used k ∨ k = o.ver }
  have hmono : ∀ x v, VR s x v → VR s' x v := fun x v h => VR.mono (s := s) (s' := s') (fun b hi => ⟨hi, hsame b hi⟩) (fun i m' hm' => by
    by_cases hi : i = id
    · subst hi
      simp only [s', upd_same, Option.some.injEq] at hm'
      subst hm'; exact .inr hver
    · simp only [s', upd_ne _ _ hi] at hm'; exact .inl hm') (fun _ h => .inl h) h
  have hother : ∀ i o' m, i ≠ id → H i = some o' → s.mu i = some m → m.nil = false → m.b < s.w.heap.size ∧ m.b ≠ g := by
    intro i o' m hi ho' hm hn
    obtain ⟨m1, hm1⟩ := hH.obj i o' ho'
    have := hm1.hm; rw [hm] at this; cases this
    rcases hm1.body with ⟨hn', _⟩ | ⟨cur', fr', hb'⟩
    · rw [hn] at hn'; cases hn'
    · have hlt : m.b < s.w.heap.size := (Array.getElem?_eq_some_iff.1 hb'.hb).1
      refine ⟨hlt, fun e => ?_⟩
      rcases hg with h | ⟨o0, m0, g1, _, g3, g4, g5⟩
      · omega
      · exact hi (hH.uniq i id o' o0 m m0 ho' g1 hm g3 hn g4 (by rw [e, g5]))
  refine ⟨s', rfl, rfl, by simp [s', upd_same], ⟨?_, ?_, ?_, ?_⟩, ⟨hos, htape, hout, hsize, ?_, fun _ h => h, fun _ _ _ h => h, ?_, hmono, fun _ h => .inl h⟩⟩
  · intro i o' ho'
    by_cases hi : i = id
    · subst hi
      rw [upd_same] at ho'; cases ho'
      refine ⟨⟨false, g, o.sz, ct, o.ver⟩, ⟨upd_same _ _ _, rfl, rfl, .inr rfl, .inr ⟨cur, fr0, ?_⟩⟩⟩
      exact ⟨rfl, hb, hfr0, happ0, hcs, hct, hlen, hr, fun i r j x v a b c => hmono _ _ (hv i r j x v a b c), h1, fun h => (by rw [hmt] at h; cases h), fun _ => hnim⟩
    · rw [upd_ne _ _ hi] at ho'
      obtain ⟨m, hm⟩ := hH.obj i o' ho'
      refine ⟨m, ⟨by simp only [s', upd_ne _ _ hi]; exact hm.hm, hm.hver, hm.hsz, .inl hm.hk, ?_⟩⟩
      rcases hm.body with h | ⟨cur', fr', hb'⟩
      · exact .inl h
      · obtain ⟨q1, q2⟩ := hother i o' m hi ho' hm.hm hb'.hnil
        exact .inr ⟨cur', fr', ⟨hb'.hnil, (hkeep m.b q1 q2).trans hb'.hb, hb'.hfr, hb'.happ, hb'.hcs, hb'.hct, hb'.hlen, hb'.hr, fun i r j x v a b c => hmono _ _ (hb'.hv i r j x v a b c), hb'.h1, hb'.him, hb'.hnim⟩⟩
  · intro i i' o1 o2 m m' h1' h2' hm hm' hn hn' he
    by_cases hi : i = id
    · by_cases hi' : i' = id
      · rw [hi, hi']
      · subst hi
        simp only [s', upd_same, Option.some.injEq] at hm
        rw [upd_ne _ _ hi'] at h2'
        simp only [s', upd_ne _ _ hi'] at hm'
        subst hm
        exact absurd he.symm (hother i' o2 m' hi' h2' hm' hn').2
    · rw [upd_ne _ _ hi] at h1'
      simp only [s', upd_ne _ _ hi] at hm
      by_cases hi' : i' = id
      · subst hi'
        simp only [s', upd_same, Option.some.injEq] at hm'
        subst hm'
        exact absurd he (hother i o1 m hi h1' hm hn).2
      · rw [upd_ne _ _ hi'] at h2'
        simp only [s', upd_ne _ _ hi'] at hm'
        exact hH.uniq i i' o1 o2 m m' h1' h2' hm hm' hn hn' he
  · intro b hb'
    exact Nat.lt_of_lt_of_le (hH.im b hb') hsize
  · obtain ⟨C, hC⟩ := hH.fin
    exact ⟨max C (o.ver + 1), fun k hk h => by rcases h with h | h; exact hC k (by omega) h; omega⟩
  · intro b hb' ho
    refine hkeep b hb' fun e => ho ?_
    rcases hg with h | ⟨o0, m0, g1, g2, g3, g4, g5⟩
    · omega
    · exact ⟨id, o0, m0, g1, g2, g3, g4, by rw [g5, e]⟩
  · rintro b hb' ⟨i, o', m, q1, q2, q3, q4, q5⟩
    by_cases hi : i = id
    · subst hi
      simp only [s', upd_same, Option.some.injEq] at q3
      subst q3
      simp only at q5; subst q5
      rcases hg with h | ⟨o0, m0, g1, g2, g3, g4, g5⟩
      · omega
      · exact ⟨i, o0, m0, g1, g2, g3, g4, g5⟩
    · rw [upd_ne _ _ hi] at q1
      simp only [s', upd_ne _ _ hi] at q3
      exact ⟨i, o', m, q1, q2, q3, q4, q5⟩
theorem sit_re {s : Sit} {H : AH} (hH : HR s H) (id : Nat) (o : AObj) (g ct : Nat) (cur : Array Value) (w' : World)
    (hos : w'.os = s.w.os) (htape : w'.tape = s.w.tape) (hout : w'.output = s.w.output) (hsize : s.w.heap.size ≤ w'.heap.size)
    (hkeep : ∀ k, k < s.w.heap.size → k ≠ g → w'.heap[k]? = s.w.heap[k]?)
    (hb : w'.heap[g]? = some (.cells cur o.elem (0, 0)))
    (hg : s.w.heap.size ≤ g ∨ ∃ o0 m0, H id = some o0 ∧ o0.mt = true ∧ s.mu id = some m0 ∧ m0.nil = false ∧ m0.b = g)
    (hver : ¬ s.used o.ver) (hmt : o.mt = true) (hcs : cur.size = ct * o.sz) (hct : ct ≤ maxLen) (hlen : o.rows.length ≤ ct)
    (hr : ∀ (i : Nat) (r : List AV), o.rows[i]? = some r → r.length = o.sz)
    (hv : ∀ (i : Nat) (r : List AV) (j : Nat) (x : AV) (v : Value), o.rows[i]? = some r → r[j]? = some x → cur[i * o.sz + j]? = some v → VR s x v)
    (h1 : ∀ (k : Nat) (v : Value), cur[k]? = some v → v.oneCell' = true) :
    ∃ s' : Sit, s'.w = w' ∧ s'.used = (fun k => s.used k ∨ k = o.ver) ∧ s'.mu id = some ⟨false, g, o.sz, ct, o.ver⟩ ∧ HR s' (upd H id (some o)) ∧ Fr s H s' (upd H id (some o)) :=
  sit_refr (fr0 := (0, 0)) hH id o g ct cur w' hos htape hout hsize hkeep hb (fun k _ h => by simp at h) (fun _ => rfl) hg hver hmt hcs hct hlen hr hv h1
theorem sit_set {s : Sit} {H : AH} (hH : HR s H) (id : Nat) (o : AObj) (m : Mu) (cur cur' : Array Value) (fr : Nat × Nat) (rows : List (List AV)) (w' : World)
    (ho : H id = some o) (hm : s.mu id = some m) (hB : ObjB s o m cur fr) (hmt : o.mt = true)
    (hos : w'.os = s.w.os) (htape : w'.tape = s.w.tape) (hout : w'.output = s.w.output) (hsize : w'.heap.size = s.w.heap.size)
    (hkeep : ∀ k, k ≠ m.b → w'.heap[k]? = s.w.heap[k]?) (hb : w'.heap[m.b]? = some (.cells cur' o.elem fr)) (hcs : cur'.size = cur.size)
    (hlen : rows.length ≤ m.ct) (hr : ∀ (i : Nat) (r : List AV), rows[i]? = some r → r.length = o.sz)
    (hv : ∀ (i : Nat) (r : List AV) (j : Nat) (x : AV) (v : Value), rows[i]? = some r → r[j]? = some x → cur'[i * o.sz + j]? = some v → VR s x v)
    (h1 : ∀ (k : Nat) (v : Value), cur'[k]? = some v → v.oneCell' = true) :
    ∃ s' : Sit, s'.w = w' ∧ s'.used = s.used ∧ HR s' (upd H id (some { o with rows := rows })) ∧ Fr s H s' (upd H id (some { o with rows := rows })) := by
  let s' : Sit := { s with w := w' }
  have hnim := hB.hnim hmt
  have hsame : ∀ b, s.Im b → w'.heap[b]? = s.w.heap[b]? := fun b hi => hkeep b (fun e => hnim (e ▸ hi))
  have hmono : ∀ x v, VR s x v → VR s' x v := fun x v h => VR.mono (s := s) (s' := s') (fun b hi => ⟨hi, hsame b hi⟩) (fun i m' hm' => .inl hm') (fun _ h => h) h
  obtain ⟨m1, hm1⟩ := hH.obj id o ho
  have := hm1.hm; rw [hm] at this; cases this
  refine ⟨s', rfl, rfl, ⟨?_, ?_, ?_, hH.fin⟩, ⟨hos, htape, hout, by simp [s', hsize], ?_, fun _ h => h, fun _ _ _ h => h, ?_, hmono, fun _ h => h⟩⟩
  · intro i o' ho'
    by_cases hi : i = id
    · subst hi
      rw [upd_same] at ho'; cases ho'
      refine ⟨m, ⟨hm, hm1.hver, hm1.hsz, hm1.hk, .inr ⟨cur', fr, ?_⟩⟩⟩
      exact ⟨hB.hnil, hb, fun k hk => hB.hfr k (by rw [← hcs]; exact hk), hB.happ, hcs.trans hB.hcs, hB.hct, hlen, hr, fun i r j x v a b c => hmono _ _ (hv i r j x v a b c), h1, hB.him, hB.hnim⟩
    · rw [upd_ne _ _ hi] at ho'
      obtain ⟨m2, hm2⟩ := hH.obj i o' ho'
      refine ⟨m2, ⟨hm2.hm, hm2.hver, hm2.hsz, hm2.hk, ?_⟩⟩
      rcases hm2.body with h | ⟨cur2, fr2, hb2⟩
      · exact .inl h
      · have hne : m2.b ≠ m.b := fun e => hi (hH.uniq i id o' o m2 m ho' ho hm2.hm hm hb2.hnil hB.hnil e)
        exact .inr ⟨cur2, fr2, ⟨hb2.hnil, (hkeep m2.b hne).trans hb2.hb, hb2.hfr, hb2.happ, hb2.hcs, hb2.hct, hb2.hlen, hb2.hr, fun i r j x v a b c => hmono _ _ (hb2.hv i r j x v a b c), hb2.h1, hb2.him, hb2.hnim⟩⟩
  · have conv : ∀ i o', upd H id (some { o with rows := rows }) i = some o' → ∃ o'', H i = some o'' := by
      intro i o' h
      by_cases hi : i = id
      · subst hi; exact ⟨o, ho⟩
      · rw [upd_ne _ _ hi] at h; exact ⟨o', h⟩
    intro i i' o1 o2 m1 m2 g1 g2 q1 q2 n1 n2 e
    obtain ⟨o1', g1'⟩ := conv i o1 g1
    obtain ⟨o2', g2'⟩ := conv i' o2 g2
    exact hH.uniq i i' o1' o2' m1 m2 g1' g2' q1 q2 n1 n2 e
  · intro b hb'
    have := hH.im b hb'
    simp only [s', hsize]; exact this
  · intro b hb' hno
    exact hkeep b fun e => hno ⟨id, o, m, ho, hmt, hm, hB.hnil, e.symm⟩
  · rintro b hb' ⟨i, o', m', q1, q2, q3, q4, q5⟩
    by_cases hi : i = id
    · subst hi
      rw [upd_same] at q1; cases q1
      exact ⟨i, o, m', ho, q2, q3, q4, q5⟩
    · rw [upd_ne _ _ hi] at q1
      exact ⟨i, o', m', q1, q2, q3, q4, q5⟩
def AV.one : AV → Bool
  | .sc v => v.oneCell'
  | .agg _ => false
  | .tup _ => false
  | _ => true
theorem VR.one {s : Sit} {x : AV} {v : Value} (h : VR s x v) (h1 : x.one = true) : v.oneCell' = true := by
  cases h <;> first | exact h1 | rfl | assumption | cases h1
def AV.cells : AV → List AV
  | .agg cs => cs
  | x => [x]
def allOne : List AV → Bool
  | [] => true
  | x :: r => x.one && allOne r
theorem allOne_get : ∀ {l : List AV} (_ : allOne l = true) (i : Nat) (x : AV), l[i]? = some x → x.one = true
  | [], _, i, x, h => by simp at h
  | y :: r, hl, i, x, h => by
    simp only [allOne, Bool.and_eq_true] at hl
    cases i with
    | zero => simp at h; subst h; exact hl.1
    | succ i => exact allOne_get hl.2 i x (by simpa using h)
theorem VR.cells {s : Sit} {x : AV} {v : Value} (h : VR s x v) (h1 : allOne x.cells = true) :
    v.cells.size = x.cells.length ∧ (∀ (i : Nat) (y : AV) (u : Value), x.cells[i]? = some y → v.cells[i]? = some u → VR s y u) ∧ ∀ (i : Nat) (u : Value), v.cells[i]? = some u → u.oneCell' = true := by
  have one : ∀ (hx : x.cells = [x]) (hv : v.cells = #[v]), v.cells.size = x.cells.length ∧ (∀ (i : Nat) (y : AV) (u : Value), x.cells[i]? = some y → v.cells[i]? = some u → VR s y u) ∧ ∀ (i : Nat) (u : Value), v.cells[i]? = some u → u.oneCell' = true := by
    intro hx hv
    rw [hx] at h1 ⊢
    rw [hv]
    refine ⟨rfl, fun i y u h2 h3 => ?_, fun i u h3 => ?_⟩
    · cases i with
      | zero => simp at h2 h3; subst h2 h3; exact h
      | succ i => simp at h2
    · cases i with
      | zero => simp at h3; subst h3; exact h.one (by simpa [allOne] using h1)
      | succ i => simp at h3
  cases x with
  | agg cs =>
    cases h with
    | agg hl hv =>
      rename_i vs
      refine ⟨hl.symm, hv, fun i u hu => ?_⟩
      have hi : i < cs.length := by rw [hl]; exact (Array.getElem?_eq_some_iff.1 hu).1
      exact (hv i cs[i] u (by simp [hi]) hu).one (allOne_get h1 i _ (by simp [AV.cells, hi]))
  | sc u =>
    have := h.sc_inv; subst this
    refine one rfl ?_
    cases v <;> first | rfl | (simp [AV.cells, allOne, AV.one, Value.oneCell'] at h1)
  | list sz xs => exact one rfl (by cases h <;> rfl)
  | pp cs => exact one rfl (by cases h; rfl)
  | pt id ver row off => exact one rfl (by have := h.one rfl; cases v <;> first | rfl | (simp [Value.oneCell'] at this))
  | sl id ver off len => exact one rfl (by have := h.one rfl; cases v <;> first | rfl | (simp [Value.oneCell'] at this))
  | fn f a c => exact one rfl (by cases h; rfl)
  | ifc t x => exact one rfl (by cases h; rfl)
  | mp ks xs => exact one rfl (by cases h; rfl)
  | tup cs => simp [AV.cells, allOne, AV.one] at h1
section ops
variable {o : Oper} {T : TypeId} {x y : Operand}
def zeroOf (P : Program) (T : TypeId) : Option (List Value) := ((P.info? T).bind (·.zero)).map (·.cells.toList)
theorem run_zeroValue' {zs : List Value} (h : zeroOf P T = some zs) (w : World) : ∃ z, z.cells.toList = zs ∧ (zeroValue T).run P w = .ok z w := by
  unfold zeroOf at h
  cases hi : P.info? T with
  | none => rw [hi] at h; simp at h
  | some i =>
    rw [hi] at h
    simp only [Option.bind_some] at h
    cases hz : i.zero with
    | none => rw [hz] at h; simp at h
    | some z =>
      rw [hz] at h
      simp only [Option.map_some, Option.some.injEq] at h
      exact ⟨z, h, by simp [zeroValue, typeInfo, program, Sem.run, hi, hz]⟩
def allOneV : List Value → Bool
  | [] => true
  | x :: r => x.oneCell' && allOneV r
theorem allOneV_get : ∀ {l : List Value} (_ : allOneV l = true) (i : Nat) (x : Value), l[i]? = some x → x.oneCell' = true
  | [], _, i, x, h => by simp at h
  | y :: r, hl, i, x, h => by
    simp only [allOneV, Bool.and_eq_true] at hl
    cases i with
    | zero => simp at h; subst h; exact hl.1
    | succ i => exact allOneV_get hl.2 i x (by simpa using h)
def Pick (F U : Nat → Prop) (V : Nat → Prop) : Prop := (F = no ∧ U = any ∧ V = any) ∨ ∃ v, F = (· = v) ∧ U = (· = v) ∧ V = (· = v)
theorem Pick.any : Pick no any any := .inl ⟨rfl, rfl, rfl⟩
theorem Pick.one (v : Nat) : Pick (· = v) (· = v) (· = v) := .inr ⟨v, rfl, rfl, rfl⟩
theorem Pick.get {F U V : Nat → Prop} (h : Pick F U V) {s : Sit} {H : AH} (hH : HR s H) (hF : ∀ k, F k → ¬ s.used k) : ∃ v, V v ∧ U v ∧ ¬ s.used v := by
  rcases h with ⟨rfl, rfl, rfl⟩ | ⟨v, rfl, rfl, rfl⟩
  · obtain ⟨C, hC⟩ := hH.fin
    exact ⟨C, trivial, trivial, hC C (Nat.le_refl _)⟩
  · exact ⟨v, rfl, rfl, hF v rfl⟩
theorem yl_alloc {zs : List Value} {F U V : Nat → Prop} (id : Nat) (hp : Pick F U V) (ho : o.op = .alloc T) (hz : zeroOf P T = some zs) (h1 : allOneV zs = true) :
    Yield P o S F U (fun y H' => ∃ ver, V ver ∧ y = .pt id ver 0 0 ∧ H' = upd S.hp id (some ⟨T, zs.length, true, true, ver, [zs.map .sc]⟩)) := by
  intro s a next Q hH hops hF hn
  obtain ⟨ver, hV, hU, hun⟩ := hp.get hH hF
  obtain ⟨z, hz1, hz2⟩ := run_zeroValue' hz s.w
  have hzs : z.cells.size = zs.length := by rw [← hz1]; simp
  obtain ⟨s', g1, g2, g3, g4, g5⟩ := sit_re hH id ⟨T, zs.length, true, true, ver, [zs.map .sc]⟩ s.w.heap.size 1 z.cells (s.w.alloc (.cells z.cells T)) rfl rfl rfl (by simp)
    (fun k hk _ => alloc_old s.w _ k hk) (alloc_new s.w _) (.inl (Nat.le_refl _)) hun rfl (by simp [hzs]) (by simp [maxLen]) (by simp)
    (fun i r hr => by cases i with | zero => simp at hr; subst hr; simp | succ i => simp at hr)
    (fun i r j x v hr hx hv => by
      cases i with
      | succ i => simp at hr
      | zero =>
        simp at hr; subst hr
        rw [Nat.zero_mul, Nat.zero_add, ← Array.getElem?_toList, hz1] at hv
        rw [List.getElem?_map, hv] at hx
        simp at hx; subst hx; exact .sc _)
    (fun k v hv => allOneV_get h1 k v (by rw [← hz1, Array.getElem?_toList]; exact hv))
  refine wp_val (w' := s'.w) (v := .pointer (some ⟨s.w.heap.size, 0, none⟩)) ?_ (hn s' _ (.pt id ver 0 0) _ ⟨ver, hV, rfl, rfl⟩ ?_ g4 g5 ?_)
  · rw [g1]
    simp only [execOp, ho, Instr.alloc, Sem.run_bind, hz2, Result.andThen_ok, newVar, newRow, newObj, Sem.run, Sem.run_pure]
    rfl
  · refine .pt (by rw [g2]; exact .inr rfl) rfl fun m hm _ _ => ?_
    rw [g3] at hm; cases hm; simp
  · intro k hk; rw [g2] at hk; rcases hk with h | h; exact .inl h; exact .inr (h ▸ hU)
end ops
end
end Go.Pv
