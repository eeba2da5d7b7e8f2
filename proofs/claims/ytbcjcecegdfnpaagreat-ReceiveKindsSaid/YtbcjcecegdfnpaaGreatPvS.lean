/- Calls that make one object. -/
import Derived.Test.YtbcjcecegdfnpaaGreatPvR
import Derived.Lib.ConvBytes
set_option linter.unusedSimpArgs false
set_option linter.unusedVariables false
namespace Go.Pv
theorem VR.less2 {s s2 : Sit} {V : Nat} (hw : s2.w = s.w) (hI : s2.Im = s.Im) (hm : ∀ i m, s2.mu i = some m → m.ver ≠ V → s.mu i = some m) {x : AV} {v : Value} (h : VR s x v) : (∀ k, Has x k → s2.used k ∧ k ≠ V) → VR s2 x v := by
  induction h with
  | sc v => intro _; exact .sc v
  | nil sz => intro _; exact .nil sz
  | emp sz a => intro _; exact .emp sz a
  | list f hI' hc hm' hr hf _ ih => intro hk; exact .list f (by rw [hI]; exact hI') hc hm' hr (fun i r j x a b => by rw [hw]; exact hf i r j x a b) (fun i r j x a b => ih i r j x a b fun k hh => hk k (.list a b hh))
  | pp f hI' hf _ ih => intro hk; exact .pp f (by rw [hI]; exact hI') (fun j x a => by rw [hw]; exact hf j x a) (fun j x a => ih j x a fun k hh => hk k (.pp a hh))
  | pt hk' h1 h => intro hk; exact .pt (hk _ .pt).1 h1 (fun m a b => h m (hm _ m a (by rw [b]; exact (hk _ .pt).2)) b)
  | sl hk' h1 h => intro hk; exact .sl (hk _ .sl).1 h1 (fun m a b => h m (hm _ m a (by rw [b]; exact (hk _ .sl).2)) b)
  | agg hl _ ih => intro hk; exact .agg hl fun i x v a b => ih i x v a b fun k hh => hk k (.agg a hh)
  | fn hl hl' _ _ ih ih' => intro hk; exact .fn hl hl' (fun i x v a b => ih i x v a b fun k hh => hk k (.fn1 a hh)) (fun i x v a b => ih' i x v a b fun k hh => hk k (.fn2 a hh))
  | ifc _ ih => intro hk; exact .ifc (ih fun k hh => hk k (.ifc hh))
  | tup hl _ ih => intro hk; exact .tup hl fun i x v a b => ih i x v a b fun k hh => hk k (.tup a hh)

/-- A call that makes one object, plain values in it, and hands back where it is: the object's version may be named. -/
theorem yl_callN {P : Program} {S : AS} {o : Oper} {fo : Operand} {as : List Operand} {ts : Array TypeId} {k : FuncId} {first cap vs : List AV} {id V : Nat} {ob : Nat → AObj} (ho : o.op = .call { callee := .value fo, args := as.toArray, argTypes := ts })
    (hf : S.ev fo = some (.fn (.func k) first cap)) (ha : EvL S as vs) (hc : cal P k = true) (hp : PC P k (first ++ vs ++ cap) S.hp (fun y H' => ∃ ver, y = .pt id ver 0 0 ∧ H' = upd S.hp id (some (ob ver))))
    (hver : ∀ v, (ob v).ver = v) (hsame : ∀ v, (ob v) = { ob V with ver := v }) (hpv : ∀ (i : Nat) (r : List AV) (j : Nat) (x : AV), (ob V).rows[i]? = some r → r[j]? = some x → PV x) :
    Yield P o S (· = V) (· = V) (fun y H' => y = .pt id V 0 0 ∧ H' = upd S.hp id (some (ob V))) := by
  intro s a next Q hH hops hV hn
  have hV : ¬ s.used V := hV V rfl
  obtain ⟨us, h1, h2⟩ := run_call (P := P) ho hf ha hc hops
  unfold Oper.wp
  rw [h2]
  refine (hp s us hH h1).mono ?_
  rintro e w' ⟨y, H', s', v, ⟨ver, rfl, rfl⟩, rfl, rfl, q4, q5, q6⟩
  let s2 : Sit := { w := s'.w, Im := s'.Im, mu := fun i => if i = id then (s'.mu i).map (fun m => { m with ver := V }) else s'.mu i, used := fun k => s.used k ∨ k = V }
  have hm2 : ∀ i m, s2.mu i = some m → m.ver ≠ V → s'.mu i = some m := by
    intro i m h hne
    simp only [s2] at h
    by_cases hi : i = id
    · rw [if_pos hi] at h
      cases hg : s'.mu i with
      | none => rw [hg] at h; cases h
      | some m' => rw [hg] at h; simp at h; subst h; exact absurd rfl hne
    · rw [if_neg hi] at h; exact h
  have hless : ∀ x u, VR s' x u → (∀ k, Has x k → s.used k) → VR s2 x u := fun x u h hk => VR.less2 (s := s') (s2 := s2) (V := V) rfl rfl hm2 h fun k hh => ⟨.inl (hk k hh), fun e => hV (e ▸ hk k hh)⟩
  obtain ⟨mi, hmi⟩ := q5.obj id (ob ver) (upd_same _ _ _)
  have hmu : s2.mu id = some { mi with ver := V } := by simp only [s2, if_true]; rw [hmi.hm]; rfl
  have hmo : ∀ i, i ≠ id → s2.mu i = s'.mu i := fun i hi => by simp only [s2]; rw [if_neg hi]
  have hob : ob ver = { ob V with ver := ver } := hsame ver
  have hmb : ∀ i m, s2.mu i = some m → ∃ m', s'.mu i = some m' ∧ m'.b = m.b ∧ m'.nil = m.nil := by
    intro i m h
    by_cases hi : i = id
    · subst hi; rw [hmu] at h; cases h; exact ⟨mi, hmi.hm, rfl, rfl⟩
    · rw [hmo i hi] at h; exact ⟨m, h, rfl, rfl⟩
  have hH2 : ∀ i oi, upd S.hp id (some (ob V)) i = some oi → ∃ oi', upd S.hp id (some (ob ver)) i = some oi' ∧ oi'.mt = oi.mt := by
    intro i oi h
    by_cases hi : i = id
    · subst hi; rw [upd_same] at h; cases h; exact ⟨_, upd_same _ _ _, by rw [hob]⟩
    · rw [upd_ne _ _ hi] at h; exact ⟨oi, (upd_ne _ _ hi).trans h, rfl⟩
  have hown : ∀ b, Owned s2 (upd S.hp id (some (ob V))) b → Owned s' (upd S.hp id (some (ob ver))) b := by
    rintro b ⟨i, oi, m, g1, g2, g3, g4, g5⟩
    obtain ⟨m', e1, e2, e3⟩ := hmb i m g3
    obtain ⟨oi', e4, e5⟩ := hH2 i oi g1
    exact ⟨i, oi', m', e4, e5.trans g2, e1, e3.trans g4, e2.trans g5⟩
  refine hn s2 v _ _ ⟨rfl, rfl⟩ ?_ ⟨fun i oi hoi => ?_, ?_, q5.im, ?_⟩
    ⟨q6.os, q6.tape, q6.output, q6.size, q6.keep, q6.imk, q6.imo, fun b hb h => q6.own b hb (hown b h), fun x u h => hless x u (q6.vals x u h) h.has, fun _ h => .inl h⟩ (fun k h => h)
  · cases q4 with
    | pt hk1 hk2 hk3 =>
      refine .pt (.inr rfl) hk2 fun m hm hmv hmn => ?_
      rw [hmu] at hm; cases hm
      exact hk3 mi hmi.hm (hmi.hver.trans (hver ver)) hmn
  · by_cases hi : i = id
    · subst hi
      rw [upd_same] at hoi; cases hoi
      refine ⟨_, ⟨hmu, (hver V).symm, hmi.hsz.trans (by rw [hob]), .inr (hver V), ?_⟩⟩
      have hb := hmi.body
      rw [hob] at hb
      rcases hb with hb | ⟨cur, fr, hb⟩
      · exact .inl hb
      · exact .inr ⟨cur, fr, ⟨hb.hnil, hb.hb, hb.hfr, hb.happ, hb.hcs, hb.hct, hb.hlen, hb.hr, fun i r j x u a b c => hless x u (hb.hv i r j x u a b c) fun k h => absurd h ((hpv i r j x a b).has k), hb.h1, hb.him, hb.hnim⟩⟩
    · rw [upd_ne _ _ hi] at hoi
      obtain ⟨m0, hm0⟩ := hH.obj i oi hoi
      obtain ⟨m, hm⟩ := q5.obj i oi ((upd_ne _ _ hi).trans hoi)
      refine ⟨m, ⟨(hmo i hi).trans hm.hm, hm.hver, hm.hsz, .inl hm0.hk, ?_⟩⟩
      rcases hm.body with hb | ⟨cur, fr, hb⟩
      · exact .inl hb
      · refine .inr ⟨cur, fr, ⟨hb.hnil, hb.hb, hb.hfr, hb.happ, hb.hcs, hb.hct, hb.hlen, hb.hr, fun i r j x u a b c => hless x u (hb.hv i r j x u a b c) ?_, hb.h1, hb.him, hb.hnim⟩⟩
        rcases hm0.body with hb0 | ⟨cur0, fr0, hb0⟩
        · rw [hb0.2] at a; simp at a
        · obtain ⟨u0, _, g2⟩ := hb0.rd a j x b
          exact g2.has
  · intro i j oi oj m m' g1 g2 g3 g4 g5 g6 g7
    obtain ⟨n1, e1, e2, e3⟩ := hmb i m g3
    obtain ⟨n2, f1, f2, f3⟩ := hmb j m' g4
    obtain ⟨oi', e4, _⟩ := hH2 i oi g1
    obtain ⟨oj', f4, _⟩ := hH2 j oj g2
    exact q5.uniq i j oi' oj' n1 n2 e4 f4 e1 f1 (e3.trans g5) (f3.trans g6) (e2.trans (g7.trans f2.symm))
  · obtain ⟨C, hC⟩ := hH.fin
    exact ⟨max C (V + 1), fun k hk h => by rcases h with h | h; exact hC k (by omega) h; omega⟩

/-- A string's bytes in a row of the call's own. (Bytes are marked behind its end: it may not be appended to.) -/
theorem yl_strToBytes {P : Program} {S : AS} {o : Oper} {T src e : TypeId} {x : Operand} {l : List UInt8} {F U V : Nat → Prop} (id : Nat) (hp : Pick F U V) (ho : o.op = .convert src T x) (hs : P.underlying src = some .string) (hT : P.underlying T = some (.slice e)) (he : P.underlying e = some (.int .u8))
    (hx : S.ev x = some (.sc (.string (bs l)))) (hl : l.length ≤ 9223372036854775807) :
    Yield P o S F U (fun y H' => ∃ ver, V ver ∧ y = .sl id ver 0 l.length ∧ H' = upd S.hp id (some ⟨e, 1, true, false, ver, byteRows l⟩)) := by
  intro s a next Q hH hops hF hn
  obtain ⟨ver, hV, hU, hun⟩ := hp.get hH hF
  have hxv := (hops x (by simp [ho, Op.operands]) _ hx).sc_inv
  have hbl : (bs l).size = l.length := by show l.toArray.size = _; simp
  have hge := grownCap_ge s.w (bs l).size 0 e
  have hle := grownCap_le_maxLen s.w (bs l).size 0 e (by rw [hbl]; simp [maxLen]; omega)
  have hcsz : (Lib.bytesCells s.w e (bs l)).size = grownCap s.w (bs l).size 0 e := by
    simp [Lib.bytesCells]; omega
  obtain ⟨s', g1, g2, g3, g4, g5⟩ := sit_refr hH id ⟨e, 1, true, false, ver, byteRows l⟩ s.w.heap.size (grownCap s.w (bs l).size 0 e) (Lib.bytesCells s.w e (bs l)) (Lib.bytesWorld s.w e (bs l)) rfl rfl rfl (by rw [Lib.bytesWorld_size]; omega)
    (fun k hk _ => Lib.bytesWorld_at_old s.w e (bs l) k hk) (Lib.bytesWorld_at_new s.w e (bs l)) (fun k hk h => by simp only at h; omega) (fun h => by cases h) (.inl (Nat.le_refl _)) hun rfl (by rw [hcsz, Nat.mul_one]) hle (by rw [byteRows_len]; omega)
    (fun i r hr => by
      unfold byteRows at hr; rw [List.getElem?_map] at hr
      cases hg : l[i]? with
      | none => rw [hg] at hr; cases hr
      | some b => rw [hg] at hr; simp at hr; subst hr; rfl)
    (fun i r j x v hr hx hv => by
      unfold byteRows at hr; rw [List.getElem?_map] at hr
      cases hg : l[i]? with
      | none => rw [hg] at hr; cases hr
      | some b =>
        rw [hg] at hr; simp at hr; subst hr
        cases j with
        | succ j => simp at hx
        | zero =>
          simp at hx; subst hx
          rw [Nat.mul_one, Nat.add_zero] at hv
          have hi := lt_of hg
          have : (Lib.bytesCells s.w e (bs l))[i]? = some (.int .u8 b.toNat) := by
            unfold Lib.bytesCells
            rw [Array.getElem?_append_left (by simp; exact hi)]
            simp [hg]
          rw [this] at hv; cases hv; exact .sc _)
    (fun k v hv => by
      unfold Lib.bytesCells at hv
      rw [Array.getElem?_append] at hv
      split at hv
      · rw [Array.getElem?_map] at hv
        cases hg : (bs l).data[k]? with
        | none => rw [hg] at hv; cases hv
        | some b => rw [hg] at hv; cases hv; rfl
      · rw [Array.getElem?_replicate] at hv; split at hv
        · cases hv; rfl
        · cases hv)
  refine wp_val (w' := s'.w) (v := .slice (some ⟨s.w.heap.size, 0, none⟩) (bs l).size (grownCap s.w (bs l).size 0 e)) ?_ (hn s' _ (.sl id ver 0 l.length) _ ⟨ver, hV, rfl, rfl⟩ ?_ g4 g5 ?_)
  · rw [g1]
    simp only [execOp, ho, hxv, Sem.run_bind, Lib.run_convert_string_bytes s.w src T e (bs l) hs hT he, Result.andThen_ok, Sem.run_pure]
  · refine .sl (by rw [g2]; exact .inr rfl) rfl fun m hm _ => ?_
    rw [g3] at hm; cases hm
    refine ⟨fun h => ?_, fun _ => ⟨grownCap s.w (bs l).size 0 e, ?_, ?_, ?_⟩⟩
    · cases h
    · rw [hbl, Nat.zero_mul]
    · rw [← hbl]; exact hge
    · rw [Nat.zero_add]; exact Nat.le_refl _
  · intro k hk; rw [g2] at hk; rcases hk with h | h; exact .inl h; exact .inr (h ▸ hU)
end Go.Pv
