import Derived.Test.YtpbcnilkippahaaPvT
import Derived.Test.YtpbcnilkippahaaT53
import Derived.Test.YtpbcnilkippahaaProg
import Derived.Test.YtpbcnilkippahaaPvAF
set_option linter.unusedVariables false
set_option linter.unusedSimpArgs false
namespace Go.Pv
open Go.Proofs
set_option maxRecDepth 10000
theorem numref_pc {v : Int} (hv : isI v) : PC Try.prog 43 [int v] H0 (fun y _ => y = str (enc v)) := by
  refine pc_of' (c := _) Try.func43 rfl rfl ?_
  intro Q hret hnorm
  refine c_seq ?_
  refine c_reg ?_; intro K hK
  refine st rfl rfl rfl (yv_assign rfl rfl) ?_
  refine rg_nil (hK _ ?_); clear hK K
  refine c_seq ?_
  refine c_reg ?_; intro K hK
  refine st rfl rfl rfl (yv_move rfl rfl) ?_
  refine st rfl rfl rfl (yv_convInt (r := (un64 v : Nat)) rfl Try.underlying3 Try.underlying88 rfl (un64_wrap hv)) ?_
  refine st rfl rfl rfl (yv_shl (r := (tw v : Nat)) rfl rfl rfl (by omega) (tw_wrap hv)) ?_
  refine st rfl rfl rfl (yv_assign rfl rfl) ?_
  refine rg_nil (hK _ ?_); clear hK K
  refine c_seq ?_
  refine c_seq ?_
  refine c_reg ?_; intro K hK
  refine st rfl rfl rfl (yv_move rfl rfl) ?_
  refine st rfl rfl rfl (yv_lss rfl rfl rfl) ?_
  refine rg_nil (hK _ ?_); clear hK K
  refine c_dec rfl ?_ ?_
  · intro h9
    have hz : zz v = zz v := rfl
    refine c_reg ?_; intro K hK
    refine st rfl rfl rfl (yv_move rfl rfl) ?_
    refine st rfl rfl rfl (yv_com (r := (zz v : Nat)) rfl rfl (zz_com hv h9)) ?_
    refine st rfl rfl rfl (yv_assign rfl rfl) ?_
    refine rg_nil (hK _ ?_); clear hK K
    refine c_seq ?_
    refine c_reg ?_; intro K hK
    refine st rfl rfl rfl (yv_assign rfl rfl) ?_
    refine rg_nil (hK _ ?_); clear hK K
    refine c_seq ?_
    refine c_block ?_; intro Q1 bn1 bx1 br1 bo1
    refine c_nilobj 4 43004 5 1 rfl rfl ?_
    intro v4
    refine c_loop2 (ι := Nat × Nat × Nat) (κ := Nat × List UInt8) (fun p q => ⟨kn [(3, .sc (.int .u64 (p.2.1 : Nat))), (4, .sl 43004 q.1 0 p.2.2)], upd H0 43004 (some (bufO 5 q.1 q.2))⟩) (fun p q => p.2.1 < 128 ^ p.1 ∧ q.2 ++ encF p.1 p.2.1 = enc v ∧ q.2.length = p.2.2) (fun p q => p.2.1) ⟨10, zz v, 0⟩ ⟨v4, []⟩ ⟨Nat.lt_of_lt_of_le (zz_lt hv) (show 18446744073709551616 ≤ 128 ^ 10 by decide), rfl, rfl⟩ (by first | exact le_kn' ⟨rfl, rfl, trivial⟩ | (rw [hz]; exact le_kn' ⟨rfl, rfl, trivial⟩)) ?_
    rintro ⟨f, u, k⟩ ⟨lv, h⟩ ⟨huf, hen, hhk⟩ Q2 ln2 lx2 lr2
    have huf : u < 128 ^ f := huf
    have hen : h ++ encF f u = enc v := hen
    have hhk : h.length = k := hhk
    have hol : h.length ≤ 11 := by
      have h1 := congrArg List.length hen
      have h2 := encF_len 10 (zz v)
      rw [List.length_append] at h1; unfold enc at h1; omega
    refine c_seq ?_
    refine c_seq ?_
    refine c_reg ?_; intro K hK
    refine st rfl rfl rfl (yv_move rfl rfl) ?_
    refine st rfl rfl rfl (yv_geq rfl rfl rfl) ?_
    refine rg_nil (hK _ ?_); clear hK K
    refine c_dec rfl ?_ ?_
    · intro h13
      have h13 : 128 ≤ u := by have h13 : (128 : Int) ≤ (u : Int) := h13; omega
      obtain ⟨f, rfl⟩ : ∃ f0, f = f0 + 1 := ⟨f - 1, by
        rcases Nat.eq_zero_or_pos f with h0 | h0
        · subst h0; simp at huf; omega
        · omega⟩
      refine c_skip ?_
      refine c_block ?_; intro Q3 bn3 bx3 br3 bo3
      refine c_seq ?_
      refine c_reg ?_; intro K hK
      refine st rfl rfl rfl (yv_move rfl rfl) ?_
      refine st rfl rfl rfl (yv_move rfl rfl) ?_
      refine st rfl rfl rfl (yv_convInt (r := ((UInt8.ofNat u).toNat : Nat)) rfl Try.underlying88 Try.underlying5 rfl (u8_wrap _)) ?_
      refine st rfl rfl rfl (yv_or (r := ((UInt8.ofNat (u % 128 + 128)).toNat : Nat)) rfl rfl rfl (or_u8 u)) ?_
      refine st rfl rfl rfl (yv_buildSlice (ps := [(0, _)]) (rows := [[.sc (.int .u8 ((UInt8.ofNat (u % 128 + 128)).toNat : Nat))]]) rfl Try.underlying70 bz5 (.cons rfl .nil) rfl rfl rfl rfl) ?_
      refine se rfl rfl rfl (yl_append .any rfl Try.underlying70 bz5 by5 rfl rfl (rfl) rfl rfl rfl rfl rfl ((byteRows_len h).trans hhk) (.refl _) (by intro r hr; simp at hr; subst hr; rfl) (by simp only [List.length_cons, List.length_nil]; omega) (by simp only [List.length_cons, List.length_nil]; omega)) ?_
      rintro _ _ ⟨v19, -, rfl, rfl⟩
      refine st rfl rfl rfl (yv_assign rfl rfl) ?_
      refine rg_nil (hK _ ?_); clear hK K
      refine c_reg ?_; intro K hK
      refine st rfl rfl rfl (yv_move rfl rfl) ?_
      refine st rfl rfl rfl (yv_shr (r := ((u / 128 : Nat) : Int)) rfl rfl rfl (by omega) shr_seven) ?_
      refine st rfl rfl rfl (yv_assign rfl rfl) ?_
      refine rg_nil (hK _ ?_); clear hK K
      refine c_nil (bn3 _ ?_)
      refine c_nil (ln2 _ ⟨⟨f, u / 128, k + 1⟩, ⟨v19, h ++ [UInt8.ofNat (u % 128 + 128)]⟩, ⟨?_, ?_, ?_⟩, ?_, le_sub (KN.le ⟨rfl, rfl, trivial⟩) (fun t v h => ?_)⟩)
      · show u / 128 < 128 ^ f; rw [Nat.pow_succ] at huf; omega
      · show (h ++ [_]) ++ encF f (u / 128) = _; rw [List.append_assoc, List.singleton_append, ← encF_ge f (by omega)]; exact hen
      · show (h ++ [_]).length = k + 1; rw [List.length_append, hhk]; rfl
      · show u / 128 < u; omega
      · by_cases h0 : t = 43004
        · subst h0; rw [upd_same] at h; rw [← h]; refine (upd_same _ _ _).trans ?_; simp [byteRows]
        · rw [upd_ne _ _ h0] at h; cases h
    · intro h13
      have hlt : u < 128 := by have h13 : ¬ (128 : Int) ≤ (u : Int) := h13; omega
      rw [encF_lt f hlt] at hen
      refine c_exit (lx2 _ _ (bx1 _ ?_))
      refine c_seq ?_
      refine c_reg ?_; intro K hK
      refine st rfl rfl rfl (yv_move rfl rfl) ?_
      refine st rfl rfl rfl (yv_move rfl rfl) ?_
      refine st rfl rfl rfl (yv_convInt (r := ((UInt8.ofNat u).toNat : Nat)) rfl Try.underlying88 Try.underlying5 rfl (u8_wrap _)) ?_
      refine st rfl rfl rfl (yv_buildSlice (ps := [(0, _)]) (rows := [[.sc (.int .u8 ((UInt8.ofNat u).toNat : Nat))]]) rfl Try.underlying70 bz5 (.cons rfl .nil) rfl rfl rfl rfl) ?_
      refine se rfl rfl rfl (yl_append .any rfl Try.underlying70 bz5 by5 rfl rfl (rfl) rfl rfl rfl rfl rfl ((byteRows_len h).trans hhk) (.refl _) (by intro r hr; simp at hr; subst hr; rfl) (by simp only [List.length_cons, List.length_nil]; omega) (by simp only [List.length_cons, List.length_nil]; omega)) ?_
      rintro _ _ ⟨v26, -, rfl, rfl⟩
      refine st rfl rfl rfl (yv_bytesToString (l := enc v) rfl Try.underlying70 Try.underlying5 Try.underlying9 rfl rfl rfl rfl (by rw [← hen, byteRows_append]; rfl) (by rw [← hen, List.length_append, hhk]; rfl)) ?_
      refine st rfl rfl rfl (yv_assign rfl rfl) ?_
      refine rg_nil (hK _ ?_); clear hK K
      refine c_ret (hret _ _ H0 (.tmp rfl .nil) (fun _ _ h => by cases h) ?_)
      exact rfl
  · intro h9
    have hz : tw v = zz v := zz_pos h9
    refine c_skip ?_
    refine c_seq ?_
    refine c_reg ?_; intro K hK
    refine st rfl rfl rfl (yv_assign rfl rfl) ?_
    refine rg_nil (hK _ ?_); clear hK K
    refine c_seq ?_
    refine c_block ?_; intro Q1 bn1 bx1 br1 bo1
    refine c_nilobj 4 43004 5 1 rfl rfl ?_
    intro v4
    refine c_loop2 (ι := Nat × Nat × Nat) (κ := Nat × List UInt8) (fun p q => ⟨kn [(3, .sc (.int .u64 (p.2.1 : Nat))), (4, .sl 43004 q.1 0 p.2.2)], upd H0 43004 (some (bufO 5 q.1 q.2))⟩) (fun p q => p.2.1 < 128 ^ p.1 ∧ q.2 ++ encF p.1 p.2.1 = enc v ∧ q.2.length = p.2.2) (fun p q => p.2.1) ⟨10, zz v, 0⟩ ⟨v4, []⟩ ⟨Nat.lt_of_lt_of_le (zz_lt hv) (show 18446744073709551616 ≤ 128 ^ 10 by decide), rfl, rfl⟩ (by first | exact le_kn' ⟨rfl, rfl, trivial⟩ | (rw [hz]; exact le_kn' ⟨rfl, rfl, trivial⟩)) ?_
    rintro ⟨f, u, k⟩ ⟨lv, h⟩ ⟨huf, hen, hhk⟩ Q2 ln2 lx2 lr2
    have huf : u < 128 ^ f := huf
    have hen : h ++ encF f u = enc v := hen
    have hhk : h.length = k := hhk
    have hol : h.length ≤ 11 := by
      have h1 := congrArg List.length hen
      have h2 := encF_len 10 (zz v)
      rw [List.length_append] at h1; unfold enc at h1; omega
    refine c_seq ?_
    refine c_seq ?_
    refine c_reg ?_; intro K hK
    refine st rfl rfl rfl (yv_move rfl rfl) ?_
    refine st rfl rfl rfl (yv_geq rfl rfl rfl) ?_
    refine rg_nil (hK _ ?_); clear hK K
    refine c_dec rfl ?_ ?_
    · intro h13
      have h13 : 128 ≤ u := by have h13 : (128 : Int) ≤ (u : Int) := h13; omega
      obtain ⟨f, rfl⟩ : ∃ f0, f = f0 + 1 := ⟨f - 1, by
        rcases Nat.eq_zero_or_pos f with h0 | h0
        · subst h0; simp at huf; omega
        · omega⟩
      refine c_skip ?_
      refine c_block ?_; intro Q3 bn3 bx3 br3 bo3
      refine c_seq ?_
      refine c_reg ?_; intro K hK
      refine st rfl rfl rfl (yv_move rfl rfl) ?_
      refine st rfl rfl rfl (yv_move rfl rfl) ?_
      refine st rfl rfl rfl (yv_convInt (r := ((UInt8.ofNat u).toNat : Nat)) rfl Try.underlying88 Try.underlying5 rfl (u8_wrap _)) ?_
      refine st rfl rfl rfl (yv_or (r := ((UInt8.ofNat (u % 128 + 128)).toNat : Nat)) rfl rfl rfl (or_u8 u)) ?_
      refine st rfl rfl rfl (yv_buildSlice (ps := [(0, _)]) (rows := [[.sc (.int .u8 ((UInt8.ofNat (u % 128 + 128)).toNat : Nat))]]) rfl Try.underlying70 bz5 (.cons rfl .nil) rfl rfl rfl rfl) ?_
      refine se rfl rfl rfl (yl_append .any rfl Try.underlying70 bz5 by5 rfl rfl (rfl) rfl rfl rfl rfl rfl ((byteRows_len h).trans hhk) (.refl _) (by intro r hr; simp at hr; subst hr; rfl) (by simp only [List.length_cons, List.length_nil]; omega) (by simp only [List.length_cons, List.length_nil]; omega)) ?_
      rintro _ _ ⟨v19, -, rfl, rfl⟩
      refine st rfl rfl rfl (yv_assign rfl rfl) ?_
      refine rg_nil (hK _ ?_); clear hK K
      refine c_reg ?_; intro K hK
      refine st rfl rfl rfl (yv_move rfl rfl) ?_
      refine st rfl rfl rfl (yv_shr (r := ((u / 128 : Nat) : Int)) rfl rfl rfl (by omega) shr_seven) ?_
      refine st rfl rfl rfl (yv_assign rfl rfl) ?_
      refine rg_nil (hK _ ?_); clear hK K
      refine c_nil (bn3 _ ?_)
      refine c_nil (ln2 _ ⟨⟨f, u / 128, k + 1⟩, ⟨v19, h ++ [UInt8.ofNat (u % 128 + 128)]⟩, ⟨?_, ?_, ?_⟩, ?_, le_sub (KN.le ⟨rfl, rfl, trivial⟩) (fun t v h => ?_)⟩)
      · show u / 128 < 128 ^ f; rw [Nat.pow_succ] at huf; omega
      · show (h ++ [_]) ++ encF f (u / 128) = _; rw [List.append_assoc, List.singleton_append, ← encF_ge f (by omega)]; exact hen
      · show (h ++ [_]).length = k + 1; rw [List.length_append, hhk]; rfl
      · show u / 128 < u; omega
      · by_cases h0 : t = 43004
        · subst h0; rw [upd_same] at h; rw [← h]; refine (upd_same _ _ _).trans ?_; simp [byteRows]
        · rw [upd_ne _ _ h0] at h; cases h
    · intro h13
      have hlt : u < 128 := by have h13 : ¬ (128 : Int) ≤ (u : Int) := h13; omega
      rw [encF_lt f hlt] at hen
      refine c_exit (lx2 _ _ (bx1 _ ?_))
      refine c_seq ?_
      refine c_reg ?_; intro K hK
      refine st rfl rfl rfl (yv_move rfl rfl) ?_
      refine st rfl rfl rfl (yv_move rfl rfl) ?_
      refine st rfl rfl rfl (yv_convInt (r := ((UInt8.ofNat u).toNat : Nat)) rfl Try.underlying88 Try.underlying5 rfl (u8_wrap _)) ?_
      refine st rfl rfl rfl (yv_buildSlice (ps := [(0, _)]) (rows := [[.sc (.int .u8 ((UInt8.ofNat u).toNat : Nat))]]) rfl Try.underlying70 bz5 (.cons rfl .nil) rfl rfl rfl rfl) ?_
      refine se rfl rfl rfl (yl_append .any rfl Try.underlying70 bz5 by5 rfl rfl (rfl) rfl rfl rfl rfl rfl ((byteRows_len h).trans hhk) (.refl _) (by intro r hr; simp at hr; subst hr; rfl) (by simp only [List.length_cons, List.length_nil]; omega) (by simp only [List.length_cons, List.length_nil]; omega)) ?_
      rintro _ _ ⟨v26, -, rfl, rfl⟩
      refine st rfl rfl rfl (yv_bytesToString (l := enc v) rfl Try.underlying70 Try.underlying5 Try.underlying9 rfl rfl rfl rfl (by rw [← hen, byteRows_append]; rfl) (by rw [← hen, List.length_append, hhk]; rfl)) ?_
      refine st rfl rfl rfl (yv_assign rfl rfl) ?_
      refine rg_nil (hK _ ?_); clear hK K
      refine c_ret (hret _ _ H0 (.tmp rfl .nil) (fun _ _ h => by cases h) ?_)
      exact rfl
theorem numref_p {v : Int} (hv : isI v) : PP Try.prog 43 [int v] (fun y => y = str (enc v)) := pp_of_pc (numref_pc hv) fun y H h => ⟨_, rfl, .sc _, by rw [h]; exact .refl _⟩
end Go.Pv
set_option linter.unusedSimpArgs false
set_option linter.unusedVariables false
namespace Go.Pv
section
variable {P : Program} {S : AS} {o : Oper} {T K E : TypeId} {x y : Operand}
theorem run_checkKey_int {b : Bool} {n : Nat} {v : Value} {kk : IntKind} (hK : P.underlying K = some (.int kk)) (w : World) : (Instr.checkKey b (n + 1) K v).run P w = .ok () w := by
  unfold Instr.checkKey
  simp only [Sem.run_bind, run_underlying hK, Result.andThen_ok]
  rfl
structure MapAt (s : Sit) (H : AH) (b : Nat) (ks : List Int) (xs : List AV) : Prop where
  him : ¬ s.Im b
  hno : ¬ Owned s H b
  at' : ∃ es clock, s.w.heap[b]? = some (.map es clock) ∧ es.toList.map (·.key) = ks.map (Value.int .i64) ∧ xs.length = es.toList.length ∧ ∀ (i : Nat) (x : AV) (e : MapEntry), xs[i]? = some x → es.toList[i]? = some e → VR s x e.val
theorem not_used {s : Sit} {H : AH} {b id : Nat} {ob : AObj} {m : Mu} {cur : Array Value} {fr : Nat × Nat} (him : ¬ s.Im b) (hno : ¬ Owned s H b) (h : H id = some ob) (hm : s.mu id = some m) (hb : ObjB s ob m cur fr) : m.b ≠ b := by
  intro e
  cases hmt : ob.mt with
  | true => exact hno ⟨id, ob, m, h, hmt, hm, hb.hnil, e⟩
  | false => exact him (e ▸ hb.him hmt)
theorem sit_w {s : Sit} {H : AH} (hH : HR s H) (w' : World) (hsize : s.w.heap.size ≤ w'.heap.size) (hk : ∀ j, (s.Im j ∨ ∃ id o m, H id = some o ∧ s.mu id = some m ∧ m.nil = false ∧ m.b = j) → w'.heap[j]? = s.w.heap[j]?) :
    HR { s with w := w' } H ∧ ∀ x v, VR s x v → VR { s with w := w' } x v := by
  have hmono : ∀ x v, VR s x v → VR { s with w := w' } x v := fun x v h => VR.mono (s := s) (s' := { s with w := w' }) (fun b hi => ⟨hi, hk b (.inl hi)⟩) (fun i m' hm' => .inl hm') (fun _ h => h) h
  refine ⟨⟨fun id o ho => ?_, hH.uniq, fun b hb => Nat.lt_of_lt_of_le (hH.im b hb) hsize, hH.fin⟩, hmono⟩
  obtain ⟨m, hm⟩ := hH.obj id o ho
  refine ⟨m, hm.hm, hm.hver, hm.hsz, hm.hk, ?_⟩
  rcases hm.body with h | ⟨cur, fr, hb⟩
  · exact .inl h
  · exact .inr ⟨cur, fr, ⟨hb.hnil, (hk _ (.inr ⟨id, o, m, ho, hm.hm, hb.hnil, rfl⟩)).trans hb.hb, hb.hfr, hb.happ, hb.hcs, hb.hct, hb.hlen, hb.hr, fun i r j x v a b c => hmono _ _ (hb.hv i r j x v a b c), hb.h1, hb.him, hb.hnim⟩⟩
theorem SR.vals {n : NT} {s s' : Sit} {S : AS} {a : Act} (hs : SR n s S a) (hH : HR s' S.hp) (hv : ∀ x v, VR s x v → VR s' x v) : SR n s' S a :=
  ⟨hs.size, hs.defers, fun t x hx => let ⟨v, h1, h2⟩ := hs.slot t x hx; ⟨v, h1, hv _ _ h2⟩, hH⟩
variable {n : NT} {ops rest : List Oper} {K' : AS → Prop}
variable {Q0 : Go.Exit → AS → Prop} {st : List Fm} {cs : List Code} {b : Nat} {ks : List Int} {xs : List AV}
end
end Go.Pv
