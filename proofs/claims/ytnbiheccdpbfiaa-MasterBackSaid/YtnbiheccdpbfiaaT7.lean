import Derived.Test.YtnbiheccdpbfiaaPvR
import Derived.Test.YtnbiheccdpbfiaaT6
import Derived.Test.YtnbiheccdpbfiaaProg
set_option linter.unusedSimpArgs false
set_option linter.unusedVariables false
namespace Go.Pv
open Go.Proofs
set_option maxRecDepth 10000
theorem cal22 : cal Try.prog 22 = true := by kernel_rfl

theorem numref_pc {v : Int} (hv : isI v) : PC Try.prog 22 [int v] H0 (fun y _ => y = str (enc v)) := by
  refine pc_of' (c := _) Try.func22 rfl rfl ?_
  intro Q hret hnorm
  refine c_seq ?_
  refine c_reg ?_; intro K hK
  refine st rfl rfl rfl (yv_assign rfl rfl) ?_
  refine rg_nil (hK _ ?_); clear hK K
  refine c_seq ?_
  refine c_reg ?_; intro K hK
  refine st rfl rfl rfl (yv_move rfl rfl) ?_
  refine st rfl rfl rfl (yv_convInt (r := (un64 v : Nat)) rfl Try.underlying3 Try.underlying76 rfl (un64_wrap hv)) ?_
  refine st rfl rfl rfl (yv_shl (r := (tw v : Nat)) rfl rfl rfl (by omega) (tw_wrap hv)) ?_
  refine st rfl rfl rfl (yv_assign rfl rfl) ?_
  refine rg_nil (hK _ ?_); clear hK K
  refine c_seq ?_
  refine c_seq ?_
  refine c_reg ?_; intro K hK
  refine st rfl rfl rfl (yv_move rfl rfl) ?_
  refine st rfl rfl rfl (yv_lss rfl rfl rfl) ?_
  refine rg_nil (hK _ ?_); clear hK K
  refine c_dec rfl ?_ ?_
  · intro h9
    have hz : zz v = zz v := rfl
    refine c_reg ?_; intro K hK
    refine st rfl rfl rfl (yv_move rfl rfl) ?_
    refine st rfl rfl rfl (yv_com (r := (zz v : Nat)) rfl rfl (zz_com hv h9)) ?_
    refine st rfl rfl rfl (yv_assign rfl rfl) ?_
    refine rg_nil (hK _ ?_); clear hK K
    refine c_seq ?_
    refine c_reg ?_; intro K hK
    refine st rfl rfl rfl (yv_assign rfl rfl) ?_
    refine rg_nil (hK _ ?_); clear hK K
    refine c_seq ?_
    refine c_block ?_; intro Q1 bn1 bx1 br1 bo1
    refine c_nilobj 4 22004 5 1 rfl rfl ?_
    intro v4
    refine c_loop2 (ι := Nat × Nat × Nat) (κ := Nat × List UInt8) (fun p q => ⟨kn [(3, .sc (.int .u64 (p.2.1 : Nat))), (4, .sl 22004 q.1 0 p.2.2)], upd H0 22004 (some (bufO 5 q.1 q.2))⟩) (fun p q => p.2.1 < 128 ^ p.1 ∧ q.2 ++ encF p.1 p.2.1 = enc v ∧ q.2.length = p.2.2) (fun p q => p.2.1) ⟨10, zz v, 0⟩ ⟨v4, []⟩ ⟨Nat.lt_of_lt_of_le (zz_lt hv) (show 18446744073709551616 ≤ 128 ^ 10 by decide), rfl, rfl⟩ (by first | exact le_kn' ⟨rfl, rfl, trivial⟩ | (rw [hz]; exact le_kn' ⟨rfl, rfl, trivial⟩)) ?_
    rintro ⟨f, u, k⟩ ⟨lv, h⟩ ⟨huf, hen, hhk⟩ Q2 ln2 lx2 lr2
    have huf : u < 128 ^ f := huf
    have hen : h ++ encF f u = enc v := hen
    have hhk : h.length = k := hhk
    have hol : h.length ≤ 11 := by
      have h1 := congrArg List.length hen
      have h2 := encF_len 10 (zz v)
      rw [List.length_append] at h1; unfold enc at h1; omega
    refine c_seq ?_
    refine c_seq ?_
    refine c_reg ?_; intro K hK
    refine st rfl rfl rfl (yv_move rfl rfl) ?_
    refine st rfl rfl rfl (yv_geq rfl rfl rfl) ?_
    refine rg_nil (hK _ ?_); clear hK K
    refine c_dec rfl ?_ ?_
    · intro h13
      have h13 : 128 ≤ u := by have h13 : (128 : Int) ≤ (u : Int) := h13; omega
      obtain ⟨f, rfl⟩ : ∃ f0, f = f0 + 1 := ⟨f - 1, by
        rcases Nat.eq_zero_or_pos f with h0 | h0
        · subst h0; simp at huf; omega
        · omega⟩
      refine c_skip ?_
      refine c_block ?_; intro Q3 bn3 bx3 br3 bo3
      refine c_seq ?_
      refine c_reg ?_; intro K hK
      refine st rfl rfl rfl (yv_move rfl rfl) ?_
      refine st rfl rfl rfl (yv_move rfl rfl) ?_
      refine st rfl rfl rfl (yv_convInt (r := ((UInt8.ofNat u).toNat : Nat)) rfl Try.underlying76 Try.underlying5 rfl (u8_wrap _)) ?_
      refine st rfl rfl rfl (yv_or (r := ((UInt8.ofNat (u % 128 + 128)).toNat : Nat)) rfl rfl rfl (or_u8 u)) ?_
      refine st rfl rfl rfl (yv_buildSlice (ps := [(0, _)]) (rows := [[.sc (.int .u8 ((UInt8.ofNat (u % 128 + 128)).toNat : Nat))]]) rfl Try.underlying39 bz5 (.cons rfl .nil) rfl rfl rfl rfl) ?_
      refine se rfl rfl rfl (yl_append .any rfl Try.underlying39 bz5 by5 rfl rfl (rfl) rfl rfl rfl rfl rfl ((byteRows_len h).trans hhk) (.refl _) (by intro r hr; simp at hr; subst hr; rfl) (by simp only [List.length_cons, List.length_nil]; omega) (by simp only [List.length_cons, List.length_nil]; omega)) ?_
      rintro _ _ ⟨v19, -, rfl, rfl⟩
      refine st rfl rfl rfl (yv_assign rfl rfl) ?_
      refine rg_nil (hK _ ?_); clear hK K
      refine c_reg ?_; intro K hK
      refine st rfl rfl rfl (yv_move rfl rfl) ?_
      refine st rfl rfl rfl (yv_shr (r := ((u / 128 : Nat) : Int)) rfl rfl rfl (by omega) shr_seven) ?_
      refine st rfl rfl rfl (yv_assign rfl rfl) ?_
      refine rg_nil (hK _ ?_); clear hK K
      refine c_nil (bn3 _ ?_)
      refine c_nil (ln2 _ ⟨⟨f, u / 128, k + 1⟩, ⟨v19, h ++ [UInt8.ofNat (u % 128 + 128)]⟩, ⟨?_, ?_, ?_⟩, ?_, le_sub (KN.le ⟨rfl, rfl, trivial⟩) (fun t v h => ?_)⟩)
      · show u / 128 < 128 ^ f; rw [Nat.pow_succ] at huf; omega
      · show (h ++ [_]) ++ encF f (u / 128) = _; rw [List.append_assoc, List.singleton_append, ← encF_ge f (by omega)]; exact hen
      · show (h ++ [_]).length = k + 1; rw [List.length_append, hhk]; rfl
      · show u / 128 < u; omega
      · by_cases h0 : t = 22004
        · subst h0; rw [upd_same] at h; rw [← h]; refine (upd_same _ _ _).trans ?_; simp [byteRows]
        · rw [upd_ne _ _ h0] at h; cases h
    · intro h13
      have hlt : u < 128 := by have h13 : ¬ (128 : Int) ≤ (u : Int) := h13; omega
      rw [encF_lt f hlt] at hen
      refine c_exit (lx2 _ _ (bx1 _ ?_))
      refine c_seq ?_
      refine c_reg ?_; intro K hK
      refine st rfl rfl rfl (yv_move rfl rfl) ?_
      refine st rfl rfl rfl (yv_move rfl rfl) ?_
      refine st rfl rfl rfl (yv_convInt (r := ((UInt8.ofNat u).toNat : Nat)) rfl Try.underlying76 Try.underlying5 rfl (u8_wrap _)) ?_
      refine st rfl rfl rfl (yv_buildSlice (ps := [(0, _)]) (rows := [[.sc (.int .u8 ((UInt8.ofNat u).toNat : Nat))]]) rfl Try.underlying39 bz5 (.cons rfl .nil) rfl rfl rfl rfl) ?_
      refine se rfl rfl rfl (yl_append .any rfl Try.underlying39 bz5 by5 rfl rfl (rfl) rfl rfl rfl rfl rfl ((byteRows_len h).trans hhk) (.refl _) (by intro r hr; simp at hr; subst hr; rfl) (by simp only [List.length_cons, List.length_nil]; omega) (by simp only [List.length_cons, List.length_nil]; omega)) ?_
      rintro _ _ ⟨v26, -, rfl, rfl⟩
      refine st rfl rfl rfl (yv_bytesToString (l := enc v) rfl Try.underlying39 Try.underlying5 Try.underlying9 rfl rfl rfl rfl (by rw [← hen, byteRows_append]; rfl) (by rw [← hen, List.length_append, hhk]; rfl)) ?_
      refine st rfl rfl rfl (yv_assign rfl rfl) ?_
      refine rg_nil (hK _ ?_); clear hK K
      refine c_ret (hret _ _ H0 (.tmp rfl .nil) (fun _ _ h => by cases h) ?_)
      exact rfl
  · intro h9
    have hz : tw v = zz v := zz_pos h9
    refine c_skip ?_
    refine c_seq ?_
    refine c_reg ?_; intro K hK
    refine st rfl rfl rfl (yv_assign rfl rfl) ?_
    refine rg_nil (hK _ ?_); clear hK K
    refine c_seq ?_
    refine c_block ?_; intro Q1 bn1 bx1 br1 bo1
    refine c_nilobj 4 22004 5 1 rfl rfl ?_
    intro v4
    refine c_loop2 (ι := Nat × Nat × Nat) (κ := Nat × List UInt8) (fun p q => ⟨kn [(3, .sc (.int .u64 (p.2.1 : Nat))), (4, .sl 22004 q.1 0 p.2.2)], upd H0 22004 (some (bufO 5 q.1 q.2))⟩) (fun p q => p.2.1 < 128 ^ p.1 ∧ q.2 ++ encF p.1 p.2.1 = enc v ∧ q.2.length = p.2.2) (fun p q => p.2.1) ⟨10, zz v, 0⟩ ⟨v4, []⟩ ⟨Nat.lt_of_lt_of_le (zz_lt hv) (show 18446744073709551616 ≤ 128 ^ 10 by decide), rfl, rfl⟩ (by first | exact le_kn' ⟨rfl, rfl, trivial⟩ | (rw [hz]; exact le_kn' ⟨rfl, rfl, trivial⟩)) ?_
    rintro ⟨f, u, k⟩ ⟨lv, h⟩ ⟨huf, hen, hhk⟩ Q2 ln2 lx2 lr2
    have huf : u < 128 ^ f := huf
    have hen : h ++ encF f u = enc v := hen
    have hhk : h.length = k := hhk
    have hol : h.length ≤ 11 := by
      have h1 := congrArg List.length hen
      have h2 := encF_len 10 (zz v)
      rw [List.length_append] at h1; unfold enc at h1; omega
    refine c_seq ?_
    refine c_seq ?_
    refine c_reg ?_; intro K hK
    refine st rfl rfl rfl (yv_move rfl rfl) ?_
    refine st rfl rfl rfl (yv_geq rfl rfl rfl) ?_
    refine rg_nil (hK _ ?_); clear hK K
    refine c_dec rfl ?_ ?_
    · intro h13
      have h13 : 128 ≤ u := by have h13 : (128 : Int) ≤ (u : Int) := h13; omega
      obtain ⟨f, rfl⟩ : ∃ f0, f = f0 + 1 := ⟨f - 1, by
        rcases Nat.eq_zero_or_pos f with h0 | h0
        · subst h0; simp at huf; omega
        · omega⟩
      refine c_skip ?_
      refine c_block ?_; intro Q3 bn3 bx3 br3 bo3
      refine c_seq ?_
      refine c_reg ?_; intro K hK
      refine st rfl rfl rfl (yv_move rfl rfl) ?_
      refine st rfl rfl rfl (yv_move rfl rfl) ?_
      refine st rfl rfl rfl (yv_convInt (r := ((UInt8.ofNat u).toNat : Nat)) rfl Try.underlying76 Try.underlying5 rfl (u8_wrap _)) ?_
      refine st rfl rfl rfl (yv_or (r := ((UInt8.ofNat (u % 128 + 128)).toNat : Nat)) rfl rfl rfl (or_u8 u)) ?_
      refine st rfl rfl rfl (yv_buildSlice (ps := [(0, _)]) (rows := [[.sc (.int .u8 ((UInt8.ofNat (u % 128 + 128)).toNat : Nat))]]) rfl Try.underlying39 bz5 (.cons rfl .nil) rfl rfl rfl rfl) ?_
      refine se rfl rfl rfl (yl_append .any rfl Try.underlying39 bz5 by5 rfl rfl (rfl) rfl rfl rfl rfl rfl ((byteRows_len h).trans hhk) (.refl _) (by intro r hr; simp at hr; subst hr; rfl) (by simp only [List.length_cons, List.length_nil]; omega) (by simp only [List.length_cons, List.length_nil]; omega)) ?_
      rintro _ _ ⟨v19, -, rfl, rfl⟩
      refine st rfl rfl rfl (yv_assign rfl rfl) ?_
      refine rg_nil (hK _ ?_); clear hK K
      refine c_reg ?_; intro K hK
      refine st rfl rfl rfl (yv_move rfl rfl) ?_
      refine st rfl rfl rfl (yv_shr (r := ((u / 128 : Nat) : Int)) rfl rfl rfl (by omega) shr_seven) ?_
      refine st rfl rfl rfl (yv_assign rfl rfl) ?_
      refine rg_nil (hK _ ?_); clear hK K
      refine c_nil (bn3 _ ?_)
      refine c_nil (ln2 _ ⟨⟨f, u / 128, k + 1⟩, ⟨v19, h ++ [UInt8.ofNat (u % 128 + 128)]⟩, ⟨?_, ?_, ?_⟩, ?_, le_sub (KN.le ⟨rfl, rfl, trivial⟩) (fun t v h => ?_)⟩)
      · show u / 128 < 128 ^ f; rw [Nat.pow_succ] at huf; omega
      · show (h ++ [_]) ++ encF f (u / 128) = _; rw [List.append_assoc, List.singleton_append, ← encF_ge f (by omega)]; exact hen
      · show (h ++ [_]).length = k + 1; rw [List.length_append, hhk]; rfl
      · show u / 128 < u; omega
      · by_cases h0 : t = 22004
        · subst h0; rw [upd_same] at h; rw [← h]; refine (upd_same _ _ _).trans ?_; simp [byteRows]
        · rw [upd_ne _ _ h0] at h; cases h
    · intro h13
      have hlt : u < 128 := by have h13 : ¬ (128 : Int) ≤ (u : Int) := h13; omega
      rw [encF_lt f hlt] at hen
      refine c_exit (lx2 _ _ (bx1 _ ?_))
      refine c_seq ?_
      refine c_reg ?_; intro K hK
      refine st rfl rfl rfl (yv_move rfl rfl) ?_
      refine st rfl rfl rfl (yv_move rfl rfl) ?_
      refine st rfl rfl rfl (yv_convInt (r := ((UInt8.ofNat u).toNat : Nat)) rfl Try.underlying76 Try.underlying5 rfl (u8_wrap _)) ?_
      refine st rfl rfl rfl (yv_buildSlice (ps := [(0, _)]) (rows := [[.sc (.int .u8 ((UInt8.ofNat u).toNat : Nat))]]) rfl Try.underlying39 bz5 (.cons rfl .nil) rfl rfl rfl rfl) ?_
      refine se rfl rfl rfl (yl_append .any rfl Try.underlying39 bz5 by5 rfl rfl (rfl) rfl rfl rfl rfl rfl ((byteRows_len h).trans hhk) (.refl _) (by intro r hr; simp at hr; subst hr; rfl) (by simp only [List.length_cons, List.length_nil]; omega) (by simp only [List.length_cons, List.length_nil]; omega)) ?_
      rintro _ _ ⟨v26, -, rfl, rfl⟩
      refine st rfl rfl rfl (yv_bytesToString (l := enc v) rfl Try.underlying39 Try.underlying5 Try.underlying9 rfl rfl rfl rfl (by rw [← hen, byteRows_append]; rfl) (by rw [← hen, List.length_append, hhk]; rfl)) ?_
      refine st rfl rfl rfl (yv_assign rfl rfl) ?_
      refine rg_nil (hK _ ?_); clear hK K
      refine c_ret (hret _ _ H0 (.tmp rfl .nil) (fun _ _ h => by cases h) ?_)
      exact rfl

theorem numref_p {v : Int} (hv : isI v) : PP Try.prog 22 [int v] (fun y => y = str (enc v)) := pp_of_pc (numref_pc hv) fun y H h => ⟨_, rfl, .sc _, by rw [h]; exact .refl _⟩

theorem codecBack_pc {l m : List Int} {cut : Int} (hv : ∀ v ∈ l, isI v) (hm : ∀ v ∈ m, isI v) (hc : isI cut) (hll : l.length ≤ 9223372036854775807) (hlm : m.length ≤ 9223372036854775807) : PC Try.prog 4 [ints l, ints m, int cut] H0 (fun y _ => y = boo true) := by
  obtain ⟨S, hS⟩ : ∃ S, S = l.flatMap enc ++ encL m := ⟨_, rfl⟩
  have hSne : S ≠ [] := by rw [hS]; intro h; exact encL_ne m (List.append_eq_nil_iff.1 h).2
  refine pc_of' (c := _) Try.func4 rfl rfl ?_
  intro Q hret hnorm
  refine c_seq ?_
  refine c_reg ?_; intro K hK
  refine st rfl rfl rfl (yv_assign rfl rfl) ?_
  refine rg_nil (hK _ ?_); clear hK K
  refine c_seq ?_
  refine c_seq ?_
  refine c_reg ?_; intro K hK
  refine st rfl rfl rfl (yv_move rfl rfl) ?_
  refine st rfl rfl rfl (yv_len_sl rfl Try.underlying22 rfl (lst_len _)) ?_
  refine st rfl rfl rfl (yv_gtr rfl rfl rfl) ?_
  refine st rfl rfl rfl (yv_move rfl rfl) ?_
  refine sdec 15 rfl ?_ ?_
  · intro g15
    refine sk rfl rfl rfl ?_
    refine sk rfl rfl rfl ?_
    refine sk rfl rfl rfl ?_
    refine st rfl rfl rfl (yv_pick rfl rfl (fun _ => rfl) (fun _ => rfl) rfl) ?_
    refine rg_nil (hK _ ?_); clear hK K
    refine c_true rfl ?_
    refine c_seq ?_
    refine c_reg ?_; intro K hK
    refine st rfl rfl rfl (yv_callP rfl rfl .nil cal9 (CvL.refl _) (awake_p)) ?_
    refine st rfl rfl rfl (yv_assign rfl rfl) ?_
    refine rg_nil (hK _ ?_); clear hK K
    refine c_ret (hret _ _ H0 (.tmp rfl .nil) (fun _ _ h => by cases h) ?_)
    exact rfl
  · intro g15
    refine st rfl rfl rfl (yv_move rfl rfl) ?_
    refine st rfl rfl rfl (yv_len_sl rfl Try.underlying22 rfl (lst_len _)) ?_
    refine st rfl rfl rfl (yv_gtr rfl rfl rfl) ?_
    refine st rfl rfl rfl (yv_pick rfl rfl (fun _ => rfl) (fun _ => rfl) rfl) ?_
    refine rg_nil (hK _ ?_); clear hK K
    refine c_dec rfl ?_ ?_
    · intro h19
      refine c_seq ?_
      refine c_reg ?_; intro K hK
      refine st rfl rfl rfl (yv_callP rfl rfl .nil cal9 (CvL.refl _) (awake_p)) ?_
      refine st rfl rfl rfl (yv_assign rfl rfl) ?_
      refine rg_nil (hK _ ?_); clear hK K
      refine c_ret (hret _ _ H0 (.tmp rfl .nil) (fun _ _ h => by cases h) ?_)
      exact rfl
    · intro h19
      have hl40 : l.length ≤ 40 := by omega
      have hm40 : m.length ≤ 40 := by omega
      have hfl := flat_len l
      have hml := encL_len m
      have hSl : S.length ≤ 10000 := by rw [hS, List.length_append]; omega
      have hSp : 0 < S.length := List.length_pos_iff.2 hSne
      refine c_skip ?_
      refine c_seq ?_
      refine c_reg ?_; intro K hK
      refine st rfl rfl rfl (yv_assign rfl rfl) ?_
      refine rg_nil (hK _ ?_); clear hK K
      refine c_seq ?_
      refine c_seq ?_
      refine c_reg ?_; intro K hK
      refine st rfl rfl rfl (yv_assign rfl rfl) ?_
      refine rg_nil (hK _ ?_); clear hK K
      refine c_block ?_; intro Q1 bn1 bx1 br1 bo1
      refine c_loop (ι := Nat) (fun k => ⟨kn [(0, ints l), (1, ints m), (2, int cut), (7, str ((l.take k).flatMap enc)), (8, int k)], H0⟩) (fun k => k ≤ l.length) (fun k => l.length - k) 0 (Nat.zero_le _) (le_kn' ⟨rfl, rfl, rfl, rfl, rfl, trivial⟩) ?_
      rintro k hk Q2 ln2 lx2 lr2
      refine c_seq ?_
      refine c_seq ?_
      refine c_reg ?_; intro K hK
      refine st rfl rfl rfl (yv_move rfl rfl) ?_
      refine st rfl rfl rfl (yv_move rfl rfl) ?_
      refine st rfl rfl rfl (yv_len_sl rfl Try.underlying22 rfl (lst_len _)) ?_
      refine st rfl rfl rfl (yv_lss rfl rfl rfl) ?_
      refine rg_nil (hK _ ?_); clear hK K
      refine c_dec rfl ?_ ?_
      · intro h24
        have hkl : k < l.length := by omega
        have hfk := flat_len (l.take k)
        have htk : (l.take k).length ≤ 40 := by rw [List.length_take]; omega
        have hek := enc_len l[k]
        refine c_skip ?_
        refine c_seq ?_
        refine c_block ?_; intro Q3 bn3 bx3 br3 bo3
        refine c_seq ?_
        refine c_seq ?_
        refine c_draw [0, 0, 3, 7, 15, 0, 0, 96, 224, 511, 1023] (fun _ _ => true) (fun _ => none) mixed (by kernel_rfl) ?_; intro C K hK
        refine dg_pure rfl (fun H hH => yv_move rfl rfl) ?_
        refine dg_pure rfl (fun H hH => yv_move rfl rfl) ?_
        refine dg_pure rfl (fun H hH => yv_ixl rfl Try.underlying22 sh3 rfl rfl rfl hkl rfl) ?_
        refine dg_pure rfl (fun H hH => yv_load rfl sh3 rfl (by first | exact .pp _ | exact .pt ((hH _ rfl).trans (rfl)) rfl rfl) rfl) ?_
        refine dg_pure rfl (fun H hH => yv_callP rfl rfl (.cons rfl .nil) cal21 (CvL.refl _) (num_p (hv _ (List.getElem_mem hkl)))) ?_
        refine dg_pure rfl (fun H hH => yv_move rfl rfl) ?_
        refine dg_pure rfl (fun H hH => yv_move rfl rfl) ?_
        refine dg_pure rfl (fun H hH => yv_ixl rfl Try.underlying22 sh3 rfl rfl rfl hkl rfl) ?_
        refine dg_pure rfl (fun H hH => yv_load rfl sh3 rfl (by first | exact .pp _ | exact .pt ((hH _ rfl).trans (rfl)) rfl rfl) rfl) ?_
        refine dg_pure rfl (fun H hH => yv_callP rfl rfl (.cons rfl .nil) cal22 (CvL.refl _) (numref_p (hv _ (List.getElem_mem hkl)))) ?_
        refine dg_pure rfl (fun H hH => yv_to (y := boo false) (yv_sneq rfl rfl rfl) (by simp)) ?_
        refine dg_nil (hK _ ?_); clear hK K
        refine c_false rfl ?_
        refine c_skip ?_
        refine c_reg ?_; intro K hK
        refine st rfl rfl rfl (yv_move rfl rfl) ?_
        refine st rfl rfl rfl (yv_move rfl rfl) ?_
        refine st rfl rfl rfl (yv_move rfl rfl) ?_
        refine st rfl rfl rfl (yv_ixl rfl Try.underlying22 sh3 rfl rfl rfl hkl rfl) ?_
        refine st rfl rfl rfl (yv_load rfl sh3 rfl (by first | exact .pp _ | exact .pt (rfl) rfl rfl) rfl) ?_
        refine st rfl rfl rfl (yv_callP rfl rfl (.cons rfl .nil) cal21 (CvL.refl _) (num_p (hv _ (List.getElem_mem hkl)))) ?_
        refine st rfl rfl rfl (yv_sadd rfl rfl rfl (by omega)) ?_
        refine st rfl rfl rfl (yv_assign rfl rfl) ?_
        refine rg_nil (hK _ ?_); clear hK K
        refine c_nil (bn3 _ ?_)
        refine c_as (t := 7) (str ((l.take (k + 1)).flatMap enc)) rfl (congrArg str (flat_take hkl).symm) ?_
        refine c_reg ?_; intro K hK
        refine st rfl rfl rfl (yv_move rfl rfl) ?_
        refine st rfl rfl rfl (yv_add rfl rfl rfl (wrap64 (by omega))) ?_
        refine st rfl rfl rfl (yv_assign rfl rfl) ?_
        refine rg_nil (hK _ ?_); clear hK K
        refine c_nil (ln2 _ ⟨k + 1, by omega, by omega, le_kn' ⟨rfl, rfl, rfl, rfl, rfl, trivial⟩⟩)
      · intro h24
        have hke : k = l.length := by omega
        subst hke
        have htl : (l.take l.length).flatMap enc = l.flatMap enc := by rw [List.take_length]
        refine c_exit (lx2 _ _ (bx1 _ ?_))
        refine c_seq ?_
        refine c_reg ?_; intro K hK
        refine st rfl rfl rfl (yv_move rfl rfl) ?_
        refine st rfl rfl rfl (yv_move rfl rfl) ?_
        refine st rfl rfl rfl (yv_callP rfl rfl (.cons rfl .nil) cal23 (CvL.refl _) (encl_p hm (by omega))) ?_
        refine st rfl rfl rfl (yv_sadd rfl rfl rfl (by rw [htl]; omega)) ?_
        refine st rfl rfl rfl (yv_assign rfl rfl) ?_
        refine rg_nil (hK _ ?_); clear hK K
        refine c_seq ?_
        refine c_seq ?_
        refine c_as (t := 7) (str S) rfl (congrArg str (by rw [htl, hS])) ?_
        refine c_reg ?_; intro K hK
        refine st rfl rfl rfl (yv_move rfl rfl) ?_
        refine st rfl rfl rfl (yv_to (y := boo false) (yv_seql (m := []) rfl rfl rfl) (by simp [hSne])) ?_
        refine rg_nil (hK _ ?_); clear hK K
        refine c_false rfl ?_
        refine c_skip ?_
        refine c_seq ?_
        obtain ⟨p, hp, hpl⟩ := plc_nat (v := cut) hSp
        refine c_reg ?_; intro K hK
        refine st rfl rfl rfl (yv_move rfl rfl) ?_
        refine se rfl rfl rfl (yl_call rfl rfl (.cons rfl .nil) cal10 (new_c 4052 S)) ?_
        rintro _ _ ⟨v52, rfl, rfl⟩
        refine st rfl rfl rfl (yv_move rfl rfl) ?_
        refine st rfl rfl rfl (yv_move rfl rfl) ?_
        refine st rfl rfl rfl (yv_move rfl rfl) ?_
        refine st rfl rfl rfl (yv_len_str rfl Try.underlying9 rfl) ?_
        refine st rfl rfl rfl (yv_callP rfl rfl (.cons rfl (.cons rfl .nil)) cal11 (CvL.refl _) (place_p hc (by omega))) ?_
        refine st rfl rfl rfl (yv_slice_str rfl Try.underlying9 rfl .no (.yes (i := p) rfl hp) (Nat.zero_le _) (Nat.le_of_lt hpl)) ?_
        refine se rfl rfl rfl (yl_call rfl rfl (.cons rfl .nil) cal10 (new_c 4059 (S.take p))) ?_
        rintro _ _ ⟨v59, rfl, rfl⟩
        refine st rfl rfl rfl (yv_assign rfl rfl) ?_
        refine st rfl rfl rfl (yv_assign rfl rfl) ?_
        refine rg_nil (hK _ ?_); clear hK K
        refine c_seq ?_
        refine c_seq ?_
        refine c_reg ?_; intro K hK
        refine st rfl rfl rfl (yv_move rfl rfl) ?_
        refine st rfl rfl rfl (yv_ptnil rfl Try.underlying24 rfl (.pt rfl rfl rfl) rfl) ?_
        refine st rfl rfl rfl (yv_move rfl rfl) ?_
        refine st rfl rfl rfl (yv_move rfl rfl) ?_
        refine st rfl rfl rfl (yv_ptnil rfl Try.underlying24 rfl (.pt rfl rfl rfl) rfl) ?_
        refine st rfl rfl rfl (yv_pick rfl rfl (fun _ => rfl) (fun _ => rfl) rfl) ?_
        refine rg_nil (hK _ ?_); clear hK K
        refine c_false rfl ?_
        refine c_skip ?_
        refine c_seq ?_
        refine c_seq ?_
        refine c_reg ?_; intro K hK
        refine st rfl rfl rfl (yv_assign rfl rfl) ?_
        refine rg_nil (hK _ ?_); clear hK K
        refine c_block ?_; intro Q1 bn1 bx1 br1 bo1
        subst hS
        refine c_loop2 (ι := Nat) (κ := RS) (fun k c => ⟨kn [(0, ints l), (1, ints m), (9, .pt 4052 v52 0 0), (10, .pt 4059 v59 0 0), (11, int k)], upd (upd H0 4052 (some (rdr 75 v52 ((l.drop k).flatMap enc ++ encL m, false)))) 4059 (some (rdr 75 v59 c))⟩) (fun k c => k ≤ l.length ∧ Cut ((l.drop k).flatMap enc ++ encL m) c) (fun k c => l.length - k) 0 ((l.flatMap enc ++ encL m).take p, false) ⟨Nat.zero_le _, .inr ⟨rfl, p, hpl, rfl⟩⟩ (le_kn' ⟨rfl, rfl, rfl, rfl, rfl, trivial⟩) ?_
        rintro k c ⟨hk, hcut⟩ Q2 ln2 lx2 lr2
        have hcl := cut_len hcut
        have hdl := flat_len (l.drop k)
        have hdk : (l.drop k).length ≤ 40 := by rw [List.length_drop]; omega
        have hal : ((l.drop k).flatMap enc ++ encL m).length ≤ 10000 := by rw [List.length_append]; omega
        refine c_seq ?_
        refine c_seq ?_
        refine c_reg ?_; intro K hK
        refine st rfl rfl rfl (yv_move rfl rfl) ?_
        refine st rfl rfl rfl (yv_move rfl rfl) ?_
        refine st rfl rfl rfl (yv_len_sl rfl Try.underlying22 rfl (lst_len _)) ?_
        refine st rfl rfl rfl (yv_lss rfl rfl rfl) ?_
        refine rg_nil (hK _ ?_); clear hK K
        refine c_dec rfl ?_ ?_
        · intro h69
          have hkl : k < l.length := by omega
          have hnd := num_drop hv hkl (encL m)
          refine c_skip ?_
          refine c_seq ?_
          refine c_block ?_; intro Q3 bn3 bx3 br3 bo3
          refine c_seq ?_
          refine c_reg ?_; intro K hK
          refine st rfl rfl rfl (yv_move rfl rfl) ?_
          refine se rfl rfl rfl (yl_call rfl rfl (.cons rfl .nil) cal12 (numP_c rfl (by omega))) ?_
          rintro _ _ ⟨rfl, rfl⟩
          refine rg_nil (hK _ ?_); clear hK K
          refine c_seq ?_
          refine c_draw [0, 1, 0, 0, 12, 28, 63] (fun i _ => Nat.beq i 1) (fun i => bif Nat.beq i 1 then some 4052 else none) mixed (by kernel_rfl) ?_; intro C K hK
          refine dg_pure rfl (fun H hH => yv_move rfl rfl) ?_
          refine dg_eff (k := 4052) (ob := some (rdr 75 v52 ((l.drop (k + 1)).flatMap enc ++ encL m, false))) (x := int l[k]) rfl rfl (fun H hH => ?_) ?_
          · refine (yl_callW (id := 4052) (y0 := int l[k]) (ob := rdr 75 v52 ((l.drop k).flatMap enc ++ encL m, false)) (ob' := rdr 75 v52 ((l.drop (k + 1)).flatMap enc ++ encL m, false)) rfl rfl (.cons rfl .nil) cal12 ?_ (.sc _) ((hH 4052 rfl).trans rfl) rfl pv_rdr).weak (fun _ h => h.elim) (fun _ h => h.elim)
            refine (numP_c (s := ((l.drop k).flatMap enc ++ encL m, false)) (id := 4052) (ver := v52) ((hH 4052 rfl).trans rfl) (show ((l.drop k).flatMap enc ++ encL m).length ≤ _ by omega)).mono ?_
            rintro y H1 ⟨h1, h2⟩
            exact ⟨h1.trans (by rw [hnd.1]), h2.trans (by rw [hnd.2])⟩
          refine dg_pure rfl (fun H hH => yv_move rfl rfl) ?_
          refine dg_pure rfl (fun H hH => yv_move rfl rfl) ?_
          refine dg_pure rfl (fun H hH => yv_ixl rfl Try.underlying22 sh3 rfl rfl rfl hkl rfl) ?_
          refine dg_pure rfl (fun H hH => yv_load rfl sh3 rfl (by first | exact .pp _ | exact .pt ((hH _ rfl).trans (rfl)) rfl rfl) rfl) ?_
          refine dg_pure rfl (fun H hH => yv_to (y := boo false) (yv_neq rfl rfl rfl) (by simp)) ?_
          refine dg_nil (hK _ ?_); clear hK K
          refine c_false rfl ?_
          refine c_skip ?_
          refine c_nil (bn3 _ ?_)
          refine c_reg ?_; intro K hK
          refine st rfl rfl rfl (yv_move rfl rfl) ?_
          refine st rfl rfl rfl (yv_add rfl rfl rfl (wrap64 (by omega))) ?_
          refine st rfl rfl rfl (yv_assign rfl rfl) ?_
          refine rg_nil (hK _ ?_); clear hK K
          refine c_nil (ln2 _ ⟨k + 1, numR c, ⟨by omega, cut_drop hv hkl hcut⟩, by omega, le_sub (KN.le ⟨rfl, rfl, rfl, rfl, rfl, trivial⟩) (fun t v h => ?_)⟩)
          by_cases h59 : t = 4059
          · subst h59; rw [upd_same] at h; rw [← h]; rfl
          · rw [upd_ne _ _ h59] at h
            by_cases h1 : t = 4052
            · subst h1; rw [upd_same] at h; rw [← h]; rfl
            · rw [upd_ne _ _ h1] at h; cases h
        · intro h69
          have hke : k = l.length := by omega
          subst hke
          have hrm : (l.drop l.length).flatMap enc ++ encL m = encL m := by rw [List.drop_length]; rfl
          rw [hrm] at hcut
          have hlc := lst_cut hm (most := 40) (by omega) hlm hcut
          have hlr : lstV (encL m, false) 40 = m ∧ lstR (encL m, false) 40 = ([], false) := by
            have := lst_enc hm (most := 40) (by omega) hlm []
            rwa [List.append_nil] at this
          refine c_exit (lx2 _ _ (bx1 _ ?_))
          refine c_seq ?_
          rw [hrm]
          refine c_reg ?_; intro K hK
          refine st rfl rfl rfl (yv_move rfl rfl) ?_
          refine se rfl rfl rfl (yl_call rfl rfl (.cons rfl (.cons rfl .nil)) cal17 (listP_c rfl (by omega) (cut_okS hcut) rfl rfl)) ?_
          rintro _ _ ⟨rfl, rfl⟩
          rw [hlc]
          refine rg_nil (hK _ ?_); clear hK K
          refine c_seq ?_
          refine c_reg ?_; intro K hK
          refine st rfl rfl rfl (yv_move rfl rfl) ?_
          refine se rfl rfl rfl (yl_call rfl rfl (.cons rfl (.cons rfl .nil)) cal17 (listP_c (s := (encL m, false)) rfl (by show (encL m).length ≤ _; omega) (fun h => by cases h) rfl rfl)) ?_
          rintro _ _ ⟨rfl, rfl⟩
          rw [hlr.1, hlr.2]
          refine st rfl rfl rfl (yv_move rfl rfl) ?_
          refine st rfl rfl rfl (yv_callP rfl rfl (.cons rfl (.cons rfl .nil)) cal16 (CvL.refl _) (sameInts_p m m (by omega))) ?_
          refine slit 86 true rfl (decide_eq_true rfl) ?_
          refine st rfl rfl rfl (yv_move rfl rfl) ?_
          refine st rfl rfl rfl (yv_move rfl rfl) ?_
          refine st rfl rfl rfl (yv_callR rfl rfl (.cons rfl .nil) cal20 (leftP_c rfl) (.sc _)) ?_
          refine st rfl rfl rfl (yv_eql rfl rfl rfl) ?_
          refine slit 90 true rfl rfl ?_
          refine st rfl rfl rfl (yv_pick rfl rfl (fun _ => rfl) (fun _ => rfl) rfl) ?_
          refine st rfl rfl rfl (yv_move rfl rfl) ?_
          refine st rfl rfl rfl (yv_move rfl rfl) ?_
          refine st rfl rfl rfl (yv_callR rfl rfl (.cons rfl .nil) cal19 (badP_c rfl) (.sc _)) ?_
          refine st rfl rfl rfl (yv_not rfl rfl rfl) ?_
          refine slit 95 true rfl rfl ?_
          refine st rfl rfl rfl (yv_pick rfl rfl (fun _ => rfl) (fun _ => rfl) rfl) ?_
          refine st rfl rfl rfl (yv_move rfl rfl) ?_
          refine st rfl rfl rfl (yv_move rfl rfl) ?_
          refine st rfl rfl rfl (yv_callR rfl rfl (.cons rfl .nil) cal19 (badP_c rfl) (.sc _)) ?_
          refine slit 99 true rfl rfl ?_
          refine st rfl rfl rfl (yv_pick rfl rfl (fun _ => rfl) (fun _ => rfl) rfl) ?_
          refine st rfl rfl rfl (yv_move rfl rfl) ?_
          refine st rfl rfl rfl (yv_move rfl rfl) ?_
          refine st rfl rfl rfl (yv_callR rfl rfl (.cons rfl .nil) cal20 (leftP_c rfl) (.sc _)) ?_
          refine st rfl rfl rfl (yv_eql rfl rfl rfl) ?_
          refine slit 104 true rfl rfl ?_
          refine st rfl rfl rfl (yv_pick rfl rfl (fun _ => rfl) (fun _ => rfl) rfl) ?_
          refine st rfl rfl rfl (yv_move rfl rfl) ?_
          refine st rfl rfl rfl (yv_callP rfl rfl .nil cal9 (CvL.refl _) (awake_p)) ?_
          refine st rfl rfl rfl (yv_pick rfl rfl (fun _ => rfl) (fun _ => rfl) rfl) ?_
          refine st rfl rfl rfl (yv_assign rfl rfl) ?_
          refine rg_nil (hK _ ?_); clear hK K
          refine c_ret (hret _ _ H0 (.tmp rfl .nil) (fun _ _ h => by cases h) ?_)
          exact rfl
end Go.Pv
