/- Plain laws: MasterBack. -/
import Derived.Test.YtnbiheccdpbfiaaPlH
set_option linter.unusedSimpArgs false
set_option linter.unusedVariables false
set_option maxRecDepth 100000
namespace Go.Pv
/-! ### Read again -/
theorem cut_lst {m : List Int} (hm : ∀ v ∈ m, isI v) {most : Int} (hl : (m.length : Int) ≤ most) (hlm : m.length ≤ 9223372036854775807) {R : List UInt8} {s : RS} (h : Cut (encL m ++ R) s) : Cut R (lstR s most) := by
  unfold encL at h
  rw [List.append_assoc] at h
  unfold lstR
  rcases cut_num (isI_len hlm) h with ⟨h1, h2⟩ | ⟨h1, h2⟩
  · have hc : cntV s most = 0 := by unfold cntV; rw [h2]; split <;> rfl
    have hr : cntR s most = ([], true) := by unfold cntR; rw [h1]; split <;> rfl
    rw [hc, hr]; exact .inl rfl
  · have hc : cntV s most = m.length := by unfold cntV; rw [h1, if_neg (by omega)]
    have hr : cntR s most = numR s := by unfold cntR; rw [h1, if_neg (by omega)]
    rw [hc, hr, Int.toNat_natCast]
    have := nums_cut hm h2 m.length (Nat.le_refl _)
    rw [List.drop_length] at this
    exact this
theorem cut_cnt {v : Int} (hv : isI v) {most : Int} (h0 : 0 ≤ v) (hm : v ≤ most) {R : List UInt8} {s : RS} (h : Cut (enc v ++ R) s) : (cntR s most = ([], true) ∧ cntV s most = 0) ∨ (cntV s most = v ∧ Cut R (cntR s most)) := by
  rcases cut_num hv h with ⟨h1, h2⟩ | ⟨h1, h2⟩
  · exact .inl ⟨by unfold cntR; rw [h1]; split <;> rfl, by unfold cntV; rw [h2]; split <;> rfl⟩
  · exact .inr ⟨by unfold cntV; rw [h1, if_neg (by omega)], by unfold cntR; rw [h1, if_neg (by omega)]; exact h2⟩
theorem rows_cut : ∀ (l : List (List Int)) {R : List UInt8} {s : RS} (a : List (List Int)), (∀ r ∈ l, r.length ≤ 5 ∧ ∀ v ∈ r, isI v) → Cut (l.flatMap encL ++ R) s → Cut R (rows l.length s a).1
  | [], R, s, a, _, h => h
  | x :: l, R, s, a, hl, h => by
    rw [List.flatMap_cons, List.append_assoc] at h
    have hx := hl x (List.mem_cons_self ..)
    exact rows_cut l _ (fun r hr => hl r (List.mem_cons_of_mem _ hr)) (cut_lst hx.2 (by omega) (by omega) h)
theorem rows_enc : ∀ (l : List (List Int)) (R : List UInt8) (a : List (List Int)), (∀ r ∈ l, r.length ≤ 5 ∧ ∀ v ∈ r, isI v) → rows l.length (l.flatMap encL ++ R, false) a = ((R, false), a ++ l)
  | [], R, a, _ => by simp [rows]
  | x :: l, R, a, hl => by
    have hx := hl x (List.mem_cons_self ..)
    have e := lst_enc hx.2 (most := 5) (by omega) (by omega) (l.flatMap encL ++ R)
    rw [List.flatMap_cons, List.append_assoc]
    show rows l.length _ _ = _
    rw [e.1, e.2, rows_enc l R _ (fun r hr => hl r (List.mem_cons_of_mem _ hr))]; simp
theorem good_rows {m : GMaster} (h : goodM m = true) : (∀ r ∈ m.Methods, r.length ≤ 5 ∧ ∀ v ∈ r, isI v) ∧ (∀ r ∈ m.Costs, r.length ≤ 5 ∧ ∀ v ∈ r, isI v) ∧ ∀ v ∈ m.Weights, isI v := by
  obtain ⟨h1, h2, h3, h4, ⟨h5, h6⟩, h7, h8⟩ := goodM_e h
  unfold isI
  exact ⟨fun r hr => ⟨by have := (h6 r hr).1; omega, fun v hv => by have := (h6 r hr).2 v hv; omega⟩, fun r hr => ⟨by have := (h8 r hr).1; omega, fun v hv => by have := (h8 r hr).2 v hv; omega⟩, fun v hv => by have := h4 v hv; omega⟩
theorem bytesM_g {m : GMaster} (h : goodM m = true) : bytesM m = enc m.Entities ++ (enc m.Periods ++ (encL m.Weights ++ (m.Methods.flatMap encL ++ (m.Costs.flatMap encL ++ [])))) := by
  unfold bytesM; rw [h]; simp [List.append_assoc]
theorem readM_back {m : GMaster} (h : goodM m = true) : readM (bytesM m) = (m, 0) := by
  obtain ⟨h1, h2, h3, h4, ⟨h5, h6⟩, h7, h8⟩ := goodM_e h
  obtain ⟨g1, g2, g3⟩ := good_rows h
  unfold readM
  rw [bytesM_g h]
  obtain ⟨n1, n2⟩ := num_enc (v := m.Entities) ⟨by omega, by omega⟩ (enc m.Periods ++ (encL m.Weights ++ (m.Methods.flatMap encL ++ (m.Costs.flatMap encL ++ [])))) false
  have c1 : cntV (enc m.Entities ++ (enc m.Periods ++ (encL m.Weights ++ (m.Methods.flatMap encL ++ (m.Costs.flatMap encL ++ [])))), false) 4 = m.Entities := by unfold cntV; rw [n1, if_neg (by omega)]
  have c2 : cntR (enc m.Entities ++ (enc m.Periods ++ (encL m.Weights ++ (m.Methods.flatMap encL ++ (m.Costs.flatMap encL ++ [])))), false) 4 = (enc m.Periods ++ (encL m.Weights ++ (m.Methods.flatMap encL ++ (m.Costs.flatMap encL ++ []))), false) := by unfold cntR; rw [n1, n2, if_neg (by omega)]
  rw [c1, c2]
  obtain ⟨n3, n4⟩ := num_enc (v := m.Periods) ⟨by omega, by omega⟩ (encL m.Weights ++ (m.Methods.flatMap encL ++ (m.Costs.flatMap encL ++ []))) false
  have c3 : cntV (enc m.Periods ++ (encL m.Weights ++ (m.Methods.flatMap encL ++ (m.Costs.flatMap encL ++ []))), false) 12 = m.Periods := by unfold cntV; rw [n3, if_neg (by omega)]
  have c4 : cntR (enc m.Periods ++ (encL m.Weights ++ (m.Methods.flatMap encL ++ (m.Costs.flatMap encL ++ []))), false) 12 = (encL m.Weights ++ (m.Methods.flatMap encL ++ (m.Costs.flatMap encL ++ [])), false) := by unfold cntR; rw [n3, n4, if_neg (by omega)]
  rw [c3, c4]
  obtain ⟨l1, l2⟩ := lst_enc g3 (most := 5) (by omega) (by omega) (m.Methods.flatMap encL ++ (m.Costs.flatMap encL ++ []))
  have e1 : m.Entities.toNat = m.Methods.length := by omega
  have e2 : m.Entities.toNat = m.Costs.length := by omega
  have r1 := rows_enc m.Methods (m.Costs.flatMap encL ++ []) [] g1
  have r2 := rows_enc m.Costs [] [] g2
  have t : readT m.Entities.toNat m.Periods (encL m.Weights ++ (m.Methods.flatMap encL ++ (m.Costs.flatMap encL ++ [])), false) = (([], false), m) := by
    unfold readT
    rw [l1, l2]
    have a1 : rows m.Entities.toNat (m.Methods.flatMap encL ++ (m.Costs.flatMap encL ++ []), false) [] = ((m.Costs.flatMap encL ++ [], false), m.Methods) := by rw [e1, r1]; rfl
    rw [a1]
    have a2 : rows m.Entities.toNat (m.Costs.flatMap encL ++ [], false) [] = (([], false), m.Costs) := by rw [e2, r2]; rfl
    rw [a2]
    have : ((m.Entities.toNat : Nat) : Int) = m.Entities := by omega
    rw [this]
  rw [t]; unfold finT; simp only [h, decide_true, Bool.not_true, Bool.or_false, cnd_f]
theorem finT_bad {t : RS × GMaster} (h : t.1.2 = true) : finT t = (zeroM, 3) := by unfold finT; rw [h]; rfl
theorem readT_bad (x : Nat) (p : Int) {s : RS} (h : s = ([], true)) : finT (readT x p s) = (zeroM, 3) := by
  subst h
  apply finT_bad
  have o : okS (([], true) : RS) := fun _ => rfl
  have h1 := lst_bad o rfl
  have o1 := okS_lst o 5
  have h2 := rows_bad x _ [] o1 h1
  have o2 := (rows_ok x (lstR ([], true) 5) [] o1 (by intro r hr; cases hr)).1
  exact rows_bad x _ [] o2 h2
theorem readM_cut {m : GMaster} (h : goodM m = true) {q : Nat} (hq : q < (bytesM m).length) : readM ((bytesM m).take q) = (zeroM, 3) := by
  obtain ⟨h1, h2, h3, h4, ⟨h5, h6⟩, h7, h8⟩ := goodM_e h
  obtain ⟨g1, g2, g3⟩ := good_rows h
  have c0 : Cut (bytesM m) ((bytesM m).take q, false) := .inr ⟨rfl, q, hq, rfl⟩
  unfold readM
  generalize ((bytesM m).take q, false) = s at c0
  rw [bytesM_g h] at c0
  rcases cut_cnt (most := 4) ⟨by omega, by omega⟩ (by omega) (by omega) c0 with ⟨b1, b2⟩ | ⟨b1, b2⟩
  · rw [b1, b2]
    have e : cntR ([], true) 12 = ([], true) := by decide
    rw [e]; exact readT_bad _ _ rfl
  · rw [b1]
    rcases cut_cnt (most := 12) ⟨by omega, by omega⟩ (by omega) (by omega) b2 with ⟨b3, b4⟩ | ⟨b3, b4⟩
    · rw [b3, b4]; exact readT_bad _ _ rfl
    · have b5 := cut_lst g3 (most := 5) (by omega) (by omega) b4
      have b6 := rows_cut m.Methods [] g1 b5
      have b7 := rows_cut m.Costs [] g2 b6
      apply finT_bad
      have e1 : m.Entities.toNat = m.Methods.length := by omega
      have e2 : m.Methods.length = m.Costs.length := by omega
      unfold readT
      rw [e1]
      have := cut_nil b7
      rw [← e2] at this
      show (rows _ _ _).1.2 = true
      rw [this]
theorem ix_some {α : Type} {l : List α} {i : Int} (h0 : 0 ≤ i) (h : i < (l.length : Int)) : ∃ v, ix l i = some v ∧ v ∈ l := by
  obtain ⟨v, hv⟩ := get_some (l := l) (k := i.toNat) (by omega)
  exact ⟨v, ix_v h0 hv, mem_get hv⟩
theorem bind_ex {α β : Type} {A : Option α} {f : α → Option β} {y : Option β} (Q : α → Prop) (h : ∃ t, A = some t ∧ Q t) (k : ∀ t, Q t → f t = y) : A.bind f = y := by
  obtain ⟨t, h1, h2⟩ := h; rw [h1]; exact k t h2

theorem w64_d {a : Int} {c : Int} (hc : 8 ≤ c) (ha : isI a) : w64 (a.tdiv c) = a.tdiv c := by
  refine w64_v ?_
  unfold isI at ha
  have h1 : (a.tdiv c).natAbs ≤ a.natAbs / 8 := by rw [Int.natAbs_tdiv]; exact Nat.div_le_div_left (by omega) (by decide)
  omega
theorem place_any (a : Int) {c : Int} (hc : 0 < c) (hc2 : c ≤ 4611686018427387904) : ∃ p, d_law00_Place a c = some p ∧ 0 ≤ p ∧ p < c := place_v a hc hc2
theorem set_mem {l : List (List Int)} {i : Nat} {r x : List Int} (hl : ∀ y ∈ l, y.length ≤ 20) (hr : r.length ≤ 20) (hx : x ∈ l.set i r) : x.length ≤ 20 := by
  rcases List.mem_or_eq_of_mem_set hx with h | h
  · exact hl x h
  · rw [h]; exact hr
/-- What the turning of a master leaves: bounds. -/
def Trn (m : GMaster) (t : Int × Int × Nat × Nat × List Int × Nat × Nat × List Int × List Int) : Prop :=
  t.2.2.1 + t.2.2.2.1 ≤ m.Methods.length ∧ t.2.2.2.2.1.length ≤ 20 ∧ t.2.2.2.2.2.1 + t.2.2.2.2.2.2.1 ≤ t.2.2.2.2.2.2.2.2.length ∧ t.2.2.2.2.2.2.2.1.length ≤ 20 ∧ t.2.2.2.2.2.2.2.2.length ≤ 20
theorem cnd_dec {α : Type} {p : Prop} [Decidable p] {a b : Option α} {Q : α → Prop} (ht : p → ∃ t, a = some t ∧ Q t) (hf : ¬ p → ∃ t, b = some t ∧ Q t) : ∃ t, cond (decide p) a b = some t ∧ Q t := by
  by_cases h : p
  · rw [dec_t h]; exact ht h
  · rw [dec_f h]; exact hf h
theorem masterBack_plain {v how n cut : Int} (hh : isI how) : d_law04_MasterBack 8000 v how n cut = some true := by
  obtain ⟨m, hm, hg, e2, w2⟩ := master_v v 8000 (by decide)
  have hf := good_few hg
  obtain ⟨h1, h2, h3, h4, ⟨h5, h6⟩, h7, h8⟩ := goodM_e hg
  have hrb := readM_back hg
  have hlb : 5 ≤ (bytesM m).length := by
    rw [bytesM_g hg]
    have a1 := List.length_pos_iff.2 (enc_ne m.Entities)
    have a2 := List.length_pos_iff.2 (enc_ne m.Periods)
    have a3 := List.length_pos_iff.2 (encL_ne m.Weights)
    have flat : ∀ (l : List (List Int)), l.length ≤ (l.flatMap encL).length := by
      intro l
      induction l with
      | nil => exact Nat.zero_le _
      | cons x l ih => have := List.length_pos_iff.2 (encL_ne x); rw [List.flatMap_cons, List.length_append, List.length_cons]; omega
    have a4 := flat m.Methods
    simp only [List.length_append]; omega
  have hlb2 : (bytesM m).length ≤ 1000 := by
    rw [bytesM_g hg]
    have a1 := enc_len m.Entities
    have a2 := enc_len m.Periods
    have a3 := encL_len m.Weights
    have flat : ∀ (l : List (List Int)), (∀ r ∈ l, r.length ≤ 5) → (l.flatMap encL).length ≤ 66 * l.length := by
      intro l
      induction l with
      | nil => intro _; exact Nat.zero_le _
      | cons x l ih =>
        intro h
        have := encL_len x
        have := ih fun r hr => h r (List.mem_cons_of_mem _ hr)
        have := h x (List.mem_cons_self ..)
        rw [List.flatMap_cons, List.length_append, List.length_cons]; omega
    have a4 := flat m.Methods (fun r hr => by have := (h6 r hr).1; omega)
    have a5 := flat m.Costs (fun r hr => by have := (h8 r hr).1; omega)
    simp only [List.length_append, List.length_nil]; omega
  obtain ⟨i, i1, i2⟩ := place_any (how.tdiv 8) (c := m.Entities) (by omega) (by omega)
  obtain ⟨k, k1, k2⟩ := place_any (how.tdiv 40) (c := (m.Weights.length : Int)) (by omega) (by omega)
  obtain ⟨j, j1, j2⟩ := place_any (how.tdiv 200) (c := 6) (by decide) (by decide)
  obtain ⟨s, s1, s2⟩ := place_any how (c := 8) (by decide) (by decide)
  obtain ⟨c, c1, c2⟩ := place_any cut (c := ((bytesM m).length : Int)) (by omega) (by omega)
  obtain ⟨x, x1, _⟩ := ix_some (l := [(-1), 0, 1073741824, 1073741825, 5, n]) (i := j) (by omega) (by simpa using j2.2)
  obtain ⟨mr, mr1, mr2⟩ := ix_some (l := m.Methods) (i := i) (by omega) (by omega)
  obtain ⟨cr, cr1, cr2⟩ := ix_some (l := m.Costs) (i := i) (by omega) (by omega)
  have mrl := (h6 mr mr2).1
  have crl := (h8 cr cr2).1
  obtain ⟨u1, hu1, _⟩ := ix_some (l := m.Weights) (i := k) (by omega) (by omega)
  obtain ⟨u2, hu2, _⟩ := ix_some (l := mr) (i := k) (by omega) (by omega)
  obtain ⟨u3, hu3, _⟩ := ix_some (l := cr) (i := k) (by omega) (by omega)
  simp only [d_law04_MasterBack, hm, ob_s, bytes_v hf 8000 (by decide), read_v hlb2 8000 (by decide), hrb, rsame_v hf 8000 (by decide), dne_self, decide_true, Bool.not_true, bnd_v, cnd_f, dec_f (show ¬ ((bytesM m).length : Int) < 5 by omega),
    w64_d (a := how) (c := 8) (by decide) hh, w64_d (a := how) (c := 40) (by decide) hh, w64_d (a := how) (c := 200) (by decide) hh, i1, k1, j1, s1, x1, mr1, cr1]
  rw [asrt_t (by omega), asrt_t (by omega), asrt_t (by omega), asrt_t (by omega), asrt_t (by omega)]
  refine bind_ex (Trn m) ?_ ?_
  · have wl := hf.w
    refine cnd_dec (fun _ => ⟨_, rfl, ⟨by simp, by simpa using wl, by simp, by simp; omega, by simp; omega⟩⟩) fun _ => ?_
    refine cnd_dec (fun _ => ⟨_, rfl, ⟨by simp, by simpa using wl, by simp, by simp; omega, by simp; omega⟩⟩) fun _ => ?_
    refine cnd_dec (fun _ => ?_) fun _ => ?_
    · simp only [hu1, ob_s]
      exact ⟨_, rfl, ⟨by simp, by simpa using wl, by simp, by simp; omega, by simp; omega⟩⟩
    refine cnd_dec (fun _ => ?_) fun _ => ?_
    · simp only [hu2, ob_s]
      exact ⟨_, rfl, ⟨by simp, by simpa using wl, by simp, by simp; omega, by simp; omega⟩⟩
    refine cnd_dec (fun _ => ?_) fun _ => ?_
    · simp only [hu3, ob_s]
      exact ⟨_, rfl, ⟨by simp, by simpa using wl, by simp, by simp; omega, by simp; omega⟩⟩
    refine cnd_dec (fun _ => ?_) fun _ => ?_
    · rw [asrt_t (by omega)]
      exact ⟨_, rfl, ⟨by simp, by simpa using wl, by simp; omega, by simp; omega, by simp; omega⟩⟩
    refine cnd_dec (fun _ => ?_) fun _ => ?_
    · rw [asrt_t (by omega)]
      exact ⟨_, rfl, ⟨by simp; omega, by simpa using wl, by simp, by simp; omega, by simp; omega⟩⟩
    · have : (m.Weights ++ ([1] : List Int)).length ≤ 20 := by rw [List.length_append]; simp; omega
      rw [asrt_t (by omega)]
      exact ⟨_, rfl, ⟨by simp, this, by simp, by simp; omega, by simp; omega⟩⟩
  · rintro ⟨t1, t2, t4, t5, t6, t7, t8, t9, t10⟩ ⟨q1, q2, q3, q4, q5⟩
    simp only [p2_v, c1, ob_s, List.drop_zero]
    have fm : Few ⟨t1, t2, t6, List.take t5 (List.drop t4 (m.Methods.set i.toNat t9)), m.Costs.set i.toNat (List.take t8 (List.drop t7 t10))⟩ := by
      refine ⟨q2, ?_, ?_, ?_, ?_⟩
      · have := hf.m
        show (List.take t5 (List.drop t4 (m.Methods.set i.toNat t9))).length ≤ 10
        rw [List.length_take, List.length_drop, List.length_set]; omega
      · intro r hr
        exact set_mem hf.mr q4 (List.mem_of_mem_drop (List.mem_of_mem_take hr))
      · have := hf.c
        show (m.Costs.set i.toNat _).length ≤ 10
        rw [List.length_set]; omega
      · intro r hr
        refine set_mem hf.cr ?_ hr
        rw [List.length_take, List.length_drop]; simp only at q5; omega
    have hcut := readM_cut hg (q := c.toNat) (by omega)
    have hlc : ((bytesM m).take c.toNat).length ≤ 1000 := by rw [List.length_take]; omega
    simp only [read_v hlc 8000 (by decide), hcut, ob_s, start_v fm 8000 (by decide), rstart_v fm 8000 (by decide), check_v fm 8000 (by decide), rcheck_v fm 8000 (by decide), bytes_v fm 8000 (by decide), rbytes_v fm 8000 (by decide), same_r (startM_fit fm) 8000 (by decide), awake_v, decide_true, cnd_t, bnd_v, asrt_t q1, asrt_t q3]
    rw [asrt_t (by omega)]
end Go.Pv
