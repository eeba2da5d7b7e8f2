/- ops: what was written is read again; cut it is none; a byte more is none. -/
import Derived.Test.YtpbcnilkippahaaP66
set_option linter.unusedSimpArgs false
set_option linter.unusedVariables false
namespace Go.Pv
set_option maxRecDepth 100000
set_option maxHeartbeats 1000000
def let8 (c : UInt8) : Prop := c = 101 ∨ c = 105 ∨ c = 108 ∨ c = 116 ∨ c = 113 ∨ c = 97 ∨ c = 114 ∨ c = 115
theorem hasM_8 (k : Int) : ∀ c ∈ hasM k, let8 c := by
  intro c hc
  unfold hasM at hc; unfold let8
  repeat' split at hc
  all_goals (simp only [List.mem_cons, List.not_mem_nil, or_false] at hc)
  all_goals (rcases hc with rfl | rfl | rfl | rfl | rfl | rfl | rfl | rfl <;> simp)
theorem fld_enc {o : GOp} (hf : Fits o) (x : GOp) {c : UInt8} (hc : let8 c) (R : List UInt8) : fldR c (x, (fOp o c ++ R, false)) = (setF o x c, (R, false)) := by
  rcases hc with rfl | rfl | rfl | rfl | rfl | rfl | rfl | rfl
  · have hv : numV (enc o.E ++ R, false) = o.E ∧ numR (enc o.E ++ R, false) = (R, false) := num_enc (hf.v 101) R false
    show (({ x with E := numV (enc o.E ++ R, false) } : GOp), numR (enc o.E ++ R, false)) = _
    rw [hv.1, hv.2]; rfl
  · have hv : numV (enc o.Item ++ R, false) = o.Item ∧ numR (enc o.Item ++ R, false) = (R, false) := num_enc (hf.v 105) R false
    show (({ x with Item := numV (enc o.Item ++ R, false) } : GOp), numR (enc o.Item ++ R, false)) = _
    rw [hv.1, hv.2]; rfl
  · have hv : numV (enc o.Loc ++ R, false) = o.Loc ∧ numR (enc o.Loc ++ R, false) = (R, false) := num_enc (hf.v 108) R false
    show (({ x with Loc := numV (enc o.Loc ++ R, false) } : GOp), numR (enc o.Loc ++ R, false)) = _
    rw [hv.1, hv.2]; rfl
  · have hv : numV (enc o.To ++ R, false) = o.To ∧ numR (enc o.To ++ R, false) = (R, false) := num_enc (hf.v 116) R false
    show (({ x with To := numV (enc o.To ++ R, false) } : GOp), numR (enc o.To ++ R, false)) = _
    rw [hv.1, hv.2]; rfl
  · have hv : numV (enc o.Qty ++ R, false) = o.Qty ∧ numR (enc o.Qty ++ R, false) = (R, false) := num_enc (hf.v 113) R false
    show (({ x with Qty := numV (enc o.Qty ++ R, false) } : GOp), numR (enc o.Qty ++ R, false)) = _
    rw [hv.1, hv.2]; rfl
  · have hv : numV (enc o.Amount ++ R, false) = o.Amount ∧ numR (enc o.Amount ++ R, false) = (R, false) := num_enc (hf.v 97) R false
    show (({ x with Amount := numV (enc o.Amount ++ R, false) } : GOp), numR (enc o.Amount ++ R, false)) = _
    rw [hv.1, hv.2]; rfl
  · have hv : numV (enc o.Ref ++ R, false) = o.Ref ∧ numR (enc o.Ref ++ R, false) = (R, false) := num_enc (hf.v 114) R false
    show (({ x with Ref := numV (enc o.Ref ++ R, false) } : GOp), numR (enc o.Ref ++ R, false)) = _
    rw [hv.1, hv.2]; rfl
  · have hL := lst_enc hf.r (most := 40) (by have := hf.l; omega) (by have := hf.l; omega) R
    show (({ x with Refs := lstV (encL o.Refs ++ R, false) 40 } : GOp), lstR (encL o.Refs ++ R, false) 40) = _
    rw [hL.1, hL.2]; rfl
theorem rdF_enc {o : GOp} (hf : Fits o) (R : List UInt8) : ∀ (h : List UInt8) (x : GOp), (∀ c ∈ h, let8 c) → rdF h (x, (h.flatMap (fOp o) ++ R, false)) = (h.foldl (setF o) x, (R, false))
  | [], x, _ => rfl
  | c :: h, x, hc => by
    rw [List.flatMap_cons, List.append_assoc]
    show rdF h (fldR c (x, (fOp o c ++ (h.flatMap (fOp o) ++ R), false))) = _
    rw [fld_enc hf x (hc c (List.mem_cons_self ..))]
    exact rdF_enc hf R h _ (fun c' h' => hc c' (List.mem_cons_of_mem _ h'))
theorem op_enc {o : GOp} (hf : Fits o) (R : List UInt8) : cntV (opB o ++ R, false) 16 = o.Kind ∧ rdOp (cntV (opB o ++ R, false) 16) (cntR (opB o ++ R, false) 16) = (o, (R, false)) := by
  have hk := hf.k
  have e : opB o ++ R = enc o.Kind ++ ((hasM o.Kind).flatMap (fOp o) ++ R) := by unfold opB; rw [List.append_assoc]
  obtain ⟨h1, h2⟩ := num_enc (isI_of (by omega) (by omega) : isI o.Kind) ((hasM o.Kind).flatMap (fOp o) ++ R) false
  have hi : ¬ (numV (opB o ++ R, false) < 0 ∨ 16 < numV (opB o ++ R, false)) := by rw [e, h1]; omega
  rw [(cnt_in hi).1, (cnt_in hi).2, e, h1, h2]
  refine ⟨rfl, ?_⟩
  unfold rdOp
  rw [rdF_enc hf R _ _ (hasM_8 o.Kind)]
  show (projM o, _) = _
  rw [← hf.p]
theorem readG_enc (R : List UInt8) : ∀ (l : List GOp) (acc : List GOp), (∀ o ∈ l, okM o = true ∧ Fits o) → readG l.length (l.flatMap opB ++ R, false) acc = readG 0 (R, false) (acc ++ l)
  | [], acc, _ => by simp
  | o :: l, acc, h => by
    obtain ⟨h1, h2⟩ := h o (List.mem_cons_self ..)
    have he := op_enc h2 (l.flatMap opB ++ R)
    rw [List.flatMap_cons, List.append_assoc, List.length_cons]
    have hrg : readG (l.length + 1) (opB o ++ (l.flatMap opB ++ R), false) acc = cond ((rdOp (cntV (opB o ++ (l.flatMap opB ++ R), false) 16) (cntR (opB o ++ (l.flatMap opB ++ R), false) 16)).2.2 || !okM (rdOp (cntV (opB o ++ (l.flatMap opB ++ R), false) 16) (cntR (opB o ++ (l.flatMap opB ++ R), false) 16)).1) ([], 3) (readG l.length (rdOp (cntV (opB o ++ (l.flatMap opB ++ R), false) 16) (cntR (opB o ++ (l.flatMap opB ++ R), false) 16)).2 (acc ++ [(rdOp (cntV (opB o ++ (l.flatMap opB ++ R), false) 16) (cntR (opB o ++ (l.flatMap opB ++ R), false) 16)).1])) := rfl
    rw [hrg, he.2]
    show cond (false || !okM o) _ (readG l.length (l.flatMap opB ++ R, false) (acc ++ [o])) = _
    rw [h1, readG_enc R l _ (fun o' h' => h o' (List.mem_cons_of_mem _ h')), List.append_assoc]; rfl
theorem readM_enc {l : List GOp} (hl : l.length ≤ 400) (h : ∀ o ∈ l, okM o = true ∧ Fits o) (R : List UInt8) : readM (enc l.length ++ (l.flatMap opB ++ R)) = readG 0 (R, false) l := by
  obtain ⟨h1, h2⟩ := num_enc (isI_len (show l.length ≤ 9223372036854775807 by omega)) (l.flatMap opB ++ R) false
  unfold readM
  have hc : cntV (enc l.length ++ (l.flatMap opB ++ R), false) 400 = l.length := by unfold cntV; rw [h1, if_neg (by omega)]
  have hr : cntR (enc l.length ++ (l.flatMap opB ++ R), false) 400 = (l.flatMap opB ++ R, false) := by unfold cntR; rw [h1, h2, if_neg (by omega)]
  rw [hc, hr, Int.toNat_natCast, readG_enc R l [] h]; rfl
theorem cut_lstR {m : List Int} (hm : ∀ v ∈ m, isI v) {most : Int} (hl : (m.length : Int) ≤ most) (hlm : m.length ≤ 9223372036854775807) {R : List UInt8} {s : RS} (h : Cut (encL m ++ R) s) : Cut R (lstR s most) := by
  unfold encL at h
  rw [List.append_assoc] at h
  unfold lstR
  rcases cut_num (isI_len hlm) h with ⟨h1, h2⟩ | ⟨h1, h2⟩
  · have hc : cntV s most = 0 := by unfold cntV; rw [h2]; split <;> rfl
    have hr : cntR s most = ([], true) := by unfold cntR; rw [h1]; split <;> rfl
    rw [hc, hr]; exact .inl rfl
  · have hc : cntV s most = m.length := by unfold cntV; rw [h1, if_neg (by omega)]
    have hr : cntR s most = numR s := by unfold cntR; rw [h1, if_neg (by omega)]
    rw [hc, hr, Int.toNat_natCast]
    have := nums_cut hm h2 m.length (Nat.le_refl _)
    rw [List.drop_length] at this
    exact this
theorem fld_cut {o : GOp} (hf : Fits o) (x : GOp) {c : UInt8} (hc : let8 c) {R : List UInt8} {s : RS} (h : Cut (fOp o c ++ R) s) : Cut R (fldR c (x, s)).2 := by
  rcases hc with rfl | rfl | rfl | rfl | rfl | rfl | rfl | rfl
  · exact cut_numR (hf.v 101) h
  · exact cut_numR (hf.v 105) h
  · exact cut_numR (hf.v 108) h
  · exact cut_numR (hf.v 116) h
  · exact cut_numR (hf.v 113) h
  · exact cut_numR (hf.v 97) h
  · exact cut_numR (hf.v 114) h
  · exact cut_lstR hf.r (by have := hf.l; omega) (by have := hf.l; omega) h
theorem rdF_cut {o : GOp} (hf : Fits o) {R : List UInt8} : ∀ (h : List UInt8) (p : GOp × RS), (∀ c ∈ h, let8 c) → Cut (h.flatMap (fOp o) ++ R) p.2 → Cut R (rdF h p).2
  | [], p, _, hp => hp
  | c :: h, (x, s), hc, hp => by
    rw [List.flatMap_cons, List.append_assoc] at hp
    exact rdF_cut hf h _ (fun c' h' => hc c' (List.mem_cons_of_mem _ h')) (fld_cut hf x (hc c (List.mem_cons_self ..)) hp)
theorem op_cut {o : GOp} (hf : Fits o) {R : List UInt8} {s : RS} (h : Cut (opB o ++ R) s) : (rdOp (cntV s 16) (cntR s 16)).2.2 = true ∨ Cut R (rdOp (cntV s 16) (cntR s 16)).2 := by
  have hk := hf.k
  unfold opB at h
  rw [List.append_assoc] at h
  rcases cut_num (isI_of (by omega) (by omega) : isI o.Kind) h with ⟨h1, h2⟩ | ⟨h1, h2⟩
  · have hc : cntV s 16 = 0 := by unfold cntV; rw [h2]; split <;> rfl
    have hr : cntR s 16 = ([], true) := by unfold cntR; rw [h1]; split <;> rfl
    rw [hc, hr]; exact .inl rfl
  · have hi : ¬ (numV s < 0 ∨ 16 < numV s) := by rw [h1]; omega
    rw [(cnt_in hi).1, (cnt_in hi).2, h1]
    exact .inr (rdF_cut hf _ _ (hasM_8 o.Kind) h2)
theorem readG_bad : ∀ (d : Nat) (acc : List GOp), readG d ([], true) acc = ([], 3)
  | 0, acc => rfl
  | d + 1, acc => rfl
theorem readG_cut : ∀ (l : List GOp) (s : RS) (acc : List GOp), (∀ o ∈ l, Fits o) → Cut (l.flatMap opB) s → readG l.length s acc = ([], 3)
  | [], s, acc, _, h => by rw [cut_nil h]; exact readG_bad _ _
  | o :: l, s, acc, hf, h => by
    rw [List.flatMap_cons] at h
    have hrg : readG (l.length + 1) s acc = cond ((rdOp (cntV s 16) (cntR s 16)).2.2 || !okM (rdOp (cntV s 16) (cntR s 16)).1) ([], 3) (readG l.length (rdOp (cntV s 16) (cntR s 16)).2 (acc ++ [(rdOp (cntV s 16) (cntR s 16)).1])) := rfl
    rw [List.length_cons, hrg]
    rcases op_cut (hf o (List.mem_cons_self ..)) h with h | h
    · rw [h]; rfl
    · rw [readG_cut l _ _ (fun o' h' => hf o' (List.mem_cons_of_mem _ h')) h]
      cases ((rdOp (cntV s 16) (cntR s 16)).2.2 || !okM (rdOp (cntV s 16) (cntR s 16)).1) <;> rfl
theorem readM_cut {l : List GOp} (hl : l.length ≤ 400) (hf : ∀ o ∈ l, Fits o) {k : Nat} (hk : k < (enc l.length ++ l.flatMap opB).length) : readM ((enc l.length ++ l.flatMap opB).take k) = ([], 3) := by
  have hc : Cut (enc l.length ++ l.flatMap opB) ((enc l.length ++ l.flatMap opB).take k, false) := .inr ⟨rfl, k, hk, rfl⟩
  unfold readM
  generalize hs : ((enc (l.length : Int) ++ l.flatMap opB).take k, false) = s at *
  rcases cut_num (isI_len (show l.length ≤ 9223372036854775807 by omega)) hc with ⟨h1, h2⟩ | ⟨h1, h2⟩
  · have hc : cntV s 400 = 0 := by unfold cntV; rw [h2]; split <;> rfl
    have hr : cntR s 400 = ([], true) := by unfold cntR; rw [h1]; split <;> rfl
    rw [hc, hr]; rfl
  · have hc : cntV s 400 = l.length := by unfold cntV; rw [h1, if_neg (by omega)]
    have hr : cntR s 400 = numR s := by unfold cntR; rw [h1, if_neg (by omega)]
    rw [hc, hr, Int.toNat_natCast]
    exact readG_cut l _ _ hf h2
theorem body_all : ∀ (l : List GOp) (s : List UInt8), (∀ o ∈ l, okM o = true) → bodyM l s = some (s ++ l.flatMap opB)
  | [], s, _ => by simp [bodyM]
  | o :: l, s, h => by
    simp only [bodyM]
    rw [h o (List.mem_cons_self ..), List.flatMap_cons, ← List.append_assoc]
    exact body_all l _ (fun o' h' => h o' (List.mem_cons_of_mem _ h'))
theorem bytesM_all {l : List GOp} (h : ∀ o ∈ l, okM o = true) : bytesM l = enc l.length ++ l.flatMap opB := by
  unfold bytesM; rw [body_all l _ h]; rfl
end Go.Pv
