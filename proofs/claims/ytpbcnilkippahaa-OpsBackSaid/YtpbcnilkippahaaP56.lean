import Derived.Test.YtpbcnilkippahaaP55
set_option linter.unusedSimpArgs false
set_option linter.unusedVariables false
namespace Go.Pv
set_option maxRecDepth 100000
set_option maxHeartbeats 4000000
theorem l0_go {o : GOp} {s : List UInt8} {n : Nat} {i j : Int} {y y' : GOp} {c : UInt8} {b : Bool} (h1 : decide (i < (s.length : Int)) = true) (h2 : ix s i = some c) (h3 : d_ref05_part n o y (c.toNat : Int) = some (y', b)) (h4 : w64 (i + 1) = j) :
    d_ref05_Check_L0 o s (n + 1) i y = cond b (d_ref05_Check_L0 o s n j y') (some (.inr false)) := by
  show (bnd (decide (i < (s.length : Int))) fun x6 => cond x6 ((ix s i).bind fun x7 => (d_ref05_part n o y (x7.toNat : Int)).bind fun x8 => bnd x8.2 fun x10 => bnd (!x10) fun x11 => cond x11 (esc (some false)) (bnd (w64 (i + 1)) fun x12 => d_ref05_Check_L0 o s n x12 x8.1)) (brk y)) = _
  rw [h1, h2]
  show ((d_ref05_part n o y (c.toNat : Int)).bind fun x8 => bnd x8.2 fun x10 => bnd (!x10) fun x11 => cond x11 (esc (some false)) (bnd (w64 (i + 1)) fun x12 => d_ref05_Check_L0 o s n x12 x8.1)) = _
  rw [h3, h4]
  cases b <;> rfl
theorem l0_end {o : GOp} {s : List UInt8} {n : Nat} {i : Int} {y : GOp} (h1 : decide (i < (s.length : Int)) = false) : d_ref05_Check_L0 o s (n + 1) i y = some (.inl y) := by
  show (bnd (decide (i < (s.length : Int))) fun x6 => cond x6 ((ix s i).bind fun x7 => (d_ref05_part n o y (x7.toNat : Int)).bind fun x8 => bnd x8.2 fun x10 => bnd (!x10) fun x11 => cond x11 (esc (some false)) (bnd (w64 (i + 1)) fun x12 => d_ref05_Check_L0 o s n x12 x8.1)) (brk y)) = _
  rw [h1]; rfl
theorem sameI_nil {n : Nat} {l : List Int} : d_ref04_SameInts (n + 1) l [] = some (decide ((l.length : Int) = 0)) := by
  unfold d_ref04_SameInts
  cases l with
  | nil => rfl
  | cons x l =>
    rw [show (decide (((x :: l).length : Int) ≠ (([] : List Int).length : Int))) = true by simp; omega]
    rw [show decide ((((x :: l).length : Nat) : Int) = 0) = false by simp; omega]; rfl
theorem rck1 {n : Nat} {o : GOp} (hk : o.Kind = 1) : d_ref05_Check (n + 12) o = (cond (decide (o.E ≥ 0) && decide (o.E < 4)) (cond (decide (o.Item ≥ 0) && decide (o.Item < 5)) (cond (decide (o.Loc ≥ 0) && decide (o.Loc < 2)) (cond (decide (o.Qty ≤ 1073741824) && (decide (o.Qty ≥ 1) || (decide (o.Qty = 0) && decide (o.Kind = 7)))) (cond (decide (o.Amount ≥ 0) && (decide (o.Amount ≤ 1125899906842624) && (decide (o.Amount ≤ 1073741824) || (decide (o.Kind ≠ 9) && decide (o.Kind ≠ 10))))) (d_ref05_same (n + 12) o ⟨o.Kind, o.E, o.Item, o.Loc, 0, o.Qty, o.Amount, 0, []⟩) (some false)) (some false)) (some false)) (some false)) (some false)) := by
  unfold d_ref05_Check
  rw [show d_ref05_has o.Kind = some ([101, 105, 108, 113, 97] : List UInt8) by rw [hk]; rfl]
  show ((d_ref05_Check_L0 o ([101, 105, 108, 113, 97] : List UInt8) (n + 12) 0 ⟨o.Kind, 0, 0, 0, 0, 0, 0, 0, []⟩).bind _) = _
  rw [l0_go (i := 0) (j := 1) rfl rfl (part_e _ _) rfl]
  rw [l0_go (i := 1) (j := 2) rfl rfl (part_i _ _) rfl]
  rw [l0_go (i := 2) (j := 3) rfl rfl (part_l _ _) rfl]
  rw [l0_go (i := 3) (j := 4) rfl rfl (part_q _ _) rfl]
  rw [l0_go (i := 4) (j := 5) rfl rfl (part_a _ _) rfl]
  rw [l0_end rfl]
  cases (decide (o.E ≥ 0) && decide (o.E < 4))
  · rfl
  cases (decide (o.Item ≥ 0) && decide (o.Item < 5))
  · rfl
  cases (decide (o.Loc ≥ 0) && decide (o.Loc < 2))
  · rfl
  cases (decide (o.Qty ≤ 1073741824) && (decide (o.Qty ≥ 1) || (decide (o.Qty = 0) && decide (o.Kind = 7))))
  · rfl
  cases (decide (o.Amount ≥ 0) && (decide (o.Amount ≤ 1125899906842624) && (decide (o.Amount ≤ 1073741824) || (decide (o.Kind ≠ 9) && decide (o.Kind ≠ 10)))))
  · rfl
  show ((d_ref05_same _ _ _).bind _).bind _ = _
  cases d_ref05_same (n + 12) o _ <;> rfl
theorem rck2 {n : Nat} {o : GOp} (hk : o.Kind = 2) : d_ref05_Check (n + 12) o = (cond (decide (o.Qty ≤ 1073741824) && (decide (o.Qty ≥ 1) || (decide (o.Qty = 0) && decide (o.Kind = 7)))) (cond (decide (o.Amount ≥ 0) && (decide (o.Amount ≤ 1125899906842624) && (decide (o.Amount ≤ 1073741824) || (decide (o.Kind ≠ 9) && decide (o.Kind ≠ 10))))) (cond (decide (o.Ref ≥ 0) && decide (o.Ref < 40)) (d_ref05_same (n + 12) o ⟨o.Kind, 0, 0, 0, 0, o.Qty, o.Amount, o.Ref, []⟩) (some false)) (some false)) (some false)) := by
  unfold d_ref05_Check
  rw [show d_ref05_has o.Kind = some ([113, 97, 114] : List UInt8) by rw [hk]; rfl]
  show ((d_ref05_Check_L0 o ([113, 97, 114] : List UInt8) (n + 12) 0 ⟨o.Kind, 0, 0, 0, 0, 0, 0, 0, []⟩).bind _) = _
  rw [l0_go (i := 0) (j := 1) rfl rfl (part_q _ _) rfl]
  rw [l0_go (i := 1) (j := 2) rfl rfl (part_a _ _) rfl]
  rw [l0_go (i := 2) (j := 3) rfl rfl (part_r _ _) rfl]
  rw [l0_end rfl]
  cases (decide (o.Qty ≤ 1073741824) && (decide (o.Qty ≥ 1) || (decide (o.Qty = 0) && decide (o.Kind = 7))))
  · rfl
  cases (decide (o.Amount ≥ 0) && (decide (o.Amount ≤ 1125899906842624) && (decide (o.Amount ≤ 1073741824) || (decide (o.Kind ≠ 9) && decide (o.Kind ≠ 10)))))
  · rfl
  cases (decide (o.Ref ≥ 0) && decide (o.Ref < 40))
  · rfl
  show ((d_ref05_same _ _ _).bind _).bind _ = _
  cases d_ref05_same (n + 12) o _ <;> rfl
theorem rck3 {n : Nat} {o : GOp} (hk : o.Kind = 3) : d_ref05_Check (n + 12) o = (cond (decide (o.Qty ≤ 1073741824) && (decide (o.Qty ≥ 1) || (decide (o.Qty = 0) && decide (o.Kind = 7)))) (cond (decide (o.Ref ≥ 0) && decide (o.Ref < 40)) (d_ref05_same (n + 12) o ⟨o.Kind, 0, 0, 0, 0, o.Qty, 0, o.Ref, []⟩) (some false)) (some false)) := by
  unfold d_ref05_Check
  rw [show d_ref05_has o.Kind = some ([113, 114] : List UInt8) by rw [hk]; rfl]
  show ((d_ref05_Check_L0 o ([113, 114] : List UInt8) (n + 12) 0 ⟨o.Kind, 0, 0, 0, 0, 0, 0, 0, []⟩).bind _) = _
  rw [l0_go (i := 0) (j := 1) rfl rfl (part_q _ _) rfl]
  rw [l0_go (i := 1) (j := 2) rfl rfl (part_r _ _) rfl]
  rw [l0_end rfl]
  cases (decide (o.Qty ≤ 1073741824) && (decide (o.Qty ≥ 1) || (decide (o.Qty = 0) && decide (o.Kind = 7))))
  · rfl
  cases (decide (o.Ref ≥ 0) && decide (o.Ref < 40))
  · rfl
  show ((d_ref05_same _ _ _).bind _).bind _ = _
  cases d_ref05_same (n + 12) o _ <;> rfl
theorem rck4 {n : Nat} {o : GOp} (hk : o.Kind = 4) : d_ref05_Check (n + 12) o = (cond (decide (o.E ≥ 0) && decide (o.E < 4)) (cond (decide (o.Item ≥ 0) && decide (o.Item < 5)) (cond (decide (o.Loc ≥ 0) && decide (o.Loc < 2)) (cond (decide (o.Qty ≤ 1073741824) && (decide (o.Qty ≥ 1) || (decide (o.Qty = 0) && decide (o.Kind = 7)))) (cond (decide (o.Amount ≥ 0) && (decide (o.Amount ≤ 1125899906842624) && (decide (o.Amount ≤ 1073741824) || (decide (o.Kind ≠ 9) && decide (o.Kind ≠ 10))))) (d_ref05_same (n + 12) o ⟨o.Kind, o.E, o.Item, o.Loc, 0, o.Qty, o.Amount, 0, []⟩) (some false)) (some false)) (some false)) (some false)) (some false)) := by
  unfold d_ref05_Check
  rw [show d_ref05_has o.Kind = some ([101, 105, 108, 113, 97] : List UInt8) by rw [hk]; rfl]
  show ((d_ref05_Check_L0 o ([101, 105, 108, 113, 97] : List UInt8) (n + 12) 0 ⟨o.Kind, 0, 0, 0, 0, 0, 0, 0, []⟩).bind _) = _
  rw [l0_go (i := 0) (j := 1) rfl rfl (part_e _ _) rfl]
  rw [l0_go (i := 1) (j := 2) rfl rfl (part_i _ _) rfl]
  rw [l0_go (i := 2) (j := 3) rfl rfl (part_l _ _) rfl]
  rw [l0_go (i := 3) (j := 4) rfl rfl (part_q _ _) rfl]
  rw [l0_go (i := 4) (j := 5) rfl rfl (part_a _ _) rfl]
  rw [l0_end rfl]
  cases (decide (o.E ≥ 0) && decide (o.E < 4))
  · rfl
  cases (decide (o.Item ≥ 0) && decide (o.Item < 5))
  · rfl
  cases (decide (o.Loc ≥ 0) && decide (o.Loc < 2))
  · rfl
  cases (decide (o.Qty ≤ 1073741824) && (decide (o.Qty ≥ 1) || (decide (o.Qty = 0) && decide (o.Kind = 7))))
  · rfl
  cases (decide (o.Amount ≥ 0) && (decide (o.Amount ≤ 1125899906842624) && (decide (o.Amount ≤ 1073741824) || (decide (o.Kind ≠ 9) && decide (o.Kind ≠ 10)))))
  · rfl
  show ((d_ref05_same _ _ _).bind _).bind _ = _
  cases d_ref05_same (n + 12) o _ <;> rfl
theorem rck5 {n : Nat} {o : GOp} (hk : o.Kind = 5) : d_ref05_Check (n + 12) o = (cond (decide (o.Qty ≤ 1073741824) && (decide (o.Qty ≥ 1) || (decide (o.Qty = 0) && decide (o.Kind = 7)))) (cond (decide (o.Amount ≥ 0) && (decide (o.Amount ≤ 1125899906842624) && (decide (o.Amount ≤ 1073741824) || (decide (o.Kind ≠ 9) && decide (o.Kind ≠ 10))))) (cond (decide (o.Ref ≥ 0) && decide (o.Ref < 40)) (d_ref05_same (n + 12) o ⟨o.Kind, 0, 0, 0, 0, o.Qty, o.Amount, o.Ref, []⟩) (some false)) (some false)) (some false)) := by
  unfold d_ref05_Check
  rw [show d_ref05_has o.Kind = some ([113, 97, 114] : List UInt8) by rw [hk]; rfl]
  show ((d_ref05_Check_L0 o ([113, 97, 114] : List UInt8) (n + 12) 0 ⟨o.Kind, 0, 0, 0, 0, 0, 0, 0, []⟩).bind _) = _
  rw [l0_go (i := 0) (j := 1) rfl rfl (part_q _ _) rfl]
  rw [l0_go (i := 1) (j := 2) rfl rfl (part_a _ _) rfl]
  rw [l0_go (i := 2) (j := 3) rfl rfl (part_r _ _) rfl]
  rw [l0_end rfl]
  cases (decide (o.Qty ≤ 1073741824) && (decide (o.Qty ≥ 1) || (decide (o.Qty = 0) && decide (o.Kind = 7))))
  · rfl
  cases (decide (o.Amount ≥ 0) && (decide (o.Amount ≤ 1125899906842624) && (decide (o.Amount ≤ 1073741824) || (decide (o.Kind ≠ 9) && decide (o.Kind ≠ 10)))))
  · rfl
  cases (decide (o.Ref ≥ 0) && decide (o.Ref < 40))
  · rfl
  show ((d_ref05_same _ _ _).bind _).bind _ = _
  cases d_ref05_same (n + 12) o _ <;> rfl
theorem rck6 {n : Nat} {o : GOp} (hk : o.Kind = 6) : d_ref05_Check (n + 12) o = (cond (decide (o.E ≥ 0) && decide (o.E < 4)) (cond (decide (o.Item ≥ 0) && decide (o.Item < 5)) (cond (decide (o.Loc ≥ 0) && decide (o.Loc < 2)) (cond (decide (o.Qty ≤ 1073741824) && (decide (o.Qty ≥ 1) || (decide (o.Qty = 0) && decide (o.Kind = 7)))) (d_ref05_same (n + 12) o ⟨o.Kind, o.E, o.Item, o.Loc, 0, o.Qty, 0, 0, []⟩) (some false)) (some false)) (some false)) (some false)) := by
  unfold d_ref05_Check
  rw [show d_ref05_has o.Kind = some ([101, 105, 108, 113] : List UInt8) by rw [hk]; rfl]
  show ((d_ref05_Check_L0 o ([101, 105, 108, 113] : List UInt8) (n + 12) 0 ⟨o.Kind, 0, 0, 0, 0, 0, 0, 0, []⟩).bind _) = _
  rw [l0_go (i := 0) (j := 1) rfl rfl (part_e _ _) rfl]
  rw [l0_go (i := 1) (j := 2) rfl rfl (part_i _ _) rfl]
  rw [l0_go (i := 2) (j := 3) rfl rfl (part_l _ _) rfl]
  rw [l0_go (i := 3) (j := 4) rfl rfl (part_q _ _) rfl]
  rw [l0_end rfl]
  cases (decide (o.E ≥ 0) && decide (o.E < 4))
  · rfl
  cases (decide (o.Item ≥ 0) && decide (o.Item < 5))
  · rfl
  cases (decide (o.Loc ≥ 0) && decide (o.Loc < 2))
  · rfl
  cases (decide (o.Qty ≤ 1073741824) && (decide (o.Qty ≥ 1) || (decide (o.Qty = 0) && decide (o.Kind = 7))))
  · rfl
  show ((d_ref05_same _ _ _).bind _).bind _ = _
  cases d_ref05_same (n + 12) o _ <;> rfl
theorem rck7 {n : Nat} {o : GOp} (hk : o.Kind = 7) : d_ref05_Check (n + 12) o = (cond (decide (o.E ≥ 0) && decide (o.E < 4)) (cond (decide (o.Item ≥ 0) && decide (o.Item < 5)) (cond (decide (o.Loc ≥ 0) && decide (o.Loc < 2)) (cond (decide (o.Qty ≤ 1073741824) && (decide (o.Qty ≥ 1) || (decide (o.Qty = 0) && decide (o.Kind = 7)))) (d_ref05_same (n + 12) o ⟨o.Kind, o.E, o.Item, o.Loc, 0, o.Qty, 0, 0, []⟩) (some false)) (some false)) (some false)) (some false)) := by
  unfold d_ref05_Check
  rw [show d_ref05_has o.Kind = some ([101, 105, 108, 113] : List UInt8) by rw [hk]; rfl]
  show ((d_ref05_Check_L0 o ([101, 105, 108, 113] : List UInt8) (n + 12) 0 ⟨o.Kind, 0, 0, 0, 0, 0, 0, 0, []⟩).bind _) = _
  rw [l0_go (i := 0) (j := 1) rfl rfl (part_e _ _) rfl]
  rw [l0_go (i := 1) (j := 2) rfl rfl (part_i _ _) rfl]
  rw [l0_go (i := 2) (j := 3) rfl rfl (part_l _ _) rfl]
  rw [l0_go (i := 3) (j := 4) rfl rfl (part_q _ _) rfl]
  rw [l0_end rfl]
  cases (decide (o.E ≥ 0) && decide (o.E < 4))
  · rfl
  cases (decide (o.Item ≥ 0) && decide (o.Item < 5))
  · rfl
  cases (decide (o.Loc ≥ 0) && decide (o.Loc < 2))
  · rfl
  cases (decide (o.Qty ≤ 1073741824) && (decide (o.Qty ≥ 1) || (decide (o.Qty = 0) && decide (o.Kind = 7))))
  · rfl
  show ((d_ref05_same _ _ _).bind _).bind _ = _
  cases d_ref05_same (n + 12) o _ <;> rfl
theorem rck8 {n : Nat} {o : GOp} (hk : o.Kind = 8) {t : Bool} (ht : d_ref05_to o = some t) : d_ref05_Check (n + 12) o = (cond (decide (o.E ≥ 0) && decide (o.E < 4)) (cond (decide (o.Item ≥ 0) && decide (o.Item < 5)) (cond (decide (o.Loc ≥ 0) && decide (o.Loc < 2)) (cond t (cond (decide (o.Qty ≤ 1073741824) && (decide (o.Qty ≥ 1) || (decide (o.Qty = 0) && decide (o.Kind = 7)))) (d_ref05_same (n + 12) o ⟨o.Kind, o.E, o.Item, o.Loc, o.To, o.Qty, 0, 0, []⟩) (some false)) (some false)) (some false)) (some false)) (some false)) := by
  unfold d_ref05_Check
  rw [show d_ref05_has o.Kind = some ([101, 105, 108, 116, 113] : List UInt8) by rw [hk]; rfl]
  show ((d_ref05_Check_L0 o ([101, 105, 108, 116, 113] : List UInt8) (n + 12) 0 ⟨o.Kind, 0, 0, 0, 0, 0, 0, 0, []⟩).bind _) = _
  rw [l0_go (i := 0) (j := 1) rfl rfl (part_e _ _) rfl]
  rw [l0_go (i := 1) (j := 2) rfl rfl (part_i _ _) rfl]
  rw [l0_go (i := 2) (j := 3) rfl rfl (part_l _ _) rfl]
  rw [l0_go (i := 3) (j := 4) rfl rfl (part_t _ _ ht) rfl]
  rw [l0_go (i := 4) (j := 5) rfl rfl (part_q _ _) rfl]
  rw [l0_end rfl]
  cases (decide (o.E ≥ 0) && decide (o.E < 4))
  · rfl
  cases (decide (o.Item ≥ 0) && decide (o.Item < 5))
  · rfl
  cases (decide (o.Loc ≥ 0) && decide (o.Loc < 2))
  · rfl
  cases t
  · rfl
  cases (decide (o.Qty ≤ 1073741824) && (decide (o.Qty ≥ 1) || (decide (o.Qty = 0) && decide (o.Kind = 7))))
  · rfl
  show ((d_ref05_same _ _ _).bind _).bind _ = _
  cases d_ref05_same (n + 12) o _ <;> rfl
theorem rck9 {n : Nat} {o : GOp} (hk : o.Kind = 9) : d_ref05_Check (n + 12) o = (cond (decide (o.E ≥ 0) && decide (o.E < 4)) (cond (decide (o.Item ≥ 0) && decide (o.Item < 5)) (cond (decide (o.Amount ≥ 0) && (decide (o.Amount ≤ 1125899906842624) && (decide (o.Amount ≤ 1073741824) || (decide (o.Kind ≠ 9) && decide (o.Kind ≠ 10))))) (d_ref05_same (n + 12) o ⟨o.Kind, o.E, o.Item, 0, 0, 0, o.Amount, 0, []⟩) (some false)) (some false)) (some false)) := by
  unfold d_ref05_Check
  rw [show d_ref05_has o.Kind = some ([101, 105, 97] : List UInt8) by rw [hk]; rfl]
  show ((d_ref05_Check_L0 o ([101, 105, 97] : List UInt8) (n + 12) 0 ⟨o.Kind, 0, 0, 0, 0, 0, 0, 0, []⟩).bind _) = _
  rw [l0_go (i := 0) (j := 1) rfl rfl (part_e _ _) rfl]
  rw [l0_go (i := 1) (j := 2) rfl rfl (part_i _ _) rfl]
  rw [l0_go (i := 2) (j := 3) rfl rfl (part_a _ _) rfl]
  rw [l0_end rfl]
  cases (decide (o.E ≥ 0) && decide (o.E < 4))
  · rfl
  cases (decide (o.Item ≥ 0) && decide (o.Item < 5))
  · rfl
  cases (decide (o.Amount ≥ 0) && (decide (o.Amount ≤ 1125899906842624) && (decide (o.Amount ≤ 1073741824) || (decide (o.Kind ≠ 9) && decide (o.Kind ≠ 10)))))
  · rfl
  show ((d_ref05_same _ _ _).bind _).bind _ = _
  cases d_ref05_same (n + 12) o _ <;> rfl
theorem rck10 {n : Nat} {o : GOp} (hk : o.Kind = 10) : d_ref05_Check (n + 12) o = (cond (decide (o.E ≥ 0) && decide (o.E < 4)) (cond (decide (o.Item ≥ 0) && decide (o.Item < 5)) (cond (decide (o.Amount ≥ 0) && (decide (o.Amount ≤ 1125899906842624) && (decide (o.Amount ≤ 1073741824) || (decide (o.Kind ≠ 9) && decide (o.Kind ≠ 10))))) (d_ref05_same (n + 12) o ⟨o.Kind, o.E, o.Item, 0, 0, 0, o.Amount, 0, []⟩) (some false)) (some false)) (some false)) := by
  unfold d_ref05_Check
  rw [show d_ref05_has o.Kind = some ([101, 105, 97] : List UInt8) by rw [hk]; rfl]
  show ((d_ref05_Check_L0 o ([101, 105, 97] : List UInt8) (n + 12) 0 ⟨o.Kind, 0, 0, 0, 0, 0, 0, 0, []⟩).bind _) = _
  rw [l0_go (i := 0) (j := 1) rfl rfl (part_e _ _) rfl]
  rw [l0_go (i := 1) (j := 2) rfl rfl (part_i _ _) rfl]
  rw [l0_go (i := 2) (j := 3) rfl rfl (part_a _ _) rfl]
  rw [l0_end rfl]
  cases (decide (o.E ≥ 0) && decide (o.E < 4))
  · rfl
  cases (decide (o.Item ≥ 0) && decide (o.Item < 5))
  · rfl
  cases (decide (o.Amount ≥ 0) && (decide (o.Amount ≤ 1125899906842624) && (decide (o.Amount ≤ 1073741824) || (decide (o.Kind ≠ 9) && decide (o.Kind ≠ 10)))))
  · rfl
  show ((d_ref05_same _ _ _).bind _).bind _ = _
  cases d_ref05_same (n + 12) o _ <;> rfl
theorem rck12 {n : Nat} {o : GOp} (hk : o.Kind = 12) {t : Bool} (ht : d_ref05_to o = some t) : d_ref05_Check (n + 12) o = (cond (decide (o.E ≥ 0) && decide (o.E < 4)) (cond (decide (o.Item ≥ 0) && decide (o.Item < 5)) (cond (decide (o.Loc ≥ 0) && decide (o.Loc < 2)) (cond t (cond (decide (o.Qty ≤ 1073741824) && (decide (o.Qty ≥ 1) || (decide (o.Qty = 0) && decide (o.Kind = 7)))) (cond (decide (o.Amount ≥ 0) && (decide (o.Amount ≤ 1125899906842624) && (decide (o.Amount ≤ 1073741824) || (decide (o.Kind ≠ 9) && decide (o.Kind ≠ 10))))) (d_ref05_same (n + 12) o ⟨o.Kind, o.E, o.Item, o.Loc, o.To, o.Qty, o.Amount, 0, []⟩) (some false)) (some false)) (some false)) (some false)) (some false)) (some false)) := by
  unfold d_ref05_Check
  rw [show d_ref05_has o.Kind = some ([101, 105, 108, 116, 113, 97] : List UInt8) by rw [hk]; rfl]
  show ((d_ref05_Check_L0 o ([101, 105, 108, 116, 113, 97] : List UInt8) (n + 12) 0 ⟨o.Kind, 0, 0, 0, 0, 0, 0, 0, []⟩).bind _) = _
  rw [l0_go (i := 0) (j := 1) rfl rfl (part_e _ _) rfl]
  rw [l0_go (i := 1) (j := 2) rfl rfl (part_i _ _) rfl]
  rw [l0_go (i := 2) (j := 3) rfl rfl (part_l _ _) rfl]
  rw [l0_go (i := 3) (j := 4) rfl rfl (part_t _ _ ht) rfl]
  rw [l0_go (i := 4) (j := 5) rfl rfl (part_q _ _) rfl]
  rw [l0_go (i := 5) (j := 6) rfl rfl (part_a _ _) rfl]
  rw [l0_end rfl]
  cases (decide (o.E ≥ 0) && decide (o.E < 4))
  · rfl
  cases (decide (o.Item ≥ 0) && decide (o.Item < 5))
  · rfl
  cases (decide (o.Loc ≥ 0) && decide (o.Loc < 2))
  · rfl
  cases t
  · rfl
  cases (decide (o.Qty ≤ 1073741824) && (decide (o.Qty ≥ 1) || (decide (o.Qty = 0) && decide (o.Kind = 7))))
  · rfl
  cases (decide (o.Amount ≥ 0) && (decide (o.Amount ≤ 1125899906842624) && (decide (o.Amount ≤ 1073741824) || (decide (o.Kind ≠ 9) && decide (o.Kind ≠ 10)))))
  · rfl
  show ((d_ref05_same _ _ _).bind _).bind _ = _
  cases d_ref05_same (n + 12) o _ <;> rfl
theorem rck13 {n : Nat} {o : GOp} (hk : o.Kind = 13) : d_ref05_Check (n + 12) o = (cond (decide (o.Loc ≥ 0) && decide (o.Loc < 2)) (cond (decide (o.Qty ≤ 1073741824) && (decide (o.Qty ≥ 1) || (decide (o.Qty = 0) && decide (o.Kind = 7)))) (cond (decide (o.Ref ≥ 0) && decide (o.Ref < 40)) (d_ref05_same (n + 12) o ⟨o.Kind, 0, 0, o.Loc, 0, o.Qty, 0, o.Ref, []⟩) (some false)) (some false)) (some false)) := by
  unfold d_ref05_Check
  rw [show d_ref05_has o.Kind = some ([108, 113, 114] : List UInt8) by rw [hk]; rfl]
  show ((d_ref05_Check_L0 o ([108, 113, 114] : List UInt8) (n + 12) 0 ⟨o.Kind, 0, 0, 0, 0, 0, 0, 0, []⟩).bind _) = _
  rw [l0_go (i := 0) (j := 1) rfl rfl (part_l _ _) rfl]
  rw [l0_go (i := 1) (j := 2) rfl rfl (part_q _ _) rfl]
  rw [l0_go (i := 2) (j := 3) rfl rfl (part_r _ _) rfl]
  rw [l0_end rfl]
  cases (decide (o.Loc ≥ 0) && decide (o.Loc < 2))
  · rfl
  cases (decide (o.Qty ≤ 1073741824) && (decide (o.Qty ≥ 1) || (decide (o.Qty = 0) && decide (o.Kind = 7))))
  · rfl
  cases (decide (o.Ref ≥ 0) && decide (o.Ref < 40))
  · rfl
  show ((d_ref05_same _ _ _).bind _).bind _ = _
  cases d_ref05_same (n + 12) o _ <;> rfl
theorem rck14 {n : Nat} {o : GOp} (hk : o.Kind = 14) : d_ref05_Check (n + 12) o = (cond (decide (o.E ≥ 0) && decide (o.E < 4)) (d_ref05_same (n + 12) o ⟨o.Kind, o.E, 0, 0, 0, 0, 0, 0, []⟩) (some false)) := by
  unfold d_ref05_Check
  rw [show d_ref05_has o.Kind = some ([101] : List UInt8) by rw [hk]; rfl]
  show ((d_ref05_Check_L0 o ([101] : List UInt8) (n + 12) 0 ⟨o.Kind, 0, 0, 0, 0, 0, 0, 0, []⟩).bind _) = _
  rw [l0_go (i := 0) (j := 1) rfl rfl (part_e _ _) rfl]
  rw [l0_end rfl]
  cases (decide (o.E ≥ 0) && decide (o.E < 4))
  · rfl
  show ((d_ref05_same _ _ _).bind _).bind _ = _
  cases d_ref05_same (n + 12) o _ <;> rfl
theorem rck15 {n : Nat} {o : GOp} (hk : o.Kind = 15) : d_ref05_Check (n + 12) o = (cond (decide (o.E ≥ 0) && decide (o.E < 4)) (d_ref05_same (n + 12) o ⟨o.Kind, o.E, 0, 0, 0, 0, 0, 0, []⟩) (some false)) := by
  unfold d_ref05_Check
  rw [show d_ref05_has o.Kind = some ([101] : List UInt8) by rw [hk]; rfl]
  show ((d_ref05_Check_L0 o ([101] : List UInt8) (n + 12) 0 ⟨o.Kind, 0, 0, 0, 0, 0, 0, 0, []⟩).bind _) = _
  rw [l0_go (i := 0) (j := 1) rfl rfl (part_e _ _) rfl]
  rw [l0_end rfl]
  cases (decide (o.E ≥ 0) && decide (o.E < 4))
  · rfl
  show ((d_ref05_same _ _ _).bind _).bind _ = _
  cases d_ref05_same (n + 12) o _ <;> rfl
theorem rck16 {n : Nat} {o : GOp} (hk : o.Kind = 16) : d_ref05_Check (n + 12) o = (cond (decide (o.E ≥ 0) && decide (o.E < 4)) (d_ref05_same (n + 12) o ⟨o.Kind, o.E, 0, 0, 0, 0, 0, 0, []⟩) (some false)) := by
  unfold d_ref05_Check
  rw [show d_ref05_has o.Kind = some ([101] : List UInt8) by rw [hk]; rfl]
  show ((d_ref05_Check_L0 o ([101] : List UInt8) (n + 12) 0 ⟨o.Kind, 0, 0, 0, 0, 0, 0, 0, []⟩).bind _) = _
  rw [l0_go (i := 0) (j := 1) rfl rfl (part_e _ _) rfl]
  rw [l0_end rfl]
  cases (decide (o.E ≥ 0) && decide (o.E < 4))
  · rfl
  show ((d_ref05_same _ _ _).bind _).bind _ = _
  cases d_ref05_same (n + 12) o _ <;> rfl
end Go.Pv
