/- The builder: what it holds. -/
import Derived.Test.YtpbcnilkippahaaPvN
set_option linter.unusedSimpArgs false
set_option linter.unusedVariables false
namespace Go.Pv
theorem info_of {P : Program} {t : TypeId} {k : Nat} (h : ((P.info? t).map (·.size)) = some k) : ∃ j, P.info? t = some j ∧ j.size = k := by
  cases hj : P.info? t with
  | none => rw [hj] at h; cases h
  | some j => rw [hj] at h; exact ⟨j, rfl, by simpa using h⟩
section
variable {P : Program} {n : NT} {S : AS} {o : Oper} {T : TypeId} {x y : Operand}
theorem yv_toU' {src t : TypeId} {k : Nat} {id ver : Nat} {ob : AObj} {r : List AV} (ho : o.op = .convert src T x) (hs : P.underlying src = some (.pointer t)) (hT : P.underlying T = some .unsafePointer) (hj : ((P.info? t).map (·.size)) = some (k + 1))
    (hx : S.ev x = some (.pt id ver 0 0)) (hob : S.hp id = some ob) (hver : ob.ver = ver) (hr : ob.rows = [r]) (hsz : 0 < ob.sz) : YieldV P o S (.pt id ver 0 0) := by
  obtain ⟨j, h1, h2⟩ := info_of hj
  exact yv_toU ho hs hT h1 (by omega) hx hob hver hr hsz
theorem yv_ptsame' {Ty e : TypeId} {k : Nat} {id ver row off : Nat} {ob : AObj} (ho : o.op = .binOp .neq T x y Ty) (hT : P.underlying T = some (.pointer e)) (hj : ((P.info? e).map (·.size)) = some k) (hx : S.ev x = some (.pt id ver row off)) (hy : S.ev y = some (.pt id ver row off))
    (hob : S.hp id = some ob) (hver : ob.ver = ver) (hne : ob.rows ≠ []) : YieldV P o S (.sc (.bool false)) := by
  obtain ⟨j, h1, h2⟩ := info_of hj
  exact yv_ptsame ho hT h1 hx hy hob hver hne
theorem yv_fromU' {src u e : TypeId} {k : Nat} {id ver : Nat} {ob : AObj} {r : List AV} (ho : o.op = .convert src T x) (hs : P.underlying src = some .unsafePointer) (hT : P.underlying T = some (.pointer u)) (hj : ((P.info? u).map (·.size)) = some k)
    (hx : S.ev x = some (.pt id ver 0 0)) (hob : S.hp id = some ob) (hver : ob.ver = ver) (hr : ob.rows = [r]) (hel : ob.elem = e) (hlies : ∀ c, liesAt P P.depth e c 0 u 1 = true ∨ c = 0) (hc : P.cellsOf e = ob.sz) (hsz : 0 < ob.sz) : YieldV P o S (.pt id ver 0 0) := by
  obtain ⟨j, h1, h2⟩ := info_of hj
  exact yv_fromU ho hs hT h1 hx hob hver hr hel hlies hc hsz
end
theorem lies_self {P : Program} {e : TypeId} {k : Nat} (hc : P.cellsOf e = k + 1) : ∀ c, liesAt P P.depth e c 0 e 1 = true ∨ c = 0 := by
  intro c
  by_cases h : c = 0
  · exact .inr h
  · refine .inl ?_
    have hd : P.depth = (2 * (P.types.size + Made.depth) + 1) + 1 := rfl
    rw [hd]
    simp only [liesAt, Bool.or_eq_true]
    left
    rw [hd]
    have h1 : 1 ≤ c := by omega
    simp [rowAt, hc, h1, sameLayout]
@[reducible] def bldO (T id ver : Nat) (ib : Nat) : Option (Nat × List UInt8) → AObj
  | none => ⟨T, 2, true, true, ver, [[.sc (.pointer none), .sc (.slice none 0 0)]]⟩
  | some (vb, l) => ⟨T, 2, true, true, ver, [[.pt id ver 0 0, .sl ib vb 0 l.length]]⟩
@[reducible] def bufO (u8 vb : Nat) (l : List UInt8) : AObj := ⟨u8, 1, true, true, vb, byteRows l⟩
theorem byteRows_append (a b : List UInt8) : byteRows (a ++ b) = byteRows a ++ byteRows b := by simp [byteRows]
theorem byteRows_len (a : List UInt8) : (byteRows a).length = a.length := by simp [byteRows]
theorem upd_if {α : Type} (f : Nat → Option α) (t i : Nat) (v : Option α) : upd f t v i = if i = t then v else f i := by
  by_cases h : i = t
  · subst h; rw [upd_same, if_pos rfl]
  · rw [upd_ne _ _ h, if_neg h]
def held : Option (Nat × List UInt8) → List UInt8 | none => [] | some (_, l) => l
@[reducible] def bH (T u8 : Nat) (H : AH) (id ver ib : Nat) : Option (Nat × List UInt8) → AH
  | none => upd H id (some (bldO T id ver ib none))
  | some (vb, l) => upd (upd H ib (some (bufO u8 vb l))) id (some (bldO T id ver ib (some (vb, l))))
def encF : Nat → Nat → List UInt8
  | 0, u => [UInt8.ofNat u]
  | f + 1, u => if u < 128 then [UInt8.ofNat u] else UInt8.ofNat (u % 128 + 128) :: encF f (u / 128)
def enc (v : Int) : List UInt8 := encF 10 (zz v)
theorem encF_lt (f : Nat) {u : Nat} (h : u < 128) : encF f u = [UInt8.ofNat u] := by
  cases f with
  | zero => rfl
  | succ f => simp only [encF]; rw [if_pos h]
theorem encF_ge (f : Nat) {u : Nat} (h : 128 ≤ u) : encF (f + 1) u = UInt8.ofNat (u % 128 + 128) :: encF f (u / 128) := by
  simp only [encF]; rw [if_neg (by omega)]
theorem encF_len : ∀ (f u : Nat), (encF f u).length ≤ f + 1
  | 0, _ => Nat.le_refl _
  | f + 1, u => by simp only [encF]; split <;> simp; exact encF_len f (u / 128)
theorem encF_ne : ∀ (f u : Nat), encF f u ≠ []
  | 0, _ => by simp [encF]
  | f + 1, u => by simp only [encF]; split <;> simp
def isI (v : Int) : Prop := -9223372036854775808 ≤ v ∧ v ≤ 9223372036854775807
instance (v : Int) : Decidable (isI v) := inferInstanceAs (Decidable (_ ∧ _))
theorem zz_lt {v : Int} (h : isI v) : zz v < 18446744073709551616 := by unfold zz; unfold isI at h; split <;> omega
def tw (v : Int) : Nat := if v < 0 then (2 * v + 18446744073709551616).toNat else (2 * v).toNat
theorem tw_lt {v : Int} (h : isI v) : tw v < 18446744073709551616 := by unfold tw; unfold isI at h; split <;> omega
theorem wrapu64_mod (a : Int) : IntKind.u64.wrap a = a % 18446744073709551616 := by
  simp only [IntKind.wrap, IntKind.bits, IntKind.signed]; simp
theorem wrapu8_mod (a : Int) : IntKind.u8.wrap a = a % 256 := by
  simp only [IntKind.wrap, IntKind.bits, IntKind.signed]; simp
def un64 (v : Int) : Nat := if v < 0 then (v + 18446744073709551616).toNat else v.toNat
theorem un64_wrap {v : Int} (h : isI v) : IntKind.u64.wrap v = (un64 v : Nat) := by
  rw [wrapu64_mod]; unfold un64; unfold isI at h; split <;> omega
theorem tw_wrap {v : Int} (h : isI v) : IntKind.u64.wrap ((un64 v : Nat) * 2 ^ (min (1 : Int).toNat IntKind.u64.bits)) = (tw v : Nat) := by
  show IntKind.u64.wrap ((un64 v : Nat) * 2) = _
  rw [wrapu64_mod]; unfold un64 tw; unfold isI at h; split <;> omega
def sg (v : Int) : Int := if v < 0 then -1 else 0
theorem sg_shr {v : Int} (h : isI v) : v.fdiv (2 ^ (min (63 : Int).toNat IntKind.i64.bits)) = sg v := by
  show v.fdiv 9223372036854775808 = _
  rw [Int.fdiv_eq_ediv_of_nonneg _ (by omega)]; unfold sg; unfold isI at h; split <;> omega
def sgu (v : Int) : Nat := if v < 0 then 18446744073709551615 else 0
theorem sgu_wrap (v : Int) : IntKind.u64.wrap (sg v) = (sgu v : Nat) := by
  rw [wrapu64_mod]; unfold sg sgu; split <;> rfl
theorem zz_xor {v : Int} (h : isI v) : IntKind.u64.wrap ((BitVec.ofInt IntKind.u64.bits (tw v : Nat) ^^^ BitVec.ofInt IntKind.u64.bits (sgu v : Nat)).toNat : Int) = (zz v : Nat) := by
  have ht := tw_lt h
  by_cases hv : v < 0
  · have e : (BitVec.ofInt IntKind.u64.bits (tw v : Nat) ^^^ BitVec.ofInt IntKind.u64.bits (sgu v : Nat)).toNat = 18446744073709551615 - tw v := by
      show (BitVec.ofInt 64 ((tw v : Nat) : Int) ^^^ BitVec.ofInt 64 ((sgu v : Nat) : Int)).toNat = _
      have h1 : BitVec.ofInt 64 ((sgu v : Nat) : Int) = BitVec.allOnes 64 := by unfold sgu; rw [if_pos hv]; rfl
      rw [h1, BitVec.xor_allOnes, BitVec.toNat_not, BitVec.toNat_ofInt]
      omega
    rw [e, wrapu64_mod]; unfold tw zz; unfold isI at h; rw [if_pos hv, if_pos hv]; omega
  · have e : (BitVec.ofInt IntKind.u64.bits (tw v : Nat) ^^^ BitVec.ofInt IntKind.u64.bits (sgu v : Nat)).toNat = tw v := by
      show (BitVec.ofInt 64 ((tw v : Nat) : Int) ^^^ BitVec.ofInt 64 ((sgu v : Nat) : Int)).toNat = _
      have h1 : BitVec.ofInt 64 ((sgu v : Nat) : Int) = 0#64 := by unfold sgu; rw [if_neg hv]; rfl
      rw [h1, BitVec.xor_zero, BitVec.toNat_ofInt]
      omega
    rw [e, wrapu64_mod]; unfold tw zz; unfold isI at h; rw [if_neg hv, if_neg hv]; omega
theorem u8_of (n : Nat) : ((UInt8.ofNat n).toNat : Int) = ((n : Nat) : Int) % 256 := by
  simp
theorem u8_wrap (n : Nat) : IntKind.u8.wrap ((n : Nat) : Int) = ((UInt8.ofNat n).toNat : Int) := by rw [u8_of, wrapu8_mod]
theorem shr_seven {u : Nat} : ((u : Int)).fdiv (2 ^ (min (7 : Int).toNat IntKind.u64.bits)) = ((u / 128 : Nat) : Int) := by
  show ((u : Int)).fdiv 128 = _
  rw [Int.fdiv_eq_ediv_of_nonneg _ (by omega)]; rfl
def encL (l : List Int) : List UInt8 := enc l.length ++ l.flatMap enc
theorem enc_len (v : Int) : (enc v).length ≤ 11 := encF_len 10 (zz v)
theorem enc_ne (v : Int) : enc v ≠ [] := encF_ne 10 (zz v)
theorem flat_len : ∀ l : List Int, (l.flatMap enc).length ≤ 11 * l.length
  | [] => Nat.le_refl _
  | v :: l => by have h1 := flat_len l; have h2 := enc_len v; simp only [List.flatMap_cons, List.length_append, List.length_cons]; omega
theorem encL_len (l : List Int) : (encL l).length ≤ 11 * l.length + 11 := by
  have h1 := flat_len l; have h2 := enc_len l.length; unfold encL; rw [List.length_append]; omega
theorem encL_ne (l : List Int) : encL l ≠ [] := by unfold encL; intro h; exact enc_ne _ (List.append_eq_nil_iff.1 h).1
theorem isI_len {n : Nat} (h : n ≤ 9223372036854775807) : isI n := ⟨by omega, by omega⟩
theorem flat_drop {l : List Int} {k : Nat} (h : k < l.length) : (l.drop k).flatMap enc = enc l[k] ++ (l.drop (k + 1)).flatMap enc := by
  rw [List.drop_eq_getElem_cons h, List.flatMap_cons]
end Go.Pv
