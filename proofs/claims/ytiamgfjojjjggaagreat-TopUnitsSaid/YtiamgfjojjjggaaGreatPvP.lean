import Derived.Test.YtiamgfjojjjggaaGreatPvJ
import Derived.Lib.Builder
import Derived.Lib.UnsafeStr
import Derived.Lib.AppendStr
set_option linter.unusedSimpArgs false
set_option linter.unusedVariables false
namespace Go.Pv
section
variable {P : Program} {n : NT} {S : AS} {o : Oper} {T : TypeId} {x y : Operand}
end
end Go.Pv
set_option linter.unusedSimpArgs false
set_option linter.unusedVariables false
namespace Go.Pv
section
variable {P : Program} {n : NT} {S : AS} {o : Oper} {T : TypeId} {x y : Operand}
end
end Go.Pv
set_option linter.unusedSimpArgs false
set_option linter.unusedVariables false
namespace Go.Pv
@[reducible] def lst {α : Type} (sz : Nat) (f : α → List AV) (l : List α) : AV := .list sz (l.map f)
theorem lst_len {α : Type} {S : AS} {sz : Nat} {f : α → List AV} (l : List α) : SlLen S (lst sz f l) l.length := by
  have := SlLen.list (S := S) sz (l.map f)
  rwa [List.length_map] at this
theorem cv_lst {α : Type} {H : AH} {id ver len sz : Nat} {ob : AObj} {f : α → List AV} {l : List α} (ho : H id = some ob) (hver : ob.ver = ver) (hmt : ob.mt = false) (hsz : ob.sz = sz) (hr : ob.rows = l.map f) (hl : len = l.length) : Cv H (.sl id ver 0 len) (lst sz f l) := by
  have := Cv.sl (rows := l.map f) (off := 0) (len := len) ho hver hmt (by rw [hr]; exact CvLL.refl _) (by rw [List.length_map]; omega)
  rw [hsz] at this
  have e : ((l.map f).drop 0).take len = l.map f := by rw [List.drop_zero, hl, List.take_of_length_le (by rw [List.length_map]; exact Nat.le_refl _)]
  rw [e] at this; exact this
theorem pv_lst {α : Type} {sz : Nat} {f : α → List AV} (l : List α) (h : ∀ a ∈ l, ∀ x ∈ f a, PV x) : PV (lst sz f l) := .list fun r hr x hx => by
  obtain ⟨a, ha, rfl⟩ := List.mem_map.1 hr
  exact h a ha x hx
@[reducible] def int (n : Int) : AV := .sc (.int .i64 n)
@[reducible] def boo (b : Bool) : AV := .sc (.bool b)
@[reducible] def str (l : List UInt8) : AV := .sc (.string (bs l))
@[reducible] def ints (l : List Int) : AV := lst 1 (fun n => [int n]) l
theorem wrapu64 {a : Int} (h : 0 ≤ a ∧ a ≤ 18446744073709551615) : IntKind.u64.wrap a = a := by
  simp only [IntKind.wrap, IntKind.bits, IntKind.signed]; simp; omega
end Go.Pv
set_option linter.unusedSimpArgs false
set_option linter.unusedVariables false
namespace Go.Pv
def rd : List UInt8 → Nat → Nat → Option (Nat × List UInt8)
  | [], _, _ => none
  | c :: r, i, u =>
    if 9 < i ∨ (i = 9 ∧ 1 < c.toNat) then none
    else if 128 ≤ c.toNat then rd r (i + 1) (u + c.toNat % 128 * 2 ^ (7 * i))
    else if c.toNat = 0 ∧ 0 < i then none
    else some (u + c.toNat % 128 * 2 ^ (7 * i), r)
def zz (v : Int) : Nat := if v < 0 then (-(2 * v) - 1).toNat else (2 * v).toNat
end Go.Pv
set_option linter.unusedSimpArgs false
set_option linter.unusedVariables false
namespace Go.Pv
section
variable {P : Program} {n : NT} {S : AS} {o : Oper} {T : TypeId} {x y : Operand}
end
def held : Option (Nat × List UInt8) → List UInt8 | none => [] | some (_, l) => l
def encF : Nat → Nat → List UInt8
  | 0, u => [UInt8.ofNat u]
  | f + 1, u => if u < 128 then [UInt8.ofNat u] else UInt8.ofNat (u % 128 + 128) :: encF f (u / 128)
def enc (v : Int) : List UInt8 := encF 10 (zz v)
def isI (v : Int) : Prop := -9223372036854775808 ≤ v ∧ v ≤ 9223372036854775807
instance (v : Int) : Decidable (isI v) := inferInstanceAs (Decidable (_ ∧ _))
end Go.Pv
set_option linter.unusedSimpArgs false
set_option linter.unusedVariables false
namespace Go.Pv
inductive Has : AV → Nat → Prop
  | pt {id ver row off : Nat} : Has (.pt id ver row off) ver
  | sl {id ver off len : Nat} : Has (.sl id ver off len) ver
  | list {sz k : Nat} {xs : List (List AV)} {i j : Nat} {r : List AV} {x : AV} (h1 : xs[i]? = some r) (h2 : r[j]? = some x) (h : Has x k) : Has (.list sz xs) k
  | pp {cs : List AV} {i k : Nat} {x : AV} (h1 : cs[i]? = some x) (h : Has x k) : Has (.pp cs) k
  | agg {cs : List AV} {i k : Nat} {x : AV} (h1 : cs[i]? = some x) (h : Has x k) : Has (.agg cs) k
  | fn1 {f : Fn} {a c : List AV} {i k : Nat} {x : AV} (h1 : a[i]? = some x) (h : Has x k) : Has (.fn f a c) k
  | fn2 {f : Fn} {a c : List AV} {i k : Nat} {x : AV} (h1 : c[i]? = some x) (h : Has x k) : Has (.fn f a c) k
  | ifc {t : TypeId} {k : Nat} {x : AV} (h : Has x k) : Has (.ifc t x) k
  | tup {cs : List AV} {i k : Nat} {x : AV} (h1 : cs[i]? = some x) (h : Has x k) : Has (.tup cs) k
  | mp {ks : List Int} {cs : List AV} {i k : Nat} {x : AV} (h1 : cs[i]? = some x) (h : Has x k) : Has (.mp ks cs) k
theorem get_of {α : Type} {l : Array α} {n i : Nat} (h : n = l.size) (hi : i < n) : ∃ v, l[i]? = some v := ⟨l[i]'(by omega), Array.getElem?_eq_getElem (by omega)⟩
theorem lt_of {α : Type} {l : List α} {i : Nat} {x : α} (h : l[i]? = some x) : i < l.length := (List.getElem?_eq_some_iff.1 h).1
theorem VR.has {s : Sit} {x : AV} {v : Value} (h : VR s x v) : ∀ k, Has x k → s.used k := by
  induction h with
  | sc v => intro k h; cases h
  | nil sz => intro k h; cases h with | list h1 _ _ => simp at h1
  | emp sz a => intro k h; cases h with | list h1 _ _ => simp at h1
  | list f hI hc hm hr hf _ ih => intro k h; cases h with | list h1 h2 h => exact ih _ _ _ _ h1 h2 k h
  | pp f hI hf _ ih => intro k h; cases h with | pp h1 h => exact ih _ _ h1 k h
  | pt hk h1 h => intro k h; cases h; exact hk
  | sl hk h1 h => intro k h; cases h; exact hk
  | agg hl _ ih => intro k h; cases h with | agg h1 h => obtain ⟨v, hv⟩ := get_of hl (lt_of h1); exact ih _ _ v h1 hv k h
  | fn hl hl' _ _ ih ih' =>
    intro k h
    cases h with
    | fn1 h1 h => obtain ⟨v, hv⟩ := get_of hl (lt_of h1); exact ih _ _ v h1 hv k h
    | fn2 h1 h => obtain ⟨v, hv⟩ := get_of hl' (lt_of h1); exact ih' _ _ v h1 hv k h
  | ifc _ ih => intro k h; cases h with | ifc h => exact ih k h
  | tup hl _ ih => intro k h; cases h with | tup h1 h => obtain ⟨v, hv⟩ := get_of hl (lt_of h1); exact ih _ _ v h1 hv k h
  | mp hI' hb hk hl _ ih => intro k h; cases h with | mp h1 h => exact ih _ _ _ h1 (List.getElem?_eq_getElem (by have := lt_of h1; omega)) k h
theorem PV.has {x : AV} (h : PV x) : ∀ k, ¬ Has x k := by
  induction h with
  | sc v => intro k h; cases h
  | list _ ih => intro k h; cases h with | list h1 h2 h => exact ih _ (List.mem_of_getElem? h1) _ (List.mem_of_getElem? h2) k h
  | pp _ ih => intro k h; cases h with | pp h1 h => exact ih _ (List.mem_of_getElem? h1) k h
  | agg _ ih => intro k h; cases h with | agg h1 h => exact ih _ (List.mem_of_getElem? h1) k h
  | fn _ _ ih ih' =>
    intro k h
    cases h with
    | fn1 h1 h => exact ih _ (List.mem_of_getElem? h1) k h
    | fn2 h1 h => exact ih' _ (List.mem_of_getElem? h1) k h
  | ifc _ ih => intro k h; cases h with | ifc h => exact ih k h
  | tup _ ih => intro k h; cases h with | tup h1 h => exact ih _ (List.mem_of_getElem? h1) k h
  | mp _ ih => intro k h; cases h with | mp h1 h => exact ih _ (List.mem_of_getElem? h1) k h
theorem yv_to {P : Program} {S : AS} {o : Oper} {x y : AV} (h : YieldV P o S x) (e : x = y) : YieldV P o S y := e ▸ h
end Go.Pv
