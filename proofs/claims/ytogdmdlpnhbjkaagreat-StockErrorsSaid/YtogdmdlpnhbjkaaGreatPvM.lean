/- Encodings of plain data as abstract values. -/
import Derived.Test.YtogdmdlpnhbjkaaGreatPvL
set_option linter.unusedSimpArgs false
set_option linter.unusedVariables false
namespace Go.Pv
@[reducible] def lst {α : Type} (sz : Nat) (f : α → List AV) (l : List α) : AV := .list sz (l.map f)
theorem lst_len {α : Type} {S : AS} {sz : Nat} {f : α → List AV} (l : List α) : SlLen S (lst sz f l) l.length := by
  have := SlLen.list (S := S) sz (l.map f)
  rwa [List.length_map] at this
theorem cv_lst {α : Type} {H : AH} {id ver len sz : Nat} {ob : AObj} {f : α → List AV} {l : List α} (ho : H id = some ob) (hver : ob.ver = ver) (hmt : ob.mt = false) (hsz : ob.sz = sz) (hr : ob.rows = l.map f) (hl : len = l.length) : Cv H (.sl id ver 0 len) (lst sz f l) := by
  have := Cv.sl (rows := l.map f) (off := 0) (len := len) ho hver hmt (by rw [hr]; exact CvLL.refl _) (by rw [List.length_map]; omega)
  rw [hsz] at this
  have e : ((l.map f).drop 0).take len = l.map f := by rw [List.drop_zero, hl, List.take_of_length_le (by rw [List.length_map]; exact Nat.le_refl _)]
  rw [e] at this; exact this
theorem pv_lst {α : Type} {sz : Nat} {f : α → List AV} (l : List α) (h : ∀ a ∈ l, ∀ x ∈ f a, PV x) : PV (lst sz f l) := .list fun r hr x hx => by
  obtain ⟨a, ha, rfl⟩ := List.mem_map.1 hr
  exact h a ha x hx
@[reducible] def int (n : Int) : AV := .sc (.int .i64 n)
@[reducible] def boo (b : Bool) : AV := .sc (.bool b)
@[reducible] def str (l : List UInt8) : AV := .sc (.string (bs l))
theorem wrapu64 {a : Int} (h : 0 ≤ a ∧ a ≤ 18446744073709551615) : IntKind.u64.wrap a = a := by
  simp only [IntKind.wrap, IntKind.bits, IntKind.signed]; simp; omega
end Go.Pv
