/- Encodings of plain data as abstract values. -/
import Derived.Test.YtpbcnilkippahaaPvL
set_option linter.unusedSimpArgs false
set_option linter.unusedVariables false
namespace Go.Pv
@[reducible] def lst {α : Type} (sz : Nat) (f : α → List AV) (l : List α) : AV := .list sz (l.map f)
theorem lst_ix {α : Type} {S : AS} {sz : Nat} {f : α → List AV} {l : List α} {j : Nat} (h : j < l.length) : IAd S sz (lst sz f l) j (.pp (f l[j])) :=
  .list (by rw [List.getElem?_map, List.getElem?_eq_getElem h]; rfl)
theorem lst_len {α : Type} {S : AS} {sz : Nat} {f : α → List AV} (l : List α) : SlLen S (lst sz f l) l.length := by
  have := SlLen.list (S := S) sz (l.map f)
  rwa [List.length_map] at this
theorem yv_ixl {α : Type} {P : Program} {S : AS} {o : Oper} {T e : TypeId} {x y : Operand} {sz : Nat} {b : Bool} {f : α → List AV} {l : List α} {k : IntKind} {i : Int} {j : Nat} (ho : o.op = .indexAddr T x y) (hT : P.underlying T = some (.slice e)) (he : tySh P e = some (sz, b))
    (hx : S.ev x = some (lst sz f l)) (hy : S.ev y = some (.sc (.int k i))) (hi : i = (j : Int)) (h : j < l.length) {cs : List AV} (hc : f l[j] = cs) : YieldV P o S (.pp cs) := by subst hc; exact yv_indexAddr ho hT he hx hy hi (lst_ix h)
theorem cv_lst {α : Type} {H : AH} {id ver len sz : Nat} {ob : AObj} {f : α → List AV} {l : List α} (ho : H id = some ob) (hver : ob.ver = ver) (hmt : ob.mt = false) (hsz : ob.sz = sz) (hr : ob.rows = l.map f) (hl : len = l.length) : Cv H (.sl id ver 0 len) (lst sz f l) := by
  have := Cv.sl (rows := l.map f) (off := 0) (len := len) ho hver hmt (by rw [hr]; exact CvLL.refl _) (by rw [List.length_map]; omega)
  rw [hsz] at this
  have e : ((l.map f).drop 0).take len = l.map f := by rw [List.drop_zero, hl, List.take_of_length_le (by rw [List.length_map]; exact Nat.le_refl _)]
  rw [e] at this; exact this
theorem pv_lst {α : Type} {sz : Nat} {f : α → List AV} (l : List α) (h : ∀ a ∈ l, ∀ x ∈ f a, PV x) : PV (lst sz f l) := .list fun r hr x hx => by
  obtain ⟨a, ha, rfl⟩ := List.mem_map.1 hr
  exact h a ha x hx
theorem upd_at {α : Type} {f : Nat → Option α} {i j : Nat} {v x : Option α} (h : j ≠ i) (e : f j = x) : upd f i v j = x := (upd_ne _ _ h).trans e
@[reducible] def int (n : Int) : AV := .sc (.int .i64 n)
@[reducible] def boo (b : Bool) : AV := .sc (.bool b)
@[reducible] def str (l : List UInt8) : AV := .sc (.string (bs l))
@[reducible] def ints (l : List Int) : AV := lst 1 (fun n => [int n]) l
theorem wrapu64 {a : Int} (h : 0 ≤ a ∧ a ≤ 18446744073709551615) : IntKind.u64.wrap a = a := by
  simp only [IntKind.wrap, IntKind.bits, IntKind.signed]; simp; omega
theorem wrapu8 {a : Int} (h : 0 ≤ a ∧ a ≤ 255) : IntKind.u8.wrap a = a := IntWalk.u8_in a h
end Go.Pv
