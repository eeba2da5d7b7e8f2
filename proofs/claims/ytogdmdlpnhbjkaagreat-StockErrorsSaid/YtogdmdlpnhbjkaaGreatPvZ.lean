/- What slices.Clone and slices.Grow want; contracts over other words for what comes in. -/
import Derived.Test.YtogdmdlpnhbjkaaGreatPvY
import Derived.Lib.AppendZeros
set_option linter.unusedSimpArgs false
set_option linter.unusedVariables false
namespace Go.Pv
section
variable {P : Program} {n : NT} {S : AS} {o : Oper} {T : TypeId} {x y : Operand} {α : Type}
theorem pc_cv {f : FuncId} {args args' : List AV} {H : AH} {R : AV → AH → Prop} (h : PC P f args' H R) (hc : CvL H args args') : PC P f args H R :=
  fun s vs h1 h2 => h s vs h1 (hc.all h1 h2)
theorem cv_win {H : AH} {id ver off len sz : Nat} {ob : AObj} {g : α → List AV} {l l' : List α} (ho : H id = some ob) (hver : ob.ver = ver) (hmt : ob.mt = false) (hsz : ob.sz = sz) (hr : CvLL H ob.rows (l.map g)) (hb : off + len ≤ l.length) (e : (l.drop off).take len = l') :
    Cv H (.sl id ver off len) (lst sz g l') := by
  have := Cv.sl (rows := l.map g) (off := off) (len := len) ho hver hmt hr (by rw [List.length_map]; exact hb)
  rw [hsz, ← List.map_drop, ← List.map_take, e] at this; exact this
end
end Go.Pv
namespace Go.Pv
end Go.Pv
