/- Short words for what walks say most often. -/
import Derived.Test.YtbcjcecegdfnpaaGreatPvAE
set_option linter.unusedSimpArgs false
set_option linter.unusedVariables false
namespace Go.Pv
def rl {α : Type} : List (Nat × α) → α → Nat → α
  | [], d, _ => d
  | (j, v) :: r, d, i => bif Nat.beq i j then v else rl r d i
section
variable {P : Program} {n : Nat} {ops : List Oper} {rdl kpl : Nat → List Nat} {pu : Nat → Bool} {K : AS → Prop} {pi : List Nat} {i t : Nat} {o : Oper} {f : Nat → Option AV} {hp : AH} {x y : Operand} {v : AV}
theorem eP (hy : ∀ H, (∀ k, k ∈ rdl i → H k = hp k) → YieldV P o ⟨f, H⟩ v) (h : DE P ops rdl kpl pu K pi ⟨upd f t (some v), hp⟩) (ho : ops[i]? = some o := by rfl) (hpu : pu i = true := by rfl) (hw : Wd ops ⟨f, hp⟩ o = some true := by rfl) (hd : o.dst = some t := by rfl) :
    DE P ops rdl kpl pu K (i :: pi) ⟨f, hp⟩ := de_pure ho hpu hw hd hy h
theorem eM (h : DE P ops rdl kpl pu K pi ⟨upd f t (some v), hp⟩) (ho : ops[i]? = some o := by rfl) (hm : o.op = .move x := by rfl) (hx : (AS.mk f hp).ev x = some v := by rfl) (hpu : pu i = true := by rfl) (hw : Wd ops ⟨f, hp⟩ o = some true := by rfl) (hd : o.dst = some t := by rfl) :
    DE P ops rdl kpl pu K (i :: pi) ⟨f, hp⟩ := de_pure ho hpu hw hd (fun H hH => yv_move hm hx) h
theorem eA (h : DE P ops rdl kpl pu K pi ⟨upd f t (some v), hp⟩) (ho : ops[i]? = some o := by rfl) (hm : o.op = .assign x := by rfl) (hx : (AS.mk f hp).ev x = some v := by rfl) (hpu : pu i = true := by rfl) (hw : Wd ops ⟨f, hp⟩ o = some true := by rfl) (hd : o.dst = some t := by rfl) :
    DE P ops rdl kpl pu K (i :: pi) ⟨f, hp⟩ := de_pure ho hpu hw hd (fun H hH => yv_assign hm hx) h
theorem eX {j : Nat} {vs : List AV} (h : DE P ops rdl kpl pu K pi ⟨upd f t (some v), hp⟩) (ho : ops[i]? = some o := by rfl) (hm : o.op = .extract x j := by rfl) (hx : (AS.mk f hp).ev x = some (.tup vs) := by rfl) (hv : vs[j]? = some v := by rfl)
    (hpu : pu i = true := by rfl) (hw : Wd ops ⟨f, hp⟩ o = some true := by rfl) (hd : o.dst = some t := by rfl) :
    DE P ops rdl kpl pu K (i :: pi) ⟨f, hp⟩ := de_pure ho hpu hw hd (fun H hH => yv_extract hm hx hv) h
theorem eL {T k id ver row off : Nat} {b : Bool} {ob : AObj} {r : List AV} (hT : tySh P T = some (k, b)) (h : DE P ops rdl kpl pu K pi ⟨upd f t (some v), hp⟩) (ho : ops[i]? = some o := by rfl) (hm : o.op = .load T x := by rfl)
    (hx : (AS.mk f hp).ev x = some (.pt id ver row off) := by rfl) (hi : id ∈ rdl i := by decide) (hb : hp id = some ob := by rfl) (hr : ob.rows[row]? = some r := by rfl) (he : ob.ver = ver := by rfl) (hv : cellsV k b (r.drop off) = some v := by rfl)
    (hpu : pu i = true := by rfl) (hw : Wd ops ⟨f, hp⟩ o = some true := by rfl) (hd : o.dst = some t := by rfl) :
    DE P ops rdl kpl pu K (i :: pi) ⟨f, hp⟩ := de_pure ho hpu hw hd (fun H hH => yv_load hm hT hx (.pt ((hH _ hi).trans hb) he hr) hv) h
theorem eF {T k id ver row off j : Nat} {ob : AObj} {r : List AV} (hT : fOff P T j = some k) (h : DE P ops rdl kpl pu K pi ⟨upd f t (some (.pt id ver row (off + k))), hp⟩) (ho : ops[i]? = some o := by rfl) (hm : o.op = .fieldAddr T x j := by rfl)
    (hx : (AS.mk f hp).ev x = some (.pt id ver row off) := by rfl) (hi : id ∈ rdl i := by decide) (hb : hp id = some ob := by rfl) (hr : ob.rows[row]? = some r := by rfl) (he : ob.ver = ver := by rfl)
    (hpu : pu i = true := by rfl) (hw : Wd ops ⟨f, hp⟩ o = some true := by rfl) (hd : o.dst = some t := by rfl) :
    DE P ops rdl kpl pu K (i :: pi) ⟨f, hp⟩ := de_pure ho hpu hw hd (fun H hH => yv_fieldAddr hm hT hx (.pt ((hH _ hi).trans hb) he hr) (.pt _ _ _ _ _)) h
theorem eN {id ver row off : Nat} {ob : AObj} {r : List AV} (h : DE P ops rdl kpl pu K pi ⟨upd f t (some (.pt id ver row off)), hp⟩) (ho : ops[i]? = some o := by rfl) (hm : o.op = .nilCheck x := by rfl)
    (hx : (AS.mk f hp).ev x = some (.pt id ver row off) := by rfl) (hi : id ∈ rdl i := by decide) (hb : hp id = some ob := by rfl) (hr : ob.rows[row]? = some r := by rfl) (he : ob.ver = ver := by rfl)
    (hpu : pu i = true := by rfl) (hw : Wd ops ⟨f, hp⟩ o = some true := by rfl) (hd : o.dst = some t := by rfl) :
    DE P ops rdl kpl pu K (i :: pi) ⟨f, hp⟩ := de_pure ho hpu hw hd (fun H hH => yv_nilCheck hm hx (.pt ((hH _ hi).trans hb) he hr)) h
end
section
variable {P : Program} {n : Nat} {Q0 : Go.Exit → AS → Prop} {st : List Fm} {cs : List Code} {f : Nat → Option AV} {hp : AH} {ops rest : List Oper} {o : Oper} {x y : Operand}
theorem sS (ob' : AObj) {T id ver row off k : Nat} {b : Bool} {ob : AObj} {r : List AV} {v : AV} (hT0 : tySh P T = some (k, b)) (h : RR P n Q0 st ops rest cs ⟨f, upd hp id (some ob')⟩) (ho : o.op = .store T x y := by rfl) (hx : (AS.mk f hp).ev x = some (.pt id ver row off) := by rfl) (hy : (AS.mk f hp).ev y = some v := by rfl)
    (hob : hp id = some ob := by rfl) (hver : ob.ver = ver := by rfl) (hmt : ob.mt = true := by rfl) (hr : ob.rows[row]? = some r := by rfl) (hcl : v.cells.length = k := by rfl) (hfit0 : Nat.ble (off + k) r.length = true := by rfl) (h1 : allOne v.cells = true := by rfl)
    (e : { ob with rows := ob.rows.set row (putRow r off v.cells) } = ob' := by rfl) (hw : Wd ops ⟨f, hp⟩ o = some true := by rfl) (hd : o.dst = none := by rfl) : RR P n Q0 st ops (o :: rest) cs ⟨f, hp⟩ :=
  rsstore hw hd (yl_ob (yl_store ho hT0 hx hy hob hver hmt hr hcl hfit0 h1) e) h
end
end Go.Pv
