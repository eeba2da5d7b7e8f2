/- Short words for what walks say most often. -/
import Derived.Test.YtiamgfjojjjggaaGreatPvAE
set_option linter.unusedSimpArgs false
set_option linter.unusedVariables false
namespace Go.Pv
def rl {α : Type} : List (Nat × α) → α → Nat → α
  | [], d, _ => d
  | (j, v) :: r, d, i => bif Nat.beq i j then v else rl r d i
section
variable {P : Program} {n : NT} {ops : List Oper} {rdl kpl : Nat → List Nat} {pu : Nat → Bool} {K : AS → Prop} {pi : List Nat} {i t : Nat} {o : Oper} {f : Nat → Option AV} {hp : AH} {x y : Operand} {v : AV}
theorem eP (hy : ∀ H, (∀ k, k ∈ rdl i → H k = hp k) → YieldV P o ⟨f, H⟩ v) (h : DE P ops rdl kpl pu K pi ⟨upd f t (some v), hp⟩) (ho : ops[i]? = some o := by rfl) (hpu : pu i = true := by rfl) (hw : Wd ops ⟨f, hp⟩ o = some true := by rfl) (hd : o.dst = some t := by rfl) (hs : allS (rdl i) = true := by rfl) :
    DE P ops rdl kpl pu K (i :: pi) ⟨f, hp⟩ := de_pure ho hpu hw hd hy h hs
theorem eM (h : DE P ops rdl kpl pu K pi ⟨upd f t (some v), hp⟩) (ho : ops[i]? = some o := by rfl) (hm : o.op = .move x := by rfl) (hx : (AS.mk f hp).ev x = some v := by rfl) (hpu : pu i = true := by rfl) (hw : Wd ops ⟨f, hp⟩ o = some true := by rfl) (hd : o.dst = some t := by rfl) (hs : allS (rdl i) = true := by rfl) :
    DE P ops rdl kpl pu K (i :: pi) ⟨f, hp⟩ := de_pure ho hpu hw hd (fun H hH => yv_move hm hx) h hs
theorem eA (h : DE P ops rdl kpl pu K pi ⟨upd f t (some v), hp⟩) (ho : ops[i]? = some o := by rfl) (hm : o.op = .assign x := by rfl) (hx : (AS.mk f hp).ev x = some v := by rfl) (hpu : pu i = true := by rfl) (hw : Wd ops ⟨f, hp⟩ o = some true := by rfl) (hd : o.dst = some t := by rfl) (hs : allS (rdl i) = true := by rfl) :
    DE P ops rdl kpl pu K (i :: pi) ⟨f, hp⟩ := de_pure ho hpu hw hd (fun H hH => yv_assign hm hx) h hs
theorem eX {j : Nat} {vs : List AV} (h : DE P ops rdl kpl pu K pi ⟨upd f t (some v), hp⟩) (ho : ops[i]? = some o := by rfl) (hm : o.op = .extract x j := by rfl) (hx : (AS.mk f hp).ev x = some (.tup vs) := by rfl) (hv : vs[j]? = some v := by rfl)
    (hpu : pu i = true := by rfl) (hw : Wd ops ⟨f, hp⟩ o = some true := by rfl) (hd : o.dst = some t := by rfl) (hs : allS (rdl i) = true := by rfl) :
    DE P ops rdl kpl pu K (i :: pi) ⟨f, hp⟩ := de_pure ho hpu hw hd (fun H hH => yv_extract hm hx hv) h hs
theorem eL {T k id ver row off : Nat} {b : Bool} {ob : AObj} {r : List AV} (hT : tySh P T = some (k, b)) (h : DE P ops rdl kpl pu K pi ⟨upd f t (some v), hp⟩) (ho : ops[i]? = some o := by rfl) (hm : o.op = .load T x := by rfl)
    (hx : (AS.mk f hp).ev x = some (.pt id ver row off) := by rfl) (hi : id ∈ rdl i := by decide) (hb : hp id = some ob := by rfl) (hr : ob.rows[row]? = some r := by rfl) (he : ob.ver = ver := by rfl) (hv : cellsV k b (r.drop off) = some v := by rfl)
    (hpu : pu i = true := by rfl) (hw : Wd ops ⟨f, hp⟩ o = some true := by rfl) (hd : o.dst = some t := by rfl) (hs : allS (rdl i) = true := by rfl) :
    DE P ops rdl kpl pu K (i :: pi) ⟨f, hp⟩ := de_pure ho hpu hw hd (fun H hH => yv_load hm hT hx (.pt ((hH _ hi).trans hb) he hr) hv) h hs
theorem eF {T k id ver row off j : Nat} {ob : AObj} {r : List AV} (hT : fOff P T j = some k) (h : DE P ops rdl kpl pu K pi ⟨upd f t (some (.pt id ver row (off + k))), hp⟩) (ho : ops[i]? = some o := by rfl) (hm : o.op = .fieldAddr T x j := by rfl)
    (hx : (AS.mk f hp).ev x = some (.pt id ver row off) := by rfl) (hi : id ∈ rdl i := by decide) (hb : hp id = some ob := by rfl) (hr : ob.rows[row]? = some r := by rfl) (he : ob.ver = ver := by rfl)
    (hpu : pu i = true := by rfl) (hw : Wd ops ⟨f, hp⟩ o = some true := by rfl) (hd : o.dst = some t := by rfl) (hs : allS (rdl i) = true := by rfl) :
    DE P ops rdl kpl pu K (i :: pi) ⟨f, hp⟩ := de_pure ho hpu hw hd (fun H hH => yv_fieldAddr hm hT hx (.pt ((hH _ hi).trans hb) he hr) (.pt _ _ _ _ _)) h hs
theorem eN {id ver row off : Nat} {ob : AObj} {r : List AV} (h : DE P ops rdl kpl pu K pi ⟨upd f t (some (.pt id ver row off)), hp⟩) (ho : ops[i]? = some o := by rfl) (hm : o.op = .nilCheck x := by rfl)
    (hx : (AS.mk f hp).ev x = some (.pt id ver row off) := by rfl) (hi : id ∈ rdl i := by decide) (hb : hp id = some ob := by rfl) (hr : ob.rows[row]? = some r := by rfl) (he : ob.ver = ver := by rfl)
    (hpu : pu i = true := by rfl) (hw : Wd ops ⟨f, hp⟩ o = some true := by rfl) (hd : o.dst = some t := by rfl) (hs : allS (rdl i) = true := by rfl) :
    DE P ops rdl kpl pu K (i :: pi) ⟨f, hp⟩ := de_pure ho hpu hw hd (fun H hH => yv_nilCheck hm hx (.pt ((hH _ hi).trans hb) he hr)) h hs
end
section
variable {P : Program} {n : NT} {Q0 : Go.Exit → AS → Prop} {st : List Fm} {cs : List Code} {f : Nat → Option AV} {hp : AH} {ops rest : List Oper} {o : Oper} {x y : Operand}
theorem sS (ob' : AObj) {T id ver row off k : Nat} {b : Bool} {ob : AObj} {r : List AV} {v : AV} (hT0 : tySh P T = some (k, b)) (h : RR P n Q0 st ops rest cs ⟨f, upd hp id (some ob')⟩) (ho : o.op = .store T x y := by rfl) (hx : (AS.mk f hp).ev x = some (.pt id ver row off) := by rfl) (hy : (AS.mk f hp).ev y = some v := by rfl)
    (hob : hp id = some ob := by rfl) (hver : ob.ver = ver := by rfl) (hmt : ob.mt = true := by rfl) (hr : ob.rows[row]? = some r := by rfl) (hcl : v.cells.length = k := by rfl) (hfit0 : Nat.ble (off + k) r.length = true := by rfl) (h1 : allOne v.cells = true := by rfl)
    (e : { ob with rows := ob.rows.set row (putRow r off v.cells) } = ob' := by rfl) (hw : Wd ops ⟨f, hp⟩ o = some true := by rfl) (hd : o.dst = none := by rfl) : RR P n Q0 st ops (o :: rest) cs ⟨f, hp⟩ :=
  rsstore hw hd (yl_ob (yl_store ho hT0 hx hy hob hver hmt hr hcl hfit0 h1) e) h
theorem sA (id : Nat) {T t : Nat} {zs : List Value} (hz : zeroOf P T = some zs) (h : ∀ ver, RR P n Q0 st ops rest cs ⟨upd f t (some (.pt id ver 0 0)), upd hp id (some ⟨T, zs.length, true, true, ver, [zs.map .sc]⟩)⟩)
    (ho : o.op = .alloc T := by rfl) (h1 : allOneV zs = true := by rfl) (hw : Wd ops ⟨f, hp⟩ o = some true := by rfl) (hd : o.dst = some t := by rfl) (hn : Nat.blt t n.n = true := by rfl) : RR P n Q0 st ops (o :: rest) cs ⟨f, hp⟩ :=
  rse hw hd hn (yl_alloc id .any ho hz h1) (by rintro _ _ ⟨v, -, rfl, rfl⟩; exact h v)
theorem sB (id : Nat) {T t : Nat} {v : AV} (h : ∀ ver, RR P n Q0 st ops rest cs ⟨upd f t (some (.pt id ver 0 0)), upd hp id (some ⟨T, v.cells.length, true, true, ver, [v.cells]⟩)⟩)
    (ho : o.op = .box T x := by rfl) (hx : (AS.mk f hp).ev x = some v := by rfl) (h1 : allOne v.cells = true := by rfl) (hw : Wd ops ⟨f, hp⟩ o = some true := by rfl) (hd : o.dst = some t := by rfl) (hn : Nat.blt t n.n = true := by rfl) : RR P n Q0 st ops (o :: rest) cs ⟨f, hp⟩ :=
  rse hw hd hn (yl_box id .any ho hx h1) (by rintro _ _ ⟨v, -, rfl, rfl⟩; exact h v)
def evs (S : AS) : List Operand → Option (List AV)
  | [] => some []
  | x :: r => match S.ev x with
    | some v => match evs S r with
      | some vs => some (v :: vs)
      | none => none
    | none => none
theorem evs_ok {S : AS} : ∀ {as : List Operand} {vs : List AV}, evs S as = some vs → EvL S as vs
  | [], vs, h => by simp only [evs, Option.some.injEq] at h; subst h; exact .nil
  | x :: r, vs, h => by
    unfold evs at h
    split at h
    · rename_i v hv
      split at h
      · rename_i us hu
        simp only [Option.some.injEq] at h; subst h; exact .cons hv (evs_ok hu)
      · cases h
    · cases h
theorem sC {fo : Operand} {as : List Operand} {ts : Array TypeId} {k t : Nat} {first cap vs args : List AV} {v : AV} (hc : cal P k = true) (hp' : PP P k args (fun y => y = v)) (h : RR P n Q0 st ops rest cs ⟨upd f t (some v), hp⟩)
    (ho : o.op = .call { callee := .value fo, args := as.toArray, argTypes := ts } := by rfl) (hf : (AS.mk f hp).ev fo = some (.fn (.func k) first cap) := by rfl) (ha : evs (AS.mk f hp) as = some vs := by rfl)
    (hcv : first ++ vs ++ cap = args := by rfl) (hw : Wd ops ⟨f, hp⟩ o = some true := by rfl) (hd : o.dst = some t := by rfl) (hn : Nat.blt t n.n = true := by rfl) : RR P n Q0 st ops (o :: rest) cs ⟨f, hp⟩ :=
  rst hw hd hn (yv_callP ho hf (evs_ok ha) hc (by rw [hcv]; exact CvL.refl _) hp') h
theorem sY {t : Nat} {v : AV} (hy : YieldV P o ⟨f, hp⟩ v) (h : RR P n Q0 st ops rest cs ⟨upd f t (some v), hp⟩) (hw : Wd ops ⟨f, hp⟩ o = some true := by rfl) (hd : o.dst = some t := by rfl) (hn : Nat.blt t n.n = true := by rfl) : RR P n Q0 st ops (o :: rest) cs ⟨f, hp⟩ := rst hw hd hn hy h
theorem wR {S : AS} {rs : List ResultVar} {vs : List AV} {G : List AV → AH → Prop} (hret : ∀ (S' : AS) (vs : List AV) (H2 : AH), ResA P S' rs vs → (∀ t v, H2 t = some v → S'.hp t = some v) → G vs H2 → Q0 .ret S') (hR : ResA P S rs vs) (h : G vs S.hp) : Trs P n (QQ P n Q0 st) (.ret :: cs) S :=
  w_ret (hret S vs S.hp hR (fun _ _ h => h) h)
theorem rC {S : AS} {t T k id ver row off : Nat} {b : Bool} {v : AV} {ob : AObj} {r : List AV} {rs : List ResultVar} {vs : List AV} (hT : tySh P T = some (k, b)) (hr : ResA P S rs vs) (h : S.sl t = some (.pt id ver row off) := by rfl) (ho : S.hp id = some ob := by rfl) (hv : ob.ver = ver := by rfl)
    (hw : ob.rows[row]? = some r := by rfl) (hc : cellsV k b (r.drop off) = some v := by rfl) : ResA P S (.cell t T :: rs) (v :: vs) := .cell h (.pt ho hv hw) hT hc hr
theorem rT {S : AS} {t : Nat} {v : AV} {rs : List ResultVar} {vs : List AV} (hr : ResA P S rs vs) (h : S.sl t = some v := by rfl) : ResA P S (.tmp t :: rs) (v :: vs) := .tmp h hr
end
end Go.Pv
