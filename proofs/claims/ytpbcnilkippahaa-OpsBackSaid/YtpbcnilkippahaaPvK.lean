/- The abstract layer, part 11: pointers, bytes and strings, makes. -/
import Derived.Test.YtpbcnilkippahaaPvJ
import Derived.Lib.Builder
import Derived.Lib.UnsafeStr
import Derived.Lib.AppendStr
set_option linter.unusedSimpArgs false
set_option linter.unusedVariables false
namespace Go.Pv
section
variable {P : Program} {n : NT} {S : AS} {o : Oper} {T : TypeId} {x y : Operand}
theorem yv_nilptr {Ty e : TypeId} (ho : o.op = .binOp .eql T x y Ty) (hT : P.underlying T = some (.pointer e)) (hx : S.ev x = some (.sc (.pointer none))) (hy : S.ev y = some (.sc (.pointer none))) : YieldV P o S (.sc (.bool true)) :=
  yv_bin ho hx hy fun w => by
    have hT' : P.underlying T = some (.pointer (P.pointee T)) := by rw [hT]; simp [Program.pointee, hT]
    simp only [eqGuard, Sem.run_bind]
    simp [run_eql_pointer_nil w T none hT']
theorem yv_ptnil {Ty e : TypeId} {p : AV} {cs : List AV} (ho : o.op = .binOp .eql T x y Ty) (hT : P.underlying T = some (.pointer e)) (hx : S.ev x = some p) (hp : PRd S p cs) (hy : S.ev y = some (.sc (.pointer none))) : YieldV P o S (.sc (.bool false)) :=
  yv_of fun s ρ hH h => by
    have hT' : P.underlying T = some (.pointer (P.pointee T)) := by rw [hT]; simp [Program.pointee, hT]
    obtain ⟨b, off, h1, _⟩ := hp.rd hH (h x (by simp [ho, Op.operands]) _ hx)
    have h2 := (h y (by simp [ho, Op.operands]) _ hy).sc_inv
    refine ⟨_, .sc _, ?_⟩
    simp only [execOp, ho, h1, h2, eqGuard, Sem.run_bind]
    simp [run_eql_pointer_nil s.w T _ hT']
theorem yv_ptsame {Ty e : TypeId} {j : TypeInfo} {id ver row off : Nat} {ob : AObj} (ho : o.op = .binOp .neq T x y Ty) (hT : P.underlying T = some (.pointer e)) (hj : P.info? e = some j) (hx : S.ev x = some (.pt id ver row off)) (hy : S.ev y = some (.pt id ver row off))
    (hob : S.hp id = some ob) (hver : ob.ver = ver) (hne : ob.rows ≠ []) : YieldV P o S (.sc (.bool false)) :=
  yv_of fun s ρ hH h => by
    obtain ⟨m, cur, fr, hm, hb, h1⟩ := pt_live hH hob hver hne (h x (by simp [ho, Op.operands]) _ hx)
    obtain ⟨m', cur', fr', hm', hb', h2⟩ := pt_live hH hob hver hne (h y (by simp [ho, Op.operands]) _ hy)
    rw [hm] at hm'; cases hm'
    refine ⟨_, .sc _, ?_⟩
    simp only [execOp, ho, h1, h2, eqGuard, Sem.run_bind]
    simp [Lib.run_neq_ptr_same s.w _ hT hj]
theorem yv_toU {src t : TypeId} {j : TypeInfo} {id ver : Nat} {ob : AObj} {r : List AV} (ho : o.op = .convert src T x) (hs : P.underlying src = some (.pointer t)) (hT : P.underlying T = some .unsafePointer) (hj : P.info? t = some j) (hjs : j.size ≠ 0)
    (hx : S.ev x = some (.pt id ver 0 0)) (hob : S.hp id = some ob) (hver : ob.ver = ver) (hr : ob.rows = [r]) (hsz : 0 < ob.sz) : YieldV P o S (.pt id ver 0 0) :=
  yv_of fun s ρ hH h => by
    have hv := h x (by simp [ho, Op.operands]) _ hx
    obtain ⟨m, cur, fr, hm, hb, h1⟩ := pt_live hH hob hver (by rw [hr]; simp) hv
    have hpos : 0 < cur.size := by
      rw [hb.hcs]
      have := hb.hlen; rw [hr] at this; simp at this
      exact Nat.mul_pos (by omega) hsz
    refine ⟨_, hv, ?_⟩
    have hsh : s.w.shape? (⟨m.b, 0 * ob.sz + 0, none⟩ : Addr).block = some (ob.elem, cur.size) := by simp [World.shape?, hb.hb]
    have := Lib.run_to_unsafe (P := P) s.w ⟨m.b, 0 * ob.sz + 0, none⟩ hs hT hj hjs hsh (by simpa using hpos)
    simp only [execOp, ho, h1, Sem.run_bind, this]
    rfl
theorem yv_fromU {src u e : TypeId} {j : TypeInfo} {id ver : Nat} {ob : AObj} {r : List AV} (ho : o.op = .convert src T x) (hs : P.underlying src = some .unsafePointer) (hT : P.underlying T = some (.pointer u)) (hj : P.info? u = some j)
    (hx : S.ev x = some (.pt id ver 0 0)) (hob : S.hp id = some ob) (hver : ob.ver = ver) (hr : ob.rows = [r]) (hel : ob.elem = e) (hlies : ∀ c, liesAt P P.depth e c 0 u 1 = true ∨ c = 0) (hc : P.cellsOf e = ob.sz) (hsz : 0 < ob.sz) : YieldV P o S (.pt id ver 0 0) :=
  yv_of fun s ρ hH h => by
    have hv := h x (by simp [ho, Op.operands]) _ hx
    obtain ⟨m, cur, fr, hm, hb, h1⟩ := pt_live hH hob hver (by rw [hr]; simp) hv
    have hpos : 0 < m.ct := by have := hb.hlen; rw [hr] at this; simp at this; omega
    refine ⟨_, hv, ?_⟩
    have hsh : s.w.shape? (⟨m.b, 0 * ob.sz + 0, none⟩ : Addr).block = some (e, cur.size) := by simp [World.shape?, hb.hb, hel]
    have hcc : cur.size / P.cellsOf e = m.ct := by rw [hc, hb.hcs, Nat.mul_div_cancel _ hsz]
    have hl : liesAt P P.depth e (cur.size / P.cellsOf e) (⟨m.b, 0 * ob.sz + 0, none⟩ : Addr).off u 1 = true := by
      rw [hcc]
      rcases hlies m.ct with h | h
      · simpa using h
      · omega
    have := Lib.run_from_unsafe (P := P) s.w ⟨m.b, 0 * ob.sz + 0, none⟩ hs hT hj hsh hl
    simp only [execOp, ho, h1, Sem.run_bind, this]
    rfl
theorem yv_noEscape {f : FuncId} {fn : Func} {v : AV} {ts : Array TypeId} (ho : o.op = .call { callee := .value (.func f), args := #[x], argTypes := ts }) (hf : P.funcs[f]? = some fn) (hb : fn.body = none) (hn : (fn.name == "runtime.NumGoroutine") = false)
    (h1 : Extern.findNext fn = none) (h2 : Extern.find fn = some Extern.AbiNoEscape.same) (hx : S.ev x = some v) : YieldV P o S v :=
  yv_of fun s ρ hH h => by
    refine ⟨ρ x, h x (by simp [ho, Op.operands, Call.operands]) _ hx, ?_⟩
    have hfv := h (.func f) (by simp [ho, Op.operands, Call.operands]) (.fn (.func f) [] []) rfl
    generalize hu : ρ (.func f) = u at hfv
    cases hfv with
    | fn hl hl' h3 h4 =>
      rename_i a' c'
      have ea : a' = #[] := Array.eq_empty_of_size_eq_zero hl.symm
      have ec : c' = #[] := Array.eq_empty_of_size_eq_zero hl'.symm
      subst ea ec
      have hb' : fn.body.isNone = true := by rw [hb]; rfl
      simp only [execOp, ho, resolve, hu, Deferred.ofValue, Sem.run_bind, Sem.run_pure, Result.andThen_ok, invoke, callFunc, program, Sem.run, hf, hn, hb', if_true, Bool.false_eq_true, if_false, mark, h1, h2]
      simp only [List.map_toArray, List.map_cons, List.map_nil, Array.empty_append, Array.append_empty, Lib.run_noEscape, Result.andThen_ok]
def byteRows (l : List UInt8) : List (List AV) := l.map fun b => [.sc (.int .u8 b.toNat)]
theorem bytes_cells {s : Sit} {id ver k : Nat} {ob : AObj} {v : Value} {l : List UInt8} (hH : HR s S.hp) (hob : S.hp id = some ob) (hver : ob.ver = ver) (hsz : ob.sz = 1) (hr : ob.rows = byteRows l) (hk : k = l.length) (hv : VR s (.sl id ver 0 k) v) :
    (v = .slice none 0 0 ∧ l = []) ∨ ∃ m cur fr cap, s.mu id = some m ∧ ObjB s ob m cur fr ∧ v = .slice (some ⟨m.b, 0, none⟩) l.length cap ∧ l.length ≤ cap ∧ cap ≤ m.ct ∧ ∀ (j : Nat) (b : UInt8), l[j]? = some b → cur[j]? = some (.int .u8 b.toNat) := by
  obtain ⟨m, hm⟩ := hH.obj id ob hob
  cases hv with
  | sl hk0 h1 hh =>
    have hh := hh m hm.hm (hm.hver.trans hver)
    rcases hm.body with ⟨hn, he⟩ | ⟨cur, fr, hb⟩
    · refine .inl ⟨(hh.1 hn).1, ?_⟩
      rw [hr] at he; simpa [byteRows] using he
    · obtain ⟨cap, q1, q2, q3⟩ := hh.2 hb.hnil
      refine .inr ⟨m, cur, fr, cap, hm.hm, hb, by rw [q1, Nat.zero_mul, hk], by omega, by omega, fun j b hj => ?_⟩
      have hrow : ob.rows[j]? = some [.sc (.int .u8 b.toNat)] := by rw [hr]; simp [byteRows, hj]
      obtain ⟨u, g1, g2⟩ := hb.rd hrow 0 _ rfl
      rw [cell_of_cells hb.hb, hsz, Nat.mul_one, Nat.add_zero] at g1
      rw [g1, g2.sc_inv]
theorem foldl_push (l : List UInt8) : ∀ (s : ByteArray), (l.map fun (b : UInt8) => (b.toNat : Int)).foldl (fun r n => r.push (UInt8.ofNat n.toNat)) s = s ++ bs l := by
  induction l with
  | nil => intro s; apply ByteArray.ext; simp [bs]
  | cons b l ih =>
    intro s
    simp only [List.map_cons, List.foldl_cons, ih]
    apply ByteArray.ext
    simp [bs, ByteArray.data_push]
theorem yv_bytesToString {src e : TypeId} {id ver k : Nat} {ob : AObj} {l : List UInt8} (ho : o.op = .convert src T x) (hs : P.underlying src = some (.slice e)) (he : P.underlying e = some (.int .u8)) (hT : P.underlying T = some .string)
    (hx : S.ev x = some (.sl id ver 0 k)) (hob : S.hp id = some ob) (hver : ob.ver = ver) (hsz : ob.sz = 1) (hr : ob.rows = byteRows l) (hk : k = l.length) : YieldV P o S (.sc (.string (bs l))) :=
  yv_of fun s ρ hH h => by
    refine ⟨_, .sc _, ?_⟩
    rcases bytes_cells hH hob hver hsz hr hk (h x (by simp [ho, Op.operands]) _ hx) with ⟨h1, h2⟩ | ⟨m, cur, fr, cap, h1, h2, h3, h4, h5, h6⟩
    · simp only [execOp, ho, h1, h2, Sem.run_bind, run_convert_bytes_string s.w src T e none 0 0 hs he hT]
      rfl
    · have hl : (loadCells ⟨m.b, 0, none⟩ l.length).run P s.w = .ok ((l.map fun (b : UInt8) => (b.toNat : Int)).map (Value.int .u8)).toArray s.w := by
        have := run_loadCells_list (P := P) s.w ⟨m.b, 0, none⟩ ((l.map fun (b : UInt8) => (b.toNat : Int)).map (Value.int .u8)) (fun j v hv => by
          rw [addr_add, cell_of_cells h2.hb, Nat.zero_add]
          simp only [List.getElem?_map] at hv
          cases hj : l[j]? with
          | none => rw [hj] at hv; simp at hv
          | some b => rw [hj] at hv; simp at hv; rw [h6 j b hj, hv])
        simpa using this
      have := run_bytesToString (P := P) s.w ⟨m.b, 0, none⟩ l.length cap _ hl
      simp only [execOp, ho, h3, Sem.run_bind, run_convert_bytes_string s.w src T e _ _ _ hs he hT, this, Result.andThen_ok, foldl_push]
      have : ByteArray.empty ++ bs l = bs l := by apply ByteArray.ext; simp [bs]
      rw [this]; rfl
end
end Go.Pv
