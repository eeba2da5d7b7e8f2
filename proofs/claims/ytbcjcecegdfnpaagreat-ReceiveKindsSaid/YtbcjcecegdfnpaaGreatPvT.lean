/- Boxes that are never written; objects that are written no more. -/
import Derived.Test.YtbcjcecegdfnpaaGreatPvS
set_option linter.unusedSimpArgs false
set_option linter.unusedVariables false
namespace Go.Pv
theorem yv_boxP {P : Program} {S : AS} {o : Oper} {T : TypeId} {x : Operand} {v : AV} {cs : List AV} (ho : o.op = .box T x) (hx : S.ev x = some v) (h1 : allOne v.cells = true) (hcs : v.cells = cs) : YieldV P o S (.pp cs) := by
  subst hcs
  intro s a next Q hH hops hF hn
  have hxv := hops x (by simp [ho, Op.operands]) _ hx
  obtain ⟨c1, c2, c3⟩ := hxv.cells h1
  obtain ⟨s', g1, g2, g3, g4, g5⟩ := sit_im hH (s.w.alloc (.cells (a.eval x).cells T)) rfl rfl rfl (by simp) (fun k hk => alloc_old s.w _ k hk)
  refine wp_val (w' := s'.w) (v := .pointer (some ⟨s.w.heap.size, 0, none⟩)) ?_ (hn s' _ (.pp v.cells) _ ⟨rfl, rfl⟩ ?_ g4 g5 ?_)
  · rw [g1]
    simp only [execOp, ho, Instr.box, Sem.run_bind, newVar, newRow, newObj, Sem.run, Sem.run_pure]
    rfl
  · refine Rd.pp g3 fun j z hz => ?_
    have hj := lt_of hz
    obtain ⟨u, hu⟩ := get_of (l := (a.eval x).cells) c1.symm hj
    refine ⟨u, ?_, g5.vals _ _ (c2 j z u hz hu)⟩
    rw [g1, Nat.zero_add]
    have := cell_of_cells (alloc_new s.w (.cells (a.eval x).cells T)) (o := j)
    rw [this]; exact hu
  · intro k hk; rw [g2] at hk; exact .inl hk
/-- An object of one row that is written no more is a value: slot t told otherwise. -/
theorem c_pp {P : Program} {n : Nat} {c : Code} {cs : List Code} {f : Nat → Option AV} {hp : AH} {Q : Go.Exit → AS → Prop} (t id : Nat) {ver : Nat} {ob : AObj} {r : List AV} (h : f t = some (.pt id ver 0 0)) (hob : hp id = some ob) (hver : ob.ver = ver) (hr : ob.rows = [r])
    (h1 : Trs P n Q (c :: cs) ⟨upd f t (some (.pp r)), upd hp id (some { ob with mt := false })⟩) : Trs P n Q (c :: cs) ⟨f, hp⟩ := by
  refine c_freeze id hob ?_
  refine c_cv t (.pp r) h ?_ h1
  have := Cv.pt (row := 0) (off := 0) (r := r) (r' := r) (H := upd hp id (some { ob with mt := false })) (upd_same _ _ _) hver rfl (by show ob.rows[0]? = _; rw [hr]; rfl) (CvL.refl _)
  rwa [List.drop_zero] at this
end Go.Pv
