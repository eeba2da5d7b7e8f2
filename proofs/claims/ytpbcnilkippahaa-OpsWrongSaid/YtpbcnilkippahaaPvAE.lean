/- More operations: methods of interfaces, type tests, arrays by a number, clear, the greatest of three. -/
import Derived.Test.YtpbcnilkippahaaPvAD
import Derived.ChangeKeysEq
set_option linter.unusedSimpArgs false
set_option linter.unusedVariables false
namespace Go.Pv
section
variable {P : Program} {n : NT} {S : AS} {o : Oper} {T : TypeId} {x y z : Operand}
theorem yv_ixAR {e N id ver : Nat} {b : Bool} {ob : AObj} {kk : IntKind} {i : Int} {r : List AV} (ho : o.op = .indexAddr T x y) (hT : P.underlying T = some (.array N e)) (he : tySh P e = some (1, b)) (hx : S.ev x = some (.pt id ver 0 0)) (hy : S.ev y = some (.sc (.int kk i)))
    (hob : S.hp id = some ob) (hver : ob.ver = ver) (hr : ob.rows = [r]) (hi : 0 ≤ i ∧ i < (N : Int)) : YieldV P o S (.pt id ver 0 i.toNat) := by
  have h := yv_indexAddrA (r := r) ho hT he hx hy hob hver (by rw [hr]; rfl) hi
  rwa [Nat.zero_add, Nat.mul_one] at h
theorem putRow_one {r : List AV} {k : Nat} {v : AV} (h : k < r.length) : putRow r k [v] = r.set k v := by
  unfold putRow
  rw [List.set_eq_take_append_cons_drop, if_pos h]
  simp
end
section
variable {P : Program} {n : NT} {S : AS} {o : Oper} {T : TypeId} {x y : Operand} {α : Type}
end
end Go.Pv
