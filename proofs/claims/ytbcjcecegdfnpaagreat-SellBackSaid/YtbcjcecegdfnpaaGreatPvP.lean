/- Calls that only look. -/
import Derived.Test.YtbcjcecegdfnpaaGreatPvO
set_option linter.unusedSimpArgs false
set_option linter.unusedVariables false
namespace Go.Pv
inductive Has : AV → Nat → Prop
  | pt {id ver row off : Nat} : Has (.pt id ver row off) ver
  | sl {id ver off len : Nat} : Has (.sl id ver off len) ver
  | list {sz k : Nat} {xs : List (List AV)} {i j : Nat} {r : List AV} {x : AV} (h1 : xs[i]? = some r) (h2 : r[j]? = some x) (h : Has x k) : Has (.list sz xs) k
  | pp {cs : List AV} {i k : Nat} {x : AV} (h1 : cs[i]? = some x) (h : Has x k) : Has (.pp cs) k
  | agg {cs : List AV} {i k : Nat} {x : AV} (h1 : cs[i]? = some x) (h : Has x k) : Has (.agg cs) k
  | fn1 {f : Fn} {a c : List AV} {i k : Nat} {x : AV} (h1 : a[i]? = some x) (h : Has x k) : Has (.fn f a c) k
  | fn2 {f : Fn} {a c : List AV} {i k : Nat} {x : AV} (h1 : c[i]? = some x) (h : Has x k) : Has (.fn f a c) k
  | ifc {t : TypeId} {k : Nat} {x : AV} (h : Has x k) : Has (.ifc t x) k
  | tup {cs : List AV} {i k : Nat} {x : AV} (h1 : cs[i]? = some x) (h : Has x k) : Has (.tup cs) k
  | mp {ks : List Int} {cs : List AV} {i k : Nat} {x : AV} (h1 : cs[i]? = some x) (h : Has x k) : Has (.mp ks cs) k
theorem lt_of {α : Type} {l : List α} {i : Nat} {x : α} (h : l[i]? = some x) : i < l.length := (List.getElem?_eq_some_iff.1 h).1
theorem yv_to {P : Program} {S : AS} {o : Oper} {x y : AV} (h : YieldV P o S x) (e : x = y) : YieldV P o S y := e ▸ h
end Go.Pv
