/- Calls that only look. -/
import Derived.Test.YtogdmdlpnhbjkaaGreatPvO
set_option linter.unusedSimpArgs false
set_option linter.unusedVariables false
namespace Go.Pv
inductive Has : AV → Nat → Prop
  | pt {id ver row off : Nat} : Has (.pt id ver row off) ver
  | sl {id ver off len : Nat} : Has (.sl id ver off len) ver
  | list {sz k : Nat} {xs : List (List AV)} {i j : Nat} {r : List AV} {x : AV} (h1 : xs[i]? = some r) (h2 : r[j]? = some x) (h : Has x k) : Has (.list sz xs) k
  | pp {cs : List AV} {i k : Nat} {x : AV} (h1 : cs[i]? = some x) (h : Has x k) : Has (.pp cs) k
  | agg {cs : List AV} {i k : Nat} {x : AV} (h1 : cs[i]? = some x) (h : Has x k) : Has (.agg cs) k
  | fn1 {f : Fn} {a c : List AV} {i k : Nat} {x : AV} (h1 : a[i]? = some x) (h : Has x k) : Has (.fn f a c) k
  | fn2 {f : Fn} {a c : List AV} {i k : Nat} {x : AV} (h1 : c[i]? = some x) (h : Has x k) : Has (.fn f a c) k
  | ifc {t : TypeId} {k : Nat} {x : AV} (h : Has x k) : Has (.ifc t x) k
  | tup {cs : List AV} {i k : Nat} {x : AV} (h1 : cs[i]? = some x) (h : Has x k) : Has (.tup cs) k
  | mp {ks : List Int} {cs : List AV} {i k : Nat} {x : AV} (h1 : cs[i]? = some x) (h : Has x k) : Has (.mp ks cs) k
theorem get_of {α : Type} {l : Array α} {n i : Nat} (h : n = l.size) (hi : i < n) : ∃ v, l[i]? = some v := ⟨l[i]'(by omega), Array.getElem?_eq_getElem (by omega)⟩
theorem lt_of {α : Type} {l : List α} {i : Nat} {x : α} (h : l[i]? = some x) : i < l.length := (List.getElem?_eq_some_iff.1 h).1
theorem VR.has {s : Sit} {x : AV} {v : Value} (h : VR s x v) : ∀ k, Has x k → s.used k := by
  induction h with
  | sc v => intro k h; cases h
  | nil sz => intro k h; cases h with | list h1 _ _ => simp at h1
  | emp sz a => intro k h; cases h with | list h1 _ _ => simp at h1
  | list f hI hc hm hr hf _ ih => intro k h; cases h with | list h1 h2 h => exact ih _ _ _ _ h1 h2 k h
  | pp f hI hf _ ih => intro k h; cases h with | pp h1 h => exact ih _ _ h1 k h
  | pt hk h1 h => intro k h; cases h; exact hk
  | sl hk h1 h => intro k h; cases h; exact hk
  | agg hl _ ih => intro k h; cases h with | agg h1 h => obtain ⟨v, hv⟩ := get_of hl (lt_of h1); exact ih _ _ v h1 hv k h
  | fn hl hl' _ _ ih ih' =>
    intro k h
    cases h with
    | fn1 h1 h => obtain ⟨v, hv⟩ := get_of hl (lt_of h1); exact ih _ _ v h1 hv k h
    | fn2 h1 h => obtain ⟨v, hv⟩ := get_of hl' (lt_of h1); exact ih' _ _ v h1 hv k h
  | ifc _ ih => intro k h; cases h with | ifc h => exact ih k h
  | tup hl _ ih => intro k h; cases h with | tup h1 h => obtain ⟨v, hv⟩ := get_of hl (lt_of h1); exact ih _ _ v h1 hv k h
  | mp hI' hb hk hl _ ih => intro k h; cases h with | mp h1 h => exact ih _ _ _ h1 (List.getElem?_eq_getElem (by have := lt_of h1; omega)) k h
theorem PV.has {x : AV} (h : PV x) : ∀ k, ¬ Has x k := by
  induction h with
  | sc v => intro k h; cases h
  | list _ ih => intro k h; cases h with | list h1 h2 h => exact ih _ (List.mem_of_getElem? h1) _ (List.mem_of_getElem? h2) k h
  | pp _ ih => intro k h; cases h with | pp h1 h => exact ih _ (List.mem_of_getElem? h1) k h
  | agg _ ih => intro k h; cases h with | agg h1 h => exact ih _ (List.mem_of_getElem? h1) k h
  | fn _ _ ih ih' =>
    intro k h
    cases h with
    | fn1 h1 h => exact ih _ (List.mem_of_getElem? h1) k h
    | fn2 h1 h => exact ih' _ (List.mem_of_getElem? h1) k h
  | ifc _ ih => intro k h; cases h with | ifc h => exact ih k h
  | tup _ ih => intro k h; cases h with | tup h1 h => exact ih _ (List.mem_of_getElem? h1) k h
  | mp _ ih => intro k h; cases h with | mp h1 h => exact ih _ (List.mem_of_getElem? h1) k h
theorem yv_to {P : Program} {S : AS} {o : Oper} {x y : AV} (h : YieldV P o S x) (e : x = y) : YieldV P o S y := e ▸ h
end Go.Pv
