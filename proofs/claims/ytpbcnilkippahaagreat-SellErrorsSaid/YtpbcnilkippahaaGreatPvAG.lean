/- Maps of functions by a number: looked up. -/
import Derived.Test.YtpbcnilkippahaaGreatPvAF
set_option linter.unusedSimpArgs false
set_option linter.unusedVariables false
namespace Go.Pv
section
variable {P : Program} {S : AS} {o : Oper} {T K E : TypeId} {x y : Operand}
theorem map_getD {l : List Int} {k : Nat} (h : l.length = k) : l.map int = (List.range k).map fun i => int (l.getD i 0) := by
  subst h
  refine List.ext_getElem (by simp) fun i h1 h2 => ?_
  simp only [List.getElem_map, List.getElem_range]
  have h3 : i < l.length := by simpa using h1
  simp [List.getD, List.getElem?_eq_getElem h3]
theorem yv_ldARw {id ver k : Nat} {ob : AObj} {l : List Int} (ho : o.op = .load T x) (hT : tySh P T = some (k, true)) (hx : S.ev x = some (.pt id ver 0 0))
    (hob : S.hp id = some ob) (hver : ob.ver = ver) (hr : ob.rows = [l.map int]) (hl : l.length = k) : YieldV P o S (.agg ((List.range k).map fun i => int (l.getD i 0))) :=
  yv_load ho hT hx (.pt hob hver (r := l.map int) (by rw [hr]; rfl)) (by
    rw [← map_getD hl]
    show cellsV k true (l.map int) = _
    unfold cellsV
    rw [if_pos rfl, if_pos (by simp [hl]), List.take_of_length_le (by simp [hl])])
structure MapAt (s : Sit) (H : AH) (b : Nat) (ks : List Int) (xs : List AV) : Prop where
  him : ¬ s.Im b
  hno : ¬ Owned s H b
  at' : ∃ es clock, s.w.heap[b]? = some (.map es clock) ∧ es.toList.map (·.key) = ks.map (Value.int .i64) ∧ xs.length = es.toList.length ∧ ∀ (i : Nat) (x : AV) (e : MapEntry), xs[i]? = some x → es.toList[i]? = some e → VR s x e.val
theorem SR.vals {n : Nat} {s s' : Sit} {S : AS} {a : Act} (hs : SR n s S a) (hH : HR s' S.hp) (hv : ∀ x v, VR s x v → VR s' x v) : SR n s' S a :=
  ⟨hs.size, hs.defers, fun t x hx => let ⟨v, h1, h2⟩ := hs.slot t x hx; ⟨v, h1, hv _ _ h2⟩, hH⟩
variable {n : Nat} {ops rest : List Oper} {K' : AS → Prop}
variable {Q0 : Go.Exit → AS → Prop} {st : List Fm} {cs : List Code} {b : Nat} {ks : List Int} {xs : List AV}
end
end Go.Pv
