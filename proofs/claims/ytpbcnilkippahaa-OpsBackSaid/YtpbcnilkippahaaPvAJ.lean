/- A range over a function: its record, its rounds, its end. -/
import Derived.Test.YtpbcnilkippahaaPvAI
set_option linter.unusedSimpArgs false
set_option linter.unusedVariables false
namespace Go.Pv
def Sit.put (s : Sit) (l : Nat) (o : Obj) : Sit := { s with w := s.w.putObj l o }
def noc : Obj → Bool
  | .cells .. => false
  | _ => true
structure NoC (s : Sit) (l : Nat) (o : Obj) : Prop where
  im : ¬ s.Im l
  at' : s.w.heap[l]? = some o
  nc : noc o = true
section
variable {P : Program} {s s' s1 s3 : Sit} {H H' H1 H2 : AH} {l : Nat} {o o1 o2 : Obj}
theorem NoC.lt (h : NoC s l o) : l < s.w.heap.size := (Array.getElem?_eq_some_iff.1 h.at').1
theorem NoC.notOwned (h : NoC s l o) (hH : HR s H) {id : Nat} {ob : AObj} {m : Mu} (h1 : H id = some ob) (h2 : s.mu id = some m) (h3 : m.nil = false) : m.b ≠ l := by
  intro e
  obtain ⟨m', hm'⟩ := hH.obj id ob h1
  have e' : m' = m := by have := hm'.hm.symm.trans h2; simpa using this
  subst e'
  rcases hm'.body with ⟨q, _⟩ | ⟨cur, fr, hb⟩
  · rw [q] at h3; cases h3
  · have := hb.hb; rw [e, h.at'] at this
    cases this
    have := h.nc
    simp [noc] at this
theorem NoC.no (h : NoC s l o) (hH : HR s H) : ¬ Owned s H l := fun ⟨_, _, _, q1, _, q3, q4, q5⟩ => h.notOwned hH q1 q3 q4 q5
theorem NoC.put (h : NoC s l o) (hH : HR s H) (o' : Obj) : HR (s.put l o') H ∧ ∀ x v, VR s x v → VR (s.put l o') x v := by
  refine sit_w hH (s.w.putObj l o') (by simp) fun j hj => World.putObj_heap_other fun e => ?_
  rcases hj with hj | ⟨id, ob, m, q1, q2, q3, q4⟩
  · exact h.im (e ▸ hj)
  · exact h.notOwned hH q1 q2 q3 (q4.trans e)
theorem NoC.fr (h : NoC s l o) (hH : HR s H) (hf : Fr s H s' H') : NoC s' l o := ⟨fun hi => h.im (hf.imo l h.lt (h.no hH) hi), (hf.keep l h.lt (h.no hH)).trans h.at', h.nc⟩
end
abbrev mk (D : Nat) : Deferred := { target := .collected D, args := #[] }
section
variable {P : Program} {l D p : Nat} {fn : FuncId} {tmps : Array Value} {assign body : Code} {s : Sit} {H : AH} {x : AV} {v : Value}
end
section
variable {P : Program}
end
end Go.Pv
