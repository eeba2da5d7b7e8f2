/- Maps of functions by a number: looked up. -/
import Derived.Test.YtpbcnilkippahaaPvAF
set_option linter.unusedSimpArgs false
set_option linter.unusedVariables false
namespace Go.Pv
section
variable {P : Program} {S : AS} {o : Oper} {T K E : TypeId} {x y : Operand}
theorem run_checkKey_int {b : Bool} {n : Nat} {v : Value} {kk : IntKind} (hK : P.underlying K = some (.int kk)) (w : World) : (Instr.checkKey b (n + 1) K v).run P w = .ok () w := by
  unfold Instr.checkKey
  simp only [Sem.run_bind, run_underlying hK, Result.andThen_ok]
  rfl
structure MapAt (s : Sit) (H : AH) (b : Nat) (ks : List Int) (xs : List AV) : Prop where
  him : ¬ s.Im b
  hno : ¬ Owned s H b
  at' : ∃ es clock, s.w.heap[b]? = some (.map es clock) ∧ es.toList.map (·.key) = ks.map (Value.int .i64) ∧ xs.length = es.toList.length ∧ ∀ (i : Nat) (x : AV) (e : MapEntry), xs[i]? = some x → es.toList[i]? = some e → VR s x e.val
theorem not_used {s : Sit} {H : AH} {b id : Nat} {ob : AObj} {m : Mu} {cur : Array Value} {fr : Nat × Nat} (him : ¬ s.Im b) (hno : ¬ Owned s H b) (h : H id = some ob) (hm : s.mu id = some m) (hb : ObjB s ob m cur fr) : m.b ≠ b := by
  intro e
  cases hmt : ob.mt with
  | true => exact hno ⟨id, ob, m, h, hmt, hm, hb.hnil, e⟩
  | false => exact him (e ▸ hb.him hmt)
theorem sit_w {s : Sit} {H : AH} (hH : HR s H) (w' : World) (hsize : s.w.heap.size ≤ w'.heap.size) (hk : ∀ j, (s.Im j ∨ ∃ id o m, H id = some o ∧ s.mu id = some m ∧ m.nil = false ∧ m.b = j) → w'.heap[j]? = s.w.heap[j]?) :
    HR { s with w := w' } H ∧ ∀ x v, VR s x v → VR { s with w := w' } x v := by
  have hmono : ∀ x v, VR s x v → VR { s with w := w' } x v := fun x v h => VR.mono (s := s) (s' := { s with w := w' }) (fun b hi => ⟨hi, hk b (.inl hi)⟩) (fun i m' hm' => .inl hm') (fun _ h => h) h
  refine ⟨⟨fun id o ho => ?_, hH.uniq, fun b hb => Nat.lt_of_lt_of_le (hH.im b hb) hsize, hH.fin⟩, hmono⟩
  obtain ⟨m, hm⟩ := hH.obj id o ho
  refine ⟨m, hm.hm, hm.hver, hm.hsz, hm.hk, ?_⟩
  rcases hm.body with h | ⟨cur, fr, hb⟩
  · exact .inl h
  · exact .inr ⟨cur, fr, ⟨hb.hnil, (hk _ (.inr ⟨id, o, m, ho, hm.hm, hb.hnil, rfl⟩)).trans hb.hb, hb.hfr, hb.happ, hb.hcs, hb.hct, hb.hlen, hb.hr, fun i r j x v a b c => hmono _ _ (hb.hv i r j x v a b c), hb.h1, hb.him, hb.hnim⟩⟩
theorem SR.vals {n : NT} {s s' : Sit} {S : AS} {a : Act} (hs : SR n s S a) (hH : HR s' S.hp) (hv : ∀ x v, VR s x v → VR s' x v) : SR n s' S a :=
  ⟨hs.size, hs.defers, fun t x hx => let ⟨v, h1, h2⟩ := hs.slot t x hx; ⟨v, h1, hv _ _ h2⟩, hH⟩
variable {n : NT} {ops rest : List Oper} {K' : AS → Prop}
variable {Q0 : Go.Exit → AS → Prop} {st : List Fm} {cs : List Code} {b : Nat} {ks : List Int} {xs : List AV}
end
end Go.Pv
