/- Walks told by trees: small words. -/
import Derived.Test.YtkgnickfdedbmabGreatPwD
set_option linter.unusedVariables false
set_option linter.unusedSimpArgs false
namespace Go.Pv
theorem bE {P:Program} {o:Oper} {f:FS} {hp:AH} {v:AV} {tb:dX} (h:bJ P o ⟨f,hp⟩ v):∀ H,H=hp->cK P tb->bJ P o ⟨f,H⟩ v:=λH e _=>by rw [e];exact h
theorem SS {a:AV} {l:List AV} (ha:PV a) (hl:∀ x∈l,PV x):∀ x∈a :: l,PV x:=by
  intro x hx;rcases List.mem_cons.1 hx with rfl | h
  · exact ha
  · exact hl x h
def pw {α β:Type} {γ:Type 1} (f:α->β->γ) (p:α×β):γ:=f p.1 p.2
theorem O9 {P:Program} {i:Ix} {α β:Type} (f:α->β->WT P i) (p:α×β):(pw f p).run=p2 (λa b=>(f a b).run) p:=rfl
end Go.Pv
