/- The program's functions have answers: numbers, layers. -/
import Derived.Test.YtihfgehjjbnffaaGreatQA80
set_option linter.unusedVariables false
set_option linter.unusedSimpArgs false
namespace Go.Pv
open Go.Proofs
set_option maxRecDepth 100000
set_option maxHeartbeats 1000000
abbrev mZ {α:Type} (D:Option α):Prop:=Ex (λ_=>True) D
def dB (v:Int):Prop:=-9223372036854775808<=v/\v<=9223372036854775807
theorem iU (v:Int):dB (bA v):=by
  have h1:=Int.emod_nonneg v (show (18446744073709551616:Int)≠0 by decide)
  have h2:=Int.emod_lt_of_pos v (show (0:Int)<18446744073709551616 by decide)
  unfold dB
  show -9223372036854775808<=(if (true && decide (v % 18446744073709551616>=9223372036854775808))=true then v % 18446744073709551616-18446744073709551616 else v % 18446744073709551616)/\(if (true && decide (v % 18446744073709551616>=9223372036854775808))=true then v % 18446744073709551616-18446744073709551616 else v % 18446744073709551616)<=9223372036854775807
  split <;> (rename_i h;simp only [Bool.true_and,decide_eq_true_eq] at h;omega)
theorem iQ:dB 0:=by unfold dB;omega
def RL (x:aM):Prop:=dB x.aS/\dB x.Value/\dB x.bE
theorem pN:RL ⟨0,0,0⟩:=⟨iQ,iQ,iQ⟩
def LQ (l:List aM):Prop:=l.length<=30/\∀ x∈l,RL x
theorem QC:LQ []:=⟨by simp,λ_ h=>by cases h⟩
theorem LQ.at {l:List aM} {i:Nat} {x:aM} (h:LQ l) (hi:l[i]?=some x):RL x:=h.2 x (List.mem_of_getElem? hi)
theorem LQ.app {l:List aM} {x:aM} (h:LQ l) (hl:l.length<30) (hx:RL x):LQ (l++[x]):=⟨by simp;omega,λy hy=>by
  rcases List.mem_append.1 hy with hy | hy
  · exact h.2 y hy
  · rw [List.mem_singleton.1 hy];exact hx⟩
theorem LQ.set {l:List aM} {x:aM} {i:Nat} (h:LQ l) (hx:RL x):LQ (l.set i x):=⟨by simp;exact h.1,λy hy=>by
  rcases List.mem_or_eq_of_mem_set hy with hy | rfl
  · exact h.2 y hy
  · exact hx⟩
theorem LQ.fuel {l:List aM} {n:Nat} (h:LQ l) (hn:250<=n):l.length<250/\250<=n:=⟨by have:=h.1;omega,hn⟩
theorem gF {a:Int}:mZ (vN a):=by
  unfold vN P7;simp only [WT.run,bU]
  repeat' with_reducible first | exact aF trivial | refine cO ?_ | refine jV ?_ | apply aD | refine bP (by omega) (by omega) λ_ _=>?_ | exact bM trivial | exact bM ⟨by omega,by (first | rfl | omega | (simp only;omega)),trivial⟩ | refine dI ?_ | refine jA (λ_ _=>?_) λ_ _=>trivial | apply jP | apply kL | apply jR | apply jS | apply kF | apply kH | apply jW | apply jZ | apply kC | refine aU (λ_=>?_) λ_=>?_ | refine iK (λ_=>?_) λ_=>?_ | refine cZ (λ_=>?_) λ_=>?_ | apply x_cT | apply x_cF | apply fJ | apply bZ | refine aB _ gF λ_ _=>?_ | refine aB _ fE λ_ _=>?_ | refine aB _ eZ λ_ _=>?_ | refine aB _ gG λ_ _=>?_ | refine aB _ fT λ_ _=>?_ | refine aB _ gH λ_ _=>?_ | refine aB _ gI λ_ _=>?_ | refine aB _ (gF (by assumption)) λ_ _=>?_ | refine aB _ (fE (by assumption)) λ_ _=>?_ | refine aB _ (eZ (by assumption)) λ_ _=>?_ | refine aB _ (gG (by assumption)) λ_ _=>?_ | refine aB _ (fT (by assumption)) λ_ _=>?_ | refine aB _ (gH (by assumption)) λ_ _=>?_ | refine aB _ (gI (by assumption)) λ_ _=>?_
theorem fE {a b:Int}:Ex (λr=>dB r.1) (mG a b):=by
  unfold mG SI;simp only [WT.run,bU]
  refine aB (λ_=>True) ?_ λ_ _=>cZ (λ_=>aF iQ) λ_=>aD (aF (iU _))
  repeat' with_reducible first | exact aF trivial | refine cO ?_ | refine jV ?_ | apply aD | refine bP (by omega) (by omega) λ_ _=>?_ | exact bM trivial | exact bM ⟨by omega,by (first | rfl | omega | (simp only;omega)),trivial⟩ | refine dI ?_ | refine jA (λ_ _=>?_) λ_ _=>trivial | apply jP | apply kL | apply jR | apply jS | apply kF | apply kH | apply jW | apply jZ | apply kC | refine aU (λ_=>?_) λ_=>?_ | refine iK (λ_=>?_) λ_=>?_ | refine cZ (λ_=>?_) λ_=>?_ | apply x_cT | apply x_cF | apply fJ | apply bZ | refine aB _ gF λ_ _=>?_ | refine aB _ fE λ_ _=>?_ | refine aB _ eZ λ_ _=>?_ | refine aB _ gG λ_ _=>?_ | refine aB _ fT λ_ _=>?_ | refine aB _ gH λ_ _=>?_ | refine aB _ gI λ_ _=>?_ | refine aB _ (gF (by assumption)) λ_ _=>?_ | refine aB _ (fE (by assumption)) λ_ _=>?_ | refine aB _ (eZ (by assumption)) λ_ _=>?_ | refine aB _ (gG (by assumption)) λ_ _=>?_ | refine aB _ (fT (by assumption)) λ_ _=>?_ | refine aB _ (gH (by assumption)) λ_ _=>?_ | refine aB _ (gI (by assumption)) λ_ _=>?_
theorem gJ {V J:Type} {P:J->Prop} {f:V->Option (V⊕J)} {v0:V} {n m:Nat} (at':V->Int) (I:V->Prop) (h0:0<=at' v0/\at' v0<=m/\I v0) (hn:m<n)
    (hs:∀ v,0<=at' v->at' v<=m->I v->Ex (λr=>match r with | .inl v'=>at' v<m/\at' v'=at' v+1/\I v' | .inr j=>P j) (f v)):Ex P (iter f n v0):=by
  refine qG (λv=>0<=at' v/\at' v<=m/\I v) (λv=>(m-at' v).toNat) (λv hv=>?_) h0 (by omega)
  refine nR (hs v hv.1 hv.2.1 hv.2.2) λr hr=>?_
  cases r with
  | inl v'=>obtain ⟨h1,h2,h3⟩:=hr;exact ⟨⟨by omega,by omega,h3⟩,by omega⟩
  | inr j=>exact hr
theorem eZ {n:Nat} {l:List Int} (hl:l.length<250/\250<=n):Ex (λr=>dB r.1) (kN n l):=by
  unfold kN SH;simp only [WT.run,bU]
  refine aB (λr=>match r with | .inl a=>dB a | .inr b=>dB b.1) (gJ (m:=l.length) (λv=>v.2) (λv=>dB v.1) ⟨by simp,by simp,iQ⟩ (by omega) λv h1 h2 h3=>?_) λr hr=>?_
  · simp only [p2]
    refine aD (aU (λ_=>bP (by omega) (by omega) λx hx=>aB _ fE λy hy=>aD (aU (λ_=>bZ (bZ (aF iQ))) λ_=>cO (bM ⟨by omega,rfl,hy⟩))) λ_=>bZ (bM h3))
  · cases r with
    | inl a=>exact aF hr
    | inr b=>exact ⟨_,rfl,hr⟩
theorem gG {x:aM}:mZ (CF x):=by
  unfold CF QV;simp only [WT.run,bU]
  repeat' with_reducible first | exact aF trivial | refine cO ?_ | refine jV ?_ | apply aD | refine bP (by omega) (by omega) λ_ _=>?_ | exact bM trivial | exact bM ⟨by omega,by (first | rfl | omega | (simp only;omega)),trivial⟩ | refine dI ?_ | refine jA (λ_ _=>?_) λ_ _=>trivial | apply jP | apply kL | apply jR | apply jS | apply kF | apply kH | apply jW | apply jZ | apply kC | refine aU (λ_=>?_) λ_=>?_ | refine iK (λ_=>?_) λ_=>?_ | refine cZ (λ_=>?_) λ_=>?_ | apply x_cT | apply x_cF | apply fJ | apply bZ | refine aB _ gF λ_ _=>?_ | refine aB _ fE λ_ _=>?_ | refine aB _ eZ λ_ _=>?_ | refine aB _ gG λ_ _=>?_ | refine aB _ fT λ_ _=>?_ | refine aB _ gH λ_ _=>?_ | refine aB _ gI λ_ _=>?_ | refine aB _ (gF (by assumption)) λ_ _=>?_ | refine aB _ (fE (by assumption)) λ_ _=>?_ | refine aB _ (eZ (by assumption)) λ_ _=>?_ | refine aB _ (gG (by assumption)) λ_ _=>?_ | refine aB _ (fT (by assumption)) λ_ _=>?_ | refine aB _ (gH (by assumption)) λ_ _=>?_ | refine aB _ (gI (by assumption)) λ_ _=>?_
theorem fT {n:Nat} {l:List aM} (hl:l.length<250/\250<=n):Ex (λr=>RL r.1) (uR n l):=by
  unfold uR UZ;simp only [WT.run,bU]
  refine aB (λa=>a.1.length<250/\a.2.1.length<250/\a.2.2.length<250) (gJ (m:=l.length) (λv=>v.1) (λv=>(v.2.1.length:Int)=v.1/\(v.2.2.1.length:Int)=v.1/\(v.2.2.2.length:Int)=v.1) ⟨by simp,by simp,by simp⟩ (by omega) λv h1 h2 h3=>?_) λa ha=>?_
  · obtain ⟨i,p,q,w⟩:=v
    simp only at h1 h2 h3
    repeat' with_reducible first | exact aF trivial | refine cO ?_ | refine jV ?_ | apply aD | refine bP (by omega) (by omega) λ_ _=>?_ | exact bM trivial | exact bM ⟨by omega,by (first | rfl | omega | (simp only;omega)),trivial⟩ | refine dI ?_ | refine jA (λ_ _=>?_) λ_ _=>trivial | apply jP | apply kL | apply jR | apply jS | apply kF | apply kH | apply jW | apply jZ | apply kC | refine aU (λ_=>?_) λ_=>?_ | refine iK (λ_=>?_) λ_=>?_ | refine cZ (λ_=>?_) λ_=>?_ | apply x_cT | apply x_cF | apply fJ | apply bZ | refine aB _ gF λ_ _=>?_ | refine aB _ fE λ_ _=>?_ | refine aB _ eZ λ_ _=>?_ | refine aB _ gG λ_ _=>?_ | refine aB _ fT λ_ _=>?_ | refine aB _ gH λ_ _=>?_ | refine aB _ gI λ_ _=>?_ | refine aB _ (gF (by assumption)) λ_ _=>?_ | refine aB _ (fE (by assumption)) λ_ _=>?_ | refine aB _ (eZ (by assumption)) λ_ _=>?_ | refine aB _ (gG (by assumption)) λ_ _=>?_ | refine aB _ (fT (by assumption)) λ_ _=>?_ | refine aB _ (gH (by assumption)) λ_ _=>?_ | refine aB _ (gI (by assumption)) λ_ _=>?_
    all_goals (first | refine bM ?_ | refine aF ?_) <;> (try simp only [List.length_append,List.length_cons,List.length_nil,List.length_set] at *) <;> (repeat' apply And.intro) <;> (first | trivial | omega)
  · obtain ⟨p,q,w⟩:=a
    simp only at ha
    simp only [p2]
    refine aB (λr=>match r with | .inl a=>RL a | .inr b=>RL b.1) (aB _ (eZ ⟨ha.1,hl.2⟩) λa1 h1=>aD (aU (λ_=>bZ (aF pN)) λ_=>aB _ (eZ ⟨ha.2.1,hl.2⟩) λa2 h2=>aD (aU (λ_=>bZ (aF pN)) λ_=>aB _ (eZ ⟨ha.2.2,hl.2⟩) λa3 h3=>aD (aU (λ_=>bZ (aF pN)) λ_=>bM ⟨h1,h2,h3⟩)))) λr hr=>?_
    cases r with
    | inl a=>exact aF hr
    | inr b=>exact ⟨_,rfl,hr⟩
theorem gH {n:Nat} {l:List aM} (hl:l.length<250/\250<=n):mZ (EA n l):=by
  unfold EA OX;simp only [WT.run,bU]
  refine aB (λa=>a.length<250) (gJ (m:=l.length) (λv=>v.1) (λv=>(v.2.length:Int)=v.1) ⟨by simp,by simp,by simp⟩ (by omega) λv h1 h2 h3=>?_) λa ha=>?_
  · obtain ⟨i,p⟩:=v
    simp only at h1 h2 h3
    repeat' with_reducible first | exact aF trivial | refine cO ?_ | refine jV ?_ | apply aD | refine bP (by omega) (by omega) λ_ _=>?_ | exact bM trivial | exact bM ⟨by omega,by (first | rfl | omega | (simp only;omega)),trivial⟩ | refine dI ?_ | refine jA (λ_ _=>?_) λ_ _=>trivial | apply jP | apply kL | apply jR | apply jS | apply kF | apply kH | apply jW | apply jZ | apply kC | refine aU (λ_=>?_) λ_=>?_ | refine iK (λ_=>?_) λ_=>?_ | refine cZ (λ_=>?_) λ_=>?_ | apply x_cT | apply x_cF | apply fJ | apply bZ | refine aB _ gF λ_ _=>?_ | refine aB _ fE λ_ _=>?_ | refine aB _ eZ λ_ _=>?_ | refine aB _ gG λ_ _=>?_ | refine aB _ fT λ_ _=>?_ | refine aB _ gH λ_ _=>?_ | refine aB _ gI λ_ _=>?_ | refine aB _ (gF (by assumption)) λ_ _=>?_ | refine aB _ (fE (by assumption)) λ_ _=>?_ | refine aB _ (eZ (by assumption)) λ_ _=>?_ | refine aB _ (gG (by assumption)) λ_ _=>?_ | refine aB _ (fT (by assumption)) λ_ _=>?_ | refine aB _ (gH (by assumption)) λ_ _=>?_ | refine aB _ (gI (by assumption)) λ_ _=>?_
    all_goals (first | refine bM ?_ | refine aF ?_) <;> (try simp only [List.length_append,List.length_cons,List.length_nil,List.length_set] at *) <;> (repeat' apply And.intro) <;> (first | trivial | omega)
  · have k1:a.length<250/\250<=n:=by omega
    repeat' with_reducible first | exact aF trivial | refine cO ?_ | refine jV ?_ | apply aD | refine bP (by omega) (by omega) λ_ _=>?_ | exact bM trivial | exact bM ⟨by omega,by (first | rfl | omega | (simp only;omega)),trivial⟩ | refine dI ?_ | refine jA (λ_ _=>?_) λ_ _=>trivial | apply jP | apply kL | apply jR | apply jS | apply kF | apply kH | apply jW | apply jZ | apply kC | refine aU (λ_=>?_) λ_=>?_ | refine iK (λ_=>?_) λ_=>?_ | refine cZ (λ_=>?_) λ_=>?_ | apply x_cT | apply x_cF | apply fJ | apply bZ | refine aB _ gF λ_ _=>?_ | refine aB _ fE λ_ _=>?_ | refine aB _ eZ λ_ _=>?_ | refine aB _ gG λ_ _=>?_ | refine aB _ fT λ_ _=>?_ | refine aB _ gH λ_ _=>?_ | refine aB _ gI λ_ _=>?_ | refine aB _ (gF (by assumption)) λ_ _=>?_ | refine aB _ (fE (by assumption)) λ_ _=>?_ | refine aB _ (eZ (by assumption)) λ_ _=>?_ | refine aB _ (gG (by assumption)) λ_ _=>?_ | refine aB _ (fT (by assumption)) λ_ _=>?_ | refine aB _ (gH (by assumption)) λ_ _=>?_ | refine aB _ (gI (by assumption)) λ_ _=>?_
theorem gI {n:Nat} {l:List aM} (hn:250<=n):mZ (uL n l):=by
  unfold uL UM;simp only [WT.run,bU]
  by_cases hk:l.length<=30
  · have k1:l.length<250/\250<=n:=by omega
    refine aB (λ_=>True) ?_ λ_ _=>?_
    · refine aD (aU (λh=>absurd h (by omega)) λ_=>?_)
      refine aB (λ_=>True) (aB (λ_=>True) (aB (λ_=>True) (gJ (m:=l.length) (λv=>v) (λ_=>True) ⟨by simp,by simp,trivial⟩ (by omega) λv h1 h2 h3=>?_) λ_ _=>?_) λ_ _=>?_) λ_ _=>?_
      · repeat' with_reducible first | exact aF trivial | refine cO ?_ | refine jV ?_ | apply aD | refine bP (by omega) (by omega) λ_ _=>?_ | exact bM trivial | exact bM ⟨by omega,by (first | rfl | omega | (simp only;omega)),trivial⟩ | refine dI ?_ | refine jA (λ_ _=>?_) λ_ _=>trivial | apply jP | apply kL | apply jR | apply jS | apply kF | apply kH | apply jW | apply jZ | apply kC | refine aU (λ_=>?_) λ_=>?_ | refine iK (λ_=>?_) λ_=>?_ | refine cZ (λ_=>?_) λ_=>?_ | apply x_cT | apply x_cF | apply fJ | apply bZ | refine aB _ gF λ_ _=>?_ | refine aB _ fE λ_ _=>?_ | refine aB _ eZ λ_ _=>?_ | refine aB _ gG λ_ _=>?_ | refine aB _ fT λ_ _=>?_ | refine aB _ gH λ_ _=>?_ | refine aB _ gI λ_ _=>?_ | refine aB _ (gF (by assumption)) λ_ _=>?_ | refine aB _ (fE (by assumption)) λ_ _=>?_ | refine aB _ (eZ (by assumption)) λ_ _=>?_ | refine aB _ (gG (by assumption)) λ_ _=>?_ | refine aB _ (fT (by assumption)) λ_ _=>?_ | refine aB _ (gH (by assumption)) λ_ _=>?_ | refine aB _ (gI (by assumption)) λ_ _=>?_
      · repeat' with_reducible first | exact aF trivial | refine cO ?_ | refine jV ?_ | apply aD | refine bP (by omega) (by omega) λ_ _=>?_ | exact bM trivial | exact bM ⟨by omega,by (first | rfl | omega | (simp only;omega)),trivial⟩ | refine dI ?_ | refine jA (λ_ _=>?_) λ_ _=>trivial | apply jP | apply kL | apply jR | apply jS | apply kF | apply kH | apply jW | apply jZ | apply kC | refine aU (λ_=>?_) λ_=>?_ | refine iK (λ_=>?_) λ_=>?_ | refine cZ (λ_=>?_) λ_=>?_ | apply x_cT | apply x_cF | apply fJ | apply bZ | refine aB _ gF λ_ _=>?_ | refine aB _ fE λ_ _=>?_ | refine aB _ eZ λ_ _=>?_ | refine aB _ gG λ_ _=>?_ | refine aB _ fT λ_ _=>?_ | refine aB _ gH λ_ _=>?_ | refine aB _ gI λ_ _=>?_ | refine aB _ (gF (by assumption)) λ_ _=>?_ | refine aB _ (fE (by assumption)) λ_ _=>?_ | refine aB _ (eZ (by assumption)) λ_ _=>?_ | refine aB _ (gG (by assumption)) λ_ _=>?_ | refine aB _ (fT (by assumption)) λ_ _=>?_ | refine aB _ (gH (by assumption)) λ_ _=>?_ | refine aB _ (gI (by assumption)) λ_ _=>?_
      · repeat' with_reducible first | exact aF trivial | refine cO ?_ | refine jV ?_ | apply aD | refine bP (by omega) (by omega) λ_ _=>?_ | exact bM trivial | exact bM ⟨by omega,by (first | rfl | omega | (simp only;omega)),trivial⟩ | refine dI ?_ | refine jA (λ_ _=>?_) λ_ _=>trivial | apply jP | apply kL | apply jR | apply jS | apply kF | apply kH | apply jW | apply jZ | apply kC | refine aU (λ_=>?_) λ_=>?_ | refine iK (λ_=>?_) λ_=>?_ | refine cZ (λ_=>?_) λ_=>?_ | apply x_cT | apply x_cF | apply fJ | apply bZ | refine aB _ gF λ_ _=>?_ | refine aB _ fE λ_ _=>?_ | refine aB _ eZ λ_ _=>?_ | refine aB _ gG λ_ _=>?_ | refine aB _ fT λ_ _=>?_ | refine aB _ gH λ_ _=>?_ | refine aB _ gI λ_ _=>?_ | refine aB _ (gF (by assumption)) λ_ _=>?_ | refine aB _ (fE (by assumption)) λ_ _=>?_ | refine aB _ (eZ (by assumption)) λ_ _=>?_ | refine aB _ (gG (by assumption)) λ_ _=>?_ | refine aB _ (fT (by assumption)) λ_ _=>?_ | refine aB _ (gH (by assumption)) λ_ _=>?_ | refine aB _ (gI (by assumption)) λ_ _=>?_
      · repeat' with_reducible first | exact aF trivial | refine cO ?_ | refine jV ?_ | apply aD | refine bP (by omega) (by omega) λ_ _=>?_ | exact bM trivial | exact bM ⟨by omega,by (first | rfl | omega | (simp only;omega)),trivial⟩ | refine dI ?_ | refine jA (λ_ _=>?_) λ_ _=>trivial | apply jP | apply kL | apply jR | apply jS | apply kF | apply kH | apply jW | apply jZ | apply kC | refine aU (λ_=>?_) λ_=>?_ | refine iK (λ_=>?_) λ_=>?_ | refine cZ (λ_=>?_) λ_=>?_ | apply x_cT | apply x_cF | apply fJ | apply bZ | refine aB _ gF λ_ _=>?_ | refine aB _ fE λ_ _=>?_ | refine aB _ eZ λ_ _=>?_ | refine aB _ gG λ_ _=>?_ | refine aB _ fT λ_ _=>?_ | refine aB _ gH λ_ _=>?_ | refine aB _ gI λ_ _=>?_ | refine aB _ (gF (by assumption)) λ_ _=>?_ | refine aB _ (fE (by assumption)) λ_ _=>?_ | refine aB _ (eZ (by assumption)) λ_ _=>?_ | refine aB _ (gG (by assumption)) λ_ _=>?_ | refine aB _ (fT (by assumption)) λ_ _=>?_ | refine aB _ (gH (by assumption)) λ_ _=>?_ | refine aB _ (gI (by assumption)) λ_ _=>?_
    · repeat' with_reducible first | exact aF trivial | refine cO ?_ | refine jV ?_ | apply aD | refine bP (by omega) (by omega) λ_ _=>?_ | exact bM trivial | exact bM ⟨by omega,by (first | rfl | omega | (simp only;omega)),trivial⟩ | refine dI ?_ | refine jA (λ_ _=>?_) λ_ _=>trivial | apply jP | apply kL | apply jR | apply jS | apply kF | apply kH | apply jW | apply jZ | apply kC | refine aU (λ_=>?_) λ_=>?_ | refine iK (λ_=>?_) λ_=>?_ | refine cZ (λ_=>?_) λ_=>?_ | apply x_cT | apply x_cF | apply fJ | apply bZ | refine aB _ gF λ_ _=>?_ | refine aB _ fE λ_ _=>?_ | refine aB _ eZ λ_ _=>?_ | refine aB _ gG λ_ _=>?_ | refine aB _ fT λ_ _=>?_ | refine aB _ gH λ_ _=>?_ | refine aB _ gI λ_ _=>?_ | refine aB _ (gF (by assumption)) λ_ _=>?_ | refine aB _ (fE (by assumption)) λ_ _=>?_ | refine aB _ (eZ (by assumption)) λ_ _=>?_ | refine aB _ (gG (by assumption)) λ_ _=>?_ | refine aB _ (fT (by assumption)) λ_ _=>?_ | refine aB _ (gH (by assumption)) λ_ _=>?_ | refine aB _ (gI (by assumption)) λ_ _=>?_
  · refine aB (λb=>b=true) (aD (aU (λh=>aF rfl) λh=>absurd h (by omega))) λb hb=>?_
    subst hb
    exact aF trivial
theorem R3 {n:Nat} {l:List aM} {x:aM} (hn:250<=n) (h:LQ l) (hx:RL x):Ex (λr=>LQ r.1) (xK n l x):=by
  have h1:=h.1
  unfold xK OU;simp only [WT.run,bU]
  repeat' with_reducible first | exact aF trivial | refine cO ?_ | refine jV ?_ | apply aD | refine bP (by omega) (by omega) λ_ _=>?_ | exact bM trivial | exact bM ⟨by omega,by (first | rfl | omega | (simp only;omega)),trivial⟩ | refine dI ?_ | refine jA (λ_ _=>?_) λ_ _=>trivial | apply jP | apply kL | apply jR | apply jS | apply kF | apply kH | apply jW | apply jZ | apply kC | refine aU (λ_=>?_) λ_=>?_ | refine iK (λ_=>?_) λ_=>?_ | refine cZ (λ_=>?_) λ_=>?_ | apply x_cT | apply x_cF | apply fJ | apply bZ | refine aB _ gF λ_ _=>?_ | refine aB _ fE λ_ _=>?_ | refine aB _ eZ λ_ _=>?_ | refine aB _ gG λ_ _=>?_ | refine aB _ fT λ_ _=>?_ | refine aB _ gH λ_ _=>?_ | refine aB _ gI λ_ _=>?_ | refine aB _ (gF (by assumption)) λ_ _=>?_ | refine aB _ (fE (by assumption)) λ_ _=>?_ | refine aB _ (eZ (by assumption)) λ_ _=>?_ | refine aB _ (gG (by assumption)) λ_ _=>?_ | refine aB _ (fT (by assumption)) λ_ _=>?_ | refine aB _ (gH (by assumption)) λ_ _=>?_ | refine aB _ (gI (by assumption)) λ_ _=>?_
  all_goals first | exact aF h | exact aF (h.app (by omega) hx)
theorem aGO {n:Nat} {l:List aM} {q:Int} (hl:l.length<250/\250<=n):mZ (zT n l q):=by
  unfold zT SB;simp only [WT.run,bU]
  refine aB (λ_=>True) (gJ (m:=l.length) (λv=>v.2) (λ_=>True) ⟨by simp,by simp,trivial⟩ (by omega) λv h1 h2 h3=>?_) λ_ _=>?_
  · repeat' with_reducible first | exact aF trivial | refine cO ?_ | refine jV ?_ | apply aD | refine bP (by omega) (by omega) λ_ _=>?_ | exact bM trivial | exact bM ⟨by omega,by (first | rfl | omega | (simp only;omega)),trivial⟩ | refine dI ?_ | refine jA (λ_ _=>?_) λ_ _=>trivial | apply jP | apply kL | apply jR | apply jS | apply kF | apply kH | apply jW | apply jZ | apply kC | refine aU (λ_=>?_) λ_=>?_ | refine iK (λ_=>?_) λ_=>?_ | refine cZ (λ_=>?_) λ_=>?_ | apply x_cT | apply x_cF | apply fJ | apply bZ | refine aB _ gF λ_ _=>?_ | refine aB _ fE λ_ _=>?_ | refine aB _ eZ λ_ _=>?_ | refine aB _ gG λ_ _=>?_ | refine aB _ fT λ_ _=>?_ | refine aB _ gH λ_ _=>?_ | refine aB _ gI λ_ _=>?_ | refine aB _ (gF (by assumption)) λ_ _=>?_ | refine aB _ (fE (by assumption)) λ_ _=>?_ | refine aB _ (eZ (by assumption)) λ_ _=>?_ | refine aB _ (gG (by assumption)) λ_ _=>?_ | refine aB _ (fT (by assumption)) λ_ _=>?_ | refine aB _ (gH (by assumption)) λ_ _=>?_ | refine aB _ (gI (by assumption)) λ_ _=>?_
  · repeat' with_reducible first | exact aF trivial | refine cO ?_ | refine jV ?_ | apply aD | refine bP (by omega) (by omega) λ_ _=>?_ | exact bM trivial | exact bM ⟨by omega,by (first | rfl | omega | (simp only;omega)),trivial⟩ | refine dI ?_ | refine jA (λ_ _=>?_) λ_ _=>trivial | apply jP | apply kL | apply jR | apply jS | apply kF | apply kH | apply jW | apply jZ | apply kC | refine aU (λ_=>?_) λ_=>?_ | refine iK (λ_=>?_) λ_=>?_ | refine cZ (λ_=>?_) λ_=>?_ | apply x_cT | apply x_cF | apply fJ | apply bZ | refine aB _ gF λ_ _=>?_ | refine aB _ fE λ_ _=>?_ | refine aB _ eZ λ_ _=>?_ | refine aB _ gG λ_ _=>?_ | refine aB _ fT λ_ _=>?_ | refine aB _ gH λ_ _=>?_ | refine aB _ gI λ_ _=>?_ | refine aB _ (gF (by assumption)) λ_ _=>?_ | refine aB _ (fE (by assumption)) λ_ _=>?_ | refine aB _ (eZ (by assumption)) λ_ _=>?_ | refine aB _ (gG (by assumption)) λ_ _=>?_ | refine aB _ (fT (by assumption)) λ_ _=>?_ | refine aB _ (gH (by assumption)) λ_ _=>?_ | refine aB _ (gI (by assumption)) λ_ _=>?_
theorem SV {n:Nat} {a b c:Int} (hn:250<=n) (ha:dB a) (hb:dB b) (hc:dB c):Ex (λr=>dB r.1/\dB r.2.1) (vJ n a b c):=by
  refine ⟨_,SX (by omega) ha hb hc,?_⟩
  unfold dB at ha hb hc
  unfold md dB
  split
  · exact ⟨by simp only;omega,by simp only;omega⟩
  · rename_i k
    obtain ⟨-,-,-,h4,h5,-⟩:=aMT (a:=a) (b:=b) (c:=c) (by omega) (by omega) (by omega)
    split
    · exact ⟨by simp only;omega,by simp only;omega⟩
    · exact ⟨by simp only;omega,by simp only;omega⟩
theorem BZ {n:Nat} {a b c:Int} (hn:250<=n) (ha:dB a) (hb:dB b) (hc:dB c):Ex dB (oO n a b c):=by
  unfold oO VF;simp only [WT.run,bU]
  refine aB (λ_=>True) ?_ λy _=>?_
  · repeat' with_reducible first | exact aF trivial | refine cO ?_ | refine jV ?_ | apply aD | refine bP (by omega) (by omega) λ_ _=>?_ | exact bM trivial | exact bM ⟨by omega,by (first | rfl | omega | (simp only;omega)),trivial⟩ | refine dI ?_ | refine jA (λ_ _=>?_) λ_ _=>trivial | apply jP | apply kL | apply jR | apply jS | apply kF | apply kH | apply jW | apply jZ | apply kC | refine aU (λ_=>?_) λ_=>?_ | refine iK (λ_=>?_) λ_=>?_ | refine cZ (λ_=>?_) λ_=>?_ | apply x_cT | apply x_cF | apply fJ | apply bZ | refine aB _ gF λ_ _=>?_ | refine aB _ fE λ_ _=>?_ | refine aB _ eZ λ_ _=>?_ | refine aB _ gG λ_ _=>?_ | refine aB _ fT λ_ _=>?_ | refine aB _ gH λ_ _=>?_ | refine aB _ gI λ_ _=>?_ | refine aB _ (gF (by assumption)) λ_ _=>?_ | refine aB _ (fE (by assumption)) λ_ _=>?_ | refine aB _ (eZ (by assumption)) λ_ _=>?_ | refine aB _ (gG (by assumption)) λ_ _=>?_ | refine aB _ (fT (by assumption)) λ_ _=>?_ | refine aB _ (gH (by assumption)) λ_ _=>?_ | refine aB _ (gI (by assumption)) λ_ _=>?_
  · refine cZ (λ_=>aF iQ) λ_=>aD (cZ (λ_=>aF ha) λ_=>aD (aU (λh=>aD (aB _ (SV hn (iU _) hb hc) λr hr=>aD (aF (iU _)))) λh=>aB _ (SV hn ha hb hc) λr hr=>aF hr.1))
theorem X9 {n:Nat} {l:List aM} {q:Int} (hn:250<=n) (h:LQ l) (hq:dB q):Ex (λr=>LQ r.1/\RL r.2.1) (xX n l q):=by
  have h1:=h.1
  unfold xX US;simp only [WT.run,bU]
  refine dI (aD (aU (λ_=>aF ⟨h,pN⟩) λ_=>aB _ (aGO (h.fuel hn)) λ_ _=>aD (cZ (λ_=>aF ⟨h,pN⟩) λ_=>?_)))
  refine aB (λv=>v.1+v.2.1<=v.2.2.1.length/\LQ v.2.2.1/\RL v.2.2.2) (qG (λv=>v.1+v.2.1<=v.2.2.2.1.length/\dB v.2.2.1/\LQ v.2.2.2.1/\RL v.2.2.2.2) (λv=>if v.2.2.1>0 then v.2.1+1 else 0) ?_ ⟨by simp,hq,h,pN⟩ (by simp only;split <;> omega)) λv hv=>?_
  · rintro ⟨a,c,q,l',acc⟩ ⟨hi,hqq,hl,hacc⟩
    simp only at hi hqq hl hacc
    simp only [p2]
    refine aB (λy=>y=true->0<c/\0<q) ?_ λy hy=>cZ (λht=>?_) λ_=>aF ⟨hi,hl,hacc⟩
    · refine aD (aU (λh=>aD (aF λh'=>⟨by omega,of_decide_eq_true h'⟩)) λ_=>aF λh=>by cases h)
    obtain ⟨hc,hq0⟩:=hy ht
    refine dI (bP (by omega) (by omega) λx hx=>?_)
    have hxl:=hl.at hx
    refine aD (aB (λy=>y.1+y.2.1<=y.2.2.1.length/\LQ y.2.2.1/\RL y.2.2.2/\(y.2.1+1=c\/y.2.1=c/\y.2.2.2.aS=q)) (aU (λhb=>?_) λhb=>?_) λy hy=>?_)
    · refine aB _ (BZ hn hxl.2.1 hqq hxl.1) λv1 h1=>aB _ (BZ hn hxl.2.2 hqq hxl.1) λv2 h2=>dI (aD (dI (aD (dI (aD (dI (aD (dI (aD (dI (aD (aF ?_))))))))))))
      exact ⟨by simp;exact hi,((hl.set (x:=⟨_,_,_⟩) ⟨iU _,hxl.2⟩).set (x:=⟨_,_,_⟩) ⟨iU _,iU _,hxl.2.2⟩).set (x:=⟨_,_,_⟩) ⟨iU _,iU _,iU _⟩,⟨hqq,h1,h2⟩,.inr ⟨rfl,rfl⟩⟩
    · refine dI (aD (aF ⟨?_,hl,hxl,.inl ?_⟩))
      · simp only;split <;> omega
      · simp only;omega
    · obtain ⟨a',c',l2,x2⟩:=y
      obtain ⟨k1,k2,k3,k4⟩:=hy
      simp only at k1 k2 k3 k4
      refine aD (aD (aD (aD (bM ⟨⟨k1,iU _,k2,iU _,iU _,iU _⟩,?_⟩))))
      simp only
      rw [if_pos hq0]
      rcases k4 with k4 | ⟨k4,k5⟩
      · split <;> omega
      · rw [k5,if_neg (by rw [Int.sub_self];decide)];omega
  · obtain ⟨a,c,l',acc⟩:=v
    obtain ⟨k1,k2,k3⟩:=hv
    simp only [p2] at k1 k2 k3 ⊢
    refine gU k1 (aF ⟨⟨?_,λx hx=>k2.2 x (List.mem_of_mem_drop (List.mem_of_mem_take hx))⟩,k3⟩)
    have:=k2.1
    simp only [List.length_take,List.length_drop];omega
end Go.Pv
