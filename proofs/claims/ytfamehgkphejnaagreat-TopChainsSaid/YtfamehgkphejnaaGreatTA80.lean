/- The program's functions have answers: numbers, layers. -/
import Derived.Test.YtfamehgkphejnaaGreatQA80
set_option linter.unusedVariables false
set_option linter.unusedSimpArgs false
namespace Go.Pv
open Go.Proofs
set_option maxRecDepth 100000
set_option maxHeartbeats 1000000
abbrev Tot {α:Type} (D:Option α):Prop:=Ex (λ_=>True) D
def XE (v:Int):Prop:=-9223372036854775808<=v/\v<=9223372036854775807
theorem aG1 (v:Int):XE (aI v):=by
  have h1:=Int.emod_nonneg v (show (18446744073709551616:Int)≠0 by decide)
  have h2:=Int.emod_lt_of_pos v (show (0:Int)<18446744073709551616 by decide)
  unfold XE
  show -9223372036854775808<=(if (true && decide (v % 18446744073709551616>=9223372036854775808))=true then v % 18446744073709551616-18446744073709551616 else v % 18446744073709551616)/\(if (true && decide (v % 18446744073709551616>=9223372036854775808))=true then v % 18446744073709551616-18446744073709551616 else v % 18446744073709551616)<=9223372036854775807
  split <;> (rename_i h;simp only [Bool.true_and,decide_eq_true_eq] at h;omega)
theorem aP0:XE 0:=by unfold XE;omega
def RL (x:aB):Prop:=XE x.aQ/\XE x.Value/\XE x.bO
theorem RL0:RL ⟨0,0,0⟩:=⟨aP0,aP0,aP0⟩
def LQ (l:List aB):Prop:=l.length<=30/\∀ x∈l,RL x
theorem LQ0:LQ []:=⟨by simp,λ_ h=>by cases h⟩
theorem LQ.at {l:List aB} {i:Nat} {x:aB} (h:LQ l) (hi:l[i]?=some x):RL x:=h.2 x (List.mem_of_getElem? hi)
theorem LQ.app {l:List aB} {x:aB} (h:LQ l) (hl:l.length<30) (hx:RL x):LQ (l++[x]):=⟨by simp;omega,λy hy=>by
  rcases List.mem_append.1 hy with hy | hy
  · exact h.2 y hy
  · rw [List.mem_singleton.1 hy];exact hx⟩
theorem LQ.set {l:List aB} {x:aB} {i:Nat} (h:LQ l) (hx:RL x):LQ (l.set i x):=⟨by simp;exact h.1,λy hy=>by
  rcases List.mem_or_eq_of_mem_set hy with hy | rfl
  · exact h.2 y hy
  · exact hx⟩
theorem LQ.fuel {l:List aB} {n:Nat} (h:LQ l) (hn:250<=n):l.length<250/\250<=n:=⟨by have:=h.1;omega,hn⟩
theorem aPX {a:Int}:Tot (xE a):=by
  unfold xE aN8;simp only [WT.run,O9]
  repeat' with_reducible first | exact aEV trivial | refine x_v ?_ | refine aP8 ?_ | apply aL2 | refine ON (by omega) (by omega) λ_ _=>?_ | exact XC trivial | exact XC ⟨by omega,by (first | rfl | omega | (simp only;omega)),trivial⟩ | refine x_a ?_ | refine aP5 (λ_ _=>?_) λ_ _=>trivial | apply aI5 | apply aCE | apply aAR | apply Y4 | apply aOY | apply aIH | apply aKG | apply aMX | apply aDS | refine aEY (λ_=>?_) λ_=>?_ | refine aEW (λ_=>?_) λ_=>?_ | refine aFQ (λ_=>?_) λ_=>?_ | apply x_cT | apply x_cF | apply aK3 | apply aGQ | refine tF _ aPX λ_ _=>?_ | refine tF _ aLP λ_ _=>?_ | refine tF _ aGO λ_ _=>?_ | refine tF _ aPW λ_ _=>?_ | refine tF _ aOB λ_ _=>?_ | refine tF _ aPY λ_ _=>?_ | refine tF _ aPV λ_ _=>?_ | refine tF _ (aPX (by assumption)) λ_ _=>?_ | refine tF _ (aLP (by assumption)) λ_ _=>?_ | refine tF _ (aGO (by assumption)) λ_ _=>?_ | refine tF _ (aPW (by assumption)) λ_ _=>?_ | refine tF _ (aOB (by assumption)) λ_ _=>?_ | refine tF _ (aPY (by assumption)) λ_ _=>?_ | refine tF _ (aPV (by assumption)) λ_ _=>?_
theorem aLP {a b:Int}:Ex (λr=>XE r.1) (kG a b):=by
  unfold kG aNE;simp only [WT.run,O9]
  refine tF (λ_=>True) ?_ λ_ _=>aFQ (λ_=>aEV aP0) λ_=>aL2 (aEV (aG1 _))
  repeat' with_reducible first | exact aEV trivial | refine x_v ?_ | refine aP8 ?_ | apply aL2 | refine ON (by omega) (by omega) λ_ _=>?_ | exact XC trivial | exact XC ⟨by omega,by (first | rfl | omega | (simp only;omega)),trivial⟩ | refine x_a ?_ | refine aP5 (λ_ _=>?_) λ_ _=>trivial | apply aI5 | apply aCE | apply aAR | apply Y4 | apply aOY | apply aIH | apply aKG | apply aMX | apply aDS | refine aEY (λ_=>?_) λ_=>?_ | refine aEW (λ_=>?_) λ_=>?_ | refine aFQ (λ_=>?_) λ_=>?_ | apply x_cT | apply x_cF | apply aK3 | apply aGQ | refine tF _ aPX λ_ _=>?_ | refine tF _ aLP λ_ _=>?_ | refine tF _ aGO λ_ _=>?_ | refine tF _ aPW λ_ _=>?_ | refine tF _ aOB λ_ _=>?_ | refine tF _ aPY λ_ _=>?_ | refine tF _ aPV λ_ _=>?_ | refine tF _ (aPX (by assumption)) λ_ _=>?_ | refine tF _ (aLP (by assumption)) λ_ _=>?_ | refine tF _ (aGO (by assumption)) λ_ _=>?_ | refine tF _ (aPW (by assumption)) λ_ _=>?_ | refine tF _ (aOB (by assumption)) λ_ _=>?_ | refine tF _ (aPY (by assumption)) λ_ _=>?_ | refine tF _ (aPV (by assumption)) λ_ _=>?_
theorem aQB {V J:Type} {P:J->Prop} {f:V->Option (V⊕J)} {v0:V} {n m:Nat} (at':V->Int) (I:V->Prop) (h0:0<=at' v0/\at' v0<=m/\I v0) (hn:m<n)
    (hs:∀ v,0<=at' v->at' v<=m->I v->Ex (λr=>match r with | .inl v'=>at' v<m/\at' v'=at' v+1/\I v' | .inr j=>P j) (f v)):Ex P (iter f n v0):=by
  refine aQJ (λv=>0<=at' v/\at' v<=m/\I v) (λv=>(m-at' v).toNat) (λv hv=>?_) h0 (by omega)
  refine aS9 (hs v hv.1 hv.2.1 hv.2.2) λr hr=>?_
  cases r with
  | inl v'=>obtain ⟨h1,h2,h3⟩:=hr;exact ⟨⟨by omega,by omega,h3⟩,by omega⟩
  | inr j=>exact hr
theorem aGO {n:Nat} {l:List Int} (hl:l.length<250/\250<=n):Ex (λr=>XE r.1) (nV n l):=by
  unfold nV aMW;simp only [WT.run,O9]
  refine tF (λr=>match r with | .inl a=>XE a | .inr b=>XE b.1) (aQB (m:=l.length) (λv=>v.2) (λv=>XE v.1) ⟨by simp,by simp,aP0⟩ (by omega) λv h1 h2 h3=>?_) λr hr=>?_
  · simp only [p2]
    refine aL2 (aEY (λ_=>ON (by omega) (by omega) λx hx=>tF _ aLP λy hy=>aL2 (aEY (λ_=>aGQ (aGQ (aEV aP0))) λ_=>x_v (XC ⟨by omega,rfl,hy⟩))) λ_=>aGQ (XC h3))
  · cases r with
    | inl a=>exact aEV hr
    | inr b=>exact ⟨_,rfl,hr⟩
theorem aPW {x:aB}:Tot (TU x):=by
  unfold TU aJB;simp only [WT.run,O9]
  repeat' with_reducible first | exact aEV trivial | refine x_v ?_ | refine aP8 ?_ | apply aL2 | refine ON (by omega) (by omega) λ_ _=>?_ | exact XC trivial | exact XC ⟨by omega,by (first | rfl | omega | (simp only;omega)),trivial⟩ | refine x_a ?_ | refine aP5 (λ_ _=>?_) λ_ _=>trivial | apply aI5 | apply aCE | apply aAR | apply Y4 | apply aOY | apply aIH | apply aKG | apply aMX | apply aDS | refine aEY (λ_=>?_) λ_=>?_ | refine aEW (λ_=>?_) λ_=>?_ | refine aFQ (λ_=>?_) λ_=>?_ | apply x_cT | apply x_cF | apply aK3 | apply aGQ | refine tF _ aPX λ_ _=>?_ | refine tF _ aLP λ_ _=>?_ | refine tF _ aGO λ_ _=>?_ | refine tF _ aPW λ_ _=>?_ | refine tF _ aOB λ_ _=>?_ | refine tF _ aPY λ_ _=>?_ | refine tF _ aPV λ_ _=>?_ | refine tF _ (aPX (by assumption)) λ_ _=>?_ | refine tF _ (aLP (by assumption)) λ_ _=>?_ | refine tF _ (aGO (by assumption)) λ_ _=>?_ | refine tF _ (aPW (by assumption)) λ_ _=>?_ | refine tF _ (aOB (by assumption)) λ_ _=>?_ | refine tF _ (aPY (by assumption)) λ_ _=>?_ | refine tF _ (aPV (by assumption)) λ_ _=>?_
theorem aOB {n:Nat} {l:List aB} (hl:l.length<250/\250<=n):Ex (λr=>RL r.1) (y8 n l):=by
  unfold y8 Z5;simp only [WT.run,O9]
  refine tF (λa=>a.1.length<250/\a.2.1.length<250/\a.2.2.length<250) (aQB (m:=l.length) (λv=>v.1) (λv=>(v.2.1.length:Int)=v.1/\(v.2.2.1.length:Int)=v.1/\(v.2.2.2.length:Int)=v.1) ⟨by simp,by simp,by simp⟩ (by omega) λv h1 h2 h3=>?_) λa ha=>?_
  · obtain ⟨i,p,q,w⟩:=v
    simp only at h1 h2 h3
    repeat' with_reducible first | exact aEV trivial | refine x_v ?_ | refine aP8 ?_ | apply aL2 | refine ON (by omega) (by omega) λ_ _=>?_ | exact XC trivial | exact XC ⟨by omega,by (first | rfl | omega | (simp only;omega)),trivial⟩ | refine x_a ?_ | refine aP5 (λ_ _=>?_) λ_ _=>trivial | apply aI5 | apply aCE | apply aAR | apply Y4 | apply aOY | apply aIH | apply aKG | apply aMX | apply aDS | refine aEY (λ_=>?_) λ_=>?_ | refine aEW (λ_=>?_) λ_=>?_ | refine aFQ (λ_=>?_) λ_=>?_ | apply x_cT | apply x_cF | apply aK3 | apply aGQ | refine tF _ aPX λ_ _=>?_ | refine tF _ aLP λ_ _=>?_ | refine tF _ aGO λ_ _=>?_ | refine tF _ aPW λ_ _=>?_ | refine tF _ aOB λ_ _=>?_ | refine tF _ aPY λ_ _=>?_ | refine tF _ aPV λ_ _=>?_ | refine tF _ (aPX (by assumption)) λ_ _=>?_ | refine tF _ (aLP (by assumption)) λ_ _=>?_ | refine tF _ (aGO (by assumption)) λ_ _=>?_ | refine tF _ (aPW (by assumption)) λ_ _=>?_ | refine tF _ (aOB (by assumption)) λ_ _=>?_ | refine tF _ (aPY (by assumption)) λ_ _=>?_ | refine tF _ (aPV (by assumption)) λ_ _=>?_
    all_goals (first | refine XC ?_ | refine aEV ?_) <;> (try simp only [List.length_append,List.length_cons,List.length_nil,List.length_set] at *) <;> (repeat' apply And.intro) <;> (first | trivial | omega)
  · obtain ⟨p,q,w⟩:=a
    simp only at ha
    simp only [p2]
    refine tF (λr=>match r with | .inl a=>RL a | .inr b=>RL b.1) (tF _ (aGO ⟨ha.1,hl.2⟩) λa1 h1=>aL2 (aEY (λ_=>aGQ (aEV RL0)) λ_=>tF _ (aGO ⟨ha.2.1,hl.2⟩) λa2 h2=>aL2 (aEY (λ_=>aGQ (aEV RL0)) λ_=>tF _ (aGO ⟨ha.2.2,hl.2⟩) λa3 h3=>aL2 (aEY (λ_=>aGQ (aEV RL0)) λ_=>XC ⟨h1,h2,h3⟩)))) λr hr=>?_
    cases r with
    | inl a=>exact aEV hr
    | inr b=>exact ⟨_,rfl,hr⟩
theorem aPY {n:Nat} {l:List aB} (hl:l.length<250/\250<=n):Tot (UH n l):=by
  unfold UH aAP;simp only [WT.run,O9]
  refine tF (λa=>a.length<250) (aQB (m:=l.length) (λv=>v.1) (λv=>(v.2.length:Int)=v.1) ⟨by simp,by simp,by simp⟩ (by omega) λv h1 h2 h3=>?_) λa ha=>?_
  · obtain ⟨i,p⟩:=v
    simp only at h1 h2 h3
    repeat' with_reducible first | exact aEV trivial | refine x_v ?_ | refine aP8 ?_ | apply aL2 | refine ON (by omega) (by omega) λ_ _=>?_ | exact XC trivial | exact XC ⟨by omega,by (first | rfl | omega | (simp only;omega)),trivial⟩ | refine x_a ?_ | refine aP5 (λ_ _=>?_) λ_ _=>trivial | apply aI5 | apply aCE | apply aAR | apply Y4 | apply aOY | apply aIH | apply aKG | apply aMX | apply aDS | refine aEY (λ_=>?_) λ_=>?_ | refine aEW (λ_=>?_) λ_=>?_ | refine aFQ (λ_=>?_) λ_=>?_ | apply x_cT | apply x_cF | apply aK3 | apply aGQ | refine tF _ aPX λ_ _=>?_ | refine tF _ aLP λ_ _=>?_ | refine tF _ aGO λ_ _=>?_ | refine tF _ aPW λ_ _=>?_ | refine tF _ aOB λ_ _=>?_ | refine tF _ aPY λ_ _=>?_ | refine tF _ aPV λ_ _=>?_ | refine tF _ (aPX (by assumption)) λ_ _=>?_ | refine tF _ (aLP (by assumption)) λ_ _=>?_ | refine tF _ (aGO (by assumption)) λ_ _=>?_ | refine tF _ (aPW (by assumption)) λ_ _=>?_ | refine tF _ (aOB (by assumption)) λ_ _=>?_ | refine tF _ (aPY (by assumption)) λ_ _=>?_ | refine tF _ (aPV (by assumption)) λ_ _=>?_
    all_goals (first | refine XC ?_ | refine aEV ?_) <;> (try simp only [List.length_append,List.length_cons,List.length_nil,List.length_set] at *) <;> (repeat' apply And.intro) <;> (first | trivial | omega)
  · have k1:a.length<250/\250<=n:=by omega
    repeat' with_reducible first | exact aEV trivial | refine x_v ?_ | refine aP8 ?_ | apply aL2 | refine ON (by omega) (by omega) λ_ _=>?_ | exact XC trivial | exact XC ⟨by omega,by (first | rfl | omega | (simp only;omega)),trivial⟩ | refine x_a ?_ | refine aP5 (λ_ _=>?_) λ_ _=>trivial | apply aI5 | apply aCE | apply aAR | apply Y4 | apply aOY | apply aIH | apply aKG | apply aMX | apply aDS | refine aEY (λ_=>?_) λ_=>?_ | refine aEW (λ_=>?_) λ_=>?_ | refine aFQ (λ_=>?_) λ_=>?_ | apply x_cT | apply x_cF | apply aK3 | apply aGQ | refine tF _ aPX λ_ _=>?_ | refine tF _ aLP λ_ _=>?_ | refine tF _ aGO λ_ _=>?_ | refine tF _ aPW λ_ _=>?_ | refine tF _ aOB λ_ _=>?_ | refine tF _ aPY λ_ _=>?_ | refine tF _ aPV λ_ _=>?_ | refine tF _ (aPX (by assumption)) λ_ _=>?_ | refine tF _ (aLP (by assumption)) λ_ _=>?_ | refine tF _ (aGO (by assumption)) λ_ _=>?_ | refine tF _ (aPW (by assumption)) λ_ _=>?_ | refine tF _ (aOB (by assumption)) λ_ _=>?_ | refine tF _ (aPY (by assumption)) λ_ _=>?_ | refine tF _ (aPV (by assumption)) λ_ _=>?_
theorem aPV {n:Nat} {l:List aB} (hn:250<=n):Tot (L5 n l):=by
  unfold L5 aJ8;simp only [WT.run,O9]
  by_cases hk:l.length<=30
  · have k1:l.length<250/\250<=n:=by omega
    refine tF (λ_=>True) ?_ λ_ _=>?_
    · refine aL2 (aEY (λh=>absurd h (by omega)) λ_=>?_)
      refine tF (λ_=>True) (tF (λ_=>True) (tF (λ_=>True) (aQB (m:=l.length) (λv=>v) (λ_=>True) ⟨by simp,by simp,trivial⟩ (by omega) λv h1 h2 h3=>?_) λ_ _=>?_) λ_ _=>?_) λ_ _=>?_
      · repeat' with_reducible first | exact aEV trivial | refine x_v ?_ | refine aP8 ?_ | apply aL2 | refine ON (by omega) (by omega) λ_ _=>?_ | exact XC trivial | exact XC ⟨by omega,by (first | rfl | omega | (simp only;omega)),trivial⟩ | refine x_a ?_ | refine aP5 (λ_ _=>?_) λ_ _=>trivial | apply aI5 | apply aCE | apply aAR | apply Y4 | apply aOY | apply aIH | apply aKG | apply aMX | apply aDS | refine aEY (λ_=>?_) λ_=>?_ | refine aEW (λ_=>?_) λ_=>?_ | refine aFQ (λ_=>?_) λ_=>?_ | apply x_cT | apply x_cF | apply aK3 | apply aGQ | refine tF _ aPX λ_ _=>?_ | refine tF _ aLP λ_ _=>?_ | refine tF _ aGO λ_ _=>?_ | refine tF _ aPW λ_ _=>?_ | refine tF _ aOB λ_ _=>?_ | refine tF _ aPY λ_ _=>?_ | refine tF _ aPV λ_ _=>?_ | refine tF _ (aPX (by assumption)) λ_ _=>?_ | refine tF _ (aLP (by assumption)) λ_ _=>?_ | refine tF _ (aGO (by assumption)) λ_ _=>?_ | refine tF _ (aPW (by assumption)) λ_ _=>?_ | refine tF _ (aOB (by assumption)) λ_ _=>?_ | refine tF _ (aPY (by assumption)) λ_ _=>?_ | refine tF _ (aPV (by assumption)) λ_ _=>?_
      · repeat' with_reducible first | exact aEV trivial | refine x_v ?_ | refine aP8 ?_ | apply aL2 | refine ON (by omega) (by omega) λ_ _=>?_ | exact XC trivial | exact XC ⟨by omega,by (first | rfl | omega | (simp only;omega)),trivial⟩ | refine x_a ?_ | refine aP5 (λ_ _=>?_) λ_ _=>trivial | apply aI5 | apply aCE | apply aAR | apply Y4 | apply aOY | apply aIH | apply aKG | apply aMX | apply aDS | refine aEY (λ_=>?_) λ_=>?_ | refine aEW (λ_=>?_) λ_=>?_ | refine aFQ (λ_=>?_) λ_=>?_ | apply x_cT | apply x_cF | apply aK3 | apply aGQ | refine tF _ aPX λ_ _=>?_ | refine tF _ aLP λ_ _=>?_ | refine tF _ aGO λ_ _=>?_ | refine tF _ aPW λ_ _=>?_ | refine tF _ aOB λ_ _=>?_ | refine tF _ aPY λ_ _=>?_ | refine tF _ aPV λ_ _=>?_ | refine tF _ (aPX (by assumption)) λ_ _=>?_ | refine tF _ (aLP (by assumption)) λ_ _=>?_ | refine tF _ (aGO (by assumption)) λ_ _=>?_ | refine tF _ (aPW (by assumption)) λ_ _=>?_ | refine tF _ (aOB (by assumption)) λ_ _=>?_ | refine tF _ (aPY (by assumption)) λ_ _=>?_ | refine tF _ (aPV (by assumption)) λ_ _=>?_
      · repeat' with_reducible first | exact aEV trivial | refine x_v ?_ | refine aP8 ?_ | apply aL2 | refine ON (by omega) (by omega) λ_ _=>?_ | exact XC trivial | exact XC ⟨by omega,by (first | rfl | omega | (simp only;omega)),trivial⟩ | refine x_a ?_ | refine aP5 (λ_ _=>?_) λ_ _=>trivial | apply aI5 | apply aCE | apply aAR | apply Y4 | apply aOY | apply aIH | apply aKG | apply aMX | apply aDS | refine aEY (λ_=>?_) λ_=>?_ | refine aEW (λ_=>?_) λ_=>?_ | refine aFQ (λ_=>?_) λ_=>?_ | apply x_cT | apply x_cF | apply aK3 | apply aGQ | refine tF _ aPX λ_ _=>?_ | refine tF _ aLP λ_ _=>?_ | refine tF _ aGO λ_ _=>?_ | refine tF _ aPW λ_ _=>?_ | refine tF _ aOB λ_ _=>?_ | refine tF _ aPY λ_ _=>?_ | refine tF _ aPV λ_ _=>?_ | refine tF _ (aPX (by assumption)) λ_ _=>?_ | refine tF _ (aLP (by assumption)) λ_ _=>?_ | refine tF _ (aGO (by assumption)) λ_ _=>?_ | refine tF _ (aPW (by assumption)) λ_ _=>?_ | refine tF _ (aOB (by assumption)) λ_ _=>?_ | refine tF _ (aPY (by assumption)) λ_ _=>?_ | refine tF _ (aPV (by assumption)) λ_ _=>?_
      · repeat' with_reducible first | exact aEV trivial | refine x_v ?_ | refine aP8 ?_ | apply aL2 | refine ON (by omega) (by omega) λ_ _=>?_ | exact XC trivial | exact XC ⟨by omega,by (first | rfl | omega | (simp only;omega)),trivial⟩ | refine x_a ?_ | refine aP5 (λ_ _=>?_) λ_ _=>trivial | apply aI5 | apply aCE | apply aAR | apply Y4 | apply aOY | apply aIH | apply aKG | apply aMX | apply aDS | refine aEY (λ_=>?_) λ_=>?_ | refine aEW (λ_=>?_) λ_=>?_ | refine aFQ (λ_=>?_) λ_=>?_ | apply x_cT | apply x_cF | apply aK3 | apply aGQ | refine tF _ aPX λ_ _=>?_ | refine tF _ aLP λ_ _=>?_ | refine tF _ aGO λ_ _=>?_ | refine tF _ aPW λ_ _=>?_ | refine tF _ aOB λ_ _=>?_ | refine tF _ aPY λ_ _=>?_ | refine tF _ aPV λ_ _=>?_ | refine tF _ (aPX (by assumption)) λ_ _=>?_ | refine tF _ (aLP (by assumption)) λ_ _=>?_ | refine tF _ (aGO (by assumption)) λ_ _=>?_ | refine tF _ (aPW (by assumption)) λ_ _=>?_ | refine tF _ (aOB (by assumption)) λ_ _=>?_ | refine tF _ (aPY (by assumption)) λ_ _=>?_ | refine tF _ (aPV (by assumption)) λ_ _=>?_
    · repeat' with_reducible first | exact aEV trivial | refine x_v ?_ | refine aP8 ?_ | apply aL2 | refine ON (by omega) (by omega) λ_ _=>?_ | exact XC trivial | exact XC ⟨by omega,by (first | rfl | omega | (simp only;omega)),trivial⟩ | refine x_a ?_ | refine aP5 (λ_ _=>?_) λ_ _=>trivial | apply aI5 | apply aCE | apply aAR | apply Y4 | apply aOY | apply aIH | apply aKG | apply aMX | apply aDS | refine aEY (λ_=>?_) λ_=>?_ | refine aEW (λ_=>?_) λ_=>?_ | refine aFQ (λ_=>?_) λ_=>?_ | apply x_cT | apply x_cF | apply aK3 | apply aGQ | refine tF _ aPX λ_ _=>?_ | refine tF _ aLP λ_ _=>?_ | refine tF _ aGO λ_ _=>?_ | refine tF _ aPW λ_ _=>?_ | refine tF _ aOB λ_ _=>?_ | refine tF _ aPY λ_ _=>?_ | refine tF _ aPV λ_ _=>?_ | refine tF _ (aPX (by assumption)) λ_ _=>?_ | refine tF _ (aLP (by assumption)) λ_ _=>?_ | refine tF _ (aGO (by assumption)) λ_ _=>?_ | refine tF _ (aPW (by assumption)) λ_ _=>?_ | refine tF _ (aOB (by assumption)) λ_ _=>?_ | refine tF _ (aPY (by assumption)) λ_ _=>?_ | refine tF _ (aPV (by assumption)) λ_ _=>?_
  · refine tF (λb=>b=true) (aL2 (aEY (λh=>aEV rfl) λh=>absurd h (by omega))) λb hb=>?_
    subst hb
    exact aEV trivial
theorem aPC {n:Nat} {l:List aB} {x:aB} (hn:250<=n) (h:LQ l) (hx:RL x):Ex (λr=>LQ r.1) (JM n l x):=by
  have h1:=h.1
  unfold JM WO;simp only [WT.run,O9]
  repeat' with_reducible first | exact aEV trivial | refine x_v ?_ | refine aP8 ?_ | apply aL2 | refine ON (by omega) (by omega) λ_ _=>?_ | exact XC trivial | exact XC ⟨by omega,by (first | rfl | omega | (simp only;omega)),trivial⟩ | refine x_a ?_ | refine aP5 (λ_ _=>?_) λ_ _=>trivial | apply aI5 | apply aCE | apply aAR | apply Y4 | apply aOY | apply aIH | apply aKG | apply aMX | apply aDS | refine aEY (λ_=>?_) λ_=>?_ | refine aEW (λ_=>?_) λ_=>?_ | refine aFQ (λ_=>?_) λ_=>?_ | apply x_cT | apply x_cF | apply aK3 | apply aGQ | refine tF _ aPX λ_ _=>?_ | refine tF _ aLP λ_ _=>?_ | refine tF _ aGO λ_ _=>?_ | refine tF _ aPW λ_ _=>?_ | refine tF _ aOB λ_ _=>?_ | refine tF _ aPY λ_ _=>?_ | refine tF _ aPV λ_ _=>?_ | refine tF _ (aPX (by assumption)) λ_ _=>?_ | refine tF _ (aLP (by assumption)) λ_ _=>?_ | refine tF _ (aGO (by assumption)) λ_ _=>?_ | refine tF _ (aPW (by assumption)) λ_ _=>?_ | refine tF _ (aOB (by assumption)) λ_ _=>?_ | refine tF _ (aPY (by assumption)) λ_ _=>?_ | refine tF _ (aPV (by assumption)) λ_ _=>?_
  all_goals first | exact aEV h | exact aEV (h.app (by omega) hx)
theorem aPD {n:Nat} {l:List aB} {q:Int} (hl:l.length<250/\250<=n):Tot (GX n l q):=by
  unfold GX aA4;simp only [WT.run,O9]
  refine tF (λ_=>True) (aQB (m:=l.length) (λv=>v.2) (λ_=>True) ⟨by simp,by simp,trivial⟩ (by omega) λv h1 h2 h3=>?_) λ_ _=>?_
  · repeat' with_reducible first | exact aEV trivial | refine x_v ?_ | refine aP8 ?_ | apply aL2 | refine ON (by omega) (by omega) λ_ _=>?_ | exact XC trivial | exact XC ⟨by omega,by (first | rfl | omega | (simp only;omega)),trivial⟩ | refine x_a ?_ | refine aP5 (λ_ _=>?_) λ_ _=>trivial | apply aI5 | apply aCE | apply aAR | apply Y4 | apply aOY | apply aIH | apply aKG | apply aMX | apply aDS | refine aEY (λ_=>?_) λ_=>?_ | refine aEW (λ_=>?_) λ_=>?_ | refine aFQ (λ_=>?_) λ_=>?_ | apply x_cT | apply x_cF | apply aK3 | apply aGQ | refine tF _ aPX λ_ _=>?_ | refine tF _ aLP λ_ _=>?_ | refine tF _ aGO λ_ _=>?_ | refine tF _ aPW λ_ _=>?_ | refine tF _ aOB λ_ _=>?_ | refine tF _ aPY λ_ _=>?_ | refine tF _ aPV λ_ _=>?_ | refine tF _ (aPX (by assumption)) λ_ _=>?_ | refine tF _ (aLP (by assumption)) λ_ _=>?_ | refine tF _ (aGO (by assumption)) λ_ _=>?_ | refine tF _ (aPW (by assumption)) λ_ _=>?_ | refine tF _ (aOB (by assumption)) λ_ _=>?_ | refine tF _ (aPY (by assumption)) λ_ _=>?_ | refine tF _ (aPV (by assumption)) λ_ _=>?_
  · repeat' with_reducible first | exact aEV trivial | refine x_v ?_ | refine aP8 ?_ | apply aL2 | refine ON (by omega) (by omega) λ_ _=>?_ | exact XC trivial | exact XC ⟨by omega,by (first | rfl | omega | (simp only;omega)),trivial⟩ | refine x_a ?_ | refine aP5 (λ_ _=>?_) λ_ _=>trivial | apply aI5 | apply aCE | apply aAR | apply Y4 | apply aOY | apply aIH | apply aKG | apply aMX | apply aDS | refine aEY (λ_=>?_) λ_=>?_ | refine aEW (λ_=>?_) λ_=>?_ | refine aFQ (λ_=>?_) λ_=>?_ | apply x_cT | apply x_cF | apply aK3 | apply aGQ | refine tF _ aPX λ_ _=>?_ | refine tF _ aLP λ_ _=>?_ | refine tF _ aGO λ_ _=>?_ | refine tF _ aPW λ_ _=>?_ | refine tF _ aOB λ_ _=>?_ | refine tF _ aPY λ_ _=>?_ | refine tF _ aPV λ_ _=>?_ | refine tF _ (aPX (by assumption)) λ_ _=>?_ | refine tF _ (aLP (by assumption)) λ_ _=>?_ | refine tF _ (aGO (by assumption)) λ_ _=>?_ | refine tF _ (aPW (by assumption)) λ_ _=>?_ | refine tF _ (aOB (by assumption)) λ_ _=>?_ | refine tF _ (aPY (by assumption)) λ_ _=>?_ | refine tF _ (aPV (by assumption)) λ_ _=>?_
theorem aJK {n:Nat} {a b c:Int} (hn:250<=n) (ha:XE a) (hb:XE b) (hc:XE c):Ex (λr=>XE r.1/\XE r.2.1) (wT n a b c):=by
  refine ⟨_,aXB (by omega) ha hb hc,?_⟩
  unfold XE at ha hb hc
  unfold md XE
  split
  · exact ⟨by simp only;omega,by simp only;omega⟩
  · rename_i k
    obtain ⟨-,-,-,h4,h5,-⟩:=a0P (a:=a) (b:=b) (c:=c) (by omega) (by omega) (by omega)
    split
    · exact ⟨by simp only;omega,by simp only;omega⟩
    · exact ⟨by simp only;omega,by simp only;omega⟩
theorem aF5 {n:Nat} {a b c:Int} (hn:250<=n) (ha:XE a) (hb:XE b) (hc:XE c):Ex XE (mX n a b c):=by
  unfold mX aMF;simp only [WT.run,O9]
  refine tF (λ_=>True) ?_ λy _=>?_
  · repeat' with_reducible first | exact aEV trivial | refine x_v ?_ | refine aP8 ?_ | apply aL2 | refine ON (by omega) (by omega) λ_ _=>?_ | exact XC trivial | exact XC ⟨by omega,by (first | rfl | omega | (simp only;omega)),trivial⟩ | refine x_a ?_ | refine aP5 (λ_ _=>?_) λ_ _=>trivial | apply aI5 | apply aCE | apply aAR | apply Y4 | apply aOY | apply aIH | apply aKG | apply aMX | apply aDS | refine aEY (λ_=>?_) λ_=>?_ | refine aEW (λ_=>?_) λ_=>?_ | refine aFQ (λ_=>?_) λ_=>?_ | apply x_cT | apply x_cF | apply aK3 | apply aGQ | refine tF _ aPX λ_ _=>?_ | refine tF _ aLP λ_ _=>?_ | refine tF _ aGO λ_ _=>?_ | refine tF _ aPW λ_ _=>?_ | refine tF _ aOB λ_ _=>?_ | refine tF _ aPY λ_ _=>?_ | refine tF _ aPV λ_ _=>?_ | refine tF _ (aPX (by assumption)) λ_ _=>?_ | refine tF _ (aLP (by assumption)) λ_ _=>?_ | refine tF _ (aGO (by assumption)) λ_ _=>?_ | refine tF _ (aPW (by assumption)) λ_ _=>?_ | refine tF _ (aOB (by assumption)) λ_ _=>?_ | refine tF _ (aPY (by assumption)) λ_ _=>?_ | refine tF _ (aPV (by assumption)) λ_ _=>?_
  · refine aFQ (λ_=>aEV aP0) λ_=>aL2 (aFQ (λ_=>aEV ha) λ_=>aL2 (aEY (λh=>aL2 (tF _ (aJK hn (aG1 _) hb hc) λr hr=>aL2 (aEV (aG1 _)))) λh=>tF _ (aJK hn ha hb hc) λr hr=>aEV hr.1))
theorem aPA {n:Nat} {l:List aB} {q:Int} (hn:250<=n) (h:LQ l) (hq:XE q):Ex (λr=>LQ r.1/\RL r.2.1) (IU n l q):=by
  have h1:=h.1
  unfold IU aGD;simp only [WT.run,O9]
  refine x_a (aL2 (aEY (λ_=>aEV ⟨h,RL0⟩) λ_=>tF _ (aPD (h.fuel hn)) λ_ _=>aL2 (aFQ (λ_=>aEV ⟨h,RL0⟩) λ_=>?_)))
  refine tF (λv=>v.1+v.2.1<=v.2.2.1.length/\LQ v.2.2.1/\RL v.2.2.2) (aQJ (λv=>v.1+v.2.1<=v.2.2.2.1.length/\XE v.2.2.1/\LQ v.2.2.2.1/\RL v.2.2.2.2) (λv=>if v.2.2.1>0 then v.2.1+1 else 0) ?_ ⟨by simp,hq,h,RL0⟩ (by simp only;split <;> omega)) λv hv=>?_
  · rintro ⟨a,c,q,l',acc⟩ ⟨hi,hqq,hl,hacc⟩
    simp only at hi hqq hl hacc
    simp only [p2]
    refine tF (λy=>y=true->0<c/\0<q) ?_ λy hy=>aFQ (λht=>?_) λ_=>aEV ⟨hi,hl,hacc⟩
    · refine aL2 (aEY (λh=>aL2 (aEV λh'=>⟨by omega,of_decide_eq_true h'⟩)) λ_=>aEV λh=>by cases h)
    obtain ⟨hc,hq0⟩:=hy ht
    refine x_a (ON (by omega) (by omega) λx hx=>?_)
    have hxl:=hl.at hx
    refine aL2 (tF (λy=>y.1+y.2.1<=y.2.2.1.length/\LQ y.2.2.1/\RL y.2.2.2/\(y.2.1+1=c\/y.2.1=c/\y.2.2.2.aQ=q)) (aEY (λhb=>?_) λhb=>?_) λy hy=>?_)
    · refine tF _ (aF5 hn hxl.2.1 hqq hxl.1) λv1 h1=>tF _ (aF5 hn hxl.2.2 hqq hxl.1) λv2 h2=>x_a (aL2 (x_a (aL2 (x_a (aL2 (x_a (aL2 (x_a (aL2 (x_a (aL2 (aEV ?_))))))))))))
      exact ⟨by simp;exact hi,((hl.set (x:=⟨_,_,_⟩) ⟨aG1 _,hxl.2⟩).set (x:=⟨_,_,_⟩) ⟨aG1 _,aG1 _,hxl.2.2⟩).set (x:=⟨_,_,_⟩) ⟨aG1 _,aG1 _,aG1 _⟩,⟨hqq,h1,h2⟩,.inr ⟨rfl,rfl⟩⟩
    · refine x_a (aL2 (aEV ⟨?_,hl,hxl,.inl ?_⟩))
      · simp only;split <;> omega
      · simp only;omega
    · obtain ⟨a',c',l2,x2⟩:=y
      obtain ⟨k1,k2,k3,k4⟩:=hy
      simp only at k1 k2 k3 k4
      refine aL2 (aL2 (aL2 (aL2 (XC ⟨⟨k1,aG1 _,k2,aG1 _,aG1 _,aG1 _⟩,?_⟩))))
      simp only
      rw [if_pos hq0]
      rcases k4 with k4 | ⟨k4,k5⟩
      · split <;> omega
      · rw [k5,if_neg (by rw [Int.sub_self];decide)];omega
  · obtain ⟨a,c,l',acc⟩:=v
    obtain ⟨k1,k2,k3⟩:=hv
    simp only [p2] at k1 k2 k3 ⊢
    refine aL4 k1 (aEV ⟨⟨?_,λx hx=>k2.2 x (List.mem_of_mem_drop (List.mem_of_mem_take hx))⟩,k3⟩)
    have:=k2.1
    simp only [List.length_take,List.length_drop];omega
end Go.Pv
