import Derived.Test.YtkgnickfdedbmabGreatPlY
set_option linter.unusedVariables false
set_option linter.unusedSimpArgs false
namespace Go.Pv
open Go.Proofs
set_option maxRecDepth 100000
set_option maxHeartbeats 4000000
theorem US {v k:Int} (hk:0<k/\k<=4611686018427387904):Ex (λr=>0<=r/\r<k) (rQ v k):=by
  have h1:=Int.tmod_lt_of_pos v hk.1
  have h2:=Int.lt_tmod_of_pos v hk.1
  unfold rQ VY
  simp only [WT.run,O9]
  refine aL4 (by omega) ?_
  repeat' (first | (with_reducible refine x_w ?_ ?_;· first | omega | (simp only;omega)) | (with_reducible refine XK ?_ ?_;· first | omega | (simp only;omega)) | with_reducible refine aL2 ?_ | with_reducible refine aI5 ?_ | with_reducible refine aCE ?_ | with_reducible refine aAR ?_ | with_reducible refine Y4 ?_ | with_reducible refine aOY ?_ | with_reducible refine aIH ?_ | with_reducible refine aKG ?_ | with_reducible refine aMX ?_ | with_reducible refine aDS ?_ | with_reducible refine aEY (λ_=>?_) (λ_=>?_) | with_reducible refine aEW (λ_=>?_) (λ_=>?_) | with_reducible refine x_cT ?_ | with_reducible refine x_cF ?_ | with_reducible refine aK3 ?_ | with_reducible refine aGQ ?_ | with_reducible refine aEV ?_)
  all_goals omega
theorem aCZ:IM 300=some true:=by decide +kernel
def okB {α:Type} (o:Option α) (p:α->Bool):Bool:=match o with
  | none=>false
  | some a=>p a
theorem nE {α:Type} {o:Option α} {p:α->Bool} (h:okB o p=true):∃ a,o=some a/\p a=true:=by
  cases o with
  | none=>cases h
  | some a=>exact ⟨a,rfl,h⟩
noncomputable section
def mA:eZ:=⟨2,1,[1],[[4],[4]],[[5],[5]]⟩
def o1:aS:=⟨1,0,0,0,0,9,45,0,[]⟩
def o2:aS:=⟨4,0,0,0,0,1,0,0,[]⟩
def o3:aS:=⟨1,1,0,0,0,9,0,0,[]⟩
def o4:aS:=⟨12,1,0,0,0,2,3,0,[]⟩
def M3:List aS:=[⟨1,0,0,0,0,1,0,0,[]⟩,⟨2,0,0,0,0,1,0,0,[]⟩,⟨3,0,0,0,0,1,0,0,[]⟩,⟨4,0,0,0,0,1,0,0,[]⟩,⟨5,0,0,0,0,1,0,0,[]⟩,⟨6,0,0,0,0,1,0,0,[]⟩,⟨7,0,0,0,0,0,0,0,[]⟩,
  ⟨8,0,0,0,1,1,0,0,[]⟩,⟨9,0,0,0,0,0,0,0,[]⟩,⟨10,0,0,0,0,0,0,0,[]⟩,⟨11,0,0,0,0,0,1,0,[0]⟩,⟨12,0,0,0,1,1,0,0,[]⟩,⟨13,0,0,0,0,1,0,0,[]⟩]
def BB (s:aA) (x:aP):aA:=⟨s.bA,(s.aW.set (Int.toNat 0) ⟨x.dS,true,x.dD,x.dU,x.dI,x.dO,x.Down,x.eT⟩).set (Int.toNat 0) ⟨x.dS,true,x.dD,x.dU,x.dI,x.dO,x.Down,[x]⟩,s.bP,s.bU,s.bY,s.Done⟩
def TR:Bool:=okB (AO 300 mA []) λs0=>okB (lF 300 s0 o1) λr1=>decide (r1.2=0) && okB (lF 300 r1.1 o2) λr2=>decide (r2.2=0) && okB (lF 300 r2.1 o3) λr3=>decide (r3.2=0) && okB (lF 300 r3.1 o4) λr4=>decide (r4.2=0) &&
  (decide (r4.1.aW.length=2) && okB (ix r4.1.aW 0) λx =>
    (((List.range 13).all λp=>okB (ix M3 p) λo=>okB (lF 300 (BB r4.1 x) o) λr=>decide (r.2=7)) &&
      ((List.range 7).all λq=>okB (lF 300 (BB r4.1 x) ⟨12,1,0,0,0,aI (1+q),0,0,[]⟩) λr=>decide (r.2=7))) &&
      okB (lF 300 (BB r4.1 x) ⟨1,1,0,0,0,1,0,0,[]⟩) λr=>decide (r.2=0))
end
theorem aHX:TR=true:=by decide +kernel
open Go.Proofs
set_option maxRecDepth 100000
set_option maxHeartbeats 4000000
theorem AM {V B:Type} {f:V->Option (V⊕B)} {v v':V} {n:Nat} {w:B} (h:f v=some (.inl v')) (k:iter f n v'=some w):iter f (n+1) v=some w:=by
  show (f v).bind (sel (iter f n))=some w
  rw [h];exact k
theorem aKO {V B:Type} {f:V->Option (V⊕B)} {v:V} {n:Nat} {w:B} (h:f v=some (.inr w)):iter f (n+1) v=some w:=by
  show (f v).bind (sel (iter f n))=some w
  rw [h];rfl
theorem it4 {V B:Type} {f:V->Option (V⊕B)} {v0 v1 v2 v3 v4:V} {w:B} (h0:f v0=some (.inl v1)) (h1:f v1=some (.inl v2)) (h2:f v2=some (.inl v3)) (h3:f v3=some (.inl v4)) (h4:f v4=some (.inr w)):iter f 300 v0=some w :=
  AM (n:=299) h0 (AM (n:=298) h1 (AM (n:=297) h2 (AM (n:=296) h3 (aKO (n:=295) h4))))
theorem sP {a b:Bool} (h:(a && b)=true):a=true/\b=true:=by simpa using h
theorem aD0 (a1 a2:Int):GR 300 a1 a2=some true:=by
  obtain ⟨p,hp,hp0,hp1⟩:=US (v:=a1) (k:=13) (by decide)
  obtain ⟨q,hq,hq0,hq1⟩:=US (v:=a2) (k:=7) (by decide)
  have h:=aHX
  unfold TR at h
  obtain ⟨s0,e0,h⟩:=nE h
  obtain ⟨r1,e1,h⟩:=nE h
  obtain ⟨z1,h⟩:=sP h
  obtain ⟨r2,e2,h⟩:=nE h
  obtain ⟨z2,h⟩:=sP h
  obtain ⟨r3,e3,h⟩:=nE h
  obtain ⟨z3,h⟩:=sP h
  obtain ⟨r4,e4,h⟩:=nE h
  obtain ⟨z4,h⟩:=sP h
  obtain ⟨hl,h⟩:=sP h
  obtain ⟨x,ex,h⟩:=nE h
  obtain ⟨h,h3⟩:=sP h
  obtain ⟨h1,h2⟩:=sP h
  obtain ⟨ra,ea,za⟩:=nE h3
  have hp':=List.all_eq_true.1 h1 p.toNat (by simp;omega)
  have hq':=List.all_eq_true.1 h2 q.toNat (by simp;omega)
  have ep:((p.toNat:Nat):Int)=p:=by omega
  have eq:((q.toNat:Nat):Int)=q:=by omega
  rw [ep] at hp'
  rw [eq] at hq'
  obtain ⟨o,eo,hp'⟩:=nE hp'
  obtain ⟨rp,erp,zp⟩:=nE hp'
  obtain ⟨rq,erq,zq⟩:=nE hq'
  replace z1:=of_decide_eq_true z1
  replace z2:=of_decide_eq_true z2
  replace z3:=of_decide_eq_true z3
  replace z4:=of_decide_eq_true z4
  replace hl:=of_decide_eq_true hl
  replace za:=of_decide_eq_true za
  replace zp:=of_decide_eq_true zp
  replace zq:=of_decide_eq_true zq
  unfold mA at e0
  unfold o1 at e1
  unfold o2 at e2
  unfold o3 at e3
  unfold o4 at e4
  unfold M3 at eo
  unfold BB at erp erq ea
  unfold GR P7
  simp only [WT.run,O9]
  rw [e0,Option.bind_some,it4 (v1:=(1,r1.1)) (v2:=(2,r2.1)) (v3:=(3,r3.1)) (v4:=(4,r4.1)) (w:=.inl r4.1)]
  · have hl':(r4.1.aW.length:Int)=2:=by omega
    have hl2:r4.1.aW.length<=68719476736:=by omega
    simp only [Option.bind_some,sel,bnd,ex,hp,hq,eo,erp,erq,ea,za,zp,zq,aCZ,hl',fG,if_pos hl2,ne_eq,not_true_eq_false,decide_false,decide_true,cond_false,cond_true]
  · have:ix [(⟨1,0,0,0,0,9,45,0,[]⟩:aS),⟨4,0,0,0,0,1,0,0,[]⟩,⟨1,1,0,0,0,9,0,0,[]⟩,⟨12,1,0,0,0,2,3,0,[]⟩] 0=some ⟨1,0,0,0,0,9,45,0,[]⟩:=rfl
    simp only [p2,bnd,this,e1,z1,Option.bind_some,brk,ne_eq,not_true_eq_false,decide_false,cond_false,show decide ((0:Int)<4)=true from rfl,cond_true]
    rfl
  · have:ix [(⟨1,0,0,0,0,9,45,0,[]⟩:aS),⟨4,0,0,0,0,1,0,0,[]⟩,⟨1,1,0,0,0,9,0,0,[]⟩,⟨12,1,0,0,0,2,3,0,[]⟩] 1=some ⟨4,0,0,0,0,1,0,0,[]⟩:=rfl
    simp only [p2,bnd,this,e2,z2,Option.bind_some,brk,ne_eq,not_true_eq_false,decide_false,cond_false,show decide ((1:Int)<4)=true from rfl,cond_true]
    rfl
  · have:ix [(⟨1,0,0,0,0,9,45,0,[]⟩:aS),⟨4,0,0,0,0,1,0,0,[]⟩,⟨1,1,0,0,0,9,0,0,[]⟩,⟨12,1,0,0,0,2,3,0,[]⟩] 2=some ⟨1,1,0,0,0,9,0,0,[]⟩:=rfl
    simp only [p2,bnd,this,e3,z3,Option.bind_some,brk,ne_eq,not_true_eq_false,decide_false,cond_false,show decide ((2:Int)<4)=true from rfl,cond_true]
    rfl
  · have:ix [(⟨1,0,0,0,0,9,45,0,[]⟩:aS),⟨4,0,0,0,0,1,0,0,[]⟩,⟨1,1,0,0,0,9,0,0,[]⟩,⟨12,1,0,0,0,2,3,0,[]⟩] 3=some ⟨12,1,0,0,0,2,3,0,[]⟩:=rfl
    simp only [p2,bnd,this,e4,z4,Option.bind_some,brk,ne_eq,not_true_eq_false,decide_false,cond_false,show decide ((3:Int)<4)=true from rfl,cond_true]
    rfl
  · simp only [p2,bnd,show decide ((4:Int)<4)=false from rfl,cond_false,esc,brk,Option.map_some]
end Go.Pv
