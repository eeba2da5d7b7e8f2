import Derived.Test.YtmokiknakhhhdaaGreatOB90
import Derived.Test.YtmokiknakhhhdaaGreatPvU
set_option linter.unusedVariables false
set_option linter.unusedSimpArgs false
namespace Go.Pv
open Go.Proofs
set_option maxRecDepth 100000
set_option maxHeartbeats 4000000
def Sm (v:Int):Prop:=-2000<=v/\v<=2000
theorem oH {v:Int} (h:Sm v):Ex (λx=>x.length<=11/\1<=x.length) (eB v):=by
  have:=pV v
  have h2:=List.length_pos_iff.2 (UL v)
  exact ⟨enc v,aLO ⟨by unfold Sm at h;omega,by unfold Sm at h;omega⟩,by omega,h2⟩
theorem sJ {α:Type} {l:List α} {c N M n:Nat} {g:α->List UInt8->Option (List UInt8)} {y0:List UInt8} (hl:l.length<n) (hl2:l.length<=M)
    (hg:∀ a∈l,∀ y:List UInt8,y.length<=N+c*M->Ex (λz=>z.length<=y.length+c) (g a y)) (hy:y0.length<=N) (hM:M<=100:=by omega) :
    Ex (λz=>z.length<=y0.length+c*M) (iter (λv=>p2 (λi y=>bnd (decide (i<(l.length:Int))) λx=>cond x ((ix l i).bind λa=>(g a y).bind λz=>bnd (bM (i+1)) λk=>brk (k,z)) (esc (some y))) v) n ((0:Int),y0)):=by
  refine JK (m:=l.length) (λv=>v.1) (λv=>(v.2.length:Int)<=y0.length+c*v.1) ⟨by simp,by simp,by simp⟩ hl λv h1 h2 h3=>?_
  obtain ⟨i,y⟩:=v
  simp only at h1 h2 h3
  have hc:(c:Int)*i<=c*M:=Int.mul_le_mul_of_nonneg_left (by omega) (by omega)
  refine iV (xX (λhlt=>HV h1 hlt λa ha=>dP _ (hg a (List.mem_of_getElem? ha) y (by omega)) λz hz=>?_) λ_=>vL (fM (by show y.length<=y0.length+c*M;omega)))
  have e:(c:Int)*(i+1)=c*i+c:=by rw [Int.mul_add,Int.mul_one]
  have ew:bM (i+1)=i+1:=wrap64 (by omega)
  exact iV (zT ⟨hlt,ew,by simp only [ew];rw [e];omega⟩)
structure GL (x:dK):Prop where
  l:x.kJ=[]
  a:Sm x.gK.a0
  b:Sm x.gK.a1
  c:Sm x.gK.a2
structure NK (x:gI):Prop where
  a:Sm x.Open
  b:Sm x.kD
  c:Sm x.jP
  d:Sm x.jL
  e:Sm x.jG
  f:Sm x.jA
  g:Sm x.iY
  h:Sm x.iU
  i:Sm x.iP
  j:Sm x.iK
  k:Sm x.iI
theorem w3 {s:bD} {x:dK} {y:List UInt8} (h:GL x) (hy:y.length<=1000000):Ex (λz=>z.length<=y.length+33) (JN s x y).run:=by
  obtain ⟨_,_,_,_⟩:=h
  unfold JN;simp only [WT.run,jT]
  refine dP (λz=>z.length<=y.length+33) ?_ λz hz=>fM hz
  repeat' with_reducible first | exact fM (by simp only [List.length_append];omega) | refine dP _ (oH (by first | assumption | (unfold Sm;omega))) λ_ _=>?_ | refine pX (by first | omega | (simp only [List.length_append];omega)) ?_ | apply iV
theorem w2 {n:Nat} {x:dK} {y:List UInt8} (hn:200<n) (h:GL x) (hy:y.length<=1000000):Ex (λz=>z.length<=y.length) (JZ n x y).run:=by
  have hl:=h.l
  unfold JZ;simp only [WT.run,jT]
  exact dP _ (sJ (c:=0) (M:=100) (N:=1000000) (by rw [hl];simp;omega) (by rw [hl];simp) (λa ha=>by rw [hl] at ha;cases ha) hy) λz hz=>fM (by omega)
theorem w4 {n:Nat} {s:bD} {x:dK} {y:List UInt8} (hn:200<n) (h:GL x) (hy:y.length<=900000):Ex (λz=>z.length<=y.length+44) (NL n s x y).run:=by
  have hl:=h.l
  unfold NL;simp only [WT.run,jT]
  refine dP (λz=>z.length<=y.length+11) (dP _ (oH (by rw [hl];unfold Sm;simp)) λa ha=>lX (lX (iV (dP _ (w2 hn h (by simp only [List.length_append];omega)) λz hz=>fM (by simp only [List.length_append] at hz;omega))))) λz hz=>dP _ (w3 h (by omega)) λz2 hz2=>fM (by omega)
theorem w5 {n:Nat} {x:bC} {y:List UInt8} (hn:200<n) (hl:x.jJ.length<=100) (h:∀ v∈x.jJ,Sm v) (hy:y.length<=900000):Ex (λz=>z.length<=y.length+1100) (IM n x y).run:=by
  unfold IM;simp only [WT.run,jT]
  refine dP _ (sJ (c:=11) (N:=900000) (by omega) hl (λa ha y hy=>?_) hy) λz hz=>fM (by omega)
  have hs:=h a ha
  refine dP (λz=>z.length<=y.length+11) (dP (λz=>z.length<=y.length+11) ?_ λz hz=>fM hz) λz hz=>fM hz
  repeat' with_reducible first | exact fM (by simp only [List.length_append];omega) | refine dP _ (oH (by first | assumption | (unfold Sm;omega))) λ_ _=>?_ | refine pX (by first | omega | (simp only [List.length_append];omega)) ?_ | apply iV
theorem w6 {x:gI} {y:List UInt8} (h:NK x) (hy:y.length<=1000000):Ex (λz=>z.length<=y.length+121) (N5 x y).run:=by
  obtain ⟨_,_,_,_,_,_,_,_,_,_,_⟩:=h
  unfold N5;simp only [WT.run,jT]
  refine dP (λz=>z.length<=y.length+121) ?_ λz hz=>fM hz
  repeat' with_reducible first | exact fM (by simp only [List.length_append];omega) | refine dP _ (oH (by first | assumption | (unfold Sm;omega))) λ_ _=>?_ | refine pX (by first | omega | (simp only [List.length_append];omega)) ?_ | apply iV
theorem w7 {n:Nat} {x:bC} {y:List UInt8} (hn:200<n) (hl:x.gZ.length<=100) (h:∀ v∈x.gZ,NK v) (hy:y.length<=900000):Ex (λz=>z.length<=y.length+12100) (IY n x y).run:=by
  unfold IY;simp only [WT.run,jT]
  refine dP _ (sJ (c:=121) (N:=900000) (by omega) hl (λa ha y hy=>?_) hy) λz hz=>fM (by omega)
  exact dP _ (w6 (y:=y) (h a ha) (by omega)) λz hz=>fM hz
theorem w8 {n:Nat} {x:bC} {y:List UInt8} (hn:200<n) (hl:x.gW.length<=100) (h:∀ v∈x.gW,Sm v) (hy:y.length<=900000):Ex (λz=>z.length<=y.length+1100) (ML n y x).run:=by
  unfold ML;simp only [WT.run,jT]
  refine dP _ (sJ (c:=11) (N:=900000) (by omega) hl (λa ha y hy=>?_) hy) λz hz=>fM (by omega)
  have hs:=h a ha
  refine dP (λz=>z.length<=y.length+11) (dP (λz=>z.length<=y.length+11) ?_ λz hz=>fM hz) λz hz=>fM hz
  repeat' with_reducible first | exact fM (by simp only [List.length_append];omega) | refine dP _ (oH (by first | assumption | (unfold Sm;omega))) λ_ _=>?_ | refine pX (by first | omega | (simp only [List.length_append];omega)) ?_ | apply iV
theorem w9 {n:Nat} {x:bC} {y:List UInt8} (hn:200<n) (hl:x.Down.length<=100) (h:∀ v∈x.Down,Sm v) (hy:y.length<=900000):Ex (λz=>z.length<=y.length+1100) (II n y x).run:=by
  unfold II;simp only [WT.run,jT]
  refine dP _ (sJ (c:=11) (N:=900000) (by omega) hl (λa ha y hy=>?_) hy) λz hz=>fM (by omega)
  have hs:=h a ha
  refine dP (λz=>z.length<=y.length+11) (dP (λz=>z.length<=y.length+11) ?_ λz hz=>fM hz) λz hz=>fM hz
  repeat' with_reducible first | exact fM (by simp only [List.length_append];omega) | refine dP _ (oH (by first | assumption | (unfold Sm;omega))) λ_ _=>?_ | refine pX (by first | omega | (simp only [List.length_append];omega)) ?_ | apply iV
structure NV (x:bC):Prop where
  n:Sm x.l5
  c:x.Closed=false
  pl:x.iF.length<=100
  p:∀ q∈x.iF,GL q
  bl:x.jJ.length<=100
  b:∀ v∈x.jJ,Sm v
  rl:x.gZ.length<=100
  r:∀ v∈x.gZ,NK v
  ql:x.gW.length<=100
  q:∀ v∈x.gW,Sm v
  dl:x.Down.length<=100
  d:∀ v∈x.Down,Sm v
  a:x.iX=[]
theorem w21 {n:Nat} {s:bD} {x:bC} {y:List UInt8} (hn:200<n) (h:NV x) (hy:y.length<=500000):Ex (λz=>z.length<=y.length+50000) (JU n s x y).run:=by
  have hN:=h.n;have hc:=h.c
  have hq:Sm (x.gW.length:Int):=by have:=h.ql;unfold Sm;omega
  have hd:Sm (x.Down.length:Int):=by have:=h.dl;unfold Sm;omega
  have h0:Sm 0:=by unfold Sm;omega
  unfold JU;simp only [WT.run,jT]
  refine dP (λz=>z.length<=y.length+11) (dP (λz=>z.length<=y.length+11) ?_ λz hz=>fM hz) λy1 h1=>dP (λz=>z.length<=y1.length+11) (pX hc ?_) λy2 h2=>dP _ (dP _ (sJ (c:=44) (N:=600000) (by have:=h.pl;omega) h.pl (λa ha y hy=>w4 (s:=s) (y:=y) hn (h.p a ha) (by omega)) (by omega)) λz hz=>fM hz) λy3 h3=>dP _ (w5 hn h.bl h.b (by omega)) λy4 h4=>dP _ (w7 hn h.rl h.r (by omega)) λy5 h5=>dP (λz=>z.length<=y5.length+1111) (dP _ (oH hq) λa ha=>lX (lX (iV (dP _ (w8 (y:=y5++a) hn h.ql h.q (by simp only [List.length_append];omega)) λz hz=>fM (by simp only [List.length_append] at hz;omega))))) λy6 h6=>dP (λz=>z.length<=y6.length+1111) (dP _ (oH hd) λa ha=>lX (lX (iV (dP _ (w9 (y:=y6++a) hn h.dl h.d (by simp only [List.length_append];omega)) λz hz=>fM (by simp only [List.length_append] at hz;omega))))) λy7 h7=>?_
  · repeat' with_reducible first | exact fM (by simp only [List.length_append];omega) | refine dP _ (oH (by first | assumption | (unfold Sm;omega))) λ_ _=>?_ | refine pX (by first | omega | (simp only [List.length_append];omega)) ?_ | apply iV
  · repeat' with_reducible first | exact fM (by simp only [List.length_append];omega) | refine dP _ (oH (by first | assumption | (unfold Sm;omega))) λ_ _=>?_ | refine pX (by first | omega | (simp only [List.length_append];omega)) ?_ | apply iV
  · refine dP (λ_=>True) (fM trivial) λ_ _=>dP (λz=>z.length<=y7.length+11) (dP _ (oH (by rw [h.a];exact h0)) λa ha=>lX (lX (iV ?_))) λz hz=>fM (by omega)
    obtain ⟨m,rfl⟩:∃ m,n=m+1:=⟨n-1,by omega⟩
    rw [h.a]
    exact dP (λz=>z.length<=y7.length+11) (dP (λ_=>True) ⟨(),rfl,trivial⟩ λ_ _=>fM (by simp only [List.length_append];omega)) λz hz=>fM hz
theorem w22 {n:Nat} {s:bD} {y:List UInt8} (hn:200<n) {x:bC} (hs:s.dX=[x]) (h:NV x) (hy:y.length<=10000):Ex (λz=>z.length<=y.length+100000) (L3 n s y).run:=by
  unfold L3;simp only [WT.run,jT]
  rw [hs]
  exact dP _ (sJ (c:=50000) (M:=1) (N:=10000) (by simp;omega) (by simp) (λa ha y hy=>by
    obtain rfl:=List.mem_singleton.1 ha
    exact w21 (s:=s) (y:=y) hn h (by omega)) hy) λz hz=>fM (by omega)
theorem aB1 {p:Int} (h:Sm p):NV (e1 p):=by
  have h0:Sm 0:=by unfold Sm;omega
  refine ⟨by show Sm 1;unfold Sm;omega,rfl,by simp [e1],λq hq=>?_,by simp [e1],λv hv=>?_,by simp [e1],λr hr=>?_,by simp [e1],λv hv=>?_,by simp [e1],λv hv=>?_,rfl⟩
  · simp only [e1,List.mem_cons,List.not_mem_nil,or_false] at hq
    rcases hq with rfl | rfl <;> exact ⟨rfl,h0,h0,h0⟩
  · rw [List.eq_of_mem_replicate hv];exact h0
  · simp only [e1,List.mem_cons,List.not_mem_nil,or_false] at hr
    subst hr;exact ⟨h0,h0,h0,h0,h0,h0,h0,h0,h0,h0,h0⟩
  · simp only [e1,List.mem_cons,List.not_mem_nil,or_false] at hv;subst hv;exact h
  · simp only [e1,List.mem_cons,List.not_mem_nil,or_false] at hv;subst hv;exact h0
theorem w24 {n:Nat} {s:bD} {y:List UInt8} (hn:200<n) (h:s.iO=[]) (hy:y.length<=900000):Ex (λz=>z.length<=y.length) (NJ n s y).run:=by
  unfold NJ;simp only [WT.run,jT]
  exact dP _ (sJ (c:=0) (M:=100) (N:=1000000) (by rw [h];simp;omega) (by rw [h];simp) (λa ha=>by rw [h] at ha;cases ha) (by omega)) λz hz=>fM (by omega)
theorem w26 {n:Nat} {s:bD} {y:List UInt8} (hn:200<n) (h:s.jH=[]) (hy:y.length<=900000):Ex (λz=>z.length<=y.length) (NI n s y).run:=by
  unfold NI;simp only [WT.run,jT]
  exact dP _ (sJ (c:=0) (M:=100) (N:=1000000) (by rw [h];simp;omega) (by rw [h];simp) (λa ha=>by rw [h] at ha;cases ha) (by omega)) λz hz=>fM (by omega)
theorem w28 {n:Nat} {s:bD} {y:List UInt8} (hn:200<n) (h:s.jQ=[]) (hy:y.length<=900000):Ex (λz=>z.length<=y.length) (LV n s y).run:=by
  unfold LV;simp only [WT.run,jT]
  exact dP _ (sJ (c:=0) (M:=100) (N:=1000000) (by rw [h];simp;omega) (by rw [h];simp) (λa ha=>by rw [h] at ha;cases ha) (by omega)) λz hz=>fM (by omega)
theorem w29 {n:Nat} {p d:Int} {y:List UInt8} (hn:200<n) (hp:Sm p) (hd:Sm d) (hy:y.length<=5000):Ex (λz=>z.length<=y.length+200000/\z≠[]) (M3 n (S1 p d) y).run:=by
  have h0:Sm 0:=by unfold Sm;omega
  unfold M3;simp only [WT.run,jT]
  refine dP (λ_=>True) (fM trivial) λ_ _=>dP _ (w22 (y:=y) hn (x:=e1 p) rfl (aB1 hp) (by omega)) λy1 h1=>dP (λz=>z.length<=y1.length+11) (dP _ (oH h0) λa ha=>lX (lX (iV (dP _ (w24 (y:=y1++a) hn rfl (by simp only [List.length_append];omega)) λz hz=>fM (by simp only [List.length_append] at hz;omega))))) λy2 h2=>dP (λz=>z.length<=y2.length+11) (dP _ (oH h0) λa ha=>lX (lX (iV (dP _ (w26 (y:=y2++a) hn rfl (by simp only [List.length_append];omega)) λz hz=>fM (by simp only [List.length_append] at hz;omega))))) λy3 h3=>dP (λz=>z.length<=y3.length+11) (dP _ (oH h0) λa ha=>lX (lX (iV (dP _ (w28 (y:=y3++a) hn rfl (by simp only [List.length_append];omega)) λz hz=>fM (by simp only [List.length_append] at hz;omega))))) λy4 h4=>?_
  refine dP (λz=>z.length<=y4.length+11/\1<=z.length) (dP (λz=>z.length<=y4.length+11/\1<=z.length) (dP _ (oH (v:=d) hd) λa ha=>lX (lX (iV (fM (by simp only [List.length_append];omega))))) λz hz=>fM hz) λz hz=>fM ⟨by omega,λe=>by rw [e] at hz;simp at hz⟩
theorem mb0:(match AO 1500 m1 with | some b=>decide (b.length<=100) | none=>false)=true:=by kernel_rfl
theorem mb1:Ex (λb=>b.length<=100) (AO 1500 m1):=by
  have h:=mb0
  cases e:AO 1500 m1 with
  | none=>rw [e] at h;cases h
  | some b=>rw [e] at h;exact ⟨b,rfl,of_decide_eq_true h⟩
theorem aH5 (v:Int):gT (bM v):=by
  have h1:=Int.emod_nonneg v (show (18446744073709551616:Int)≠0 by decide)
  have h2:=Int.emod_lt_of_pos v (show (0:Int)<18446744073709551616 by decide)
  unfold gT
  show -9223372036854775808<=(if (true && decide (v % 18446744073709551616>=9223372036854775808))=true then v % 18446744073709551616-18446744073709551616 else v % 18446744073709551616)/\(if (true && decide (v % 18446744073709551616>=9223372036854775808))=true then v % 18446744073709551616-18446744073709551616 else v % 18446744073709551616)<=9223372036854775807
  split <;> (rename_i h;simp only [Bool.true_and,decide_eq_true_eq] at h;omega)
theorem aNV {k:Nat} (h:k<=400):∃ b,BO 1500 (S1 ((k:Int)-1) k)=some b:=by
  refine (λh:Ex (λ_=>True) (BO 1500 (S1 ((k:Int)-1) k))=>by obtain ⟨r,e,_⟩:=h;exact ⟨r,e⟩) ?_
  unfold BO V9;simp only [WT.run,jT]
  refine dP (λb=>b=true) ⟨true,aIO (by omega) (by omega),rfl⟩ λb hb=>?_
  subst hb
  refine iV (pX rfl (dP _ mb1 λx hx=>lX (dP (λl=>(l:List Int).length<=100/\∀ v∈l,gT v) ?_ λl hl=>?_)))
  · refine JK (m:=(x.map λ(c:UInt8)=>(c.toNat:Int)).length) (λv=>v.1) (λv=>(v.2.length:Int)=v.1/\∀ z∈v.2,gT z) ⟨by simp,by simp,by simp⟩ (by simp;omega) λv h1 h2 h3=>?_
    obtain ⟨i,b⟩:=v
    have hm:(x.map λ(c:UInt8)=>(c.toNat:Int)).length<=100:=by simp;omega
    simp only at h1 h2 h3
    have ew:bM (i+1)=i+1:=wrap64 (by omega)
    refine iV (xX (λhlt=>HV h1 hlt λc hc=>iV (iV (lX (iV (zT ⟨hlt,ew,?_,λz hz=>?_⟩))))) λ_=>vL (fM ⟨by show b.length<=100;omega,h3.2⟩))
    · simp only [List.length_append,List.length_cons,List.length_nil,ew];omega
    · rcases List.mem_append.1 hz with hz | hz
      · exact h3.2 z hz
      · rw [List.mem_singleton.1 hz];exact aH5 _
  · have h1:=NZ l
    refine dP (λb=>b=lG l) ⟨_,aH8 hl.2 (by omega),rfl⟩ λb hb=>?_
    subst hb
    exact lX (dP _ (w29 (y:=lG l) (by omega) (by unfold Sm;omega) (by unfold Sm;omega) (by omega)) λz hz=>pX hz.2 (lX (fM trivial)))
theorem aM6:GI 1500=some true:=by decide +kernel
theorem aBD:((vX 1500 m1).bind λb=>B9 1500 b)=some (m1,0):=by kernel_rfl
theorem aAR:∃ b,vX 1500 m1=some b/\B9 1500 b=some (m1,0):=by
  have h:=aBD
  cases e:vX 1500 m1 with
  | none=>rw [e] at h;cases h
  | some b=>rw [e] at h;exact ⟨b,rfl,h⟩
theorem aKN {v k:Int} (hk:0<k/\k<=4611686018427387904):Ex (λr=>0<=r/\r<k) (A7 v k):=by
  have h1:=Int.tmod_lt_of_pos v hk.1
  have h2:=Int.lt_tmod_of_pos v hk.1
  unfold A7 RO
  simp only [WT.run,jT]
  refine lX ?_
  repeat' with_reducible first | refine NM ?_ | refine UO ?_ | apply iV | apply TK | apply RD | apply PK | apply Y9 | apply PT | apply P4 | apply YL | apply U6 | apply YU | refine xX (λ_=>?_) λ_=>?_ | refine UP (λ_=>?_) λ_=>?_ | apply x_cT | apply x_cF | apply Q5 | apply vL | apply fM
  all_goals omega
theorem aFZ {k:Nat} (hk:k<=900):∃ a c r,vX 1500 m1=some a/\rJ 1500 (ol 0 k)=some c/\xO 1500 a c=some r/\decide (r.2.2=0)=decide ((k:Int)<=400):=by
  obtain ⟨b,hb,hm⟩:=aAR
  by_cases h:k<=400
  · obtain ⟨c,hc,hr⟩:=aHJ h
    obtain ⟨z,hz⟩:=aNV h
    have hrun:=OR (k:=k)
    rw [Nat.min_eq_left h] at hrun
    refine ⟨b,c,(z,List.replicate k 0,0),hb,hc,?_,?_⟩
    · unfold xO M5;simp only [WT.run,jT]
      exact eD hm (gV (by simp) (gN (eD hr (gV (by simp) (gN (eD hrun (eD hz rfl)))))))
    · rw [decide_eq_true (show ((k:Int)<=400) by omega)];rfl
  · refine ⟨b,[],([],[],3),hb,aEO (by omega) hk,?_,?_⟩
    · unfold xO M5;simp only [WT.run,jT]
      exact eD hm (gV (by simp) (gN (eD aII (jF (by simp) rfl))))
    · rw [decide_eq_false (show ¬ ((k:Int)<=400) by omega)];rfl
theorem aLL (k:Nat) (hk:k<=900) {f:Int×List aF->Option ((Int×List aF)⊕List aF)} (hf:∀ i l,f (i,l)=(bnd (decide (i<(k:Int))) λx=>bif x then (ix l i).bind λ_=>bnd (l.set i.toNat (o1 i)) λx=>bnd (bM (i+1)) λy=>brk (y,x) else esc (some l))) :
    iter f 1500 (0,List.replicate k (⟨0,0,0,0,0,0,0,0,[]⟩:aF))=some (ol 0 k):=by
  have h:∀ (d i n:Nat),i+d=k->d<n->iter f n ((i:Int),ol 0 i++List.replicate d (⟨0,0,0,0,0,0,0,0,[]⟩:aF))=some (ol 0 k):=by
    intro d
    induction d with
    | zero =>
      intro i n hi hn
      obtain ⟨n,rfl⟩:∃ m,n=m+1:=⟨n-1,by omega⟩
      obtain rfl:i=k:=by omega
      show (f _).bind _=_
      rw [hf,show (bnd (decide ((i:Int)<(i:Int))) λx=>bif x then _ else esc (some _))=esc (some (ol 0 i++List.replicate 0 _)) from by rw [decide_eq_false (by omega)];rfl]
      rw [List.replicate_zero,List.append_nil];rfl
    | succ d ih =>
      intro i n hi hn
      obtain ⟨n,rfl⟩:∃ m,n=m+1:=⟨n-1,by omega⟩
      have hl:(ol 0 i).length=i:=NF 0 i
      have e1:ix (ol 0 i++List.replicate (d+1) (⟨0,0,0,0,0,0,0,0,[]⟩:aF)) (i:Int)=some ⟨0,0,0,0,0,0,0,0,[]⟩:=by
        unfold ix;rw [if_neg (by omega),Int.toNat_natCast,List.getElem?_append_right (by omega)];simp [hl]
      have e2:(ol 0 i++List.replicate (d+1) (⟨0,0,0,0,0,0,0,0,[]⟩:aF)).set ((i:Int).toNat) (o1 i)=ol 0 (i+1)++List.replicate d ⟨0,0,0,0,0,0,0,0,[]⟩:=by
        rw [Int.toNat_natCast,List.set_append_right _ _ (by omega),hl,Nat.sub_self]
        unfold ol;rw [List.range'_concat,List.map_append,List.append_assoc]
        simp [List.replicate_succ]
      have:=ih (i+1) n (by omega) (by omega)
      show (f _).bind _=_
      rw [hf,decide_eq_true (show (i:Int)<(k:Int) by omega)]
      show (((ix _ (i:Int)).bind λ_=>bnd _ λx=>bnd (bM ((i:Int)+1)) λy=>brk (y,x)):Option _).bind _=_
      rw [e1]
      show ((brk (bM ((i:Int)+1),List.set _ _ _)):Option ((Int×List aF)⊕List aF)).bind _=_
      rw [e2,show bM ((i:Int)+1)=((i+1:Nat):Int) from by rw [show bM ((i:Int)+1)=(i:Int)+1 from wrap64 (by omega)];omega]
      exact this
  have:=h k 0 1500 (by omega) (by omega)
  simpa [ol] using this
theorem aC7 (v:Int):K6 1500 v=some true:=by
  obtain ⟨x,hx,h0,h1⟩:=aKN (v:=v) (k:=900) (by omega)
  obtain ⟨k,rfl⟩:∃ k:Nat,x=k:=⟨x.toNat,by omega⟩
  have hk:k<=900:=by omega
  obtain ⟨a,c,r,ha,hc,hr,hd⟩:=aFZ hk
  unfold K6 QK;simp only [WT.run,jT]
  refine eD hx (l6 (by omega) (oV (eD (aLL k hk λi l=>rfl) (eD OR ?_))))
  have e1:(if 400<(k:Int) then (400:Int) else (k:Int))=((min k 400:Nat):Int):=by split <;> omega
  have hm:min k 400<=400:=by omega
  simp only [e1,List.length_replicate]
  generalize min k 400=m at *
  have e2:bM ((m:Int)-1)=(m:Int)-1:=wrap64 (by omega)
  have ha':vX 1500 ⟨1,1,[1],[[2]],[[0]]⟩=some a:=ha
  refine eD (gV (by simp) (gN (oV (gV (by simp) (gN (gV (by simp [S1]) (gN (gV (by simp [S1]) rfl)))))))) (l6 rfl (eD ha' (eD hc (eD hr (eD (gV (by simp [S1]) (gN rfl)) (l6 rfl ?_))))))
  refine (λh=>by rw [h];rfl:∀ {D:Option Bool},D=some true->D.bind (λy=>some y)=some true) ?_
  refine eD (a:=Go.Pv.e1 ((m:Int)-1)) rfl ?_
  refine eD (a:=(m:Int)-1) rfl ?_
  show (bif decide ((m:Int)-1=bM ((m:Int)-1)) then (bif decide (decide (r.2.2=0)=decide ((k:Int)<=400)) then (GI 1500).bind λx=>some x else some false) else some false)=some true
  rw [e2,hd,decide_eq_true rfl,decide_eq_true rfl,aM6];rfl
open Go.ChangeShapes Go.WideShapes Go.ChangeAt Go.RowKit
theorem aCH {P:Program} {f:FuncId} {args:List AV} {vs:Array Value} {w:World} (h:PP P f args (λy=>y=aB true)) (ha:mD (s0 w) args vs) :
    Calls P f vs w λe w'=>e=.returned (.bool true)/\Below w.heap.size w w':=by
  refine (h (s0 w) vs (λ_ h=>h) ⟨0,λ_ _ h=>h⟩ ha).mono ?_
  rintro e w' ⟨y,s',v,rfl,_,rfl,rfl,h4,_,h6⟩
  have hv:=h4.eZ
  subst hv
  exact ⟨rfl,⟨h6.os,h6.tape,h6.output,h6.size,λk hk=>h6.keep k hk λ⟨_,_,_,h,_⟩=>by cases h⟩⟩
end Go.Pv
