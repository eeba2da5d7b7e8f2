import Derived.Test.YtfamehgkphejnaaGreatGA90
set_option linter.unusedVariables false
set_option linter.unusedSimpArgs false
namespace Go.Pv
open Go.Proofs
set_option maxRecDepth 100000
set_option maxHeartbeats 1000000
def lQ (l:List aB):Int:=sI (l.map aB.aQ)
def lV (l:List aB):Int:=sI (l.map aB.Value)
def lP (l:List aB):Int:=sI (l.map aB.bO)
def lA (l:List aB):Int:=sAb (l.map aB.bO)
def tot (l:List aB):aB:=⟨lQ l,lV l,lP l⟩
theorem map_take {α β:Type} (f:α->β) {l:List α} {i:Int} {x:α} (h0:0<=i) (hx:l[i.toNat]?=some x):(l.take (i+1).toNat).map f=(l.take i.toNat).map f++[f x]:=by
  rw [show (i+1).toNat=i.toNat+1 by omega,List.take_add_one,hx]
  simp
theorem a6M {n:Nat} {l:List aB} (hl:l.length<250/\250<=n):Ex (λr=>(r.2=0->r.1=tot l/\(aSF (l.map aB.aQ)).2=0/\(aSF (l.map aB.Value)).2=0/\(aSF (l.map aB.bO)).2=0)/\((aSF (l.map aB.aQ)).2=0/\(aSF (l.map aB.Value)).2=0/\(aSF (l.map aB.bO)).2=0->r.2=0)) (y8 n l):=by
  unfold y8 Z5;simp only [WT.run,O9]
  refine tF (λa=>a=(l.map aB.aQ,l.map aB.Value,l.map aB.bO)) (aQB (m:=l.length) (λv=>v.1) (λv=>v.2.1=(l.take v.1.toNat).map aB.aQ/\v.2.2.1=(l.take v.1.toNat).map aB.Value/\v.2.2.2=(l.take v.1.toNat).map aB.bO) ⟨by simp,by simp,by simp⟩ (by omega) λv h1 h2 h3=>?_) λa ha=>?_
  · obtain ⟨i,p,q,w⟩:=v
    simp only at h1 h2 h3
    obtain ⟨rfl,rfl,rfl⟩:=h3
    simp only [p2]
    have hL:(l.take i.toNat).length<=250:=by simp only [List.length_take];omega
    refine aL2 (aEY (λhk=>ON h1 hk λx hx=>aL2 (aL4 (by simp only [List.length_append,List.length_map,List.length_singleton];omega) (aL2 (aL4 (by simp only [List.length_append,List.length_map,List.length_singleton];omega) (aL2 (aL4 (by simp only [List.length_append,List.length_map,List.length_singleton];omega) (x_v (XC ⟨hk,rfl,(map_take _ h1 hx).symm,(map_take _ h1 hx).symm,(map_take _ h1 hx).symm⟩)))))))) λhk=>aGQ (aEV ?_))
    rw [List.take_of_length_le (by omega)]
  · subst ha
    simp only [p2]
    have e1:=aZ4 (n:=n) (l:=l.map aB.aQ) ⟨by simp;omega,hl.2⟩
    have e2:=aZ4 (n:=n) (l:=l.map aB.Value) ⟨by simp;omega,hl.2⟩
    have e3:=aZ4 (n:=n) (l:=l.map aB.bO) ⟨by simp;omega,hl.2⟩
    refine tF (λr=>match r with | .inl a=>(a=tot l/\(aSF (l.map aB.aQ)).2=0/\(aSF (l.map aB.Value)).2=0/\(aSF (l.map aB.bO)).2=0) | .inr b=>b.2≠0/\¬ ((aSF (l.map aB.aQ)).2=0/\(aSF (l.map aB.Value)).2=0/\(aSF (l.map aB.bO)).2=0)) (x_eq e1 (aL2 (aEY (λk=>aGQ (aEV ⟨k,λh=>k h.1⟩)) λk1=>x_eq e2 (aL2 (aEY (λk=>aGQ (aEV ⟨k,λh=>k h.2.1⟩)) λk2=>x_eq e3 (aL2 (aEY (λk=>aGQ (aEV ⟨k,λh=>k h.2.2⟩)) λk3=>XC ?_))))))) λr hr=>?_
    · have k1:=Classical.not_not.1 k1;have k2:=Classical.not_not.1 k2;have k3:=Classical.not_not.1 k3
      refine ⟨?_,k1,k2,k3⟩
      unfold tot lQ lV lP
      rw [a5O k1,a5O k2,a5O k3]
    · cases r with
      | inl a=>exact aEV ⟨λ_=>hr,λ_=>rfl⟩
      | inr b=>exact ⟨_,rfl,λh=>absurd h hr.1,λh=>absurd h hr.2⟩
structure LB (l:List aB):Prop where
  len:l.length<=30
  ok:∀ x∈l,1<=x.aQ/\0<=x.Value
  q:lQ l<=288230376151711744
  v:lV l<=288230376151711744
  a:lA l<=288230376151711744
theorem LB.nil:LB []:=⟨by simp,(λ_ h=>by cases h),by decide,by decide,by decide⟩
theorem a4I {l:List aB} {f:aB->Int} (h:∀ x∈l,0<=f x):∀ y∈l.map f,0<=y:=λy hy=>by
  obtain ⟨x,hx,rfl⟩:=List.mem_map.1 hy
  exact h x hx
theorem a9M:∀ l:List Int,sI (l.map λx=>(x.natAbs:Int))=sAb l
  | []=>rfl
  | x :: l=>by simp only [List.map_cons,sI,sAb,a9M l]
theorem bE6 {x:aB}:Ex (λb=>b=false->1<=x.aQ/\0<=x.Value/\InM x.bO) (TU x):=by
  unfold TU aJB InM;simp only [WT.run,O9]
  refine tF (λb=>b=false->1<=x.aQ/\0<=x.Value/\-288230376151711744<=x.bO/\x.bO<=288230376151711744) ?_ λb hb=>aEV hb
  exact aL2 (aEY (λ_=>aEV λh=>by cases h) λk1=>aL2 (aEY (λ_=>aEV λh=>by cases h) λk2=>aL2 (aEY (λ_=>aEV λh=>by cases h) λk3=>aL2 (aEY (λ_=>aEV λh=>by cases h) λk4=>aL2 (aEY (λ_=>aEV λh=>by cases h) λk5=>aL2 (aEV λh=>by have:=of_decide_eq_false h;omega))))))
theorem bDN {n:Nat} {l:List aB} (hl:l.length<250/\250<=n) (hp:∀ x∈l,InM x.bO):Ex (λb=>b=true->lA l<=288230376151711744) (UH n l):=by
  unfold UH aAP;simp only [WT.run,O9]
  refine tF (λa=>a=l.map λx=>(x.bO.natAbs:Int)) (aQB (m:=l.length) (λv=>v.1) (λv=>v.2=(l.take v.1.toNat).map λx=>(x.bO.natAbs:Int)) ⟨by simp,by simp,by simp⟩ (by omega) λv h1 h2 h3=>?_) λa ha=>?_
  · obtain ⟨i,p⟩:=v
    simp only at h1 h2 h3
    subst h3
    simp only [p2]
    have hL:(l.take i.toNat).length<=250:=by simp only [List.length_take];omega
    refine aL2 (aEY (λhk=>ON h1 hk λx hx=>aL2 (aL2 (aL2 (aL4 (by simp only [List.length_append,List.length_map,List.length_singleton];omega) (x_v (XC ⟨hk,rfl,?_⟩)))))) λhk=>aGQ (aEV ?_))
    · have hx2:=hp x (List.mem_of_getElem? hx)
      unfold InM at hx2
      rw [map_take (λx:aB=>(x.bO.natAbs:Int)) h1 hx]
      have e:aI (0-x.bO)=- x.bO:=by rw [Int.zero_sub];exact wrap64 (by omega)
      simp only [e]
      congr 2
      split <;> omega
    · rw [List.take_of_length_le (by omega)]
  · subst ha
    refine x_eq (aZ4 ⟨by simp;omega,hl.2⟩) (aL2 (aEV λh=>?_))
    have:=a6P (l:=l.map λx=>(x.bO.natAbs:Int)) (a4I λx _=>by omega) (of_decide_eq_true h)
    unfold lA
    rw [<- a9M,List.map_map];exact this
theorem a9T {n:Nat} {l:List aB} (hn:250<=n):Ex (λb=>b=true->LB l) (L5 n l):=by
  unfold L5 aJ8;simp only [WT.run,O9]
  refine tF (λb=>b=false->l.length<=30/\∀ x∈l,1<=x.aQ/\0<=x.Value/\InM x.bO) ?_ λb hb=>aFQ (λ_=>aEV λh=>by cases h) λhb'=>?_
  · refine aL2 (aEY (λ_=>aEV λh=>by cases h) λhk=>?_)
    have hk:l.length<=30:=by omega
    refine tF (λb=>b=false->∀ x∈l,1<=x.aQ/\0<=x.Value/\InM x.bO) (tF (λb=>b<0->∀ x∈l,1<=x.aQ/\0<=x.Value/\InM x.bO) (tF (λr=>match r with | .inl _=>∀ x∈l,1<=x.aQ/\0<=x.Value/\InM x.bO | .inr v=>0<=v) (aQB (m:=l.length) (λv=>v) (λv=>∀ x∈l.take v.toNat,1<=x.aQ/\0<=x.Value/\InM x.bO) ⟨by simp,by simp,λx h=>by simp at h⟩ (by omega) λv h1 h2 h3=>?_) λr hr=>?_) λc hc=>aL2 (aEV λh=>hc (Int.not_le.1 (of_decide_eq_false h)))) λb hb=>aEV λh=>⟨hk,hb h⟩
    · refine aL2 (aEY (λhk=>ON h1 hk λx hx=>tF _ bE6 λb hb=>aFQ (λ_=>aGQ (aGQ (aEV h1))) λhb'=>x_v (XC ⟨hk,rfl,λy hy=>?_⟩)) λhk=>aGQ (XC ?_))
      · rw [show (v+1).toNat=v.toNat+1 by omega,List.take_add_one,hx] at hy
        rcases List.mem_append.1 hy with hy | hy
        · exact h3 y hy
        · rw [Option.toList_some,List.mem_singleton] at hy;rw [hy];exact hb hb'
      · rw [List.take_of_length_le (by omega)] at h3;exact h3
    · cases r with
      | inl u=>exact aK3 (aEV λ_=>hr)
      | inr v=>exact ⟨_,rfl,λh=>absurd h (Int.not_lt.2 hr)⟩
  · obtain ⟨h1,h2⟩:=hb hb'
    refine tF _ (a6M ⟨by omega,hn⟩) λt ht=>tF (λb=>b=true->LB l) (aL2 (aEY (λk=>tF _ (bDN ⟨by omega,hn⟩ λx hx=>(h2 x hx).2.2) λb hb=>aEV λh=>?_) λ_=>aEV λh=>by cases h)) λb hb=>aEV hb
    obtain ⟨-,k1,k2,-⟩:=ht.1 k
    exact ⟨h1,λx hx=>⟨(h2 x hx).1,(h2 x hx).2.1⟩,a6P (a4I λx hx=>by have:=(h2 x hx).1;omega) k1,a6P (a4I λx hx=>(h2 x hx).2.1) k2,hb h⟩
theorem a9V {n:Nat} {l:List aB} {x:aB} (hn:250<=n) (hl:l.length<=30):Ex (λr=>r.2=0->r.1=l++[x]/\LB (l++[x])) (JM n l x):=by
  unfold JM WO;simp only [WT.run,O9]
  refine x_a (tF (λ_=>True) (aL2 (aEY (λ_=>aEV trivial) λ_=>aL2 (aEV trivial))) λb _=>aFQ (λ_=>aEV λh=>absurd h (show ¬ (1:Int)=0 by decide)) λ_=>aL2 (aEY (λ_=>aEV λh=>absurd h (show ¬ (6:Int)=0 by decide)) λ_=>x_a (aL2 (x_a (tF _ (a9T hn) λb hb=>aL2 (aEW (λ_=>aEV λh=>absurd h (show ¬ (2:Int)=0 by decide)) λhb'=>aEV λ_=>⟨rfl,hb hb'⟩))))))
theorem bCI {n:Nat} {l:List aB} {q:Int} (hl:l.length<250/\250<=n) (hq:1<=q/\q<=9223372036854775807) (hp:∀ x∈l,1<=x.aQ/\0<=x.Value):Ex (λr=>r=true->q<=lQ l) (GX n l q):=by
  unfold GX aA4;simp only [WT.run,O9]
  refine tF (λr=>match r with | .inl _=>True | .inr b=>b=true->q<=lQ l) (aQB (m:=l.length) (λv=>v.2) (λv=>1<=v.1/\v.1<=q/\q-v.1<=sI ((l.take v.2.toNat).map aB.aQ)) ⟨by simp,by simp,hq.1,by simp,by simp [sI]⟩ (by omega) λv h1 h2 h3=>?_) λr hr=>?_
  · obtain ⟨a,i⟩:=v
    simp only at h1 h2 h3
    simp only [p2]
    refine aL2 (aEY (λhk=>ON h1 hk λx hx=>aL2 (aL2 (aL2 (aL2 (aEY (λk0=>aGQ (aGQ (aEV λ_=>?_))) λk0=>x_v (XC ⟨hk,rfl,?_⟩)))))) λhk=>aGQ (XC trivial))
    all_goals
      have hx2:=(hp x (List.mem_of_getElem? hx)).1
      have e:aI (a-(if a<(if 0>x.aQ then 0 else x.aQ) then a else (if 0>x.aQ then 0 else x.aQ)))=a-(if a<x.aQ then a else x.aQ):=by
        rw [if_neg (show ¬ 0>x.aQ by omega)]
        exact wrap64 (by split <;> omega)
      have em:=map_take aB.aQ h1 hx
      have es:sI ((l.take (i+1).toNat).map aB.aQ)=sI ((l.take i.toNat).map aB.aQ)+x.aQ:=by rw [em,aV8];simp [sI]
    · rw [e] at k0
      have eD:lQ l=sI ((l.take (i+1).toNat).map aB.aQ)+sI ((l.drop (i+1).toNat).map aB.aQ):=by
        unfold lQ;rw [<- aV8,<- List.map_append,List.take_append_drop]
      have nn:∀ {m:List Int},(∀ y∈m,0<=y)->0<=sI m:=by
        intro m;induction m with
        | nil=>intro _;simp [sI]
        | cons y m ih=>intro h;have:=ih λz hz=>h z (List.mem_cons_of_mem _ hz);have:=h y (List.mem_cons_self ..);simp only [sI];omega
      have:=nn (m:=(l.drop (i+1).toNat).map aB.aQ) (a4I λy hy=>by have:=hp y (List.mem_of_mem_drop hy);omega)
      split at k0 <;> omega
    · simp only [e] at k0 ⊢
      rw [es]
      split at k0 <;> (rename_i k1;simp only [k1,if_true,if_false];omega)
  · cases r with
    | inl u=>exact aK3 (aEV λh=>by cases h)
    | inr b=>exact ⟨_,rfl,hr⟩
theorem a4K {n:Nat} {a b c:Int} (hn:250<=n) (ha:XE a) (hb:XE b) (hc:XE c):Ex (λr=>(0<=a->0<=r/\r<=a)/\(a<=0->a<=r/\r<=0)) (mX n a b c):=by
  unfold mX aMF;simp only [WT.run,O9]
  refine tF (λy=>y=false->1<=c/\0<=b/\b<=c/\InM a) ?_ λy hy=>aFQ (λ_=>aEV ⟨λh=>⟨Int.le_refl 0,h⟩,λh=>⟨h,Int.le_refl 0⟩⟩) λhy'=>?_
  · refine aL2 (aEY (λ_=>aEV λh=>by cases h) λk1=>aL2 (aEY (λ_=>aEV λh=>by cases h) λk2=>aL2 (aEY (λ_=>aEV λh=>by cases h) λk3=>x_eq (a9H a) (aL2 (aEV λh=>⟨by omega,by omega,by omega,by simpa using h⟩)))))
  · obtain ⟨h1,h2,h3,h4⟩:=hy hy'
    unfold InM at h4
    refine aL2 (aEY (λ_=>aEV ⟨λh=>⟨h,Int.le_refl a⟩,λh=>⟨Int.le_refl a,h⟩⟩) λ_=>aL2 (aEY (λk=>aL2 ?_) λk=>?_))
    · have e:aI (0-a)=- a:=by rw [Int.zero_sub];exact wrap64 (by omega)
      rw [e]
      have hb2:=a6U (a:=-a) (b:=b) (c:=c) (by omega) h2 h3
      refine x_eq (aXB (by omega) (by omega) hb hc) (aL2 (aEV ?_))
      have e2:aI (0-(md (-a) b c).1)=- (md (-a) b c).1:=by rw [Int.zero_sub];exact wrap64 (by omega)
      rw [e2]
      exact ⟨λh=>by omega,λh=>by omega⟩
    · have hb2:=a6U (a:=a) (b:=b) (c:=c) (by omega) h2 h3
      refine x_eq (aXB (by omega) ha hb hc) (aEV ?_)
      exact ⟨λh=>hb2,λh=>by omega⟩
theorem a6T (x:aB) (l:List aB):lQ (x :: l)=x.aQ+lQ l:=rfl
theorem a6I (x:aB) (l:List aB):lV (x :: l)=x.Value+lV l:=rfl
theorem a7X (x:aB) (l:List aB):lP (x :: l)=x.bO+lP l:=rfl
theorem a9A (x:aB) (l:List aB):lA (x :: l)=x.bO.natAbs+lA l:=rfl
theorem aX6:∀ {l:List aB},(∀ x∈l,1<=x.aQ/\0<=x.Value)->0<=lQ l/\0<=lV l
  | [],_=>by simp [lQ,lV,sI]
  | x :: l,h=>by
    have h1:=aX6 (l:=l) λy hy=>h y (List.mem_cons_of_mem _ hy)
    have h2:=h x (List.mem_cons_self ..)
    rw [a6T,a6I];omega
theorem a4U (l:List aB):0<=lA l:=a5Q _
theorem win {l:List aB} {a c:Nat} {x:aB} (hc:0<c) (hx:l[a]?=some x):(l.drop a).take c=x :: (l.drop (a+1)).take (c-1):=by
  obtain ⟨c,rfl⟩:∃ k,c=k+1:=⟨c-1,by omega⟩
  rw [(a6L hx).2];rfl
structure OI (l:List aB) (q:Int) (w:List aB) (acc:aB) (q':Int):Prop where
  ok:∀ x∈w,1<=x.aQ/\0<=x.Value
  q0:0<=q'
  a0:0<=acc.aQ
  q:q'+acc.aQ=q
  v0:0<=acc.Value
  sq:lQ w+acc.aQ=lQ l
  sv:lV w+acc.Value=lV l
  sp:lP w+acc.bO=lP l
  sa:lA w+acc.bO.natAbs<=lA l
theorem bA7 {n:Nat} {l:List aB} {q:Int} (hn:250<=n) (h:LB l) (hq:XE q):Ex (λr=>r.2.2=0->LB r.1/\1<=q/\OI l q r.1 r.2.1 0) (IU n l q):=by
  have h1:=h.len
  unfold XE at hq
  unfold IU aGD;simp only [WT.run,O9]
  refine x_a (aL2 (aEY (λ_=>aEV λh=>absurd h (show ¬ (1:Int)=0 by decide)) λhq1=>tF _ (bCI ⟨by omega,hn⟩ (by omega) h.ok) λb hb=>aL2 (aEW (λ_=>aEV λh=>absurd h (show ¬ (5:Int)=0 by decide)) λhb'=>?_)))
  have hqQ:=hb hb'
  have hnn:=aX6 h.ok
  refine tF (λv=>v.1+v.2.1<=v.2.2.1.length/\v.2.2.1.length<=30/\∃ q',OI l q ((v.2.2.1.drop v.1).take v.2.1) v.2.2.2 q'/\(v.2.1=0\/q'=0)) (aQJ (λv=>v.1+v.2.1<=v.2.2.2.1.length/\v.2.2.2.1.length<=30/\OI l q ((v.2.2.2.1.drop v.1).take v.2.1) v.2.2.2.2 v.2.2.1) (λv=>if v.2.2.1>0 then v.2.1+1 else 0) ?_ ⟨by simp,h1,?_⟩ (by simp only;split <;> omega)) λv hv=>?_
  · rintro ⟨a,c,q',l',acc⟩ ⟨hi,hl',hI⟩
    simp only at hi hl' hI
    simp only [p2]
    refine tF (λy=>(y=true->0<c/\0<q')/\(y=false->c=0\/q'<=0)) ?_ λy hy=>aFQ (λht=>?_) λhf=>aGQ (aEV ⟨hi,hl',q',hI,(hy.2 hf).imp id λk=>by have:=hI.q0;omega⟩)
    · refine aL2 (aEY (λh=>aL2 (aEV ⟨λh'=>⟨by omega,of_decide_eq_true h'⟩,λh'=>.inr (by have:=of_decide_eq_false h';omega)⟩)) λ_=>aEV ⟨(λh=>by cases h),λ_=>.inl (by omega)⟩)
    obtain ⟨hc,hq0⟩:=hy.1 ht
    refine x_a (ON (by omega) (by omega) λx hx=>?_)
    rw [show ((a:Int)+0).toNat=a by omega] at hx
    have hw:=win hc hx
    rw [hw] at hI
    have hx2:=hI.ok x (List.mem_cons_self ..)
    have hok:∀ y∈(l'.drop (a+1)).take (c-1),1<=y.aQ/\0<=y.Value:=λy hy=>hI.ok y (List.mem_cons_of_mem _ hy)
    have hr:=aX6 hok
    have i1:=hI.q;have i2:=hI.sq;have i3:=hI.sv;have i4:=hI.sp;have i5:=hI.sa;have i6:=hI.v0
    rw [a6T] at i2;rw [a6I] at i3;rw [a7X] at i4;rw [a9A] at i5
    have b1:=h.q;have b2:=h.v;have b3:=h.a
    have hra:=a4U ((l'.drop (a+1)).take (c-1))
    have hae:=hI.a0
    refine aL2 (tF (λy=>y.1+y.2.1<=y.2.2.1.length/\y.2.2.1.length<=30/\y.2.2.2.aQ<=q'/\1<=y.2.2.2.aQ/\OI l q ((y.2.2.1.drop y.1).take y.2.1) ⟨acc.aQ+y.2.2.2.aQ,acc.Value+y.2.2.2.Value,acc.bO+y.2.2.2.bO⟩ (q' - y.2.2.2.aQ)/\(y.2.1+1=c\/y.2.1=c/\y.2.2.2.aQ=q')/\0<=y.2.2.2.Value/\y.2.2.2.Value<=288230376151711744/\(y.2.2.2.bO.natAbs:Int)<=x.bO.natAbs) (aEY (λhb=>?_) λhb=>?_) λy hy=>?_)
    · refine tF _ (a4K hn (a:=x.Value) (b:=q') (c:=x.aQ) (by unfold XE;omega) (by unfold XE;omega) (by unfold XE;omega)) λv1 p1=>tF _ (a4K hn (a:=x.bO) (b:=q') (c:=x.aQ) (by unfold XE;omega) (by unfold XE;omega) (by unfold XE;omega)) λv2 p2=>x_a (aL2 (x_a (aL2 (x_a (aL2 (x_a (aL2 (x_a (aL2 (x_a (aL2 (aEV ?_))))))))))))
      have p1':=p1.1 hx2.2
      have p2':(v2.natAbs:Int)+(x.bO-v2).natAbs=x.bO.natAbs:=by
        rcases Int.le_total 0 x.bO with k | k
        · have:=p2.1 k;omega
        · have:=p2.2 k;omega
      have e1:aI (x.aQ-q')=x.aQ-q':=wrap64 (by omega)
      have e2:aI (x.Value-v1)=x.Value-v1:=wrap64 (by omega)
      have e3:aI (x.bO-v2)=x.bO-v2:=wrap64 (by omega)
      have hs:(((l'.set ((a:Int)+0).toNat ⟨x.aQ-q',x.Value,x.bO⟩).set ((a:Int)+0).toNat ⟨x.aQ-q',x.Value-v1,x.bO⟩).set ((a:Int)+0).toNat (⟨x.aQ-q',x.Value-v1,x.bO-v2⟩:aB))=l'.set a ⟨x.aQ-q',x.Value-v1,x.bO-v2⟩:=by
        rw [show ((a:Int)+0).toNat=a by omega,List.set_set,List.set_set]
      simp only [e1,e2,e3,hs]
      have hx3:(l'.set a ⟨x.aQ-q',x.Value-v1,x.bO-v2⟩)[a]?=some (⟨x.aQ-q',x.Value-v1,x.bO-v2⟩:aB):=by
        rw [List.getElem?_set];simp [show a<l'.length by omega]
      have hw3:=win hc hx3
      rw [List.drop_set_of_lt (show a<a+1 by omega)] at hw3
      refine ⟨by simp;exact hi,by simp;exact hl',Int.le_refl _,by omega,?_,.inr (by simp),p1'.1,by omega,by omega⟩
      rw [hw3]
      refine ⟨λy hy=>?_,by omega,by simp only;omega,by simp only;omega,by simp only;omega,by rw [a6T];simp only;omega,by rw [a6I];simp only;omega,by rw [a7X];simp only;omega,by rw [a9A];simp only;omega⟩
      rcases List.mem_cons.1 hy with rfl | hy
      · simp only;omega
      · exact hok y hy
    · refine x_a (aL2 (aEV ⟨?_,hl',by simp only;omega,by simp only;omega,?_,.inl ?_,hx2.2,by simp only;omega,Int.le_refl _⟩))
      · simp only;split <;> omega
      · have hwin:((l'.drop (if (c:Int).toNat=1 then a else a+1)).take ((c:Int).toNat-1))=(l'.drop (a+1)).take (c-1):=by
          rw [show (c:Int).toNat=c by omega]
          split
          · rename_i k;subst k;simp
          · rfl
        simp only [hwin]
        exact ⟨hok,by omega,by simp only;omega,by simp only;omega,by simp only;omega,by simp only;omega,by simp only;omega,by simp only;omega,by simp only;omega⟩
      · simp only;omega
    · obtain ⟨a',c',l2,x2⟩:=y
      obtain ⟨k1,k2,k3,k4,k5,k6,k7,k8,k9⟩:=hy
      simp only at k1 k2 k3 k4 k5 k6 k7 k8 k9
      have j1:=k5.q;have j2:=k5.sq;have j3:=k5.sv;have j4:=k5.sp;have j5:=k5.sa;have j6:=k5.q0;have j9:=k5.a0;have j7:=aX6 k5.ok;have j8:=a4U ((l2.drop a').take c')
      simp only at j1 j2 j3 j4 j5 j6 j9
      have e1:aI (acc.aQ+x2.aQ)=acc.aQ+x2.aQ:=wrap64 (by omega)
      have e2:aI (acc.Value+x2.Value)=acc.Value+x2.Value:=wrap64 (by omega)
      have e3:aI (acc.bO+x2.bO)=acc.bO+x2.bO:=wrap64 (by omega)
      have e4:aI (q' - x2.aQ)=q' - x2.aQ:=wrap64 (by omega)
      refine aL2 (aL2 (aL2 (aL2 (XC ⟨⟨k1,k2,?_⟩,?_⟩))))
      · simp only [e1,e2,e3,e4];exact k5
      · simp only
        rw [if_pos hq0,e4]
        rcases k6 with k6 | ⟨k6,k7⟩
        · split <;> omega
        · rw [k7,if_neg (by rw [Int.sub_self];decide)];omega
  · simp only [List.drop_zero,List.take_length]
    exact ⟨h.ok,by omega,by simp,by simp only;omega,by simp,by simp only;omega,by simp only;omega,by simp only;omega,by simp⟩
  · obtain ⟨a,c,l',acc⟩:=v
    obtain ⟨k1,k2,q',k3,k4⟩:=hv
    simp only [p2] at k1 k2 k3 k4 ⊢
    refine aL4 k1 (aEV λ_=>?_)
    have j2:=k3.sq;have j3:=k3.sv;have j5:=k3.sa;have j7:=aX6 k3.ok;have j8:=k3.v0;have j1:=k3.q;have j0:=k3.q0;have j9:=k3.a0
    have b1:=h.q;have b2:=h.v;have b3:=h.a
    have hq':q'=0:=by
      rcases k4 with k4 | k4
      · subst k4
        rw [List.take_zero] at j2
        have:lQ ([]:List aB)=0:=rfl
        omega
      · exact k4
    subst hq'
    refine ⟨⟨by simp only [List.length_take,List.length_drop];omega,k3.ok,by simp only;omega,by simp only;omega,by simp only;omega⟩,by omega,k3⟩
end Go.Pv
