/- Masters, operations, states by numbers; the document's check. -/
import Derived.Test.YthgpghgfehcegaaGreatTS80
set_option linter.unusedVariables false
set_option linter.unusedSimpArgs false
namespace Go.Pv
open Go.Proofs
set_option maxRecDepth 100000
set_option maxHeartbeats 1000000
theorem aP6 {α:Type} {P:α->Prop} {a b:Option α} (h:Ex P a):Ex P (cond true a b):=h
theorem aP3 {α:Type} {P:α->Prop} {a b:Option α} (h:Ex P b):Ex P (cond false a b):=h
theorem aRG {α:Type} {l:List α} {i:Nat} {x:α} (h:l[i]?=some x):x∈l:=List.mem_of_getElem? h
structure MOk (m:eZ):Prop where
  aS6:1<=m.eH/\m.eH<=4
  per:1<=m.fA/\m.fA<=12
  n1:1<=m.cB.length/\m.cB.length<=5
  wei:∀ x∈m.cB,0<=x/\x<=1073741824
  lm:(m.Methods.length:Int)=m.eH
  lc:(m.dN.length:Int)=m.eH
  met:∀ l∈m.Methods,l.length=m.cB.length/\∀ x∈l,1<=x/\x<=4
  cos:∀ l∈m.dN,l.length=m.cB.length/\∀ x∈l,0<=x/\x<=1073741824
theorem aRU {α:Type} {P:α->Prop} {l:List α} {x:α} (h:∀ r∈l,P r) (hx:P x):∀ r∈l++[x],P r:=by
  intro r hr;rcases List.mem_append.1 hr with hr | hr
  · exact h r hr
  · rw [List.mem_singleton] at hr;subst hr;exact hx
theorem a2J {α:Type} {P:α->Prop} {l:List α} {i:Nat} {x:α} (h:∀ r∈l,P r) (hx:P x):∀ r∈l.set i x,P r:=λr hr=>by
  rcases List.mem_or_eq_of_mem_set hr with hr | rfl
  · exact h r hr
  · exact hx
theorem td {a b:Int} (ha:0<=a) (hb:0<b):0<=a.tdiv b/\a.tdiv b<=a:=by
  rw [Int.tdiv_eq_ediv_of_nonneg ha]
  exact ⟨Int.ediv_nonneg ha (by omega),Int.ediv_le_self b ha⟩
theorem tm {a b:Int} (ha:0<=a) (hb:0<b):0<=a.tmod b/\a.tmod b<b:=by
  rw [Int.tmod_eq_emod_of_nonneg ha]
  exact ⟨Int.emod_nonneg _ (by omega),Int.emod_lt_of_pos _ hb⟩
theorem US {v k:Int} (hk:0<k/\k<=4611686018427387904):Ex (λr=>0<=r/\r<k) (rQ v k):=by
  have h1:=Int.tmod_lt_of_pos v hk.1
  have h2:=Int.lt_tmod_of_pos v hk.1
  unfold rQ VY
  simp only [WT.run,O9]
  refine x_a ?_
  repeat' with_reducible first | refine x_v ?_ | refine aP8 ?_ | apply aL2 | apply aI5 | apply aCE | apply aAR | apply Y4 | apply aOY | apply aIH | apply aKG | apply aMX | apply aDS | refine aEY (λ_=>?_) λ_=>?_ | refine aEW (λ_=>?_) λ_=>?_ | apply aP6 | apply aP3 | apply aK3 | apply aGQ | apply aEV
  all_goals omega
def MN (m:eZ):Prop:=MOk m/\2<=m.eH/\m.eH<=3
theorem a1U {v:Int} {n:Nat} (hn:66<n):Ex MN (KX n v):=by
  unfold KX aAK
  simp only [WT.run,O9]
  refine tF _ (US (by decide)) λk hk=>?_
  have f1:=tm (a:=k) (b:=2) hk.1 (by decide)
  have f2:=td (a:=k) (b:=2) hk.1 (by decide)
  have f3:=tm (a:=k.tdiv 2) (b:=3) f2.1 (by decide)
  have f4:=td (a:=k) (b:=6) hk.1 (by decide)
  have f5:=tm (a:=k.tdiv 6) (b:=4) f4.1 (by decide)
  refine aL2 (x_v (x_v (aL2 (x_v (x_v (aL2 (x_v ?_)))))))
  have hc:2<=2+(k.tdiv 2).tmod 3/\2+(k.tdiv 2).tmod 3<=4:=by omega
  have he:2<=2+k.tmod 2/\2+k.tmod 2<=3:=by omega
  generalize 2+(k.tdiv 2).tmod 3=c at hc ⊢
  generalize 2+k.tmod 2=es at he ⊢
  refine tF (λ(w:List Int)=>(w.length:Int)=c/\∀ x∈w,0<=x/\x<=1073741824) (aQJ (λ(v:Int×List Int)=>0<=v.1/\v.1<=c/\(v.2.length:Int)=v.1/\∀ x∈v.2,0<=x/\x<=1073741824) (λv=>c.toNat-v.1.toNat) ?_ (v:=(0,[])) ⟨by simp,by simp only;omega,rfl,λ_ h=>nomatch h⟩ (by simp only;omega)) λw hw=>?_
  · rintro ⟨i,l⟩ ⟨h0,h1,hl,hb⟩
    simp only at h0 h1 hl hb
    have f1:=td (a:=k) (b:=24) hk.1 (by decide)
    have f2:=tm (a:=k.tdiv 24) (b:=7) f1.1 (by decide)
    refine aI5 (aL2 (aEY (λh=>?_) λh=>aGQ (aEV ⟨by first | omega | (simp only;omega),hb⟩)))
    have h:i<c:=h
    exact x_v (aL2 (x_v (aL2 (x_a (x_v (XC ⟨⟨by first | omega | (simp only;omega),by first | omega | (simp only;omega),by simp;omega,aRU hb (by first | omega | (simp only;omega))⟩,by first | omega | (simp only;omega)⟩))))))
  refine tF (λ(q:List (List Int)×List (List Int))=>((q.1.length:Int)=es/\∀ x∈q.1,(x.length:Int)=c/\∀ y∈x,1<=y/\y<=4)/\(q.2.length:Int)=es/\∀ x∈q.2,(x.length:Int)=c/\∀ y∈x,0<=y/\y<=1073741824)
    (aQJ (λ(v:Int×List (List Int)×List (List Int))=>0<=v.1/\v.1<=es/\((v.2.1.length:Int)=v.1/\∀ x∈v.2.1,(x.length:Int)=c/\∀ y∈x,1<=y/\y<=4)/\(v.2.2.length:Int)=v.1/\∀ x∈v.2.2,(x.length:Int)=c/\∀ y∈x,0<=y/\y<=1073741824) (λv=>es.toNat-v.1.toNat) ?_ (v:=(0,[],[])) ⟨by simp,by simp only;omega,⟨rfl,λ_ h=>nomatch h⟩,rfl,λ_ h=>nomatch h⟩ (by simp only;omega)) λq hq=>aI5 (aEV ?_)
  · rintro ⟨e,l,r⟩ ⟨h0,h1,⟨hl,hb⟩,hr,hd⟩
    simp only at h0 h1 hl hb hr hd
    refine aI5 (aI5 (aL2 (aEY (λh=>?_) λh=>aGQ (aEV ⟨⟨by first | omega | (simp only;omega),hb⟩,by first | omega | (simp only;omega),hd⟩))))
    have h:e<es:=h
    refine tF (λ(q:List (List Int)×List (List Int))=>((q.1.length:Int)=e+1/\∀ x∈q.1,(x.length:Int)=c/\∀ y∈x,1<=y/\y<=4)/\(q.2.length:Int)=e+1/\∀ x∈q.2,(x.length:Int)=c/\∀ y∈x,0<=y/\y<=1073741824) ?_ λq hq=>aI5 (x_v (XC ⟨⟨by first | omega | (simp only;omega),by first | omega | (simp only;omega),hq⟩,by first | omega | (simp only;omega)⟩))
    refine tF (λ(q:List Int×List Int)=>((q.1.length:Int)=c/\∀ x∈q.1,1<=x/\x<=4)/\(q.2.length:Int)=c/\∀ x∈q.2,0<=x/\x<=1073741824)
      (aQJ (λ(v:Int×List Int×List Int)=>0<=v.1/\v.1<=c/\((v.2.1.length:Int)=v.1/\∀ x∈v.2.1,1<=x/\x<=4)/\(v.2.2.length:Int)=v.1/\∀ x∈v.2.2,0<=x/\x<=1073741824) (λv=>c.toNat-v.1.toNat) ?_ (v:=(0,[],[])) ⟨by simp,by simp only;omega,⟨rfl,λ_ h=>nomatch h⟩,rfl,λ_ h=>nomatch h⟩ (by simp only;omega)) λq hq=>aI5 (aL2 (x_a (aL2 (x_a (aEV ⟨⟨by simp;omega,aRU hb hq.1⟩,by simp;omega,aRU hd hq.2⟩)))))
    rintro ⟨i,a,b⟩ ⟨g0,g1,⟨ga,gb⟩,gc,gd⟩
    simp only at g0 g1 ga gb gc gd
    refine aI5 (aI5 (aL2 (aEY (λh=>?_) λh=>aGQ (aEV ⟨⟨by first | omega | (simp only;omega),gb⟩,by first | omega | (simp only;omega),gd⟩))))
    have h:i<c:=h
    have f1:=td (a:=k) (b:=168) hk.1 (by decide)
    have f2:=td (a:=k) (b:=672) hk.1 (by decide)
    have f3:=tm (a:=k.tdiv 672) (b:=4) f2.1 (by decide)
    have f4:0<=e*(k.tdiv 672).tmod 4/\e*(k.tdiv 672).tmod 4<=16:=by
      refine ⟨Int.mul_nonneg h0 f3.1,?_⟩
      have:e*(k.tdiv 672).tmod 4<=4*4:=Int.mul_le_mul (by omega) (by omega) f3.1 (by omega)
      omega
    have f5:=tm (a:=k.tdiv 168+i+e*(k.tdiv 672).tmod 4) (b:=4) (by omega) (by decide)
    have f6:=td (a:=k) (b:=2688) hk.1 (by decide)
    have f7:=tm (a:=k.tdiv 2688+7*i+e) (b:=40) (by omega) (by decide)
    exact x_v (x_v (x_v (aL2 (x_v (x_v (aL2 (x_v (aL2 (x_a (x_v (x_v (x_v (x_v (aL2 (aL2 (x_a (x_v (XC ⟨⟨by first | omega | (simp only;omega),by first | omega | (simp only;omega),⟨by simp;omega,aRU gb (by first | omega | (simp only;omega))⟩,by simp;omega,aRU gd (by first | omega | (simp only;omega))⟩,by first | omega | (simp only;omega)⟩))))))))))))))))))
  obtain ⟨⟨h1,h2⟩,h3,h4⟩:=hq
  exact ⟨⟨by simp only;omega,by simp only;omega,by simp only;omega,hw.2,h1,h3,λl hl=>⟨by have:=(h2 l hl).1;simp only;omega,(h2 l hl).2⟩,λl hl=>⟨by have:=(h4 l hl).1;simp only;omega,(h4 l hl).2⟩⟩,by simp only;omega,by simp only;omega⟩
theorem aT4 {l:List Int} {k lo hi:Int} {n:Nat} (hn:66<n) (hk:(l.length:Int)=k) (h60:l.length<=60) (hb:∀ x∈l,lo<=x/\x<=hi):zS n l k lo hi=some true:=by
  refine aQX ?_
  unfold zS aLS
  simp only [WT.run,O9]
  refine aL2 (aEY (λh=>absurd hk h) λ_=>?_)
  refine tF (λ(r:Unit⊕Bool)=>r=.inl ()) (aQJ (λ(i:Int)=>0<=i/\i<=(l.length:Int)) (λ(i:Int)=>l.length-i.toNat) ?_ (v:=0) ⟨by simp,by simp⟩ (by simp;omega)) λr hr=>by subst hr;exact aK3 (aEV rfl)
  rintro i ⟨h0,h1⟩
  refine aL2 (aEY (λh=>?_) λh=>aGQ (XC rfl))
  have hx:l[i.toNat]?=some (l[i.toNat]'(by omega)):=List.getElem?_eq_getElem (by omega)
  generalize l[i.toNat]'(by omega)=x at hx
  have hxb:=hb x (aRG hx)
  refine tF (λb=>b=false) (aQZ h0 hx (aL2 (aEY (λh=>absurd h (by omega)) λ_=>aQZ h0 hx (aL2 (aEV (decide_eq_false (by omega))))))) λb hb2=>?_
  subst hb2
  exact aP3 (x_v (XC ⟨⟨by omega,by omega⟩,by omega⟩))
theorem aXY {m:eZ} {n:Nat} (hn:66<n) (h:MOk m):TE n m=some true:=by
  have h1:=h.aS6;have h2:=h.per;have h3:=h.n1;have h4:=h.lm;have h5:=h.lc
  refine aQX ?_
  unfold TE aOG
  simp only [WT.run,O9]
  refine tF (λb=>b=false) ?_ λb hb=>?_
  · refine aL2 (aEY (λh=>absurd h (by omega)) λ_=>?_)
    refine aL2 (aEY (λh=>absurd h (by omega)) λ_=>?_)
    refine aL2 (aEY (λh=>absurd h (by omega)) λ_=>?_)
    refine aL2 (aEY (λh=>absurd h (by omega)) λ_=>?_)
    refine aL2 (aEY (λh=>absurd h (by omega)) λ_=>?_)
    refine aL2 (aEY (λh=>absurd h (by omega)) λ_=>?_)
    refine x_eq (aT4 hn rfl (by omega) h.wei) (aL2 (aEW (λk=>nomatch k) λ_=>?_))
    refine aL2 (aEY (λh=>absurd h (by omega)) λ_=>?_)
    exact aL2 (aEV (decide_eq_false (by omega)))
  · subst hb
    refine aP3 (tF (λ(r:Unit⊕Bool)=>r=.inl ()) (aQJ (λ(i:Int)=>0<=i/\i<=m.eH) (λ(i:Int)=>m.eH.toNat-i.toNat) ?_ (v:=0) ⟨by simp,by omega⟩ (by simp;omega)) λr hr=>by subst hr;exact aK3 (aEV rfl))
    rintro i ⟨a0,a1⟩
    refine aL2 (aEY (λk=>?_) λk=>aGQ (XC rfl))
    refine tF (λb=>b=false) (u7 a0 (by omega) λl hl=>?_) λb hb2=>?_
    · have g:=h.met l (aRG hl)
      refine x_eq (aT4 hn (by omega) (by omega) g.2) (aL2 (aEW (λk=>nomatch k) λ_=>u7 a0 (by omega) λr hr=>?_))
      have g2:=h.cos r (aRG hr)
      exact x_eq (aT4 hn (by omega) (by omega) g2.2) (aL2 (aEV rfl))
    · subst hb2
      exact aP3 (x_v (XC ⟨⟨by omega,by omega⟩,by omega⟩))
theorem aWP {α:Type} {n:Nat} {a x:α} (h:x∈List.replicate n a):x=a:=List.eq_of_mem_replicate h
theorem aWF {m:eZ}:∀ (k:Nat) {n:Nat} {i:Int} {l:List Int},i+k=(m.cB.length:Int)->k<n->0<=i->l.length=m.cB.length->m.cB.length<=5->(∀ y∈l,-1<=y/\y<=288230376151711744)->Ex (λr=>r.length=m.cB.length/\∀ y∈r,-1<=y/\y<=288230376151711744) (xD m n i l)
  | _,0,_,_,_,hn,_,_,_,_=>absurd hn (Nat.not_lt_zero _)
  | 0,n+1,i,l,hi,_,h0,hl,h5,hb=>by
    unfold xD
    exact aL2 (aEY (λk=>absurd k (by omega)) λ_=>aEV ⟨hl,hb⟩)
  | k+1,n+1,i,l,hi,hn,h0,hl,h5,hb=>by
    unfold xD
    refine aL2 (aEY (λ_=>u7 h0 (by omega) λ_ _=>aL2 (x_v ?_)) λh=>absurd (show i<(m.cB.length:Int) by omega) h)
    exact aWF k (i:=i+1) (by omega) (by omega) (by omega) (by rw [List.length_set];exact hl) h5 (a2J hb (by omega))
theorem aW8 {m:eZ} (h:MOk m):∀ (k:Nat) {n:Nat} {i:Int} {l:List aP},i+k=m.eH->k+7<n->0<=i->(l.length:Int)=i->(∀ x∈l,EQ' x)->Ex (λr=>(r.length:Int)=m.eH/\∀ x∈r,EQ' x) (yQ m n i l)
  | _,0,_,_,_,hn,_,_,_=>absurd hn (Nat.not_lt_zero _)
  | 0,n+1,i,l,hi,_,h0,hl,hb=>by
    unfold yQ
    exact aL2 (aEY (λk=>absurd k (by omega)) λ_=>aEV ⟨by omega,hb⟩)
  | k+1,n+1,i,l,hi,hn,h0,hl,hb=>by
    have h3:=h.n1;have h4:=h.aS6
    unfold yQ
    refine aL2 (aEY (λ_=>?_) λh=>absurd (show i<m.eH by omega) h)
    refine tF (λ(r:List aP)=>(r.length:Int)=i+1/\∀ x∈r,EQ' x) ?_ λr hr=>x_v (aW8 h k (i:=i+1) (by omega) (by omega) (by omega) hr.1 hr.2)
    refine x_v (x_a (aL2 (aL4 (by decide) (aL2 (x_a (aL2 (x_a (aL2 (x_a (aL2 ?_))))))))))
    refine tF _ (aWF (m:=m) m.cB.length (i:=0) (by omega) (by omega) (by omega) (by simp) (by omega) (λy hy=>by rw [aWP hy];decide)) λP hP=>aL2 (x_a (aEV ⟨by simp;omega,aRU hb ⟨by simp;omega,λp hp=>by rw [aWP hp];exact ⟨LQ0,aP0,aP0,aP0⟩,by simp,by simp;omega,by simp only;omega,by simp;omega,rfl⟩⟩))
theorem a3C {m:eZ} {n:Nat} (hn:66<n) (h:MOk m):Ex (λr=>SQ r.1/\r.1.Done=0) (IK n m):=by
  have h3:=h.n1;have h4:=h.aS6;have h5:=h.lm;have h6:=h.lc
  unfold IK
  rw [aXY hn h]
  refine x_eq rfl (aL2 (aEW (λk=>nomatch k) λ_=>?_))
  refine tF _ (aW8 h m.eH.toNat (i:=0) (by omega) (by omega) (by omega) rfl (λ_ h=>nomatch h)) λl hl=>aEV ⟨⟨by simp only;omega,hl.2,by simp only;omega,by simp only;omega,λx hx=>by have:=(h.met x hx).1;omega,by simp only;omega,λx hx=>⟨by have:=(h.cos x hx).1;omega,λc hc=>by have:=(h.cos x hx).2 c hc;unfold R64;omega⟩,by simp,(λ_ h=>nomatch h),by simp,(λ_ h=>nomatch h),by simp,(λ_ h=>nomatch h)⟩,rfl⟩
def aSI (o x:aS) (c:Int):aS :=
  if c=101 then ⟨x.Kind,o.E,x.Item,x.Loc,x.To,x.aQ,x.bD,x.Ref,x.bT⟩ else if c=105 then ⟨x.Kind,x.E,o.Item,x.Loc,x.To,x.aQ,x.bD,x.Ref,x.bT⟩ else if c=108 then ⟨x.Kind,x.E,x.Item,o.Loc,x.To,x.aQ,x.bD,x.Ref,x.bT⟩
  else if c=116 then ⟨x.Kind,x.E,x.Item,x.Loc,o.To,x.aQ,x.bD,x.Ref,x.bT⟩ else if c=113 then ⟨x.Kind,x.E,x.Item,x.Loc,x.To,o.aQ,x.bD,x.Ref,x.bT⟩ else if c=97 then ⟨x.Kind,x.E,x.Item,x.Loc,x.To,x.aQ,o.bD,x.Ref,x.bT⟩
  else if c=114 then ⟨x.Kind,x.E,x.Item,x.Loc,x.To,x.aQ,x.bD,o.Ref,x.bT⟩ else ⟨x.Kind,x.E,x.Item,x.Loc,x.To,x.aQ,x.bD,x.Ref,o.bT⟩
def ok5 (n:Nat) (o:aS) (c:Int):Prop :=
  if c=101 then 0<=o.E/\o.E<4 else if c=105 then 0<=o.Item/\o.Item<5 else if c=108 then 0<=o.Loc/\o.Loc<2 else if c=116 then LX o=some true else if c=113 then o.aQ<=1073741824/\(1<=o.aQ\/(o.aQ=0/\o.Kind=7))
  else if c=97 then 0<=o.bD/\o.bD<=1073741824 else if c=114 then 0<=o.Ref/\o.Ref<40 else PY n o.bT=some true
theorem pt5 {n:Nat} {o x:aS} {c:Int} (h:ok5 n o c):TL n o x c=some (aSI o x c,true):=by
  refine aQX ?_
  unfold TL aG4 aSI
  unfold ok5 at h
  simp only [WT.run,O9]
  have two:∀ {p q:Prop} [Decidable p] [Decidable q],p/\q->Ex (λb=>b=true) (bnd (decide p) λx=>bif x then bnd (decide q) λx=>some x else some false):=λ{p q} _ _ h=>aL2 (aEY (λ_=>aL2 (aEV (decide_eq_true h.2))) λk=>absurd h.1 k)
  refine aL2 (aEY (λk=>?_) λk1=>?_)
  · rw [if_pos k] at h ⊢;exact tF _ (two h) λb hb=>aEV (by rw [hb])
  rw [if_neg k1] at h ⊢
  refine aL2 (aEY (λk=>?_) λk1=>?_)
  · rw [if_pos k] at h ⊢;exact tF _ (two h) λb hb=>aEV (by rw [hb])
  rw [if_neg k1] at h ⊢
  refine aL2 (aEY (λk=>?_) λk1=>?_)
  · rw [if_pos k] at h ⊢;exact tF _ (two h) λb hb=>aEV (by rw [hb])
  rw [if_neg k1] at h ⊢
  refine aL2 (aEY (λk=>?_) λk1=>?_)
  · rw [if_pos k] at h ⊢;exact x_eq h (aEV rfl)
  rw [if_neg k1] at h ⊢
  refine aL2 (aEY (λk=>?_) λk1=>?_)
  · rw [if_pos k] at h ⊢
    refine tF (λb=>b=true) (aL2 (aEY (λ_=>aL2 (aEY (λ_=>aEV rfl) λk=>aL2 (aEY (λ_=>aL2 (aEV (decide_eq_true (by omega)))) λ_=>absurd h (by omega)))) λk=>absurd h.1 k)) λb hb=>aEV (by rw [hb])
  rw [if_neg k1] at h ⊢
  refine aL2 (aEY (λk=>?_) λk1=>?_)
  · rw [if_pos k] at h ⊢
    refine tF (λb=>b=true) (aL2 (aEY (λ_=>aL2 (aEY (λ_=>aL2 (aEY (λ_=>aEV rfl) λk=>absurd h (by omega))) λk=>absurd h (by omega))) λk=>absurd h.1 k)) λb hb=>aEV (by rw [hb])
  rw [if_neg k1] at h ⊢
  refine aL2 (aEY (λk=>?_) λk1=>?_)
  · rw [if_pos k] at h ⊢;exact tF _ (two h) λb hb=>aEV (by rw [hb])
  rw [if_neg k1] at h ⊢
  exact x_eq h (aEV rfl)
theorem aQ2 {α J:Type} {l:List α} {n:Nat} (hl:l.length<=60) (hn:66<n) {f:Int->Option (Int⊕(Unit⊕J))} (h1:∀ i x,0<=i->i<(l.length:Int)->l[i.toNat]?=some x->f i=some (.inl (i+1))) (h2:∀ i,¬ i<(l.length:Int)->f i=some (.inr (.inl ()))):iter f n 0=some (.inl ()):=by
  refine aQX (aQJ (λi=>0<=i/\i<=(l.length:Int)) (λi=>l.length-i.toNat) ?_ (v:=(0:Int)) (by simp) (by simp;omega))
  rintro i ⟨h0,h3⟩
  by_cases k:i<(l.length:Int)
  · have hx:=List.getElem?_eq_getElem (l:=l) (i:=i.toNat) (by omega)
    exact ⟨_,h1 i _ h0 k hx,⟨by omega,by omega⟩,by omega⟩
  · exact ⟨_,h2 i k,rfl⟩
theorem aR7 {l:List Int} {n:Nat} (hl:l.length<=60) (hn:66<n):UI n l l=some true:=by
  unfold UI aMY
  simp only [WT.run,O9]
  refine v_F (by simp) (aPZ (aP1 (aQ2 hl hn (λi x h0 h hx=>?_) λi h=>?_) rfl))
  · exact v_T h (aP7 (aQI h0 hx (aQI h0 hx (v_F (by simp) (aPZ (YD (by omega) rfl))))))
  · exact v_F h (aPZ rfl)
theorem aZC {n:Nat} {o:aS} (hn:66<n) (hr:o.bT.length<20):SH n o o=some true:=by
  unfold SH aN4
  simp only [WT.run,O9]
  exact aP1 (a:=true) (v_T (by first | trivial | rfl) (aP7 (v_T (by first | trivial | rfl) (aP7 (v_T (by first | trivial | rfl) (aP7 (v_T (by first | trivial | rfl) (aP7 (v_T (by first | trivial | rfl) (aP7 (v_T (by first | trivial | rfl) (aP7 (v_T (by first | trivial | rfl) (aP7 (v_T (by first | trivial | rfl) (aP7 (aP1 (aR7 (by omega) hn) rfl))))))))))))))))) rfl
theorem c5 {n:Nat} {o:aS} {h:List UInt8} {L:List Int} (hn:66<n) (h1:UZ o.Kind=some h) (h2:h.map (λc=>(c.toNat:Int))=L) (h3:∀ c∈L,ok5 n o c) (h4:L.foldl (aSI o) ⟨o.Kind,0,0,0,0,0,0,0,[]⟩=o) (h5:h≠[]) (h6:h.length<=10) (h7:o.bT.length<20):H9 n o=some true:=by
  refine aQX ?_
  unfold H9 aGU
  simp only [WT.run,O9]
  refine x_eq h1 ?_
  refine tF (λr=>match r with | .inl x=>x=o | .inr _=>False) (aQB (m:=h.length) (λv=>v.1) (λv=>v.2=(L.take v.1.toNat).foldl (aSI o) ⟨o.Kind,0,0,0,0,0,0,0,[]⟩) ⟨by simp,by simp,rfl⟩ (by omega) λv a1 a2 a3=>?_) λr hr=>?_
  · obtain ⟨i,x⟩:=v
    simp only at a1 a2 a3
    simp only [p2]
    refine aL2 (aEY (λhk=>u7 a1 hk λc hc=>?_) λhk=>aGQ (XC ?_))
    · have hL:L[i.toNat]?=some (c.toNat:Int):=by rw [<- h2,List.getElem?_map,hc];rfl
      refine x_eq (pt5 (h3 _ (List.mem_of_getElem? hL))) (aL2 (aL2 (aEW (λh=>nomatch h) λ_=>x_v (XC ⟨hk,rfl,?_⟩))))
      simp only
      rw [show (i+1).toNat=i.toNat+1 by omega,List.take_add_one,hL,List.foldl_append,<- a3];rfl
    · rw [a3,List.take_of_length_le (by rw [<- h2];simp;omega)];exact h4
  · cases r with
    | inr _=>exact absurd hr id
    | inl x =>
      have hr:x=o:=hr
      subst hr
      refine aK3 (tF (λb=>b=true) (aL2 (aEY (λ_=>x_eq (aZC hn h7) (aEV rfl)) λk=>absurd h5 k)) λb hb=>aEV hb)
def ON (o:aS):Prop:=OQ o/\∀ n,66<n->H9 n o=some true
theorem aQN {o:aS} (h:List UInt8) (L:List Int) (h1:UZ o.Kind=some h) (h2:h.map (λc=>(c.toNat:Int))=L) (h4:L.foldl (aSI o) ⟨o.Kind,0,0,0,0,0,0,0,[]⟩=o) (h5:h≠[]) (h6:h.length<=10) (hq:(-9223372036854775808<=o.aQ/\o.aQ<=9223372036854775807)/\-9223372036854775808<=o.bD/\o.bD<=9223372036854775807) (h7:o.bT.length<20) (h3:∀ n,66<n->∀ c∈L,ok5 n o c):ON o:=⟨⟨hq,h7⟩,λn hn=>c5 hn h1 h2 (h3 n hn) h4 h5 h6 h7⟩
theorem rf5 {n:Nat} {l:List Int} (hn:66<n) (hl:1<=l.length/\l.length<=20) (hb:∀ x∈l,0<=x/\x<40) (hd:∀ (i j:Nat) (x:Int),i<j->l[i]?=some x->l[j]?≠some x):PY n l=some true:=by
  refine aQX ?_
  unfold PY aC0
  simp only [WT.run,O9]
  refine tF (λr=>r=.inl ()) (aQB (m:=l.length) (λv=>v) (λ_=>True) ⟨by simp,by simp,trivial⟩ (by omega) λi a1 a2 _=>?_) λr hr=>?_
  · refine aL2 (aEY (λhk=>?_) λhk=>aGQ (XC rfl))
    refine tF (λr=>r=.inl ()) ?_ λr hr=>by subst hr;exact aK3 (x_v (XC ⟨hk,rfl,trivial⟩))
    refine tF (λb=>b=false) (u7 a1 hk λx hx=>aL2 (aEY (λk=>by have:=hb x (aRG hx);omega) λ_=>aQZ a1 hx (aL2 (aEV (decide_eq_false (by have:=hb x (aRG hx);omega)))))) λb hb'=>by
      subst hb'
      refine aP3 (tF (λr=>r=.inl ()) (aQB (m:=i.toNat) (λv=>v) (λ_=>True) ⟨by simp,by omega,trivial⟩ (by omega) λj b1 b2 _=>?_) λr hr=>by subst hr;exact aK3 (XC rfl))
      refine aL2 (aEY (λhj=>u7 b1 (by omega) λx hx=>u7 a1 hk λy hy=>aL2 (aEY (λk=>?_) λ_=>x_v (XC ⟨by omega,rfl,trivial⟩))) λhj=>aGQ (XC rfl))
      subst k
      exact absurd hy (hd j.toNat i.toNat x (by omega) hx)
  · subst hr
    refine aK3 (tF (λb=>b=true) (aL2 (aEY (λ_=>aL2 (aEV (decide_eq_true (by omega)))) λk=>absurd (show (l.length:Int)>=1 by omega) k)) λb hb=>aEV hb)
theorem to8 {e i l t q a r:Int} {f:List Int} (h:0<=t/\t<2/\t≠l):LX ⟨8,e,i,l,t,q,a,r,f⟩=some true:=by
  refine aQX ?_
  unfold LX aBE
  simp only [WT.run,O9]
  exact aL2 (aP6 (tF (λb=>b=true) (aL2 (aEY (λ_=>aL2 (aEY (λ_=>aL2 (aEV (decide_eq_true h.2.2))) λk=>absurd h.2.1 k)) λk=>absurd h.1 k)) λb hb=>aEV hb))
theorem a1P {e i l t q a r:Int} {f:List Int} (h:0<=t/\t<4/\t≠e):LX ⟨12,e,i,l,t,q,a,r,f⟩=some true:=by
  refine aQX ?_
  unfold LX aBE
  simp only [WT.run,O9]
  exact aL2 (aP3 (aL2 (aP6 (tF (λb=>b=true) (aL2 (aEY (λ_=>aL2 (aEY (λ_=>aL2 (aEV (decide_eq_true h.2.2))) λk=>absurd h.2.1 k)) λk=>absurd h.1 k)) λb hb=>aEV hb))))
theorem aXT {e i l t q a r:Int} {f:List Int} (h:0<=t/\t<=2):LX ⟨11,e,i,l,t,q,a,r,f⟩=some true:=by
  refine aQX ?_
  unfold LX aBE
  simp only [WT.run,O9]
  exact aL2 (aP3 (aL2 (aP3 (tF (λb=>b=true) (aL2 (aEY (λ_=>aL2 (aEV (decide_eq_true h.2))) λk=>absurd h.1 k)) λb hb=>aEV hb))))
theorem a2S {e i l q a:Int} (he:0<=e/\e<4) (hi:0<=i/\i<5) (hl:0<=l/\l<2) (hq:1<=q/\q<=1000) (ha:0<=a/\a<1000):ON ⟨1,e,i,l,0,q,a,0,[]⟩:=by
  refine aQN [101,105,108,113,97] [101,105,108,113,97] rfl rfl rfl (by simp) (by simp) ⟨by simp only;omega,by simp only;omega⟩ (by simp) λn hn c hc=>?_
  simp only [List.mem_cons,List.not_mem_nil,or_false] at hc
  rcases hc with rfl | rfl | rfl | rfl | rfl
  · exact he
  · exact hi
  · exact hl
  · exact ⟨by simp only;omega,.inl hq.1⟩
  · exact ⟨ha.1,by simp only;omega⟩
theorem aY0 {q a r:Int} (hq:1<=q/\q<=1000) (ha:0<=a/\a<1000) (hr:0<=r/\r<40):ON ⟨2,0,0,0,0,q,a,r,[]⟩:=by
  refine aQN [113,97,114] [113,97,114] rfl rfl rfl (by simp) (by simp) ⟨by simp only;omega,by simp only;omega⟩ (by simp) λn hn c hc=>?_
  simp only [List.mem_cons,List.not_mem_nil,or_false] at hc
  rcases hc with rfl | rfl | rfl
  · exact ⟨by simp only;omega,.inl hq.1⟩
  · exact ⟨ha.1,by simp only;omega⟩
  · exact hr
theorem aX1 {q r:Int} (hq:1<=q/\q<=1000) (hr:0<=r/\r<40):ON ⟨3,0,0,0,0,q,0,r,[]⟩:=by
  refine aQN [113,114] [113,114] rfl rfl rfl (by simp) (by simp) ⟨by simp only;omega,by simp only;omega⟩ (by simp) λn hn c hc=>?_
  simp only [List.mem_cons,List.not_mem_nil,or_false] at hc
  rcases hc with rfl | rfl
  · exact ⟨by simp only;omega,.inl hq.1⟩
  · exact hr
theorem a0R {e i l q a:Int} (he:0<=e/\e<4) (hi:0<=i/\i<5) (hl:0<=l/\l<2) (hq:1<=q/\q<=1000) (ha:0<=a/\a<1000):ON ⟨4,e,i,l,0,q,a,0,[]⟩:=by
  refine aQN [101,105,108,113,97] [101,105,108,113,97] rfl rfl rfl (by simp) (by simp) ⟨by simp only;omega,by simp only;omega⟩ (by simp) λn hn c hc=>?_
  simp only [List.mem_cons,List.not_mem_nil,or_false] at hc
  rcases hc with rfl | rfl | rfl | rfl | rfl
  · exact he
  · exact hi
  · exact hl
  · exact ⟨by simp only;omega,.inl hq.1⟩
  · exact ⟨ha.1,by simp only;omega⟩
theorem a3G {q a r:Int} (hq:1<=q/\q<=1000) (ha:0<=a/\a<1000) (hr:0<=r/\r<40):ON ⟨5,0,0,0,0,q,a,r,[]⟩:=by
  refine aQN [113,97,114] [113,97,114] rfl rfl rfl (by simp) (by simp) ⟨by simp only;omega,by simp only;omega⟩ (by simp) λn hn c hc=>?_
  simp only [List.mem_cons,List.not_mem_nil,or_false] at hc
  rcases hc with rfl | rfl | rfl
  · exact ⟨by simp only;omega,.inl hq.1⟩
  · exact ⟨ha.1,by simp only;omega⟩
  · exact hr
theorem a1Z {e i l q:Int} (he:0<=e/\e<4) (hi:0<=i/\i<5) (hl:0<=l/\l<2) (hq:1<=q/\q<=1000):ON ⟨6,e,i,l,0,q,0,0,[]⟩:=by
  refine aQN [101,105,108,113] [101,105,108,113] rfl rfl rfl (by simp) (by simp) ⟨by simp only;omega,by simp only;omega⟩ (by simp) λn hn c hc=>?_
  simp only [List.mem_cons,List.not_mem_nil,or_false] at hc
  rcases hc with rfl | rfl | rfl | rfl
  · exact he
  · exact hi
  · exact hl
  · exact ⟨by simp only;omega,.inl hq.1⟩
theorem a0Z {e i l q:Int} (he:0<=e/\e<4) (hi:0<=i/\i<5) (hl:0<=l/\l<2) (hq:0<=q/\q<=1000):ON ⟨7,e,i,l,0,q,0,0,[]⟩:=by
  refine aQN [101,105,108,113] [101,105,108,113] rfl rfl rfl (by simp) (by simp) ⟨by simp only;omega,by simp only;omega⟩ (by simp) λn hn c hc=>?_
  simp only [List.mem_cons,List.not_mem_nil,or_false] at hc
  rcases hc with rfl | rfl | rfl | rfl
  · exact he
  · exact hi
  · exact hl
  · refine ⟨by simp only;omega,?_⟩
    rcases Int.lt_or_le q 0 with h | h
    · omega
    rcases Int.lt_or_le 0 q with h2 | h2
    · exact .inl h2
    · exact .inr ⟨by simp only;omega,rfl⟩
theorem aZJ {e i l t q:Int} (he:0<=e/\e<4) (hi:0<=i/\i<5) (hl:0<=l/\l<2) (ht:0<=t/\t<2/\t≠l) (hq:1<=q/\q<=1000):ON ⟨8,e,i,l,t,q,0,0,[]⟩:=by
  refine aQN [101,105,108,116,113] [101,105,108,116,113] rfl rfl rfl (by simp) (by simp) ⟨by simp only;omega,by simp only;omega⟩ (by simp) λn hn c hc=>?_
  simp only [List.mem_cons,List.not_mem_nil,or_false] at hc
  rcases hc with rfl | rfl | rfl | rfl | rfl
  · exact he
  · exact hi
  · exact hl
  · exact to8 ht
  · exact ⟨by simp only;omega,.inl hq.1⟩
theorem aXW {e i a:Int} (he:0<=e/\e<4) (hi:0<=i/\i<5) (ha:0<=a/\a<1000):ON ⟨9,e,i,0,0,0,a,0,[]⟩:=by
  refine aQN [101,105,97] [101,105,97] rfl rfl rfl (by simp) (by simp) ⟨by simp only;omega,by simp only;omega⟩ (by simp) λn hn c hc=>?_
  simp only [List.mem_cons,List.not_mem_nil,or_false] at hc
  rcases hc with rfl | rfl | rfl
  · exact he
  · exact hi
  · exact ⟨ha.1,by simp only;omega⟩
theorem aYK {e i a:Int} (he:0<=e/\e<4) (hi:0<=i/\i<5) (ha:0<=a/\a<1000):ON ⟨10,e,i,0,0,0,a,0,[]⟩:=by
  refine aQN [101,105,97] [101,105,97] rfl rfl rfl (by simp) (by simp) ⟨by simp only;omega,by simp only;omega⟩ (by simp) λn hn c hc=>?_
  simp only [List.mem_cons,List.not_mem_nil,or_false] at hc
  rcases hc with rfl | rfl | rfl
  · exact he
  · exact hi
  · exact ⟨ha.1,by simp only;omega⟩
theorem aZW {e i l t q a:Int} (he:0<=e/\e<4) (hi:0<=i/\i<5) (hl:0<=l/\l<2) (ht:0<=t/\t<4/\t≠e) (hq:1<=q/\q<=1000) (ha:0<=a/\a<1000):ON ⟨12,e,i,l,t,q,a,0,[]⟩:=by
  refine aQN [101,105,108,116,113,97] [101,105,108,116,113,97] rfl rfl rfl (by simp) (by simp) ⟨by simp only;omega,by simp only;omega⟩ (by simp) λn hn c hc=>?_
  simp only [List.mem_cons,List.not_mem_nil,or_false] at hc
  rcases hc with rfl | rfl | rfl | rfl | rfl | rfl
  · exact he
  · exact hi
  · exact hl
  · exact a1P ht
  · exact ⟨by simp only;omega,.inl hq.1⟩
  · exact ⟨ha.1,by simp only;omega⟩
theorem a2D {l q r:Int} (hl:0<=l/\l<2) (hq:1<=q/\q<=1000) (hr:0<=r/\r<40):ON ⟨13,0,0,l,0,q,0,r,[]⟩:=by
  refine aQN [108,113,114] [108,113,114] rfl rfl rfl (by simp) (by simp) ⟨by simp only;omega,by simp only;omega⟩ (by simp) λn hn c hc=>?_
  simp only [List.mem_cons,List.not_mem_nil,or_false] at hc
  rcases hc with rfl | rfl | rfl
  · exact hl
  · exact ⟨by simp only;omega,.inl hq.1⟩
  · exact hr
theorem aYM {e:Int} (he:0<=e/\e<4):ON ⟨14,e,0,0,0,0,0,0,[]⟩:=by
  refine aQN [101] [101] rfl rfl rfl (by simp) (by simp) ⟨by simp only;omega,by simp only;omega⟩ (by simp) λn hn c hc=>?_
  simp only [List.mem_cons,List.not_mem_nil,or_false] at hc
  rcases hc with rfl
  · exact he
theorem aYV {e:Int} (he:0<=e/\e<4):ON ⟨15,e,0,0,0,0,0,0,[]⟩:=by
  refine aQN [101] [101] rfl rfl rfl (by simp) (by simp) ⟨by simp only;omega,by simp only;omega⟩ (by simp) λn hn c hc=>?_
  simp only [List.mem_cons,List.not_mem_nil,or_false] at hc
  rcases hc with rfl
  · exact he
theorem aY3 {e:Int} (he:0<=e/\e<4):ON ⟨16,e,0,0,0,0,0,0,[]⟩:=by
  refine aQN [101] [101] rfl rfl rfl (by simp) (by simp) ⟨by simp only;omega,by simp only;omega⟩ (by simp) λn hn c hc=>?_
  simp only [List.mem_cons,List.not_mem_nil,or_false] at hc
  rcases hc with rfl
  · exact he
theorem aUA {t a:Int} {f:List Int} (ht:0<=t/\t<=2) (ha:0<=a/\a<1000) (hf:f.length<20) (hs:∀ n,66<n->PY n f=some true):ON ⟨11,0,0,0,t,0,a,0,f⟩:=by
  refine aQN [116,97,115] [116,97,115] rfl rfl rfl (by simp) (by simp) ⟨by simp only;omega,by simp only;omega⟩ hf λn hn c hc=>?_
  simp only [List.mem_cons,List.not_mem_nil,or_false] at hc
  rcases hc with rfl | rfl | rfl
  · exact aXT ht
  · exact ⟨ha.1,by simp only;omega⟩
  · exact hs n hn
theorem a3H {a:Int}:∀ (i j:Nat) (x:Int),i<j->[a][i]?=some x->[a][j]?≠some x:=by
  intro i j x hij h1 h2
  rcases i with _ | i <;> rcases j with _ | j <;> simp at hij h1 h2
theorem a0F {a b:Int} (h:a≠b):∀ (i j:Nat) (x:Int),i<j->[a,b][i]?=some x->[a,b][j]?≠some x:=by
  intro i j x hij h1 h2
  rcases i with _ | _ | i <;> rcases j with _ | _ | j <;> simp at hij h1 h2 <;> omega
theorem aZH {a b c:Int} (h:a≠b) (h':a≠c) (h'':b≠c):∀ (i j:Nat) (x:Int),i<j->[a,b,c][i]?=some x->[a,b,c][j]?≠some x:=by
  intro i j x hij h1 h2
  rcases i with _ | _ | _ | i <;> rcases j with _ | _ | _ | j <;> simp at hij h1 h2 <;> omega
theorem rOp {m:eZ} {v:Int} (h:MN m):Ex ON (L3 m v):=by
  obtain ⟨h,he2,he3⟩:=h
  have h3:=h.n1;have h4:=h.aS6
  unfold L3 aBO
  simp only [WT.run,O9]
  refine tF _ (US (by decide)) λk hk=>?_
  have f1:=td (a:=k) (b:=32) hk.1 (by decide)
  have f2:=tm (a:=k.tdiv 32) (b:=m.eH) f1.1 (by omega)
  have f3:=td (a:=k) (b:=128) hk.1 (by decide)
  have f4:=tm (a:=k.tdiv 128) (b:=(m.cB.length:Int)) f3.1 (by omega)
  have f5:=td (a:=k) (b:=1024) hk.1 (by decide)
  have f6:=tm (a:=k.tdiv 1024) (b:=8) f5.1 (by decide)
  have f7:=td (a:=(k.tdiv 1024).tmod 8) (b:=7) f6.1 (by decide)
  have f8:=td (a:=k) (b:=8192) hk.1 (by decide)
  have f9:=tm (a:=k.tdiv 8192) (b:=24) f8.1 (by decide)
  have f10:=td (a:=k) (b:=196608) hk.1 (by decide)
  have f11:=tm (a:=k.tdiv 196608) (b:=900) f10.1 (by decide)
  have f12:=td (a:=k) (b:=7000000) hk.1 (by decide)
  have f13:=tm (a:=k.tdiv 7000000) (b:=12) f12.1 (by decide)
  have q0:0<=1+(k.tdiv 8192).tmod 24:=by omega
  have g1:=td (a:=1+(k.tdiv 8192).tmod 24) (b:=3) q0 (by decide)
  have g2:=td (a:=1+(k.tdiv 8192).tmod 24) (b:=6) q0 (by decide)
  have g3:=td (a:=1+(k.tdiv 8192).tmod 24) (b:=8) q0 (by decide)
  have g4:=td (a:=1+(k.tdiv 8192).tmod 24) (b:=4) q0 (by decide)
  have g5:=tm (a:=1+(k.tdiv 8192).tmod 24) (b:=3) q0 (by decide)
  have g6:=tm (a:=(k.tdiv 196608).tmod 900) (b:=m.eH-1) f11.1 (by omega)
  have f7b:((k.tdiv 1024).tmod 8).tdiv 7<=1:=by rw [Int.tdiv_eq_ediv_of_nonneg f6.1];omega
  have f20:=tm (a:=(k.tdiv 196608).tmod 900) (b:=60) f11.1 (by decide)
  have f21:=tm (a:=(k.tdiv 196608).tmod 900) (b:=3) f11.1 (by decide)
  have f22:=tm (a:=(k.tdiv 7000000).tmod 12+1) (b:=12) (by omega) (by decide)
  repeat' with_reducible first | refine x_v ?_ | refine aP8 ?_ | apply aL2 | apply aI5 | apply aCE | apply aAR | apply Y4 | apply aOY | apply aIH | apply aKG | apply aMX | apply aDS | refine aEY (λ_=>?_) λ_=>?_ | refine aEW (λ_=>?_) λ_=>?_ | apply aP6 | apply aP3 | apply aK3 | apply aGQ | apply aEV | refine x_a ?_
  · exact a2S (by omega) (by omega) (by omega) (by omega) (by omega)
  · exact aY0 (by omega) (by omega) (by omega)
  · exact aX1 (by omega) (by omega)
  · exact a0R (by omega) (by omega) (by omega) (by omega) (by omega)
  · exact a3G (by omega) (by omega) (by omega)
  · exact a1Z (by omega) (by omega) (by omega) (by omega)
  · exact a0Z (by omega) (by omega) (by omega) (by omega)
  · exact aZJ (by omega) (by omega) (by omega) (by omega) (by omega)
  · exact aXW (by omega) (by omega) (by omega)
  · exact aYK (by omega) (by omega) (by omega)
  · refine u7 g5.1 (by simp;omega) λl hl=>aL2 (aEV ?_)
    have f23:((k.tdiv 7000000).tmod 12+1).tmod 12≠(k.tdiv 7000000).tmod 12:=by rw [Int.tmod_eq_emod_of_nonneg (a:=(k.tdiv 7000000).tmod 12+1) (by omega)];omega
    generalize (k.tdiv 7000000).tmod 12=r at *
    generalize (r+1).tmod 12=r' at *
    have:=aRG hl
    simp only [List.mem_cons,List.not_mem_nil,or_false] at this
    rcases this with rfl | rfl | rfl
    · exact aUA (by omega) (by omega) (by simp) λn hn=>rf5 hn (by simp) (by simp;omega) a3H
    · exact aUA (by omega) (by omega) (by simp) λn hn=>rf5 hn (by simp) (by simp;omega) (a0F (by omega))
    · exact aUA (by omega) (by omega) (by simp) λn hn=>rf5 hn (by simp) (by simp;omega) (aZH (by omega) (by omega) (by omega))
  · have f24:0<=((k.tdiv 32).tmod m.eH+1+((k.tdiv 196608).tmod 900).tmod (m.eH-1)).tmod m.eH/\((k.tdiv 32).tmod m.eH+1+((k.tdiv 196608).tmod 900).tmod (m.eH-1)).tmod m.eH<4/\((k.tdiv 32).tmod m.eH+1+((k.tdiv 196608).tmod 900).tmod (m.eH-1)).tmod m.eH≠(k.tdiv 32).tmod m.eH:=by
      generalize (k.tdiv 32).tmod m.eH=e at f2 ⊢
      generalize ((k.tdiv 196608).tmod 900).tmod (m.eH-1)=d at g6 ⊢
      rw [Int.tmod_eq_emod_of_nonneg (by omega)]
      have:m.eH=2\/m.eH=3:=by omega
      rcases this with hE | hE <;> rw [hE] at f2 g6 ⊢ <;> omega
    exact aZW (by omega) (by omega) (by omega) f24 (by omega) (by omega)
  · exact a2D (by omega) (by omega) (by omega)
  · exact aYM (by omega)
  · exact aYV (by omega)
  · exact aY3 (by omega)
theorem a02 {m:eZ} {l:List Int} {n:Nat} (hn:200<n) (h:MN m):Ex (λr=>r.length<=120/\∀ o∈r,ON o) (MJ n m l):=by
  unfold MJ aI2
  simp only [WT.run,O9]
  refine tF (λ(r:List aS)=>r.length<=120/\∀ o∈r,ON o) (aQJ (λ(v:Int×List aS)=>0<=v.1/\v.1<=120/\(v.2.length:Int)=v.1/\∀ o∈v.2,ON o) (λ(v:Int×List aS)=>120-v.1.toNat) ?_ (v:=(0,[])) ⟨by simp,by simp,rfl,λ_ h=>nomatch h⟩ (by simp;omega)) λr hr=>aEV hr
  rintro ⟨i,r⟩ ⟨a1,a2,a3,a4⟩
  simp only at a1 a2 a3 a4
  refine aI5 ?_
  refine tF (λ(b:Bool)=>b=true->i<(l.length:Int)/\i<120) (aL2 (aEY (λk=>aL2 (aEV λk2=>⟨k,of_decide_eq_true k2⟩)) λ_=>aEV (λk=>nomatch k))) λb hb=>aFQ (λkb=>?_) λ_=>aGQ (aEV ⟨by first | omega | (simp only;omega),a4⟩)
  obtain ⟨k1,k2⟩:=hb kb
  refine u7 a1 k1 λx hx=>tF _ (rOp h) λo ho=>aL2 (x_a (x_v (XC ⟨⟨by first | omega | (simp only;omega),by first | omega | (simp only;omega),by simp;omega,aRU a4 ho⟩,by first | omega | (simp only;omega)⟩)))
end Go.Pv
