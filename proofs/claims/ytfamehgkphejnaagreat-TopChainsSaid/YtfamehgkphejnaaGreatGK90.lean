import Derived.Test.YtfamehgkphejnaaGreatHE90
import Derived.Test.YtfamehgkphejnaaGreatHA90
set_option linter.unusedVariables false
set_option linter.unusedSimpArgs false
namespace Go.Pv
open Go.Proofs
set_option maxRecDepth 100000
set_option maxHeartbeats 1000000
theorem bC8 {a b:Int}:lU a b=some ⟨a,b⟩:=by
  refine aQX ?_
  unfold lU aGP;simp only [WT.run,O9]
  exact aEV rfl
theorem a5I {a b:Int}:nR a b=some ⟨a,b⟩:=by
  refine aQX ?_
  unfold nR Z8;simp only [WT.run,O9]
  exact aEV rfl
theorem a9R {a:Int} (h:(a.natAbs:Int)<=288230376151711744):aI (0-a)=-a:=by rw [Int.zero_sub];exact wrap64 (by omega)
theorem In'.cp {s t:aA} {e i:Int} (r:In' s e i) (h1:t.aW=s.aW) (h2:t.bA=s.bA):In' t e i:=by
  refine ⟨r.e0,by rw [h1];exact r.e1,r.i0,by rw [h2];exact r.i1,by rw [h1,h2];exact r.x,by rw [h2];exact r.m1,by rw [h2];exact r.m,by rw [h2];exact r.c1,by rw [h2];exact r.c⟩
theorem bHV {n:Nat} {s:aA} {f:Int->aM} {B e c a:Int} (hn:250<=n) (hC:CS s f B) (hB:0<=B/\B<=100000000000000) (he:0<=e/\e<3) (hc:1<=c/\c<=lQ (f e).cO) (ha:0<=a/\a<=1000000) (hv:lV (f e).cO<=1000000) (hr:s.bU.length<40):Ex (λr=>r.2=0/\(∃ p' x,CS r.1 (up f e p') (B+1000000000)/\a1R (f e).cO c p'.cO x/\IU n (f e).cO c=some (p'.cO,x,0))/\r.1.bY=s.bY/\r.1.bP=s.bP/\r.1.bU.length=s.bU.length+1) (N7 n s ⟨4,e,0,0,0,c,a,0,[]⟩):=by
  have hi:=hC.iN e he.1 he.2
  have hcQ:=(hC.lb e).q
  unfold N7 WU;simp only [WT.run,O9]
  refine tF (λr=>match r with | .inl q=>q.1=(⟨4,e,0,0,0,c,a,0,[]⟩:aS) | .inr t=>False) (aL2 (aEY (λk=>absurd (show (4:Int)=5 from k) (by decide)) λ_=>aL2 (aEY (λ_=>XC rfl) λk=>(by simp at k)))) λr hr'=>?_
  cases r with
  | inr t=>exact hr'.elim
  | inl q =>
    refine aK3 ?_
    obtain ⟨o',q⟩:=q
    simp only at hr'
    subst hr'
    simp only [p2]
    refine x_eq (bEO hC.sq hC.en hi he) (aL2 (aEY (λk=>absurd rfl k) λ_=>?_))
    refine tF (λt=>t.1=0/\(∃ p' x,CS t.2 (up f e p') (B+1000000000)/\a1R (f e).cO c p'.cO x/\IU n (f e).cO c=some (p'.cO,x,0))/\t.2.bY=s.bY/\t.2.bP=s.bP/\t.2.bU.length=s.bU.length+1) (aL2 (aEY (λ_=>tF (λt=>t.2=0/\(∃ p' x,CS t.1 (up f e p') (B+1000000000)/\a1R (f e).cO c p'.cO x/\IU n (f e).cO c=some (p'.cO,x,0))/\t.1.bY=s.bY/\t.1.bP=s.bP/\t.1.bU.length=s.bU.length+1) ?_ λt ht=>aEV ht) λk=>(by simp at k))) λt ht=>?_
    · unfold OX aFY;simp only [WT.run,O9]
      refine aL2 (aEY (λk=>absurd k (by omega)) λ_=>tF _ (bG8 (e:=e) (k:=0) (q:=c) hn hC.sq hC.m2 hC.en hi he (hC.lb e) (by omega) hc) λr hf=>?_)
      obtain ⟨t,x,w,er⟩:=r
      obtain ⟨h1,hk,p',hE,hO,hX⟩:=hf
      simp only at h1 hk hE hO hX
      obtain ⟨rfl,rfl⟩:w=false/\er=0:=⟨congrArg Prod.fst h1,congrArg Prod.snd h1⟩
      have hx2:=hO.x2
      have hxv:x.Value<=1000000:=by have:=hO.v;have:=(aX6 hO.b.ok).2;omega
      have hxp:XE x.bO:=by have:=hO.a;have:=a4U p'.cO;have:=(hC.lb e).a;unfold XE;omega
      refine aL2 (aEY (λk=>absurd rfl k) λ_=>x_eq bC8 (aL2 (x_eq bC8 (x_eq bC8 (aL2 (x_eq bC8 ?_))))))
      rw [a9R (a:=a) (by omega),a9R (a:=x.Value) (by omega)]
      refine tF _ (bD4 (e:=e) hn hk.q hE he (by simp) (a96 (by simp)) (by simp only [lB,List.map_cons,List.map_nil,sAb];omega) hB.1 (by simp only [pS,gA,List.map_cons,List.map_nil,sI,if_true];omega)) λr hr2=>aL2 (aEY (λk=>absurd hr2.1 k) λ_=>?_)
      have hE2:EN r.1 (up f e p') (B+100000000):=hr2.2.2.mono (by simp only [lB,List.map_cons,List.map_nil,sAb];omega)
      have hk2:=hk.trans hr2.2.1
      refine tF _ (bEW (e:=e) (c:=1000000) hk2.q hE2 (hk2.iN hi) he (RB0 (by omega) (by simp) (by simp) (by simp only;omega)) (by omega) (by omega)) λu hu=>aL2 (aEY (λk=>absurd hu.1 k) λ_=>ON he.1 (by have:=hC.en.1;omega) λy hy=>?_)
      have hk3:=hk2.trans hu.2.1
      have hlt:u.1.bU.length<40:=by rw [hk3.sl];exact hr
      have hc3:=hC.of hk3 (hu.2.2.mono (show B+100000000+1000000<=B+1000000000 by omega)) (bBH hC.lb hO.b)
      have hc64:XE c:=by unfold XE;omega
      have hv64:XE x.Value:=by unfold XE;omega
      refine aL2 (x_a (aL2 (x_a (aEV ⟨rfl,⟨p',x,?_,hO,hX⟩,hk3.tr,hk3.rc,by simp [hk3.sl]⟩))))
      exact ⟨hk3.q.a05 hlt ⟨hc64,aP0,hv64,hxp,Int.le_refl 0,(by decide:(0:Int)<=1)⟩,hc3.m2,hc3.en,hc3.lb,hc3.w1,λe h0 h1=>(hc3.iN e h0 h1).cp rfl rfl,hc3.tr⟩
    · obtain ⟨e',t⟩:=t
      simp only [p2]
      exact aL2 (aEY (λk=>absurd ht.1 k) λ_=>aEV ⟨rfl,ht.2⟩)
theorem RB1 {B:Int} (h:0<=B) {a:Int} (ha:(a.natAbs:Int)<=B):RB ⟨0,0,0,0,0,0,a,0,0,0,0⟩ B:=by
  have z:((0:Int).natAbs:Int)<=B:=by simpa using h
  exact ⟨z,z,z,z,z,z,ha,z,z,z,z⟩
theorem bIX {n:Nat} {s:aA} {f:Int->aM} {B e1 e2:Int} {l1 l2:List aH} (hn:250<=n) (h:SQ s) (hE:EN s f B) (hB:0<=B/\B<=200000000000000) (he1:0<=e1/\e1<3) (he2:0<=e2/\e2<3) (k1:l1.length<=12) (k2:l2.length<=12) (v1:VLs l1) (v2:VLs l2) (b1:lB l1<=100000000) (b2:lB l2<=100000000) (z1:pS (λ_=>true) l1=0) (z2:pS (λ_=>true) l2=0):Ex (λr=>r.2=0/\SK s r.1/\EN r.1 f (B+200000000)) (a5X n s [⟨e1,l1⟩,⟨e2,l2⟩]):=by
  have n1:=a7K l1;have n2:=a7K l2
  unfold a5X XB;simp only [WT.run,O9]
  refine tF (λr=>match r with | .inl a=>SK s a/\EN a f (B+200000000) | .inr b=>False) (aQB (m:=2) (λv=>v.1) (λv=>SK s v.2/\EN v.2 f (B+v.1*100000000)) ⟨by simp,by simp,h.rf,by simpa using hE⟩ (by omega) λv h1 h2 h3=>?_) λr hr=>?_
  · obtain ⟨k,t⟩:=v
    obtain ⟨hk,h4⟩:=h3
    simp only at h1 h2 hk h4
    simp only [p2]
    refine aL2 (aEY (λhkk=>ON h1 (by simp;omega) λx hx=>?_) λhkk=>aGQ (XC ⟨hk,h4.mono (by simp at hkk;omega)⟩))
    have hxc:(x=⟨e1,l1⟩\/x=⟨e2,l2⟩):=by
      have:k=0\/k=1:=by simp at hkk;omega
      rcases this with rfl | rfl
      · left;simpa using hx.symm
      · right;simpa using hx.symm
    have hP:0<=x.NB/\x.NB<3/\x.lines.length<=12/\VLs x.lines/\0<=lB x.lines/\lB x.lines<=100000000/\pS (λ_=>true) x.lines=0:=by
      rcases hxc with rfl | rfl
      · exact ⟨he1.1,he1.2,k1,v1,n1,b1,z1⟩
      · exact ⟨he2.1,he2.2,k2,v2,n2,b2,z2⟩
    obtain ⟨p0,p1,p2',p3,p4,p5,p6⟩:=hP
    refine tF _ (bD4 (e:=x.NB) hn hk.q h4 ⟨p0,p1⟩ p2' p3 (by omega) (by omega) p6) λy hy=>aL2 (aEY (λk=>absurd hy.1 k) λ_=>x_v (XC ⟨by simp at hkk;omega,rfl,hk.trans hy.2.1,hy.2.2.mono (by simp only;omega)⟩))
  · cases r with
    | inl a=>exact aEV ⟨rfl,hr⟩
    | inr b=>exact hr.elim
theorem bIL {n:Nat} {s:aA} {f:Int->aM} {B e to c a:Int} (hn:250<=n) (hC:CS s f B) (hB:0<=B/\B<=100000000000000) (he:0<=e/\e<3) (ht:0<=to/\to<3) (hc:1<=c/\c<=lQ (f e).cO) (ha:0<=a/\a<=1000000) (hv:lV (f e).cO<=1000000) (hA:lA (f e).cO<=1000000) (hr:s.bY.length<40):Ex (λr=>r.2=0/\(∃ p' x,CS r.1 (up f e p') (B+1000000000)/\a1R (f e).cO c p'.cO x/\r.1.bY=s.bY++[⟨e,to,0,c,a,a-x.Value+x.bO⟩])/\r.1.bU=s.bU/\r.1.bP=s.bP) (L9 n s ⟨12,e,0,0,to,c,a,0,[]⟩):=by
  have hi:=hC.iN e he.1 he.2
  have hcQ:=(hC.lb e).q
  unfold L9 aEK;simp only [WT.run,O9]
  refine tF (λt=>t.1=0/\(∃ p' x,CS t.2 (up f e p') (B+1000000000)/\a1R (f e).cO c p'.cO x/\t.2.bY=s.bY++[⟨e,to,0,c,a,a-x.Value+x.bO⟩])/\t.2.bU=s.bU/\t.2.bP=s.bP) (aL2 (aEY (λ_=>tF (λt=>t.2=0/\(∃ p' x,CS t.1 (up f e p') (B+1000000000)/\a1R (f e).cO c p'.cO x/\t.1.bY=s.bY++[⟨e,to,0,c,a,a-x.Value+x.bO⟩])/\t.1.bU=s.bU/\t.1.bP=s.bP) ?_ λt ht=>aEV ht) λk=>(by simp at k))) λt ht=>?_
  · unfold KJ aIW;simp only [WT.run,O9]
    refine tF (λr=>match r with | .inl a=>True | .inr b=>False) (aQB (m:=2) (λv=>v) (λ_=>True) ⟨by simp,by simp,trivial⟩ (by omega) λv h1 h2 h3=>?_) λr hr'=>?_
    · refine aL2 (aEY (λhk=>ON h1 (by simp;omega) λx hx=>?_) λ_=>aGQ (XC trivial))
      have hxc:0<=x/\x<3:=by
        have:v=0\/v=1:=by omega
        rcases this with rfl | rfl
        · have:x=e:=by simpa using hx.symm
          omega
        · have:x=to:=by simpa using hx.symm
          omega
      exact x_eq (bEO hC.sq hC.en (hC.iN x hxc.1 hxc.2) hxc) (aL2 (aEY (λk=>absurd rfl k) λ_=>x_v (XC ⟨by omega,rfl,trivial⟩)))
    cases r with
    | inr t=>exact hr'.elim
    | inl q =>
      refine aK3 (aL2 (aEY (λk=>absurd k (by omega)) λ_=>tF _ (bG8 (e:=e) (k:=3) (q:=c) hn hC.sq hC.m2 hC.en hi he (hC.lb e) (by omega) hc) λr hf=>?_))
      obtain ⟨t,x,w,er⟩:=r
      obtain ⟨h1,hk,p',hE,hO,hX⟩:=hf
      simp only at h1 hk hE hO hX
      obtain ⟨rfl,rfl⟩:w=false/\er=0:=⟨congrArg Prod.fst h1,congrArg Prod.snd h1⟩
      have hx2:=hO.x2
      have hxv:x.Value<=1000000:=by have:=hO.v;have:=(aX6 hO.b.ok).2;omega
      have hxp:(x.bO.natAbs:Int)<=1000000:=by have:=hO.a;have:=a4U p'.cO;omega
      refine aL2 (aEY (λk=>absurd rfl k) λ_=>x_eq a5I (aL2 (x_eq a5I (x_eq a5I (aL2 (x_eq a5I (x_eq a5I (aL2 (x_eq a5I ?_)))))))))
      rw [a9R (a:=a) (by omega),a9R (a:=x.Value) (by omega)]
      refine tF _ (bIX (e1:=e) (e2:=to) hn hk.q hE (by omega) he ht (by simp) (by simp) (a96 (by simp)) (a96 (by simp)) (by simp only [lB,List.map_cons,List.map_nil,sAb];omega) (by simp only [lB,List.map_cons,List.map_nil,sAb];omega) (by simp only [pS,gA,List.map_cons,List.map_nil,sI,if_true];omega) (by simp only [pS,gA,List.map_cons,List.map_nil,sI,if_true];omega)) λr hr2=>aL2 (aEY (λk=>absurd hr2.1 k) λ_=>?_)
      have hk2:=hk.trans hr2.2.1
      refine tF _ (bEW (e:=e) (c:=1000000) (r:=⟨0,0,0,0,0,0,x.Value,0,0,0,0⟩) hk2.q hr2.2.2 (hk2.iN hi) he (RB1 (by omega) (by omega)) (by omega) (by omega)) λu hu=>aL2 (aEY (λk=>absurd hu.1 k) λ_=>?_)
      have hk3:=hk2.trans hu.2.1
      have hlt:u.1.bY.length<40:=by rw [hk3.tr];exact hr
      have e1:aI (a-x.Value)=a-x.Value:=wrap64 (by omega)
      have e2:aI (a-x.Value+x.bO)=a-x.Value+x.bO:=wrap64 (by omega)
      have hc3:=hC.of hk3 (hu.2.2.mono (show B+200000000+1000000<=B+1000000000 by omega)) (bBH hC.lb hO.b)
      have hc64:XE c:=by unfold XE;omega
      have ha64:XE a:=by unfold XE;omega
      have hp64:XE (a-x.Value+x.bO):=by unfold XE;omega
      refine aL2 (aL2 ?_)
      rw [e1,e2]
      refine tF (λb=>b=false) (aL2 (aEY (λk=>absurd k (by omega)) λ_=>aL2 (aEV (decide_eq_false (by omega))))) λb hb=>aFQ (λk=>by rw [hb] at k;cases k) λ_=>x_a (aL2 (x_a (aEV ⟨rfl,⟨p',x,?_,hO,by simp [hk3.tr]⟩,hk3.sl,hk3.rc⟩)))
      exact ⟨hk3.q.a1T hlt ⟨hc64,ha64,hp64⟩,hc3.m2,hc3.en,hc3.lb,hc3.w1,λe h0 h1=>(hc3.iN e h0 h1).cp rfl rfl,λz hz=>by
        rcases List.mem_append.1 hz with hz | hz
        · exact hc3.tr z hz
        · rw [List.mem_singleton.1 hz];exact ⟨by simp only;omega,ha.1,rfl⟩⟩
  · obtain ⟨e',t⟩:=t
    simp only [p2]
    exact aL2 (aEY (λk=>absurd ht.1 k) λ_=>aEV ⟨rfl,ht.2⟩)
theorem bGZ {n:Nat} {v q:Int} (hq:1<=q) (hv:InM v):mX n v q q=some v:=by
  refine aQX ?_
  unfold mX aMF;simp only [WT.run,O9]
  refine tF (λb=>b=false) ?_ λb hb=>aFQ (λk=>by rw [hb] at k;cases k) λ_=>aL2 (aEY (λ_=>aEV rfl) λk=>(by simp at k))
  exact aL2 (aEY (λk=>absurd k (by omega)) λ_=>aL2 (aEY (λk=>absurd k (by omega)) λ_=>aL2 (aEY (λk=>absurd k (by omega)) λ_=>x_eq (a9H v) (aL2 (aEV (by simp [hv]))))))
theorem bIF {n:Nat} {s:aA} {f:Int->aM} {B fr to c v p ref:Int} (hn:250<=n) (hC:CS s f B) (hB:0<=B/\B<=100000000000000) (ht:0<=to/\to<3) (hc:1<=c/\c<=1000000) (hv:0<=v/\v<=1000000) (hp:(p.natAbs:Int)<=1000000) (h0:0<=ref) (hT:s.bY[ref.toNat]?=some ⟨fr,to,0,c,v,p⟩) (hx:LB ((f to).cO++[⟨c,v,p⟩])):Ex (λr=>r.2=0/\(∃ p',CS r.1 (up f to p') (B+1000000000)/\InR (f to).cO ⟨c,v,p⟩ p'.cO)/\r.1.bY=s.bY.set ref.toNat ⟨fr,to,0,0,0,0⟩/\r.1.bU=s.bU/\r.1.bP=s.bP) (L9 n s ⟨13,0,0,0,0,c,0,ref,[]⟩):=by
  have hi:=hC.iN to ht.1 ht.2
  have hlen:=(List.getElem?_eq_some_iff.1 hT).1
  unfold L9 aEK;simp only [WT.run,O9]
  refine tF (λt=>t.1=0/\(∃ p',CS t.2 (up f to p') (B+1000000000)/\InR (f to).cO ⟨c,v,p⟩ p'.cO)/\t.2.bY=s.bY.set ref.toNat ⟨fr,to,0,0,0,0⟩/\t.2.bU=s.bU/\t.2.bP=s.bP) (aL2 (aEY (λk=>absurd (show (13:Int)=12 from k) (by decide)) λ_=>aL2 (aEY (λ_=>tF (λt=>t.2=0/\(∃ p',CS t.1 (up f to p') (B+1000000000)/\InR (f to).cO ⟨c,v,p⟩ p'.cO)/\t.1.bY=s.bY.set ref.toNat ⟨fr,to,0,0,0,0⟩/\t.1.bU=s.bU/\t.1.bP=s.bP) ?_ λt ht=>aEV ht) λk=>(by simp at k)))) λt ht=>?_
  · unfold T9 aLH;simp only [WT.run,O9]
    refine tF (λb=>b=false) (aL2 (aEY (λk=>absurd k (by omega)) λ_=>aL2 (aEV (decide_eq_false (by omega))))) λb hb=>aFQ (λk=>by rw [hb] at k;cases k) λ_=>aQZ h0 hT ?_
    refine x_eq (bEO hC.sq hC.en hi ht) (aL2 (aEY (λk=>absurd rfl k) λ_=>aL2 (aEY (λk=>absurd k (by simp only;omega)) λ_=>?_)))
    refine x_eq (bGZ hc.1 (by unfold InM;simp only;omega)) (x_eq (bGZ hc.1 (by unfold InM;simp only;omega)) ?_)
    refine tF _ (bGP (e:=to) (x:=⟨c,v,p⟩) hn hC.sq hC.m2 hC.en hi ht hC.lb hx) λr hb'=>?_
    obtain ⟨t,c',d,e⟩:=r
    obtain ⟨ht',hk,p',hE,hI⟩:=hb'
    simp only at ht' hk hE
    obtain ⟨rfl,rfl,rfl⟩:c'=v/\d=0/\e=0:=by
      refine ⟨congrArg Prod.fst ht',congrArg (λz=>z.2.1) ht',congrArg (λz=>z.2.2) ht'⟩
    refine aL2 (aEY (λk=>absurd rfl k) λ_=>x_eq a5I (x_eq a5I (aL2 (x_eq a5I ?_))))
    rw [a9R (a:=c') (by omega)]
    refine tF (λr=>r.2=0/\SK s r.1/\EN r.1 (up f to p') (B+100000000)) ?_ λr hr2=>aL2 (aEY (λk=>absurd hr2.1 k) λ_=>?_)
    · unfold a5X XB;simp only [WT.run,O9]
      refine tF (λr=>match r with | .inl a=>SK s a/\EN a (up f to p') (B+100000000) | .inr b=>False) (aQB (m:=1) (λv=>v.1) (λv=>SK s v.2/\EN v.2 (up f to p') (B+v.1*100000000)) ⟨by simp,by simp,hk,by simpa using hE⟩ (by omega) λv h1 h2 h3=>?_) λr hr=>?_
      · obtain ⟨k,t2⟩:=v
        obtain ⟨hk2,h4⟩:=h3
        simp only at h1 h2 hk2 h4
        simp only [p2]
        refine aL2 (aEY (λhkk=>?_) λhkk=>aGQ (XC ⟨hk2,h4.mono (by simp at hkk;omega)⟩))
        have hk0:k=0:=by simp at hkk;omega
        subst hk0
        refine aXZ rfl (tF _ (bD4 (e:=to) hn hk2.q h4 ht (by simp) (a96 (by simp)) (by simp only [lB,List.map_cons,List.map_nil,sAb];omega) (by omega) (by simp only [pS,gA,List.map_cons,List.map_nil,sI,if_true];omega)) λy hy=>aL2 (aEY (λk=>absurd hy.1 k) λ_=>x_v (XC ⟨by omega,rfl,hk2.trans hy.2.1,hy.2.2.mono (by simp only [lB,List.map_cons,List.map_nil,sAb];omega)⟩)))
      · cases r with
        | inl a=>exact aEV ⟨rfl,hr⟩
        | inr b=>exact hr.elim
    have hk2:=hr2.2.1
    refine tF _ (bEW (e:=to) (c:=1000000) hk2.q hr2.2.2 (hk2.iN hi) ht (RB0 (by omega) (by simp) (by simp only;omega) (by simp)) (by omega) (by omega)) λu hu=>aL2 (aEY (λk=>absurd hu.1 k) λ_=>?_)
    have hk3:=hk2.trans hu.2.1
    have hl:=hk3.q.tl
    have hxt:u.1.bY[ref.toNat]?=some ⟨fr,to,0,c,c',p⟩:=by rw [hk3.tr];exact hT
    have hc3:=hC.of hk3 (hu.2.2.mono (show B+100000000+1000000<=B+1000000000 by omega)) (bBH hC.lb hI.b)
    have w0:aI 0=0:=rfl
    have hp64:XE p:=by unfold XE;omega
    have hv64:XE c':=by unfold XE;omega
    refine x_a (aL2 (aL2 (aL2 (aQZ h0 hxt (aL2 (aL2 (aL2 (aEV ?_))))))))
    simp only [Int.sub_self,w0,List.set_set]
    refine ⟨trivial,⟨p',?_,hI⟩,by rw [hk3.tr],hk3.sl,hk3.rc⟩
    exact ⟨hk3.q.aTW aP0 aP0 aP0,hc3.m2,hc3.en,hc3.lb,hc3.w1,λe h0 h1=>(hc3.iN e h0 h1).cp rfl rfl,λz hz=>by
      rcases List.mem_or_eq_of_mem_set hz with hz | rfl
      · exact hc3.tr z hz
      · exact ⟨Int.le_refl 0,Int.le_refl 0,rfl⟩⟩
  · obtain ⟨e',t⟩:=t
    simp only [p2]
    exact aL2 (aEY (λk=>absurd ht.1 k) λ_=>aEV ⟨rfl,ht.2⟩)
structure TI (s:aA):Prop where
  sq:SQ s
  m3:M3s s
  lb:LBs s
  tr:TRs s
  w1:s.bA.cB.length=1
  iN:∀ e:Int,0<=e->e<3->In' s e 0
  g:s.aW.map gX=[([0],2),([0],2),([0],2)]
theorem TI.el {s:aA} (h:TI s):s.aW.length=3:=by
  have:=congrArg List.length h.g
  simpa using this
theorem TI.at {s:aA} (h:TI s) {i:Nat} {x:aP} (hx:s.aW[i]?=some x):x.Down=[0]/\x.dD.length=2:=by
  have h1:=congrArg (λl:List (List Int×Nat)=>l[i]?) h.g
  simp only [List.getElem?_map,hx,Option.map_some] at h1
  have hi:i<3:=by have:=h.el;have:=(List.getElem?_eq_some_iff.1 hx).1;omega
  have h2:gX x=([0],2):=by
    match i,hi with
    | 0,_=>simpa using h1
    | 1,_=>simpa using h1
    | 2,_=>simpa using h1
  exact ⟨congrArg Prod.fst h2,congrArg Prod.snd h2⟩
theorem TI.step {s t:aA} {q w A d:Int} (h:TI s) (k:Gm s t q w A d) (hq:SQ t):TI t :=
  ⟨hq,by unfold M3s;rw [k.ma];exact h.m3,k.b,k.tr,by rw [k.ma];exact h.w1,λe h0 h1=>k.iN (h.iN e h0 h1),k.g.trans h.g⟩
theorem a5U {s:aA} (h:TRs s):0<=aUZ s/\0<=aT2 s/\0<=aYA s/\((aXP s).natAbs:Int)<=aYA s :=
  ⟨(aVO (aUB λx hx=>(h x hx).1)).1,(aVO (aUB λx hx=>(h x hx).2.1)).1,a5Q _,a7O _⟩
theorem LBs.le {s:aA} (h:LBs s) {x:aP} (hx:x∈s.aW):eS fQ x<=gS fQ s/\eS fV x<=gS fV s/\eS fA x<=gS fA s :=
  ⟨(aVO (aUB λx hx=>(aVO (aUB λp hp=>(aX6 (h x hx p hp).ok).1)).1)).2 _ (List.mem_map_of_mem hx),(aVO (aUB λx hx=>(aVO (aUB λp hp=>(aX6 (h x hx p hp).ok).2)).1)).2 _ (List.mem_map_of_mem hx),(aVO (aUB λx hx=>(aVO (aUB λp hp=>a4U _)).1)).2 _ (List.mem_map_of_mem hx)⟩
theorem a9P:∀ {l:List Int},(∀ x∈l,x=0)->sAb l=0
  | [],_=>rfl
  | x :: l,h=>by
    have h1:=a9P (l:=l) λy hy=>h y (List.mem_cons_of_mem _ hy)
    have h2:=h x (List.mem_cons_self ..)
    simp only [sAb,h1,h2];rfl
theorem bCT (s:aA):sAb (s.aW.map (eS fP))<=gS fA s:=by
  have h1:∀ l:List aM,((sI (l.map fP)).natAbs:Int)<=sI (l.map fA):=by
    intro l
    induction l with
    | nil=>simp [sI]
    | cons p l ih=>have:=a7V p;simp only [List.map_cons,sI];omega
  have h2:∀ l:List aP,sAb (l.map (eS fP))<=sI (l.map (eS fA)):=by
    intro l
    induction l with
    | nil=>simp [sI,sAb]
    | cons x l ih=>have:=h1 x.dD;simp only [List.map_cons,sI,sAb];unfold eS;unfold eS at ih;omega
  exact h2 s.aW
theorem bA1 {n:Nat} {s:aA} (hn:250<=n) (h:TI s) (b1:gS fQ s+aUZ s<=100000000) (b2:gS fV s+aT2 s<=100000000) (b3:gS fA s+aYA s<=100000000):Ex (λr=>r.aQ=gS fQ s+aUZ s/\r.Value=gS fV s+aT2 s/\r.bO=gS fP s+aXP s) (a5F n s 0):=by
  have hw:=h.w1;have hel:=h.el
  have nn:=h.lb.nn;have wn:=a5U h.tr
  have htl:=h.sq.tl
  unfold a5F a9Q a6S bAX;simp only [WT.run,O9]
  refine tF (λb=>b=false) (aL2 (aEY (λk=>absurd k (by decide)) λ_=>aL2 (aEV (decide_eq_false (by omega))))) λb hb=>aFQ (λk=>by rw [hb] at k;cases k) λ_=>?_
  refine tF (λr=>r.2=0/\r.1.aQ=gS fQ s+aUZ s/\r.1.Value=gS fV s+aT2 s/\r.1.bO=gS fP s+aXP s) ?_ λr hr=>aL2 (aEY (λk=>absurd hr.1 k) λ_=>aEV hr.2)
  refine tF (λa=>a=(s.aW.map (eS fQ),s.aW.map (eS fV),s.aW.map (eS fP))) (aQB (m:=s.aW.length) (λv=>v.1) (λv=>v.2.1=(s.aW.take v.1.toNat).map (eS fQ)/\v.2.2.1=(s.aW.take v.1.toNat).map (eS fV)/\v.2.2.2=(s.aW.take v.1.toNat).map (eS fP)) ⟨by simp,by simp,by simp⟩ (by omega) λv h1 h2 h3=>?_) λa ha=>?_
  · obtain ⟨i,p,q,w⟩:=v
    simp only at h1 h2 h3
    obtain ⟨rfl,rfl,rfl⟩:=h3
    simp only [p2]
    refine aL2 (aEY (λhk=>?_) λ_=>aGQ (aEV ?_))
    · have hy:=List.getElem?_eq_getElem (l:=s.aW) (i:=i.toNat) (by omega)
      generalize s.aW[i.toNat]'(by omega)=y at hy
      have hL:(s.aW.take i.toNat).length<=3:=by simp only [List.length_take];omega
      have hle:=h.lb.le (List.mem_of_getElem? hy)
      refine x_eq (bCN hn h.sq (h.iN i h1 (by omega)) h.lb hy (h.at hy).2 (by omega) (by omega) (by omega)) ?_
      exact aL2 (aL4 (by simp only [List.length_append,List.length_map,List.length_singleton];omega) (aL2 (aL4 (by simp only [List.length_append,List.length_map,List.length_singleton];omega) (aL2 (aL4 (by simp only [List.length_append,List.length_map,List.length_singleton];omega) (x_v (XC ⟨hk,rfl,(a1Q _ h1 hy).symm,(a1Q _ h1 hy).symm,(a1Q _ h1 hy).symm⟩)))))))
    · rw [List.take_of_length_le (by omega)]
  subst ha
  simp only [p2]
  refine tF (λa=>a=(s.aW.map (eS fQ)++s.bY.map dB.aQ,s.aW.map (eS fV)++s.bY.map dB.Value,s.aW.map (eS fP)++s.bY.map dB.bO)) (aQB (m:=s.bY.length) (λv=>v.1) (λv=>v.2.1=s.aW.map (eS fQ)++(s.bY.take v.1.toNat).map dB.aQ/\v.2.2.1=s.aW.map (eS fV)++(s.bY.take v.1.toNat).map dB.Value/\v.2.2.2=s.aW.map (eS fP)++(s.bY.take v.1.toNat).map dB.bO) ⟨by simp,by simp,by simp⟩ (by omega) λv h1 h2 h3=>?_) λa ha=>?_
  · obtain ⟨i,p,q,w⟩:=v
    simp only at h1 h2 h3
    obtain ⟨rfl,rfl,rfl⟩:=h3
    simp only
    refine aL2 (aEY (λhk=>tF (λr=>r=(s.aW.map (eS fQ)++(s.bY.take (i+1).toNat).map dB.aQ,s.aW.map (eS fV)++(s.bY.take (i+1).toNat).map dB.Value,s.aW.map (eS fP)++(s.bY.take (i+1).toNat).map dB.bO)) (ON h1 hk λx hx=>?_) λr hr=>by subst hr;exact x_v (XC ⟨hk,rfl,rfl,rfl,rfl⟩)) λ_=>aGQ (aEV ?_))
    · have hx2:=h.tr x (List.mem_of_getElem? hx)
      have hL:(s.bY.take i.toNat).length<=40:=by simp only [List.length_take];omega
      refine aL2 (aEY (λ_=>?_) λk=>absurd hx2.2.2 k)
      refine aL2 (aL4 (by simp only [List.length_append,List.length_map,List.length_singleton];omega) (aL2 (aL4 (by simp only [List.length_append,List.length_map,List.length_singleton];omega) (aL2 (aL4 (by simp only [List.length_append,List.length_map,List.length_singleton];omega) (aEV ?_))))))
      rw [a1Q dB.aQ h1 hx,a1Q dB.Value h1 hx,a1Q dB.bO h1 hx]
      simp only [List.append_assoc]
    · rw [List.take_of_length_le (by omega)]
  subst ha
  simp only
  refine tF (λr=>r.2=0) (tF (λl=>l.length<=3/\∀ z∈l,z=(0:Int)) (aQB (m:=s.aW.length) (λv=>v.1) (λv=>(v.2.length:Int)=v.1/\∀ z∈v.2,z=0) ⟨by simp,by simp,by simp,λ_ h=>(by cases h)⟩ (by omega) λv h1 h2 h3=>?_) λl hl=>?_) λr hr=>?_
  · obtain ⟨i,l⟩:=v
    obtain ⟨h3,h4⟩:=h3
    simp only at h1 h2 h3 h4
    simp only
    refine aL2 (aEY (λhk=>ON h1 hk λx hx=>tF (λr=>r=0) ?_ λr hr=>aL2 (aL4 (by simp only [List.length_append,List.length_singleton];omega) (x_v (XC ⟨hk,rfl,?_,λz hz=>?_⟩)))) λ_=>aGQ (aEV ⟨by omega,h4⟩))
    · rw [(h.at hx).1]
      exact aL2 (aEY (λk=>aEV rfl) λ_=>aXZ rfl (aEV rfl))
    · simp only [List.length_append,List.length_singleton];omega
    · rcases List.mem_append.1 hz with hz | hz
      · exact h4 z hz
      · rw [List.mem_singleton.1 hz];exact hr
  · refine x_eq (aZ4 ⟨by omega,hn⟩) (aEV ?_)
    rw [a2B (by rw [a9P hl.2];decide)]
  · have q1:=a3Y (l:=s.aW.map (eS fQ)++s.bY.map dB.aQ) λz hz=>by
      rcases List.mem_append.1 hz with hz | hz
      · exact aUB (λx hx=>(aVO (aUB λp hp=>(aX6 (h.lb x hx p hp).ok).1)).1) z hz
      · exact aUB (λx hx=>(h.tr x hx).1) z hz
    have q2:=a3Y (l:=s.aW.map (eS fV)++s.bY.map dB.Value) λz hz=>by
      rcases List.mem_append.1 hz with hz | hz
      · exact aUB (λx hx=>(aVO (aUB λp hp=>(aX6 (h.lb x hx p hp).ok).2)).1) z hz
      · exact aUB (λx hx=>(h.tr x hx).2.1) z hz
    have q3:sAb (s.aW.map (eS fP)++s.bY.map dB.bO)<=gS fA s+aYA s:=by rw [a7D];have:=bCT s;unfold aYA;omega
    have e1:=aZ4 (n:=n) (l:=s.aW.map (eS fQ)++s.bY.map dB.aQ) ⟨by simp only [List.length_append,List.length_map];omega,hn⟩
    have e2:=aZ4 (n:=n) (l:=s.aW.map (eS fV)++s.bY.map dB.Value) ⟨by simp only [List.length_append,List.length_map];omega,hn⟩
    have e3:=aZ4 (n:=n) (l:=s.aW.map (eS fP)++s.bY.map dB.bO) ⟨by simp only [List.length_append,List.length_map];omega,hn⟩
    have t1:sI (s.aW.map (eS fQ)++s.bY.map dB.aQ)=gS fQ s+aUZ s:=aV8 _ _
    have t2:sI (s.aW.map (eS fV)++s.bY.map dB.Value)=gS fV s+aT2 s:=aV8 _ _
    have t3:sI (s.aW.map (eS fP)++s.bY.map dB.bO)=gS fP s+aXP s:=aV8 _ _
    rw [a2B (by omega),t1] at e1
    rw [a2B (by omega),t2] at e2
    rw [a2B (by omega),t3] at e3
    obtain ⟨d,e⟩:=r
    simp only at hr
    subst hr
    refine tF (λr=>r.1=0/\r.2.aQ=gS fQ s+aUZ s/\r.2.Value=gS fV s+aT2 s/\r.2.bO=gS fP s+aXP s) (x_eq e1 (aL2 (x_eq e2 (aL2 (x_eq e3 (aL2 (aEV ⟨by simp,rfl,rfl,rfl⟩))))))) λr hr=>aEV hr
end Go.Pv
