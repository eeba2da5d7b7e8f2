import Derived.Test.YtihfgehjjbnffaaGreatKB90
set_option linter.unusedVariables false
set_option linter.unusedSimpArgs false
namespace Go.Pv
open Go.Proofs
set_option maxRecDepth 100000
set_option maxHeartbeats 1000000
theorem aP6 {n:Nat} {s:aA} {f:Int->aT} {B e1 e2:Int} {l1 l2:List aQ} (hn:250<=n) (h:SQ s) (hE:EN s f B) (hB:0<=B/\B<=200000000000000) (he1:0<=e1/\e1<3) (he2:0<=e2/\e2<3) (k1:l1.length<=12) (k2:l2.length<=12) (v1:iA l1) (v2:iA l2) (b1:lB l1<=100000000) (b2:lB l2<=100000000) (z1:pS (λ_=>true) l1=0) (z2:pS (λ_=>true) l2=0):Ex (λr=>r.2=0/\SK s r.1/\EN r.1 f (B+200000000)/\∀ a:Int,0<=a->a<17->bS a r.1=bS a s+pS (λk=>decide (k=a)) l1+pS (λk=>decide (k=a)) l2) (BD n s [⟨e1,l1⟩,⟨e2,l2⟩]):=by
  have n1:=zA l1;have n2:=zA l2
  unfold BD U7;simp only [WT.run,bU]
  refine aB (λr=>match r with | .inl a=>SK s a/\EN a f (B+200000000)/\∀ k:Int,0<=k->k<17->bS k a=bS k s+pS (λj=>decide (j=k)) l1+pS (λj=>decide (j=k)) l2 | .inr b=>False) (gJ (m:=2) (λv=>v.1) (λv=>SK s v.2/\EN v.2 f (B+v.1*100000000)/\∀ k:Int,0<=k->k<17->bS k v.2=bS k s+(if 0<v.1 then pS (λj=>decide (j=k)) l1 else 0)+(if 1<v.1 then pS (λj=>decide (j=k)) l2 else 0)) ⟨by simp,by simp,h.rf,by simpa using hE,λk _ _=>by simp⟩ (by omega) λv h1 h2 h3=>?_) λr hr=>?_
  · obtain ⟨k,t⟩:=v
    obtain ⟨hk,h4,h5⟩:=h3
    simp only at h1 h2 hk h4 h5
    simp only [p2]
    refine aD (aU (λhkk=>bP h1 (by simp;omega) λx hx=>?_) λhkk=>bZ (bM ⟨hk,h4.mono (by simp at hkk;omega),λa a0 a1=>?_⟩))
    · have hkc:k=0\/k=1:=by simp at hkk;omega
      rcases hkc with rfl | rfl
      · have hx:x=⟨e1,l1⟩:=by simpa using hx.symm
        subst hx
        refine aB _ (EB (e:=e1) hn hk.q h4 he1 k1 v1 (by simp only;omega) (by omega) z1) λy hy=>aD (aU (λk=>absurd hy.1.1 k) λ_=>cO (bM ⟨by omega,rfl,hk.trans hy.1.2.1,hy.1.2.2.mono (by simp only;omega),λa a0 a1=>?_⟩))
        have:=h5 a a0 a1
        rw [hy.2 a a0 a1,this];simp
      · have hx:x=⟨e2,l2⟩:=by simpa using hx.symm
        subst hx
        refine aB _ (EB (e:=e2) hn hk.q h4 he2 k2 v2 (by simp only;omega) (by omega) z2) λy hy=>aD (aU (λk=>absurd hy.1.1 k) λ_=>cO (bM ⟨by omega,rfl,hk.trans hy.1.2.1,hy.1.2.2.mono (by simp only;omega),λa a0 a1=>?_⟩))
        have:=h5 a a0 a1
        rw [hy.2 a a0 a1,this];simp
    · have hk2:k=2:=by simp at hkk;omega
      subst hk2
      have:=h5 a a0 a1
      rw [this];simp
  · cases r with
    | inl a=>exact aF ⟨rfl,hr⟩
    | inr b=>exact hr.elim
theorem aSQ {n:Nat} {s:aA} {f:Int->aT} {B e to c a:Int} (hn:250<=n) (hC:CS s f B) (hB:0<=B/\B<=100000000000000) (he:0<=e/\e<3) (ht:0<=to/\to<3) (hc:1<=c/\c<=1000000) (ha:0<=a/\a<=1000000) (hv:lV (f e).bJ<=1000000):Ex (λr=>r.2=0->(∃ p' x y,CS r.1 (up f e p') (B+1000000000)/\nV (f e).bJ c p'.bJ x/\o5 n s e 0 0 3 c=some y/\x=y.2.1/\r.1.bL=s.bL++[⟨e,to,0,c,a,a-x.Value+x.bE⟩]/\bS 0 r.1=bS 0 s-x.Value)/\bS 12 r.1=bS 12 s+a) (wL n s ⟨12,e,0,0,to,c,a,0,[]⟩):=by
  have hi:=hC.iN e he.1 he.2
  unfold wL PY;simp only [WT.run,bU]
  refine aB (λt=>t.1=0->(∃ p' x y,CS t.2 (up f e p') (B+1000000000)/\nV (f e).bJ c p'.bJ x/\o5 n s e 0 0 3 c=some y/\x=y.2.1/\t.2.bL=s.bL++[⟨e,to,0,c,a,a-x.Value+x.bE⟩]/\bS 0 t.2=bS 0 s-x.Value)/\bS 12 t.2=bS 12 s+a) (aD (aU (λ_=>aB (λt=>t.2=0->(∃ p' x y,CS t.1 (up f e p') (B+1000000000)/\nV (f e).bJ c p'.bJ x/\o5 n s e 0 0 3 c=some y/\x=y.2.1/\t.1.bL=s.bL++[⟨e,to,0,c,a,a-x.Value+x.bE⟩]/\bS 0 t.1=bS 0 s-x.Value)/\bS 12 t.1=bS 12 s+a) ?_ λt ht=>aF ht) λk=>(by simp at k))) λt ht=>?_
  · unfold UI aB6;simp only [WT.run,bU]
    refine aB (λr=>match r with | .inl a=>True | .inr b=>False) (gJ (m:=2) (λv=>v) (λ_=>True) ⟨by simp,by simp,trivial⟩ (by omega) λv h1 h2 h3=>?_) λr hr'=>?_
    · refine aD (aU (λhk=>bP h1 (by simp;omega) λx hx=>?_) λ_=>bZ (bM trivial))
      have hxc:0<=x/\x<3:=by
        have:v=0\/v=1:=by omega
        rcases this with rfl | rfl
        · have:x=e:=by simpa using hx.symm
          omega
        · have:x=to:=by simpa using hx.symm
          omega
      exact x_eq (E6 hC.sq hC.en (hC.iN x hxc.1 hxc.2) hxc) (aD (aU (λk=>absurd rfl k) λ_=>cO (bM ⟨by omega,rfl,trivial⟩)))
    cases r with
    | inr t=>exact hr'.elim
    | inl q =>
      refine fJ (aD (aU (λk=>aF λh=>absurd h (show ¬ (6:Int)=0 by decide)) λh40=>aB _ (aF9 (MX (e:=e) (k:=3) (q:=c) hn hC.sq hC.m2 hC.en hi he (hC.lb e) (by omega) (oD (by omega)))) λr hf=>?_))
      obtain ⟨t,x,w,er⟩:=r
      obtain ⟨⟨hk,hf⟩,hD⟩:=hf
      simp only at hk hf
      refine aD (aU (λk=>aF λh=>absurd h k) λk=>?_)
      obtain ⟨rfl,⟨p',hE,hO⟩,hbs⟩:=hf (Classical.not_not.1 k)
      obtain ⟨x0,x1,x2⟩:=U6 hO hv (hC.lb e)
      have hA:=(hC.lb e).a
      have hxp:(x.bE.natAbs:Int)<=288230376151711744:=by have:=hO.a;have:=BA p'.bJ;omega
      refine x_eq wI (aD (x_eq wI (x_eq wI (aD (x_eq wI (x_eq wI (aD (x_eq wI ?_))))))))
      rw [rZ (a:=a) (by omega),rZ (a:=x.Value) (by omega)]
      refine aB _ (aP6 (e1:=e) (e2:=to) hn hk.q hE (by omega) he ht (by simp) (by simp) (yU (by simp)) (yU (by simp)) (by simp only [lB,List.map_cons,List.map_nil,eT];omega) (by simp only [lB,List.map_cons,List.map_nil,eT];omega) (by simp only [pS,gA,List.map_cons,List.map_nil,sI,if_true];omega) (by simp only [pS,gA,List.map_cons,List.map_nil,sI,if_true];omega)) λr hr2=>aD (aU (λk=>absurd hr2.1 k) λ_=>?_)
      have hk2:=hk.trans hr2.2.1
      have b0:bS 0 r.1=bS 0 s-x.Value:=by rw [hr2.2.2.2 0 (by decide) (by decide),hbs];simp [pS,gA,sI];omega
      have b12:bS 12 r.1=bS 12 s+a:=by rw [hr2.2.2.2 12 (by decide) (by decide),hbs];simp [pS,gA,sI]
      refine aB _ (pR (FI (e:=e) (c:=1000000) (r:=⟨0,0,0,0,0,0,x.Value,0,0,0,0⟩) hk2.q hr2.2.2.1 (hk2.iN hi) he (RB1 (by omega) (by omega)) (by omega) (by omega)) (ES hk2.q)) λu hu=>aD (aU (λk=>absurd hu.1.1 k) λ_=>?_)
      have hk3:=hk2.trans hu.1.2.1
      have hlt:u.1.bL.length<40:=by rw [hk3.tr];omega
      have e1:bA (a-x.Value)=a-x.Value:=wrap64 (by omega)
      have e2:bA (a-x.Value+x.bE)=a-x.Value+x.bE:=wrap64 (by omega)
      have hc3:=hC.of hk3 (hu.1.2.2.mono (show B+200000000+1000000<=B+1000000000 by omega)) (GC hC.lb hO.b)
      have hc64:dB c:=oD (by omega)
      have ha64:dB a:=oD ha
      have hp64:dB (a-x.Value+x.bE):=by unfold dB;omega
      refine aD (aD ?_)
      rw [e1,e2]
      refine aB (λ_=>True) (aD (aU (λ_=>aF trivial) λ_=>aD (aF trivial))) λ_ _=>cZ (λ_=>aF λh=>absurd h (show ¬ (2:Int)=0 by decide)) λ_=>dI (aD (dI (aF λ_=>⟨⟨p',x,_,?_,hO,hD,rfl,by simp [hk3.tr],(hu.2 0).trans b0⟩,(hu.2 12).trans b12⟩)))
      exact ⟨hk3.q.aIQ hlt ⟨hc64,ha64,hp64⟩,hc3.m2,hc3.en,hc3.lb,hc3.w1,λe h0 h1=>(hc3.iN e h0 h1).cp rfl rfl,λz hz=>by
        rcases List.mem_append.1 hz with hz | hz
        · exact hc3.tr z hz
        · rw [List.mem_singleton.1 hz];exact ⟨by simp only;omega,ha.1,rfl⟩⟩
  · obtain ⟨e',t⟩:=t
    simp only [p2]
    exact aD (aU (λk=>aF λh=>absurd h k) λk=>aF λ_=>ht (Classical.not_not.1 k))
theorem aXX {n:Nat} {s:aA} {f:Int->aT} {B c ref:Int} (hn:250<=n) (hC:CS s f B) (hB:0<=B/\B<=100000000000000) (hc:1<=c/\c<=1000000) (hT:∀ t∈s.bL,0<=t.To/\t.To<3/\t.aS<=1000000/\t.Value<=1000000/\0<=t.bE/\t.bE<=1000000):Ex (λr=>r.2=0->∃ t v p p',0<=ref/\s.bL[ref.toNat]?=some t/\0<=v/\v<=t.Value/\0<=p/\p<=t.bE/\c<=t.aS/\CS r.1 (up f t.To p') (B+1000000000)/\oI (f t.To).bJ ⟨c,v,p⟩ p'.bJ/\r.1.bL=s.bL.set ref.toNat ⟨t.yH,t.To,t.Item,t.aS-c,t.Value-v,t.bE-p⟩/\bS 0 r.1=bS 0 s+v/\bS 12 r.1=bS 12 s-v) (wL n s ⟨13,0,0,0,0,c,0,ref,[]⟩):=by
  unfold wL PY;simp only [WT.run,bU]
  refine aB (λt=>t.1=0->∃ t' v p p',0<=ref/\s.bL[ref.toNat]?=some t'/\0<=v/\v<=t'.Value/\0<=p/\p<=t'.bE/\c<=t'.aS/\CS t.2 (up f t'.To p') (B+1000000000)/\oI (f t'.To).bJ ⟨c,v,p⟩ p'.bJ/\t.2.bL=s.bL.set ref.toNat ⟨t'.yH,t'.To,t'.Item,t'.aS-c,t'.Value-v,t'.bE-p⟩/\bS 0 t.2=bS 0 s+v/\bS 12 t.2=bS 12 s-v) (aD (aU (λk=>absurd (show (13:Int)=12 from k) (by decide)) λ_=>aD (aU (λ_=>aB (λr=>r.2=0->∃ t v p p',0<=ref/\s.bL[ref.toNat]?=some t/\0<=v/\v<=t.Value/\0<=p/\p<=t.bE/\c<=t.aS/\CS r.1 (up f t.To p') (B+1000000000)/\oI (f t.To).bJ ⟨c,v,p⟩ p'.bJ/\r.1.bL=s.bL.set ref.toNat ⟨t.yH,t.To,t.Item,t.aS-c,t.Value-v,t.bE-p⟩/\bS 0 r.1=bS 0 s+v/\bS 12 r.1=bS 12 s-v) ?_ λt ht=>aF ht) λk=>(by simp at k)))) λt ht=>?_
  · unfold OS aBM;simp only [WT.run,bU]
    refine aB (λb=>b=false->0<=ref/\ref<s.bL.length) (aD (aU (λ_=>aF λh=>by cases h) λh1=>aD (aF λh2=>by have:=of_decide_eq_false h2;omega))) λb hb=>cZ (λ_=>aF λh=>absurd h (show ¬ (4:Int)=0 by decide)) λhb'=>bP (hb hb').1 (hb hb').2 λx hx=>?_
    have h0:=(hb hb').1
    have hxT:=hT x (List.mem_of_getElem? hx)
    have hx0:=hC.tr x (List.mem_of_getElem? hx)
    have ht:0<=x.To/\x.To<3:=⟨hxT.1,hxT.2.1⟩
    have hi:=hC.iN x.To ht.1 ht.2
    have hxq:=hC.sq.atT hx
    rw [hx0.2.2]
    refine x_eq (E6 hC.sq hC.en hi ht) (aD (aU (λk=>absurd rfl k) λ_=>aD (aU (λ_=>aF λh=>absurd h (show ¬ (5:Int)=0 by decide)) λhle=>?_)))
    have hc64:dB c:=oD (by omega)
    refine aB _ (pR (BZ hn hxq.2.1 hc64 hxq.1) (NS hn hxq.2.1 hc64 hxq.1)) λv hv=>aB _ (pR (BZ hn hxq.2.2 hc64 hxq.1) (NS hn hxq.2.2 hc64 hxq.1)) λp hp=>?_
    have hv2:=hv.2.1 hx0.2.1
    have hp2:=hp.2.1 (by omega)
    refine aB _ (aFC (e:=x.To) (x:=⟨c,v,p⟩) hn hC.sq hC.m2 hC.en hi ht ⟨hc64,hv.1,hp.1⟩) λr hb2=>?_
    obtain ⟨t,c',d,er⟩:=r
    obtain ⟨hk,hb2⟩:=hb2
    simp only at hk hb2
    refine aD (aU (λk=>aF λh=>absurd h k) λk=>?_)
    obtain ⟨rfl,rfl,⟨p',hE,hI⟩,hbs⟩:=hb2 (Classical.not_not.1 k)
    refine x_eq wI (x_eq wI (aD (x_eq wI ?_)))
    rw [rZ (a:=c') (by omega)]
    refine aB (λr=>r.2=0/\SK s r.1/\EN r.1 (up f x.To p') (B+100000000)/\bS 0 r.1=bS 0 s+c'/\bS 12 r.1=bS 12 s-c') ?_ λr hr2=>aD (aU (λk=>absurd hr2.1 k) λ_=>?_)
    · unfold BD U7;simp only [WT.run,bU]
      refine aB (λr=>match r with | .inl a=>SK s a/\EN a (up f x.To p') (B+100000000)/\bS 0 a=bS 0 s+c'/\bS 12 a=bS 12 s-c' | .inr b=>False) (gJ (m:=1) (λv=>v.1) (λv=>SK s v.2/\EN v.2 (up f x.To p') (B+v.1*100000000)/\bS 0 v.2=bS 0 s+(if 0<v.1 then c' else 0)/\bS 12 v.2=bS 12 s-(if 0<v.1 then c' else 0)) ⟨by simp,by simp,hk,by simpa using hE,by simp [hbs],by simp [hbs]⟩ (by omega) λv h1 h2 h3=>?_) λr hr=>?_
      · obtain ⟨k,t2⟩:=v
        obtain ⟨hk2,h4,h5,h6⟩:=h3
        simp only at h1 h2 hk2 h4 h5 h6
        simp only [p2]
        refine aD (aU (λhkk=>?_) λhkk=>bZ (bM ⟨hk2,h4.mono (by simp at hkk;omega),?_,?_⟩))
        · have hk0:k=0:=by simp at hkk;omega
          subst hk0
          refine pK rfl (aB _ (EB (e:=x.To) hn hk2.q h4 ht (by simp) (yU (by simp)) (by simp only [lB,List.map_cons,List.map_nil,eT];omega) (by omega) (by simp only [pS,gA,List.map_cons,List.map_nil,sI,if_true];omega)) λy hy=>aD (aU (λk=>absurd hy.1.1 k) λ_=>cO (bM ⟨by omega,rfl,hk2.trans hy.1.2.1,hy.1.2.2.mono (by simp only [lB,List.map_cons,List.map_nil,eT];omega),?_,?_⟩)))
          · rw [hy.2 0 (by decide) (by decide),h5];simp [pS,gA,sI]
          · rw [hy.2 12 (by decide) (by decide),h6];simp [pS,gA,sI];omega
        · have:0<k:=by simp at hkk;omega
          rw [if_pos this] at h5;exact h5
        · have:0<k:=by simp at hkk;omega
          rw [if_pos this] at h6;exact h6
      · cases r with
        | inl a=>exact aF ⟨rfl,hr⟩
        | inr b=>exact hr.elim
    have hk2:=hr2.2.1
    refine aB _ (pR (FI (e:=x.To) (c:=1000000) hk2.q hr2.2.2.1 (hk2.iN hi) ht (NK (by omega) (by simp) (by simp only;omega) (by simp)) (by omega) (by omega)) (ES hk2.q)) λu hu=>aD (aU (λk=>absurd hu.1.1 k) λ_=>?_)
    have hk3:=hk2.trans hu.1.2.1
    have hl:=hk3.q.tl
    have hxt:u.1.bL[ref.toNat]?=some x:=by rw [hk3.tr];exact hx
    have hc3:=hC.of hk3 (hu.1.2.2.mono (show B+100000000+1000000<=B+1000000000 by omega)) (GC hC.lb hI.b)
    have e1:bA (x.aS-c)=x.aS-c:=wrap64 (by omega)
    have e2:bA (x.Value-c')=x.Value-c':=wrap64 (by omega)
    have e3:bA (x.bE-p)=x.bE-p:=wrap64 (by omega)
    refine dI (aD (aD (aD (iL h0 hxt (aD (aD (aD (aF λ_=>?_))))))))
    simp only [e1,e2,e3,List.set_set]
    refine ⟨x,c',p,p',h0,hx,hv2.1,hv2.2,hp2.1,hp2.2,by omega,?_,hI,by rw [hk3.tr],(hu.2 0).trans hr2.2.2.2.1,(hu.2 12).trans hr2.2.2.2.2⟩
    exact ⟨hk3.q.aT5 (oD (by omega)) (oD (by omega)) (oD (by omega)),hc3.m2,hc3.en,hc3.lb,hc3.w1,λe h0 h1=>(hc3.iN e h0 h1).cp rfl rfl,λz hz=>by
      rcases List.mem_or_eq_of_mem_set hz with hz | rfl
      · exact hc3.tr z hz
      · exact ⟨by simp only;omega,by simp only;omega,hx0.2.2⟩⟩
  · obtain ⟨e',t⟩:=t
    simp only [p2]
    exact aD (aU (λk=>aF λh=>absurd h k) λk=>aF λ_=>ht (Classical.not_not.1 k))
theorem aVT {n:Nat} {s:aA} {o:bQ} {P:aA->Prop} (hn:250<=n) (ho:OQ o) (h:(o.Kind=1/\Ex (λr=>r.2=0->P r.1) (AP n s o))\/(o.Kind=4/\Ex (λr=>r.2=0->P r.1) (yV n s o))\/(o.Kind=6/\Ex (λr=>r.2=0->P r.1) (B4 n s o))\/((o.Kind=12\/o.Kind=13)/\Ex (λr=>r.2=0->P r.1) (wL n s o))):Ex (λr=>(r.2≠0->r.1=s)/\(r.2=0->∃ t k,r.1=dn t k/\P t)) (FL n s o):=by
  have hk:o.Kind=1\/o.Kind=4\/o.Kind=6\/o.Kind=12\/o.Kind=13:=by
    rcases h with h | h | h | h
    · exact .inl h.1
    · exact .inr (.inl h.1)
    · exact .inr (.inr (.inl h.1))
    · exact .inr (.inr (.inr h.1))
  unfold FL aAW;simp only [WT.run,bU]
  have fin:∀ {D:Option (aA×Int)},Ex (λr=>r.2=0->P r.1) D->Ex (λr=>(r.2≠0->r.1=s)/\(r.2=0->∃ t k,r.1=dn t k/\P t)) (((qB n o).bind λx=>bnd (!x) λx_1=>bif x_1 then some true else some false).bind λy=>bif y then some (s,1) else D.bind λx=>bnd (decide (x.snd≠0)) λx_1=>bif x_1 then some (s,x.snd) else bnd (bA (x.fst.Done+1)) λx_2=>bnd (if 288230376151711744<x_2 then 288230376151711744 else x_2) λx_3=>some (({ bF:=x.fst.bF,aW:=x.fst.aW,dG:=x.fst.dG,dO:=x.fst.dO,bL:=x.fst.bL,Done:=x_3 }:aA),0)):=λ{D} hD =>
    aB (λ_=>True) (aB _ (aHG hn ho.r) λ_ _=>aD (cZ (λ_=>aF trivial) λ_=>aF trivial)) λb _=>cZ (λ_=>aF ⟨λ_=>rfl,λh=>absurd h (show ¬ (1:Int)=0 by decide)⟩) λ_=>aB _ hD λr hr=>aD (aU (λk=>aF ⟨λ_=>rfl,λh=>absurd h k⟩) λk=>aD (aD (aF ⟨λh=>absurd rfl h,λ_=>⟨r.1,_,rfl,hr (Classical.not_not.1 k)⟩⟩)))
  refine aB (λu=>match u with | .inl _=>o.Kind=1 | .inr (.inl _)=>o.Kind=4 | .inr (.inr (.inl _))=>o.Kind=6 | .inr (.inr (.inr (.inr (.inr (.inl _)))))=>o.Kind=12\/o.Kind=13 | _=>False) ?_ λu hu=>?_
  · refine aD (aU (λk=>aF k) λk1=>?_)
    refine aB _ F6 λb hb=>cZ (λk=>aF ?_) λk2=>?_
    · have:=hb.1 k;show o.Kind=4;omega
    have k2:¬ (o.Kind=4\/o.Kind=5):=λh=>by rw [hb.2 h] at k2;cases k2
    refine aB _ aW8 λb hb=>cZ (λk=>aF ?_) λk3=>?_
    · have:=hb.1 k;show o.Kind=6;omega
    have k3:¬ (o.Kind=6\/o.Kind=7\/o.Kind=8\/o.Kind=9):=λh=>by rw [hb.2 h] at k3;cases k3
    refine aB _ F6 λb hb=>cZ (λk=>?_) λk4=>?_
    · have:=hb.1 k;omega
    refine aD (aU (λk=>by omega) λk5=>?_)
    refine aB _ F6 λb hb=>cZ (λk=>aF (hb.1 k)) λk6=>?_
    have k6:¬ (o.Kind=12\/o.Kind=13):=λh=>by rw [hb.2 h] at k6;cases k6
    omega
  rcases u with u | u | u | u | u | u | u | u <;> simp only [Sum.elim,WT.run,bU]
  · have hu:o.Kind=1:=hu
    have hD:Ex (λr=>r.2=0->P r.1) (AP n s o):=by
      rcases h with h | h | h | h
      · exact h.2
      all_goals omega
    exact fin (aB _ hD λr hr=>aF hr)
  · have hu:o.Kind=4:=hu
    have hD:Ex (λr=>r.2=0->P r.1) (yV n s o):=by
      rcases h with h | h | h | h
      · omega
      · exact h.2
      all_goals omega
    exact fin (aB _ hD λr hr=>aF hr)
  · have hu:o.Kind=6:=hu
    have hD:Ex (λr=>r.2=0->P r.1) (B4 n s o):=by
      rcases h with h | h | h | h
      · omega
      · omega
      · exact h.2
      · omega
    unfold B4 U2 at hD
    simp only [WT.run,bU] at hD
    exact fin (aB _ hD λr hr=>aF hr)
  · exact absurd hu id
  · exact absurd hu id
  · have hu:o.Kind=12\/o.Kind=13:=hu
    have hD:Ex (λr=>r.2=0->P r.1) (wL n s o):=by
      rcases h with h | h | h | h
      · omega
      · omega
      · omega
      · exact h.2
    exact fin (aB _ hD λr hr=>aF hr)
  · exact absurd hu id
  · exact absurd hu id
theorem FQ {n:Nat} {s:aA} {o:bQ} {P:aA->Prop} (hn:250<=n) (hs:SQ s) (ho:OQ o) (h:(o.Kind=1/\Ex (λr=>r.2=0->P r.1) (AP n s o))\/(o.Kind=4/\Ex (λr=>r.2=0->P r.1) (yV n s o))\/(o.Kind=6/\Ex (λr=>r.2=0->P r.1) (B4 n s o))\/((o.Kind=12\/o.Kind=13)/\Ex (λr=>r.2=0->P r.1) (wL n s o))):Ex (λr=>(r.2≠0->r.1=s)/\(r.2=0->∃ t k,r.1=dn t k/\P t)) (rP n s o):=by
  have hk:o.Kind=1\/o.Kind=4\/o.Kind=6\/o.Kind=12\/o.Kind=13:=by
    rcases h with h | h | h | h
    · exact .inl h.1
    · exact .inr (.inl h.1)
    · exact .inr (.inr (.inl h.1))
    · exact .inr (.inr (.inr h.1))
  unfold rP aC8;simp only [WT.run,bU]
  refine aB _ (aHG hn ho.r) λb _=>aD (cZ (λ_=>aF ⟨λ_=>rfl,λh=>absurd h (show ¬ (1:Int)=0 by decide)⟩) λ_=>?_)
  refine aB (λr=>match r with | .inl _=>False | .inr q=>(q.2≠0->q.1=s)/\(q.2=0->∃ t k,q.1=dn t k/\P t)) ?_ λr hr=>jA (λa e=>by subst e;exact absurd hr id) λq e=>by subst e;exact hr
  refine aD (aU (λk=>by omega) λ_=>aD (aU (λk=>by omega) λ_=>aD (aU (λk=>by omega) λ_=>?_)))
  exact aB _ (aVT hn ho h) λr hr=>bZ (aF hr)
def sV (f:Int->aT):Int:=lV (f 0).bJ+lV (f 1).bJ+lV (f 2).bJ
def sP (f:Int->aT):Int:=lP (f 0).bJ+lP (f 1).bJ+lP (f 2).bJ
theorem ND {f:Int->aT} {e:Int} {p:aT} (he:0<=e/\e<3):sV (up f e p)=sV f-lV (f e).bJ+lV p.bJ/\sP (up f e p)=sP f-lP (f e).bJ+lP p.bJ:=by
  have h:e=0\/e=1\/e=2:=by omega
  unfold sV sP up
  rcases h with rfl | rfl | rfl <;> simp <;> omega
def sQ (f:Int->aT):Int:=lQ (f 0).bJ+lQ (f 1).bJ+lQ (f 2).bJ
theorem IB {f:Int->aT} {e:Int} {p:aT} (he:0<=e/\e<3):sQ (up f e p)=sQ f-lQ (f e).bJ+lQ p.bJ:=by
  have h:e=0\/e=1\/e=2:=by omega
  unfold sQ up
  rcases h with rfl | rfl | rfl <;> simp <;> omega
theorem NP.nn {l:List aM} (h:NP l):0<=lP l:=(lG (sO h)).1
theorem DD {s:aA} {f:Int->aT} {B:Int} (h:CS s f B) {e:Int} (he:0<=e/\e<3):0<=lV (f e).bJ/\lV (f e).bJ<=sV f:=by
  have h0:=(nJ (h.lb 0).ok).2;have h1:=(nJ (h.lb 1).ok).2;have h2:=(nJ (h.lb 2).ok).2
  have k:e=0\/e=1\/e=2:=by omega
  unfold sV
  rcases k with rfl | rfl | rfl <;> omega
def TP (t:dD):Prop:=0<=t.To/\t.To<3/\t.aS<=1000000/\0<=t.bE
structure TL (i asked:Int) (s:aA):Prop where
  ex:∃ f B,CS s f B/\0<=B/\B<=(i+1)*4000000000/\(∀ e,NP (f e).bJ)/\bS 0 s=sV f/\sP f+iM s<=asked/\sV f+jI s<=1000*i/\sQ f+nI s<=9*i
  tp:∀ t∈s.bL,TP t
  bt:bS 12 s=jI s
  a0:0<=asked
  a1:asked<=300*i
theorem TL.mono {i asked:Int} {s:aA} (h:TL i asked s) (hi:0<=i):TL (i+1) asked s:=by
  obtain ⟨f,B,h1,h2,h3,h4,h5,h6,h7,h8⟩:=h.ex
  exact ⟨⟨f,B,h1,h2,by omega,h4,h5,h6,by omega,by omega⟩,h.tp,h.bt,h.a0,by have:=h.a1;omega⟩
theorem TL.dn {i asked k:Int} {s:aA} (h:TL i asked s):TL i asked (dn s k):=by
  obtain ⟨f,B,h1,h2⟩:=h.ex
  exact ⟨⟨f,B,h1.dn k,h2⟩,h.tp,h.bt,h.a0,h.a1⟩
theorem aQ4 {s:aA} {asked:Int} (h:C7 s) (hp:∀ t∈s.bL,TP t) {t:dD} (ht:t∈s.bL):t.Value<=jI s/\t.bE<=iM s/\0<=iM s :=
  ⟨(lG (jY λx hx=>(h x hx).2.1)).2 _ (List.mem_map_of_mem ht),(lG (jY λx hx=>(hp x hx).2.2.2)).2 _ (List.mem_map_of_mem ht),(lG (jY λx hx=>(hp x hx).2.2.2)).1⟩
theorem aEC {s:aA} (hp:∀ t∈s.bL,TP t):0<=iM s:=(lG (jY λx hx=>(hp x hx).2.2.2)).1
theorem X0 {f:Int->aT} (h:∀ e,NP (f e).bJ):0<=sP f:=by
  have h0:=(h 0).nn;have h1:=(h 1).nn;have h2:=(h 2).nn
  unfold sP;omega
theorem TN {s t:aA} (h:t.bL=s.bL):nI t=nI s/\jI t=jI s/\iM t=iM s:=by
  unfold nI jI iM;rw [h];exact ⟨rfl,rfl,rfl⟩
theorem JU {f:Int->aT} (h:∀ e,NP (f e).bJ) {e:Int} {p:aT} (hp:NP p.bJ):∀ k,NP (up f e p k).bJ:=λk=>by
  unfold up;split
  · exact hp
  · exact h k
theorem OQ.mk' {o:bQ} (hq:0<=o.aS/\o.aS<=1000000) (ha:0<=o.bO/\o.bO<=1000000) (hr:o.dQ=[]):OQ o:=⟨⟨oD hq,oD ha⟩,by rw [hr];decide⟩
theorem TL.aK2 {i asked e q a:Int} {s:aA} (h:TL i asked s) (hi:0<=i/\i<60) (he:0<=e/\e<3) (hq:1<=q/\q<=9) (ha:0<=a/\a<=400):Ex (λr=>TL (i+1) asked r.1) (rP 300 s ⟨1,e,0,0,0,q,a,0,[]⟩):=by
  obtain ⟨f,B,h1,h2,h3,h4,h5,h6,h7,h8⟩:=h.ex
  refine nR (FQ (P:=λt=>TL (i+1) asked t) (by omega) h1.sq (.mk' (by simp only;omega) (by simp only;omega) rfl) (.inl ⟨rfl,nR (aSP (n:=300) (by omega) h1 (by omega) he (by omega) (by omega)) λr hr h0=>?_⟩)) λr hr=>?_
  · obtain ⟨⟨p',c1,c2⟩,c3,c4,c5⟩:=hr h0
    obtain ⟨u1,u2⟩:=ND (f:=f) (p:=p') he
    obtain ⟨w1,w2,w3⟩:=TN c3
    have i1:=c2.v;have i2:=c2.p;have i0:=c2.q;have u3:=IB (f:=f) (p:=p') he
    simp only at i0 i1 i2
    exact ⟨⟨up f e p',B+1000000000,c1,by omega,by omega,JU h4 (c2.np (h4 e) (Int.le_refl 0)),by omega,by omega,by omega,by omega⟩,by rw [c3];exact h.tp,by rw [c5,w2];exact h.bt,h.a0,by have:=h.a1;omega⟩
  · by_cases h0:r.2=0
    · obtain ⟨t,k,e1,hT⟩:=hr.2 h0
      rw [e1];exact hT.dn
    · rw [hr.1 h0];exact h.mono hi.1
theorem TL.out {i asked e c:Int} {s t:aA} {f:Int->aT} {B:Int} {p':aT} {x:aM} (h:TL i asked s) (hi:0<=i/\i<60) (he:0<=e/\e<3) (h1:CS s f B) (h2:0<=B) (h3:B<=(i+1)*4000000000) (h4:∀ e,NP (f e).bJ) (h5:bS 0 s=sV f) (h6:sP f+iM s<=asked) (h7:sV f+jI s<=1000*i) (h8:sQ f+nI s<=9*i) (hc0:0<=c) (c1:CS t (up f e p') (B+1000000000)) (c2:nV (f e).bJ c p'.bJ x) (c3:bS 0 t=bS 0 s-x.Value) (c4:t.bL=s.bL) (c5:bS 12 t=bS 12 s):TL (i+1) asked t:=by
  obtain ⟨u1,u2⟩:=ND (f:=f) (p:=p') he
  obtain ⟨w1,w2,w3⟩:=TN c4
  have i1:=c2.v;have i2:=c2.p;have i3:=c2.np (h4 e);have i4:=c2.x2;have i0:=c2.q;have i9:=c2.xq;have u3:=IB (f:=f) (p:=p') he
  exact ⟨⟨up f e p',B+1000000000,c1,by omega,by omega,JU h4 i3.1,by omega,by omega,by omega,by omega⟩,by rw [c4];exact h.tp,by rw [c5,w2];exact h.bt,h.a0,by have:=h.a1;omega⟩
theorem TL.aMA {i asked e q:Int} {s:aA} (h:TL i asked s) (hi:0<=i/\i<60) (he:0<=e/\e<3) (hq:1<=q/\q<=9):Ex (λr=>TL (i+1) asked r.1) (rP 300 s ⟨4,e,0,0,0,q,5,0,[]⟩):=by
  obtain ⟨f,B,h1,h2,h3,h4,h5,h6,h7,h8⟩:=h.ex
  have hl:=DD h1 he;have hw:=(xW h1.tr).2.1
  refine nR (FQ (P:=λt=>TL (i+1) asked t) (by omega) h1.sq (.mk' (by simp only;omega) (by simp only;omega) rfl) (.inr (.inl ⟨rfl,nR (aJO (n:=300) (by omega) h1 (by omega) he (by omega) (by omega) (by omega)) λr hr h0=>?_⟩))) λr hr=>?_
  · obtain ⟨⟨p',x,c1,c2,c3⟩,c4,c5⟩:=hr h0
    exact h.out hi he h1 h2 h3 h4 h5 h6 h7 h8 (by omega) c1 c2 c3 c4 c5
  · by_cases h0:r.2=0
    · obtain ⟨t,k,e1,hT⟩:=hr.2 h0
      rw [e1];exact hT.dn
    · rw [hr.1 h0];exact h.mono hi.1
theorem TL.aI6 {i asked e q:Int} {s:aA} (h:TL i asked s) (hi:0<=i/\i<60) (he:0<=e/\e<3) (hq:1<=q/\q<=9):Ex (λr=>TL (i+1) asked r.1) (rP 300 s ⟨6,e,0,0,0,q,0,0,[]⟩):=by
  obtain ⟨f,B,h1,h2,h3,h4,h5,h6,h7,h8⟩:=h.ex
  have hl:=DD h1 he;have hw:=(xW h1.tr).2.1
  refine nR (FQ (P:=λt=>TL (i+1) asked t) (by omega) h1.sq (.mk' (by simp only;omega) (by simp only;omega) rfl) (.inr (.inr (.inl ⟨rfl,nR (aQ0 (n:=300) (by omega) h1 (by omega) he (by omega) (by omega)) λr hr h0=>?_⟩)))) λr hr=>?_
  · obtain ⟨⟨p',x,c1,c2,c3⟩,c4,c5⟩:=hr h0
    exact h.out hi he h1 h2 h3 h4 h5 h6 h7 h8 (by omega) c1 c2 c3 c4 c5
  · by_cases h0:r.2=0
    · obtain ⟨t,k,e1,hT⟩:=hr.2 h0
      rw [e1];exact hT.dn
    · rw [hr.1 h0];exact h.mono hi.1
theorem TL.aLP {i asked e to q d:Int} {s:aA} {y:aA×aM×Bool×Int} (h:TL i asked s) (hi:0<=i/\i<60) (he:0<=e/\e<3) (ht:0<=to/\to<3) (hq:1<=q/\q<=9) (hd:0<=d/\d<=300) (hy:o5 300 s e 0 0 3 q=some y) (hx:0<=y.2.1.Value/\y.2.1.Value<=100000):Ex (λr=>(r.2=0->TL (i+1) (asked+d) r.1)/\(r.2≠0->r.1=s)) (rP 300 s ⟨12,e,0,0,to,q,y.2.1.Value+d,0,[]⟩):=by
  obtain ⟨f,B,h1,h2,h3,h4,h5,h6,h7,h8⟩:=h.ex
  have hl:=DD h1 he;have hw:=(xW h1.tr).2.1
  refine nR (FQ (P:=λt=>TL (i+1) (asked+d) t) (by omega) h1.sq (.mk' (by simp only;omega) (by simp only;omega) rfl) (.inr (.inr (.inr ⟨.inl rfl,nR (aSQ (n:=300) (by omega) h1 (by omega) he ht (by omega) (by omega) (by omega)) λr hr h0=>?_⟩)))) λr hr=>?_
  · obtain ⟨⟨p',x,y',c1,c2,c3,c4,c5,c6⟩,c7⟩:=hr h0
    have hyy:y=y':=Option.some.inj (hy.symm.trans c3)
    subst hyy
    obtain ⟨u1,u2⟩:=ND (f:=f) (p:=p') he
    have i1:=c2.v;have i2:=c2.p;have i3:=c2.np (h4 e);have i4:=c2.x2;have i0:=c2.q;have i9:=c2.xq;have u3:=IB (f:=f) (p:=p') he
    obtain ⟨j1,j2,j3,j4⟩:=aP7 s.bL ⟨e,to,0,q,y.2.1.Value+d,y.2.1.Value+d-x.Value+x.bE⟩
    simp only at j1 j2 j3 j4
    have w1:nI r.1=nI s+q:=by unfold nI;rw [c5,j1]
    have w2:jI r.1=jI s+(y.2.1.Value+d):=by unfold jI;rw [c5,j2]
    have w3:iM r.1=iM s+(y.2.1.Value+d-x.Value+x.bE):=by unfold iM;rw [c5,j3]
    have ex:x.Value=y.2.1.Value:=by rw [c4]
    have ep:x.bE=y.2.1.bE:=by rw [c4]
    refine ⟨⟨up f e p',B+1000000000,c1,by omega,by omega,JU h4 i3.1,by omega,by omega,by omega,by omega⟩,λz hz=>?_,by rw [c7,w2,h.bt],by have:=h.a0;omega,by have:=h.a1;omega⟩
    rw [c5] at hz
    rcases List.mem_append.1 hz with hz | hz
    · exact h.tp z hz
    · rw [List.mem_singleton.1 hz]
      exact ⟨ht.1,ht.2,by simp only;omega,by simp only;omega⟩
  · refine ⟨λh0=>?_,hr.1⟩
    obtain ⟨t,k,e1,hT⟩:=hr.2 h0
    rw [e1];exact hT.dn
theorem TL.aOY {i asked q ref:Int} {s:aA} (h:TL i asked s) (hi:0<=i/\i<60) (hq:1<=q/\q<=9):Ex (λr=>TL (i+1) asked r.1) (rP 300 s ⟨13,0,0,0,0,q,0,ref,[]⟩):=by
  obtain ⟨f,B,h1,h2,h3,h4,h5,h6,h7,h8⟩:=h.ex
  have hw:=xW h1.tr
  have hs0:=(DD h1 (e:=0) (by omega));have hsp:=X0 h4;have hwp:=aEC h.tp
  refine nR (FQ (P:=λt=>TL (i+1) asked t) (by omega) h1.sq (.mk' (by simp only;omega) (by simp only;omega) rfl) (.inr (.inr (.inr ⟨.inr rfl,nR (aXX (n:=300) (by omega) h1 (by omega) (by omega) λt ht=>?_) λr hr h0=>?_⟩)))) λr hr=>?_
  · have k1:=h.tp t ht;have k2:=aQ4 (asked:=asked) h1.tr h.tp ht;have k3:=h.a1
    unfold TP at k1
    omega
  · obtain ⟨t,v,p,p',c0,cT,v0,v1,p0,p1,cq,c1,c2,c3,c4,c5⟩:=hr h0
    have k1:=h.tp t (List.mem_of_getElem? cT)
    have hto:0<=t.To/\t.To<3:=⟨k1.1,k1.2.1⟩
    obtain ⟨u1,u2⟩:=ND (f:=f) (p:=p') hto
    have i1:=c2.v;have i2:=c2.p;have i0:=c2.q;have u3:=IB (f:=f) (p:=p') hto
    simp only at i0 i1 i2
    have w1:nI r.1=nI s-q:=by unfold nI;rw [c3,wW dD.aS cT];simp only;omega
    have w2:jI r.1=jI s-v:=by unfold jI;rw [c3,wW dD.Value cT];simp only;omega
    have w3:iM r.1=iM s-p:=by unfold iM;rw [c3,wW dD.bE cT];simp only;omega
    refine ⟨⟨up f t.To p',B+1000000000,c1,by omega,by omega,JU h4 (c2.np (h4 _) p0),by omega,by omega,by omega,by omega⟩,λz hz=>?_,by rw [c5,w2,h.bt],h.a0,by have:=h.a1;omega⟩
    rw [c3] at hz
    rcases List.mem_or_eq_of_mem_set hz with hz | rfl
    · exact h.tp z hz
    · exact ⟨k1.1,k1.2.1,by have:=k1.2.2.1;simp only;omega,by simp only;omega⟩
  · by_cases h0:r.2=0
    · obtain ⟨t,k,e1,hT⟩:=hr.2 h0
      rw [e1];exact hT.dn
    · rw [hr.1 h0];exact h.mono hi.1
end Go.Pv
