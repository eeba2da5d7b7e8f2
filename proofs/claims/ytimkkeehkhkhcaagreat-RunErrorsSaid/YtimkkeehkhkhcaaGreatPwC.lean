import Derived.Test.YtimkkeehkhkhcaaGreatPwA
set_option linter.unusedVariables false
set_option linter.unusedSimpArgs false
namespace Go.Pv
section
variable {P:Program} {n:NT} {tb:iC}
def A8 (P:Program) (n:NT) (K:KT P):Prop:=∀ {i:Ix} (t:WT P i) (s:Sk P i) (md:Mw) (f:FS) (hp:AH) (vs:List (Nat×Nat)),K t s md f hp vs->dO vs/\l5 P n t s md ⟨f,hp⟩
theorem ZY:∀ {i:Ix} (s:Sk P i) (t:WT P i) (f:FS) (hp:AH) (vs:List (Nat×Nat)),tV s t f hp vs->dO vs/\∀ r,t.run=some r->QS P n s r .normal ⟨f,hp⟩
  | _,.fn J hJ,t,f,hp,vs,h=>by
    unfold tV at h
    cases t <;> first | exact h.elim | skip
    exact ⟨(hJ h).1,λr hr=>by cases hr;exact ⟨.inl rfl,(hJ h).2⟩⟩
  | _,.jn J,t,f,hp,vs,h=>by
    unfold tV at h
    cases t <;> first | exact h.elim | skip
    cases h with | mk h a=>exact ⟨a,λr hr=>by cases hr;exact ⟨rfl,h⟩⟩
  | _,.jS J s,t,f,hp,vs,h=>by
    unfold tV at h
    cases t <;> first | exact h.elim | skip
    cases h with | mk h a=>exact ⟨a,λr hr=>by have:=aAH hr;subst this;exact ⟨rfl,h⟩⟩
  | _,.blk _ _ _,_,_,_,_,h=>by unfold tV at h;exact h.elim
  | _,.un _ _ _,_,_,_,_,h=>by unfold tV at h;exact h.elim
  | _,.sc _ _,_,_,_,_,h=>by unfold tV at h;exact h.elim
theorem xS {K:KT P} (hK:A8 P n K) (j:Nat):∀ {i:Ix} (s:Sk P i) (t:WT P i) (f:FS) (hp:AH) (vs:List (Nat×Nat)),o9 K j s t f hp vs->dO vs/\∀ r,t.run=some r->QS P n s r (.exit j) ⟨f,hp⟩
  | _,.fn _ _,_,_,_,_,h=>by unfold o9 at h;exact h.elim
  | _,.jn _,_,_,_,_,h=>by unfold o9 at h;exact h.elim
  | _,.blk id cs s,t,f,hp,vs,h=>by
    unfold o9 at h
    cases hb:Nat.beq j id with
    | true =>
      rw [hb] at h
      obtain ⟨h1,h2⟩:=hK _ _ _ _ _ _ h
      refine ⟨h1,λr hr=>?_⟩
      show cond (Nat.beq j id) _ _
      rw [hb];exact h2 r hr
    | false =>
      rw [hb] at h
      obtain ⟨h1,h2⟩:=xS hK j s t f hp vs h
      refine ⟨h1,λr hr=>?_⟩
      show cond (Nat.beq j id) _ _
      rw [hb];exact h2 r hr
  | _,.un k c s,t,f,hp,vs,h=>by
    unfold o9 at h
    obtain ⟨h1,h2⟩:=xS hK j s t f hp vs h
    exact ⟨h1,λr hr=>by cases k <;> exact h2 r hr⟩
  | _,.sc cs s,t,f,hp,vs,h=>by
    unfold o9 at h
    obtain ⟨h1,h2⟩:=xS hK j s t f hp vs h
    exact ⟨h1,λr hr=>h2 r hr⟩
  | _,.jS J s,t,f,hp,vs,h=>by
    unfold o9 at h
    cases t <;> first | exact h.elim | skip
    rename_i t'
    obtain ⟨h1,h2⟩:=xS hK j s t' f hp vs h
    refine ⟨h1,λr hr=>?_⟩
    obtain ⟨c,g1,rfl⟩:=OS (show Go.Pv.esc t'.run=some r from hr)
    exact ⟨(λe=>by cases e),h2 c g1⟩
theorem yF:∀ {i:Ix} (s:Sk P i) (t:WT P i) (f:FS) (hp:AH) (vs:List (Nat×Nat)),o7 s t f hp vs->dO vs/\∀ r,t.run=some r->QS P n s r .ret ⟨f,hp⟩
  | _,.fn J hJ,t,f,hp,vs,h=>by
    unfold o7 at h
    cases t <;> first | exact h.elim | skip
    exact ⟨(hJ h).1,λr hr=>by cases hr;exact ⟨.inr rfl,(hJ h).2⟩⟩
  | _,.jn _,_,_,_,_,h=>by unfold o7 at h;exact h.elim
  | _,.blk id cs s,t,f,hp,vs,h=>by
    unfold o7 at h
    obtain ⟨h1,h2⟩:=yF s t f hp vs h
    exact ⟨h1,λr hr=>h2 r hr⟩
  | _,.un k c s,t,f,hp,vs,h=>by
    unfold o7 at h
    obtain ⟨h1,h2⟩:=yF s t f hp vs h
    exact ⟨h1,λr hr=>by cases k <;> exact h2 r hr⟩
  | _,.sc cs s,t,f,hp,vs,h=>by
    unfold o7 at h
    obtain ⟨h1,h2⟩:=yF s t f hp vs h
    exact ⟨h1,λr hr=>h2 r hr⟩
  | _,.jS J s,t,f,hp,vs,h=>by
    unfold o7 at h
    cases t <;> first | exact h.elim | skip
    rename_i t'
    obtain ⟨h1,h2⟩:=yF s t' f hp vs h
    refine ⟨h1,λr hr=>?_⟩
    obtain ⟨c,g1,rfl⟩:=OS (show Go.Pv.esc t'.run=some r from hr)
    exact ⟨(λe=>by cases e),h2 c g1⟩
theorem XI {i:Ix} {s:Sk P i} {r:i.d} {id:Nat} {cs:List Code} {c:Code} {S:AS} (h:dI P n (QS P n (.blk id cs s) r) [c] S):dI P n (QS P n s r) (.block id c :: cs) S :=
  IR (Tr.mono (kY h) λe S h=>by
    cases e with
    | exit i =>
      have h:cond (Nat.beq i id) (dI P n (QS P n s r) cs S) (QS P n s r (.exit i) S):=h
      show if i=id then _ else _
      cases hb:Nat.beq i id with
      | true=>rw [hb] at h;rw [if_pos (Nat.eq_of_beq_eq_true hb)];exact h
      | false=>rw [hb] at h;rw [if_neg (Nat.ne_of_beq_eq_false hb)];exact h
    | _=>exact h)
theorem aJ3 {i:Ix} {s:Sk P i} {r:i.d} {cs:List Code} {c:Code} {S:AS} (h:dI P n (QS P n (.sc cs s) r) [c] S):dI P n (QS P n s r) (.scope c :: cs) S:=by
  intro s a hs
  refine V9 (kJ (kY h s a hs) ?_)
  rintro e a1 w1 ⟨S1,s1,h1,h2,h3,h4⟩
  cases e with
  | goto l=>exact h2.elim
  | _=>exact ⟨S1,s1,h1,h2,h3,h4⟩
theorem YQ {F:Go.Exit->AS->Prop} {x:Code} {cs:List Code} {S:AS} (k:Nat) (h:dI P n (UQ P n x F k) [x] S):dI P n F (.loop x :: cs) S:=by
  refine ES (ι:={ p:Nat×AS // dI P n (UQ P n x F p.1) [x] p.2 }) (λp=>p.1.2) (λp=>p.1.1) ⟨(k,S),h⟩ (λs=>⟨λt y hy=>⟨y,hy,λ_ h=>h⟩,λh=>h,λ_ h=>h⟩) ?_
  rintro ⟨⟨m,S1⟩,hp⟩
  refine Tr.mono (kY hp) λe S2 h2=>?_
  cases m with
  | zero=>cases e with
    | normal=>exact h2.elim
    | _=>exact h2
  | succ m=>cases e with
    | normal=>exact ⟨⟨(m,S2),h2⟩,Nat.lt_succ_self m,λs=>⟨λt y hy=>⟨y,hy,λ_ h=>h⟩,λh=>h,λ_ h=>h⟩⟩
    | _=>exact h2
variable {B:Type} {hp0:AH} {l:List (Nat×AV)} {m:List (Nat×aW)} {W:List Nat} {N:(Nat->Nat)->B->List (Nat×AV)} {O:(Nat->Nat)->B->List OE}
theorem AL {a:B} {f:FS} {hp:AH} (h:JW hp0 l m W N O a f hp):∃ os,mR (uV hp0 W (vr hp)) hp0 (O (uV hp0 W (vr hp)) a)=some os/\AS.kS ⟨f,hp⟩ ⟨kn (N (uV hp0 W (vr hp)) a++l),hk (os++m)⟩:=by
  unfold JW at h
  split at h
  · rename_i os ho;exact ⟨os,ho,JY h.1 h.2⟩
  · exact h.elim
theorem aAZ (S:AS):S.kS S:=λs hs=>⟨λt x hx=>⟨x,hx,λ_ h=>h⟩,hs,λ_ h=>h⟩
theorem WS {i:Ix} {s:Sk P i} {x:Code} {cs:List Code} {y:WT P (.b B)} {k:B->WT P i} {S:AS} (h1:∀ b,y.run=some b->dI P n (QS P n (.jn (JW hp0 l m W N O)) b) [x] S)
    (h2:∀ b u os,mR (uV hp0 W u) hp0 (O (uV hp0 W u) b)=some os->∀ r,(k b).run=some r->dI P n (QS P n s r) cs ⟨kn (N (uV hp0 W u) b++l),hk (os++m)⟩) {r:i.d} (hr:(y.run.bind λb=>(k b).run)=some r):dI P n (QS P n s r) (x :: cs) S:=by
  obtain ⟨b,g1,g2⟩:=dD hr
  refine Tr.BZ (kY (h1 b g1)) ?_
  rintro e S' ⟨rfl,hj⟩
  obtain ⟨os,q1,q2⟩:=AL hj
  exact ⟨_,q2,h2 b _ os q1 r g2⟩
theorem Y2 {i:Ix} {s:Sk P i} {x:Code} {cs:List Code} {y:WT P (.s B i)} {k:B->WT P i} {S:AS} (h1:∀ b,y.run=some b->dI P n (QS P n (.jS (JW hp0 l m W N O) s) b) [x] S)
    (h2:∀ b u os,mR (uV hp0 W u) hp0 (O (uV hp0 W u) b)=some os->∀ r,(k b).run=some r->dI P n (QS P n s r) cs ⟨kn (N (uV hp0 W u) b++l),hk (os++m)⟩) {r:i.d} (hr:(y.run.bind (sel λb=>(k b).run))=some r):dI P n (QS P n s r) (x :: cs) S:=by
  obtain ⟨z,g1,g2⟩:=dD hr
  refine Tr.BZ (kY (h1 z g1)) ?_
  intro e S' hq
  cases z with
  | inl b =>
    obtain ⟨rfl,hj⟩:=hq
    obtain ⟨os,q1,q2⟩:=AL hj
    exact ⟨_,q2,h2 b _ os q1 r g2⟩
  | inr c =>
    obtain ⟨hne,hj⟩:=hq
    have e1:c=r:=Option.some.inj (L4 g2)
    subst e1
    refine ⟨S',aAZ _,?_⟩
    cases e with
    | normal=>exact (hne rfl).elim
    | _=>exact hj
theorem aKX {i:Ix} {s:Sk P i} {c:Code} {cs:List Code} {body:B->WT P (.s B i)} {S:AS} {v:B} (h0:JW hp0 l m W N O v S.sl S.hp)
    (h2:∀ v u os,mR (uV hp0 W u) hp0 (O (uV hp0 W u) v)=some os->∀ z,(body v).run=some z->dI P n (QS P n (.jS (JW hp0 l m W N O) s) z) [c] ⟨kn (N (uV hp0 W u) v++l),hk (os++m)⟩)
    {q:Nat} {r:i.d} (hr:iter (λv=>(body v).run) q v=some r):dI P n (QS P n s r) (.loop c :: cs) S:=by
  obtain ⟨os0,q1,q2⟩:=AL h0
  refine RG (ι:={ p:Nat×B×(Nat->Nat)×List (Nat×aW) // iter (λv=>(body v).run) p.1 p.2.1=some r/\mR (uV hp0 W p.2.2.1) hp0 (O (uV hp0 W p.2.2.1) p.2.1)=some p.2.2.2 }) (λp=>⟨kn (N (uV hp0 W p.1.2.2.1) p.1.2.1++l),hk (p.1.2.2.2++m)⟩) (λp=>p.1.1) ⟨(q,v,vr S.hp,os0),hr,q1⟩ q2 ?_
  rintro ⟨⟨q,v,u,os⟩,hi,ho⟩
  cases q with
  | zero=>cases hi
  | succ q =>
    have hi:((body v).run.bind (sel λv'=>iter (λv=>(body v).run) q v'))=some r:=hi
    obtain ⟨z,g1,g2⟩:=dD hi
    refine Tr.mono (kY (h2 v u os ho z g1)) ?_
    intro e S' hq
    cases z with
    | inl v' =>
      obtain ⟨rfl,hj⟩:=hq
      obtain ⟨os',p1,p2⟩:=AL hj
      exact ⟨⟨(q,v',vr S'.hp,os'),g2,p1⟩,Nat.lt_succ_self q,p2⟩
    | inr j =>
      obtain ⟨hne,hj⟩:=hq
      have e1:j=r:=Option.some.inj (L4 g2)
      subst e1
      cases e with
      | normal=>exact (hne rfl).elim
      | _=>exact hj
theorem GL (hm:P.follows .mixedOrders=true) {K:KT P} (hK:A8 P n K) {i:Ix} {t:WT P i} {s:Sk P i} {x:Code} {cs:List Code} {f:FS} {hp:AH} {vs:List (Nat×Nat)} (h:yP K n t s x cs f hp vs):dO vs/\l5 P n t s (.c (x :: cs)) ⟨f,hp⟩:=by
  unfold yP at h
  split at h
  · rename_i id ops
    split at h
    · rename_i hnd
      obtain ⟨a,b⟩:=hK _ _ _ _ _ _ h
      refine ⟨a,λr hr=>?_⟩
      have e:ops=ops.toList.toArray:=by simp
      rw [e]
      exact cB (λK' hK'=>b r hr K' hK') hnd
    · exact h.elim
  · rename_i id ops
    split at h
    · rename_i rd wr t'
      cases h with
      | mk h e a =>
        refine ⟨a,λr hr=>?_⟩
        have e2:ops=ops.toList.toArray:=by simp
        rw [e2]
        exact AM _ _ _ hm e (λC K' hK'=>(hK _ _ _ _ _ _ (h C)).2 r hr K' hK')
    · rename_i rd kp dk eff pi t'
      cases h with
      | mk h e a =>
        obtain ⟨_,b⟩:=hK _ _ _ _ _ _ h
        refine ⟨a,λr hr=>?_⟩
        have e2:ops=ops.toList.toArray:=by simp
        rw [e2]
        exact C8 _ _ _ _ _ hm e (λK' hK'=>b r hr K' hK')
    · exact h.elim
  · obtain ⟨a,b⟩:=hK _ _ _ _ _ _ h
    exact ⟨a,λr hr=>XI (b r hr)⟩
  · obtain ⟨a,b⟩:=xS hK _ _ _ _ _ _ h
    exact ⟨a,λr hr=>oV (b r hr)⟩
  · obtain ⟨a,b⟩:=yF (n:=n) _ _ _ _ _ h
    exact ⟨a,λr hr=>iZ (b r hr)⟩
  · split at h
    · rename_i hc
      obtain ⟨a,b⟩:=hK _ _ _ _ _ _ h
      exact ⟨a,λr hr=>yJ hc (b r hr)⟩
    · rename_i hc
      obtain ⟨a,b⟩:=hK _ _ _ _ _ _ h
      exact ⟨a,λr hr=>rA hc (b r hr)⟩
    · exact h.elim
  · obtain ⟨a,b⟩:=hK _ _ _ _ _ _ h
    exact ⟨a,λr hr=>aJ3 (b r hr)⟩
  · rename_i c
    split at h
    · rename_i k t'
      obtain ⟨a,b⟩:=hK _ _ _ _ _ _ h
      exact ⟨a,λr hr=>YQ k (b r hr)⟩
    · rename_i L M W N O q v body
      obtain ⟨l,h⟩:=vM h
      obtain ⟨m,h⟩:=rV h
      cases h with
      | mk h2 h1 a =>
        refine ⟨a,λr hr=>aKX (S:=⟨f,hp⟩) h1 (λv u os ho z hz=>?_) (q:=q) hr⟩
        have h3:=h2 v u
        rw [ho] at h3
        exact (hK _ _ _ _ _ _ h3).2 z hz
    · exact h.elim
  · exact h.elim
theorem aCX (hm:P.follows .mixedOrders=true) {K:KT P} (hK:A8 P n K) {i:Ix} {t:WT P i} {s:Sk P i} {x:Code} {cs:List Code} {f:FS} {hp:AH} {vs:List (Nat×Nat)} (h:KU K n t s x cs f hp vs):dO vs/\l5 P n t s (.c (x :: cs)) ⟨f,hp⟩:=by
  unfold KU at h
  split at h
  · obtain ⟨a,b⟩:=hK _ _ _ _ _ _ h
    exact ⟨a,λr hr=>bR (b r hr)⟩
  · obtain ⟨a,b⟩:=hK _ _ _ _ _ _ h
    exact ⟨a,λr hr=>kE (b r hr)⟩
  · obtain ⟨a,b⟩:=hK _ _ _ _ _ _ h
    exact ⟨a,λr hr=>V8 (b r hr)⟩
  · split at h
    · obtain ⟨l,h⟩:=vM h
      obtain ⟨m,h⟩:=rV h
      cases h with
      | mk h1 h2 _ a =>
        refine ⟨a,λr hr=>WS (hK _ _ _ _ _ _ h1).2 (λb u os ho r hr=>?_) hr⟩
        have h3:=h2 b u
        rw [ho] at h3
        exact (hK _ _ _ _ _ _ h3).2 r hr
    · obtain ⟨a,b⟩:=GL hm hK h
      exact ⟨a,λr hr=>b r hr⟩
    · obtain ⟨l,h⟩:=vM h
      obtain ⟨m,h⟩:=rV h
      cases h with
      | mk h1 h2 _ a =>
        refine ⟨a,λr hr=>Y2 (hK _ _ _ _ _ _ h1).2 (λb u os ho r hr=>?_) hr⟩
        have h3:=h2 b u
        rw [ho] at h3
        exact (hK _ _ _ _ _ _ h3).2 r hr
    · obtain ⟨a,b⟩:=GL hm hK h
      exact ⟨a,λr hr=>b r hr⟩
    · exact GL hm hK h
end
section
variable {P:Program} {n:NT} {tb:iC}
theorem N9 {o:Oper} {c:Call} (ho:o.op=.call c) {cl:Callee} (hc:c.callee=cl):o.op=.call { callee:=cl,args:=c.args.toList.toArray,argTypes:=c.argTypes }:=by
  rw [ho];cases c;simp at hc ⊢;exact hc
theorem GD {o:Oper} {c:Call} (ho:o.op=.call c) {b:Builtin} (hc:c.callee=.builtin b) {x:Operand} {T:TypeId} (hx:c.args.toList=[x]) (hT:c.argTypes.toList=[T]):o.op=.call { callee:=.builtin b,args:=#[x],argTypes:=#[T] }:=by
  rw [ho];obtain ⟨c1,c2,c3⟩:=c
  simp only at hc hx hT ⊢
  have e2:c2=#[x]:=by rw [<- hx]
  have e3:c3=#[T]:=by rw [<- hT]
  rw [hc,e2,e3]
theorem gZ {f:FS} {hp H:AH} (x:Operand):(AS.mk f H).ev x=(AS.mk f hp).ev x:=by cases x <;> rfl
theorem I5 {hp:AH} {id:Nat} {x:Option aW} {j:Nat} (h:some id≠some j):upd hp id x j=hp j:=upd_ne _ _ (λe=>h (by rw [e]))
theorem yO {S:AS}:∀ {l:List Operand} {k:List AV->Prop},mU S l k->∃ us,k us/\∀ k':List AV->Prop,k' us->mU S l k'
  | [],k,h=>⟨[],h,λ_ h=>h⟩
  | x :: r,k,h=>by
    unfold mU at h
    split at h
    · rename_i v hv
      obtain ⟨us,h1,h2⟩:=yO h
      exact ⟨v :: us,h1,λk' h'=>by unfold mU;simp only [hv];exact h2 (λus=>k' (v :: us)) h'⟩
    · exact h.elim
theorem OV {c:Bool} {p:Prop} (h:cond c p False):c=true/\p:=by cases c with | true=>exact ⟨rfl,h⟩ | false=>exact h.elim
theorem IT {S:AS} {o:Oper} {vs:List (Nat×Nat)} {k:List (Nat×Nat)->AV->Prop} (h:jT tb S o vs k):∃ us v,k us v/\∀ k':List (Nat×Nat)->AV->Prop,k' us v->jT tb S o vs k':=by
  unfold jT at h
  split at h
  all_goals (try exact h.elim)
  all_goals (try (repeat' (split at h)))
  all_goals (try exact h.elim)
  all_goals (try (refine ⟨_,_,h,λk' h'=>?_⟩;unfold jT;simp only [*];done))
  all_goals (try (refine ⟨_,_,h,λk' h'=>?_⟩;unfold jT;simp only [*];exact h'))
  all_goals (try (obtain ⟨hc,hk⟩:=OV h;clear h;refine ⟨_,_,hk,λk' h'=>?_⟩;clear hk;unfold jT;simp only [*,cond_true];done))
  all_goals (try (obtain ⟨hc,hk⟩:=OV h;clear h;refine ⟨_,_,hk,λk' h'=>?_⟩;clear hk;unfold jT;simp only [*,cond_true];exact h'))
  · obtain ⟨us,h1,h2⟩:=yO h
    split at h1
    · rename_i cs hcs
      refine ⟨_,_,h1,λk' h'=>?_⟩
      unfold jT
      simp only [*]
    · exact h1.elim
  · obtain ⟨us,h1,h2⟩:=yO h
    obtain ⟨ws,h3,h4⟩:=yO h1
    refine ⟨_,_,h3,λk' h'=>?_⟩
    unfold jT
    simp only [*]
theorem nO:∀ {l:List AV} {k:List AV->Prop},oJ l k->k l
  | [],k,h=>h
  | x :: r,k,h=>nO (l:=r) (k:=λr'=>k (x :: r')) h
theorem TR {pl:List (Nat×Nat)}:∀ {l:List (Nat×AV)} {cs:List AV} {k:List AV->Prop},CG pl cs l k->∃ ds,pE (λi=>pl[i]?) cs l=some ds/\k ds
  | [],cs,k,h=>⟨cs,rfl,h⟩
  | (i,v) :: r,cs,k,h=>by
    unfold CG at h;unfold pE
    split at h
    · exact h.elim
    · rename_i off size hp
      split at h
      · rename_i hc
        simp only [hp,hc,if_true]
        exact TR (nO h)
      · exact h.elim
theorem TO {S:AS} {o:Oper} {vs:List (Nat×Nat)} {k:List (Nat×Nat)->AV->Prop} (h:FI tb S o vs k):jT tb S o vs k:=by
  unfold FI at h
  split at h
  · rename_i T ps ho
    split at h
    · rename_i pl h1
      split at h
      · rename_i zs h2
        split at h
        · rename_i h3
          obtain ⟨us,h,h4⟩:=yO h
          obtain ⟨ds,h5,h6⟩:=TR (nO h)
          unfold jT
          simp only [ho,h1,h2,h3]
          refine h4 _ ?_
          simp only [h5]
          exact h6
        · exact h.elim
      · exact h.elim
    · exact h.elim
  · exact h
theorem BS:∀ {l:List (List AV)} {k:List (List AV)->Prop},DX l k->k l
  | [],k,h=>h
  | x :: r,k,h=>BS (l:=r) (k:=λr'=>k (x :: r')) h
theorem DT {v:AV} {k:AV->Prop} (h:sN v k):k v:=by
  unfold sN at h
  split at h
  · exact nO (k:=λcs=>k (.agg cs)) h
  · exact nO (k:=λcs=>k (.pp cs)) h
  · exact h
theorem UU (ht:fE P tb) {f:FS} {hp:AH} {o:Oper} {i:Ix} {t:WT P i} {vs:List (Nat×Nat)} {k:WT P i->List (Nat×Nat)->AV->AH->Option Nat->Prop} (h:uF tb f hp o t vs k) :
    ∃ t' us Out ch,(∀ r,t.run=some r->t'.run=some r)/\(∃ v H',k t' us v H' ch)/\(∀ v H',Out v H'->k t' us v H' ch)/\(dO us->dO vs)/\(dO us->bW P o ⟨f,hp⟩ no any Out)/\(∀ v H',Out v H'->∀ j,ch≠some j->H' j=hp j):=by
  unfold uF at h
  split at h
  · rename_i T ho
    split at h
    · rename_i id t'
      split at h
      · rename_i zs hz
        split at h
        · rename_i h1
          have h:=nO h
          rw [List.length_map] at h
          exact ⟨t',vs,_,some id,λr hr=>hr,⟨_,_,h 0⟩,(by rintro _ _ ⟨v,-,rfl,rfl⟩;exact h v),λe=>e,λ_=>xZ id .any ho (ht.BA hz) h1,(by rintro _ _ ⟨v,-,rfl,rfl⟩ j hj;exact I5 hj)⟩
        · exact h.elim
      · exact h.elim
    · exact h.elim
  · rename_i T x ho
    split at h
    · rename_i id t'
      split at h
      · rename_i v hx
        split at h
        · rename_i h1
          have h:=nO h
          exact ⟨t',vs,_,some id,λr hr=>hr,⟨_,_,h 0⟩,(by rintro _ _ ⟨v,-,rfl,rfl⟩;exact h v),λe=>e,λ_=>BD id .any ho hx h1,(by rintro _ _ ⟨v,-,rfl,rfl⟩ j hj;exact I5 hj)⟩
        · exact h.elim
      · exact h.elim
    · exact h.elim
  · rename_i T x y ho
    split at h
    · rename_i m b hT
      split at h
      · rename_i id aD row off hx
        split at h
        · rename_i v hy
          split at h
          · rename_i el sz mt app ve rows hob
            split at h
            · rename_i r hr
              split at h
              · rename_i hc
                have h:=BS (nO h)
                simp only [Bool.and_eq_true] at hc
                obtain ⟨⟨⟨c1,c2⟩,c3⟩,c4⟩:=hc
                exact ⟨t,_,_,some id,λr hr=>hr,⟨_,_,h⟩,(by rintro _ _ ⟨rfl,rfl⟩;exact h),λe=>e.2,λe=>(dZ ho (ht.b.mH hT) hx hy hob e.1 c1 hr (Nat.eq_of_beq_eq_true c2) c3 c4).d9 (λ_ h=>h) λ_ h=>h.elim,(by rintro _ _ ⟨rfl,rfl⟩ j hj;exact I5 hj)⟩
              · exact h.elim
            · exact h.elim
          · exact h.elim
        · exact h.elim
      · exact h.elim
    · exact h.elim
  · rename_i c ho
    split at h
    · rename_i hc
      split at h
      · rename_i x hx
        split at h
        · rename_i T hT
          have ho':=GD ho hc hx hT
          split at h
          · rename_i el he
            split at h
            · rename_i sz xs hv
              exact ⟨t,vs,_,none,λr hr=>hr,⟨_,_,h⟩,(by rintro _ _ ⟨rfl,rfl⟩;exact h),λe=>e,λ_=>(mY ho' (ht.nW he) hv (.list _ _)).d9 (λ_ h=>h) λ_ h=>h.elim,(by rintro _ _ ⟨rfl,rfl⟩ j hj;rfl)⟩
            · rename_i id aD off len hv
              split at h
              · rename_i ob hob
                exact ⟨t,_,_,none,λr hr=>hr,⟨_,_,h⟩,(by rintro _ _ ⟨rfl,rfl⟩;exact h),λe=>e.2,λe=>(mY ho' (ht.nW he) hv (.sl hob e.1)).d9 (λ_ h=>h) λ_ h=>h.elim,(by rintro _ _ ⟨rfl,rfl⟩ j hj;rfl)⟩
              · exact h.elim
            · rename_i a len cap hv
              exact ⟨t,vs,_,none,λr hr=>hr,⟨_,_,h⟩,(by rintro _ _ ⟨rfl,rfl⟩;exact h),λe=>e,λ_=>(mY ho' (ht.nW he) hv (.nil _ _ _)).d9 (λ_ h=>h) λ_ h=>h.elim,(by rintro _ _ ⟨rfl,rfl⟩ j hj;rfl)⟩
            · exact h.elim
          · exact h.elim
        · exact h.elim
      · exact h.elim
    · exact h.elim
  · replace h:=TO h
    have h:jT tb ⟨f,hp⟩ o vs λvs v=>k t vs v hp none:=by
      obtain ⟨us,v,h1,h2⟩:=IT h
      refine h2 _ ?_
      split at h1
      · exact DT h1
      · exact h1
    obtain ⟨v,us,h1,h2,h3⟩:=vK ht h
    exact ⟨t,us,_,none,λr hr=>hr,⟨_,_,h1⟩,(by rintro _ _ ⟨rfl,rfl⟩;exact h1),h2,λe=>(h3 e).d9 (λ_ h=>h) λ_ h=>h.elim,(by rintro _ _ ⟨rfl,rfl⟩ j hj;rfl)⟩
theorem IS {f:FS} {hp H:AH}:∀ {l:List Operand} {k:List AV->Prop},mU ⟨f,hp⟩ l k->mU ⟨f,H⟩ l k
  | [],k,h=>h
  | x :: r,k,h=>by
    unfold mU at h ⊢
    rw [gZ (hp:=hp)]
    split at h
    · rename_i v hv;exact IS h
    · exact h.elim
theorem P4 {f:FS} {hp H:AH} {o:Oper} {vs:List (Nat×Nat)} {k:List (Nat×Nat)->AV->Prop} (hag:∀ id,id∈qG f o->H id=hp id) (h:jT tb ⟨f,hp⟩ o vs k):jT tb ⟨f,H⟩ o vs k:=by
  have hg:∀ x id aD row off,(AS.mk f hp).ev x=some (.pt id aD row off)->(AS.mk f H0).ev x=some (.pt id aD row off):=λx id aD row off e=>by rw [gZ (hp:=hp)];exact e
  unfold jT at h ⊢
  unfold qG at hag
  cases hop:o.op <;> simp only [hop] at h hag ⊢ <;> try exact h.elim
  case move x=>rw [gZ (hp:=hp)];exact h
  case assign x=>rw [gZ (hp:=hp)];exact h
  case load T x =>
    split at h
    · rw [gZ (hp:=hp)]
      split at h
      · rename_i cs hx;exact h
      · rename_i id aD row off hx
        simp only [hg _ _ _ _ _ hx,List.mem_singleton] at hag
        rw [hag id rfl];exact h
      · exact h.elim
    · exact h.elim
  case fieldAddr T x j =>
    split at h
    · rw [gZ (hp:=hp)]
      split at h
      · exact h
      · rename_i id aD row off hx
        simp only [hg _ _ _ _ _ hx,List.mem_singleton] at hag
        rw [hag id rfl];exact h
      · exact h.elim
    · exact h.elim
  case nilCheck x =>
    rw [gZ (hp:=hp)]
    split at h
    · exact h
    · rename_i id aD row off hx
      simp only [hg _ _ _ _ _ hx,List.mem_singleton] at hag
      rw [hag id rfl];exact h
    · exact h.elim
  case field T x j =>
    rw [gZ (hp:=hp)];exact h
  case extract x j=>rw [gZ (hp:=hp)];exact h
  case pick c x y=>rw [gZ (hp:=hp) c,gZ (hp:=hp) x,gZ (hp:=hp) y];exact h
  case unOp u T x =>
    cases u <;> simp only at h ⊢ <;> first | exact h.elim | (rw [gZ (hp:=hp)];exact h)
  case convert T1 T2 x=>rw [gZ (hp:=hp)];exact h
  case binOp b T x y Ty=>rw [gZ (hp:=hp) x,gZ (hp:=hp) y];exact h
  case build T ps =>
    split at h
    · split at h
      · split at h
        · exact IS h
        · exact h.elim
      · exact h.elim
    · exact h.elim
  case makeFunc fn as cs =>
    have go:∀ (l:List Operand) {k1 k2:List AV->Prop},(∀ us,k1 us->k2 us)->mU ⟨f,hp⟩ l k1->mU ⟨f,H⟩ l k2:=by
      intro l
      induction l with
      | nil=>intro k1 k2 hk h;exact hk _ h
      | cons x r ih =>
        intro k1 k2 hk h
        unfold mU at h ⊢
        rw [gZ (hp:=hp)]
        split at h
        · exact ih (λus hu=>hk _ hu) h
        · exact h.elim
    exact go _ (λus hu=>IS hu) h
theorem UY (ht : fE P tb) {f : FS} {hp : AH} {o : Oper} {i : Ix} {t : WT P i} {vs : List (Nat × Nat)} {k : WT P i -> List (Nat × Nat) -> AV -> Prop} (h : uF tb f hp o t vs λt' vs v _ ch => match ch with
      | none=>k t' vs v
      | some _=>False) :
    ∃ us v,k t us v/\(dO us->dO vs)/\(dO us->∀ H,(∀ id,id∈qG f o->H id=hp id)->bS P o ⟨f,H⟩ v):=by
  unfold uF at h
  split at h
  · split at h
    · split at h
      · split at h
        · exact (nO h 0).elim
        · exact h.elim
      · exact h.elim
    · exact h.elim
  · split at h
    · split at h
      · split at h
        · exact (nO h 0).elim
        · exact h.elim
      · exact h.elim
    · exact h.elim
  · split at h
    · split at h
      · split at h
        · split at h
          · split at h
            · split at h
              · exact (BS (nO h)).elim
              · exact h.elim
            · exact h.elim
          · exact h.elim
        · exact h.elim
      · exact h.elim
    · exact h.elim
  · rename_i c ho
    split at h
    · rename_i hc
      split at h
      · rename_i x hx
        split at h
        · rename_i T hT
          have ho':=GD ho hc hx hT
          split at h
          · rename_i el he
            split at h
            · rename_i sz xs hv
              exact ⟨vs,_,h,λe=>e,λ_ H _=>mY ho' (ht.nW he) ((gZ (hp:=hp) x).trans hv) (.list _ _)⟩
            · rename_i id aD off len hv
              split at h
              · rename_i ob hob
                refine ⟨_,_,h,λe=>e.2,λe H hag=>?_⟩
                have hm:id∈qG f o:=by
                  unfold qG
                  simp only [ho',gZ (hp:=hp),hv,List.mem_singleton]
                exact mY ho' (ht.nW he) ((gZ (hp:=hp) x).trans hv) (.sl ((hag id hm).trans hob) e.1)
              · exact h.elim
            · rename_i a len cap hv
              exact ⟨vs,_,h,λe=>e,λ_ H _=>mY ho' (ht.nW he) ((gZ (hp:=hp) x).trans hv) (.nil _ _ _)⟩
            · exact h.elim
          · exact h.elim
        · exact h.elim
      · exact h.elim
    · exact h.elim
  · replace h:=TO h
    obtain ⟨us,v,h1,h2⟩:=IT h
    have h1:k t us v:=by
      split at h1
      · exact DT h1
      · exact h1
    have q:=vK ht (h2 (λus' v'=>us'=us/\v'=v) ⟨rfl,rfl⟩)
    obtain ⟨v',us',⟨rfl,rfl⟩,q2,_⟩:=q
    refine ⟨us',v',h1,q2,λe H hag=>?_⟩
    obtain ⟨v2,us2,⟨rfl,rfl⟩,_,g3⟩:=vK ht (P4 hag (h2 (λus1 v1=>us1=us'/\v1=v') ⟨rfl,rfl⟩))
    exact g3 e
end
end Go.Pv
