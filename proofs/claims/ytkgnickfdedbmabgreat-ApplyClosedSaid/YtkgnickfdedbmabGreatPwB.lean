/- Walks told by trees: what is shown holds. -/
import Derived.Test.YtkgnickfdedbmabGreatPwA
set_option linter.unusedVariables false
set_option linter.unusedSimpArgs false
namespace Go.Pv
section
variable {P:Program} {n:NT} {tb:dX}
def AP (P:Program) (n:NT) (K:KT P):Prop:=∀ {i:Ix} (t:WT P i) (s:Sk P i) (md:Mw) (f:FS) (hp:AH) (vs:List (Nat×Nat)),K t s md f hp vs->bN vs/\jN P n t s md ⟨f,hp⟩
theorem aN2:∀ {i:Ix} (s:Sk P i) (t:WT P i) (f:FS) (hp:AH) (vs:List (Nat×Nat)),qK s t f hp vs->bN vs/\∀ r,t.run=some r->QS P n s r .normal ⟨f,hp⟩
  | _,.fn J hJ,t,f,hp,vs,h=>by
    unfold qK at h
    cases t <;> first | exact h.elim | skip
    exact ⟨(hJ h).1,λr hr=>by cases hr;exact ⟨.inl rfl,(hJ h).2⟩⟩
  | _,.jn J,t,f,hp,vs,h=>by
    unfold qK at h
    cases t <;> first | exact h.elim | skip
    cases h with | mk h a=>exact ⟨a,λr hr=>by cases hr;exact ⟨rfl,h⟩⟩
  | _,.dF J s,t,f,hp,vs,h=>by
    unfold qK at h
    cases t <;> first | exact h.elim | skip
    cases h with | mk h a=>exact ⟨a,λr hr=>by have:=YY hr;subst this;exact ⟨rfl,h⟩⟩
  | _,.blk _ _ _,_,_,_,_,h=>by unfold qK at h;exact h.elim
  | _,.un _ _ _,_,_,_,_,h=>by unfold qK at h;exact h.elim
  | _,.sc _ _,_,_,_,_,h=>by unfold qK at h;exact h.elim
theorem xS {K:KT P} (hK:AP P n K) (j:Nat):∀ {i:Ix} (s:Sk P i) (t:WT P i) (f:FS) (hp:AH) (vs:List (Nat×Nat)),lX K j s t f hp vs->bN vs/\∀ r,t.run=some r->QS P n s r (.exit j) ⟨f,hp⟩
  | _,.fn _ _,_,_,_,_,h=>by unfold lX at h;exact h.elim
  | _,.jn _,_,_,_,_,h=>by unfold lX at h;exact h.elim
  | _,.blk id cs s,t,f,hp,vs,h=>by
    unfold lX at h
    cases hb:Nat.beq j id with
    | true =>
      rw [hb] at h
      obtain ⟨h1,h2⟩:=hK _ _ _ _ _ _ h
      refine ⟨h1,λr hr=>?_⟩
      show cond (Nat.beq j id) _ _
      rw [hb];exact h2 r hr
    | false =>
      rw [hb] at h
      obtain ⟨h1,h2⟩:=xS hK j s t f hp vs h
      refine ⟨h1,λr hr=>?_⟩
      show cond (Nat.beq j id) _ _
      rw [hb];exact h2 r hr
  | _,.un k c s,t,f,hp,vs,h=>by
    unfold lX at h
    obtain ⟨h1,h2⟩:=xS hK j s t f hp vs h
    exact ⟨h1,λr hr=>by cases k <;> exact h2 r hr⟩
  | _,.sc cs s,t,f,hp,vs,h=>by
    unfold lX at h
    obtain ⟨h1,h2⟩:=xS hK j s t f hp vs h
    exact ⟨h1,λr hr=>h2 r hr⟩
  | _,.dF J s,t,f,hp,vs,h=>by
    unfold lX at h
    cases t <;> first | exact h.elim | skip
    rename_i t'
    obtain ⟨h1,h2⟩:=xS hK j s t' f hp vs h
    refine ⟨h1,λr hr=>?_⟩
    obtain ⟨c,g1,rfl⟩:=O0 (show Go.Pv.esc t'.run=some r from hr)
    exact ⟨(λe=>by cases e),h2 c g1⟩
theorem y5:∀ {i:Ix} (s:Sk P i) (t:WT P i) (f:FS) (hp:AH) (vs:List (Nat×Nat)),lN s t f hp vs->bN vs/\∀ r,t.run=some r->QS P n s r .ret ⟨f,hp⟩
  | _,.fn J hJ,t,f,hp,vs,h=>by
    unfold lN at h
    cases t <;> first | exact h.elim | skip
    exact ⟨(hJ h).1,λr hr=>by cases hr;exact ⟨.inr rfl,(hJ h).2⟩⟩
  | _,.jn _,_,_,_,_,h=>by unfold lN at h;exact h.elim
  | _,.blk id cs s,t,f,hp,vs,h=>by
    unfold lN at h
    obtain ⟨h1,h2⟩:=y5 s t f hp vs h
    exact ⟨h1,λr hr=>h2 r hr⟩
  | _,.un k c s,t,f,hp,vs,h=>by
    unfold lN at h
    obtain ⟨h1,h2⟩:=y5 s t f hp vs h
    exact ⟨h1,λr hr=>by cases k <;> exact h2 r hr⟩
  | _,.sc cs s,t,f,hp,vs,h=>by
    unfold lN at h
    obtain ⟨h1,h2⟩:=y5 s t f hp vs h
    exact ⟨h1,λr hr=>h2 r hr⟩
  | _,.dF J s,t,f,hp,vs,h=>by
    unfold lN at h
    cases t <;> first | exact h.elim | skip
    rename_i t'
    obtain ⟨h1,h2⟩:=y5 s t' f hp vs h
    refine ⟨h1,λr hr=>?_⟩
    obtain ⟨c,g1,rfl⟩:=O0 (show Go.Pv.esc t'.run=some r from hr)
    exact ⟨(λe=>by cases e),h2 c g1⟩
theorem XL {i:Ix} {s:Sk P i} {r:i.d} {id:Nat} {cs:List Code} {c:Code} {S:AS} (h:bR P n (QS P n (.blk id cs s) r) [c] S):bR P n (QS P n s r) (.block id c :: cs) S :=
  QC (Tr.mono (jG h) λe S h=>by
    cases e with
    | exit i =>
      have h:cond (Nat.beq i id) (bR P n (QS P n s r) cs S) (QS P n s r (.exit i) S):=h
      show if i=id then _ else _
      cases hb:Nat.beq i id with
      | true=>rw [hb] at h;rw [if_pos (Nat.eq_of_beq_eq_true hb)];exact h
      | false=>rw [hb] at h;rw [if_neg (Nat.ne_of_beq_eq_false hb)];exact h
    | _=>exact h)
theorem aFU {i:Ix} {s:Sk P i} {r:i.d} {cs:List Code} {c:Code} {S:AS} (h:bR P n (QS P n (.sc cs s) r) [c] S):bR P n (QS P n s r) (.scope c :: cs) S:=by
  intro s a hs
  refine TK (iJ (jG h s a hs) ?_)
  rintro e a1 w1 ⟨S1,s1,h1,h2,h3,h4⟩
  cases e with
  | goto l=>exact h2.elim
  | _=>exact ⟨S1,s1,h1,h2,h3,h4⟩
theorem ZD {F:Go.Exit->AS->Prop} {x:Code} {cs:List Code} {S:AS} (k:Nat) (h:bR P n (UQ P n x F k) [x] S):bR P n F (.loop x :: cs) S:=by
  refine VQ (ι:={ p:Nat×AS // bR P n (UQ P n x F p.1) [x] p.2 }) (λp=>p.1.2) (λp=>p.1.1) ⟨(k,S),h⟩ (λs=>⟨λt y hy=>⟨y,hy,λ_ h=>h⟩,λh=>h,λ_ h=>h⟩) ?_
  rintro ⟨⟨m,S1⟩,hp⟩
  refine Tr.mono (jG hp) λe S2 h2=>?_
  cases m with
  | zero=>cases e with
    | normal=>exact h2.elim
    | _=>exact h2
  | succ m=>cases e with
    | normal=>exact ⟨⟨(m,S2),h2⟩,Nat.lt_succ_self m,λs=>⟨λt y hy=>⟨y,hy,λ_ h=>h⟩,λh=>h,λ_ h=>h⟩⟩
    | _=>exact h2
variable {B:Type} {hp0:AH} {l:List (Nat×AV)} {m:List (Nat×bC)} {W:List Nat} {N:(Nat->Nat)->B->List (Nat×AV)} {O:(Nat->Nat)->B->List OE}
theorem AQ {a:B} {f:FS} {hp:AH} (h:JW hp0 l m W N O a f hp):∃ os,jP (uV hp0 W (vr hp)) hp0 (O (uV hp0 W (vr hp)) a)=some os/\AS.gY ⟨f,hp⟩ ⟨kn (N (uV hp0 W (vr hp)) a++l),hk (os++m)⟩:=by
  unfold JW at h
  split at h
  · rename_i os ho;exact ⟨os,ho,mQ h.1 h.2⟩
  · exact h.elim
theorem ZM (S:AS):S.gY S:=λs hs=>⟨λt x hx=>⟨x,hx,λ_ h=>h⟩,hs,λ_ h=>h⟩
theorem aO1 {i:Ix} {s:Sk P i} {x:Code} {cs:List Code} {y:WT P (.b B)} {k:B->WT P i} {S:AS} (h1:∀ b,y.run=some b->bR P n (QS P n (.jn (JW hp0 l m W N O)) b) [x] S)
    (h2:∀ b u os,jP (uV hp0 W u) hp0 (O (uV hp0 W u) b)=some os->∀ r,(k b).run=some r->bR P n (QS P n s r) cs ⟨kn (N (uV hp0 W u) b++l),hk (os++m)⟩) {r:i.d} (hr:(y.run.bind λb=>(k b).run)=some r):bR P n (QS P n s r) (x :: cs) S:=by
  obtain ⟨b,g1,g2⟩:=dJ hr
  refine Tr.yB (jG (h1 b g1)) ?_
  rintro e S' ⟨rfl,hj⟩
  obtain ⟨os,q1,q2⟩:=AQ hj
  exact ⟨_,q2,h2 b _ os q1 r g2⟩
theorem aDH {i:Ix} {s:Sk P i} {x:Code} {cs:List Code} {y:WT P (.s B i)} {k:B->WT P i} {S:AS} (h1:∀ b,y.run=some b->bR P n (QS P n (.dF (JW hp0 l m W N O) s) b) [x] S)
    (h2:∀ b u os,jP (uV hp0 W u) hp0 (O (uV hp0 W u) b)=some os->∀ r,(k b).run=some r->bR P n (QS P n s r) cs ⟨kn (N (uV hp0 W u) b++l),hk (os++m)⟩) {r:i.d} (hr:(y.run.bind (sel λb=>(k b).run))=some r):bR P n (QS P n s r) (x :: cs) S:=by
  obtain ⟨z,g1,g2⟩:=dJ hr
  refine Tr.yB (jG (h1 z g1)) ?_
  intro e S' hq
  cases z with
  | inl b =>
    obtain ⟨rfl,hj⟩:=hq
    obtain ⟨os,q1,q2⟩:=AQ hj
    exact ⟨_,q2,h2 b _ os q1 r g2⟩
  | inr c =>
    obtain ⟨hne,hj⟩:=hq
    have e1:c=r:=Option.some.inj (S9 g2)
    subst e1
    refine ⟨S',ZM _,?_⟩
    cases e with
    | normal=>exact (hne rfl).elim
    | _=>exact hj
theorem aA7 {i:Ix} {s:Sk P i} {c:Code} {cs:List Code} {body:B->WT P (.s B i)} {S:AS} {v:B} (h0:JW hp0 l m W N O v S.sl S.hp)
    (h2:∀ v u os,jP (uV hp0 W u) hp0 (O (uV hp0 W u) v)=some os->∀ z,(body v).run=some z->bR P n (QS P n (.dF (JW hp0 l m W N O) s) z) [c] ⟨kn (N (uV hp0 W u) v++l),hk (os++m)⟩)
    {q:Nat} {r:i.d} (hr:iter (λv=>(body v).run) q v=some r):bR P n (QS P n s r) (.loop c :: cs) S:=by
  obtain ⟨os0,q1,q2⟩:=AQ h0
  refine QY (ι:={ p:Nat×B×(Nat->Nat)×List (Nat×bC) // iter (λv=>(body v).run) p.1 p.2.1=some r/\jP (uV hp0 W p.2.2.1) hp0 (O (uV hp0 W p.2.2.1) p.2.1)=some p.2.2.2 }) (λp=>⟨kn (N (uV hp0 W p.1.2.2.1) p.1.2.1++l),hk (p.1.2.2.2++m)⟩) (λp=>p.1.1) ⟨(q,v,vr S.hp,os0),hr,q1⟩ q2 ?_
  rintro ⟨⟨q,v,u,os⟩,hi,ho⟩
  cases q with
  | zero=>cases hi
  | succ q =>
    have hi:((body v).run.bind (sel λv'=>iter (λv=>(body v).run) q v'))=some r:=hi
    obtain ⟨z,g1,g2⟩:=dJ hi
    refine Tr.mono (jG (h2 v u os ho z g1)) ?_
    intro e S' hq
    cases z with
    | inl v' =>
      obtain ⟨rfl,hj⟩:=hq
      obtain ⟨os',p1,p2⟩:=AQ hj
      exact ⟨⟨(q,v',vr S'.hp,os'),g2,p1⟩,Nat.lt_succ_self q,p2⟩
    | inr j =>
      obtain ⟨hne,hj⟩:=hq
      have e1:j=r:=Option.some.inj (S9 g2)
      subst e1
      cases e with
      | normal=>exact (hne rfl).elim
      | _=>exact hj
theorem EZ (hm:P.follows .mixedOrders=true) {K:KT P} (hK:AP P n K) {i:Ix} {t:WT P i} {s:Sk P i} {x:Code} {cs:List Code} {f:FS} {hp:AH} {vs:List (Nat×Nat)} (h:yJ K n t s x cs f hp vs):bN vs/\jN P n t s (.c (x :: cs)) ⟨f,hp⟩:=by
  unfold yJ at h
  split at h
  · rename_i id ops
    split at h
    · rename_i hnd
      obtain ⟨a,b⟩:=hK _ _ _ _ _ _ h
      refine ⟨a,λr hr=>?_⟩
      have e:ops=ops.toList.toArray:=by simp
      rw [e]
      exact wM (λK' hK'=>b r hr K' hK') hnd
    · exact h.elim
  · rename_i id ops
    split at h
    · rename_i rd wr t'
      cases h with
      | mk h e a =>
        refine ⟨a,λr hr=>?_⟩
        have e2:ops=ops.toList.toArray:=by simp
        rw [e2]
        exact OH _ _ _ hm e (λC K' hK'=>(hK _ _ _ _ _ _ (h C)).2 r hr K' hK')
    · rename_i rd kp dk eff pi t'
      cases h with
      | mk h e a =>
        obtain ⟨_,b⟩:=hK _ _ _ _ _ _ h
        refine ⟨a,λr hr=>?_⟩
        have e2:ops=ops.toList.toArray:=by simp
        rw [e2]
        exact K9 _ _ _ _ _ hm e (λK' hK'=>b r hr K' hK')
    · exact h.elim
  · obtain ⟨a,b⟩:=hK _ _ _ _ _ _ h
    exact ⟨a,λr hr=>XL (b r hr)⟩
  · obtain ⟨a,b⟩:=xS hK _ _ _ _ _ _ h
    exact ⟨a,λr hr=>TF (b r hr)⟩
  · obtain ⟨a,b⟩:=y5 (n:=n) _ _ _ _ _ h
    exact ⟨a,λr hr=>B5 (b r hr)⟩
  · split at h
    · rename_i hc
      obtain ⟨a,b⟩:=hK _ _ _ _ _ _ h
      exact ⟨a,λr hr=>UP hc (b r hr)⟩
    · rename_i hc
      obtain ⟨a,b⟩:=hK _ _ _ _ _ _ h
      exact ⟨a,λr hr=>VH hc (b r hr)⟩
    · exact h.elim
  · obtain ⟨a,b⟩:=hK _ _ _ _ _ _ h
    exact ⟨a,λr hr=>aFU (b r hr)⟩
  · rename_i c
    split at h
    · rename_i k t'
      obtain ⟨a,b⟩:=hK _ _ _ _ _ _ h
      exact ⟨a,λr hr=>ZD k (b r hr)⟩
    · rename_i L M W N O q v body
      obtain ⟨l,h⟩:=sN h
      obtain ⟨m,h⟩:=o9 h
      cases h with
      | mk h2 h1 a =>
        refine ⟨a,λr hr=>aA7 (S:=⟨f,hp⟩) h1 (λv u os ho z hz=>?_) (q:=q) hr⟩
        have h3:=h2 v u
        rw [ho] at h3
        exact (hK _ _ _ _ _ _ h3).2 z hz
    · exact h.elim
  · exact h.elim
theorem aDP (hm:P.follows .mixedOrders=true) {K:KT P} (hK:AP P n K) {i:Ix} {t:WT P i} {s:Sk P i} {x:Code} {cs:List Code} {f:FS} {hp:AH} {vs:List (Nat×Nat)} (h:JC K n t s x cs f hp vs):bN vs/\jN P n t s (.c (x :: cs)) ⟨f,hp⟩:=by
  unfold JC at h
  split at h
  · obtain ⟨a,b⟩:=hK _ _ _ _ _ _ h
    exact ⟨a,λr hr=>wL (b r hr)⟩
  · obtain ⟨a,b⟩:=hK _ _ _ _ _ _ h
    exact ⟨a,λr hr=>H8 (b r hr)⟩
  · obtain ⟨a,b⟩:=hK _ _ _ _ _ _ h
    exact ⟨a,λr hr=>M8 (b r hr)⟩
  · split at h
    · obtain ⟨l,h⟩:=sN h
      obtain ⟨m,h⟩:=o9 h
      cases h with
      | mk h1 h2 _ a =>
        refine ⟨a,λr hr=>aO1 (hK _ _ _ _ _ _ h1).2 (λb u os ho r hr=>?_) hr⟩
        have h3:=h2 b u
        rw [ho] at h3
        exact (hK _ _ _ _ _ _ h3).2 r hr
    · obtain ⟨a,b⟩:=EZ hm hK h
      exact ⟨a,λr hr=>b r hr⟩
    · obtain ⟨l,h⟩:=sN h
      obtain ⟨m,h⟩:=o9 h
      cases h with
      | mk h1 h2 _ a =>
        refine ⟨a,λr hr=>aDH (hK _ _ _ _ _ _ h1).2 (λb u os ho r hr=>?_) hr⟩
        have h3:=h2 b u
        rw [ho] at h3
        exact (hK _ _ _ _ _ _ h3).2 r hr
    · obtain ⟨a,b⟩:=EZ hm hK h
      exact ⟨a,λr hr=>b r hr⟩
    · exact EZ hm hK h
end
end Go.Pv
