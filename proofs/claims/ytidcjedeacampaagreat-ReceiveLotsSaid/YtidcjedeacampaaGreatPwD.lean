/- Walks told by trees: operations with a word, regions; the whole. -/
import Derived.Test.YtidcjedeacampaaGreatPwC
set_option linter.unusedVariables false
set_option linter.unusedSimpArgs false
namespace Go.Pv
section
variable {P:Program} {n:NT} {tb:iU}
theorem RA {f:FS} {hp:AH} {o:Oper} {k:FuncId->List AV->Prop} (h:callee f hp o k):∃ fo as ts g first cap vs,o.op=.call { callee:=.value fo,args:=List.toArray as,argTypes:=ts }/\(∀ H,(AS.mk f H).ev fo=some (.fn (.func g) first cap))/\(∀ H,EvL ⟨f,H⟩ as vs)/\k g (first++vs++cap):=by
  unfold callee at h
  split at h
  · rename_i c ho
    split at h
    · rename_i fo hc
      split at h
      · rename_i g first cap hf
        split at h
        · rename_i vs hv
          refine ⟨fo,c.args.toList,c.argTypes,g,first,cap,vs,aQJ ho hc,λH=>(iY (hp:=hp) fo).trans hf,λH=>?_,h⟩
          have key:∀ (l:List Operand) (vs:List AV),EvL ⟨f,hp⟩ l vs->EvL ⟨f,H⟩ l vs:=by
            intro l vs h
            induction h with
            | nil=>exact .nil
            | cons h _ ih=>exact .cons ((iY (hp:=hp) _).trans h) ih
          exact key _ _ (QE hv)
        · exact h.elim
      · exact h.elim
    · exact h.elim
  · exact h.elim
theorem aDB (ht:gH P tb) {f:FS} {hp:AH} {Ag:AH->Prop} {o:Oper} (hrd:∀ H,Ag H->∀ id,id∈vZ f o->H id=hp id) {i:Ix} {t:WT P i} {vs:List (Nat×Nat)} {k:WT P i->AV->Prop} (h:L8 tb f hp Ag o t vs k) :
    fF vs/\∀ r,t.run=some r->∃ t' v,t'.run=some r/\(∀ H,Ag H->eH P o ⟨f,H⟩ v)/\k t' v:=by
  have ev:∀ {k':List (Nat×Nat)->AV->Prop},kT tb ⟨f,hp⟩ o vs k'->∃ v us,k' us v/\(fF us->fF vs)/\(fF us->∀ H,Ag H->eH P o ⟨f,H⟩ v):=by
    intro k' h
    obtain ⟨us,v,h1,h2⟩:=R9 h
    have q:=zC ht (h2 (λus' v'=>us'=us/\v'=v) ⟨rfl,rfl⟩)
    obtain ⟨v',us',⟨rfl,rfl⟩,q2,_⟩:=q
    refine ⟨v',us',h1,q2,λe H hag=>?_⟩
    obtain ⟨v2,us2,⟨rfl,rfl⟩,_,g3⟩:=zC ht (Z8 (hrd H hag) (h2 (λus1 v1=>us1=us'/\v1=v') ⟨rfl,rfl⟩))
    exact g3 e
  unfold L8 at h
  split at h
  · rename_i d e t'
    obtain ⟨v,us,h1,h2,h3⟩:=ev h
    split at h1
    · cases h1 with
      | mk g e' a=>subst e';exact ⟨h2 a,λr hr=>⟨t' _,_,hr,h3 a,g _⟩⟩
    · exact h1.elim
  · rename_i d e t'
    obtain ⟨v,us,h1,h2,h3⟩:=ev h
    split at h1
    · cases h1 with
      | mk g e' a=>subst e';exact ⟨h2 a,λr hr=>⟨t' _,_,hr,h3 a,g _⟩⟩
    · exact h1.elim
  · rename_i d e t'
    obtain ⟨v,us,h1,h2,h3⟩:=ev h
    split at h1
    · cases h1 with
      | mk g e' a=>subst e';exact ⟨h2 a,λr hr=>⟨t',_,hr,h3 a,g⟩⟩
    · exact h1.elim
  · rename_i d e t'
    obtain ⟨v,us,h1,h2,h3⟩:=ev h
    split at h1
    · cases h1 with
      | mk g e' a=>subst e';exact ⟨h2 a,λr hr=>⟨t',_,hr,h3 a,g⟩⟩
    · exact h1.elim
  · rename_i d av e t'
    cases h with
    | mk v h g a =>
      cases g with
      | mk g e' _=>subst e';exact ⟨a,λr hr=>⟨t' _,_,hr,λH hH=>h H hH ht,g _⟩⟩
  · rename_i d t'
    cases h with
    | mk v h g a=>exact ⟨a,λr hr=>⟨t',v,hr,λH hH=>h H hH ht,g⟩⟩
  · rename_i d v t'
    cases h with
    | mk h g a=>exact ⟨a,λr hr=>⟨t',v,hr,λH hH=>h H hH ht,g⟩⟩
  · rename_i d g l j t'
    split at h
    · rename_i T x y ho
      split at h
      · rename_i el he
        split at h
        · rename_i sz b hs
          cases h with
          | mk h e a =>
            refine ⟨a,λr hr=>?_⟩
            obtain ⟨v,q1,q2⟩:=fE hr
            exact ⟨t' v,_,q2,λH _=>mM ho (ht.qQ he) (ht.b.pG hs) ((iY (hp:=hp) x).trans (congrArg Prod.fst e)) ((iY (hp:=hp) y).trans (congrArg Prod.snd e)) q1,h v q1⟩
        · exact h.elim
      · exact h.elim
    · exact h.elim
  · rename_i d g c hgc l j t'
    split at h
    · rename_i T x y ho
      split at h
      · rename_i el he
        split at h
        · rename_i sz b hs
          cases h with
          | mk h e a =>
            refine ⟨a,λr hr=>?_⟩
            obtain ⟨v,q1,q2⟩:=fE hr
            refine ⟨t' v,_,q2,λH _=>?_,h v q1⟩
            have hy:=mM ho (ht.qQ he) (ht.b.pG hs) ((iY (hp:=hp) (H:=H) x).trans (congrArg Prod.fst e)) ((iY (hp:=hp) y).trans (congrArg Prod.snd e)) q1
            rw [hgc] at hy
            exact hy
        · exact h.elim
      · exact h.elim
    · exact h.elim
  · rename_i d g l t'
    split at h
    · rename_i c ho
      split at h
      · rename_i hc
        split at h
        · rename_i x hx
          split at h
          · rename_i T hT
            split at h
            · rename_i el he
              split at h
              · rename_i sz b hs
                cases h with
                | mk h e a=>exact ⟨a,λr hr=>⟨t',_,hr,λH _=>kX (OM ho hc hx hT) (ht.qQ he) ((iY (hp:=hp) x).trans e) (mF _),h⟩⟩
              · exact h.elim
            · exact h.elim
          · exact h.elim
        · exact h.elim
      · exact h.elim
    · exact h.elim
  · rename_i t0 B kf args V d o' hc C t'
    obtain ⟨fo,as,ts,g,first,cap,us,q1,q2,q3,q4⟩:=RA h
    cases q4 with
    | mk h2 e h1 a =>
        subst e
        refine ⟨a,λr hr=>?_⟩
        obtain ⟨b,p1,p2⟩:=fE hr
        exact ⟨t' b,_,p2,λH hH=>oC q1 (q2 H) (q3 H) hc (h1 H hH) (C p1),h2 b p1⟩
  · rename_i t0 B kf args V d o' hc C hf t'
    obtain ⟨fo,as,ts,g,first,cap,us,q1,q2,q3,q4⟩:=RA h
    cases q4 with
    | mk h2 e h1 a =>
        subst e
        refine ⟨a,λr hr=>?_⟩
        obtain ⟨b,p1,p2⟩:=fE hr
        exact ⟨t' b,_,p2,λH hH=>aQY q1 (q2 H) (q3 H) hc (h1 H hH) (C p1) (hf b),h2 b p1⟩
  · exact h.elim
theorem KY (ht:gH P tb) {f:FS} {hp:AH}:∀ {rs:List ResultVar} {vs:List (Nat×Nat)} {k:List (Nat×Nat)->List AV->Prop},sP tb f hp rs vs k->∃ ws us,k ws us/\(fF ws->fF vs)/\(fF ws->mY P ⟨f,hp⟩ rs us)
  | [],vs,k,h=>⟨vs,[],h,λe=>e,λ_=>.nil⟩
  | .tmp t :: r,vs,k,h=>by
    unfold sP at h
    split at h
    · rename_i v hv
      obtain ⟨ws,us,h1,h2,h3⟩:=KY ht h
      exact ⟨ws,_,h1,h2,λe=>.tmp hv (h3 e)⟩
    · exact h.elim
  | .cell t T :: r,vs,k,h=>by
    unfold sP at h
    split at h
    · rename_i m b hT
      split at h
      · rename_i id aU row off hx
        split at h
        · rename_i ob hob
          split at h
          · rename_i rw hr
            split at h
            · rename_i v hv
              obtain ⟨ws,us,h1,h2,h3⟩:=KY ht h
              exact ⟨ws,_,h1,λe=>(h2 e).2,λe=>.cell hx (.pt hob (h2 e).1 hr) (ht.b.pG hT) hv (h3 e)⟩
            · exact h.elim
          · exact h.elim
        · exact h.elim
      · exact h.elim
    · exact h.elim
def tX (P:Program) (KN:NT->KT P):Prop:=∀ n,LZ P n (KN n)
theorem aC4 (ht:gH P tb) {KN:NT->KT P} (hK:tX P KN) {f:FS} {hp:AH} {o:Oper} {i:Ix} {t:WT P i} {vs:List (Nat×Nat)} {kp:AH->Prop} {k:WT P i->AV->AH->Prop} (h:NC tb KN f hp o t vs kp k) :
    fF vs/\∀ r,t.run=some r->∃ Out,eG P o ⟨f,hp⟩ no any Out/\∀ v H',Out v H'->kp H'/\∃ t',t'.run=some r/\k t' v H':=by
  unfold NC at h
  split at h
  · rename_i j t'
    cases h with
    | mk Out h1 h2 a=>exact ⟨a,λr hr=>⟨Out,h1.1 ht,λv H' hO=>⟨h1.2 v H' hO,t',hr,h2 v H' hO⟩⟩⟩
  · rename_i t0 B g0 fn j hc hf M W V O x t'
    obtain ⟨fo,as,ts,g,first,cap,us,q1,q2,q3,q4⟩:=RA h
    obtain ⟨m,q4⟩:=xU q4
    split at q4
    · rename_i c hb
      split at q4
      · rename_i hle
        cases q4 with
        | mk h1 h2 e a =>
          subst e
          refine ⟨a,λr hr=>?_⟩
          obtain ⟨b,p1,p2⟩:=fE hr
          refine ⟨_,nC q1 (q2 hp) (q3 hp) hc (QX (R:=λy H'=>∃ u os,pJ (uV hp W u) hp (O (uV hp W u) b)=some os/\y=V (uV hp W u) b/\H'=hk (os++m)) hf hb (Nat.le_of_ble_eq_true hle) (Tr.mono (pU ((hK _ _ _ _ _ _ _ h1).2 b p1)) ?_)),?_⟩
          · rintro e S' ⟨he,hj⟩
            unfold JI at hj
            split at hj
            · rename_i os ho
              obtain ⟨ws,us,g1,g2,g3⟩:=KY ht hj
              cases g1 with
              | mk e1 hh a1=>exact ⟨he,us,hk (os++m),g3 a1,HK.le hh,vr S'.hp,os,ho,e1,rfl⟩
            · exact hj.elim
          · rintro v H' ⟨u,os,ho,rfl,rfl⟩
            have h3:=h2 b u
            rw [ho] at h3
            cases h3 with
            | mk c1 c2 _=>exact ⟨c1,t' b,p2,c2⟩
      · exact q4.elim
    · exact q4.elim
  · exact h.elim
theorem sF {f:FS} {d:Option Tmp} {v:AV} {k:FS->Prop} (h:tN f d v k):∃ f',k f'/\∀ hp,({ sl:=f',hp:=hp }:AS)=(AS.mk f hp).put d v:=by
  cases d with
  | none=>exact ⟨f,h,λ_=>rfl⟩
  | some t=>exact ⟨_,h,λ_=>rfl⟩
theorem OJ {i:Ix} {t:WT P i} {d:Option Nat}:(BL t d).run=t.run:=by
  unfold BL
  split
  · rfl
  · split
    · split <;> rfl
    · rfl
theorem aJH (ht:gH P tb) {KN:NT->KT P} (hK:tX P KN) {id:Nat} {l:List Oper} {o:Oper} {rest:List Oper} {cs:List Code} {i:Ix} {t:WT P i} {s:Sk P i} {f:FS} {hp:AH} {vs:List (Nat×Nat)}
    (h:QM tb n KN id l o rest cs t s f hp vs):fF vs/\pY P n t s (.r id l (o :: rest) cs) ⟨f,hp⟩:=by
  unfold QM at h
  split at h
  · exact h.elim
  · rename_i hd
    split at h
    · rename_i hw
      obtain ⟨f',h,hf⟩:=sF h
      obtain ⟨a,b⟩:=hK _ _ _ _ _ _ _ h
      refine ⟨a,λr hr K' hK'=>YY hw hd ?_⟩
      have:=b r hr K' hK'
      rw [hf] at this;exact this
    · rename_i hw
      split at h
      · split at h
        · obtain ⟨a,b⟩:=aC4 ht hK h
          refine ⟨a,λr hr K' hK'=>?_⟩
          obtain ⟨Out,q1,q2⟩:=b r hr
          refine GV hw hd q1 λv H' hO=>?_
          obtain ⟨_,t',q3,q4⟩:=q2 v H' hO
          obtain ⟨f',q4,hf⟩:=sF q4
          have:=(hK _ _ _ _ _ _ _ q4).2 r q3 K' hK'
          rw [hf] at this;exact this
        · obtain ⟨a,b⟩:=aDB ht (λH e id _=>by rw [e]) h
          refine ⟨a,λr hr K' hK'=>?_⟩
          obtain ⟨t',v,q1,q2,q3⟩:=b r hr
          obtain ⟨f',q3,hf⟩:=sF q3
          have:=(hK _ _ _ _ _ _ _ q3).2 r q1 K' hK'
          rw [hf] at this
          exact aAX hw hd (q2 hp rfl) this
      · replace h:=P7 h
        obtain ⟨t',us,Out,ch,q1,⟨v0,H0,q2⟩,q3,q4,q5,_⟩:=UI ht h
        obtain ⟨f0,q2,-⟩:=sF q2
        have hv:=(hK _ _ _ _ _ _ _ q2).1
        refine ⟨q4 hv,λr hr K' hK'=>GV hw hd (q5 hv) λv H' hO=>?_⟩
        obtain ⟨f',q3,hf⟩:=sF (q3 v H' hO)
        have:=(hK _ _ _ _ _ _ _ q3).2 r (q1 r (OJ.trans hr)) K' hK'
        rw [hf] at this;exact this
    · exact h.elim
theorem R6 {hp H':AH} {ch:Option Nat} (h:∀ j,ch≠some j->H' j=hp j):∀ {l:List Nat},RU ch l=true->wK H' hp l
  | [],_=>trivial
  | k :: r,hl=>by
    cases ch with
    | none =>
      have e:H'=hp:=by funext j;exact h j (by simp)
      subst e
      exact ⟨Kq.refl,R6 (ch:=none) h (l:=r) rfl⟩
    | some id =>
      unfold RU at hl
      simp only [List.all_cons,Bool.and_eq_true,Bool.not_eq_true'] at hl
      obtain ⟨⟨h1,h2⟩,h3⟩:=hl
      refine ⟨?_,R6 (ch:=some id) h h3⟩
      unfold Kq
      rw [h1]
      exact h k (λe=>by cases e;rw [Nat.beq_refl] at h2;cases h2)
theorem aA7 {ops:List Oper} {rdl kpl:Nat->List Nat} {pu:Nat->Bool} {K:AS->Prop} {pi:List Nat} {o:Oper} {j:Nat} {f:FS} {hp:AH} {Out:AV->AH->Prop} (ho:ops[j]?=some o) (hpu:pu j=false) (hw:Wd ops ⟨f,hp⟩ o=some true) (hy:eG P o ⟨f,hp⟩ no any Out)
    (h:∀ x H',Out x H'->wK H' hp (kpl j)/\DE P ops rdl kpl pu K pi ((AS.mk f H').put o.dst x)):DE P ops rdl kpl pu K (j :: pi) ⟨f,hp⟩:=by
  show kQ P ops rdl kpl pu j _ _
  unfold kQ;simp only [ho];rw [if_neg (by rw [hpu];decide)];exact .inl ⟨hw,Out,hy,h⟩
theorem aCW {ops:List Oper} {rdl kpl:Nat->List Nat} {pu:Nat->Bool} {K:AS->Prop} {pi:List Nat} {o:Oper} {j:Nat} {f:FS} {hp:AH} {x:AV} (ho:ops[j]?=some o) (hpu:pu j=true) (hs:rP (rdl j)=true) (hw:Wd ops ⟨f,hp⟩ o=some true)
    (hy:∀ H,(∀ k,k∈rdl j->H k=hp k)->eH P o ⟨f,H⟩ x) (h:DE P ops rdl kpl pu K pi ((AS.mk f hp).put o.dst x)):DE P ops rdl kpl pu K (j :: pi) ⟨f,hp⟩:=by
  show kQ P ops rdl kpl pu j _ _
  unfold kQ;simp only [ho];rw [if_pos hpu]
  exact ⟨x,.inl ⟨hw,λH hH=>hy H λk hk=>(hH k hk).eq (YT hs hk)⟩,h⟩
theorem aGB {ops:List Oper} {rdl kpl:Nat->List Nat} {pu:Nat->Bool} {K:AS->Prop} {pi:List Nat} {o:Oper} {j:Nat} {f:FS} {hp:AH} (ho:ops[j]?=some o) (hw:Wd ops ⟨f,hp⟩ o=some false)
    (h:DE P ops rdl kpl pu K pi ((AS.mk f hp).put o.dst (.sc undef))):DE P ops rdl kpl pu K (j :: pi) ⟨f,hp⟩:=by
  show kQ P ops rdl kpl pu j _ _
  unfold kQ;simp only [ho]
  split
  · exact ⟨.sc undef,.inr ⟨hw,rfl⟩,h⟩
  · exact .inr ⟨hw,h⟩
theorem aT4 (ht:gH P tb) {KN:NT->KT P} (hK:tX P KN) {id:Nat} {l:List Oper} {rd kp:Nat->List Nat} {pu:Nat->Bool} {j:Nat} {o:Oper} {pi:List Nat} {cs:List Code} {i:Ix} {t:WT P i} {s:Sk P i} {f:FS} {hp:AH} {vs:List (Nat×Nat)} (ho:l[j]?=some o)
    (h:O4 tb n KN id l rd kp pu j o pi cs t s f hp vs):fF vs/\pY P n t s (.e id l rd kp pu (j :: pi) cs) ⟨f,hp⟩:=by
  unfold O4 at h
  split at h
  · exact h.elim
  · rename_i hd
    split at h
    · rename_i hw
      obtain ⟨f',h,hf⟩:=sF h
      obtain ⟨a,b⟩:=hK _ _ _ _ _ _ _ h
      refine ⟨a,λr hr K' hK'=>aGB ho hw ?_⟩
      have:=b r hr K' hK'
      rw [hf] at this;exact this
    · rename_i hw
      split at h
      · rename_i hpu
        split at h
        · rename_i hs
          split at h
          · split at h
            · rename_i hsub
              have hr:∀ H:AH,(∀ k,k∈rd j->H k=hp k)->∀ id,id∈vZ f o->H id=hp id:=λH hH id hid=>hH id (QK hsub hid)
              obtain ⟨a,b⟩:=aDB ht hr h
              refine ⟨a,λr hr K' hK'=>?_⟩
              obtain ⟨t',v,q1,q2,q3⟩:=b r hr
              obtain ⟨f',q3,hf⟩:=sF q3
              have:=(hK _ _ _ _ _ _ _ q3).2 r q1 K' hK'
              rw [hf] at this
              exact aCW ho hpu hs hw q2 this
            · exact h.elim
          · split at h
            · rename_i hsub
              replace h:=P7 h
              obtain ⟨us,v,q1,q2,q3⟩:=aJ0 ht (k:=λt' vs v=>tN f o.dst v λf'=>KN n t' s (.e id l rd kp pu pi cs) f' hp vs) h
              obtain ⟨f',q1,hf⟩:=sF q1
              obtain ⟨a,b⟩:=hK _ _ _ _ _ _ _ q1
              refine ⟨q2 a,λr hr K' hK'=>?_⟩
              have:=b r (OJ.trans hr) K' hK'
              rw [hf] at this
              exact aCW ho hpu hs hw (λH hH=>q3 a H λid hid=>hH id (QK hsub hid)) this
            · exact h.elim
        · exact h.elim
      · rename_i hpu
        split at h
        · split at h
          · obtain ⟨a,b⟩:=aC4 ht hK h
            refine ⟨a,λr hr K' hK'=>?_⟩
            obtain ⟨Out,q1,q2⟩:=b r hr
            refine aA7 ho hpu hw q1 λv H' hO=>?_
            obtain ⟨q0,t',q3,q4⟩:=q2 v H' hO
            obtain ⟨f',q4,hf⟩:=sF q4
            have:=(hK _ _ _ _ _ _ _ q4).2 r q3 K' hK'
            rw [hf] at this;exact ⟨q0,this⟩
          · exact h.elim
        · replace h:=P7 h
          obtain ⟨t',us,Out,ch,q1,⟨v0,H0,q2⟩,q3,q4,q5,q6⟩:=UI ht h
          split at q2
          · rename_i hch
            obtain ⟨f0,q2,-⟩:=sF q2
            have hv:=(hK _ _ _ _ _ _ _ q2).1
            refine ⟨q4 hv,λr hr K' hK'=>aA7 ho hpu hw (q5 hv) λv H' hO=>⟨R6 (q6 v H' hO) hch,?_⟩⟩
            have q3:=q3 v H' hO
            rw [hch] at q3
            obtain ⟨f',q3,hf⟩:=sF q3
            have:=(hK _ _ _ _ _ _ _ q3).2 r (q1 r (OJ.trans hr)) K' hK'
            rw [hf] at this;exact this
          · exact q2.elim
    · exact h.elim
theorem UC {b c:Bool} (e:b=c):∀ (ds:List Nat) (f:FS),ds.map f=ds.map (λ_=>some (aZ b))->mP f ds (aZ c)=f
  | [],f,_=>rfl
  | d :: ds,f,hm=>by
    simp only [List.map_cons,List.cons.injEq] at hm
    have e1:upd f d (some (aZ c))=f:=by
      funext i
      by_cases hi:i=d
      · subst hi;rw [upd_same,hm.1,e]
      · rw [upd_ne _ _ hi]
    show mP (upd f d (some (aZ c))) ds (aZ c)=f
    rw [e1]
    exact UC e ds f hm.2
theorem KG {i:Ix} {t:WT P i} {s:Sk P i} {md:Mw} {f:FS} {hp:AH} {b c:Bool} {ds:List Nat} (e:b=c) (h:ds.map f=ds.map (λ_=>some (aZ b))) (hs:pY P n t s md ⟨mP f ds (aZ c),hp⟩):pY P n t s md ⟨f,hp⟩:=by
  rw [UC e ds f h] at hs;exact hs
theorem PX {KN:NT->KT P} (hK:tX P KN) {i:Ix} {x y:WT P i} {s:Sk P i} {md:Mw} {f:FS} {hp:AH} {vs:List (Nat×Nat)} {ds:List Nat} {b:Bool}
    (h:wV vs (ds.map f) (ds.map λ_=>some (aZ b)) (KN n x s md (mP f ds (aZ true)) hp []) (KN n y s md (mP f ds (aZ false)) hp [])):fF vs/\pY P n (.ifs ds b x y) s md ⟨f,hp⟩:=by
  cases h with
  | mk h1 h2 e a =>
    refine ⟨a,λr hr=>?_⟩
    have hr':cond b x.run y.run=some r:=hr
    cases hb:b with
    | true=>rw [hb] at hr';exact KG hb e (λr' hr2=>(hK _ _ _ _ _ _ _ h1).2 r' hr2) r hr'
    | false=>rw [hb] at hr';exact KG hb e (λr' hr2=>(hK _ _ _ _ _ _ _ h2).2 r' hr2) r hr'
theorem TB {KN:NT->KT P} (hK:tX P KN) {i:Ix} {k:WT P i} {s:Sk P i} {md:Mw} {f:FS} {hp:AH} {vs:List (Nat×Nat)} {ds:List Nat} {b:Bool}
    (h:oV vs (ds.map f) (ds.map λ_=>some (aZ b)) (KN n k s md (mP f ds (aZ false)) hp [])):fF vs/\pY P n (.az ds b k) s md ⟨f,hp⟩:=by
  cases h with
  | mk h e a =>
    refine ⟨a,λr hr=>?_⟩
    obtain ⟨hb,g⟩:=iR (show gV (b=false) k.run=some r from hr)
    exact KG (t:=k) hb e (λr' hr2=>(hK _ _ _ _ _ _ _ h).2 r' hr2) r g
theorem OU {KN:NT->KT P} (hK:tX P KN) {i:Ix} {k:WT P i} {s:Sk P i} {md:Mw} {f:FS} {hp:AH} {vs:List (Nat×Nat)} {ds:List Nat} {b:Bool}
    (h:oV vs (ds.map f) (ds.map λ_=>some (aZ b)) (KN n k s md (mP f ds (aZ true)) hp [])):fF vs/\pY P n (.an ds b k) s md ⟨f,hp⟩:=by
  cases h with
  | mk h e a =>
    refine ⟨a,λr hr=>?_⟩
    obtain ⟨hb,g⟩:=iR (show gV (b=true) k.run=some r from hr)
    exact KG (t:=k) hb e (λr' hr2=>(hK _ _ _ _ _ _ _ h).2 r' hr2) r g
theorem aOS (hm:P.follows .mixedOrders=true) {KN:NT->KT P} (hK:tX P KN) {x:Code} {cs:List Code} {i:Ix} {t:WT P i} {s:Sk P i} {f:FS} {hp:AH} {vs:List (Nat×Nat)} (h:P5 n KN x cs t s f hp vs):fF vs/\pY P n t s (.c (x :: cs)) ⟨f,hp⟩:=by
  unfold P5 at h
  split at h
  · exact PX hK h
  · exact TB hK h
  · exact OU hK h
  · rename_i id k
    split at h
    · rename_i ob ho
      obtain ⟨a,b⟩:=hK _ _ _ _ _ _ _ h
      exact ⟨a,λr hr=>aQ0 id ho (b r hr)⟩
    · exact h.elim
  · rename_i d v k
    split at h
    · rename_i u hu
      cases h with
      | mk h2 h1 a=>exact ⟨a,λr hr=>aTK d v hu h1 ((hK _ _ _ _ _ _ _ h2).2 r hr)⟩
    · exact h.elim
  · rename_i d id e sz k
    split at h
    · rename_i hf
      split at h
      · rename_i hid
        exact ⟨(hK _ _ _ _ _ _ _ (h 0)).1,λr hr=>vM d id e sz hf hid λaU=>(hK _ _ _ _ _ _ _ (h aU)).2 r hr⟩
      · exact h.elim
    · exact h.elim
  · rename_i id0 row j id e sz k
    split at h
    · rename_i ob hob
      split at h
      · rename_i rr hrr
        split at h
        · rename_i hj
          split at h
          · rename_i hid
            exact ⟨(hK _ _ _ _ _ _ _ (h 0)).1,λr hr=>FJ id0 row j id e sz hob hrr hj hid (rows:=λaU=>ob.rows.set row (rr.set j (.sl id aU 0 0))) (λ_=>rfl) λaU=>(hK _ _ _ _ _ _ _ (h aU)).2 r hr⟩
          · exact h.elim
        · exact h.elim
      · exact h.elim
    · exact h.elim
  · exact aGY hm (hK n) h
theorem aSU (ht:gH P tb) {KN:NT->KT P} (hK:tX P KN) {rid:Nat} {l todo:List Oper} {cs:List Code} {i:Ix} {t:WT P i} {s:Sk P i} {f:FS} {hp:AH} {vs:List (Nat×Nat)} (h:RX tb n KN rid l todo cs t s f hp vs):fF vs/\pY P n t s (.r rid l todo cs) ⟨f,hp⟩:=by
  unfold RX at h
  split at h
  · exact PX hK h
  · exact TB hK h
  · exact OU hK h
  · rename_i id k
    split at h
    · rename_i ob ho
      obtain ⟨a,b⟩:=hK _ _ _ _ _ _ _ h
      exact ⟨a,λr hr=>λK' hK'=>aPQ id ho (b r hr K' hK')⟩
    · exact h.elim
  · rename_i d v k
    split at h
    · rename_i u hu
      cases h with
      | mk h2 h1 a=>exact ⟨a,λr hr=>λK' hK'=>ZS d v hu h1 ((hK _ _ _ _ _ _ _ h2).2 r hr K' hK')⟩
    · exact h.elim
  · split at h
    · obtain ⟨a,b⟩:=hK _ _ _ _ _ _ _ h
      exact ⟨a,λr hr K' hK'=>kD (hK' _ (b r hr))⟩
    · exact aJH ht hK h
theorem aTZ (ht:gH P tb) {KN:NT->KT P} (hK:tX P KN) {id:Nat} {l:List Oper} {rd kp:Nat->List Nat} {pu:Nat->Bool} {pi:List Nat} {cs:List Code} {i:Ix} {t:WT P i} {s:Sk P i} {f:FS} {hp:AH} {vs:List (Nat×Nat)} (h:SK tb n KN id l rd kp pu pi cs t s f hp vs):fF vs/\pY P n t s (.e id l rd kp pu pi cs) ⟨f,hp⟩:=by
  unfold SK at h
  split at h
  · exact PX hK h
  · exact TB hK h
  · exact OU hK h
  · split at h
    · obtain ⟨a,b⟩:=hK _ _ _ _ _ _ _ h
      exact ⟨a,λr hr K' hK'=>oK (hK' _ (b r hr))⟩
    · split at h
      · rename_i o ho
        exact aT4 ht hK ho h
      · exact h.elim
theorem aQW (hm:P.follows .mixedOrders=true) (ht:gH P tb) {KN:NT->KT P} (hK:tX P KN) {i:Ix} {t:WT P i} {s:Sk P i} {md:Mw} {f:FS} {hp:AH} {vs:List (Nat×Nat)} (h:stepW tb n KN t s md f hp vs):fF vs/\pY P n t s md ⟨f,hp⟩:=by
  unfold stepW at h
  split at h
  · cases h with | mk _ a=>exact ⟨a,λr hr=>by cases hr⟩
  · rename_i p hd k
    cases h with
    | mk h a =>
      refine ⟨a,λr hr=>?_⟩
      have hr':@gV _ p hd k.run=some r:=hr
      obtain ⟨hp',g⟩:=iR hr'
      exact (hK _ _ _ _ _ _ _ (h hp')).2 r g
  · rename_i B e k
    cases h with
    | mk h a=>exact ⟨a,λr hr=>(hK _ _ _ _ _ _ _ (h e rfl)).2 r hr⟩
  · rename_i B o k
    cases h with
    | mk h a =>
      refine ⟨a,λr hr=>?_⟩
      obtain ⟨b,g1,g2⟩:=fE hr
      exact (hK _ _ _ _ _ _ _ (h b g1)).2 r g2
  · split at h
    · split at h
      · obtain ⟨a,b⟩:=hK _ _ _ _ _ _ _ h
        exact ⟨a,λr hr=>b r hr⟩
      · obtain ⟨a,b⟩:=hK _ _ _ _ _ _ _ h
        exact ⟨a,λr hr=>b r hr⟩
      · obtain ⟨a,b⟩:=hK _ _ _ _ _ _ _ h
        exact ⟨a,λr hr=>b r hr⟩
      · obtain ⟨a,b⟩:=aF8 (n:=n) _ _ _ _ _ h
        exact ⟨a,λr hr=>b r hr⟩
    · exact aOS hm hK h
    · exact aSU ht hK h
    · exact aTZ ht hK h
theorem U7 (hm:P.follows .mixedOrders=true) (ht:gH P tb):∀ m,tX P (WP P tb m)
  | 0=>λ_ _ _ _ _ _ _ _ h=>h.elim
  | m+1=>λn _ _ _ _ _ _ _ h=>aQW hm ht (U7 hm ht m) h
def JF {A:Type} (tb:iU) (rs:List ResultVar) (av:A->AV) (a:A) (f:FS) (hp:AH) (vs:List (Nat×Nat)):Prop:=sP tb f hp rs vs λvs us=>E0 vs (Cv (lH hp) (vL us) (av a))
theorem aNQ {A:Type} {tb:iU} {rs:List ResultVar} {av:A->AV} {a:A} {f:FS} {hp:AH} {vs:List (Nat×Nat)} (h:JF tb rs av a f hp vs):fF vs/\JF tb rs av a f hp []:=by
  obtain ⟨h1,h2⟩:=JY (G:=λvs us=>E0 vs (Cv (lH hp) (vL us) (av a))) (λh=>by cases h with | mk h a=>exact ⟨a,λa'=>⟨h,a'⟩⟩) (g:=id) h
  exact ⟨h1,h2 trivial⟩
def Y0 (fn:Func):Code:=fn.body.getD .skip
theorem bY (hm:P.follows .mixedOrders=true) {tb:iU} (ht:gH P tb) {A:Type} {g:FuncId} {fn:Func} {args:List AV} (av:A->AV) {t:WT P (.b A)} {r:A} (h0:t.run=some r) (hf:P.funcs[g]?=some fn) (hpv:∀ a,PV (av a)) (m:Nat)
    (h:WP P tb m ⟨fn.ntmps,false,[]⟩ t (.fn (JF tb fn.results.toList av) aNQ) (.c [Y0 fn]) (λt=>args[t]?) H0 []) (hb:fn.body=some (Y0 fn):=by rfl) (hle:Nat.ble args.length fn.ntmps=true:=by rfl) :
    PP P g args (λy=>y=av r):=by
  refine oN (R0:=λy H=>Cv (lH H) y (av r)) ?_ (λy H hc=>⟨_,rfl,hpv r,hc⟩)
  refine QX hf hb (Nat.le_of_ble_eq_true hle) (Tr.mono (pU ((U7 hm ht m _ _ _ _ _ _ _ h).2 r h0)) ?_)
  rintro e S' ⟨he,hj⟩
  obtain ⟨ws,us,h1,h2,h3⟩:=KY ht hj
  cases h1 with
  | mk h1 a=>exact ⟨he,us,S'.hp,h3 a,λ_ _ h=>h,h1⟩
end
end Go.Pv
