/- Walks told by trees: operations with a word, regions; the whole. -/
import Derived.Test.YtimkkeehkhkhcaaGreatPwC
set_option linter.unusedVariables false
set_option linter.unusedSimpArgs false
namespace Go.Pv
section
variable {P:Program} {n:NT} {tb:iC}
theorem K7 {f:FS} {hp:AH} {o:Oper} {k:FuncId->List AV->Prop} (h:callee f hp o k):∃ fo as ts g first cap vs,o.op=.call { callee:=.value fo,args:=List.toArray as,argTypes:=ts }/\(∀ H,(AS.mk f H).ev fo=some (.fn (.func g) first cap))/\(∀ H,EvL ⟨f,H⟩ as vs)/\k g (first++vs++cap):=by
  unfold callee at h
  split at h
  · rename_i c ho
    split at h
    · rename_i fo hc
      split at h
      · rename_i g first cap hf
        split at h
        · rename_i vs hv
          refine ⟨fo,c.args.toList,c.argTypes,g,first,cap,vs,N9 ho hc,λH=>(gZ (hp:=hp) fo).trans hf,λH=>?_,h⟩
          have key:∀ (l:List Operand) (vs:List AV),EvL ⟨f,hp⟩ l vs->EvL ⟨f,H⟩ l vs:=by
            intro l vs h
            induction h with
            | nil=>exact .nil
            | cons h _ ih=>exact .cons ((gZ (hp:=hp) _).trans h) ih
          exact key _ _ (EB hv)
        · exact h.elim
      · exact h.elim
    · exact h.elim
  · exact h.elim
theorem aL5 {f:FS} {hp:AH} {o:Oper} {k:TypeId->String->List AV->Prop} (h:JZ f hp o k):∃ ro nm as ts T v vs,o.op=.call { callee:=.invoke ro nm,args:=List.toArray as,argTypes:=ts }/\(AS.mk f hp).ev ro=some (.iG T v)/\EvL ⟨f,hp⟩ as vs/\k T nm (v :: vs):=by
  unfold JZ at h
  split at h
  · rename_i c ho
    split at h
    · rename_i ro nm hc
      split at h
      · rename_i T v hf
        split at h
        · rename_i vs hv
          exact ⟨ro,nm,c.args.toList,c.argTypes,T,v,vs,N9 ho hc,hf,EB hv,h⟩
        · exact h.elim
      · exact h.elim
    · exact h.elim
  · exact h.elim
theorem JB (ht:fE P tb) {f:FS} {hp:AH} {Ag:AH->Prop} {o:Oper} (hrd:∀ H,Ag H->∀ id,id∈qG f o->H id=hp id) {i:Ix} {t:WT P i} {vs:List (Nat×Nat)} {k:WT P i->AV->Prop} (h:yZ tb f hp Ag o t vs k) :
    dO vs/\∀ r,t.run=some r->∃ t' v,t'.run=some r/\(∀ H,Ag H->bS P o ⟨f,H⟩ v)/\k t' v:=by
  have ev:∀ {k':List (Nat×Nat)->AV->Prop},jT tb ⟨f,hp⟩ o vs k'->∃ v us,k' us v/\(dO us->dO vs)/\(dO us->∀ H,Ag H->bS P o ⟨f,H⟩ v):=by
    intro k' h
    obtain ⟨us,v,h1,h2⟩:=IT h
    have q:=vK ht (h2 (λus' v'=>us'=us/\v'=v) ⟨rfl,rfl⟩)
    obtain ⟨v',us',⟨rfl,rfl⟩,q2,_⟩:=q
    refine ⟨v',us',h1,q2,λe H hag=>?_⟩
    obtain ⟨v2,us2,⟨rfl,rfl⟩,_,g3⟩:=vK ht (P4 (hrd H hag) (h2 (λus1 v1=>us1=us'/\v1=v') ⟨rfl,rfl⟩))
    exact g3 e
  unfold yZ at h
  split at h
  · rename_i d e t'
    obtain ⟨v,us,h1,h2,h3⟩:=ev h
    split at h1
    · cases h1 with
      | mk g e' a=>subst e';exact ⟨h2 a,λr hr=>⟨t' _,_,hr,h3 a,g _⟩⟩
    · exact h1.elim
  · rename_i d e t'
    obtain ⟨v,us,h1,h2,h3⟩:=ev h
    split at h1
    · cases h1 with
      | mk g e' a=>subst e';exact ⟨h2 a,λr hr=>⟨t' _,_,hr,h3 a,g _⟩⟩
    · exact h1.elim
  · rename_i d e t'
    obtain ⟨v,us,h1,h2,h3⟩:=ev h
    split at h1
    · cases h1 with
      | mk g e' a=>subst e';exact ⟨h2 a,λr hr=>⟨t',_,hr,h3 a,g⟩⟩
    · exact h1.elim
  · rename_i d e t'
    obtain ⟨v,us,h1,h2,h3⟩:=ev h
    split at h1
    · cases h1 with
      | mk g e' a=>subst e';exact ⟨h2 a,λr hr=>⟨t',_,hr,h3 a,g⟩⟩
    · exact h1.elim
  · rename_i d av e t'
    cases h with
    | mk v h g a =>
      cases g with
      | mk g e' _=>subst e';exact ⟨a,λr hr=>⟨t' _,_,hr,λH hH=>h H hH ht,g _⟩⟩
  · rename_i d t'
    cases h with
    | mk v h g a=>exact ⟨a,λr hr=>⟨t',v,hr,λH hH=>h H hH ht,g⟩⟩
  · rename_i d v t'
    cases h with
    | mk h g a=>exact ⟨a,λr hr=>⟨t',v,hr,λH hH=>h H hH ht,g⟩⟩
  · rename_i d g l j t'
    split at h
    · rename_i T x y ho
      split at h
      · rename_i el he
        split at h
        · rename_i sz b hs
          cases h with
          | mk h e a =>
            refine ⟨a,λr hr=>?_⟩
            obtain ⟨v,q1,q2⟩:=dD hr
            exact ⟨t' v,_,q2,λH _=>JO ho (ht.nW he) (ht.b.mH hs) ((gZ (hp:=hp) x).trans (congrArg Prod.fst e)) ((gZ (hp:=hp) y).trans (congrArg Prod.snd e)) q1,h v q1⟩
        · exact h.elim
      · exact h.elim
    · exact h.elim
  · rename_i d g c hgc l j t'
    split at h
    · rename_i T x y ho
      split at h
      · rename_i el he
        split at h
        · rename_i sz b hs
          cases h with
          | mk h e a =>
            refine ⟨a,λr hr=>?_⟩
            obtain ⟨v,q1,q2⟩:=dD hr
            refine ⟨t' v,_,q2,λH _=>?_,h v q1⟩
            have hy:=JO ho (ht.nW he) (ht.b.mH hs) ((gZ (hp:=hp) (H:=H) x).trans (congrArg Prod.fst e)) ((gZ (hp:=hp) y).trans (congrArg Prod.snd e)) q1
            rw [hgc] at hy
            exact hy
        · exact h.elim
      · exact h.elim
    · exact h.elim
  · rename_i d g l t'
    split at h
    · rename_i c ho
      split at h
      · rename_i hc
        split at h
        · rename_i x hx
          split at h
          · rename_i T hT
            split at h
            · rename_i el he
              split at h
              · rename_i sz b hs
                cases h with
                | mk h e a=>exact ⟨a,λr hr=>⟨t',_,hr,λH _=>mY (GD ho hc hx hT) (ht.nW he) ((gZ (hp:=hp) x).trans e) (wB _),h⟩⟩
              · exact h.elim
            · exact h.elim
          · exact h.elim
        · exact h.elim
      · exact h.elim
    · exact h.elim
  · rename_i t0 B kf args V d o' hc C t'
    obtain ⟨fo,as,ts,g,first,cap,us,q1,q2,q3,q4⟩:=K7 h
    cases q4 with
    | mk h2 e h1 a =>
        subst e
        refine ⟨a,λr hr=>?_⟩
        obtain ⟨b,p1,p2⟩:=dD hr
        exact ⟨t' b,_,p2,λH hH=>iO q1 (q2 H) (q3 H) hc (h1 H hH) (C _ p1),h2 b p1⟩
  · rename_i t0 B kf args V d o' hc C hf t'
    obtain ⟨fo,as,ts,g,first,cap,us,q1,q2,q3,q4⟩:=K7 h
    cases q4 with
    | mk h2 e h1 a =>
        subst e
        refine ⟨a,λr hr=>?_⟩
        obtain ⟨b,p1,p2⟩:=dD hr
        exact ⟨t' b,_,p2,λH hH=>RD q1 (q2 H) (q3 H) hc (h1 H hH) (C _ p1) (hf b),h2 b p1⟩
  · exact h.elim
theorem xN (ht:fE P tb) {f:FS} {hp:AH}:∀ {rs:List ResultVar} {vs:List (Nat×Nat)} {k:List (Nat×Nat)->List AV->Prop},qM tb f hp rs vs k->∃ ws us,k ws us/\(dO ws->dO vs)/\(dO ws->kX P ⟨f,hp⟩ rs us)
  | [],vs,k,h=>⟨vs,[],h,λe=>e,λ_=>.nil⟩
  | .tmp t :: r,vs,k,h=>by
    unfold qM at h
    split at h
    · rename_i v hv
      obtain ⟨ws,us,h1,h2,h3⟩:=xN ht h
      exact ⟨ws,_,h1,h2,λe=>.tmp hv (h3 e)⟩
    · exact h.elim
  | .cell t T :: r,vs,k,h=>by
    unfold qM at h
    split at h
    · rename_i m b hT
      split at h
      · rename_i id aD row off hx
        split at h
        · rename_i ob hob
          split at h
          · rename_i rw hr
            split at h
            · rename_i v hv
              obtain ⟨ws,us,h1,h2,h3⟩:=xN ht h
              exact ⟨ws,_,h1,λe=>(h2 e).2,λe=>.cell hx (.pt hob (h2 e).1 hr) (ht.b.mH hT) hv (h3 e)⟩
            · exact h.elim
          · exact h.elim
        · exact h.elim
      · exact h.elim
    · exact h.elim
def nM (P:Program) (KN:NT->KT P):Prop:=∀ n,A8 P n (KN n)
theorem MC (ht:fE P tb) {KN:NT->KT P} (hK:nM P KN) {f:FS} {hp:AH} {o:Oper} {i:Ix} {t:WT P i} {vs:List (Nat×Nat)} {kp:AH->Prop} {k:WT P i->AV->AH->Prop} (h:D3 tb KN f hp o t vs kp k) :
    dO vs/\∀ r,t.run=some r->∃ Out,bW P o ⟨f,hp⟩ no any Out/\∀ v H',Out v H'->kp H'/\∃ t',t'.run=some r/\k t' v H':=by
  unfold D3 at h
  split at h
  · rename_i j t'
    cases h with
    | mk Out h1 h2 a=>exact ⟨a,λr hr=>⟨Out,h1.1 ht,λv H' hO=>⟨h1.2 v H' hO,t',hr,h2 v H' hO⟩⟩⟩
  · rename_i t0 B g0 fn j hc hf M W V O x t'
    obtain ⟨fo,as,ts,g,first,cap,us,q1,q2,q3,q4⟩:=K7 h
    obtain ⟨m,q4⟩:=rV q4
    split at q4
    · rename_i c hb
      split at q4
      · rename_i hle
        cases q4 with
        | mk h1 h2 e a =>
          subst e
          refine ⟨a,λr hr=>?_⟩
          obtain ⟨b,p1,p2⟩:=dD hr
          refine ⟨_,aQ q1 (q2 hp) (q3 hp) hc (C4 (R:=λy H'=>∃ u os,mR (uV hp W u) hp (O (uV hp W u) b)=some os/\y=V (uV hp W u) b/\H'=hk (os++m)) hf hb (Nat.le_of_ble_eq_true hle) (Tr.mono (kY ((hK _ _ _ _ _ _ _ h1).2 b p1)) ?_)),?_⟩
          · rintro e S' ⟨he,hj⟩
            unfold JI at hj
            split at hj
            · rename_i os ho
              obtain ⟨ws,us,g1,g2,g3⟩:=xN ht hj
              cases g1 with
              | mk e1 hh a1=>exact ⟨he,us,hk (os++m),g3 a1,HK.le hh,vr S'.hp,os,ho,e1,rfl⟩
            · exact hj.elim
          · rintro v H' ⟨u,os,ho,rfl,rfl⟩
            have h3:=h2 b u
            rw [ho] at h3
            cases h3 with
            | mk c1 c2 _=>exact ⟨c1,t' b,p2,c2⟩
      · exact q4.elim
    · exact q4.elim
  · rename_i t0 B T0 nm0 g0 fn j hmt hc hf M W V O x t'
    obtain ⟨ro,nm,as,ts,T,v0,us,q1,q2,q3,q4⟩:=aL5 h
    obtain ⟨m,q4⟩:=rV q4
    split at q4
    · rename_i c hb
      split at q4
      · rename_i hle
        cases q4 with
        | mk h1 h2 e a =>
          cases e
          refine ⟨a,λr hr=>?_⟩
          obtain ⟨b,p1,p2⟩:=dD hr
          refine ⟨_,aB7 q1 q2 hmt q3 hc (C4 (R:=λy H'=>∃ u os,mR (uV hp W u) hp (O (uV hp W u) b)=some os/\y=V (uV hp W u) b/\H'=hk (os++m)) hf hb (Nat.le_of_ble_eq_true hle) (Tr.mono (kY ((hK _ _ _ _ _ _ _ h1).2 b p1)) ?_)),?_⟩
          · rintro e S' ⟨he,hj⟩
            unfold JI at hj
            split at hj
            · rename_i os ho
              obtain ⟨ws,us,g1,g2,g3⟩:=xN ht hj
              cases g1 with
              | mk e1 hh a1=>exact ⟨he,us,hk (os++m),g3 a1,HK.le hh,vr S'.hp,os,ho,e1,rfl⟩
            · exact hj.elim
          · rintro v H' ⟨u,os,ho,rfl,rfl⟩
            have h3:=h2 b u
            rw [ho] at h3
            cases h3 with
            | mk c1 c2 _=>exact ⟨c1,t' b,p2,c2⟩
      · exact q4.elim
    · exact q4.elim
  · exact h.elim
theorem nA {f:FS} {d:Option Tmp} {v:AV} {k:FS->Prop} (h:mK f d v k):∃ f',k f'/\∀ hp,({ sl:=f',hp:=hp }:AS)=(AS.mk f hp).put d v:=by
  cases d with
  | none=>exact ⟨f,h,λ_=>rfl⟩
  | some t=>exact ⟨_,h,λ_=>rfl⟩
theorem yX {i:Ix} {t:WT P i} {d:Option Nat}:(wC t d).run=t.run:=by
  unfold wC
  split
  · rfl
  · split
    · split <;> rfl
    · rfl
theorem YN (ht:fE P tb) {KN:NT->KT P} (hK:nM P KN) {id:Nat} {l:List Oper} {o:Oper} {rest:List Oper} {cs:List Code} {i:Ix} {t:WT P i} {s:Sk P i} {f:FS} {hp:AH} {vs:List (Nat×Nat)}
    (h:FQ tb n KN id l o rest cs t s f hp vs):dO vs/\l5 P n t s (.r id l (o :: rest) cs) ⟨f,hp⟩:=by
  unfold FQ at h
  split at h
  · exact h.elim
  · rename_i hd
    split at h
    · rename_i hw
      obtain ⟨f',h,hf⟩:=nA h
      obtain ⟨a,b⟩:=hK _ _ _ _ _ _ _ h
      refine ⟨a,λr hr K' hK'=>V6 hw hd ?_⟩
      have:=b r hr K' hK'
      rw [hf] at this;exact this
    · rename_i hw
      split at h
      · split at h
        · obtain ⟨a,b⟩:=MC ht hK h
          refine ⟨a,λr hr K' hK'=>?_⟩
          obtain ⟨Out,q1,q2⟩:=b r hr
          refine yR hw hd q1 λv H' hO=>?_
          obtain ⟨_,t',q3,q4⟩:=q2 v H' hO
          obtain ⟨f',q4,hf⟩:=nA q4
          have:=(hK _ _ _ _ _ _ _ q4).2 r q3 K' hK'
          rw [hf] at this;exact this
        · obtain ⟨a,b⟩:=JB ht (λH e id _=>by rw [e]) h
          refine ⟨a,λr hr K' hK'=>?_⟩
          obtain ⟨t',v,q1,q2,q3⟩:=b r hr
          obtain ⟨f',q3,hf⟩:=nA q3
          have:=(hK _ _ _ _ _ _ _ q3).2 r q1 K' hK'
          rw [hf] at this
          exact TH hw hd (q2 hp rfl) this
      · replace h:=zP h
        obtain ⟨t',us,Out,ch,q1,⟨v0,H0,q2⟩,q3,q4,q5,_⟩:=UU ht h
        obtain ⟨f0,q2,-⟩:=nA q2
        have hv:=(hK _ _ _ _ _ _ _ q2).1
        refine ⟨q4 hv,λr hr K' hK'=>yR hw hd (q5 hv) λv H' hO=>?_⟩
        obtain ⟨f',q3,hf⟩:=nA (q3 v H' hO)
        have:=(hK _ _ _ _ _ _ _ q3).2 r (q1 r (yX.trans hr)) K' hK'
        rw [hf] at this;exact this
    · exact h.elim
theorem EZ {hp H':AH} {ch:Option Nat} (h:∀ j,ch≠some j->H' j=hp j):∀ {l:List Nat},IJ ch l=true->rY H' hp l
  | [],_=>trivial
  | k :: r,hl=>by
    cases ch with
    | none =>
      have e:H'=hp:=by funext j;exact h j (by simp)
      subst e
      exact ⟨Kq.refl,EZ (ch:=none) h (l:=r) rfl⟩
    | some id =>
      unfold IJ at hl
      simp only [List.all_cons,Bool.and_eq_true,Bool.not_eq_true'] at hl
      obtain ⟨⟨h1,h2⟩,h3⟩:=hl
      refine ⟨?_,EZ (ch:=some id) h h3⟩
      unfold Kq
      rw [h1]
      exact h k (λe=>by cases e;rw [Nat.beq_refl] at h2;cases h2)
theorem RV {ops:List Oper} {rdl kpl:Nat->List Nat} {pu:Nat->Bool} {K:AS->Prop} {pi:List Nat} {o:Oper} {j:Nat} {f:FS} {hp:AH} {Out:AV->AH->Prop} (ho:ops[j]?=some o) (hpu:pu j=false) (hw:Wd ops ⟨f,hp⟩ o=some true) (hy:bW P o ⟨f,hp⟩ no any Out)
    (h:∀ x H',Out x H'->rY H' hp (kpl j)/\DE P ops rdl kpl pu K pi ((AS.mk f H').put o.dst x)):DE P ops rdl kpl pu K (j :: pi) ⟨f,hp⟩:=by
  show jH P ops rdl kpl pu j _ _
  unfold jH;simp only [ho];rw [if_neg (by rw [hpu];decide)];exact .inl ⟨hw,Out,hy,h⟩
theorem M5 {ops:List Oper} {rdl kpl:Nat->List Nat} {pu:Nat->Bool} {K:AS->Prop} {pi:List Nat} {o:Oper} {j:Nat} {f:FS} {hp:AH} {x:AV} (ho:ops[j]?=some o) (hpu:pu j=true) (hs:qQ (rdl j)=true) (hw:Wd ops ⟨f,hp⟩ o=some true)
    (hy:∀ H,(∀ k,k∈rdl j->H k=hp k)->bS P o ⟨f,H⟩ x) (h:DE P ops rdl kpl pu K pi ((AS.mk f hp).put o.dst x)):DE P ops rdl kpl pu K (j :: pi) ⟨f,hp⟩:=by
  show jH P ops rdl kpl pu j _ _
  unfold jH;simp only [ho];rw [if_pos hpu]
  exact ⟨x,.inl ⟨hw,λH hH=>hy H λk hk=>(hH k hk).eq (UZ hs hk)⟩,h⟩
theorem aDG {ops:List Oper} {rdl kpl:Nat->List Nat} {pu:Nat->Bool} {K:AS->Prop} {pi:List Nat} {o:Oper} {j:Nat} {f:FS} {hp:AH} (ho:ops[j]?=some o) (hw:Wd ops ⟨f,hp⟩ o=some false)
    (h:DE P ops rdl kpl pu K pi ((AS.mk f hp).put o.dst (.sc undef))):DE P ops rdl kpl pu K (j :: pi) ⟨f,hp⟩:=by
  show jH P ops rdl kpl pu j _ _
  unfold jH;simp only [ho]
  split
  · exact ⟨.sc undef,.inr ⟨hw,rfl⟩,h⟩
  · exact .inr ⟨hw,h⟩
theorem aK1 (ht:fE P tb) {KN:NT->KT P} (hK:nM P KN) {id:Nat} {l:List Oper} {rd kp:Nat->List Nat} {pu:Nat->Bool} {j:Nat} {o:Oper} {pi:List Nat} {cs:List Code} {i:Ix} {t:WT P i} {s:Sk P i} {f:FS} {hp:AH} {vs:List (Nat×Nat)} (ho:l[j]?=some o)
    (h:KH tb n KN id l rd kp pu j o pi cs t s f hp vs):dO vs/\l5 P n t s (.e id l rd kp pu (j :: pi) cs) ⟨f,hp⟩:=by
  unfold KH at h
  split at h
  · exact h.elim
  · rename_i hd
    split at h
    · rename_i hw
      obtain ⟨f',h,hf⟩:=nA h
      obtain ⟨a,b⟩:=hK _ _ _ _ _ _ _ h
      refine ⟨a,λr hr K' hK'=>aDG ho hw ?_⟩
      have:=b r hr K' hK'
      rw [hf] at this;exact this
    · rename_i hw
      split at h
      · rename_i hpu
        split at h
        · rename_i hs
          split at h
          · split at h
            · rename_i hsub
              have hr:∀ H:AH,(∀ k,k∈rd j->H k=hp k)->∀ id,id∈qG f o->H id=hp id:=λH hH id hid=>hH id (CS hsub hid)
              obtain ⟨a,b⟩:=JB ht hr h
              refine ⟨a,λr hr K' hK'=>?_⟩
              obtain ⟨t',v,q1,q2,q3⟩:=b r hr
              obtain ⟨f',q3,hf⟩:=nA q3
              have:=(hK _ _ _ _ _ _ _ q3).2 r q1 K' hK'
              rw [hf] at this
              exact M5 ho hpu hs hw q2 this
            · exact h.elim
          · split at h
            · rename_i hsub
              replace h:=zP h
              obtain ⟨us,v,q1,q2,q3⟩:=UY ht (k:=λt' vs v=>mK f o.dst v λf'=>KN n t' s (.e id l rd kp pu pi cs) f' hp vs) h
              obtain ⟨f',q1,hf⟩:=nA q1
              obtain ⟨a,b⟩:=hK _ _ _ _ _ _ _ q1
              refine ⟨q2 a,λr hr K' hK'=>?_⟩
              have:=b r (yX.trans hr) K' hK'
              rw [hf] at this
              exact M5 ho hpu hs hw (λH hH=>q3 a H λid hid=>hH id (CS hsub hid)) this
            · exact h.elim
        · exact h.elim
      · rename_i hpu
        split at h
        · split at h
          · obtain ⟨a,b⟩:=MC ht hK h
            refine ⟨a,λr hr K' hK'=>?_⟩
            obtain ⟨Out,q1,q2⟩:=b r hr
            refine RV ho hpu hw q1 λv H' hO=>?_
            obtain ⟨q0,t',q3,q4⟩:=q2 v H' hO
            obtain ⟨f',q4,hf⟩:=nA q4
            have:=(hK _ _ _ _ _ _ _ q4).2 r q3 K' hK'
            rw [hf] at this;exact ⟨q0,this⟩
          · exact h.elim
        · replace h:=zP h
          obtain ⟨t',us,Out,ch,q1,⟨v0,H0,q2⟩,q3,q4,q5,q6⟩:=UU ht h
          split at q2
          · rename_i hch
            obtain ⟨f0,q2,-⟩:=nA q2
            have hv:=(hK _ _ _ _ _ _ _ q2).1
            refine ⟨q4 hv,λr hr K' hK'=>RV ho hpu hw (q5 hv) λv H' hO=>⟨EZ (q6 v H' hO) hch,?_⟩⟩
            have q3:=q3 v H' hO
            rw [hch] at q3
            obtain ⟨f',q3,hf⟩:=nA q3
            have:=(hK _ _ _ _ _ _ _ q3).2 r (q1 r (yX.trans hr)) K' hK'
            rw [hf] at this;exact this
          · exact q2.elim
    · exact h.elim
theorem IG {u v:AV} (e:u=v):∀ (ds:List Nat) (f:FS),ds.map f=ds.map (λ_=>some u)->iT f ds v=f
  | [],f,_=>rfl
  | d :: ds,f,hm=>by
    simp only [List.map_cons,List.cons.injEq] at hm
    have e1:upd f d (some v)=f:=by
      funext i
      by_cases hi:i=d
      · subst hi;rw [upd_same,hm.1,e]
      · rw [upd_ne _ _ hi]
    show iT (upd f d (some v)) ds v=f
    rw [e1]
    exact IG e ds f hm.2
theorem OT {b c:Bool} (e:b=c):∀ (ds:List Nat) (f:FS),ds.map f=ds.map (λ_=>some (aA b))->iT f ds (aA c)=f
  | [],f,_=>rfl
  | d :: ds,f,hm=>by
    simp only [List.map_cons,List.cons.injEq] at hm
    have e1:upd f d (some (aA c))=f:=by
      funext i
      by_cases hi:i=d
      · subst hi;rw [upd_same,hm.1,e]
      · rw [upd_ne _ _ hi]
    show iT (upd f d (some (aA c))) ds (aA c)=f
    rw [e1]
    exact OT e ds f hm.2
theorem BV {i:Ix} {t:WT P i} {s:Sk P i} {md:Mw} {f:FS} {hp:AH} {b c:Bool} {ds:List Nat} (e:b=c) (h:ds.map f=ds.map (λ_=>some (aA b))) (hs:l5 P n t s md ⟨iT f ds (aA c),hp⟩):l5 P n t s md ⟨f,hp⟩:=by
  rw [OT e ds f h] at hs;exact hs
theorem BI {KN:NT->KT P} (hK:nM P KN) {i:Ix} {x y:WT P i} {s:Sk P i} {md:Mw} {f:FS} {hp:AH} {vs:List (Nat×Nat)} {ds:List Nat} {b:Bool}
    (h:nG vs (ds.map f) (ds.map λ_=>some (aA b)) (KN n x s md (iT f ds (aA true)) hp []) (KN n y s md (iT f ds (aA false)) hp [])):dO vs/\l5 P n (.ifs ds b x y) s md ⟨f,hp⟩:=by
  cases h with
  | mk h1 h2 e a =>
    refine ⟨a,λr hr=>?_⟩
    have hr':cond b x.run y.run=some r:=hr
    cases hb:b with
    | true=>rw [hb] at hr';exact BV hb e (λr' hr2=>(hK _ _ _ _ _ _ _ h1).2 r' hr2) r hr'
    | false=>rw [hb] at hr';exact BV hb e (λr' hr2=>(hK _ _ _ _ _ _ _ h2).2 r' hr2) r hr'
theorem BY {KN:NT->KT P} (hK:nM P KN) {i:Ix} {k:WT P i} {s:Sk P i} {md:Mw} {f:FS} {hp:AH} {vs:List (Nat×Nat)} {ds:List Nat} {b:Bool}
    (h:kC vs (ds.map f) (ds.map λ_=>some (aA b)) (KN n k s md (iT f ds (aA false)) hp [])):dO vs/\l5 P n (.az ds b k) s md ⟨f,hp⟩:=by
  cases h with
  | mk h e a =>
    refine ⟨a,λr hr=>?_⟩
    obtain ⟨hb,g⟩:=dH (show cZ (b=false) k.run=some r from hr)
    exact BV (t:=k) hb e (λr' hr2=>(hK _ _ _ _ _ _ _ h).2 r' hr2) r g
theorem BB {KN:NT->KT P} (hK:nM P KN) {i:Ix} {k:WT P i} {s:Sk P i} {md:Mw} {f:FS} {hp:AH} {vs:List (Nat×Nat)} {ds:List Nat} {b:Bool}
    (h:kC vs (ds.map f) (ds.map λ_=>some (aA b)) (KN n k s md (iT f ds (aA true)) hp [])):dO vs/\l5 P n (.an ds b k) s md ⟨f,hp⟩:=by
  cases h with
  | mk h e a =>
    refine ⟨a,λr hr=>?_⟩
    obtain ⟨hb,g⟩:=dH (show cZ (b=true) k.run=some r from hr)
    exact BV (t:=k) hb e (λr' hr2=>(hK _ _ _ _ _ _ _ h).2 r' hr2) r g
theorem B8 {KN:NT->KT P} (hK:nM P KN) {i:Ix} {x y:WT P i} {s:Sk P i} {md:Mw} {f:FS} {hp:AH} {vs:List (Nat×Nat)} {ds:List Nat} {u v:Int}
    (h:nG vs (ds.map f) (ds.map λ_=>some (int u)) (KN n x s md (iT f ds (int v)) hp []) (KN n y s md f hp [])):dO vs/\l5 P n (.sp ds u v x y) s md ⟨f,hp⟩:=by
  cases h with
  | mk h1 h2 e a =>
    refine ⟨a,λr hr=>?_⟩
    have hr':cond (decide (u=v)) x.run y.run=some r:=hr
    by_cases hb:u=v
    · rw [decide_eq_true hb] at hr'
      have h1:=(hK _ _ _ _ _ _ _ h1).2 r hr'
      rw [IG (by rw [hb]) ds f e] at h1
      exact h1
    · rw [decide_eq_false hb] at hr'
      exact (hK _ _ _ _ _ _ _ h2).2 r hr'
theorem CW {KN:NT->KT P} (hK:nM P KN) {i:Ix} {k:WT P i} {s:Sk P i} {md:Mw} {f:FS} {hp:AH} {vs:List (Nat×Nat)} {ds:List Nat} {u v:Int}
    (h:kC vs (ds.map f) (ds.map λ_=>some (int u)) (KN n k s md (iT f ds (int v)) hp [])):dO vs/\l5 P n (.sa ds u v k) s md ⟨f,hp⟩:=by
  cases h with
  | mk h e a =>
    refine ⟨a,λr hr=>?_⟩
    obtain ⟨hb,g⟩:=dH (show cZ (u=v) k.run=some r from hr)
    have h1:=(hK _ _ _ _ _ _ _ h).2 r g
    rw [IG (by rw [hb]) ds f e] at h1
    exact h1
theorem aC5 (hm:P.follows .mixedOrders=true) {KN:NT->KT P} (hK:nM P KN) {x:Code} {cs:List Code} {i:Ix} {t:WT P i} {s:Sk P i} {f:FS} {hp:AH} {vs:List (Nat×Nat)} (h:JA n KN x cs t s f hp vs):dO vs/\l5 P n t s (.c (x :: cs)) ⟨f,hp⟩:=by
  unfold JA at h
  split at h
  · exact BI hK h
  · exact BY hK h
  · exact BB hK h
  · exact B8 hK h
  · exact CW hK h
  · rename_i id k
    split at h
    · rename_i ob ho
      obtain ⟨a,b⟩:=hK _ _ _ _ _ _ _ h
      exact ⟨a,λr hr=>RE id ho (b r hr)⟩
    · exact h.elim
  · rename_i d v k
    split at h
    · rename_i u hu
      cases h with
      | mk h2 h1 a=>exact ⟨a,λr hr=>JD d v hu h1 ((hK _ _ _ _ _ _ _ h2).2 r hr)⟩
    · exact h.elim
  · rename_i d id e sz k
    split at h
    · rename_i hf
      split at h
      · rename_i hid
        exact ⟨(hK _ _ _ _ _ _ _ (h 0)).1,λr hr=>sH d id e sz hf hid λaD=>(hK _ _ _ _ _ _ _ (h aD)).2 r hr⟩
      · exact h.elim
    · exact h.elim
  · rename_i id0 row j id e sz k
    split at h
    · rename_i oe os om oa ov orr hob
      split at h
      · rename_i rr hrr
        split at h
        · rename_i hj
          split at h
          · rename_i hid
            exact ⟨(hK _ _ _ _ _ _ _ (h 0)).1,λr hr=>aFY id0 row j id e sz hob hrr hj hid (rows:=λaD=>orr.set row (rr.set j (.sl id aD 0 0))) (λ_=>rfl) λaD=>(hK _ _ _ _ _ _ _ (h aD)).2 r hr⟩
          · exact h.elim
        · exact h.elim
      · exact h.elim
    · exact h.elim
  · exact aCX hm (hK n) h
theorem aBW (ht:fE P tb) {KN:NT->KT P} (hK:nM P KN) {rid:Nat} {l todo:List Oper} {cs:List Code} {i:Ix} {t:WT P i} {s:Sk P i} {f:FS} {hp:AH} {vs:List (Nat×Nat)} (h:EI tb n KN rid l todo cs t s f hp vs):dO vs/\l5 P n t s (.r rid l todo cs) ⟨f,hp⟩:=by
  unfold EI at h
  split at h
  · exact BI hK h
  · exact BY hK h
  · exact BB hK h
  · exact B8 hK h
  · exact CW hK h
  · rename_i id k
    split at h
    · rename_i ob ho
      obtain ⟨a,b⟩:=hK _ _ _ _ _ _ _ h
      exact ⟨a,λr hr=>λK' hK'=>aIY id ho (b r hr K' hK')⟩
    · exact h.elim
  · rename_i d v k
    split at h
    · rename_i u hu
      cases h with
      | mk h2 h1 a=>exact ⟨a,λr hr=>λK' hK'=>aK4 d v hu h1 ((hK _ _ _ _ _ _ _ h2).2 r hr K' hK')⟩
    · exact h.elim
  · split at h
    · obtain ⟨a,b⟩:=hK _ _ _ _ _ _ _ h
      exact ⟨a,λr hr K' hK'=>bT (hK' _ (b r hr))⟩
    · exact YN ht hK h
theorem XZ (ht:fE P tb) {KN:NT->KT P} (hK:nM P KN) {id:Nat} {l:List Oper} {rd kp:Nat->List Nat} {pu:Nat->Bool} {pi:List Nat} {cs:List Code} {i:Ix} {t:WT P i} {s:Sk P i} {f:FS} {hp:AH} {vs:List (Nat×Nat)} (h:J3 tb n KN id l rd kp pu pi cs t s f hp vs):dO vs/\l5 P n t s (.e id l rd kp pu pi cs) ⟨f,hp⟩:=by
  unfold J3 at h
  split at h
  · exact BI hK h
  · exact BY hK h
  · exact BB hK h
  · exact B8 hK h
  · exact CW hK h
  · split at h
    · obtain ⟨a,b⟩:=hK _ _ _ _ _ _ _ h
      exact ⟨a,λr hr K' hK'=>AZ (hK' _ (b r hr))⟩
    · split at h
      · rename_i o ho
        exact aK1 ht hK ho h
      · exact h.elim
theorem YO (ht:fE P tb) {C j:Nat} {f:FS} {hp:AH} {o:Oper} {i:Ix} {t:WT P i} {vs:List (Nat×Nat)} {k:WT P i->List (Nat×Nat)->AV->Nat->aW->Prop} (h:KL tb (C+j) f hp o t vs k) :
    ∃ t' us v id ob,(∀ r,t.run=some r->t'.run=some r)/\k t' us v id ob/\(dO us->dO vs)/\(dO us->∀ H,(∀ q,q∈vE f o->H q=hp q)->bW P o ⟨f,H⟩ (·=C+j) (·=C+j) (λy H'=>y=v/\H'=upd H id (some ob))):=by
  unfold KL at h
  split at h
  · rename_i T ho
    split at h
    · rename_i id t'
      split at h
      · rename_i zs hz
        split at h
        · rename_i h1
          have h:=nO h
          rw [List.length_map] at h
          exact ⟨t',vs,_,_,_,λr hr=>hr,h,λe=>e,λ_ H _=>MZ id ho (ht.BA hz) h1⟩
        · exact h.elim
      · exact h.elim
    · exact h.elim
  · rename_i T x ho
    split at h
    · rename_i id t'
      split at h
      · rename_i v hx
        split at h
        · rename_i h1
          have h:=nO h
          refine ⟨t',vs,_,_,_,λr hr=>hr,h,λe=>e,λ_ H _=>?_⟩
          intro s a next Q h1' h2 h3 h4
          exact BD id (.one (C+j)) ho ((gZ (hp:=hp) x).trans hx) h1 s a next Q h1' h2 h3 λs' v x H' ⟨aD,hv,e1,e2⟩=>by
            subst hv;exact h4 s' v x H' ⟨e1,e2⟩
        · exact h.elim
      · exact h.elim
    · exact h.elim
  · rename_i T x y ho
    split at h
    · obtain ⟨ob,q1,q2,q3⟩:=h
      refine ⟨_,[],_,_,ob,?_,q2,λ_=>q3,λ_ H hag=>q1 ht H hag⟩
      exact λr hr=>hr
    · split at h
      · rename_i m b hT
        split at h
        · rename_i id aD row off hx
          split at h
          · rename_i v hy
            split at h
            · rename_i el sz mt app ve rows hob
              split at h
              · rename_i r hr
                split at h
                · rename_i hc
                  have h:=BS (nO h)
                  simp only [Bool.and_eq_true] at hc
                  obtain ⟨⟨⟨c1,c2⟩,c3⟩,c4⟩:=hc
                  refine ⟨t,_,_,_,_,λr hr=>hr,h,λe=>e.2,λe H hag=>?_⟩
                  have hm:id∈vE f o:=by
                    unfold vE
                    simp only [ho,gZ (hp:=hp),hx,List.mem_singleton]
                  exact (dZ ho (ht.b.mH hT) ((gZ (hp:=hp) x).trans hx) ((gZ (hp:=hp) y).trans hy) ((hag id hm).trans hob) e.1 c1 hr (Nat.eq_of_beq_eq_true c2) c3 c4).d9 (λ_ h=>h.elim) λ_ h=>h.elim
                · exact h.elim
              · exact h.elim
            · exact h.elim
          · exact h.elim
        · exact h.elim
      · exact h.elim
  · exact h.elim
theorem aLR (ht:fE P tb) {C j:Nat} {f:FS} {hp:AH} {o:Oper} {B:Type} {id:Nat} {g:B->List AV} {z0:B} {N:Int} {l:List B} {vs:List (Nat×Nat)} {k:AV->aW->Prop} (h:FN tb (C+j) f hp o id g z0 N l vs k) :
    ∃ v ob,k v ob/\dO vs/\∀ H,bW P o ⟨f,H⟩ (·=C+j) (·=C+j) (λy H'=>y=v/\H'=upd H id (some ob)):=by
  unfold FN at h
  split at h
  · rename_i T x y ho
    split at h
    · rename_i e hT
      split at h
      · rename_i sz h1
        split at h
        · rename_i zs h2
          split at h
          · rename_i b' hb
            split at h
            · rename_i h3
              cases h with
              | mk h e1 a =>
                cases h with
                | mk c1 c2 c3 =>
                  refine ⟨_,_,c3,a,λH=>?_⟩
                  intro s ac next Q h1' h2' h3' h4
                  exact oW id (.one (C+j)) ho (ht.nW hT) (ht.DN h1 h2 h3) (ht.wZ hb).1 (ht.wZ hb).2 ((gZ (hp:=hp) x).trans (congrArg Prod.fst e1)) ((gZ (hp:=hp) y).trans (congrArg Prod.snd e1)) c2.1 c1 c2.2 s ac next Q h1' h2' h3' λs' v x H' ⟨aD,hv,e1,e2⟩=>by
                    subst hv;exact h4 s' v x H' ⟨e1,e2⟩
            · exact h.elim
          · exact h.elim
        · exact h.elim
      · exact h.elim
    · exact h.elim
  · exact h.elim
theorem YX (ht:fE P tb) {KN:NT->KT P} (hK:nM P KN) {id:Nat} {l:List Oper} {rd:Nat->List Nat} {wr:Nat->Option Nat} {C j:Nat} {o:Oper} {rest:List Oper} {cs:List Code} {i:Ix} {t:WT P i} {s:Sk P i} {f:FS} {hp:AH} {vs:List (Nat×Nat)}
    (h:FC tb n KN id l rd wr C j o rest cs t s f hp vs):dO vs/\l5 P n t s (.g id l rd wr C j (o :: rest) cs) ⟨f,hp⟩:=by
  unfold FC at h
  split at h
  · exact h.elim
  · split at h
    · rename_i hw
      obtain ⟨f',h,hf⟩:=nA h
      obtain ⟨a,b⟩:=hK _ _ _ _ _ _ _ h
      refine ⟨a,λr hr K' hK'=>aJE hw ?_⟩
      have:=b r hr K' hK'
      rw [hf] at this;exact this
    · rename_i hw
      split at h
      · rename_i hsub
        have hrd:∀ q,q∈vE f o->q∈rd j:=λq hq=>CS hsub hq
        have hag:∀ {H:AH},(∀ k,bG rd j k=true->H k=hp k)->∀ k,k∈rd j->H k=hp k:=λhH k hk=>hH k (by unfold bG;rw [List.any_eq_true];exact ⟨k,hk,Nat.beq_refl k⟩)
        split at h
        · replace h:=zP h
          obtain ⟨t',us,v,k,ob,q1,q2,q3,q4⟩:=YO ht h
          split at q2
          · rename_i hwr
            have hwr':wr j=some k:=by
              unfold BX at hwr
              split at hwr
              · rename_i q hq;rw [hq,Nat.eq_of_beq_eq_true hwr]
              · cases hwr
            obtain ⟨f',q2,hf⟩:=nA q2
            obtain ⟨a,b⟩:=hK _ _ _ _ _ _ _ q2
            refine ⟨q3 a,λr hr K' hK'=>rU hw hwr' (λH hH=>q4 a H λq hq=>hag hH q (hrd q hq)) ?_⟩
            have:=b r (q1 r (yX.trans hr)) K' hK'
            rw [hf] at this;exact this
          · exact q2.elim
        · rename_i hne
          have hr2:∀ q,q∈qG f o->q∈rd j:=λq hq=>hrd q (by
            unfold vE
            split
            · rename_i ho;rw [ho] at hne;cases hne
            · exact hq)
          split at h
          · split at h
            · rename_i B0 jj k g z0 N q t' hh
              obtain ⟨v,ob,q2,q3,q4⟩:=aLR ht h
              split at q2
              · rename_i hwr
                have hwr':wr j=some k:=by
                  unfold BX at hwr
                  split at hwr
                  · rename_i q hq;rw [hq,Nat.eq_of_beq_eq_true hwr]
                  · cases hwr
                obtain ⟨f',q2,hf⟩:=nA q2
                obtain ⟨a,b⟩:=hK _ _ _ _ _ _ _ q2
                refine ⟨q3,λr hr K' hK'=>rU hw hwr' (λH hH=>q4 H) ?_⟩
                have:=b r hr K' hK'
                rw [hf] at this;exact this
              · exact q2.elim
            obtain ⟨a,b⟩:=JB ht (λH hH id hid=>hH id (hr2 id hid)) h
            refine ⟨a,λr hr K' hK'=>?_⟩
            obtain ⟨t',v,q1,q2,q3⟩:=b r hr
            obtain ⟨f',q3,hf⟩:=nA q3
            have:=(hK _ _ _ _ _ _ _ q3).2 r q1 K' hK'
            rw [hf] at this
            exact jO hw (λH hH=>q2 H (hag hH)) this
          · replace h:=zP h
            obtain ⟨us,v,q1,q2,q3⟩:=UY ht (k:=λt' vs v=>mK f o.dst v λf'=>KN n t' s (.g id l rd wr C (j+1) rest cs) f' hp vs) h
            obtain ⟨f',q1,hf⟩:=nA q1
            obtain ⟨a,b⟩:=hK _ _ _ _ _ _ _ q1
            refine ⟨q2 a,λr hr K' hK'=>?_⟩
            have:=b r (yX.trans hr) K' hK'
            rw [hf] at this
            exact jO hw (λH hH=>q3 a H λid hid=>hag hH id (hr2 id hid)) this
      · exact h.elim
    · exact h.elim
theorem aAG (ht:fE P tb) {KN:NT->KT P} (hK:nM P KN) {id:Nat} {l:List Oper} {rd:Nat->List Nat} {wr:Nat->Option Nat} {C j:Nat} {todo:List Oper} {cs:List Code} {i:Ix} {t:WT P i} {s:Sk P i} {f:FS} {hp:AH} {vs:List (Nat×Nat)} (h:JS tb n KN id l rd wr C j todo cs t s f hp vs):dO vs/\l5 P n t s (.g id l rd wr C j todo cs) ⟨f,hp⟩:=by
  unfold JS at h
  split at h
  · exact BI hK h
  · exact BY hK h
  · exact BB hK h
  · exact B8 hK h
  · exact CW hK h
  · split at h
    · obtain ⟨a,b⟩:=hK _ _ _ _ _ _ _ h
      exact ⟨a,λr hr K' hK'=>CP (hK' _ (b r hr))⟩
    · exact YX ht hK h
theorem aLX (hm:P.follows .mixedOrders=true) (ht:fE P tb) {KN:NT->KT P} (hK:nM P KN) {i:Ix} {t:WT P i} {s:Sk P i} {md:Mw} {f:FS} {hp:AH} {vs:List (Nat×Nat)} (h:stepW tb n KN t s md f hp vs):dO vs/\l5 P n t s md ⟨f,hp⟩:=by
  unfold stepW at h
  split at h
  · cases h with | mk _ a=>exact ⟨a,λr hr=>by cases hr⟩
  · rename_i p hd k
    cases h with
    | mk h a =>
      refine ⟨a,λr hr=>?_⟩
      have hr':@cZ _ p hd k.run=some r:=hr
      obtain ⟨hp',g⟩:=dH hr'
      exact (hK _ _ _ _ _ _ _ (h hp')).2 r g
  · rename_i B e k
    cases h with
    | mk h a=>exact ⟨a,λr hr=>(hK _ _ _ _ _ _ _ (h e rfl)).2 r hr⟩
  · rename_i B o k
    cases h with
    | mk h a =>
      refine ⟨a,λr hr=>?_⟩
      obtain ⟨b,g1,g2⟩:=dD hr
      exact (hK _ _ _ _ _ _ _ (h b g1)).2 r g2
  · split at h
    · split at h
      · obtain ⟨a,b⟩:=hK _ _ _ _ _ _ _ h
        exact ⟨a,λr hr=>b r hr⟩
      · obtain ⟨a,b⟩:=hK _ _ _ _ _ _ _ h
        exact ⟨a,λr hr=>b r hr⟩
      · obtain ⟨a,b⟩:=hK _ _ _ _ _ _ _ h
        exact ⟨a,λr hr=>b r hr⟩
      · obtain ⟨a,b⟩:=ZY (n:=n) _ _ _ _ _ h
        exact ⟨a,λr hr=>b r hr⟩
    · exact aC5 hm hK h
    · exact aBW ht hK h
    · exact XZ ht hK h
    · exact aAG ht hK h
theorem P5 (hm:P.follows .mixedOrders=true) (ht:fE P tb):∀ m,nM P (WP P tb m)
  | 0=>λ_ _ _ _ _ _ _ _ h=>h.elim
  | m+1=>λn _ _ _ _ _ _ _ h=>aLX hm ht (P5 hm ht m) h
def JF {A:Type} (tb:iC) (rs:List ResultVar) (av:A->AV) (a:A) (f:FS) (hp:AH) (vs:List (Nat×Nat)):Prop:=qM tb f hp rs vs λvs us=>E0 vs (Cv (mI hp) (l8 us) (av a))
theorem KI {A:Type} {tb:iC} {rs:List ResultVar} {av:A->AV} {a:A} {f:FS} {hp:AH} {vs:List (Nat×Nat)} (h:JF tb rs av a f hp vs):dO vs/\JF tb rs av a f hp []:=by
  obtain ⟨h1,h2⟩:=A7 (G:=λvs us=>E0 vs (Cv (mI hp) (l8 us) (av a))) (λh=>by cases h with | mk h a=>exact ⟨a,λa'=>⟨h,a'⟩⟩) (g:=id) h
  exact ⟨h1,h2 trivial⟩
def wL (fn:Func):Code:=fn.body.getD .skip
theorem UI (hm:P.follows .mixedOrders=true) {tb:iC} (ht:fE P tb) {A:Type} {g:FuncId} {fn:Func} {args:List AV} (av:A->AV) {t:WT P (.b A)} {r:A} (h0:t.run=some r) (hf:P.funcs[g]?=some fn) (hpv:∀ a,PV (av a)) (m:Nat)
    (h:WP P tb m ⟨fn.ntmps,false,[]⟩ t (.fn (JF tb fn.results.toList av) KI) (.c [wL fn]) (λt=>args[t]?) H0 []) (hb:fn.body=some (wL fn):=by rfl) (hle:Nat.ble args.length fn.ntmps=true:=by rfl) :
    PP P g args (λy=>y=av r):=by
  refine sG (R0:=λy H=>Cv (mI H) y (av r)) ?_ (λy H hc=>⟨_,rfl,hpv r,hc⟩)
  refine C4 hf hb (Nat.le_of_ble_eq_true hle) (Tr.mono (kY ((P5 hm ht m _ _ _ _ _ _ _ h).2 r h0)) ?_)
  rintro e S' ⟨he,hj⟩
  obtain ⟨ws,us,h1,h2,h3⟩:=xN ht hj
  cases h1 with
  | mk h1 a=>exact ⟨he,us,S'.hp,h3 a,λ_ _ h=>h,h1⟩
end
end Go.Pv
