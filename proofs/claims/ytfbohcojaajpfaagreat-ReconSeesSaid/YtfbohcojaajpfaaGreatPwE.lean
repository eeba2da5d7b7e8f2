import Derived.Test.YtfbohcojaajpfaaGreatPwC
set_option linter.unusedVariables false
set_option linter.unusedSimpArgs false
namespace Go.Pv
section
variable {P:Program} {n:NT} {tb:Tab2}
theorem callee_ok {f:FS} {hp:AH} {o:Oper} {k:FuncId→List AV→Prop} (h:callee f hp o k):∃ fo as ts g first cap vs,o.op=.call { callee:=.value fo,args:=List.toArray as,argTypes:=ts }∧(∀ H,(AS.mk f H).ev fo=some (.fn (.func g) first cap))∧(∀ H,EvL ⟨f,H⟩ as vs)∧k g (first++vs++cap):=by
  unfold callee at h
  split at h
  · rename_i c ho
    split at h
    · rename_i fo hc
      split at h
      · rename_i g first cap hf
        split at h
        · rename_i vs hv
          refine ⟨fo,c.args.toList,c.argTypes,g,first,cap,vs,call_eta ho hc,fun H=>(evH (hp:=hp) fo).trans hf,fun H=>?_,h⟩
          have key:∀ (l:List Operand) (vs:List AV),EvL ⟨f,hp⟩ l vs→EvL ⟨f,H⟩ l vs:=by
            intro l vs h
            induction h with
            | nil=>exact .nil
            | cons h _ ih=>exact .cons ((evH (hp:=hp) _).trans h) ih
          exact key _ _ (evs_ok hv)
        · exact h.elim
      · exact h.elim
    · exact h.elim
  · exact h.elim
theorem wordW_ok (ht:Tab2Ok P tb) {f:FS} {hp:AH} {Ag:AH→Prop} {o:Oper} (hrd:∀ H,Ag H→∀ id,id∈rdsW f o→H id=hp id) {i:Ix} {t:WT P i} {vs:List (Nat×Nat)} {k:WT P i→AV→Prop} (h:wordW tb f hp Ag o t vs k) :
    VEq vs∧∀ r,t.run=some r→∃ t' v,t'.run=some r∧(∀ H,Ag H→YieldV P o ⟨f,H⟩ v)∧k t' v:=by
  have ev:∀ {k':List (Nat×Nat)→AV→Prop},evW tb ⟨f,hp⟩ o vs k'→∃ v us,k' us v∧(VEq us→VEq vs)∧(VEq us→∀ H,Ag H→YieldV P o ⟨f,H⟩ v):=by
    intro k' h
    obtain ⟨us,v,h1,h2⟩:=evW_det h
    have q:=evW_ok ht (h2 (fun us' v'=>us'=us∧v'=v) ⟨rfl,rfl⟩)
    obtain ⟨v',us',⟨rfl,rfl⟩,q2,_⟩:=q
    refine ⟨v',us',h1,q2,fun e H hag=>?_⟩
    obtain ⟨v2,us2,⟨rfl,rfl⟩,_,g3⟩:=evW_ok ht (evW_H (hrd H hag) (h2 (fun us1 v1=>us1=us'∧v1=v') ⟨rfl,rfl⟩))
    exact g3 e
  unfold wordW at h
  split at h
  · rename_i d e t'
    obtain ⟨v,us,h1,h2,h3⟩:=ev h
    split at h1
    · cases h1 with
      | mk g e' a=>subst e';exact ⟨h2 a,fun r hr=>⟨t' _,_,hr,h3 a,g _⟩⟩
    · exact h1.elim
  · rename_i d e t'
    obtain ⟨v,us,h1,h2,h3⟩:=ev h
    split at h1
    · cases h1 with
      | mk g e' a=>subst e';exact ⟨h2 a,fun r hr=>⟨t' _,_,hr,h3 a,g _⟩⟩
    · exact h1.elim
  · rename_i d e t'
    obtain ⟨v,us,h1,h2,h3⟩:=ev h
    split at h1
    · cases h1 with
      | mk g e' a=>subst e';exact ⟨h2 a,fun r hr=>⟨t',_,hr,h3 a,g⟩⟩
    · exact h1.elim
  · rename_i d e t'
    obtain ⟨v,us,h1,h2,h3⟩:=ev h
    split at h1
    · cases h1 with
      | mk g e' a=>subst e';exact ⟨h2 a,fun r hr=>⟨t',_,hr,h3 a,g⟩⟩
    · exact h1.elim
  · rename_i d av e t'
    cases h with
    | mk v h g a =>
      cases g with
      | mk g e' _=>subst e';exact ⟨a,fun r hr=>⟨t' _,_,hr,fun H hH=>h H hH ht,g _⟩⟩
  · rename_i d t'
    cases h with
    | mk v h g a=>exact ⟨a,fun r hr=>⟨t',v,hr,fun H hH=>h H hH ht,g⟩⟩
  · rename_i d v t'
    cases h with
    | mk h g a=>exact ⟨a,fun r hr=>⟨t',v,hr,fun H hH=>h H hH ht,g⟩⟩
  · rename_i d g l j t'
    split at h
    · rename_i T x y ho
      split at h
      · rename_i el he
        split at h
        · rename_i sz b hs
          cases h with
          | mk h e a =>
            refine ⟨a,fun r hr=>?_⟩
            obtain ⟨v,q1,q2⟩:=bind_e hr
            exact ⟨t' v,_,q2,fun H _=>yv_ixT ho (ht.sev he) (ht.b.shv hs) ((evH (hp:=hp) x).trans (congrArg Prod.fst e)) ((evH (hp:=hp) y).trans (congrArg Prod.snd e)) q1,h v q1⟩
        · exact h.elim
      · exact h.elim
    · exact h.elim
  · rename_i d g c hgc l j t'
    split at h
    · rename_i T x y ho
      split at h
      · rename_i el he
        split at h
        · rename_i sz b hs
          cases h with
          | mk h e a =>
            refine ⟨a,fun r hr=>?_⟩
            obtain ⟨v,q1,q2⟩:=bind_e hr
            refine ⟨t' v,_,q2,fun H _=>?_,h v q1⟩
            have hy:=yv_ixT ho (ht.sev he) (ht.b.shv hs) ((evH (hp:=hp) (H:=H) x).trans (congrArg Prod.fst e)) ((evH (hp:=hp) y).trans (congrArg Prod.snd e)) q1
            rw [hgc] at hy
            exact hy
        · exact h.elim
      · exact h.elim
    · exact h.elim
  · rename_i d g l t'
    split at h
    · rename_i c ho
      split at h
      · rename_i hc
        split at h
        · rename_i x hx
          split at h
          · rename_i T hT
            split at h
            · rename_i el he
              split at h
              · rename_i sz b hs
                cases h with
                | mk h e a=>exact ⟨a,fun r hr=>⟨t',_,hr,fun H _=>yv_len_sl (call_len ho hc hx hT) (ht.sev he) ((evH (hp:=hp) x).trans e) (lst_len _),h⟩⟩
              · exact h.elim
            · exact h.elim
          · exact h.elim
        · exact h.elim
      · exact h.elim
    · exact h.elim
  · rename_i t0 B kf args V d o' hc C t'
    obtain ⟨fo,as,ts,g,first,cap,us,q1,q2,q3,q4⟩:=callee_ok h
    cases q4 with
    | mk h2 e h1 a =>
        subst e
        refine ⟨a,fun r hr=>?_⟩
        obtain ⟨b,p1,p2⟩:=bind_e hr
        exact ⟨t' b,_,p2,fun H hH=>yv_callP q1 (q2 H) (q3 H) hc (h1 H hH) (C p1),h2 b p1⟩
  · rename_i t0 B kf args V d o' hc C hf t'
    obtain ⟨fo,as,ts,g,first,cap,us,q1,q2,q3,q4⟩:=callee_ok h
    cases q4 with
    | mk h2 e h1 a =>
        subst e
        refine ⟨a,fun r hr=>?_⟩
        obtain ⟨b,p1,p2⟩:=bind_e hr
        exact ⟨t' b,_,p2,fun H hH=>yv_callT q1 (q2 H) (q3 H) hc (h1 H hH) (C p1) (hf b),h2 b p1⟩
  · exact h.elim
theorem resW_ok (ht:Tab2Ok P tb) {f:FS} {hp:AH}:∀ {rs:List ResultVar} {vs:List (Nat×Nat)} {k:List (Nat×Nat)→List AV→Prop},resW tb f hp rs vs k→∃ ws us,k ws us∧(VEq ws→VEq vs)∧(VEq ws→ResA P ⟨f,hp⟩ rs us)
  | [],vs,k,h=>⟨vs,[],h,fun e=>e,fun _=>.nil⟩
  | .tmp t :: r,vs,k,h=>by
    unfold resW at h
    split at h
    · rename_i v hv
      obtain ⟨ws,us,h1,h2,h3⟩:=resW_ok ht h
      exact ⟨ws,_,h1,h2,fun e=>.tmp hv (h3 e)⟩
    · exact h.elim
  | .cell t T :: r,vs,k,h=>by
    unfold resW at h
    split at h
    · rename_i m b hT
      split at h
      · rename_i id ver row off hx
        split at h
        · rename_i ob hob
          split at h
          · rename_i rw hr
            split at h
            · rename_i v hv
              obtain ⟨ws,us,h1,h2,h3⟩:=resW_ok ht h
              exact ⟨ws,_,h1,fun e=>(h2 e).2,fun e=>.cell hx (.pt hob (h2 e).1 hr) (ht.b.shv hT) hv (h3 e)⟩
            · exact h.elim
          · exact h.elim
        · exact h.elim
      · exact h.elim
    · exact h.elim
def KNOk (P:Program) (KN:NT→KT P):Prop:=∀ n,KOk P n (KN n)
theorem effW_ok (ht:Tab2Ok P tb) {KN:NT→KT P} (hK:KNOk P KN) {f:FS} {hp:AH} {o:Oper} {i:Ix} {t:WT P i} {vs:List (Nat×Nat)} {kp:AH→Prop} {k:WT P i→AV→AH→Prop} (h:effW tb KN f hp o t vs kp k) :
    VEq vs∧∀ r,t.run=some r→∃ Out,Yield P o ⟨f,hp⟩ no any Out∧∀ v H',Out v H'→kp H'∧∃ t',t'.run=some r∧k t' v H':=by
  unfold effW at h
  split at h
  · rename_i j t'
    cases h with
    | mk Out h1 h2 a=>exact ⟨a,fun r hr=>⟨Out,h1.1 ht,fun v H' hO=>⟨h1.2 v H' hO,t',hr,h2 v H' hO⟩⟩⟩
  · rename_i t0 B g0 fn j hc hf M W V O x t'
    obtain ⟨fo,as,ts,g,first,cap,us,q1,q2,q3,q4⟩:=callee_ok h
    obtain ⟨m,q4⟩:=keepO_ok q4
    split at q4
    · rename_i c hb
      split at q4
      · rename_i hle
        cases q4 with
        | mk h1 h2 e a =>
          subst e
          refine ⟨a,fun r hr=>?_⟩
          obtain ⟨b,p1,p2⟩:=bind_e hr
          refine ⟨_,yl_call q1 (q2 hp) (q3 hp) hc (pc_of (R:=fun y H'=>∃ u os,oeO (uV hp W u) hp (O (uV hp W u) b)=some os∧y=V (uV hp W u) b∧H'=hk (os++m)) hf hb (Nat.le_of_ble_eq_true hle) (Tr.mono (trs_of ((hK _ _ _ _ _ _ _ h1).2 b p1)) ?_)),?_⟩
          · rintro e S' ⟨he,hj⟩
            unfold JI at hj
            split at hj
            · rename_i os ho
              obtain ⟨ws,us,g1,g2,g3⟩:=resW_ok ht hj
              cases g1 with
              | mk e1 hh a1=>exact ⟨he,us,hk (os++m),g3 a1,HK.le hh,vr S'.hp,os,ho,e1,rfl⟩
            · exact hj.elim
          · rintro v H' ⟨u,os,ho,rfl,rfl⟩
            have h3:=h2 b u
            rw [ho] at h3
            cases h3 with
            | mk c1 c2 _=>exact ⟨c1,t' b,p2,c2⟩
      · exact q4.elim
    · exact q4.elim
  · exact h.elim
theorem putW_ok {f:FS} {d:Option Tmp} {v:AV} {k:FS→Prop} (h:putW f d v k):∃ f',k f'∧∀ hp,({ sl:=f',hp:=hp }:AS)=(AS.mk f hp).put d v:=by
  cases d with
  | none=>exact ⟨f,h,fun _=>rfl⟩
  | some t=>exact ⟨_,h,fun _=>rfl⟩
theorem unwt_run {i:Ix} {t:WT P i} {d:Option Nat}:(unwt t d).run=t.run:=by
  unfold unwt
  split
  · rfl
  · split
    · split <;> rfl
    · rfl
theorem opW_ok (ht:Tab2Ok P tb) {KN:NT→KT P} (hK:KNOk P KN) {id:Nat} {l:List Oper} {o:Oper} {rest:List Oper} {cs:List Code} {i:Ix} {t:WT P i} {s:Sk P i} {f:FS} {hp:AH} {vs:List (Nat×Nat)}
    (h:opW tb n KN id l o rest cs t s f hp vs):VEq vs∧Snd P n t s (.r id l (o :: rest) cs) ⟨f,hp⟩:=by
  unfold opW at h
  split at h
  · exact h.elim
  · rename_i hd
    split at h
    · rename_i hw
      obtain ⟨f',h,hf⟩:=putW_ok h
      obtain ⟨a,b⟩:=hK _ _ _ _ _ _ _ h
      refine ⟨a,fun r hr K' hK'=>rg_skip hw hd ?_⟩
      have:=b r hr K' hK'
      rw [hf] at this;exact this
    · rename_i hw
      split at h
      · split at h
        · obtain ⟨a,b⟩:=effW_ok ht hK h
          refine ⟨a,fun r hr K' hK'=>?_⟩
          obtain ⟨Out,q1,q2⟩:=b r hr
          refine rg_go hw hd q1 fun v H' hO=>?_
          obtain ⟨_,t',q3,q4⟩:=q2 v H' hO
          obtain ⟨f',q4,hf⟩:=putW_ok q4
          have:=(hK _ _ _ _ _ _ _ q4).2 r q3 K' hK'
          rw [hf] at this;exact this
        · obtain ⟨a,b⟩:=wordW_ok ht (fun H e id _=>by rw [e]) h
          refine ⟨a,fun r hr K' hK'=>?_⟩
          obtain ⟨t',v,q1,q2,q3⟩:=b r hr
          obtain ⟨f',q3,hf⟩:=putW_ok q3
          have:=(hK _ _ _ _ _ _ _ q3).2 r q1 K' hK'
          rw [hf] at this
          exact rg_pure hw hd (q2 hp rfl) this
      · replace h:=unK_e h
        obtain ⟨t',us,Out,ch,q1,⟨v0,H0,q2⟩,q3,q4,q5,_⟩:=plainW_ok ht h
        obtain ⟨f0,q2,-⟩:=putW_ok q2
        have hv:=(hK _ _ _ _ _ _ _ q2).1
        refine ⟨q4 hv,fun r hr K' hK'=>rg_go hw hd (q5 hv) fun v H' hO=>?_⟩
        obtain ⟨f',q3,hf⟩:=putW_ok (q3 v H' hO)
        have:=(hK _ _ _ _ _ _ _ q3).2 r (q1 r (unwt_run.trans hr)) K' hK'
        rw [hf] at this;exact this
    · exact h.elim
theorem keepL_of {hp H':AH} {ch:Option Nat} (h:∀ j,ch≠some j→H' j=hp j):∀ {l:List Nat},chOk ch l=true→KeepL H' hp l
  | [],_=>trivial
  | k :: r,hl=>by
    cases ch with
    | none =>
      have e:H'=hp:=by funext j;exact h j (by simp)
      subst e
      exact ⟨Kq.refl,keepL_of (ch:=none) h (l:=r) rfl⟩
    | some id =>
      unfold chOk at hl
      simp only [List.all_cons,Bool.and_eq_true,Bool.not_eq_true'] at hl
      obtain ⟨⟨h1,h2⟩,h3⟩:=hl
      refine ⟨?_,keepL_of (ch:=some id) h h3⟩
      unfold Kq
      rw [h1]
      exact h k (fun e=>by cases e;rw [Nat.beq_refl] at h2;cases h2)
theorem eOp_ef {ops:List Oper} {rdl kpl:Nat→List Nat} {pu:Nat→Bool} {K:AS→Prop} {pi:List Nat} {o:Oper} {j:Nat} {f:FS} {hp:AH} {Out:AV→AH→Prop} (ho:ops[j]?=some o) (hpu:pu j=false) (hw:Wd ops ⟨f,hp⟩ o=some true) (hy:Yield P o ⟨f,hp⟩ no any Out)
    (h:∀ x H',Out x H'→KeepL H' hp (kpl j)∧DE P ops rdl kpl pu K pi ((AS.mk f H').put o.dst x)):DE P ops rdl kpl pu K (j :: pi) ⟨f,hp⟩:=by
  show eOp P ops rdl kpl pu j _ _
  unfold eOp;simp only [ho];rw [if_neg (by rw [hpu];decide)];exact .inl ⟨hw,Out,hy,h⟩
theorem eOp_pu {ops:List Oper} {rdl kpl:Nat→List Nat} {pu:Nat→Bool} {K:AS→Prop} {pi:List Nat} {o:Oper} {j:Nat} {f:FS} {hp:AH} {x:AV} (ho:ops[j]?=some o) (hpu:pu j=true) (hs:allS (rdl j)=true) (hw:Wd ops ⟨f,hp⟩ o=some true)
    (hy:∀ H,(∀ k,k∈rdl j→H k=hp k)→YieldV P o ⟨f,H⟩ x) (h:DE P ops rdl kpl pu K pi ((AS.mk f hp).put o.dst x)):DE P ops rdl kpl pu K (j :: pi) ⟨f,hp⟩:=by
  show eOp P ops rdl kpl pu j _ _
  unfold eOp;simp only [ho];rw [if_pos hpu]
  exact ⟨x,.inl ⟨hw,fun H hH=>hy H fun k hk=>(hH k hk).eq (allS_get hs hk)⟩,h⟩
theorem eOp_sk {ops:List Oper} {rdl kpl:Nat→List Nat} {pu:Nat→Bool} {K:AS→Prop} {pi:List Nat} {o:Oper} {j:Nat} {f:FS} {hp:AH} (ho:ops[j]?=some o) (hw:Wd ops ⟨f,hp⟩ o=some false)
    (h:DE P ops rdl kpl pu K pi ((AS.mk f hp).put o.dst (.sc undef))):DE P ops rdl kpl pu K (j :: pi) ⟨f,hp⟩:=by
  show eOp P ops rdl kpl pu j _ _
  unfold eOp;simp only [ho]
  split
  · exact ⟨.sc undef,.inr ⟨hw,rfl⟩,h⟩
  · exact .inr ⟨hw,h⟩
theorem opE_ok (ht:Tab2Ok P tb) {KN:NT→KT P} (hK:KNOk P KN) {id:Nat} {l:List Oper} {rd kp:Nat→List Nat} {pu:Nat→Bool} {j:Nat} {o:Oper} {pi:List Nat} {cs:List Code} {i:Ix} {t:WT P i} {s:Sk P i} {f:FS} {hp:AH} {vs:List (Nat×Nat)} (ho:l[j]?=some o)
    (h:opE tb n KN id l rd kp pu j o pi cs t s f hp vs):VEq vs∧Snd P n t s (.e id l rd kp pu (j :: pi) cs) ⟨f,hp⟩:=by
  unfold opE at h
  split at h
  · exact h.elim
  · rename_i hd
    split at h
    · rename_i hw
      obtain ⟨f',h,hf⟩:=putW_ok h
      obtain ⟨a,b⟩:=hK _ _ _ _ _ _ _ h
      refine ⟨a,fun r hr K' hK'=>eOp_sk ho hw ?_⟩
      have:=b r hr K' hK'
      rw [hf] at this;exact this
    · rename_i hw
      split at h
      · rename_i hpu
        split at h
        · rename_i hs
          split at h
          · split at h
            · rename_i hsub
              have hr:∀ H:AH,(∀ k,k∈rd j→H k=hp k)→∀ id,id∈rdsW f o→H id=hp id:=fun H hH id hid=>hH id (subL_spec hsub hid)
              obtain ⟨a,b⟩:=wordW_ok ht hr h
              refine ⟨a,fun r hr K' hK'=>?_⟩
              obtain ⟨t',v,q1,q2,q3⟩:=b r hr
              obtain ⟨f',q3,hf⟩:=putW_ok q3
              have:=(hK _ _ _ _ _ _ _ q3).2 r q1 K' hK'
              rw [hf] at this
              exact eOp_pu ho hpu hs hw q2 this
            · exact h.elim
          · split at h
            · rename_i hsub
              replace h:=unK_e h
              obtain ⟨us,v,q1,q2,q3⟩:=plainE_ok ht (k:=fun t' vs v=>putW f o.dst v fun f'=>KN n t' s (.e id l rd kp pu pi cs) f' hp vs) h
              obtain ⟨f',q1,hf⟩:=putW_ok q1
              obtain ⟨a,b⟩:=hK _ _ _ _ _ _ _ q1
              refine ⟨q2 a,fun r hr K' hK'=>?_⟩
              have:=b r (unwt_run.trans hr) K' hK'
              rw [hf] at this
              exact eOp_pu ho hpu hs hw (fun H hH=>q3 a H fun id hid=>hH id (subL_spec hsub hid)) this
            · exact h.elim
        · exact h.elim
      · rename_i hpu
        split at h
        · split at h
          · obtain ⟨a,b⟩:=effW_ok ht hK h
            refine ⟨a,fun r hr K' hK'=>?_⟩
            obtain ⟨Out,q1,q2⟩:=b r hr
            refine eOp_ef ho hpu hw q1 fun v H' hO=>?_
            obtain ⟨q0,t',q3,q4⟩:=q2 v H' hO
            obtain ⟨f',q4,hf⟩:=putW_ok q4
            have:=(hK _ _ _ _ _ _ _ q4).2 r q3 K' hK'
            rw [hf] at this;exact ⟨q0,this⟩
          · exact h.elim
        · replace h:=unK_e h
          obtain ⟨t',us,Out,ch,q1,⟨v0,H0,q2⟩,q3,q4,q5,q6⟩:=plainW_ok ht h
          split at q2
          · rename_i hch
            obtain ⟨f0,q2,-⟩:=putW_ok q2
            have hv:=(hK _ _ _ _ _ _ _ q2).1
            refine ⟨q4 hv,fun r hr K' hK'=>eOp_ef ho hpu hw (q5 hv) fun v H' hO=>⟨keepL_of (q6 v H' hO) hch,?_⟩⟩
            have q3:=q3 v H' hO
            rw [hch] at q3
            obtain ⟨f',q3,hf⟩:=putW_ok q3
            have:=(hK _ _ _ _ _ _ _ q3).2 r (q1 r (unwt_run.trans hr)) K' hK'
            rw [hf] at this;exact this
          · exact q2.elim
    · exact h.elim
theorem ups_eq {b c:Bool} (e:b=c):∀ (ds:List Nat) (f:FS),ds.map f=ds.map (fun _=>some (boo b))→ups f ds (boo c)=f
  | [],f,_=>rfl
  | d :: ds,f,hm=>by
    simp only [List.map_cons,List.cons.injEq] at hm
    have e1:upd f d (some (boo c))=f:=by
      funext i
      by_cases hi:i=d
      · subst hi;rw [upd_same,hm.1,e]
      · rw [upd_ne _ _ hi]
    show ups (upd f d (some (boo c))) ds (boo c)=f
    rw [e1]
    exact ups_eq e ds f hm.2
theorem ups_s {i:Ix} {t:WT P i} {s:Sk P i} {md:Mw} {f:FS} {hp:AH} {b c:Bool} {ds:List Nat} (e:b=c) (h:ds.map f=ds.map (fun _=>some (boo b))) (hs:Snd P n t s md ⟨ups f ds (boo c),hp⟩):Snd P n t s md ⟨f,hp⟩:=by
  rw [ups_eq e ds f h] at hs;exact hs
theorem ifs_ok {KN:NT→KT P} (hK:KNOk P KN) {i:Ix} {x y:WT P i} {s:Sk P i} {md:Mw} {f:FS} {hp:AH} {vs:List (Nat×Nat)} {ds:List Nat} {b:Bool}
    (h:Eq2 vs (ds.map f) (ds.map fun _=>some (boo b)) (KN n x s md (ups f ds (boo true)) hp []) (KN n y s md (ups f ds (boo false)) hp [])):VEq vs∧Snd P n (.ifs ds b x y) s md ⟨f,hp⟩:=by
  cases h with
  | mk h1 h2 e a =>
    refine ⟨a,fun r hr=>?_⟩
    have hr':cond b x.run y.run=some r:=hr
    cases hb:b with
    | true=>rw [hb] at hr';exact ups_s hb e (fun r' hr2=>(hK _ _ _ _ _ _ _ h1).2 r' hr2) r hr'
    | false=>rw [hb] at hr';exact ups_s hb e (fun r' hr2=>(hK _ _ _ _ _ _ _ h2).2 r' hr2) r hr'
theorem az_ok {KN:NT→KT P} (hK:KNOk P KN) {i:Ix} {k:WT P i} {s:Sk P i} {md:Mw} {f:FS} {hp:AH} {vs:List (Nat×Nat)} {ds:List Nat} {b:Bool}
    (h:Eq1 vs (ds.map f) (ds.map fun _=>some (boo b)) (KN n k s md (ups f ds (boo false)) hp [])):VEq vs∧Snd P n (.az ds b k) s md ⟨f,hp⟩:=by
  cases h with
  | mk h e a =>
    refine ⟨a,fun r hr=>?_⟩
    obtain ⟨hb,g⟩:=asrt_e (show asrt (b=false) k.run=some r from hr)
    exact ups_s (t:=k) hb e (fun r' hr2=>(hK _ _ _ _ _ _ _ h).2 r' hr2) r g
theorem an_ok {KN:NT→KT P} (hK:KNOk P KN) {i:Ix} {k:WT P i} {s:Sk P i} {md:Mw} {f:FS} {hp:AH} {vs:List (Nat×Nat)} {ds:List Nat} {b:Bool}
    (h:Eq1 vs (ds.map f) (ds.map fun _=>some (boo b)) (KN n k s md (ups f ds (boo true)) hp [])):VEq vs∧Snd P n (.an ds b k) s md ⟨f,hp⟩:=by
  cases h with
  | mk h e a =>
    refine ⟨a,fun r hr=>?_⟩
    obtain ⟨hb,g⟩:=asrt_e (show asrt (b=true) k.run=some r from hr)
    exact ups_s (t:=k) hb e (fun r' hr2=>(hK _ _ _ _ _ _ _ h).2 r' hr2) r g
theorem nodeC_ok (hm:P.follows .mixedOrders=true) {KN:NT→KT P} (hK:KNOk P KN) {x:Code} {cs:List Code} {i:Ix} {t:WT P i} {s:Sk P i} {f:FS} {hp:AH} {vs:List (Nat×Nat)} (h:nodeC n KN x cs t s f hp vs):VEq vs∧Snd P n t s (.c (x :: cs)) ⟨f,hp⟩:=by
  unfold nodeC at h
  split at h
  · exact ifs_ok hK h
  · exact az_ok hK h
  · exact an_ok hK h
  · rename_i id k
    split at h
    · rename_i ob ho
      obtain ⟨a,b⟩:=hK _ _ _ _ _ _ _ h
      exact ⟨a,fun r hr=>c_freeze id ho (b r hr)⟩
    · exact h.elim
  · rename_i d v k
    split at h
    · rename_i u hu
      cases h with
      | mk h2 h1 a=>exact ⟨a,fun r hr=>c_cv d v hu h1 ((hK _ _ _ _ _ _ _ h2).2 r hr)⟩
    · exact h.elim
  · rename_i d id e sz k
    split at h
    · rename_i hf
      split at h
      · rename_i hid
        exact ⟨(hK _ _ _ _ _ _ _ (h 0)).1,fun r hr=>c_nilobj d id e sz hf hid fun ver=>(hK _ _ _ _ _ _ _ (h ver)).2 r hr⟩
      · exact h.elim
    · exact h.elim
  · rename_i id0 row j id e sz k
    split at h
    · rename_i ob hob
      split at h
      · rename_i rr hrr
        split at h
        · rename_i hj
          split at h
          · rename_i hid
            exact ⟨(hK _ _ _ _ _ _ _ (h 0)).1,fun r hr=>c_nilcell id0 row j id e sz hob hrr hj hid (rows:=fun ver=>ob.rows.set row (rr.set j (.sl id ver 0 0))) (fun _=>rfl) fun ver=>(hK _ _ _ _ _ _ _ (h ver)).2 r hr⟩
          · exact h.elim
        · exact h.elim
      · exact h.elim
    · exact h.elim
  · exact codeW_ok hm (hK n) h
theorem nodeR_ok (ht:Tab2Ok P tb) {KN:NT→KT P} (hK:KNOk P KN) {rid:Nat} {l todo:List Oper} {cs:List Code} {i:Ix} {t:WT P i} {s:Sk P i} {f:FS} {hp:AH} {vs:List (Nat×Nat)} (h:nodeR tb n KN rid l todo cs t s f hp vs):VEq vs∧Snd P n t s (.r rid l todo cs) ⟨f,hp⟩:=by
  unfold nodeR at h
  split at h
  · exact ifs_ok hK h
  · exact az_ok hK h
  · exact an_ok hK h
  · rename_i id k
    split at h
    · rename_i ob ho
      obtain ⟨a,b⟩:=hK _ _ _ _ _ _ _ h
      exact ⟨a,fun r hr=>fun K' hK'=>s_freeze id ho (b r hr K' hK')⟩
    · exact h.elim
  · rename_i d v k
    split at h
    · rename_i u hu
      cases h with
      | mk h2 h1 a=>exact ⟨a,fun r hr=>fun K' hK'=>s_cv d v hu h1 ((hK _ _ _ _ _ _ _ h2).2 r hr K' hK')⟩
    · exact h.elim
  · split at h
    · obtain ⟨a,b⟩:=hK _ _ _ _ _ _ _ h
      exact ⟨a,fun r hr K' hK'=>rg_nil (hK' _ (b r hr))⟩
    · exact opW_ok ht hK h
theorem nodeE_ok (ht:Tab2Ok P tb) {KN:NT→KT P} (hK:KNOk P KN) {id:Nat} {l:List Oper} {rd kp:Nat→List Nat} {pu:Nat→Bool} {pi:List Nat} {cs:List Code} {i:Ix} {t:WT P i} {s:Sk P i} {f:FS} {hp:AH} {vs:List (Nat×Nat)} (h:nodeE tb n KN id l rd kp pu pi cs t s f hp vs):VEq vs∧Snd P n t s (.e id l rd kp pu pi cs) ⟨f,hp⟩:=by
  unfold nodeE at h
  split at h
  · exact ifs_ok hK h
  · exact az_ok hK h
  · exact an_ok hK h
  · split at h
    · obtain ⟨a,b⟩:=hK _ _ _ _ _ _ _ h
      exact ⟨a,fun r hr K' hK'=>de_nil (hK' _ (b r hr))⟩
    · split at h
      · rename_i o ho
        exact opE_ok ht hK ho h
      · exact h.elim
theorem stepW_ok (hm:P.follows .mixedOrders=true) (ht:Tab2Ok P tb) {KN:NT→KT P} (hK:KNOk P KN) {i:Ix} {t:WT P i} {s:Sk P i} {md:Mw} {f:FS} {hp:AH} {vs:List (Nat×Nat)} (h:stepW tb n KN t s md f hp vs):VEq vs∧Snd P n t s md ⟨f,hp⟩:=by
  unfold stepW at h
  split at h
  · cases h with | mk _ a=>exact ⟨a,fun r hr=>by cases hr⟩
  · rename_i p hd k
    cases h with
    | mk h a =>
      refine ⟨a,fun r hr=>?_⟩
      have hr':@asrt _ p hd k.run=some r:=hr
      obtain ⟨hp',g⟩:=asrt_e hr'
      exact (hK _ _ _ _ _ _ _ (h hp')).2 r g
  · rename_i B e k
    cases h with
    | mk h a=>exact ⟨a,fun r hr=>(hK _ _ _ _ _ _ _ (h e rfl)).2 r hr⟩
  · rename_i B o k
    cases h with
    | mk h a =>
      refine ⟨a,fun r hr=>?_⟩
      obtain ⟨b,g1,g2⟩:=bind_e hr
      exact (hK _ _ _ _ _ _ _ (h b g1)).2 r g2
  · split at h
    · split at h
      · obtain ⟨a,b⟩:=hK _ _ _ _ _ _ _ h
        exact ⟨a,fun r hr=>b r hr⟩
      · obtain ⟨a,b⟩:=hK _ _ _ _ _ _ _ h
        exact ⟨a,fun r hr=>b r hr⟩
      · obtain ⟨a,b⟩:=hK _ _ _ _ _ _ _ h
        exact ⟨a,fun r hr=>b r hr⟩
      · obtain ⟨a,b⟩:=leafW_ok (n:=n) _ _ _ _ _ h
        exact ⟨a,fun r hr=>b r hr⟩
    · exact nodeC_ok hm hK h
    · exact nodeR_ok ht hK h
    · exact nodeE_ok ht hK h
theorem WP_ok (hm:P.follows .mixedOrders=true) (ht:Tab2Ok P tb):∀ m,KNOk P (WP P tb m)
  | 0=>fun _ _ _ _ _ _ _ _ h=>h.elim
  | m+1=>fun n _ _ _ _ _ _ _ h=>stepW_ok hm ht (WP_ok hm ht m) h
def JF {A:Type} (tb:Tab2) (rs:List ResultVar) (av:A→AV) (a:A) (f:FS) (hp:AH) (vs:List (Nat×Nat)):Prop:=resW tb f hp rs vs fun vs us=>E0 vs (Cv (frzH hp) (oneOrTup us) (av a))
theorem JF_vs {A:Type} {tb:Tab2} {rs:List ResultVar} {av:A→AV} {a:A} {f:FS} {hp:AH} {vs:List (Nat×Nat)} (h:JF tb rs av a f hp vs):VEq vs∧JF tb rs av a f hp []:=by
  obtain ⟨h1,h2⟩:=resW_vs (G:=fun vs us=>E0 vs (Cv (frzH hp) (oneOrTup us) (av a))) (fun h=>by cases h with | mk h a=>exact ⟨a,fun a'=>⟨h,a'⟩⟩) (g:=id) h
  exact ⟨h1,h2 trivial⟩
def bod (fn:Func):Code:=fn.body.getD .skip
theorem wt_pp (hm:P.follows .mixedOrders=true) {tb:Tab2} (ht:Tab2Ok P tb) {A:Type} {g:FuncId} {fn:Func} {args:List AV} (av:A→AV) {t:WT P (.b A)} {r:A} (h0:t.run=some r) (hf:P.funcs[g]?=some fn) (hpv:∀ a,PV (av a)) (m:Nat)
    (h:WP P tb m ⟨fn.ntmps,false,[]⟩ t (.fn (JF tb fn.results.toList av) JF_vs) (.c [bod fn]) (fun t=>args[t]?) H0 []) (hb:fn.body=some (bod fn):=by rfl) (hle:Nat.ble args.length fn.ntmps=true:=by rfl) :
    PP P g args (fun y=>y=av r):=by
  refine pp_of_pc (R0:=fun y H=>Cv (frzH H) y (av r)) ?_ (fun y H hc=>⟨_,rfl,hpv r,hc⟩)
  refine pc_of hf hb (Nat.le_of_ble_eq_true hle) (Tr.mono (trs_of ((WP_ok hm ht m _ _ _ _ _ _ _ h).2 r h0)) ?_)
  rintro e S' ⟨he,hj⟩
  obtain ⟨ws,us,h1,h2,h3⟩:=resW_ok ht hj
  cases h1 with
  | mk h1 a=>exact ⟨he,us,S'.hp,h3 a,fun _ _ h=>h,h1⟩
end
theorem agr {P:Program} {o:Oper} {f:FS} {hp:AH} {v:AV} {tb:Tab2} (h:YieldV P o ⟨f,hp⟩ v):∀ H,H=hp→Tab2Ok P tb→YieldV P o ⟨f,H⟩ v:=fun H e _=>by rw [e];exact h
def pw {α β:Type} {γ:Type 1} (f:α→β→γ) (p:α×β):γ:=f p.1 p.2
theorem run_pw {P:Program} {i:Ix} {α β:Type} (f:α→β→WT P i) (p:α×β):(pw f p).run=p2 (fun a b=>(f a b).run) p:=rfl
end Go.Pv
