/- Walks told by trees: operations. -/
import Derived.Test.YtkgnickfdedbmabGreatPwB
set_option linter.unusedVariables false
set_option linter.unusedSimpArgs false
namespace Go.Pv
section
variable {P:Program} {n:NT} {tb:dX}
theorem KZ {o:Oper} {c:Call} (ho:o.op=.call c) {cl:Callee} (hc:c.callee=cl):o.op=.call { callee:=cl,args:=c.args.toList.toArray,argTypes:=c.argTypes }:=by
  rw [ho];cases c;simp at hc ⊢;exact hc
theorem JK {o:Oper} {c:Call} (ho:o.op=.call c) {b:Builtin} (hc:c.callee=.builtin b) {x:Operand} {T:TypeId} (hx:c.args.toList=[x]) (hT:c.argTypes.toList=[T]):o.op=.call { callee:=.builtin b,args:=#[x],argTypes:=#[T] }:=by
  rw [ho];obtain ⟨c1,c2,c3⟩:=c
  simp only at hc hx hT ⊢
  have e2:c2=#[x]:=by rw [<- hx]
  have e3:c3=#[T]:=by rw [<- hT]
  rw [hc,e2,e3]
theorem dY {f:FS} {hp H:AH} (x:Operand):(AS.mk f H).ev x=(AS.mk f hp).ev x:=by cases x <;> rfl
theorem F8 {hp:AH} {id:Nat} {x:Option bC} {j:Nat} (h:some id≠some j):upd hp id x j=hp j:=upd_ne _ _ (λe=>h (by rw [e]))
theorem xG {S:AS}:∀ {l:List Operand} {k:List AV->Prop},jQ S l k->∃ us,k us/\∀ k':List AV->Prop,k' us->jQ S l k'
  | [],k,h=>⟨[],h,λ_ h=>h⟩
  | x :: r,k,h=>by
    unfold jQ at h
    split at h
    · rename_i v hv
      obtain ⟨us,h1,h2⟩:=xG h
      exact ⟨v :: us,h1,λk' h'=>by unfold jQ;simp only [hv];exact h2 (λus=>k' (v :: us)) h'⟩
    · exact h.elim
theorem NV {c:Bool} {p:Prop} (h:cond c p False):c=true/\p:=by cases c with | true=>exact ⟨rfl,h⟩ | false=>exact h.elim
theorem F6 {S:AS} {o:Oper} {vs:List (Nat×Nat)} {k:List (Nat×Nat)->AV->Prop} (h:gF tb S o vs k):∃ us v,k us v/\∀ k':List (Nat×Nat)->AV->Prop,k' us v->gF tb S o vs k':=by
  unfold gF at h
  split at h
  all_goals (try exact h.elim)
  all_goals (try (repeat' (split at h)))
  all_goals (try exact h.elim)
  all_goals (try (refine ⟨_,_,h,λk' h'=>?_⟩;unfold gF;simp only [*];done))
  all_goals (try (refine ⟨_,_,h,λk' h'=>?_⟩;unfold gF;simp only [*];exact h'))
  all_goals (try (obtain ⟨hc,hk⟩:=NV h;clear h;refine ⟨_,_,hk,λk' h'=>?_⟩;clear hk;unfold gF;simp only [*,cond_true];done))
  all_goals (try (obtain ⟨hc,hk⟩:=NV h;clear h;refine ⟨_,_,hk,λk' h'=>?_⟩;clear hk;unfold gF;simp only [*,cond_true];exact h'))
  · obtain ⟨us,h1,h2⟩:=xG h
    split at h1
    · rename_i cs hcs
      refine ⟨_,_,h1,λk' h'=>?_⟩
      unfold gF
      simp only [*]
    · exact h1.elim
  · obtain ⟨us,h1,h2⟩:=xG h
    obtain ⟨ws,h3,h4⟩:=xG h1
    refine ⟨_,_,h3,λk' h'=>?_⟩
    unfold gF
    simp only [*]
theorem kF:∀ {l:List AV} {k:List AV->Prop},lD l k->k l
  | [],k,h=>h
  | x :: r,k,h=>kF (l:=r) (k:=λr'=>k (x :: r')) h
theorem MM {pl:List (Nat×Nat)}:∀ {l:List (Nat×AV)} {cs:List AV} {k:List AV->Prop},BF pl cs l k->∃ ds,lJ (λi=>pl[i]?) cs l=some ds/\k ds
  | [],cs,k,h=>⟨cs,rfl,h⟩
  | (i,v) :: r,cs,k,h=>by
    unfold BF at h;unfold lJ
    split at h
    · exact h.elim
    · rename_i off size hp
      split at h
      · rename_i hc
        simp only [hp,hc,if_true]
        exact MM (kF h)
      · exact h.elim
theorem UT {S:AS} {o:Oper} {vs:List (Nat×Nat)} {k:List (Nat×Nat)->AV->Prop} (h:JB tb S o vs k):gF tb S o vs k:=by
  unfold JB at h
  split at h
  · rename_i T ps ho
    split at h
    · rename_i pl h1
      split at h
      · rename_i zs h2
        split at h
        · rename_i h3
          obtain ⟨us,h,h4⟩:=xG h
          obtain ⟨ds,h5,h6⟩:=MM (kF h)
          unfold gF
          simp only [ho,h1,h2,h3]
          refine h4 _ ?_
          simp only [h5]
          exact h6
        · exact h.elim
      · exact h.elim
    · exact h.elim
  · exact h
theorem C7:∀ {l:List (List AV)} {k:List (List AV)->Prop},BH l k->k l
  | [],k,h=>h
  | x :: r,k,h=>C7 (l:=r) (k:=λr'=>k (x :: r')) h
theorem CE {v:AV} {k:AV->Prop} (h:oW v k):k v:=by
  unfold oW at h
  split at h
  · exact kF (k:=λcs=>k (.agg cs)) h
  · exact kF (k:=λcs=>k (.pp cs)) h
  · exact h
theorem OR (ht:cK P tb) {f:FS} {hp:AH} {o:Oper} {i:Ix} {t:WT P i} {vs:List (Nat×Nat)} {k:WT P i->List (Nat×Nat)->AV->AH->Option Nat->Prop} (h:qE tb f hp o t vs k) :
    ∃ t' us Out ch,(∀ r,t.run=some r->t'.run=some r)/\(∃ v H',k t' us v H' ch)/\(∀ v H',Out v H'->k t' us v H' ch)/\(bN us->bN vs)/\(bN us->bQ P o ⟨f,hp⟩ no any Out)/\(∀ v H',Out v H'->∀ j,ch≠some j->H' j=hp j):=by
  unfold qE at h
  split at h
  · rename_i T ho
    split at h
    · rename_i id t'
      split at h
      · rename_i zs hz
        split at h
        · rename_i h1
          have h:=kF h
          rw [List.length_map] at h
          exact ⟨t',vs,_,some id,λr hr=>hr,⟨_,_,h 0⟩,(by rintro _ _ ⟨v,-,rfl,rfl⟩;exact h v),λe=>e,λ_=>DZ id .any ho (ht.BQ hz) h1,(by rintro _ _ ⟨v,-,rfl,rfl⟩ j hj;exact F8 hj)⟩
        · exact h.elim
      · exact h.elim
    · exact h.elim
  · rename_i T x ho
    split at h
    · rename_i id t'
      split at h
      · rename_i v hx
        split at h
        · rename_i h1
          have h:=kF h
          exact ⟨t',vs,_,some id,λr hr=>hr,⟨_,_,h 0⟩,(by rintro _ _ ⟨v,-,rfl,rfl⟩;exact h v),λe=>e,λ_=>EV id .any ho hx h1,(by rintro _ _ ⟨v,-,rfl,rfl⟩ j hj;exact F8 hj)⟩
        · exact h.elim
      · exact h.elim
    · exact h.elim
  · rename_i T x y ho
    split at h
    · rename_i m b hT
      split at h
      · rename_i id aG row off hx
        split at h
        · rename_i v hy
          split at h
          · rename_i el sz mt app ve rows hob
            split at h
            · rename_i r hr
              split at h
              · rename_i hc
                have h:=C7 (kF h)
                simp only [Bool.and_eq_true] at hc
                obtain ⟨⟨⟨c1,c2⟩,c3⟩,c4⟩:=hc
                exact ⟨t,_,_,some id,λr hr=>hr,⟨_,_,h⟩,(by rintro _ _ ⟨rfl,rfl⟩;exact h),λe=>e.2,λe=>(dZ ho (ht.b.jO hT) hx hy hob e.1 c1 hr (Nat.eq_of_beq_eq_true c2) c3 c4).dM (λ_ h=>h) λ_ h=>h.elim,(by rintro _ _ ⟨rfl,rfl⟩ j hj;exact F8 hj)⟩
              · exact h.elim
            · exact h.elim
          · exact h.elim
        · exact h.elim
      · exact h.elim
    · exact h.elim
  · rename_i c ho
    split at h
    · rename_i hc
      split at h
      · rename_i x hx
        split at h
        · rename_i T hT
          have ho':=JK ho hc hx hT
          split at h
          · rename_i el he
            split at h
            · rename_i sz xs hv
              exact ⟨t,vs,_,none,λr hr=>hr,⟨_,_,h⟩,(by rintro _ _ ⟨rfl,rfl⟩;exact h),λe=>e,λ_=>(oU ho' (ht.kM he) hv (.list _ _)).dM (λ_ h=>h) λ_ h=>h.elim,(by rintro _ _ ⟨rfl,rfl⟩ j hj;rfl)⟩
            · rename_i id aG off len hv
              split at h
              · rename_i ob hob
                exact ⟨t,_,_,none,λr hr=>hr,⟨_,_,h⟩,(by rintro _ _ ⟨rfl,rfl⟩;exact h),λe=>e.2,λe=>(oU ho' (ht.kM he) hv (.sl hob e.1)).dM (λ_ h=>h) λ_ h=>h.elim,(by rintro _ _ ⟨rfl,rfl⟩ j hj;rfl)⟩
              · exact h.elim
            · rename_i a len cap hv
              exact ⟨t,vs,_,none,λr hr=>hr,⟨_,_,h⟩,(by rintro _ _ ⟨rfl,rfl⟩;exact h),λe=>e,λ_=>(oU ho' (ht.kM he) hv (.nil _ _ _)).dM (λ_ h=>h) λ_ h=>h.elim,(by rintro _ _ ⟨rfl,rfl⟩ j hj;rfl)⟩
            · exact h.elim
          · exact h.elim
        · exact h.elim
      · exact h.elim
    · exact h.elim
  · replace h:=UT h
    have h:gF tb ⟨f,hp⟩ o vs λvs v=>k t vs v hp none:=by
      obtain ⟨us,v,h1,h2⟩:=F6 h
      refine h2 _ ?_
      split at h1
      · exact CE h1
      · exact h1
    obtain ⟨v,us,h1,h2,h3⟩:=uF ht h
    exact ⟨t,us,_,none,λr hr=>hr,⟨_,_,h1⟩,(by rintro _ _ ⟨rfl,rfl⟩;exact h1),h2,λe=>(h3 e).dM (λ_ h=>h) λ_ h=>h.elim,(by rintro _ _ ⟨rfl,rfl⟩ j hj;rfl)⟩
theorem G5 {f:FS} {hp H:AH}:∀ {l:List Operand} {k:List AV->Prop},jQ ⟨f,hp⟩ l k->jQ ⟨f,H⟩ l k
  | [],k,h=>h
  | x :: r,k,h=>by
    unfold jQ at h ⊢
    rw [dY (hp:=hp)]
    split at h
    · rename_i v hv;exact G5 h
    · exact h.elim
theorem U5 {f:FS} {hp H:AH} {o:Oper} {vs:List (Nat×Nat)} {k:List (Nat×Nat)->AV->Prop} (hag:∀ id,id∈mW f o->H id=hp id) (h:gF tb ⟨f,hp⟩ o vs k):gF tb ⟨f,H⟩ o vs k:=by
  have hg:∀ x id aG row off,(AS.mk f hp).ev x=some (.pt id aG row off)->(AS.mk f H0).ev x=some (.pt id aG row off):=λx id aG row off e=>by rw [dY (hp:=hp)];exact e
  unfold gF at h ⊢
  unfold mW at hag
  cases hop:o.op <;> simp only [hop] at h hag ⊢ <;> try exact h.elim
  case move x=>rw [dY (hp:=hp)];exact h
  case assign x=>rw [dY (hp:=hp)];exact h
  case load T x =>
    split at h
    · rw [dY (hp:=hp)]
      split at h
      · rename_i cs hx;exact h
      · rename_i id aG row off hx
        simp only [hg _ _ _ _ _ hx,List.mem_singleton] at hag
        rw [hag id rfl];exact h
      · exact h.elim
    · exact h.elim
  case fieldAddr T x j =>
    split at h
    · rw [dY (hp:=hp)]
      split at h
      · exact h
      · rename_i id aG row off hx
        simp only [hg _ _ _ _ _ hx,List.mem_singleton] at hag
        rw [hag id rfl];exact h
      · exact h.elim
    · exact h.elim
  case nilCheck x =>
    rw [dY (hp:=hp)]
    split at h
    · exact h
    · rename_i id aG row off hx
      simp only [hg _ _ _ _ _ hx,List.mem_singleton] at hag
      rw [hag id rfl];exact h
    · exact h.elim
  case field T x j =>
    rw [dY (hp:=hp)];exact h
  case extract x j=>rw [dY (hp:=hp)];exact h
  case pick c x y=>rw [dY (hp:=hp) c,dY (hp:=hp) x,dY (hp:=hp) y];exact h
  case unOp u T x =>
    cases u <;> simp only at h ⊢ <;> first | exact h.elim | (rw [dY (hp:=hp)];exact h)
  case convert T1 T2 x=>rw [dY (hp:=hp)];exact h
  case binOp b T x y Ty=>rw [dY (hp:=hp) x,dY (hp:=hp) y];exact h
  case build T ps =>
    split at h
    · split at h
      · split at h
        · exact G5 h
        · exact h.elim
      · exact h.elim
    · exact h.elim
  case makeFunc fn as cs =>
    have go:∀ (l:List Operand) {k1 k2:List AV->Prop},(∀ us,k1 us->k2 us)->jQ ⟨f,hp⟩ l k1->jQ ⟨f,H⟩ l k2:=by
      intro l
      induction l with
      | nil=>intro k1 k2 hk h;exact hk _ h
      | cons x r ih =>
        intro k1 k2 hk h
        unfold jQ at h ⊢
        rw [dY (hp:=hp)]
        split at h
        · exact ih (λus hu=>hk _ hu) h
        · exact h.elim
    exact go _ (λus hu=>G5 hu) h
theorem LD (ht : cK P tb) {f : FS} {hp : AH} {o : Oper} {i : Ix} {t : WT P i} {vs : List (Nat × Nat)} {k : WT P i -> List (Nat × Nat) -> AV -> Prop} (h : qE tb f hp o t vs λt' vs v _ ch => match ch with
      | none=>k t' vs v
      | some _=>False) :
    ∃ us v,k t us v/\(bN us->bN vs)/\(bN us->∀ H,(∀ id,id∈mW f o->H id=hp id)->bJ P o ⟨f,H⟩ v):=by
  unfold qE at h
  split at h
  · split at h
    · split at h
      · split at h
        · exact (kF h 0).elim
        · exact h.elim
      · exact h.elim
    · exact h.elim
  · split at h
    · split at h
      · split at h
        · exact (kF h 0).elim
        · exact h.elim
      · exact h.elim
    · exact h.elim
  · split at h
    · split at h
      · split at h
        · split at h
          · split at h
            · split at h
              · exact (C7 (kF h)).elim
              · exact h.elim
            · exact h.elim
          · exact h.elim
        · exact h.elim
      · exact h.elim
    · exact h.elim
  · rename_i c ho
    split at h
    · rename_i hc
      split at h
      · rename_i x hx
        split at h
        · rename_i T hT
          have ho':=JK ho hc hx hT
          split at h
          · rename_i el he
            split at h
            · rename_i sz xs hv
              exact ⟨vs,_,h,λe=>e,λ_ H _=>oU ho' (ht.kM he) ((dY (hp:=hp) x).trans hv) (.list _ _)⟩
            · rename_i id aG off len hv
              split at h
              · rename_i ob hob
                refine ⟨_,_,h,λe=>e.2,λe H hag=>?_⟩
                have hm:id∈mW f o:=by
                  unfold mW
                  simp only [ho',dY (hp:=hp),hv,List.mem_singleton]
                exact oU ho' (ht.kM he) ((dY (hp:=hp) x).trans hv) (.sl ((hag id hm).trans hob) e.1)
              · exact h.elim
            · rename_i a len cap hv
              exact ⟨vs,_,h,λe=>e,λ_ H _=>oU ho' (ht.kM he) ((dY (hp:=hp) x).trans hv) (.nil _ _ _)⟩
            · exact h.elim
          · exact h.elim
        · exact h.elim
      · exact h.elim
    · exact h.elim
  · replace h:=UT h
    obtain ⟨us,v,h1,h2⟩:=F6 h
    have h1:k t us v:=by
      split at h1
      · exact CE h1
      · exact h1
    have q:=uF ht (h2 (λus' v'=>us'=us/\v'=v) ⟨rfl,rfl⟩)
    obtain ⟨v',us',⟨rfl,rfl⟩,q2,_⟩:=q
    refine ⟨us',v',h1,q2,λe H hag=>?_⟩
    obtain ⟨v2,us2,⟨rfl,rfl⟩,_,g3⟩:=uF ht (U5 hag (h2 (λus1 v1=>us1=us'/\v1=v') ⟨rfl,rfl⟩))
    exact g3 e
end
end Go.Pv
