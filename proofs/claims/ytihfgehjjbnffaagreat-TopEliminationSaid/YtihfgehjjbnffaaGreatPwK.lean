import Derived.Test.YtihfgehjjbnffaaGreatPvAM
import Derived.Test.YtihfgehjjbnffaaGreatPwI
set_option linter.unusedVariables false
set_option linter.unusedSimpArgs false
namespace Go.Pv
set_option maxRecDepth 100000
section
variable {s:Sit} {H:AH} {l:Nat} {o o1 o2:Obj}
theorem LP:(s.put l o1).put l o2=s.put l o2:=by
  simp only [Sit.put,World.putObj]
  congr 1
  simp
theorem OA (h:iG s l o):s.put l o=s:=by
  have:=h.at'
  obtain ⟨hl,he⟩:=Array.getElem?_eq_some_iff.1 this
  have e:s.w.putObj l o=s.w:=by
    simp only [World.putObj]
    congr 1
    refine Array.ext (by simp) λi h1 h2=>?_
    by_cases hi:i=l
    · subst hi;exact (Array.getElem_setIfInBounds_self ..).trans he.symm
    · exact Array.getElem_setIfInBounds_ne _ (Ne.symm hi)
  simp only [Sit.put,e]
end
abbrev l8 (fn:FuncId) (tmps:Array Value) (p q:Tmp) (assign body:Code) (D:Nat):Loop:={ state:=.ready,pending:=none,fn,tmps,params:=#[p,q],assign,body,defers:=D }
abbrev xB (fn:FuncId) (tmps:Array Value) (p q:Tmp) (assign body:Code) (D:Nat):Loop:={ l8 fn tmps p q assign body D with state:=.done,pending:=some .ret }
abbrev zH (p q:Tmp) (v u:Value) (tmps:Array Value):Array Value:=((#[p,q]:Array Tmp).zip #[v,u]).foldl (λt (p,a)=>t.setIfInBounds p a) tmps
section
variable {P:Program} {l D p q:Nat} {fn:FuncId} {tmps:Array Value} {assign body:Code} {s:Sit} {H:AH} {x y:AV} {v u:Value}
theorem U5:zH p q v u tmps=(tmps.setIfInBounds p v).setIfInBounds q u:=by simp [zH]
def WJ (l:Nat) (rd dn:Obj) (s:Sit) (H:AH) (J K:AH->Prop) (e:Ending) (w':World):Prop :=
  (∃ s' H',e=.returned (.bool true)/\w'=s'.w/\J H'/\HR s' H'/\Fr s H s' H')\/∃ s' H',e=.returned (.bool false)/\w'=s'.w/\K H'/\HR s' H'/\iG s' l dn/\Fr s H (s'.put l rd) H'
theorem aVL {N:Nat} {f:Nat->Option AV} {J' K':AH->Prop} (hn:iG s l (.loop (l8 fn tmps p q assign body D))) (hsz:tmps.size=N) (hsl:∀ t y,f t=some y->∃ u,tmps[t]?=some u/\VR s y u)
    (hp:p<N) (hq:q<N) (hv:VR s x v) (hu:VR s y u) (hH:HR s H)
    (h:Tr P ⟨N,true,[]⟩ assign ⟨upd (upd f p (some x)) q (some y),H⟩ (λe S1=>e=.normal/\Tr P ⟨N,true,[]⟩ body S1 (λe S2=>(e=.normal/\J' S2.hp)\/(e=.ret/\K' S2.hp)))) :
    RoundIn Fence.wide 0 P l fn (zH p q v u tmps) assign body s.w (WJ l (.loop (l8 fn tmps p q assign body D)) (.loop (xB fn tmps p q assign body D)) s H J' K'):=by
  refine roundIn_of_wpIn trivial ?_
  have hs0:SR ⟨N,true,[]⟩ s ⟨upd (upd f p (some x)) q (some y),H⟩ { tmps:=zH p q v u tmps,defers:=[] }:=by
    refine ⟨by simp [U5,hsz],rfl,λt z hz=>?_,hH⟩
    simp only [U5]
    by_cases e:t=q
    · subst e
      simp only [upd_same] at hz
      cases hz
      exact ⟨u,by simp [hsz,hq],hu⟩
    · simp only [upd_ne _ _ e] at hz
      by_cases e':t=p
      · subst e'
        simp only [upd_same] at hz
        cases hz
        exact ⟨v,by rw [Array.getElem?_setIfInBounds_ne (Ne.symm e)];simp [hsz,hp],hv⟩
      · simp only [upd_ne _ _ e'] at hz
        obtain ⟨u,h1,h2⟩:=hsl t z hz
        exact ⟨u,by rw [Array.getElem?_setIfInBounds_ne (Ne.symm e),Array.getElem?_setIfInBounds_ne (Ne.symm e')];exact h1,h2⟩
  refine wpIn_mono (h s _ hs0 _ (wide_round l)) ?_
  rintro e a1 w1 ⟨S1,s1,rfl,⟨rfl,hb⟩,hs1,hf1⟩
  have hn1:=hn.fr hH hf1
  have hb1:=run_beginRound (P:=P) hn1.at' rfl
  refine ⟨_,hb1,?_⟩
  have g1:=hn1.put hs1.heap (.loop { l8 fn tmps p q assign body D with state:=.busy })
  have hs2:SR ⟨N,true,[]⟩ (s1.put l (.loop { l8 fn tmps p q assign body D with state:=.busy })) S1 a1:=⟨hs1.size,hs1.defers,λt y hy=>let ⟨u,h1,h2⟩:=hs1.slot t y hy;⟨u,h1,g1.2 _ _ h2⟩,g1.1⟩
  refine wpIn_mono (hb _ a1 hs2 _ (wide_round l)) ?_
  rintro e a2 w2 ⟨S2,s3,rfl,hj,hs3,hf3⟩
  have hn3:=(hn1.DJ (o':=.loop { l8 fn tmps p q assign body D with state:=.busy }) rfl).fr g1.1 hf3
  have hfr:=OB hf1 hs1.heap hn1 hf3 hs3.heap hn3 hn.at'
  rcases hj with ⟨rfl,hj⟩ | ⟨rfl,hk⟩
  · exact ⟨_,_,run_endRound none hn3.at',.inl ⟨s3.put l (.loop (l8 fn tmps p q assign body D)),S2.hp,rfl,rfl,hj,(hn3.put hs3.heap _).1,hfr⟩⟩
  · exact ⟨_,_,run_endRound (some .ret) hn3.at',.inr ⟨s3.put l (.loop (xB fn tmps p q assign body D)),S2.hp,rfl,rfl,hk,(hn3.put hs3.heap _).1,hn3.DJ rfl,by rw [LP];exact hfr⟩⟩
def aDL (P:Program) (gf:FuncId) (lb:List AV) (xs:List (AV×AV)):Prop :=
  ∀ (l:Nat) (fn:FuncId) (tmps:Array Value) (p q:Tmp) (assign body:Code) (D:Nat) (J:Nat->AH->Prop) (K:AH->Prop) (s:Sit) (H:AH) (vs:Array Value),
    HR s H->mU s lb vs->J 0 H->(∀ i H,J i H->H 777=none)->(∀ H,K H->H 777=none)->iG s l (.loop (l8 fn tmps p q assign body D)) ->
    (∀ i x y,xs[i]?=some (x,y)->∀ s1 H1 v u,J i H1->HR s1 H1->VR s1 x v->VR s1 y u->iG s1 l (.loop (l8 fn tmps p q assign body D))->Fr s H s1 H1 ->
      RoundIn Fence.wide 0 P l fn (zH p q v u tmps) assign body s1.w (WJ l (.loop (l8 fn tmps p q assign body D)) (.loop (xB fn tmps p q assign body D)) s1 H1 (J (i+1)) K)) ->
    Calls P gf (#[.func (.yield l) #[] #[]]++vs) s.w (λe w'=>(∃ s' H' v,e=.returned v/\w'=s'.w/\J xs.length H'/\HR s' H'/\Fr s H s' H') \/
      ∃ s' H' v,e=.returned v/\w'=s'.w/\K H'/\HR s' H'/\iG s' l (.loop (xB fn tmps p q assign body D))/\Fr s H (s'.put l (.loop (l8 fn tmps p q assign body D))) H')
theorem K3 {n:NT} {ds:List Deferred} (hn:n.rd=false) {S:AS} {a:Act} {g:Operand} {gf:FuncId} {lb:List AV} {xs:List (AV×AV)} (hs:SR ⟨n.n,false,ds⟩ s S a) (hg:S.ev g=some (.fn (.func gf) [] lb)) (hc:bC P gf=true) (hit:aDL P gf lb xs)
    (J:Nat->AH->Prop) (K:AH->Prop) (hJ:J 0 S.hp) (hJ7:∀ i H,J i H->H 777=none) (hK7:∀ H,K H->H 777=none) (hp:p<n.n) (hq:q<n.n)
    (hr:∀ i x y H,xs[i]?=some (x,y)->J i H->Tr P ⟨n.n,true,[]⟩ assign ⟨upd (upd S.sl p (some x)) q (some y),H⟩ (λe S1=>e=.normal/\Tr P ⟨n.n,true,[]⟩ body S1 (λe S2=>(e=.normal/\J (i+1) S2.hp)\/(e=.ret/\K S2.hp))))
    {Q:Go.Exit->Act->World->Prop}
    (h:∀ e D s' H',(e=.normal/\J xs.length H')\/(e=.ret/\K H')->SR ⟨n.n,false,mk D :: ds⟩ s' ⟨S.sl,H'⟩ { a with defers:=mk D :: ds }->Fr s S.hp s' H'->s.w.heap.size<=D->iG s' D (.deferred (some []))->Q e { a with defers:=mk D :: ds } s'.w) :
    (Code.rangeFunc g #[p,q] assign body).wpIn Fence.wide 0 P Q a s.w:=by
  have hv:=nX hs hg
  generalize hu:a.eval g=u at hv
  cases hv with
  | fn hl hl' hv hv' =>
    rename_i a' c'
    have ha':a'=#[]:=by
      simp only [List.length_nil] at hl
      exact Array.eq_empty_of_size_eq_zero hl.symm
    subst ha'
    refine wpIn_rangeFunc λfn _=>?_
    obtain ⟨g1,g2,g3⟩:=M7 hs.heap (.deferred (some []))
    have n1:=LK hs.heap (o:=.deferred (some [])) rfl
    obtain ⟨g4,g5,g6⟩:=M7 g1 (.loop (l8 fn a.tmps p q assign body s.w.heap.size))
    have n2:=LK g1 (o:=.loop (l8 fn a.tmps p q assign body s.w.heap.size)) rfl
    have n1':=n1.fr g1 g6
    have hsz:(s.al (.deferred (some []))).w.heap.size=s.w.heap.size+1:=by simp [Sit.al]
    rw [hsz] at n2
    have hfr0:=g3.trans g6
    generalize hs2:(s.al (.deferred (some []))).al (.loop (l8 fn a.tmps p q assign body s.w.heap.size))=s2 at *
    have hw2:s2.w=(s.w.alloc (.deferred (some []))).alloc (.loop (l8 fn a.tmps p q assign body s.w.heap.size)):=by rw [<- hs2];rfl
    have hd:a.defers=ds:=hs.defers
    refine ⟨s.w.heap.size+1,[mk s.w.heap.size],s2.w,{ target:=.fn (.func gf) c',args:=#[.func (.yield (s.w.heap.size+1)) #[] #[]] },s2.w,gf,
      #[.func (.yield (s.w.heap.size+1)) #[] #[]]++c',s2.w,?_,?_,λ_ _=>trivial,?_,(λh=>by cases h),?_⟩
    · rw [hw2];exact run_enterLoop_outer _ _ _ _ _
    · simp only [resolve,hu]
      simp [go_sem]
    · have:=LH (P:=P) hc (#[.func (.yield (s.w.heap.size+1)) #[] #[]]++c') s2.w
      simp [invoke,go_sem,this]
    · refine callsIn_wide.2 ((hit (s.w.heap.size+1) fn a.tmps p q assign body s.w.heap.size J K s2 S.hp c' g4 ⟨hl',λi x v h1 h2=>hfr0.vals _ _ (hv' i x v h1 h2)⟩ hJ hJ7 hK7 n2 ?_).mono ?_)
      · intro i x y s1' s1 H1 v u hj hH1 hv1 hu1 hn1 hf1
        refine aVL hn1 hs.size (λt y hy=>?_) hp hq hv1 hu1 hH1 (hr i x y H1 s1' hj)
        obtain ⟨u,q1,q2⟩:=hs.slot t y hy
        exact ⟨u,q1,hf1.vals _ _ (hfr0.vals _ _ q2)⟩
      · rintro e w' hend
        have main:∀ (s3:Sit) (H3:AH) (rec:Loop) (e':Go.Exit),HR s3 H3->iG s3 (s.w.heap.size+1) (.loop rec)->Fr s2 S.hp (s3.put (s.w.heap.size+1) (.loop (l8 fn a.tmps p q assign body s.w.heap.size))) H3 ->
            ((e'=.normal/\J xs.length H3)\/(e'=.ret/\K H3))->Q e' { a with defers:=mk s.w.heap.size :: ds } (s3.put (s.w.heap.size+1) (.loop { rec with state:=.exhausted })).w:=by
          intro s3 H3 rec e' hH3 n3 hf3 hjk
          have n3r:=n3.DJ (o':=.loop (l8 fn a.tmps p q assign body s.w.heap.size)) rfl
          have hH3r:=(n3.put hH3 (.loop (l8 fn a.tmps p q assign body s.w.heap.size))).1
          have d3:=n1'.fr g4 hf3
          have gp:=n3.put hH3 (.loop { rec with state:=.exhausted })
          have hfr3:Fr s S.hp (s3.put (s.w.heap.size+1) (.loop { rec with state:=.exhausted })) H3:=by
            have:=MW (o1:=.loop { rec with state:=.exhausted }) (hfr0.trans hf3) hH3r n3r (by omega)
            rwa [LP] at this
          refine h e' s.w.heap.size _ H3 hjk ⟨hs.size,rfl,λt y hy=>?_,gp.1⟩ hfr3 (Nat.le_refl _) ⟨d3.im,?_,rfl⟩
          · obtain ⟨u,q1,q2⟩:=hs.slot t y hy
            exact ⟨u,q1,hfr3.vals _ _ q2⟩
          · have e1:(s3.put (s.w.heap.size+1) (.loop (l8 fn a.tmps p q assign body s.w.heap.size))).w.heap[s.w.heap.size]?=s3.w.heap[s.w.heap.size]?:=World.putObj_heap_other (by omega)
            exact (World.putObj_heap_other (by omega)).trans (e1.symm.trans d3.at')
        rcases hend with ⟨s3,H3,v,rfl,rfl,hj,hH3,hf3⟩ | ⟨s3,H3,v,rfl,rfl,hk,hH3,n3,hf3⟩
        · have n3:=n2.fr g4 hf3
          refine ⟨none,_,run_endLoop n3.at' (by simp),?_⟩
          show Q .normal { tmps:=a.tmps,defers:=[mk s.w.heap.size]++a.defers } _
          rw [hd]
          exact main s3 H3 _ .normal hH3 n3 (by rw [OA n3];exact hf3) (.inl ⟨rfl,hj⟩)
        · refine ⟨some .ret,_,run_endLoop n3.at' (by simp),?_⟩
          refine wpIn_ret ?_
          show Q .ret { tmps:=a.tmps,defers:=[mk s.w.heap.size]++a.defers } _
          rw [hd]
          exact main s3 H3 _ .ret hH3 n3 hf3 (.inr ⟨rfl,hk⟩)
theorem aM0 {n:NT} {S:AS} {a:Act} {ops:List Oper} {k t y xt yt:Nat} {rest:List Nat} {o:Oper} {x z:AV} {ts:Array TypeId} {J' K':AH->Prop} {Q:Go.Exit->Act->World->Prop}
    (hs:SR n s S a) (hok:ops[k]?=some o) (hg:o.guard=none) (ho:o.op=.call { callee:=.value (.tmp y),args:=#[.tmp xt,.tmp yt],argTypes:=ts }) (hd:o.dst=some t) (ht:Nat.blt t n.n=true)
    (hy:S.sl y=some (.sc (.func (.yield l) #[] #[]))) (hx:S.sl xt=some x) (hz:S.sl yt=some z) (hn:iG s l (.loop (l8 fn tmps p q assign body D)))
    (hr:∀ v u,VR s x v->VR s z u->RoundIn Fence.wide 0 P l fn (zH p q v u tmps) assign body s.w (WJ l (.loop (l8 fn tmps p q assign body D)) (.loop (xB fn tmps p q assign body D)) s S.hp J' K'))
    (h:∀ s' a' H',J' H'->SR n s' ⟨upd S.sl t (some (aI true)),H'⟩ a'->Fr s S.hp s' H'->wpOpsIn Fence.wide 0 P ops.toArray Q rest a' s'.w)
    (h':∀ s' a' H',K' H'->SR n s' ⟨upd S.sl t (some (aI false)),H'⟩ a'->iG s' l (.loop (xB fn tmps p q assign body D))->Fr s S.hp (s'.put l (.loop (l8 fn tmps p q assign body D))) H'->wpOpsIn Fence.wide 0 P ops.toArray Q rest a' s'.w) :
    wpOpsIn Fence.wide 0 P ops.toArray Q (k :: rest) a s.w:=by
  have hw:Wd ops S o=some true:=by unfold Wd;rw [hg]
  unfold wpOpsIn
  rw [show ops.toArray[k]?=some o by simpa using hok]
  simp only [oC hs hw,if_true]
  have hev:a.eval (.tmp y)=.func (.yield l) #[] #[]:=(nX (o:=.tmp y) hs hy).fF
  have hxv:=nX (o:=.tmp xt) hs hx
  have hzv:=nX (o:=.tmp yt) hs hz
  have hrun:(execOp a.eval o).run P s.w=.ok (.round l fn (zH p q (a.eval (.tmp xt)) (a.eval (.tmp yt)) tmps) assign body) s.w:=by
    have:=run_yield (P:=P) (args:=#[a.eval (.tmp xt),a.eval (.tmp yt)]) hn.at' (by simp)
    simp only [execOp,ho,resolve,hev,Deferred.ofValue,Sem.run_bind,Sem.run_pure,Result.andThen_ok,invoke]
    simpa [U5] using this
  refine ⟨λ_ _=>trivial,?_⟩
  rw [Oper.semAt_eq _ _ _ (by intro c;rw [ho];simp),hrun,Oper.uponIn_round]
  refine ⟨(λh=>by cases h),(hr _ _ hxv hzv).mono ?_⟩
  rintro e w' (⟨s2,H2,rfl,rfl,hj,hH2,hf⟩ | ⟨s2,H2,rfl,rfl,hk,hH2,hn2,hf⟩)
  · have:=(hs.fr hH2 hf).put (d:=o.dst) (x:=aI true) (v:=.bool true) (by rw [hd];simpa [kX] using ht) (.sc _)
    rw [hd] at this ⊢
    exact h s2 _ H2 hj this hf
  · have e0:=hn2.DJ (o':=.loop (l8 fn tmps p q assign body D)) rfl
    have hH2r:=(hn2.put hH2 (.loop (l8 fn tmps p q assign body D))).1
    have h1:=hs.fr hH2r hf
    have gp:=e0.put hH2r (.loop (xB fn tmps p q assign body D))
    rw [LP,OA hn2] at gp
    have h2:SR n s2 ⟨S.sl,H2⟩ a:=⟨h1.size,h1.defers,λt y hy=>let ⟨u,q1,q2⟩:=h1.slot t y hy;⟨u,q1,gp.2 _ _ q2⟩,gp.1⟩
    have:=h2.put (d:=o.dst) (x:=aI false) (v:=.bool false) (by rw [hd];simpa [kX] using ht) (.sc _)
    rw [hd] at this ⊢
    exact h' s2 _ H2 hk this hn2 hf
end
section
variable {P:Program} {tb:gT}
abbrev PJ {A:Type} (L:A->List (Nat×AV)) (M:A->List (Nat×bH)) (v:A) (f:FS) (hp:AH):Prop:=kZ hp f (L v)/\oK hp (M v)
theorem SR.yB {n:NT} {s0 s:Sit} {H0:AH} {S T:AS} {a:Act} (h:SR n s S a) (hf:Fr s0 H0 s S.hp) (hl:S.kV T):SR n s T a/\Fr s0 H0 s T.hp :=
  ⟨h.kV hl,⟨hf.os,hf.tape,hf.output,hf.size,hf.keep,hf.jL,hf.iY,λb hb ho=>hf.own b hb ((hl s h.heap).2.2 b ho),hf.vals,hf.kY⟩⟩
theorem SR.pj {A:Type} {L:A->List (Nat×AV)} {M:A->List (Nat×bH)} {v:A} {n:NT} {s0 s:Sit} {H0:AH} {S:AS} {a:Act} (h:SR n s S a) (hf:Fr s0 H0 s S.hp) (hj:PJ L M v S.sl S.hp):SR n s ⟨kn (L v),hk (M v)⟩ a/\Fr s0 H0 s (hk (M v)) :=
  h.yB hf (jX hj.1 hj.2)
theorem aO8 {f:Nat->Option AV} {H:AH} {l:List (Nat×AV)} (h:kZ H f l):AS.kV ⟨f,H⟩ ⟨kn l,H⟩:=aG0 h.le λt v hv=>⟨v,hv,uO.refl v⟩
theorem SR.k0 {n:NT} {s0 s:Sit} {H0 H:AH} {S:AS} {a:Act} {l:List (Nat×AV)} (h:SR n s S a) (hf:Fr s0 H0 s S.hp) (hk:kZ S.hp S.sl l) (he:S.hp=H):SR n s ⟨kn l,H⟩ a/\Fr s0 H0 s H:=by
  subst he;exact h.yB hf (aO8 hk)
theorem nE (hm:P.follows .mixedOrders=true) (ht:dW P tb) {n:NT} (hn:n.rd=false) {A B:Type} {J:A->FS->AH->Prop} {JR:B->FS->AH->List (Nat×Nat)->Prop} {hJR:∀ {a f hp vs},JR a f hp vs->cB vs/\JR a f hp []}
    {t:WT P (.s A (.b B))} {r:A⊕B} (h0:t.run=some r) {c:Code} {s:Sit} {a:Act} {f:FS} {hp:AH} (hs:SR n s ⟨f,hp⟩ a) (m:Nat) (h:WP P tb m n t (.dU J (.fn JR hJR)) (.c [c]) f hp []) {Q:Go.Exit->Act->World->Prop}
    (k1:∀ v S' s' a',r=.inl v->J v S'.sl S'.hp->SR n s' S' a'->Fr s hp s' S'.hp->Q .normal a' s'.w)
    (k2:∀ v S' s' a',r=.inr v->JR v S'.sl S'.hp []->SR n s' S' a'->Fr s hp s' S'.hp->Q .ret a' s'.w):c.wpIn Fence.wide 0 P Q a s.w:=by
  have:=(J9 hm ht m _ _ _ _ _ _ _ h).2 r h0
  refine wpIn_mono (nD this s a hs _ (hn ▸ MC)) ?_
  rintro e a' w' ⟨S',s',rfl,hq,hs',hf'⟩
  cases r with
  | inl v=>obtain ⟨rfl,hj⟩:=hq;exact k1 v S' s' a' rfl hj hs' hf'
  | inr v =>
    obtain ⟨hne,he,hj⟩:=hq
    rcases he with rfl | rfl
    · exact absurd rfl hne
    · exact k2 v S' s' a' rfl hj hs' hf'
theorem BS (hm:P.follows .mixedOrders=true) (ht:dW P tb) {n:NT} {A B:Type} {J:A->FS->AH->Prop} {JR:B->FS->AH->List (Nat×Nat)->Prop} {hJR:∀ {a f hp vs},JR a f hp vs->cB vs/\JR a f hp []}
    {t:WT P (.s A (.b B))} {r:A⊕B} (h0:t.run=some r) {c:Code} {f:FS} {hp:AH} (m:Nat) (h:WP P tb m n t (.dU J (.fn JR hJR)) (.c [c]) f hp []) {Q:Go.Exit->AS->Prop}
    (k1:∀ v S',r=.inl v->J v S'.sl S'.hp->Q .normal S')
    (k2:∀ v S',r=.inr v->JR v S'.sl S'.hp []->Q .ret S'):Tr P n c ⟨f,hp⟩ Q:=by
  have:=(J9 hm ht m _ _ _ _ _ _ _ h).2 r h0
  refine Tr.mono (nD this) λe S' hq=>?_
  cases r with
  | inl v=>obtain ⟨rfl,hj⟩:=hq;exact k1 v S' rfl hj
  | inr v =>
    obtain ⟨hne,he,hj⟩:=hq
    rcases he with rfl | rfl
    · exact absurd rfl hne
    · exact k2 v S' rfl hj
end
theorem aJ2 {p:Prop} (h:p:=by first | (refine ⟨?_,?_⟩;(focus ((repeat (first | exact trivial | refine ⟨⟨_,rfl,.refl _⟩,?_⟩));done));(first | exact rfl | exact wX | exact wX.trans wX)) | (apply Exists.intro;refine ⟨?_,?_⟩;(focus ((repeat (first | exact trivial | refine ⟨⟨_,rfl,.refl _⟩,?_⟩));done));(first | exact rfl | exact wX | exact wX.trans wX)) | fail):p:=h
theorem D6 {p:Prop} (h:p:=by
  repeat' (first
    | ((conv=>whnf);first
      | refine aBY ?_ ?_
      | intro _
      | (show kU _ _ _ _;refine kU.mk ?_ rfl aV)
      | (show oF _ _ _ _ _;refine oF.mk ?_ ?_ rfl aV)
      | (show EJ _ _;first
        | exact EJ.mk aJ aV
        | exact EJ.mk aJ2 aV)
      | (show Ek _ _ _;refine Ek.mk ?_ (by kernel_rfl) aV)
      | (show Ev _ (λv=>∀ H,H=_->_->_) _;first
        | (apply aA8 ;(iterate 5 exact rfl);exact aR;exact aV)
        | (apply YL ;(iterate 4 exact rfl);exact aR;exact aV)
        | (apply aF1 ;(iterate 6 exact rfl);exact aX;exact aV)
        | (apply aDA ;(focus (assumption));(iterate 6 exact rfl);exact aV)
        | (apply aBD ;(focus (assumption));(iterate 6 exact rfl);exact aV)
        | (apply aGT ;(iterate 5 exact rfl);exact aR;exact aV)
        | (apply aFX ;(iterate 4 exact rfl);(focus (rfl));(iterate 3 exact rfl);(focus (first | exact List.length_map _ | exact BM | rfl));exact aX;exact aL;exact aV)
        | (apply YD ;(iterate 4 exact rfl);(focus (rfl));(iterate 3 exact rfl);(focus (decide));exact aV)
        | (apply Z4 ;(iterate 4 exact rfl);(focus (rfl));(iterate 3 exact rfl);(focus (assumption));exact aV)
        | refine Ev.mk _ (λH hH ht=>IR rfl (by kernel_rfl) rfl) ?_ aV
        | refine Ev.mk _ (λH hH ht=>K9 rfl (by kernel_rfl) rfl rfl (by kernel_rfl)) ?_ aV
        | refine Ev.mk _ (λH hH ht=>dK (IY rfl (by kernel_rfl) rfl rfl) (congrArg aI (by assumption))) ?_ aV
        | refine Ev.mk _ (λH hH ht=>MF ht rfl rfl (by kernel_rfl) rfl rfl (by repeat (first | exact .nil _ | refine .cons (.int (by kernel_rfl)) (by kernel_rfl) ?_)) ((congrArg Bool.not (A11_Int.eqv _ _)).trans (by assumption))) ?_ aV
        | refine Ev.mk _ (λH hH ht=>KR rfl (by kernel_rfl) rfl rfl) ?_ aV
        | refine Ev.mk _ (λH hH ht=>L8 rfl (by kernel_rfl) rfl rfl) ?_ aV
        | refine Ev.mk _ (λH hH ht=>MP rfl (by kernel_rfl) rfl) ?_ aV
        | refine Ev.mk _ (λH hH ht=>yS rfl rfl rfl (by assumption)) ?_ aV
        | refine Ev.mk _ (λH hH ht=>qN rfl rfl rfl (by assumption)) ?_ aV
        | refine Ev.mk _ (λH hH ht=>I9 rfl rfl rfl rfl (by assumption)) ?_ aV
        | refine Ev.mk _ (λH hH ht=>FB rfl rfl rfl (by assumption) (by assumption)) ?_ aV
        | refine Ev.mk _ (λH hH ht=>FO rfl rfl rfl (by assumption) (by assumption)) ?_ aV
        | refine Ev.mk _ (λH hH ht=>NA rfl rfl rfl (by assumption)) ?_ aV
        | refine Ev.mk _ (λH hH ht=>NI rfl rfl rfl (by assumption)) ?_ aV
        | refine Ev.mk _ (λH hH ht=>GH rfl rfl rfl (by assumption) (by assumption)) ?_ aV
        | refine Ev.mk _ (λH hH ht=>H8 rfl rfl rfl (by assumption) (by assumption)) ?_ aV
        | refine Ev.mk _ (λH hH ht=>dK (K5 rfl rfl rfl) (congrArg aI (by assumption))) ?_ aV
        | refine Ev.mk _ (λH hH ht=>dK (MI rfl (by kernel_rfl) rfl rfl) (congrArg aI (by assumption))) ?_ aV
        | refine Ev.mk _ (λH hH ht=>NY rfl (by kernel_rfl) rfl) ?_ aV
        | refine Ev.mk _ (λH hH ht=>IP rfl (by kernel_rfl) rfl rfl (pJ (by assumption)).1 (pJ (by assumption)).2) ?_ aV)
      | (show Ev _ _ _;first
        | (apply WS ;(iterate 5 exact rfl);exact aR;(focus (decide));exact aV)
        | (apply aEN ;(iterate 4 exact rfl);exact aR;(focus (decide));exact aV)
        | (apply aAN ;(iterate 6 exact rfl);exact aX;(focus (decide));exact aV)
        | (apply aAK ;(focus (assumption));(iterate 6 exact rfl);(focus (decide));exact aV)
        | (apply aB7 ;(focus (assumption));(iterate 6 exact rfl);(focus (decide));exact aV)
        | (apply aDI ;(iterate 5 exact rfl);exact aR;(focus (decide));exact aV)
        | (apply aGW ;(iterate 4 exact rfl);(focus (rfl));(iterate 3 exact rfl);(focus (first | exact List.length_map _ | exact BM | rfl));exact aX;exact aL;(focus (decide));exact aV)
        | (apply aHU ;(iterate 4 exact rfl);(focus (rfl));(iterate 3 exact rfl);(iterate 2 (focus (decide)));exact aV)
        | (apply aB4 ;(iterate 4 exact rfl);(focus (rfl));(iterate 3 exact rfl);(focus (assumption));(focus (decide));exact aV)
        | refine Ev.mk _ (λH hH ht=>IR rfl (by kernel_rfl) rfl) ?_ aV
        | refine Ev.mk _ (λH hH ht=>K9 rfl (by kernel_rfl) rfl rfl (by kernel_rfl)) ?_ aV
        | refine Ev.mk _ (λH hH ht=>dK (IY rfl (by kernel_rfl) rfl rfl) (congrArg aI (by assumption))) ?_ aV
        | refine Ev.mk _ (λH hH ht=>MF ht rfl rfl (by kernel_rfl) rfl rfl (by repeat (first | exact .nil _ | refine .cons (.int (by kernel_rfl)) (by kernel_rfl) ?_)) ((congrArg Bool.not (A11_Int.eqv _ _)).trans (by assumption))) ?_ aV
        | refine Ev.mk _ (λH hH ht=>KR rfl (by kernel_rfl) rfl rfl) ?_ aV
        | refine Ev.mk _ (λH hH ht=>L8 rfl (by kernel_rfl) rfl rfl) ?_ aV
        | refine Ev.mk _ (λH hH ht=>MP rfl (by kernel_rfl) rfl) ?_ aV
        | refine Ev.mk _ (λH hH ht=>yS rfl rfl rfl (by assumption)) ?_ aV
        | refine Ev.mk _ (λH hH ht=>qN rfl rfl rfl (by assumption)) ?_ aV
        | refine Ev.mk _ (λH hH ht=>I9 rfl rfl rfl rfl (by assumption)) ?_ aV
        | refine Ev.mk _ (λH hH ht=>FB rfl rfl rfl (by assumption) (by assumption)) ?_ aV
        | refine Ev.mk _ (λH hH ht=>FO rfl rfl rfl (by assumption) (by assumption)) ?_ aV
        | refine Ev.mk _ (λH hH ht=>NA rfl rfl rfl (by assumption)) ?_ aV
        | refine Ev.mk _ (λH hH ht=>NI rfl rfl rfl (by assumption)) ?_ aV
        | refine Ev.mk _ (λH hH ht=>GH rfl rfl rfl (by assumption) (by assumption)) ?_ aV
        | refine Ev.mk _ (λH hH ht=>H8 rfl rfl rfl (by assumption) (by assumption)) ?_ aV
        | refine Ev.mk _ (λH hH ht=>dK (K5 rfl rfl rfl) (congrArg aI (by assumption))) ?_ aV
        | refine Ev.mk _ (λH hH ht=>dK (MI rfl (by kernel_rfl) rfl rfl) (congrArg aI (by assumption))) ?_ aV
        | refine Ev.mk _ (λH hH ht=>NY rfl (by kernel_rfl) rfl) ?_ aV
        | refine Ev.mk _ (λH hH ht=>IP rfl (by kernel_rfl) rfl rfl (pJ (by assumption)).1 (pJ (by assumption)).2) ?_ aV)
      | (show Ed _ _ _ _ _;refine Ed.mk ?_ rfl aY aV)
      | (show Em _ _;refine Em.mk ?_ aV)
      | (show BK _ _ _ _;refine BK.mk ?_ (by first | exact rfl | decide) aV)
      | (show Es _ _ _;refine Es.mk aZ ⟨by assumption,by assumption⟩ ?_)
      | (show E0 _ _;exact E0.mk aC aV)
      | (show Ei _ _ _ _ _;first
        | exact Ei.mk rfl aV aV
        | exact Ei.mk (V2 aL) aV aV)
      | (show EL _ _ _;refine EL.mk ?_ aJ aV)
      | (show Ec _ _ _;refine Ec.mk ?_ aC aV)
      | (show Et _ (∀ H,H=_->_->_) _;(apply K7 (hp:=H0);(iterate 7 exact rfl);(focus (kernel_rfl));(iterate 2 exact rfl);exact aV))
      | (show Et _ (∀ H,_) _;first
        | (apply K7 (hp:=H0);(iterate 7 exact rfl);(focus (kernel_rfl));(iterate 2 exact rfl);exact aV)
        | refine Et.mk aO ?_ aV)
      | (show Et _ _ _;refine Et.mk aO ?_ aV)
      | (show Ee _ _ _ _;first
        | (apply aHH ;(iterate 3 exact rfl);exact YY;exact aC;exact rfl;(focus (assumption));exact aK;exact aV)
        | (apply aDQ ;(iterate 9 exact rfl);exact aC;(focus (first | exact aP.one | exact λ_=>rfl));(focus (assumption));exact aK;exact aV)
        | (apply Z5 ;(iterate 15 exact rfl);exact aC;(focus (assumption));exact aL;(focus (first | exact aP.one | exact λ_=>rfl));(focus (assumption));exact aK;exact aV)
        | (apply X4 ;(iterate 8 exact rfl);exact aX;(focus (assumption));exact aO;exact aV)
        | (apply aCT ;(iterate 5 exact rfl);(focus (assumption));exact aR;(iterate 4 exact rfl);exact aO;exact aV)
        | (apply aGL ;(iterate 7 exact rfl);exact aR;exact rfl;(focus (first | exact λ_=>PK | exact λ_=>rfl));exact aK;exact aV))
      | refine E2.mk ?_ ?_
      | exact True.intro))):p:=h
end Go.Pv
