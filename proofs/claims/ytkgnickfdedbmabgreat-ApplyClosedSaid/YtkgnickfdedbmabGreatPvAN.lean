/- A range over a function of two values; a round may leave the function (return). -/
import Derived.Test.YtkgnickfdedbmabGreatPvAM
set_option linter.unusedVariables false
set_option linter.unusedSimpArgs false
namespace Go.Pv
set_option maxRecDepth 100000
section
variable {s:Sit} {H:AH} {l:Nat} {o o1 o2:Obj}
theorem DU:(s.put l o1).put l o2=s.put l o2:=by
  simp only [Sit.put,World.putObj]
  congr 1
  simp
theorem F3 (h:fQ s l o):s.put l o=s:=by
  have:=h.at'
  obtain ⟨hl,he⟩:=Array.getElem?_eq_some_iff.1 this
  have e:s.w.putObj l o=s.w:=by
    simp only [World.putObj]
    congr 1
    refine Array.ext (by simp) λi h1 h2=>?_
    by_cases hi:i=l
    · subst hi;exact (Array.getElem_setIfInBounds_self ..).trans he.symm
    · exact Array.getElem_setIfInBounds_ne _ (Ne.symm hi)
  simp only [Sit.put,e]
end
abbrev gW (fn:FuncId) (tmps:Array Value) (p q:Tmp) (assign body:Code) (D:Nat):Loop:={ state:=.ready,pending:=none,fn,tmps,params:=#[p,q],assign,body,defers:=D }
abbrev pU (fn:FuncId) (tmps:Array Value) (p q:Tmp) (assign body:Code) (D:Nat):Loop:={ gW fn tmps p q assign body D with state:=.done,pending:=some .ret }
abbrev uH (p q:Tmp) (v u:Value) (tmps:Array Value):Array Value:=((#[p,q]:Array Tmp).zip #[v,u]).foldl (λt (p,a)=>t.setIfInBounds p a) tmps
section
variable {P:Program} {l D p q:Nat} {fn:FuncId} {tmps:Array Value} {assign body:Code} {s:Sit} {H:AH} {x y:AV} {v u:Value}
theorem GV:uH p q v u tmps=(tmps.setIfInBounds p v).setIfInBounds q u:=by simp [uH]
def EG (l:Nat) (rd dn:Obj) (s:Sit) (H:AH) (J K:AH->Prop) (e:Ending) (w':World):Prop :=
  (∃ s' H',e=.returned (.bool true)/\w'=s'.w/\J H'/\HR s' H'/\Fr s H s' H')\/∃ s' H',e=.returned (.bool false)/\w'=s'.w/\K H'/\HR s' H'/\fQ s' l dn/\Fr s H (s'.put l rd) H'
theorem aGY {N:Nat} {f:Nat->Option AV} {J' K':AH->Prop} (hn:fQ s l (.loop (gW fn tmps p q assign body D))) (hsz:tmps.size=N) (hsl:∀ t y,f t=some y->∃ u,tmps[t]?=some u/\VR s y u)
    (hp:p<N) (hq:q<N) (hv:VR s x v) (hu:VR s y u) (hH:HR s H)
    (h:Tr P ⟨N,true,[]⟩ assign ⟨upd (upd f p (some x)) q (some y),H⟩ (λe S1=>e=.normal/\Tr P ⟨N,true,[]⟩ body S1 (λe S2=>(e=.normal/\J' S2.hp)\/(e=.ret/\K' S2.hp)))) :
    RoundIn Fence.wide 0 P l fn (uH p q v u tmps) assign body s.w (EG l (.loop (gW fn tmps p q assign body D)) (.loop (pU fn tmps p q assign body D)) s H J' K'):=by
  refine roundIn_of_wpIn trivial ?_
  have hs0:SR ⟨N,true,[]⟩ s ⟨upd (upd f p (some x)) q (some y),H⟩ { tmps:=uH p q v u tmps,defers:=[] }:=by
    refine ⟨by simp [GV,hsz],rfl,λt z hz=>?_,hH⟩
    simp only [GV]
    by_cases e:t=q
    · subst e
      simp only [upd_same] at hz
      cases hz
      exact ⟨u,by simp [hsz,hq],hu⟩
    · simp only [upd_ne _ _ e] at hz
      by_cases e':t=p
      · subst e'
        simp only [upd_same] at hz
        cases hz
        exact ⟨v,by rw [Array.getElem?_setIfInBounds_ne (Ne.symm e)];simp [hsz,hp],hv⟩
      · simp only [upd_ne _ _ e'] at hz
        obtain ⟨u,h1,h2⟩:=hsl t z hz
        exact ⟨u,by rw [Array.getElem?_setIfInBounds_ne (Ne.symm e),Array.getElem?_setIfInBounds_ne (Ne.symm e')];exact h1,h2⟩
  refine wpIn_mono (h s _ hs0 _ (wide_round l)) ?_
  rintro e a1 w1 ⟨S1,s1,rfl,⟨rfl,hb⟩,hs1,hf1⟩
  have hn1:=hn.fr hH hf1
  have hb1:=run_beginRound (P:=P) hn1.at' rfl
  refine ⟨_,hb1,?_⟩
  have g1:=hn1.put hs1.heap (.loop { gW fn tmps p q assign body D with state:=.busy })
  have hs2:SR ⟨N,true,[]⟩ (s1.put l (.loop { gW fn tmps p q assign body D with state:=.busy })) S1 a1:=⟨hs1.size,hs1.defers,λt y hy=>let ⟨u,h1,h2⟩:=hs1.slot t y hy;⟨u,h1,g1.2 _ _ h2⟩,g1.1⟩
  refine wpIn_mono (hb _ a1 hs2 _ (wide_round l)) ?_
  rintro e a2 w2 ⟨S2,s3,rfl,hj,hs3,hf3⟩
  have hn3:=(hn1.xW (o':=.loop { gW fn tmps p q assign body D with state:=.busy }) rfl).fr g1.1 hf3
  have hfr:=M0 hf1 hs1.heap hn1 hf3 hs3.heap hn3 hn.at'
  rcases hj with ⟨rfl,hj⟩ | ⟨rfl,hk⟩
  · exact ⟨_,_,run_endRound none hn3.at',.inl ⟨s3.put l (.loop (gW fn tmps p q assign body D)),S2.hp,rfl,rfl,hj,(hn3.put hs3.heap _).1,hfr⟩⟩
  · exact ⟨_,_,run_endRound (some .ret) hn3.at',.inr ⟨s3.put l (.loop (pU fn tmps p q assign body D)),S2.hp,rfl,rfl,hk,(hn3.put hs3.heap _).1,hn3.xW rfl,by rw [DU];exact hfr⟩⟩
def T3 (P:Program) (gf:FuncId) (lb:List AV) (xs:List (AV×AV)):Prop :=
  ∀ (l:Nat) (fn:FuncId) (tmps:Array Value) (p q:Tmp) (assign body:Code) (D:Nat) (J:Nat->AH->Prop) (K:AH->Prop) (s:Sit) (H:AH) (vs:Array Value),
    HR s H->jI s lb vs->J 0 H->(∀ i H,J i H->H 777=none)->(∀ H,K H->H 777=none)->fQ s l (.loop (gW fn tmps p q assign body D)) ->
    (∀ i x y,xs[i]?=some (x,y)->∀ s1 H1 v u,J i H1->HR s1 H1->VR s1 x v->VR s1 y u->fQ s1 l (.loop (gW fn tmps p q assign body D))->Fr s H s1 H1 ->
      RoundIn Fence.wide 0 P l fn (uH p q v u tmps) assign body s1.w (EG l (.loop (gW fn tmps p q assign body D)) (.loop (pU fn tmps p q assign body D)) s1 H1 (J (i+1)) K)) ->
    Calls P gf (#[.func (.yield l) #[] #[]]++vs) s.w (λe w'=>(∃ s' H' v,e=.returned v/\w'=s'.w/\J xs.length H'/\HR s' H'/\Fr s H s' H') \/
      ∃ s' H' v,e=.returned v/\w'=s'.w/\K H'/\HR s' H'/\fQ s' l (.loop (pU fn tmps p q assign body D))/\Fr s H (s'.put l (.loop (gW fn tmps p q assign body D))) H')
theorem K6 {n:NT} {ds:List Deferred} (hn:n.rd=false) {S:AS} {a:Act} {g:Operand} {gf:FuncId} {lb:List AV} {xs:List (AV×AV)} (hs:SR ⟨n.n,false,ds⟩ s S a) (hg:S.ev g=some (.fn (.func gf) [] lb)) (hc:aT P gf=true) (hit:T3 P gf lb xs)
    (J:Nat->AH->Prop) (K:AH->Prop) (hJ:J 0 S.hp) (hJ7:∀ i H,J i H->H 777=none) (hK7:∀ H,K H->H 777=none) (hp:p<n.n) (hq:q<n.n)
    (hr:∀ i x y H,xs[i]?=some (x,y)->J i H->Tr P ⟨n.n,true,[]⟩ assign ⟨upd (upd S.sl p (some x)) q (some y),H⟩ (λe S1=>e=.normal/\Tr P ⟨n.n,true,[]⟩ body S1 (λe S2=>(e=.normal/\J (i+1) S2.hp)\/(e=.ret/\K S2.hp))))
    {Q:Go.Exit->Act->World->Prop}
    (h:∀ e D s' H',(e=.normal/\J xs.length H')\/(e=.ret/\K H')->SR ⟨n.n,false,mk D :: ds⟩ s' ⟨S.sl,H'⟩ { a with defers:=mk D :: ds }->Fr s S.hp s' H'->s.w.heap.size<=D->fQ s' D (.deferred (some []))->Q e { a with defers:=mk D :: ds } s'.w) :
    (Code.rangeFunc g #[p,q] assign body).wpIn Fence.wide 0 P Q a s.w:=by
  have hv:=lG hs hg
  generalize hu:a.eval g=u at hv
  cases hv with
  | fn hl hl' hv hv' =>
    rename_i a' c'
    have ha':a'=#[]:=by
      simp only [List.length_nil] at hl
      exact Array.eq_empty_of_size_eq_zero hl.symm
    subst ha'
    refine wpIn_rangeFunc λfn _=>?_
    obtain ⟨g1,g2,g3⟩:=LB hs.heap (.deferred (some []))
    have n1:=OS hs.heap (o:=.deferred (some [])) rfl
    obtain ⟨g4,g5,g6⟩:=LB g1 (.loop (gW fn a.tmps p q assign body s.w.heap.size))
    have n2:=OS g1 (o:=.loop (gW fn a.tmps p q assign body s.w.heap.size)) rfl
    have n1':=n1.fr g1 g6
    have hsz:(s.al (.deferred (some []))).w.heap.size=s.w.heap.size+1:=by simp [Sit.al]
    rw [hsz] at n2
    have hfr0:=g3.trans g6
    generalize hs2:(s.al (.deferred (some []))).al (.loop (gW fn a.tmps p q assign body s.w.heap.size))=s2 at *
    have hw2:s2.w=(s.w.alloc (.deferred (some []))).alloc (.loop (gW fn a.tmps p q assign body s.w.heap.size)):=by rw [<- hs2];rfl
    have hd:a.defers=ds:=hs.defers
    refine ⟨s.w.heap.size+1,[mk s.w.heap.size],s2.w,{ target:=.fn (.func gf) c',args:=#[.func (.yield (s.w.heap.size+1)) #[] #[]] },s2.w,gf,
      #[.func (.yield (s.w.heap.size+1)) #[] #[]]++c',s2.w,?_,?_,λ_ _=>trivial,?_,(λh=>by cases h),?_⟩
    · rw [hw2];exact run_enterLoop_outer _ _ _ _ _
    · simp only [resolve,hu]
      simp [go_sem]
    · have:=GK (P:=P) hc (#[.func (.yield (s.w.heap.size+1)) #[] #[]]++c') s2.w
      simp [invoke,go_sem,this]
    · refine callsIn_wide.2 ((hit (s.w.heap.size+1) fn a.tmps p q assign body s.w.heap.size J K s2 S.hp c' g4 ⟨hl',λi x v h1 h2=>hfr0.vals _ _ (hv' i x v h1 h2)⟩ hJ hJ7 hK7 n2 ?_).mono ?_)
      · intro i x y s1' s1 H1 v u hj hH1 hv1 hu1 hn1 hf1
        refine aGY hn1 hs.size (λt y hy=>?_) hp hq hv1 hu1 hH1 (hr i x y H1 s1' hj)
        obtain ⟨u,q1,q2⟩:=hs.slot t y hy
        exact ⟨u,q1,hf1.vals _ _ (hfr0.vals _ _ q2)⟩
      · rintro e w' hend
        have main:∀ (s3:Sit) (H3:AH) (rec:Loop) (e':Go.Exit),HR s3 H3->fQ s3 (s.w.heap.size+1) (.loop rec)->Fr s2 S.hp (s3.put (s.w.heap.size+1) (.loop (gW fn a.tmps p q assign body s.w.heap.size))) H3 ->
            ((e'=.normal/\J xs.length H3)\/(e'=.ret/\K H3))->Q e' { a with defers:=mk s.w.heap.size :: ds } (s3.put (s.w.heap.size+1) (.loop { rec with state:=.exhausted })).w:=by
          intro s3 H3 rec e' hH3 n3 hf3 hjk
          have n3r:=n3.xW (o':=.loop (gW fn a.tmps p q assign body s.w.heap.size)) rfl
          have hH3r:=(n3.put hH3 (.loop (gW fn a.tmps p q assign body s.w.heap.size))).1
          have d3:=n1'.fr g4 hf3
          have gp:=n3.put hH3 (.loop { rec with state:=.exhausted })
          have hfr3:Fr s S.hp (s3.put (s.w.heap.size+1) (.loop { rec with state:=.exhausted })) H3:=by
            have:=RB (o1:=.loop { rec with state:=.exhausted }) (hfr0.trans hf3) hH3r n3r (by omega)
            rwa [DU] at this
          refine h e' s.w.heap.size _ H3 hjk ⟨hs.size,rfl,λt y hy=>?_,gp.1⟩ hfr3 (Nat.le_refl _) ⟨d3.im,?_,rfl⟩
          · obtain ⟨u,q1,q2⟩:=hs.slot t y hy
            exact ⟨u,q1,hfr3.vals _ _ q2⟩
          · have e1:(s3.put (s.w.heap.size+1) (.loop (gW fn a.tmps p q assign body s.w.heap.size))).w.heap[s.w.heap.size]?=s3.w.heap[s.w.heap.size]?:=World.putObj_heap_other (by omega)
            exact (World.putObj_heap_other (by omega)).trans (e1.symm.trans d3.at')
        rcases hend with ⟨s3,H3,v,rfl,rfl,hj,hH3,hf3⟩ | ⟨s3,H3,v,rfl,rfl,hk,hH3,n3,hf3⟩
        · have n3:=n2.fr g4 hf3
          refine ⟨none,_,run_endLoop n3.at' (by simp),?_⟩
          show Q .normal { tmps:=a.tmps,defers:=[mk s.w.heap.size]++a.defers } _
          rw [hd]
          exact main s3 H3 _ .normal hH3 n3 (by rw [F3 n3];exact hf3) (.inl ⟨rfl,hj⟩)
        · refine ⟨some .ret,_,run_endLoop n3.at' (by simp),?_⟩
          refine wpIn_ret ?_
          show Q .ret { tmps:=a.tmps,defers:=[mk s.w.heap.size]++a.defers } _
          rw [hd]
          exact main s3 H3 _ .ret hH3 n3 hf3 (.inr ⟨rfl,hk⟩)
theorem YZ {n:NT} {S:AS} {a:Act} {ops:List Oper} {k t y xt yt:Nat} {rest:List Nat} {o:Oper} {x z:AV} {ts:Array TypeId} {J' K':AH->Prop} {Q:Go.Exit->Act->World->Prop}
    (hs:SR n s S a) (hok:ops[k]?=some o) (hg:o.guard=none) (ho:o.op=.call { callee:=.value (.tmp y),args:=#[.tmp xt,.tmp yt],argTypes:=ts }) (hd:o.dst=some t) (ht:Nat.blt t n.n=true)
    (hy:S.sl y=some (.sc (.func (.yield l) #[] #[]))) (hx:S.sl xt=some x) (hz:S.sl yt=some z) (hn:fQ s l (.loop (gW fn tmps p q assign body D)))
    (hr:∀ v u,VR s x v->VR s z u->RoundIn Fence.wide 0 P l fn (uH p q v u tmps) assign body s.w (EG l (.loop (gW fn tmps p q assign body D)) (.loop (pU fn tmps p q assign body D)) s S.hp J' K'))
    (h:∀ s' a' H',J' H'->SR n s' ⟨upd S.sl t (some (aF true)),H'⟩ a'->Fr s S.hp s' H'->wpOpsIn Fence.wide 0 P ops.toArray Q rest a' s'.w)
    (h':∀ s' a' H',K' H'->SR n s' ⟨upd S.sl t (some (aF false)),H'⟩ a'->fQ s' l (.loop (pU fn tmps p q assign body D))->Fr s S.hp (s'.put l (.loop (gW fn tmps p q assign body D))) H'->wpOpsIn Fence.wide 0 P ops.toArray Q rest a' s'.w) :
    wpOpsIn Fence.wide 0 P ops.toArray Q (k :: rest) a s.w:=by
  have hw:Wd ops S o=some true:=by unfold Wd;rw [hg]
  unfold wpOpsIn
  rw [show ops.toArray[k]?=some o by simpa using hok]
  simp only [jS hs hw,if_true]
  have hev:a.eval (.tmp y)=.func (.yield l) #[] #[]:=(lG (o:=.tmp y) hs hy).dP
  have hxv:=lG (o:=.tmp xt) hs hx
  have hzv:=lG (o:=.tmp yt) hs hz
  have hrun:(execOp a.eval o).run P s.w=.ok (.round l fn (uH p q (a.eval (.tmp xt)) (a.eval (.tmp yt)) tmps) assign body) s.w:=by
    have:=run_yield (P:=P) (args:=#[a.eval (.tmp xt),a.eval (.tmp yt)]) hn.at' (by simp)
    simp only [execOp,ho,resolve,hev,Deferred.ofValue,Sem.run_bind,Sem.run_pure,Result.andThen_ok,invoke]
    simpa [GV] using this
  refine ⟨λ_ _=>trivial,?_⟩
  rw [Oper.semAt_eq _ _ _ (by intro c;rw [ho];simp),hrun,Oper.uponIn_round]
  refine ⟨(λh=>by cases h),(hr _ _ hxv hzv).mono ?_⟩
  rintro e w' (⟨s2,H2,rfl,rfl,hj,hH2,hf⟩ | ⟨s2,H2,rfl,rfl,hk,hH2,hn2,hf⟩)
  · have:=(hs.fr hH2 hf).put (d:=o.dst) (x:=aF true) (v:=.bool true) (by rw [hd];simpa [gX] using ht) (.sc _)
    rw [hd] at this ⊢
    exact h s2 _ H2 hj this hf
  · have e0:=hn2.xW (o':=.loop (gW fn tmps p q assign body D)) rfl
    have hH2r:=(hn2.put hH2 (.loop (gW fn tmps p q assign body D))).1
    have h1:=hs.fr hH2r hf
    have gp:=e0.put hH2r (.loop (pU fn tmps p q assign body D))
    rw [DU,F3 hn2] at gp
    have h2:SR n s2 ⟨S.sl,H2⟩ a:=⟨h1.size,h1.defers,λt y hy=>let ⟨u,q1,q2⟩:=h1.slot t y hy;⟨u,q1,gp.2 _ _ q2⟩,gp.1⟩
    have:=h2.put (d:=o.dst) (x:=aF false) (v:=.bool false) (by rw [hd];simpa [gX] using ht) (.sc _)
    rw [hd] at this ⊢
    exact h' s2 _ H2 hk this hn2 hf
end
end Go.Pv
