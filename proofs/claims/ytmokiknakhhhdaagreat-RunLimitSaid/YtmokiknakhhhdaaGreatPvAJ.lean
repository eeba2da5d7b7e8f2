/- A range over a function: its record, its rounds, its end. -/
import Derived.Test.YtmokiknakhhhdaaGreatPvAI
set_option linter.unusedVariables false
set_option linter.unusedSimpArgs false
namespace Go.Pv
def Sit.put (s:Sit) (l:Nat) (o:Obj):Sit:={ s with w:=s.w.putObj l o }
def D6:Obj->Bool
  | .cells ..=>false
  | _=>true
structure kR (s:Sit) (l:Nat) (o:Obj):Prop where
  im:¬ s.Im l
  at':s.w.heap[l]?=some o
  nc:D6 o=true
section
variable {P:Program} {s s' s1 s3:Sit} {H H' H1 H2:AH} {l:Nat} {o o1 o2:Obj}
theorem kR.lt (h:kR s l o):l<s.w.heap.size:=(Array.getElem?_eq_some_iff.1 h.at').1
theorem kR.RL (h:kR s l o) (hH:HR s H) {id:Nat} {ob:bA} {m:Mu} (h1:H id=some ob) (h2:s.mu id=some m) (h3:m.nil=false):m.b≠l:=by
  intro e
  obtain ⟨m',hm'⟩:=hH.obj id ob h1
  have e':m'=m:=by have:=hm'.hm.symm.trans h2;simpa using this
  subst e'
  rcases hm'.body with ⟨q,_⟩ | ⟨cur,fr,hb⟩
  · rw [q] at h3;cases h3
  · have:=hb.hb;rw [e,h.at'] at this
    cases this
    have:=h.nc
    simp [D6] at this
theorem kR.no (h:kR s l o) (hH:HR s H):¬ jX s H l:=λ⟨_,_,_,q1,_,q3,q4,q5⟩=>h.RL hH q1 q3 q4 q5
theorem kR.put (h:kR s l o) (hH:HR s H) (o':Obj):HR (s.put l o') H/\∀ x v,VR s x v->VR (s.put l o') x v:=by
  refine wK hH (s.w.putObj l o') (by simp) λj hj=>World.putObj_heap_other λe=>?_
  rcases hj with hj | ⟨id,ob,m,q1,q2,q3,q4⟩
  · exact h.im (e ▸ hj)
  · exact h.RL hH q1 q2 q3 (q4.trans e)
theorem kR.aJ3 (h:kR s l o) {o':Obj} (hc:D6 o'=true):kR (s.put l o') l o':=⟨h.im,World.putObj_heap_same h.lt,hc⟩
theorem kR.fr (h:kR s l o) (hH:HR s H) (hf:Fr s H s' H'):kR s' l o:=⟨λhi=>h.im (hf.jD l h.lt (h.no hH) hi),(hf.keep l h.lt (h.no hH)).trans h.at',h.nc⟩
theorem aL0 (h1:Fr s H s1 H1) (hH1:HR s1 H1) (hn1:kR s1 l o) (h2:Fr (s1.put l o1) H1 s3 H2) (hH3:HR s3 H2) (hn3:kR s3 l o1) (ho:s.w.heap[l]?=some o):Fr s H (s3.put l o) H2 where
  os:=h2.os.trans h1.os
  tape:=h2.tape.trans h1.tape
  output:=h2.output.trans h1.output
  size:=by
    have a:=h1.size
    have b:=h2.size
    simp only [Sit.put,World.putObj_size] at b ⊢
    omega
  keep:=λb hb hno=>by
    by_cases e:b=l
    · subst e
      exact (World.putObj_heap_same hn3.lt).trans ho.symm
    · have hb1:b<(s1.put l o1).w.heap.size:=by
        have a:=h1.size
        simp only [Sit.put,World.putObj_size];omega
      exact (World.putObj_heap_other e).trans ((h2.keep b hb1 λh=>hno (h1.own b hb h)).trans ((World.putObj_heap_other e).trans (h1.keep b hb hno)))
  jV:=λb h=>h2.jV b (h1.jV b h)
  jD:=λb hb hno h=>h1.jD b hb hno (h2.jD b (by have a:=h1.size;simp only [Sit.put,World.putObj_size];omega) (λh'=>hno (h1.own b hb h')) h)
  own:=λb hb h=>h1.own b hb (h2.own b (by have a:=h1.size;simp only [Sit.put,World.putObj_size];omega) h)
  vals:=λx v h=>(hn3.put hH3 o).2 x v (h2.vals x v ((hn1.put hH1 o1).2 x v (h1.vals x v h)))
  lT:=λk h=>h2.lT k (h1.lT k h)
theorem YB (h1:Fr s H s1 H1) (hH1:HR s1 H1) (hn1:kR s1 l o) (hl:s.w.heap.size<=l):Fr s H (s1.put l o1) H1 where
  os:=h1.os
  tape:=h1.tape
  output:=h1.output
  size:=by have a:=h1.size;simp only [Sit.put,World.putObj_size];omega
  keep:=λb hb hno=>(World.putObj_heap_other (by omega)).trans (h1.keep b hb hno)
  jV:=h1.jV
  jD:=h1.jD
  own:=h1.own
  vals:=λx v h=>(hn1.put hH1 o1).2 x v (h1.vals x v h)
  lT:=h1.lT
def Sit.al (s:Sit) (o:Obj):Sit:={ s with w:=s.w.alloc o }
theorem TP (hH:HR s H) (o:Obj):HR (s.al o) H/\(∀ x v,VR s x v->VR (s.al o) x v)/\Fr s H (s.al o) H:=by
  have hold:∀ j,j<s.w.heap.size->(s.w.alloc o).heap[j]?=s.w.heap[j]?:=λj hj=>alloc_old s.w _ j hj
  obtain ⟨g1,g2⟩:=wK hH (s.w.alloc o) (by simp) (λj hj=>hold j (by
    rcases hj with hj | ⟨id,ob,m,q1,q2,q3,q4⟩
    · exact hH.im j hj
    · obtain ⟨m',hm'⟩:=hH.obj id ob q1
      have e:m'=m:=by have:=hm'.hm.symm.trans q2;simpa using this
      subst e
      rcases hm'.body with ⟨q,_⟩ | ⟨cur,fr,hb⟩
      · rw [q] at q3;cases q3
      · have:=hb.hb;rw [q4] at this
        exact (Array.getElem?_eq_some_iff.1 this).1))
  exact ⟨g1,g2,⟨rfl,rfl,rfl,by simp [Sit.al],λb hb _=>hold b hb,λ_ h=>h,λ_ _ _ h=>h,λ_ _ h=>h,g2,λ_ h=>h⟩⟩
theorem TN (hH:HR s H) {o:Obj} (hc:D6 o=true):kR (s.al o) s.w.heap.size o:=⟨λhi=>absurd (hH.im _ hi) (Nat.lt_irrefl _),nL s.w o,hc⟩
end
abbrev nU (fn:FuncId) (tmps:Array Value) (p:Tmp) (assign body:Code) (D:Nat):Loop:={ state:=.ready,pending:=none,fn,tmps,params:=#[p],assign,body,defers:=D }
abbrev xH (p:Tmp) (v:Value) (tmps:Array Value):Array Value:=((#[p]:Array Tmp).zip #[v]).foldl (λt (p,a)=>t.setIfInBounds p a) tmps
abbrev mk (D:Nat):Deferred:={ target:=.collected D,args:=#[] }
section
variable {P:Program} {l D p:Nat} {fn:FuncId} {tmps:Array Value} {assign body:Code} {s:Sit} {H:AH} {x:AV} {v:Value}
theorem IW:xH p v tmps=tmps.setIfInBounds p v:=by simp [xH]
theorem aHT {N:Nat} {f:Nat->Option AV} {J':AH->Prop} (hn:kR s l (.loop (nU fn tmps p assign body D))) (hsz:tmps.size=N) (hsl:∀ t y,f t=some y->∃ u,tmps[t]?=some u/\VR s y u)
    (hp:p<N) (hv:VR s x v) (hH:HR s H)
    (h:Tr P ⟨N,true,[]⟩ assign ⟨upd f p (some x),H⟩ (λe S1=>e=.normal/\Tr P ⟨N,true,[]⟩ body S1 (λe S2=>e=.normal/\J' S2.hp))) :
    RoundIn Fence.wide 0 P l fn (xH p v tmps) assign body s.w (λe w'=>∃ s' H',e=.returned (.bool true)/\w'=s'.w/\J' H'/\HR s' H'/\Fr s H s' H'):=by
  refine roundIn_of_wpIn trivial ?_
  have hs0:SR ⟨N,true,[]⟩ s ⟨upd f p (some x),H⟩ { tmps:=xH p v tmps,defers:=[] }:=by
    refine ⟨by simp [IW,hsz],rfl,λt y hy=>?_,hH⟩
    simp only [IW]
    by_cases e:t=p
    · subst e
      simp only [upd_same] at hy
      cases hy
      exact ⟨v,by simp [hsz,hp],hv⟩
    · simp only [upd_ne _ _ e] at hy
      obtain ⟨u,h1,h2⟩:=hsl t y hy
      exact ⟨u,by rw [Array.getElem?_setIfInBounds_ne (Ne.symm e)];exact h1,h2⟩
  refine wpIn_mono (h s _ hs0 _ (wide_round l)) ?_
  rintro e a1 w1 ⟨S1,s1,rfl,⟨rfl,hb⟩,hs1,hf1⟩
  have hn1:=hn.fr hH hf1
  have hb1:=run_beginRound (P:=P) hn1.at' rfl
  refine ⟨_,hb1,?_⟩
  have g1:=hn1.put hs1.heap (.loop { nU fn tmps p assign body D with state:=.busy })
  have hs2:SR ⟨N,true,[]⟩ (s1.put l (.loop { nU fn tmps p assign body D with state:=.busy })) S1 a1:=⟨hs1.size,hs1.defers,λt y hy=>let ⟨u,h1,h2⟩:=hs1.slot t y hy;⟨u,h1,g1.2 _ _ h2⟩,g1.1⟩
  refine wpIn_mono (hb _ a1 hs2 _ (wide_round l)) ?_
  rintro e a2 w2 ⟨S2,s3,rfl,⟨rfl,hj⟩,hs3,hf3⟩
  have hn3:=(hn1.aJ3 (o':=.loop { nU fn tmps p assign body D with state:=.busy }) rfl).fr g1.1 hf3
  refine ⟨_,_,run_endRound none hn3.at',s3.put l (.loop (nU fn tmps p assign body D)),S2.hp,rfl,rfl,hj,(hn3.put hs3.heap _).1,aL0 hf1 hs1.heap hn1 hf3 hs3.heap hn3 hn.at'⟩
def YY (P:Program) (gf:FuncId) (lb xs:List AV):Prop :=
  ∀ (l:Nat) (fn:FuncId) (tmps:Array Value) (p:Tmp) (assign body:Code) (D:Nat) (J:Nat->AH->Prop) (s:Sit) (H:AH) (vs:Array Value),
    HR s H->mD s lb vs->J 0 H->(∀ i H,J i H->H 777=none)->kR s l (.loop (nU fn tmps p assign body D)) ->
    (∀ i x,xs[i]?=some x->∀ s1 H1 v,J i H1->HR s1 H1->VR s1 x v->kR s1 l (.loop (nU fn tmps p assign body D))->Fr s H s1 H1 ->
      RoundIn Fence.wide 0 P l fn (xH p v tmps) assign body s1.w (λe w'=>∃ s2 H2,e=.returned (.bool true)/\w'=s2.w/\J (i+1) H2/\HR s2 H2/\Fr s1 H1 s2 H2)) ->
    Calls P gf (#[.func (.yield l) #[] #[]]++vs) s.w (λe w'=>∃ s' H' v,e=.returned v/\w'=s'.w/\J xs.length H'/\HR s' H'/\Fr s H s' H')
theorem aJ8 {n:NT} (hn:n.rd=false) {S:AS} {a:Act} {g:Operand} {gf:FuncId} {lb xs:List AV} (hs:SR ⟨n.n,false,[]⟩ s S a) (hg:S.ev g=some (.fn (.func gf) [] lb)) (hc:aU P gf=true) (hit:YY P gf lb xs)
    (J:Nat->AH->Prop) (hJ:J 0 S.hp) (hJ7:∀ i H,J i H->H 777=none) (hp:p<n.n)
    (hr:∀ i x H,xs[i]?=some x->J i H->Tr P ⟨n.n,true,[]⟩ assign ⟨upd S.sl p (some x),H⟩ (λe S1=>e=.normal/\Tr P ⟨n.n,true,[]⟩ body S1 (λe S2=>e=.normal/\J (i+1) S2.hp)))
    {Q:Go.Exit->Act->World->Prop}
    (h:∀ D s' H',J xs.length H'->SR ⟨n.n,false,[mk D]⟩ s' ⟨S.sl,H'⟩ { a with defers:=[mk D] }->Fr s S.hp s' H'->s.w.heap.size<=D->kR s' D (.deferred (some []))->Q .normal { a with defers:=[mk D] } s'.w) :
    (Code.rangeFunc g #[p] assign body).wpIn Fence.wide 0 P Q a s.w:=by
  have hv:=rH hs hg
  generalize hu:a.eval g=u at hv
  cases hv with
  | fn hl hl' hv hv' =>
    rename_i a' c'
    have ha':a'=#[]:=by
      simp only [List.length_nil] at hl
      exact Array.eq_empty_of_size_eq_zero hl.symm
    subst ha'
    refine wpIn_rangeFunc λfn _=>?_
    obtain ⟨g1,g2,g3⟩:=TP hs.heap (.deferred (some []))
    have n1:=TN hs.heap (o:=.deferred (some [])) rfl
    obtain ⟨g4,g5,g6⟩:=TP g1 (.loop (nU fn a.tmps p assign body s.w.heap.size))
    have n2:=TN g1 (o:=.loop (nU fn a.tmps p assign body s.w.heap.size)) rfl
    have n1':=n1.fr g1 g6
    have hsz:(s.al (.deferred (some []))).w.heap.size=s.w.heap.size+1:=by simp [Sit.al]
    rw [hsz] at n2
    have hfr0:=g3.trans g6
    generalize hs2:(s.al (.deferred (some []))).al (.loop (nU fn a.tmps p assign body s.w.heap.size))=s2 at *
    have hw2:s2.w=(s.w.alloc (.deferred (some []))).alloc (.loop (nU fn a.tmps p assign body s.w.heap.size)):=by rw [<- hs2];rfl
    refine ⟨s.w.heap.size+1,[mk s.w.heap.size],s2.w,{ target:=.fn (.func gf) c',args:=#[.func (.yield (s.w.heap.size+1)) #[] #[]] },s2.w,gf,
      #[.func (.yield (s.w.heap.size+1)) #[] #[]]++c',s2.w,?_,?_,λ_ _=>trivial,?_,(λh=>by cases h),?_⟩
    · rw [hw2];exact run_enterLoop_outer _ _ _ _ _
    · simp only [resolve,hu]
      simp [go_sem]
    · have:=NU (P:=P) hc (#[.func (.yield (s.w.heap.size+1)) #[] #[]]++c') s2.w
      simp [invoke,go_sem,this]
    · refine callsIn_wide.2 ((hit (s.w.heap.size+1) fn a.tmps p assign body s.w.heap.size J s2 S.hp c' g4 ⟨hl',λi x v h1 h2=>hfr0.vals _ _ (hv' i x v h1 h2)⟩ hJ hJ7 n2 ?_).mono ?_)
      · intro i x hx s1 H1 v hj hH1 hv1 hn1 hf1
        refine aHT hn1 hs.size (λt y hy=>?_) hp hv1 hH1 (hr i x H1 hx hj)
        obtain ⟨u,q1,q2⟩:=hs.slot t y hy
        exact ⟨u,q1,hf1.vals _ _ (hfr0.vals _ _ q2)⟩
      · rintro e w' ⟨s3,H3,v,rfl,rfl,hj,hH3,hf3⟩
        have n3:=n2.fr g4 hf3
        have d3:=n1'.fr g4 hf3
        refine ⟨none,_,run_endLoop n3.at' (by simp),?_⟩
        have gp:=n3.put hH3 (.loop { nU fn a.tmps p assign body s.w.heap.size with state:=.exhausted })
        have hfr3:Fr s S.hp (s3.put (s.w.heap.size+1) (.loop { nU fn a.tmps p assign body s.w.heap.size with state:=.exhausted })) H3:=YB (hfr0.trans hf3) hH3 n3 (by omega)
        have hd:a.defers=[]:=hs.defers
        show Q .normal { tmps:=a.tmps,defers:=[mk s.w.heap.size]++a.defers } (s3.w.putObj (s.w.heap.size+1) (.loop { nU fn a.tmps p assign body s.w.heap.size with state:=.exhausted }))
        rw [hd]
        refine h s.w.heap.size (s3.put (s.w.heap.size+1) (.loop { nU fn a.tmps p assign body s.w.heap.size with state:=.exhausted })) H3 hj ⟨hs.size,rfl,λt y hy=>?_,gp.1⟩ hfr3 (Nat.le_refl _)
          ⟨d3.im,(World.putObj_heap_other (by omega)).trans d3.at',rfl⟩
        obtain ⟨u,q1,q2⟩:=hs.slot t y hy
        exact ⟨u,q1,hfr3.vals _ _ q2⟩
end
section
variable {P:Program}
theorem aCC {f:FuncId} {fn:Func} {c:Code} {args:List AV} {H:AH} {R:AV->AH->Prop} (hf:P.funcs[f]?=some fn) (hb:fn.body=some c) (hle:Nat.ble args.length fn.ntmps=true)
    (h:∀ s a,SR ⟨fn.ntmps,false,[]⟩ s ⟨λt=>args[t]?,H⟩ a->c.wpIn Fence.wide 0 P (λe a' w'=>e=.ret/\∃ S' s' D vs H2,w'=s'.w/\SR ⟨fn.ntmps,false,[mk D]⟩ s' S' a'/\Fr s H s' S'.hp/\s.w.heap.size<=D /\
      kR s' D (.deferred (some []))/\lU P S' fn.results.toList vs/\(∀ t v,H2 t=some v->S'.hp t=some v)/\R (mQ vs) H2) a s.w):PC P f args H R:=by
  intro s vs hH ha
  have hle:=Nat.le_of_ble_eq_true hle
  refine callsIn_wide.1 (callsIn_of_wp_marks (n:=0) hf hb trivial ?_)
  have hs:SR ⟨fn.ntmps,false,[]⟩ s ⟨λt=>args[t]?,H⟩ { tmps:=vs++Array.replicate (fn.ntmps-vs.size) undef,defers:=[] }:=by
    refine ⟨by simp [<- ha.1];omega,rfl,λt x hx=>?_,hH⟩
    have ht:t<vs.size:=by rw [<- ha.1];exact (List.getElem?_eq_some_iff.1 hx).1
    exact ⟨vs[t],by simp [Array.getElem?_append_left ht,ht],ha.2 t x _ hx (by simp [ht])⟩
  refine wpIn_mono (h s _ hs) ?_
  rintro e a w' ⟨rfl,S',s',D,us,H2,rfl,hs',hf',hD,hn,hr,hsub,hR⟩
  have hd:a.defers=[mk D]:=hs'.defers
  have gp:=hn.put hs'.heap (.deferred none)
  have hs2:SR ⟨fn.ntmps,false,[mk D]⟩ (s'.put D (.deferred none)) S' a:=⟨hs'.size,hs'.defers,λt y hy=>let ⟨u,h1,h2⟩:=hs'.slot t y hy;⟨u,h1,gp.2 _ _ h2⟩,gp.1⟩
  have hf2:Fr s H (s'.put D (.deferred none)) S'.hp:=YB hf' hs'.heap hn hD
  obtain ⟨xs,h1,h2,h3⟩:=hr.run hs2
  have hres:∃ v,VR (s'.put D (.deferred none)) (mQ us) v/\(results fn a.tmps).run P (s'.put D (.deferred none)).w=.ok v (s'.put D (.deferred none)).w:=by
    have hrun:(fn.results.mapM (yE a.tmps)).run P (s'.put D (.deferred none)).w=.ok xs.toArray (s'.put D (.deferred none)).w:=by
      rw [Array.mapM_eq_mapM_toList]
      simp only [Sem.run_map,h3,Result.andThen_ok]
    rw [JP,Sem.run_bind,hrun]
    simp only [Result.andThen_ok]
    match us,xs,h1,h2 with
    | [u],[x],_,h2=>exact ⟨x,h2 0 u x rfl rfl,rfl⟩
    | [],[],_,_=>exact ⟨.tuple #[],.aS rfl (by simp),rfl⟩
    | u1 :: u2 :: ur,x1 :: x2 :: xr,h1,h2=>exact ⟨.tuple (x1 :: x2 :: xr).toArray,.aS (by simpa using h1.symm) (by simpa using h2),by simp⟩
  obtain ⟨v,g1,g2⟩:=hres
  have hH2:HR (s'.put D (.deferred none)) H2:=⟨λid o ho=>hs2.heap.obj id o (hsub id o ho),λi i' o o' m m' a b=>hs2.heap.jB i i' o o' m m' (hsub _ _ a) (hsub _ _ b),hs2.heap.im,hs2.heap.fin⟩
  have hfr:Fr s H (s'.put D (.deferred none)) H2:=⟨hf2.os,hf2.tape,hf2.output,hf2.size,hf2.keep,hf2.jV,hf2.jD,λb hb ⟨id,o,m,a,r⟩=>hf2.own b hb ⟨id,o,m,hsub _ _ a,r⟩,hf2.vals,hf2.lT⟩
  show LeavesInM Fence.wide 0 P fn a.tmps _ a.defers .returning s'.w
  rw [hd]
  refine ⟨by simp,.inl ⟨D,(s'.put D (.deferred none)).w,rfl,run_takeDeferred hn.at',?_⟩⟩
  exact ⟨v,g2,_,_,_,v,hR,rfl,rfl,g1,hH2,hfr⟩
theorem vH {n:NT} {s:Sit} {S:AS} {a:Act} {c:Code} {Q0:Go.Exit->AS->Prop} {Q:Go.Exit->Act->World->Prop} (hs:SR n s S a) (hr:n.rd=false) (h:bX P n (QQ P n Q0 []) [c] S)
    (k:∀ e S' s' a',Q0 e S'->SR n s' S' a'->Fr s S.hp s' S'.hp->Q e a' s'.w):c.wpIn Fence.wide 0 P Q a s.w :=
  wpIn_mono (lQ h s a hs _ (hr ▸ G8)) λe a' w' ⟨S',s',h1,h2,h3,h4⟩=>by subst h1;exact k e S' s' a' (by simpa [QQ] using h2) h3 h4
theorem go_in {n:NT} {s:Sit} {S:AS} {a:Act} {ops:List Oper} {k t:Nat} {rest:List Nat} {o:Oper} {x:AV} {Q:Go.Exit->Act->World->Prop} (hs:SR n s S a) (ho:ops[k]?=some o) (hw:Wd ops S o=some true) (hnd:kW o=true)
    (hd:o.dst=some t) (ht:Nat.blt t n.n=true) (hy:bP P o S x)
    (h:∀ s' a',SR n s' ⟨upd S.sl t (some x),S.hp⟩ a'->Fr s S.hp s' S.hp->wpOpsIn Fence.wide 0 P ops.toArray Q rest a' s'.w):wpOpsIn Fence.wide 0 P ops.toArray Q (k :: rest) a s.w:=by
  unfold wpOpsIn
  rw [show ops.toArray[k]?=some o by simpa using ho]
  simp only [nC hs hw,if_true]
  refine (G8 (rd:=false)).oper hnd (hy s a _ _ hs.heap (hs.opers o) (λ_ h=>h.elim) ?_)
  rintro s' v y H' ⟨rfl,rfl⟩ hv hH' hf _
  have:=(hs.fr hH' hf).put (d:=o.dst) (by rw [hd];simpa [kU] using ht) hv
  rw [hd] at this ⊢
  exact h s' _ this hf
theorem aFP {ops:List Oper} {Q:Go.Exit->Act->World->Prop} {a:Act} {w:World} (h:Q .normal a w):wpOpsIn Fence.wide 0 P ops.toArray Q [] a w:=h
theorem aF9 {n:NT} {s:Sit} {S:AS} {a:Act} {ops:List Oper} {k t y xt:Nat} {rest:List Nat} {o:Oper} {x:AV} {l:Nat} {fn:FuncId} {tmps:Array Value} {p:Tmp} {assign body:Code} {D:Nat} {ts:Array TypeId} {J':AH->Prop} {Q:Go.Exit->Act->World->Prop}
    (hs:SR n s S a) (hok:ops[k]?=some o) (hg:o.guard=none) (ho:o.op=.call { callee:=.value (.tmp y),args:=#[.tmp xt],argTypes:=ts }) (hd:o.dst=some t) (ht:Nat.blt t n.n=true)
    (hy:S.sl y=some (.sc (.func (.yield l) #[] #[]))) (hx:S.sl xt=some x) (hn:kR s l (.loop (nU fn tmps p assign body D)))
    (hr:∀ v,VR s x v->RoundIn Fence.wide 0 P l fn (xH p v tmps) assign body s.w (λe w'=>∃ s2 H2,e=.returned (.bool true)/\w'=s2.w/\J' H2/\HR s2 H2/\Fr s S.hp s2 H2))
    (h:∀ s' a' H',J' H'->SR n s' ⟨upd S.sl t (some (aB true)),H'⟩ a'->Fr s S.hp s' H'->wpOpsIn Fence.wide 0 P ops.toArray Q rest a' s'.w):wpOpsIn Fence.wide 0 P ops.toArray Q (k :: rest) a s.w:=by
  have hw:Wd ops S o=some true:=by unfold Wd;rw [hg]
  unfold wpOpsIn
  rw [show ops.toArray[k]?=some o by simpa using hok]
  simp only [nC hs hw,if_true]
  have hev:a.eval (.tmp y)=.func (.yield l) #[] #[]:=(rH (o:=.tmp y) hs hy).eZ
  have hxv:=rH (o:=.tmp xt) hs hx
  have hrun:(execOp a.eval o).run P s.w=.ok (.round l fn (xH p (a.eval (.tmp xt)) tmps) assign body) s.w:=by
    have:=run_yield (P:=P) (args:=#[a.eval (.tmp xt)]) hn.at' (by simp)
    simp only [execOp,ho,resolve,hev,Deferred.ofValue,Sem.run_bind,Sem.run_pure,Result.andThen_ok,invoke]
    simpa [IW] using this
  refine ⟨λ_ _=>trivial,?_⟩
  rw [Oper.semAt_eq _ _ _ (by intro c;rw [ho];simp),hrun,Oper.uponIn_round]
  refine ⟨(λh=>by cases h),(hr _ hxv).mono ?_⟩
  rintro e w' ⟨s2,H2,rfl,rfl,hj,hH2,hf⟩
  have:=(hs.fr hH2 hf).put (d:=o.dst) (x:=aB true) (v:=.bool true) (by rw [hd];simpa [kU] using ht) (.sc _)
  rw [hd] at this ⊢
  exact h s2 _ H2 hj this hf
end
theorem sr0 {fn:Func} {args:List AV} {s:Sit} {H:AH} {vs:Array Value} (hH:HR s H) (ha:mD s args vs) (hle:Nat.ble args.length fn.ntmps=true) :
    SR ⟨fn.ntmps,false,[]⟩ s ⟨λt=>args[t]?,H⟩ { tmps:=vs++Array.replicate (fn.ntmps-vs.size) undef,defers:=[] }:=by
  have hle:=Nat.le_of_ble_eq_true hle
  refine ⟨by simp [<- ha.1];omega,rfl,λt x hx=>?_,hH⟩
  have ht:t<vs.size:=by rw [<- ha.1];exact (List.getElem?_eq_some_iff.1 hx).1
  exact ⟨vs[t],by simp [Array.getElem?_append_left ht,ht],ha.2 t x _ hx (by simp [ht])⟩
theorem SR.xY {n:NT} {s:Sit} {S:AS} {a:Act} (h:SR n s S a) (L:List (Nat×AV)) (H:AH) (hH:S.hp=H) (hl:∀ t x,kn L t=some x->S.sl t=some x):SR n s ⟨kn L,H⟩ a :=
  ⟨h.size,h.defers,λt x hx=>h.slot t x (hl t x hx),hH ▸ h.heap⟩
theorem aEU {α:Type} (l:List α) (m:Nat):(l.take (if (m:Int)<(l.length:Int) then (m:Int) else (l.length:Int)).toNat).drop 0=l.take m:=by
  rw [List.drop_zero]
  by_cases h:(m:Int)<(l.length:Int)
  · rw [if_pos h];simp
  · rw [if_neg h,Int.toNat_natCast,List.take_length,List.take_of_length_le (by omega)]
def sP (f:Nat->Option AV):List (Nat×AV)->Prop
  | []=>True
  | (t,v) :: r=>f t=some v/\sP f r
theorem vF {f:Nat->Option AV}:∀ {L:List (Nat×AV)},sP f L->∀ t x,kn L t=some x->f t=some x
  | [],_,t,x,h=>by cases h
  | (t',v) :: r,hk,t,x,h=>by
    unfold kn at h
    by_cases e:t=t'
    · subst e;rw [upd_same] at h;cases h;exact hk.1
    · rw [upd_ne _ _ e] at h;exact vF hk.2 t x h
theorem R6 {s:Sit} {H H':AH} (h:HR s H) (hs:∀ t v,H' t=some v->H t=some v):HR s H' :=
  ⟨λid o ho=>h.obj id o (hs id o ho),λi i' o o' m m' a b=>h.jB i i' o o' m m' (hs _ _ a) (hs _ _ b),h.im,h.fin⟩
theorem U1 {s s':Sit} {H H1 H':AH} (h:Fr s H s' H1) (hs:∀ t v,H' t=some v->H1 t=some v):Fr s H s' H' :=
  ⟨h.os,h.tape,h.output,h.size,h.keep,h.jV,h.jD,λb hb ⟨id,o,m,a,r⟩=>h.own b hb ⟨id,o,m,hs _ _ a,r⟩,h.vals,h.lT⟩
theorem VU {H:AH} {ob:bA} (h:H 777=none):∀ t v,H t=some v->upd H 777 (some ob) t=some v:=λt v hv=>by
  by_cases e:t=777
  · subst e;rw [h] at hv;cases hv
  · rw [upd_ne _ _ e];exact hv
theorem aLY {P:Program} {fn:Func} {tmps:Array Value} {w:World} (h:fn.results=#[]):(results fn tmps).run P w=.ok (.tuple #[]) w:=by
  rw [JP,h,Sem.run_bind,Array.mapM_eq_mapM_toList]
  simp [Sem.run_map,Sem.run_pure,Result.andThen_ok]
theorem aET {n:NT} {s:Sit} {S:AS} {a:Act} (hs:SR n s S a) (i6 i20:Nat) (e:TypeId) (sz:Nat) {ob:bA} (h6:S.hp i6=some ob) (hr:ob.rows=[[.sc (.slice none 0 0)]]) (hid:S.hp i20=none) :
    ∃ s' C,s'.w=s.w/\SR n s' ⟨S.sl,upd (upd S.hp i20 (some ⟨e,sz,true,true,C,[]⟩)) i6 (some { ob with rows:=[[.sl i20 C 0 0]] })⟩ a /\
      Fr s S.hp s' (upd (upd S.hp i20 (some ⟨e,sz,true,true,C,[]⟩)) i6 (some { ob with rows:=[[.sl i20 C 0 0]] })):=by
  obtain ⟨C,hC⟩:=hs.heap.fin
  obtain ⟨s',g1,g2,g3,g4,g5⟩:=rR hs.heap i20 ⟨e,sz,true,true,C,[]⟩ (hC C (Nat.le_refl _)) rfl (.inl hid)
  have hne:i6≠i20:=λh=>by rw [h,hid] at h6;cases h6
  have h6':upd S.hp i20 (some ⟨e,sz,true,true,C,[]⟩) i6=some ob:=by rw [upd_ne _ _ hne];exact h6
  have hus:s'.used C:=by rw [g2];exact .inr rfl
  have hown:∀ b,jX s' (upd (upd S.hp i20 (some ⟨e,sz,true,true,C,[]⟩)) i6 (some { ob with rows:=[[.sl i20 C 0 0]] })) b->jX s' (upd S.hp i20 (some ⟨e,sz,true,true,C,[]⟩)) b:=by
    rintro b ⟨id,o,m,q1,q2,q3⟩
    by_cases hi:id=i6
    · subst hi
      rw [upd_same] at q1;cases q1
      exact ⟨id,ob,m,h6',q2,q3⟩
    · rw [upd_ne _ _ hi] at q1
      exact ⟨id,o,m,q1,q2,q3⟩
  have hH:HR s' (upd (upd S.hp i20 (some ⟨e,sz,true,true,C,[]⟩)) i6 (some { ob with rows:=[[.sl i20 C 0 0]] })):=by
    refine ⟨?_,?_,g4.im,g4.fin⟩
    · intro id o ho
      by_cases hi:id=i6
      · subst hi
        rw [upd_same] at ho;cases ho
        obtain ⟨m,hm⟩:=g4.obj id ob h6'
        refine ⟨m,⟨hm.hm,hm.bK,hm.hsz,hm.hk,?_⟩⟩
        rcases hm.body with ⟨_,q⟩ | ⟨cur,fr,hb⟩
        · rw [hr] at q;cases q
        · have hlen:=hb.hlen
          have hrl:=hb.hr
          have hvl:=hb.hv
          rw [hr] at hlen hrl hvl
          refine .inr ⟨cur,fr,⟨hb.hnil,hb.hb,hb.hfr,hb.happ,hb.hcs,hb.hct,hlen,?_,?_,hb.h1,hb.him,hb.iW⟩⟩
          · intro i r h
            match i with
            | 0=>simp at h;subst h;exact hrl 0 [.sc (.slice none 0 0)] rfl
            | i+1=>simp at h
          · intro i r j x v h1 h2 h3
            match i with
            | 0 =>
              simp at h1;subst h1
              match j with
              | 0 =>
                simp at h2;subst h2
                have:=(hvl 0 [.sc (.slice none 0 0)] 0 (.sc (.slice none 0 0)) v rfl rfl h3).eZ
                subst this
                refine .sl hus rfl λm' hm' _=>?_
                rw [g3] at hm';cases hm'
                exact ⟨λ_=>⟨rfl,rfl⟩,λh=>by cases h⟩
              | j+1=>simp at h2
            | i+1=>simp at h1
      · rw [upd_ne _ _ hi] at ho
        exact g4.obj id o ho
    · intro i i' o o' m m' h1 h2
      have k1:∃ o1,upd S.hp i20 (some ⟨e,sz,true,true,C,[]⟩) i=some o1:=by
        by_cases hi:i=i6
        · subst hi;exact ⟨_,h6'⟩
        · rw [upd_ne _ _ hi] at h1;exact ⟨_,h1⟩
      have k2:∃ o1,upd S.hp i20 (some ⟨e,sz,true,true,C,[]⟩) i'=some o1:=by
        by_cases hi:i'=i6
        · subst hi;exact ⟨_,h6'⟩
        · rw [upd_ne _ _ hi] at h2;exact ⟨_,h2⟩
      obtain ⟨_,k1⟩:=k1
      obtain ⟨_,k2⟩:=k2
      exact g4.jB i i' _ _ m m' k1 k2
  exact ⟨s',C,g1,⟨hs.size,hs.defers,λt x hx=>let ⟨v,q1,q2⟩:=hs.slot t x hx;⟨v,q1,g5.vals _ _ q2⟩,hH⟩,
    ⟨g5.os,g5.tape,g5.output,g5.size,g5.keep,g5.jV,g5.jD,λb hb h=>g5.own b hb (hown b h),g5.vals,g5.lT⟩⟩
theorem UG {P:Program} {n:NT} {Q0:Go.Exit->AS->Prop} {c:Code} {S:AS} (h:bX P n (QQ P n Q0 []) [c] S):Tr P n c S Q0:=Tr.mono (lQ h) λe S h=>by simpa [QQ] using h
def zB (H:AH):List (Nat×bA)->Prop
  | []=>True
  | (t,v) :: r=>H t=some v/\zB H r
theorem IK {H:AH}:∀ {L:List (Nat×bA)},zB H L->∀ t x,hk L t=some x->H t=some x
  | [],_,t,x,h=>by cases h
  | (t',v) :: r,hk',t,x,h=>by
    unfold hk at h
    by_cases e:t=t'
    · subst e;rw [upd_same] at h;cases h;exact hk'.1
    · rw [upd_ne _ _ e] at h;exact IK hk'.2 t x h
theorem SR.kh {n:NT} {s0 s:Sit} {H0:AH} {S:AS} {a:Act} (h:SR n s S a) (hf:Fr s0 H0 s S.hp) (L:List (Nat×AV)) (M:List (Nat×bA)) (hl:sP S.sl L) (hm:zB S.hp M):SR n s ⟨kn L,hk M⟩ a/\Fr s0 H0 s (hk M) :=
  ⟨⟨h.size,h.defers,λt x hx=>h.slot t x (vF hl t x hx),R6 h.heap (IK hm)⟩,U1 hf (IK hm)⟩
end Go.Pv
