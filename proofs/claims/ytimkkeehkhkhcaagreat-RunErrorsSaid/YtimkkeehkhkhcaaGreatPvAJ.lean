/- A range over a function: its record, its rounds, its end. -/
import Derived.Test.YtimkkeehkhkhcaaGreatPvAI
set_option linter.unusedVariables false
set_option linter.unusedSimpArgs false
namespace Go.Pv
def Sit.put (s:Sit) (l:Nat) (o:Obj):Sit:={ s with w:=s.w.putObj l o }
def BJ:Obj->Bool
  | .cells ..=>false
  | _=>true
structure kF (s:Sit) (l:Nat) (o:Obj):Prop where
  im:¬ s.Im l
  at':s.w.heap[l]?=some o
  nc:BJ o=true
section
variable {P:Program} {s s' s1 s3:Sit} {H H' H1 H2:AH} {l:Nat} {o o1 o2:Obj}
theorem kF.lt (h:kF s l o):l<s.w.heap.size:=(Array.getElem?_eq_some_iff.1 h.at').1
theorem kF.SG (h:kF s l o) (hH:HR s H) {id:Nat} {ob:aW} {m:Mu} (h1:H id=some ob) (h2:s.mu id=some m) (h3:m.nil=false):m.b≠l:=by
  intro e
  obtain ⟨m',hm'⟩:=hH.obj id ob h1
  have e':m'=m:=by have:=hm'.hm.symm.trans h2;simpa using this
  subst e'
  rcases hm'.body with ⟨q,_⟩ | ⟨cur,fr,hb⟩
  · rw [q] at h3;cases h3
  · have:=hb.hb;rw [e,h.at'] at this
    cases this
    have:=h.nc
    simp [BJ] at this
theorem kF.no (h:kF s l o) (hH:HR s H):¬ jY s H l:=λ⟨_,_,_,q1,_,q3,q4,q5⟩=>h.SG hH q1 q3 q4 q5
theorem kF.put (h:kF s l o) (hH:HR s H) (o':Obj):HR (s.put l o') H/\∀ x v,VR s x v->VR (s.put l o') x v:=by
  refine yS hH (s.w.putObj l o') (by simp) λj hj=>World.putObj_heap_other λe=>?_
  rcases hj with hj | ⟨id,ob,m,q1,q2,q3,q4⟩
  · exact h.im (e ▸ hj)
  · exact h.SG hH q1 q2 q3 (q4.trans e)
theorem kF.aLD (h:kF s l o) {o':Obj} (hc:BJ o'=true):kF (s.put l o') l o':=⟨h.im,World.putObj_heap_same h.lt,hc⟩
theorem kF.fr (h:kF s l o) (hH:HR s H) (hf:Fr s H s' H'):kF s' l o:=⟨λhi=>h.im (hf.j4 l h.lt (h.no hH) hi),(hf.keep l h.lt (h.no hH)).trans h.at',h.nc⟩
theorem aCO (h1:Fr s H s1 H1) (hH1:HR s1 H1) (hn1:kF s1 l o) (h2:Fr (s1.put l o1) H1 s3 H2) (hH3:HR s3 H2) (hn3:kF s3 l o1) (ho:s.w.heap[l]?=some o):Fr s H (s3.put l o) H2 where
  os:=h2.os.trans h1.os
  tape:=h2.tape.trans h1.tape
  output:=h2.output.trans h1.output
  size:=by
    have a:=h1.size
    have b:=h2.size
    simp only [Sit.put,World.putObj_size] at b ⊢
    omega
  keep:=λb hb hno=>by
    by_cases e:b=l
    · subst e
      exact (World.putObj_heap_same hn3.lt).trans ho.symm
    · have hb1:b<(s1.put l o1).w.heap.size:=by
        have a:=h1.size
        simp only [Sit.put,World.putObj_size];omega
      exact (World.putObj_heap_other e).trans ((h2.keep b hb1 λh=>hno (h1.own b hb h)).trans ((World.putObj_heap_other e).trans (h1.keep b hb hno)))
  j5:=λb h=>h2.j5 b (h1.j5 b h)
  j4:=λb hb hno h=>h1.j4 b hb hno (h2.j4 b (by have a:=h1.size;simp only [Sit.put,World.putObj_size];omega) (λh'=>hno (h1.own b hb h')) h)
  own:=λb hb h=>h1.own b hb (h2.own b (by have a:=h1.size;simp only [Sit.put,World.putObj_size];omega) h)
  vals:=λx v h=>(hn3.put hH3 o).2 x v (h2.vals x v ((hn1.put hH1 o1).2 x v (h1.vals x v h)))
  lY:=λk h=>h2.lY k (h1.lY k h)
theorem RL (h1:Fr s H s1 H1) (hH1:HR s1 H1) (hn1:kF s1 l o) (hl:s.w.heap.size<=l):Fr s H (s1.put l o1) H1 where
  os:=h1.os
  tape:=h1.tape
  output:=h1.output
  size:=by have a:=h1.size;simp only [Sit.put,World.putObj_size];omega
  keep:=λb hb hno=>(World.putObj_heap_other (by omega)).trans (h1.keep b hb hno)
  j5:=h1.j5
  j4:=h1.j4
  own:=h1.own
  vals:=λx v h=>(hn1.put hH1 o1).2 x v (h1.vals x v h)
  lY:=h1.lY
def Sit.al (s:Sit) (o:Obj):Sit:={ s with w:=s.w.alloc o }
theorem NB (hH:HR s H) (o:Obj):HR (s.al o) H/\(∀ x v,VR s x v->VR (s.al o) x v)/\Fr s H (s.al o) H:=by
  have hold:∀ j,j<s.w.heap.size->(s.w.alloc o).heap[j]?=s.w.heap[j]?:=λj hj=>alloc_old s.w _ j hj
  obtain ⟨g1,g2⟩:=yS hH (s.w.alloc o) (by simp) (λj hj=>hold j (by
    rcases hj with hj | ⟨id,ob,m,q1,q2,q3,q4⟩
    · exact hH.im j hj
    · obtain ⟨m',hm'⟩:=hH.obj id ob q1
      have e:m'=m:=by have:=hm'.hm.symm.trans q2;simpa using this
      subst e
      rcases hm'.body with ⟨q,_⟩ | ⟨cur,fr,hb⟩
      · rw [q] at q3;cases q3
      · have:=hb.hb;rw [q4] at this
        exact (Array.getElem?_eq_some_iff.1 this).1))
  exact ⟨g1,g2,⟨rfl,rfl,rfl,by simp [Sit.al],λb hb _=>hold b hb,λ_ h=>h,λ_ _ _ h=>h,λ_ _ h=>h,g2,λ_ h=>h⟩⟩
theorem LK (hH:HR s H) {o:Obj} (hc:BJ o=true):kF (s.al o) s.w.heap.size o:=⟨λhi=>absurd (hH.im _ hi) (Nat.lt_irrefl _),mZ s.w o,hc⟩
end
abbrev nD (fn:FuncId) (tmps:Array Value) (p:Tmp) (assign body:Code) (D:Nat):Loop:={ state:=.ready,pending:=none,fn,tmps,params:=#[p],assign,body,defers:=D }
abbrev vG (p:Tmp) (v:Value) (tmps:Array Value):Array Value:=((#[p]:Array Tmp).zip #[v]).foldl (λt (p,a)=>t.setIfInBounds p a) tmps
abbrev mk (D:Nat):Deferred:={ target:=.collected D,args:=#[] }
section
variable {P:Program} {l D p:Nat} {fn:FuncId} {tmps:Array Value} {assign body:Code} {s:Sit} {H:AH} {x:AV} {v:Value}
theorem EQ:vG p v tmps=tmps.setIfInBounds p v:=by simp [vG]
theorem aH0 {N:Nat} {f:Nat->Option AV} {J':AH->Prop} (hn:kF s l (.loop (nD fn tmps p assign body D))) (hsz:tmps.size=N) (hsl:∀ t y,f t=some y->∃ u,tmps[t]?=some u/\VR s y u)
    (hp:p<N) (hv:VR s x v) (hH:HR s H)
    (h:Tr P ⟨N,true,[]⟩ assign ⟨upd f p (some x),H⟩ (λe S1=>e=.normal/\Tr P ⟨N,true,[]⟩ body S1 (λe S2=>e=.normal/\J' S2.hp))) :
    RoundIn Fence.wide 0 P l fn (vG p v tmps) assign body s.w (λe w'=>∃ s' H',e=.returned (.bool true)/\w'=s'.w/\J' H'/\HR s' H'/\Fr s H s' H'):=by
  refine roundIn_of_wpIn trivial ?_
  have hs0:SR ⟨N,true,[]⟩ s ⟨upd f p (some x),H⟩ { tmps:=vG p v tmps,defers:=[] }:=by
    refine ⟨by simp [EQ,hsz],rfl,λt y hy=>?_,hH⟩
    simp only [EQ]
    by_cases e:t=p
    · subst e
      simp only [upd_same] at hy
      cases hy
      exact ⟨v,by simp [hsz,hp],hv⟩
    · simp only [upd_ne _ _ e] at hy
      obtain ⟨u,h1,h2⟩:=hsl t y hy
      exact ⟨u,by rw [Array.getElem?_setIfInBounds_ne (Ne.symm e)];exact h1,h2⟩
  refine wpIn_mono (h s _ hs0 _ (wide_round l)) ?_
  rintro e a1 w1 ⟨S1,s1,rfl,⟨rfl,hb⟩,hs1,hf1⟩
  have hn1:=hn.fr hH hf1
  have hb1:=run_beginRound (P:=P) hn1.at' rfl
  refine ⟨_,hb1,?_⟩
  have g1:=hn1.put hs1.heap (.loop { nD fn tmps p assign body D with state:=.busy })
  have hs2:SR ⟨N,true,[]⟩ (s1.put l (.loop { nD fn tmps p assign body D with state:=.busy })) S1 a1:=⟨hs1.size,hs1.defers,λt y hy=>let ⟨u,h1,h2⟩:=hs1.slot t y hy;⟨u,h1,g1.2 _ _ h2⟩,g1.1⟩
  refine wpIn_mono (hb _ a1 hs2 _ (wide_round l)) ?_
  rintro e a2 w2 ⟨S2,s3,rfl,⟨rfl,hj⟩,hs3,hf3⟩
  have hn3:=(hn1.aLD (o':=.loop { nD fn tmps p assign body D with state:=.busy }) rfl).fr g1.1 hf3
  refine ⟨_,_,run_endRound none hn3.at',s3.put l (.loop (nD fn tmps p assign body D)),S2.hp,rfl,rfl,hj,(hn3.put hs3.heap _).1,aCO hf1 hs1.heap hn1 hf3 hs3.heap hn3 hn.at'⟩
def UG (P:Program) (gf:FuncId) (lb xs:List AV):Prop :=
  ∀ (l:Nat) (fn:FuncId) (tmps:Array Value) (p:Tmp) (assign body:Code) (D:Nat) (J:Nat->AH->Prop) (s:Sit) (H:AH) (vs:Array Value),
    HR s H->lX s lb vs->J 0 H->(∀ i H,J i H->H 777=none)->kF s l (.loop (nD fn tmps p assign body D)) ->
    (∀ i x,xs[i]?=some x->∀ s1 H1 v,J i H1->HR s1 H1->VR s1 x v->kF s1 l (.loop (nD fn tmps p assign body D))->Fr s H s1 H1 ->
      RoundIn Fence.wide 0 P l fn (vG p v tmps) assign body s1.w (λe w'=>∃ s2 H2,e=.returned (.bool true)/\w'=s2.w/\J (i+1) H2/\HR s2 H2/\Fr s1 H1 s2 H2)) ->
    Calls P gf (#[.func (.yield l) #[] #[]]++vs) s.w (λe w'=>∃ s' H' v,e=.returned v/\w'=s'.w/\J xs.length H'/\HR s' H'/\Fr s H s' H')
theorem aAO {n:NT} (hn:n.rd=false) {S:AS} {a:Act} {g:Operand} {gf:FuncId} {lb xs:List AV} (hs:SR ⟨n.n,false,[]⟩ s S a) (hg:S.ev g=some (.fn (.func gf) [] lb)) (hc:bD P gf=true) (hit:UG P gf lb xs)
    (J:Nat->AH->Prop) (hJ:J 0 S.hp) (hJ7:∀ i H,J i H->H 777=none) (hp:p<n.n)
    (hr:∀ i x H,xs[i]?=some x->J i H->Tr P ⟨n.n,true,[]⟩ assign ⟨upd S.sl p (some x),H⟩ (λe S1=>e=.normal/\Tr P ⟨n.n,true,[]⟩ body S1 (λe S2=>e=.normal/\J (i+1) S2.hp)))
    {Q:Go.Exit->Act->World->Prop}
    (h:∀ D s' H',J xs.length H'->SR ⟨n.n,false,[mk D]⟩ s' ⟨S.sl,H'⟩ { a with defers:=[mk D] }->Fr s S.hp s' H'->s.w.heap.size<=D->kF s' D (.deferred (some []))->Q .normal { a with defers:=[mk D] } s'.w) :
    (Code.rangeFunc g #[p] assign body).wpIn Fence.wide 0 P Q a s.w:=by
  have hv:=tC hs hg
  generalize hu:a.eval g=u at hv
  cases hv with
  | fn hl hl' hv hv' =>
    rename_i a' c'
    have ha':a'=#[]:=by
      simp only [List.length_nil] at hl
      exact Array.eq_empty_of_size_eq_zero hl.symm
    subst ha'
    refine wpIn_rangeFunc λfn _=>?_
    obtain ⟨g1,g2,g3⟩:=NB hs.heap (.deferred (some []))
    have n1:=LK hs.heap (o:=.deferred (some [])) rfl
    obtain ⟨g4,g5,g6⟩:=NB g1 (.loop (nD fn a.tmps p assign body s.w.heap.size))
    have n2:=LK g1 (o:=.loop (nD fn a.tmps p assign body s.w.heap.size)) rfl
    have n1':=n1.fr g1 g6
    have hsz:(s.al (.deferred (some []))).w.heap.size=s.w.heap.size+1:=by simp [Sit.al]
    rw [hsz] at n2
    have hfr0:=g3.trans g6
    generalize hs2:(s.al (.deferred (some []))).al (.loop (nD fn a.tmps p assign body s.w.heap.size))=s2 at *
    have hw2:s2.w=(s.w.alloc (.deferred (some []))).alloc (.loop (nD fn a.tmps p assign body s.w.heap.size)):=by rw [<- hs2];rfl
    refine ⟨s.w.heap.size+1,[mk s.w.heap.size],s2.w,{ target:=.fn (.func gf) c',args:=#[.func (.yield (s.w.heap.size+1)) #[] #[]] },s2.w,gf,
      #[.func (.yield (s.w.heap.size+1)) #[] #[]]++c',s2.w,?_,?_,λ_ _=>trivial,?_,(λh=>by cases h),?_⟩
    · rw [hw2];exact run_enterLoop_outer _ _ _ _ _
    · simp only [resolve,hu]
      simp [go_sem]
    · have:=EG (P:=P) hc (#[.func (.yield (s.w.heap.size+1)) #[] #[]]++c') s2.w
      simp [invoke,go_sem,this]
    · refine callsIn_wide.2 ((hit (s.w.heap.size+1) fn a.tmps p assign body s.w.heap.size J s2 S.hp c' g4 ⟨hl',λi x v h1 h2=>hfr0.vals _ _ (hv' i x v h1 h2)⟩ hJ hJ7 n2 ?_).mono ?_)
      · intro i x hx s1 H1 v hj hH1 hv1 hn1 hf1
        refine aH0 hn1 hs.size (λt y hy=>?_) hp hv1 hH1 (hr i x H1 hx hj)
        obtain ⟨u,q1,q2⟩:=hs.slot t y hy
        exact ⟨u,q1,hf1.vals _ _ (hfr0.vals _ _ q2)⟩
      · rintro e w' ⟨s3,H3,v,rfl,rfl,hj,hH3,hf3⟩
        have n3:=n2.fr g4 hf3
        have d3:=n1'.fr g4 hf3
        refine ⟨none,_,run_endLoop n3.at' (by simp),?_⟩
        have gp:=n3.put hH3 (.loop { nD fn a.tmps p assign body s.w.heap.size with state:=.exhausted })
        have hfr3:Fr s S.hp (s3.put (s.w.heap.size+1) (.loop { nD fn a.tmps p assign body s.w.heap.size with state:=.exhausted })) H3:=RL (hfr0.trans hf3) hH3 n3 (by omega)
        have hd:a.defers=[]:=hs.defers
        show Q .normal { tmps:=a.tmps,defers:=[mk s.w.heap.size]++a.defers } (s3.w.putObj (s.w.heap.size+1) (.loop { nD fn a.tmps p assign body s.w.heap.size with state:=.exhausted }))
        rw [hd]
        refine h s.w.heap.size (s3.put (s.w.heap.size+1) (.loop { nD fn a.tmps p assign body s.w.heap.size with state:=.exhausted })) H3 hj ⟨hs.size,rfl,λt y hy=>?_,gp.1⟩ hfr3 (Nat.le_refl _)
          ⟨d3.im,(World.putObj_heap_other (by omega)).trans d3.at',rfl⟩
        obtain ⟨u,q1,q2⟩:=hs.slot t y hy
        exact ⟨u,q1,hfr3.vals _ _ q2⟩
end
section
variable {P:Program}
theorem aEY {f:FuncId} {fn:Func} {c:Code} {args:List AV} {H:AH} {R:AV->AH->Prop} (hf:P.funcs[f]?=some fn) (hb:fn.body=some c) (hle:Nat.ble args.length fn.ntmps=true)
    (h:∀ s a,SR ⟨fn.ntmps,false,[]⟩ s ⟨λt=>args[t]?,H⟩ a->c.wpIn Fence.wide 0 P (λe a' w'=>e=.ret/\∃ S' s' D vs H2,w'=s'.w/\SR ⟨fn.ntmps,false,[mk D]⟩ s' S' a'/\Fr s H s' S'.hp/\s.w.heap.size<=D /\
      kF s' D (.deferred (some []))/\kX P S' fn.results.toList vs/\(∀ t v,H2 t=some v->S'.hp t=some v)/\R (l8 vs) H2) a s.w):PC P f args H R:=by
  intro s vs hH ha
  have hle:=Nat.le_of_ble_eq_true hle
  refine callsIn_wide.1 (callsIn_of_wp_marks (n:=0) hf hb trivial ?_)
  have hs:SR ⟨fn.ntmps,false,[]⟩ s ⟨λt=>args[t]?,H⟩ { tmps:=vs++Array.replicate (fn.ntmps-vs.size) undef,defers:=[] }:=by
    refine ⟨by simp [<- ha.1];omega,rfl,λt x hx=>?_,hH⟩
    have ht:t<vs.size:=by rw [<- ha.1];exact (List.getElem?_eq_some_iff.1 hx).1
    exact ⟨vs[t],by simp [Array.getElem?_append_left ht,ht],ha.2 t x _ hx (by simp [ht])⟩
  refine wpIn_mono (h s _ hs) ?_
  rintro e a w' ⟨rfl,S',s',D,us,H2,rfl,hs',hf',hD,hn,hr,hsub,hR⟩
  have hd:a.defers=[mk D]:=hs'.defers
  have gp:=hn.put hs'.heap (.deferred none)
  have hs2:SR ⟨fn.ntmps,false,[mk D]⟩ (s'.put D (.deferred none)) S' a:=⟨hs'.size,hs'.defers,λt y hy=>let ⟨u,h1,h2⟩:=hs'.slot t y hy;⟨u,h1,gp.2 _ _ h2⟩,gp.1⟩
  have hf2:Fr s H (s'.put D (.deferred none)) S'.hp:=RL hf' hs'.heap hn hD
  obtain ⟨xs,h1,h2,h3⟩:=hr.run hs2
  have hres:∃ v,VR (s'.put D (.deferred none)) (l8 us) v/\(results fn a.tmps).run P (s'.put D (.deferred none)).w=.ok v (s'.put D (.deferred none)).w:=by
    have hrun:(fn.results.mapM (wF a.tmps)).run P (s'.put D (.deferred none)).w=.ok xs.toArray (s'.put D (.deferred none)).w:=by
      rw [Array.mapM_eq_mapM_toList]
      simp only [Sem.run_map,h3,Result.andThen_ok]
    rw [I1,Sem.run_bind,hrun]
    simp only [Result.andThen_ok]
    match us,xs,h1,h2 with
    | [u],[x],_,h2=>exact ⟨x,h2 0 u x rfl rfl,rfl⟩
    | [],[],_,_=>exact ⟨.tuple #[],.aM rfl (by simp),rfl⟩
    | u1 :: u2 :: ur,x1 :: x2 :: xr,h1,h2=>exact ⟨.tuple (x1 :: x2 :: xr).toArray,.aM (by simpa using h1.symm) (by simpa using h2),by simp⟩
  obtain ⟨v,g1,g2⟩:=hres
  have hH2:HR (s'.put D (.deferred none)) H2:=⟨λid o ho=>hs2.heap.obj id o (hsub id o ho),λi i' o o' m m' a b=>hs2.heap.jQ i i' o o' m m' (hsub _ _ a) (hsub _ _ b),hs2.heap.im,hs2.heap.fin⟩
  have hfr:Fr s H (s'.put D (.deferred none)) H2:=⟨hf2.os,hf2.tape,hf2.output,hf2.size,hf2.keep,hf2.j5,hf2.j4,λb hb ⟨id,o,m,a,r⟩=>hf2.own b hb ⟨id,o,m,hsub _ _ a,r⟩,hf2.vals,hf2.lY⟩
  show LeavesInM Fence.wide 0 P fn a.tmps _ a.defers .returning s'.w
  rw [hd]
  refine ⟨by simp,.inl ⟨D,(s'.put D (.deferred none)).w,rfl,run_takeDeferred hn.at',?_⟩⟩
  exact ⟨v,g2,_,_,_,v,hR,rfl,rfl,g1,hH2,hfr⟩
theorem tJ {n:NT} {s:Sit} {S:AS} {a:Act} {c:Code} {Q0:Go.Exit->AS->Prop} {Q:Go.Exit->Act->World->Prop} (hs:SR n s S a) (hr:n.rd=false) (h:dI P n (QQ P n Q0 []) [c] S)
    (k:∀ e S' s' a',Q0 e S'->SR n s' S' a'->Fr s S.hp s' S'.hp->Q e a' s'.w):c.wpIn Fence.wide 0 P Q a s.w :=
  wpIn_mono (kY h s a hs _ (hr ▸ HZ)) λe a' w' ⟨S',s',h1,h2,h3,h4⟩=>by subst h1;exact k e S' s' a' (by simpa [QQ] using h2) h3 h4
theorem go_in {n:NT} {s:Sit} {S:AS} {a:Act} {ops:List Oper} {k t:Nat} {rest:List Nat} {o:Oper} {x:AV} {Q:Go.Exit->Act->World->Prop} (hs:SR n s S a) (ho:ops[k]?=some o) (hw:Wd ops S o=some true) (hnd:kN o=true)
    (hd:o.dst=some t) (ht:Nat.blt t n.n=true) (hy:bS P o S x)
    (h:∀ s' a',SR n s' ⟨upd S.sl t (some x),S.hp⟩ a'->Fr s S.hp s' S.hp->wpOpsIn Fence.wide 0 P ops.toArray Q rest a' s'.w):wpOpsIn Fence.wide 0 P ops.toArray Q (k :: rest) a s.w:=by
  unfold wpOpsIn
  rw [show ops.toArray[k]?=some o by simpa using ho]
  simp only [nE hs hw,if_true]
  refine (HZ (rd:=false)).oper hnd (hy s a _ _ hs.heap (hs.opers o) (λ_ h=>h.elim) ?_)
  rintro s' v y H' ⟨rfl,rfl⟩ hv hH' hf _
  have:=(hs.fr hH' hf).put (d:=o.dst) (by rw [hd];simpa [kP] using ht) hv
  rw [hd] at this ⊢
  exact h s' _ this hf
theorem aIS {ops:List Oper} {Q:Go.Exit->Act->World->Prop} {a:Act} {w:World} (h:Q .normal a w):wpOpsIn Fence.wide 0 P ops.toArray Q [] a w:=h
theorem aKL {n:NT} {s:Sit} {S:AS} {a:Act} {ops:List Oper} {k t y xt:Nat} {rest:List Nat} {o:Oper} {x:AV} {l:Nat} {fn:FuncId} {tmps:Array Value} {p:Tmp} {assign body:Code} {D:Nat} {ts:Array TypeId} {J':AH->Prop} {Q:Go.Exit->Act->World->Prop}
    (hs:SR n s S a) (hok:ops[k]?=some o) (hg:o.guard=none) (ho:o.op=.call { callee:=.value (.tmp y),args:=#[.tmp xt],argTypes:=ts }) (hd:o.dst=some t) (ht:Nat.blt t n.n=true)
    (hy:S.sl y=some (.sc (.func (.yield l) #[] #[]))) (hx:S.sl xt=some x) (hn:kF s l (.loop (nD fn tmps p assign body D)))
    (hr:∀ v,VR s x v->RoundIn Fence.wide 0 P l fn (vG p v tmps) assign body s.w (λe w'=>∃ s2 H2,e=.returned (.bool true)/\w'=s2.w/\J' H2/\HR s2 H2/\Fr s S.hp s2 H2))
    (h:∀ s' a' H',J' H'->SR n s' ⟨upd S.sl t (some (aA true)),H'⟩ a'->Fr s S.hp s' H'->wpOpsIn Fence.wide 0 P ops.toArray Q rest a' s'.w):wpOpsIn Fence.wide 0 P ops.toArray Q (k :: rest) a s.w:=by
  have hw:Wd ops S o=some true:=by unfold Wd;rw [hg]
  unfold wpOpsIn
  rw [show ops.toArray[k]?=some o by simpa using hok]
  simp only [nE hs hw,if_true]
  have hev:a.eval (.tmp y)=.func (.yield l) #[] #[]:=(tC (o:=.tmp y) hs hy).gJ
  have hxv:=tC (o:=.tmp xt) hs hx
  have hrun:(execOp a.eval o).run P s.w=.ok (.round l fn (vG p (a.eval (.tmp xt)) tmps) assign body) s.w:=by
    have:=run_yield (P:=P) (args:=#[a.eval (.tmp xt)]) hn.at' (by simp)
    simp only [execOp,ho,resolve,hev,Deferred.ofValue,Sem.run_bind,Sem.run_pure,Result.andThen_ok,invoke]
    simpa [EQ] using this
  refine ⟨λ_ _=>trivial,?_⟩
  rw [Oper.semAt_eq _ _ _ (by intro c;rw [ho];simp),hrun,Oper.uponIn_round]
  refine ⟨(λh=>by cases h),(hr _ hxv).mono ?_⟩
  rintro e w' ⟨s2,H2,rfl,rfl,hj,hH2,hf⟩
  have:=(hs.fr hH2 hf).put (d:=o.dst) (x:=aA true) (v:=.bool true) (by rw [hd];simpa [kP] using ht) (.sc _)
  rw [hd] at this ⊢
  exact h s2 _ H2 hj this hf
end
theorem sr0 {fn:Func} {args:List AV} {s:Sit} {H:AH} {vs:Array Value} (hH:HR s H) (ha:lX s args vs) (hle:Nat.ble args.length fn.ntmps=true) :
    SR ⟨fn.ntmps,false,[]⟩ s ⟨λt=>args[t]?,H⟩ { tmps:=vs++Array.replicate (fn.ntmps-vs.size) undef,defers:=[] }:=by
  have hle:=Nat.le_of_ble_eq_true hle
  refine ⟨by simp [<- ha.1];omega,rfl,λt x hx=>?_,hH⟩
  have ht:t<vs.size:=by rw [<- ha.1];exact (List.getElem?_eq_some_iff.1 hx).1
  exact ⟨vs[t],by simp [Array.getElem?_append_left ht,ht],ha.2 t x _ hx (by simp [ht])⟩
theorem SR.xI {n:NT} {s:Sit} {S:AS} {a:Act} (h:SR n s S a) (L:List (Nat×AV)) (H:AH) (hH:S.hp=H) (hl:∀ t x,kn L t=some x->S.sl t=some x):SR n s ⟨kn L,H⟩ a :=
  ⟨h.size,h.defers,λt x hx=>h.slot t x (hl t x hx),hH ▸ h.heap⟩
theorem aBD {α:Type} (l:List α) (m:Nat):(l.take (if (m:Int)<(l.length:Int) then (m:Int) else (l.length:Int)).toNat).drop 0=l.take m:=by
  rw [List.drop_zero]
  by_cases h:(m:Int)<(l.length:Int)
  · rw [if_pos h];simp
  · rw [if_neg h,Int.toNat_natCast,List.take_length,List.take_of_length_le (by omega)]
def qN (f:Nat->Option AV):List (Nat×AV)->Prop
  | []=>True
  | (t,v) :: r=>f t=some v/\qN f r
theorem uD {f:Nat->Option AV}:∀ {L:List (Nat×AV)},qN f L->∀ t x,kn L t=some x->f t=some x
  | [],_,t,x,h=>by cases h
  | (t',v) :: r,hk,t,x,h=>by
    unfold kn at h
    by_cases e:t=t'
    · subst e;rw [upd_same] at h;cases h;exact hk.1
    · rw [upd_ne _ _ e] at h;exact uD hk.2 t x h
theorem P8 {s:Sit} {H H':AH} (h:HR s H) (hs:∀ t v,H' t=some v->H t=some v):HR s H' :=
  ⟨λid o ho=>h.obj id o (hs id o ho),λi i' o o' m m' a b=>h.jQ i i' o o' m m' (hs _ _ a) (hs _ _ b),h.im,h.fin⟩
theorem RJ {s s':Sit} {H H1 H':AH} (h:Fr s H s' H1) (hs:∀ t v,H' t=some v->H1 t=some v):Fr s H s' H' :=
  ⟨h.os,h.tape,h.output,h.size,h.keep,h.j5,h.j4,λb hb ⟨id,o,m,a,r⟩=>h.own b hb ⟨id,o,m,hs _ _ a,r⟩,h.vals,h.lY⟩
theorem PK {H:AH} {ob:aW} (h:H 777=none):∀ t v,H t=some v->upd H 777 (some ob) t=some v:=λt v hv=>by
  by_cases e:t=777
  · subst e;rw [h] at hv;cases hv
  · rw [upd_ne _ _ e];exact hv
theorem aKP {P:Program} {fn:Func} {tmps:Array Value} {w:World} (h:fn.results=#[]):(results fn tmps).run P w=.ok (.tuple #[]) w:=by
  rw [I1,h,Sem.run_bind,Array.mapM_eq_mapM_toList]
  simp [Sem.run_map,Sem.run_pure,Result.andThen_ok]
theorem YG {n:NT} {s:Sit} {S:AS} {a:Act} (hs:SR n s S a) (i6 i20:Nat) (e:TypeId) (sz:Nat) {ob:aW} (h6:S.hp i6=some ob) (hr:ob.rows=[[.sc (.slice none 0 0)]]) (hid:S.hp i20=none) :
    ∃ s' C,s'.w=s.w/\SR n s' ⟨S.sl,upd (upd S.hp i20 (some ⟨e,sz,true,true,C,[]⟩)) i6 (some { ob with rows:=[[.sl i20 C 0 0]] })⟩ a /\
      Fr s S.hp s' (upd (upd S.hp i20 (some ⟨e,sz,true,true,C,[]⟩)) i6 (some { ob with rows:=[[.sl i20 C 0 0]] })):=by
  obtain ⟨C,hC⟩:=hs.heap.fin
  obtain ⟨s',g1,g2,g3,g4,g5⟩:=qW hs.heap i20 ⟨e,sz,true,true,C,[]⟩ (hC C (Nat.le_refl _)) rfl (.inl hid)
  have hne:i6≠i20:=λh=>by rw [h,hid] at h6;cases h6
  have h6':upd S.hp i20 (some ⟨e,sz,true,true,C,[]⟩) i6=some ob:=by rw [upd_ne _ _ hne];exact h6
  have hus:s'.used C:=by rw [g2];exact .inr rfl
  have hown:∀ b,jY s' (upd (upd S.hp i20 (some ⟨e,sz,true,true,C,[]⟩)) i6 (some { ob with rows:=[[.sl i20 C 0 0]] })) b->jY s' (upd S.hp i20 (some ⟨e,sz,true,true,C,[]⟩)) b:=by
    rintro b ⟨id,o,m,q1,q2,q3⟩
    by_cases hi:id=i6
    · subst hi
      rw [upd_same] at q1;cases q1
      exact ⟨id,ob,m,h6',q2,q3⟩
    · rw [upd_ne _ _ hi] at q1
      exact ⟨id,o,m,q1,q2,q3⟩
  have hH:HR s' (upd (upd S.hp i20 (some ⟨e,sz,true,true,C,[]⟩)) i6 (some { ob with rows:=[[.sl i20 C 0 0]] })):=by
    refine ⟨?_,?_,g4.im,g4.fin⟩
    · intro id o ho
      by_cases hi:id=i6
      · subst hi
        rw [upd_same] at ho;cases ho
        obtain ⟨m,hm⟩:=g4.obj id ob h6'
        refine ⟨m,⟨hm.hm,hm.bP,hm.hsz,hm.hk,?_⟩⟩
        rcases hm.body with ⟨_,q⟩ | ⟨cur,fr,hb⟩
        · rw [hr] at q;cases q
        · have hlen:=hb.hlen
          have hrl:=hb.hr
          have hvl:=hb.hv
          rw [hr] at hlen hrl hvl
          refine .inr ⟨cur,fr,⟨hb.hnil,hb.hb,hb.hfr,hb.happ,hb.hcs,hb.hct,hlen,?_,?_,hb.h1,hb.him,hb.jI⟩⟩
          · intro i r h
            match i with
            | 0=>simp at h;subst h;exact hrl 0 [.sc (.slice none 0 0)] rfl
            | i+1=>simp at h
          · intro i r j x v h1 h2 h3
            match i with
            | 0 =>
              simp at h1;subst h1
              match j with
              | 0 =>
                simp at h2;subst h2
                have:=(hvl 0 [.sc (.slice none 0 0)] 0 (.sc (.slice none 0 0)) v rfl rfl h3).gJ
                subst this
                refine .sl hus rfl λm' hm' _=>?_
                rw [g3] at hm';cases hm'
                exact ⟨λ_=>⟨rfl,rfl⟩,λh=>by cases h⟩
              | j+1=>simp at h2
            | i+1=>simp at h1
      · rw [upd_ne _ _ hi] at ho
        exact g4.obj id o ho
    · intro i i' o o' m m' h1 h2
      have k1:∃ o1,upd S.hp i20 (some ⟨e,sz,true,true,C,[]⟩) i=some o1:=by
        by_cases hi:i=i6
        · subst hi;exact ⟨_,h6'⟩
        · rw [upd_ne _ _ hi] at h1;exact ⟨_,h1⟩
      have k2:∃ o1,upd S.hp i20 (some ⟨e,sz,true,true,C,[]⟩) i'=some o1:=by
        by_cases hi:i'=i6
        · subst hi;exact ⟨_,h6'⟩
        · rw [upd_ne _ _ hi] at h2;exact ⟨_,h2⟩
      obtain ⟨_,k1⟩:=k1
      obtain ⟨_,k2⟩:=k2
      exact g4.jQ i i' _ _ m m' k1 k2
  exact ⟨s',C,g1,⟨hs.size,hs.defers,λt x hx=>let ⟨v,q1,q2⟩:=hs.slot t x hx;⟨v,q1,g5.vals _ _ q2⟩,hH⟩,
    ⟨g5.os,g5.tape,g5.output,g5.size,g5.keep,g5.j5,g5.j4,λb hb h=>g5.own b hb (hown b h),g5.vals,g5.lY⟩⟩
theorem SH {P:Program} {n:NT} {Q0:Go.Exit->AS->Prop} {c:Code} {S:AS} (h:dI P n (QQ P n Q0 []) [c] S):Tr P n c S Q0:=Tr.mono (kY h) λe S h=>by simpa [QQ] using h
def wD (H:AH):List (Nat×aW)->Prop
  | []=>True
  | (t,v) :: r=>H t=some v/\wD H r
theorem GA {H:AH}:∀ {L:List (Nat×aW)},wD H L->∀ t x,hk L t=some x->H t=some x
  | [],_,t,x,h=>by cases h
  | (t',v) :: r,hk',t,x,h=>by
    unfold hk at h
    by_cases e:t=t'
    · subst e;rw [upd_same] at h;cases h;exact hk'.1
    · rw [upd_ne _ _ e] at h;exact GA hk'.2 t x h
theorem SR.kh {n:NT} {s0 s:Sit} {H0:AH} {S:AS} {a:Act} (h:SR n s S a) (hf:Fr s0 H0 s S.hp) (L:List (Nat×AV)) (M:List (Nat×aW)) (hl:qN S.sl L) (hm:wD S.hp M):SR n s ⟨kn L,hk M⟩ a/\Fr s0 H0 s (hk M) :=
  ⟨⟨h.size,h.defers,λt x hx=>h.slot t x (uD hl t x hx),P8 h.heap (GA hm)⟩,RJ hf (GA hm)⟩
end Go.Pv
