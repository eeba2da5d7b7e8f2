import Derived.Test.YthgpghgfehcegaaGreatPvAI
set_option linter.unusedVariables false
set_option linter.unusedSimpArgs false
namespace Go.Pv
def Sit.put (s:Sit) (l:Nat) (o:Obj):Sit:={ s with w:=s.w.putObj l o }
def DL:Obj->Bool
  | .cells ..=>false
  | _=>true
structure fQ (s:Sit) (l:Nat) (o:Obj):Prop where
  im:¬ s.Im l
  at':s.w.heap[l]?=some o
  nc:DL o=true
section
variable {P:Program} {s s' s1 s3:Sit} {H H' H1 H2:AH} {l:Nat} {o o1 o2:Obj}
theorem fQ.lt (h:fQ s l o):l<s.w.heap.size:=(Array.getElem?_eq_some_iff.1 h.at').1
theorem fQ.RU (h:fQ s l o) (hH:HR s H) {id:Nat} {ob:bC} {m:Mu} (h1:H id=some ob) (h2:s.mu id=some m) (h3:m.nil=false):m.b≠l:=by
  intro e
  obtain ⟨m',hm'⟩:=hH.obj id ob h1
  have e':m'=m:=by have:=hm'.hm.symm.trans h2;simpa using this
  subst e'
  rcases hm'.body with ⟨q,_⟩ | ⟨cur,fr,hb⟩
  · rw [q] at h3;cases h3
  · have:=hb.hb;rw [e,h.at'] at this
    cases this
    have:=h.nc
    simp [DL] at this
theorem fQ.no (h:fQ s l o) (hH:HR s H):¬ iA s H l:=λ⟨_,_,_,q1,_,q3,q4,q5⟩=>h.RU hH q1 q3 q4 q5
theorem fQ.put (h:fQ s l o) (hH:HR s H) (o':Obj):HR (s.put l o') H/\∀ x v,VR s x v->VR (s.put l o') x v:=by
  refine qA hH (s.w.putObj l o') (by simp) λj hj=>World.putObj_heap_other λe=>?_
  rcases hj with hj | ⟨id,ob,m,q1,q2,q3,q4⟩
  · exact h.im (e ▸ hj)
  · exact h.RU hH q1 q2 q3 (q4.trans e)
theorem fQ.xW (h:fQ s l o) {o':Obj} (hc:DL o'=true):fQ (s.put l o') l o':=⟨h.im,World.putObj_heap_same h.lt,hc⟩
theorem fQ.fr (h:fQ s l o) (hH:HR s H) (hf:Fr s H s' H'):fQ s' l o:=⟨λhi=>h.im (hf.fU l h.lt (h.no hH) hi),(hf.keep l h.lt (h.no hH)).trans h.at',h.nc⟩
theorem aWS (h1:Fr s H s1 H1) (hH1:HR s1 H1) (hn1:fQ s1 l o) (h2:Fr (s1.put l o1) H1 s3 H2) (hH3:HR s3 H2) (hn3:fQ s3 l o1) (ho:s.w.heap[l]?=some o):Fr s H (s3.put l o) H2 where
  os:=h2.os.trans h1.os
  tape:=h2.tape.trans h1.tape
  output:=h2.output.trans h1.output
  size:=by
    have a:=h1.size
    have b:=h2.size
    simp only [Sit.put,World.putObj_size] at b ⊢
    omega
  keep:=λb hb hno=>by
    by_cases e:b=l
    · subst e
      exact (World.putObj_heap_same hn3.lt).trans ho.symm
    · have hb1:b<(s1.put l o1).w.heap.size:=by
        have a:=h1.size
        simp only [Sit.put,World.putObj_size];omega
      exact (World.putObj_heap_other e).trans ((h2.keep b hb1 λh=>hno (h1.own b hb h)).trans ((World.putObj_heap_other e).trans (h1.keep b hb hno)))
  gM:=λb h=>h2.gM b (h1.gM b h)
  fU:=λb hb hno h=>h1.fU b hb hno (h2.fU b (by have a:=h1.size;simp only [Sit.put,World.putObj_size];omega) (λh'=>hno (h1.own b hb h')) h)
  own:=λb hb h=>h1.own b hb (h2.own b (by have a:=h1.size;simp only [Sit.put,World.putObj_size];omega) h)
  vals:=λx v h=>(hn3.put hH3 o).2 x v (h2.vals x v ((hn1.put hH1 o1).2 x v (h1.vals x v h)))
  iC:=λk h=>h2.iC k (h1.iC k h)
theorem RB (h1:Fr s H s1 H1) (hH1:HR s1 H1) (hn1:fQ s1 l o) (hl:s.w.heap.size<=l):Fr s H (s1.put l o1) H1 where
  os:=h1.os
  tape:=h1.tape
  output:=h1.output
  size:=by have a:=h1.size;simp only [Sit.put,World.putObj_size];omega
  keep:=λb hb hno=>(World.putObj_heap_other (by omega)).trans (h1.keep b hb hno)
  gM:=h1.gM
  fU:=h1.fU
  own:=h1.own
  vals:=λx v h=>(hn1.put hH1 o1).2 x v (h1.vals x v h)
  iC:=h1.iC
def Sit.al (s:Sit) (o:Obj):Sit:={ s with w:=s.w.alloc o }
theorem LB (hH:HR s H) (o:Obj):HR (s.al o) H/\(∀ x v,VR s x v->VR (s.al o) x v)/\Fr s H (s.al o) H:=by
  have hold:∀ j,j<s.w.heap.size->(s.w.alloc o).heap[j]?=s.w.heap[j]?:=λj hj=>alloc_old s.w _ j hj
  obtain ⟨g1,g2⟩:=qA hH (s.w.alloc o) (by simp) (λj hj=>hold j (by
    rcases hj with hj | ⟨id,ob,m,q1,q2,q3,q4⟩
    · exact hH.im j hj
    · obtain ⟨m',hm'⟩:=hH.obj id ob q1
      have e:m'=m:=by have:=hm'.hm.symm.trans q2;simpa using this
      subst e
      rcases hm'.body with ⟨q,_⟩ | ⟨cur,fr,hb⟩
      · rw [q] at q3;cases q3
      · have:=hb.hb;rw [q4] at this
        exact (Array.getElem?_eq_some_iff.1 this).1))
  exact ⟨g1,g2,⟨rfl,rfl,rfl,by simp [Sit.al],λb hb _=>hold b hb,λ_ h=>h,λ_ _ _ h=>h,λ_ _ h=>h,g2,λ_ h=>h⟩⟩
theorem OS (hH:HR s H) {o:Obj} (hc:DL o=true):fQ (s.al o) s.w.heap.size o:=⟨λhi=>absurd (hH.im _ hi) (Nat.lt_irrefl _),aQQ s.w o,hc⟩
end
abbrev aSA (p:Tmp) (v:Value) (tmps:Array Value):Array Value:=((#[p]:Array Tmp).zip #[v]).foldl (λt (p,a)=>t.setIfInBounds p a) tmps
abbrev mk (D:Nat):Deferred:={ target:=.collected D,args:=#[] }
section
variable {P:Program} {l D p:Nat} {fn:FuncId} {tmps:Array Value} {assign body:Code} {s:Sit} {H:AH} {x:AV} {v:Value}
end
section
variable {P:Program}
theorem go_in {n:NT} {s:Sit} {S:AS} {a:Act} {ops:List Oper} {k t:Nat} {rest:List Nat} {o:Oper} {x:AV} {Q:Go.Exit->Act->World->Prop} (hs:SR n s S a) (ho:ops[k]?=some o) (hw:Wd ops S o=some true) (hnd:iD o=true)
    (hd:o.dst=some t) (ht:Nat.blt t n.n=true) (hy:bJ P o S x)
    (h:∀ s' a',SR n s' ⟨upd S.sl t (some x),S.hp⟩ a'->Fr s S.hp s' S.hp->wpOpsIn Fence.wide 0 P ops.toArray Q rest a' s'.w):wpOpsIn Fence.wide 0 P ops.toArray Q (k :: rest) a s.w:=by
  unfold wpOpsIn
  rw [show ops.toArray[k]?=some o by simpa using ho]
  simp only [jS hs hw,if_true]
  refine (EX (rd:=false)).oper hnd (hy s a _ _ hs.heap (hs.opers o) (λ_ h=>h.elim) ?_)
  rintro s' v y H' ⟨rfl,rfl⟩ hv hH' hf _
  have:=(hs.fr hH' hf).put (d:=o.dst) (by rw [hd];simpa [gX] using ht) hv
  rw [hd] at this ⊢
  exact h s' _ this hf
theorem VO {ops:List Oper} {Q:Go.Exit->Act->World->Prop} {a:Act} {w:World} (h:Q .normal a w):wpOpsIn Fence.wide 0 P ops.toArray Q [] a w:=h
end
theorem sr0 {fn:Func} {args:List AV} {s:Sit} {H:AH} {vs:Array Value} (hH:HR s H) (ha:jI s args vs) (hle:Nat.ble args.length fn.ntmps=true) :
    SR ⟨fn.ntmps,false,[]⟩ s ⟨λt=>args[t]?,H⟩ { tmps:=vs++Array.replicate (fn.ntmps-vs.size) undef,defers:=[] }:=by
  have hle:=Nat.le_of_ble_eq_true hle
  refine ⟨by simp [<- ha.1];omega,rfl,λt x hx=>?_,hH⟩
  have ht:t<vs.size:=by rw [<- ha.1];exact (List.getElem?_eq_some_iff.1 hx).1
  exact ⟨vs[t],by simp [Array.getElem?_append_left ht,ht],ha.2 t x _ hx (by simp [ht])⟩
theorem SR.knw {n:NT} {s:Sit} {S:AS} {a:Act} (h:SR n s S a) (L:List (Nat×AV)) (H:AH) (hH:S.hp=H) (hl:∀ t x,kn L t=some x->S.sl t=some x):SR n s ⟨kn L,H⟩ a :=
  ⟨h.size,h.defers,λt x hx=>h.slot t x (hl t x hx),hH ▸ h.heap⟩
def Q6 (f:Nat->Option AV):List (Nat×AV)->Prop
  | []=>True
  | (t,v) :: r=>f t=some v/\Q6 f r
theorem RJ {f:Nat->Option AV}:∀ {L:List (Nat×AV)},Q6 f L->∀ t x,kn L t=some x->f t=some x
  | [],_,t,x,h=>by cases h
  | (t',v) :: r,hk,t,x,h=>by
    unfold kn at h
    by_cases e:t=t'
    · subst e;rw [upd_same] at h;cases h;exact hk.1
    · rw [upd_ne _ _ e] at h;exact RJ hk.2 t x h
theorem aEF {s:Sit} {H H':AH} (h:HR s H) (hs:∀ t v,H' t=some v->H t=some v):HR s H' :=
  ⟨λid o ho=>h.obj id o (hs id o ho),λi i' o o' m m' a b=>h.iB i i' o o' m m' (hs _ _ a) (hs _ _ b),h.im,h.fin⟩
theorem ZS {s s':Sit} {H H1 H':AH} (h:Fr s H s' H1) (hs:∀ t v,H' t=some v->H1 t=some v):Fr s H s' H' :=
  ⟨h.os,h.tape,h.output,h.size,h.keep,h.gM,h.fU,λb hb ⟨id,o,m,a,r⟩=>h.own b hb ⟨id,o,m,hs _ _ a,r⟩,h.vals,h.iC⟩
theorem PS {H:AH} {ob:bC} (h:H 777=none):∀ t v,H t=some v->upd H 777 (some ob) t=some v:=λt v hv=>by
  by_cases e:t=777
  · subst e;rw [h] at hv;cases hv
  · rw [upd_ne _ _ e];exact hv
theorem TH {P:Program} {fn:Func} {tmps:Array Value} {w:World} (h:fn.results=#[]):(results fn tmps).run P w=.ok (.tuple #[]) w:=by
  rw [HZ,h,Sem.run_bind,Array.mapM_eq_mapM_toList]
  simp [Sem.run_map,Sem.run_pure,Result.andThen_ok]
section
variable {P:Program} {n:NT} {ops:List Oper} {rdl kpl:Nat->List Nat} {bm:List Nat} {L:Nat} {K:AS->Prop}
end
section
variable {P:Program} {n:NT} {S:AS} {ops:List Oper} {o:Oper}
variable {Q0:Go.Exit->AS->Prop} {st:List Fm} {cs:List Code}
end
set_option maxRecDepth 100000
section
variable {P:Program} {l D p:Nat} {fn:FuncId} {tmps:Array Value} {assign body:Code} {s:Sit} {H:AH} {x:AV} {v:Value}
end
section
variable {P:Program}
theorem KD {fn:Func} {a:Act} {n0:NT} {S':AS} {s:Sit} {H:AH} {RR:Ending->World->Prop} (fin:∀ s'':Sit,SR n0 s'' S' a->Fr s H s'' S'.hp->∃ v,(results fn a.tmps).run P s''.w=.ok v s''.w/\RR (.returned v) s''.w) :
    ∀ (Ds:List Nat) (s':Sit),SR n0 s' S' a->Fr s H s' S'.hp->(∀ D∈Ds,s.w.heap.size<=D)->Ds.Nodup->(∀ D∈Ds,fQ s' D (.deferred (some [])))->LeavesInM Fence.wide 0 P fn a.tmps RR (Ds.map mk) .returning s'.w
  | [],s',hs,hf,_,_,_=>by
    obtain ⟨v,h1,h2⟩:=fin s' hs hf
    exact ⟨v,h1,h2⟩
  | D :: Ds,s',hs,hf,hD,hnd,hn=>by
    have hn0:=hn D (List.mem_cons_self ..)
    have gp:=hn0.put hs.heap (.deferred none)
    have hs2:SR n0 (s'.put D (.deferred none)) S' a:=⟨hs.size,hs.defers,λt y hy=>let ⟨u,h1,h2⟩:=hs.slot t y hy;⟨u,h1,gp.2 _ _ h2⟩,gp.1⟩
    have hf2:Fr s H (s'.put D (.deferred none)) S'.hp:=RB hf hs.heap hn0 (hD D (List.mem_cons_self ..))
    rw [List.nodup_cons] at hnd
    have ih:=KD fin Ds (s'.put D (.deferred none)) hs2 hf2 (λx hx=>hD x (List.mem_cons_of_mem _ hx)) hnd.2 (λx hx=>by
      have h1:=hn x (List.mem_cons_of_mem _ hx)
      have hne:x≠D:=λe=>hnd.1 (e ▸ hx)
      exact ⟨h1.im,(World.putObj_heap_other hne).trans h1.at',rfl⟩)
    exact ⟨by simp,.inl ⟨D,(s'.put D (.deferred none)).w,rfl,run_takeDeferred hn0.at',ih⟩⟩
theorem ZO {f:FuncId} {fn:Func} {c:Code} {args:List AV} {H:AH} {R:AV->AH->Prop} (hf:P.funcs[f]?=some fn) (hb:fn.body=some c) (hle:Nat.ble args.length fn.ntmps=true)
    (h:∀ s a,SR ⟨fn.ntmps,false,[]⟩ s ⟨λt=>args[t]?,H⟩ a->c.wpIn Fence.wide 0 P (λe a' w'=>e=.ret/\∃ (S':AS) (s':Sit) (Ds:List Nat) (vs:List AV) (H2:AH),w'=s'.w/\SR ⟨fn.ntmps,false,Ds.map mk⟩ s' S' a'/\Fr s H s' S'.hp/\(∀ D∈Ds,s.w.heap.size<=D)/\Ds.Nodup /\
      (∀ D∈Ds,fQ s' D (.deferred (some [])))/\jB P S' fn.results.toList vs/\(∀ t v,H2 t=some v->S'.hp t=some v)/\R (lT vs) H2) a s.w):PC P f args H R:=by
  intro s vs hH ha
  have hle:=Nat.le_of_ble_eq_true hle
  refine callsIn_wide.1 (callsIn_of_wp_marks (n:=0) hf hb trivial ?_)
  have hs:SR ⟨fn.ntmps,false,[]⟩ s ⟨λt=>args[t]?,H⟩ { tmps:=vs++Array.replicate (fn.ntmps-vs.size) undef,defers:=[] }:=by
    refine ⟨by simp [<- ha.1];omega,rfl,λt x hx=>?_,hH⟩
    have ht:t<vs.size:=by rw [<- ha.1];exact (List.getElem?_eq_some_iff.1 hx).1
    exact ⟨vs[t],by simp [Array.getElem?_append_left ht,ht],ha.2 t x _ hx (by simp [ht])⟩
  refine wpIn_mono (h s _ hs) ?_
  rintro e a w' ⟨rfl,S',s',Ds,us,H2,rfl,hs',hf',hD,hnd,hn,hr,hsub,hR⟩
  have hd:a.defers=Ds.map mk:=hs'.defers
  show LeavesInM Fence.wide 0 P fn a.tmps _ a.defers .returning s'.w
  rw [hd]
  refine KD (λs'' hs2 hf2=>?_) Ds s' hs' hf' hD hnd hn
  obtain ⟨xs,h1,h2,h3⟩:=hr.run hs2
  have hres:∃ v,VR s'' (lT us) v/\(results fn a.tmps).run P s''.w=.ok v s''.w:=by
    have hrun:(fn.results.mapM (wB a.tmps)).run P s''.w=.ok xs.toArray s''.w:=by
      rw [Array.mapM_eq_mapM_toList]
      simp only [Sem.run_map,h3,Result.andThen_ok]
    rw [HZ,Sem.run_bind,hrun]
    simp only [Result.andThen_ok]
    match us,xs,h1,h2 with
    | [u],[x],_,h2=>exact ⟨x,h2 0 u x rfl rfl,rfl⟩
    | [],[],_,_=>exact ⟨.tuple #[],.aU rfl (by simp),rfl⟩
    | u1 :: u2 :: ur,x1 :: x2 :: xr,h1,h2=>exact ⟨.tuple (x1 :: x2 :: xr).toArray,.aU (by simpa using h1.symm) (by simpa using h2),by simp⟩
  obtain ⟨v,g1,g2⟩:=hres
  have hH2:HR s'' H2:=⟨λid o ho=>hs2.heap.obj id o (hsub id o ho),λi i' o o' m m' a b=>hs2.heap.iB i i' o o' m m' (hsub _ _ a) (hsub _ _ b),hs2.heap.im,hs2.heap.fin⟩
  have hfr:Fr s H s'' H2:=⟨hf2.os,hf2.tape,hf2.output,hf2.size,hf2.keep,hf2.gM,hf2.fU,λb hb ⟨id,o,m,a,r⟩=>hf2.own b hb ⟨id,o,m,hsub _ _ a,r⟩,hf2.vals,hf2.iC⟩
  exact ⟨v,g2,_,_,_,v,hR,rfl,rfl,g1,hH2,hfr⟩
end
section
variable {P:Program} {n:NT} {S:AS} {o:Oper} {T:TypeId} {x y:Operand} {α:Type}
end
end Go.Pv
