/- Walks told by a function in plain Lean: what a piece of code computes, or nothing. -/
import Derived.Test.YtimkkeehkhkhcaaGreatPvT
set_option linter.unusedVariables false
set_option linter.unusedSimpArgs false
namespace Go.Pv
section plain
variable {α β γ δ:Type}
def bnd (x:α) (f:α->Option β):Option β:=f x
theorem bJ {x:α} {f:α->Option β} {r:β} (h:bnd x f=some r):∃ t,x=t/\f t=some r:=⟨x,rfl,h⟩
theorem dD {x:Option α} {f:α->Option β} {r:β} (h:x.bind f=some r):∃ t,x=some t/\f t=some r:=by
  cases x with
  | none=>cases h
  | some t=>exact ⟨t,rfl,h⟩
def cZ (p:Prop) [Decidable p] (k:Option β):Option β:=if p then k else none
theorem dH {p:Prop} [Decidable p] {k:Option β} {r:β} (h:cZ p k=some r):p/\k=some r:=by
  unfold cZ at h;by_cases hp:p
  · rw [if_pos hp] at h;exact ⟨hp,h⟩
  · rw [if_neg hp] at h;cases h
theorem ct {A B:Option β} {r:Option β} (h:cond true A B=r):A=r:=h
theorem cf {A B:Option β} {r:Option β} (h:cond false A B=r):B=r:=h
def esc (x:Option β):Option (α⊕β):=x.map .inr
theorem OS {x:Option β} {j:α⊕β} (h:esc x=some j):∃ c,x=some c/\j=.inr c:=by
  unfold esc at h
  cases x with
  | none=>cases h
  | some c=>simp at h;exact ⟨c,rfl,h.symm⟩
def brk (a:α):Option (α⊕β):=some (.inl a)
theorem aAH {a:α} {j:α⊕β} (h:(brk a:Option (α⊕β))=some j):j=.inl a:=by unfold brk at h;simpa using h.symm
theorem eH {a j:α} (h:some a=some j):a=j:=by simpa using h
def sel (f:α->Option β):α⊕β->Option β
  | .inl a=>f a
  | .inr c=>some c
theorem L4 {f:α->Option β} {c:β} {r:β} (h:sel f (.inr c)=some r):some c=some r:=h
def p2 (f:α->β->γ) (p:α×β):γ:=f p.1 p.2
theorem oU {f:α->β->γ} {a:α} {b:β} {r:γ} (h:p2 f (a,b)=r):f a b=r:=h
def ix (l:List α) (i:Int):Option α:=if i<0 then none else l[i.toNat]?
theorem nR {l:List α} {i:Int} {v:α} (h:ix l i=some v):i=(i.toNat:Int)/\l[i.toNat]?=some v:=by
  unfold ix at h
  by_cases hi:i<0
  · rw [if_pos hi] at h;cases h
  · rw [if_neg hi] at h;exact ⟨by omega,h⟩
theorem bZ {l:List α} {i:Int} {v:α} {f:α->β} (h:ix l i=some v):(l.map f)[i.toNat]?=some (f v):=by rw [List.getElem?_map,(nR h).2];rfl
theorem vV {l:List α} {i:Int} {v:α} (h:ix l i=some v):i.toNat<l.length:=(List.getElem?_eq_some_iff.1 (nR h).2).1
end plain
abbrev bL (a:Int):Int:=IntKind.i64.wrap a
abbrev wu8 (a:Int):Int:=IntKind.u8.wrap a
def AS.kS (S S':AS):Prop:=∀ s,HR s S.hp->(∀ t x,S'.sl t=some x->∃ y,S.sl t=some y/\∀ v,VR s y v->VR s x v)/\HR s S'.hp/\(∀ b,jY s S'.hp b->jY s S.hp b)
section
variable {P:Program} {n:NT} {S:AS} {Q:Go.Exit->AS->Prop} {f:Nat->Option AV} {H:AH}
theorem SR.kS {s:Sit} {S':AS} {a:Act} (h:SR n s S a) (hl:S.kS S'):SR n s S' a :=
  ⟨h.size,h.defers,λt x hx=>let ⟨_,h1,h2⟩:=(hl s h.heap).1 t x hx;let ⟨v,h3,h4⟩:=h.slot t _ h1;⟨v,h3,h2 v h4⟩,(hl s h.heap).2.1⟩
theorem Fr.QD {s s1:Sit} {H H' H1:AH} (ho:∀ b,jY s H' b->jY s H b) (hf:Fr s H' s1 H1):Fr s H s1 H1 :=
  ⟨hf.os,hf.tape,hf.output,hf.size,λb hb h=>hf.keep b hb (λh'=>h (ho b h')),hf.j5,λb hb h hi=>hf.j4 b hb (λh'=>h (ho b h')) hi,λb hb h=>ho b (hf.own b hb h),hf.vals,hf.lY⟩
theorem aJ1 {c:Code} {S':AS} (hl:S.kS S') (h:Tr P n c S' Q):Tr P n c S Q:=by
  intro s a hs
  refine kJ (h s a (hs.kS hl)) ?_
  rintro e a1 w1 ⟨S1,s1,rfl,hq,hs1,hf1⟩
  exact ⟨S1,s1,rfl,hq,hs1,hf1.QD (hl s hs.heap).2.2⟩
def wV (H:AH) (f:Nat->Option AV):List (Nat×AV)->Prop
  | []=>True
  | (t,v) :: r=>(∃ u,f t=some u/\Cv H u v)/\wV H f r
def rP (H:AH) (ob ob':aW):Prop:=ob'={ ob with rows:=ob'.rows }/\gN H ob.rows ob'.rows
def vR (H:AH):List (Nat×aW)->Prop
  | []=>True
  | (t,v) :: r=>(∃ u,H t=some u/\rP H u v)/\vR H r
theorem rP.refl (ob:aW):rP H ob ob:=⟨rfl,.refl _⟩
theorem wV.le {l:List (Nat×AV)} (h:wV H f l):∀ t v,kn l t=some v->∃ u,f t=some u/\Cv H u v:=by
  induction l with
  | nil=>intro t v h;cases h
  | cons p r ih =>
    intro t v hv
    obtain ⟨q,u⟩:=p
    simp only [kn] at hv
    by_cases ht:t=q
    · subst ht;rw [upd_same] at hv;cases hv;exact h.1
    · rw [upd_ne _ _ ht] at hv;exact ih h.2 t v hv
theorem vR.le {l:List (Nat×aW)} (h:vR H l):∀ t v,hk l t=some v->∃ u,H t=some u/\rP H u v:=by
  induction l with
  | nil=>intro t v h;cases h
  | cons p r ih =>
    intro t v hv
    obtain ⟨q,u⟩:=p
    simp only [hk] at hv
    by_cases ht:t=q
    · subst ht;rw [upd_same] at hv;cases hv;exact h.1
    · rw [upd_ne _ _ ht] at hv;exact ih h.2 t v hv
theorem rP.len {ob ob':aW} (h:rP H ob ob'):ob.rows.length=ob'.rows.length:=h.2.get.1
theorem rP.body {s:Sit} {ob ob':aW} {m:Mu} (hs:HR s H) (h:rP H ob ob') (hb:(m.nil=true/\ob.rows=[])\/∃ cur fr,rJ s ob m cur fr):(m.nil=true/\ob'.rows=[])\/∃ cur fr,rJ s ob' m cur fr:=by
  obtain ⟨he,hc⟩:=h
  obtain ⟨c1,c2⟩:=hc.get
  rcases hb with ⟨h1,h2⟩ | ⟨cur,fr,hb⟩
  · rw [h2] at c1;exact .inl ⟨h1,List.eq_nil_of_length_eq_zero (by simpa using c1.symm)⟩
  · have e1:ob'.elem=ob.elem:=by rw [he]
    have e2:ob'.sz=ob.sz:=by rw [he]
    have e3:ob'.mt=ob.mt:=by rw [he]
    have e4:ob'.app=ob.app:=by rw [he]
    refine .inr ⟨cur,fr,⟨hb.hnil,by rw [e1];exact hb.hb,hb.hfr,by rw [e4];exact hb.happ,by rw [e2];exact hb.hcs,hb.hct,by rw [<- c1];exact hb.hlen,λi r hi=>?_,λi r j x v hi hj hv=>?_,hb.h1,by rw [e3];exact hb.him,by rw [e3];exact hb.jI⟩⟩
    · obtain ⟨r0,g1,g2⟩:=c2 i r hi
      rw [e2,<- g2.get.1];exact hb.hr i r0 g1
    · obtain ⟨r0,g1,g2⟩:=c2 i r hi
      obtain ⟨x0,g3,g4⟩:=g2.get.2 j x hj
      rw [e2] at hv
      exact g4 s hs v (hb.hv i r0 j x0 v g1 g3 hv)
theorem aHU {g:Nat->Option AV} {H':AH} (h1:∀ t v,g t=some v->∃ u,f t=some u/\Cv H u v) (h2:∀ t v,H' t=some v->∃ u,H t=some u/\rP H u v):AS.kS ⟨f,H⟩ ⟨g,H'⟩:=λs hs =>
  ⟨λt x hx=>let ⟨u,a,b⟩:=h1 t x hx;⟨u,a,b s hs⟩,
   ⟨λid o ho=>by
      obtain ⟨u,a,b⟩:=h2 id o ho
      obtain ⟨m,hm⟩:=hs.obj id u a
      have e1:o.aD=u.aD:=by rw [b.1]
      have e2:o.sz=u.sz:=by rw [b.1]
      exact ⟨m,⟨hm.hm,by rw [e1];exact hm.bP,by rw [e2];exact hm.hsz,by rw [e1];exact hm.hk,b.body hs hm.body⟩⟩,
    λi i' o o' m m' a b=>by
      obtain ⟨u,a1,_⟩:=h2 _ _ a
      obtain ⟨u',b1,_⟩:=h2 _ _ b
      exact hs.jQ i i' u u' m m' a1 b1,hs.im,hs.fin⟩,
   λb ⟨id,o,m,h,r⟩=>by
      obtain ⟨u,a1,a2⟩:=h2 _ _ h
      exact ⟨id, u, m, a1, by have : o.mt = u.mt := by rw [a2.1]
                              rw [<- this];exact r.1,r.2⟩⟩
theorem JY {l:List (Nat×AV)} {k:List (Nat×aW)} (h1:wV H f l) (h2:vR H k):AS.kS ⟨f,H⟩ ⟨kn l,hk k⟩:=aHU h1.le h2.le
theorem RG {c:Code} {ι:Type} (St:ι->AS) (μ:ι->Nat) (i₀:ι) (h₀:S.kS (St i₀))
    (round:∀ i,Tr P n c (St i) (Exit.thn (λS'=>∃ j,μ j<μ i/\S'.kS (St j)) Q)):Tr P n (.loop c) S Q:=by
  refine aJ1 h₀ ?_
  intro s a hs F hF b kk cs hro hb hr
  have key:∀ k i,μ i=k->∀ s a,SR n s (St i) a->∃ e a' w',(∃ S' s',w'=s'.w/\Q e S'/\SR n s' S' a'/\Fr s (St i).hp s' S'.hp) /\
      ArrivesIn (Machine.fenced P F) P (lone (b.atR a (.code c :: .inLoop c :: kk)) cs s.w) b kk cs e a' w':=by
    intro k
    induction k using Nat.strongRecOn with
    | _ k ih =>
      intro i hi s a hs
      obtain ⟨e,a1,w1,⟨S1,s1,rfl,hq,hs1,hf1⟩,harr⟩:=round i s a hs F hF b (.inLoop c :: kk) cs hro hb hr
      cases e with
      | normal =>
        obtain ⟨j,hj,hle⟩:=hq
        obtain ⟨e2,a2,w2,⟨S2,s2,rfl,hq2,hs2,hf2⟩,harr2⟩:=ih (μ j) (by omega) j rfl s1 a1 (hs1.kS hle)
        exact ⟨e2,a2,s2.w,⟨S2,s2,rfl,hq2,hs2,hf1.trans (hf2.QD (hle s1 hs1.heap).2.2)⟩,.of_steps (StepsIn.trans harr (.one (hF.fenced _) stepR_inLoop)) harr2⟩
      | exit id=>exact ⟨_,a1,_,⟨S1,s1,rfl,hq,hs1,hf1⟩,.pass (x:=.inLoop c) rfl (λ_ _=>.inl (by simp)) harr⟩
      | goto l=>exact ⟨_,a1,_,⟨S1,s1,rfl,hq,hs1,hf1⟩,.pass (x:=.inLoop c) rfl (λ_ _=>.inl (by simp)) harr⟩
      | ret=>exact ⟨_,a1,_,⟨S1,s1,rfl,hq,hs1,hf1⟩,.pass (x:=.inLoop c) rfl (λ_ _=>.inl (by simp)) harr⟩
      | panic ch=>exact ⟨_,a1,_,⟨S1,s1,rfl,hq,hs1,hf1⟩,.pass (x:=.inLoop c) rfl (λ_ _=>.inl (by simp)) harr⟩
      | outgrown=>exact ⟨_,a1,_,⟨S1,s1,rfl,hq,hs1,hf1⟩,.pass (x:=.inLoop c) rfl (λ_ _=>.inl (by simp)) harr⟩
  obtain ⟨e,a',w',hq,harr⟩:=key _ i₀ rfl s a hs
  exact ⟨e,a',w',hq,.of_steps (.one (hF.fenced _) stepR_loop) harr⟩
theorem Tr.BZ {c:Code} {Q':Go.Exit->AS->Prop} (h:Tr P n c S Q') (hq:∀ e S',Q' e S'->∃ S'',S'.kS S''/\Q e S''):Tr P n c S Q:=by
  intro s a hs
  refine kJ (h s a hs) ?_
  rintro e a1 w1 ⟨S1,s1,rfl,hq1,hs1,hf1⟩
  obtain ⟨S2,hl,hq2⟩:=hq e S1 hq1
  have h2:=(hl s1 hs1.heap).2.2
  exact ⟨S2,s1,rfl,hq2,hs1.kS hl,⟨hf1.os,hf1.tape,hf1.output,hf1.size,hf1.keep,hf1.j5,hf1.j4,λb hb ho=>hf1.own b hb (h2 b ho),hf1.vals,hf1.lY⟩⟩
variable {o:Oper} {T:TypeId} {x y:Operand} {α:Type}
theorem JO {e:TypeId} {sz:Nat} {b:Bool} {g:α->List AV} {l:List α} {k:IntKind} {i:Int} {v:α} (ho:o.op=.indexAddr T x y) (hT:P.underlying T=some (.slice e)) (he:gF P e=some (sz,b))
    (hx:S.ev x=some (aG sz g l)) (hy:S.ev y=some (.sc (.int k i))) (h:ix l i=some v):bS P o S (.pp (g v)) :=
  dA ho hT he hx hy (nR h).1 (.list (bZ h))
end
@[reducible] def fI (n:Int):List AV:=[int n]
@[reducible] def fB (b:Bool):List AV:=[aA b]
@[reducible] def fS (s:List UInt8):List AV:=[str s]
@[reducible] def fK (k:IntKind) (n:Int):List AV:=[.sc (.int k n)]
@[reducible] def fL {α:Type} (sz:Nat) (g:α->List AV) (l:List α):List AV:=[aG sz g l]
theorem zV {a:AV} (h:PV a):∀ x∈[a],PV x:=by intro x hx;simp at hx;subst hx;exact h
theorem xC (n:Int):PV (int n):=.sc _
theorem yE (b:Bool):PV (aA b):=.sc _
theorem GY (s:List UInt8):PV (str s):=.sc _
theorem EW (k:IntKind) (n:Int):PV (.sc (.int k n)):=.sc _
theorem qC {α:Type} {sz:Nat} {g:α->List AV} (h:∀ a,∀ x∈g a,PV x) (l:List α):PV (aG sz g l):=VI l λa _=>h a
theorem wI (n:Int):∀ x∈fI n,PV x:=zV (xC n)
theorem MB (b:Bool):∀ x∈fB b,PV x:=zV (yE b)
theorem N6 (s:List UInt8):∀ x∈fS s,PV x:=zV (GY s)
theorem R8 (k:IntKind) (n:Int):∀ x∈fK k n,PV x:=zV (EW k n)
theorem P9 {α:Type} {sz:Nat} {g:α->List AV} (h:∀ a,∀ x∈g a,PV x) (l:List α):∀ x∈fL sz g l,PV x:=zV (qC h l)
theorem kG {α:Type} {l:List α} {i:Int} {v:α} {f:α->List AV} {c:List AV} (h:ix l i=some v) (e:f v=c):(l.map f)[i.toNat]?=some c:=by rw [bZ h,e]
theorem SE {a b:AV} (ha:PV a) (hb:PV b):∀ x∈[a,b],PV x:=by intro x hx;simp at hx;rcases hx with rfl | rfl <;> assumption
theorem VV:∀ x∈([]:List AV),PV x:=by intro x hx;cases hx
inductive Flat:AV->Prop
  | sc (v:Value):Flat (.sc v)
  | agg {cs:List AV} (h:∀ x∈cs,Flat x):Flat (.agg cs)
  | aM {cs:List AV} (h:∀ x∈cs,Flat x):Flat (.aM cs)
def nN:AV->Bool
  | .sc _=>true
  | .agg cs=>flatL cs
  | .aM cs=>flatL cs
  | _=>false
where flatL:List AV->Bool
  | []=>true
  | x :: r=>nN x && flatL r
mutual
theorem LQ:∀ (x:AV),nN x=true->Flat x
  | .sc v,_=>.sc v
  | .agg cs,h=>.agg (GV cs (by unfold nN at h;exact h))
  | .aM cs,h=>.aM (GV cs (by unfold nN at h;exact h))
  | .list _ _,h=>by unfold nN at h;cases h
  | .pp _,h=>by unfold nN at h;cases h
  | .pt _ _ _ _,h=>by unfold nN at h;cases h
  | .sl _ _ _ _,h=>by unfold nN at h;cases h
  | .fn _ _ _,h=>by unfold nN at h;cases h
  | .iG _ _,h=>by unfold nN at h;cases h
  | .mp _ _,h=>by unfold nN at h;cases h
theorem GV:∀ (l:List AV),nN.flatL l=true->∀ x∈l,Flat x
  | [],_,x,hx=>by cases hx
  | y :: r,h,x,hx=>by
    unfold nN.flatL at h
    simp only [Bool.and_eq_true] at h
    rcases List.mem_cons.1 hx with e | hx
    · rw [e];exact LQ y h.1
    · exact GV r h.2 x hx
end
theorem Flat.vr {s s':Sit} {x:AV} {v:Value} (h:VR s x v) (hf:Flat x):VR s' x v:=by
  induction h with
  | sc v=>exact .sc v
  | agg hl _ ih=>cases hf with | agg hf=>exact .agg hl λi x v h1 h2=>ih i x v h1 h2 (hf x (List.mem_of_getElem? h1))
  | aM hl _ ih=>cases hf with | aM hf=>exact .aM hl λi x v h1 h2=>ih i x v h1 h2 (hf x (List.mem_of_getElem? h1))
  | _=>cases hf
section
variable {P:Program} {n:NT} {S:AS} {o:Oper} {T:TypeId} {x y:Operand}
theorem RD {fo:Operand} {as:List Operand} {ts:Array TypeId} {k:FuncId} {first cap vs args:List AV} {v:AV} (ho:o.op=.call { callee:=.value fo,args:=as.toArray,argTypes:=ts })
    (hf:S.ev fo=some (.fn (.func k) first cap)) (ha:EvL S as vs) (hc:bD P k=true) (hcv:cO (mI S.hp) (first++vs++cap) args) (hp:PP P k args (λy=>y=v)) (hfl:nN v=true):bS P o S v:=by
  intro s a next Q hH hops _ hn
  obtain ⟨us,h1,h2⟩:=y5 (P:=P) ho hf ha hc hops
  unfold Oper.wp
  rw [h2]
  have hz:=E6 hH
  have h1':lX (vI s S.hp) (first++vs++cap) us:=⟨h1.1,λi x v a b=>D9 (h1.2 i x v a b)⟩
  have hp':=hp (vI s S.hp) us hz.im hz.fin (hcv.all hz h1')
  refine hp'.mono ?_
  rintro e w' ⟨y,s',v',rfl,q2,rfl,rfl,q4,q5,q6⟩
  let s2:Sit:={ w:=s'.w,Im:=s.Im,mu:=s.mu,used:=s.used }
  have hno:∀ b,¬ jY (vI s S.hp) H0 b:=λb ⟨_,_,_,h,_⟩=>(by cases h)
  have hold:∀ b,b<s.w.heap.size->s'.w.heap[b]?=s.w.heap[b]?:=λb hb=>q6.keep b hb (hno b)
  have hmono:∀ x v,VR s x v->VR s2 x v:=λx v h=>VR.mono (s:=s) (s':=s2) (λb hi=>⟨hi,hold b (hH.im b hi)⟩) (λ_ _ h=>.inl h) (λ_ h=>h) h
  have hsize:s.w.heap.size<=s'.w.heap.size:=q6.size
  refine hn s2 v' _ S.hp ⟨rfl,rfl⟩ (Flat.vr q4 (LQ _ hfl)) ⟨λid ob hob=>?_,hH.jQ,λb hb=>Nat.lt_of_lt_of_le (hH.im b hb) hsize,hH.fin⟩
    ⟨q6.os,q6.tape,q6.output,hsize,λb hb _=>hold b hb,λ_ h=>h,λb hb _ hi=>hi,λb _ h=>h,hmono,λ_ h=>h⟩ (λ_ h=>.inl h)
  obtain ⟨m,hm⟩:=hH.obj id ob hob
  refine ⟨m,⟨hm.hm,hm.bP,hm.hsz,hm.hk,?_⟩⟩
  rcases hm.body with hb | ⟨cur,fr,hb⟩
  · exact .inl hb
  · have hlt:m.b<s.w.heap.size:=(Array.getElem?_eq_some_iff.1 hb.hb).1
    exact .inr ⟨cur,fr,⟨hb.hnil,(hold m.b hlt).trans hb.hb,hb.hfr,hb.happ,hb.hcs,hb.hct,hb.hlen,hb.hr,λi r j x v a b c=>hmono _ _ (hb.hv i r j x v a b c),hb.h1,hb.him,hb.jI⟩⟩
theorem fH {F U:Nat->Prop} {id:Nat} {z0:AV} {ob ob':aW} (h:bW P o S F U (λz H'=>z=z0/\H'=upd S.hp id (some ob))) (e:ob=ob'):bW P o S F U (λz H'=>z=z0/\H'=upd S.hp id (some ob')):=e ▸ h
def BH (P:Program) (T:TypeId) (f:Nat):Option (Nat×Nat) :=
  match P.underlying T with
  | some (.struct fs)=>(fs[f]?).map λfl=>(fl.offset,fl.type)
  | _=>none
end
end Go.Pv
