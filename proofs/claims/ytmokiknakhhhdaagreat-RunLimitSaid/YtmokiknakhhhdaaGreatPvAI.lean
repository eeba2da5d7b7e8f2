/- A region that draws its order, in which a map of numbers is made, filled and looked up. -/
import Derived.Test.YtmokiknakhhhdaaGreatPvAH
set_option linter.unusedVariables false
set_option linter.unusedSimpArgs false
namespace Go.Pv
def sQ:List (Int×Int)->Int->Int
  | [],_=>0
  | (a,v) :: r,k=>bif decide (k=a) then v else sQ r k
def yU:List (Int×Int)->Int->Option Int
  | [],_=>none
  | (a,v) :: r,k=>bif decide (k=a) then some v else yU r k
theorem V2 (k:Int):∀ l,sQ l k=(yU l k).getD 0
  | []=>rfl
  | (a,v) :: r=>by
    unfold sQ yU
    cases decide (k=a)
    · exact V2 k r
    · rfl
def yN (es:List MapEntry) (m:Int->Option Int):Prop :=
  ∀ k:Int,match m k with
    | some v=>∀ j,∃ i,Instr.findNow (.int .i64) (.int .i64 k) es j=some (some (i,.int .i64 v))
    | none=>∀ j,Instr.findNow (.int .i64) (.int .i64 k) es j=some none
theorem EQ (k:Int) (e:MapEntry):∀ (es:List MapEntry) (j:Nat),Instr.findNow (.int .i64) (.int .i64 k) (es++[e]) j=match Instr.findNow (.int .i64) (.int .i64 k) es j with
    | some none=>Instr.findNow (.int .i64) (.int .i64 k) [e] (j+es.length)
    | r=>r
  | [],j=>by simp [Instr.findNow]
  | a :: r,j=>by
    have ih:=EQ k e r (j+1)
    rw [show j+1+r.length=j+(a :: r).length by simp;omega] at ih
    rw [List.cons_append]
    unfold Instr.findNow
    split
    · rfl
    · rw [ih]
      cases Instr.findNow (.int .i64) (.int .i64 k) r (j+1) with
      | none=>rfl
      | some x=>cases x with
        | none=>unfold Instr.findNow;rfl
        | some y=>rfl
    · rfl
theorem yN.push {es:List MapEntry} {m:Int->Option Int} (h:yN es m) {q v:Int} {born:Nat} (hq:m q=none):yN (es++[{ key:=.int .i64 q,val:=.int .i64 v,born:=born }]) (λk=>bif decide (k=q) then some v else m k):=by
  intro k
  have hk:=h k
  by_cases e:k=q
  · subst e
    rw [hq] at hk
    simp only [decide_true,cond_true]
    intro j
    refine ⟨j+es.length,?_⟩
    rw [EQ,hk j]
    simp [Instr.findNow,Instr.sameNow]
  · simp only [decide_eq_false e,cond_false]
    cases hm:m k with
    | some u =>
      rw [hm] at hk
      intro j
      obtain ⟨i,hi⟩:=hk j
      exact ⟨i,by rw [EQ,hi]⟩
    | none =>
      rw [hm] at hk
      intro j
      rw [EQ,hk j]
      simp [Instr.findNow,Instr.sameNow,beq_eq_false_iff_ne.2 e]
inductive MK where
  | mk
  | ins (k v:Int)
  | lk (k:Int)
  | pu
abbrev Sl:=Option (Nat×(Nat->AV))
def jE (L:Nat->Bool) (b:Nat):List Sl->Nat->(Nat->Option AV)->(Nat->Option AV)
  | [],_,f=>f
  | none :: r,i,f=>jE L b r (i+1) f
  | some (t,v) :: r,i,f=>jE L b r (i+1) (bif L i then upd f t (some (v b)) else f)
def wr:List Sl->Nat->Nat->Option (Nat×(Nat->AV))
  | [],_,_=>none
  | none :: r,i,t=>wr r (i+1) t
  | some (t',v) :: r,i,t=>bif Nat.beq t' t then some (i,v) else wr r (i+1) t
def sV:List Sl->Bool
  | []=>true
  | none :: r=>sV r
  | some (t,_) :: r=>(wr r 0 t).isNone && sV r
theorem IE (t:Nat):∀ (E:List Sl) (i j:Nat),wr E i t=none->wr E j t=none
  | [],_,_,_=>rfl
  | none :: r,i,j,h=>IE t r (i+1) (j+1) h
  | some (t',v) :: r,i,j,h=>by
    unfold wr at h ⊢
    cases hb:Nat.beq t' t with
    | true=>rw [hb] at h;cases h
    | false=>rw [hb] at h;exact IE t r (i+1) (j+1) h
theorem tO (L:Nat->Bool) (b t:Nat):∀ (E:List Sl) (i:Nat) (f:Nat->Option AV),sV E=true->jE L b E i f t=match wr E i t with
    | some (j,v)=>bif L j then some (v b) else f t
    | none=>f t
  | [],i,f,_=>rfl
  | none :: r,i,f,h=>tO L b t r (i+1) f h
  | some (t',v) :: r,i,f,h=>by
    unfold sV at h
    simp only [Bool.and_eq_true,Option.isNone_iff_eq_none] at h
    have hw:wr (some (t',v) :: r) i t=bif Nat.beq t' t then some (i,v) else wr r (i+1) t:=rfl
    show jE L b r (i+1) (bif L i then upd f t' (some (v b)) else f) t=_
    rw [tO L b t r (i+1) _ h.2,hw]
    cases hb:Nat.beq t' t with
    | true =>
      have e:=Nat.eq_of_beq_eq_true hb
      subst e
      rw [IE _ _ 0 (i+1) h.1]
      simp only [cond_true]
      cases L i
      · rfl
      · simp [upd_same]
    | false =>
      have hne:t≠t':=λe=>by rw [e,Nat.beq_refl] at hb;cases hb
      simp only [cond_false]
      cases L i
      · rfl
      · simp only [cond_true,upd_ne _ _ hne]
theorem F9 (t:Nat):∀ (E:List Sl) (i j:Nat) (v:Nat->AV),wr E i t=some (j,v)->i<=j/\E[j-i]?=some (some (t,v))
  | [],_,_,_,h=>by cases h
  | none :: r,i,j,v,h=>by
    obtain ⟨h1,h2⟩:=F9 t r (i+1) j v h
    refine ⟨by omega,?_⟩
    rw [show j-i=(j-(i+1))+1 by omega];exact h2
  | some (t',v') :: r,i,j,v,h=>by
    unfold wr at h
    cases hb:Nat.beq t' t with
    | true =>
      rw [hb] at h
      simp only [cond_true,Option.some.injEq,Prod.mk.injEq] at h
      obtain ⟨rfl,rfl⟩:=h
      have e:=Nat.eq_of_beq_eq_true hb
      subst e
      exact ⟨Nat.le_refl _,by simp⟩
    | false =>
      rw [hb] at h
      obtain ⟨h1,h2⟩:=F9 t r (i+1) j v h
      refine ⟨by omega,?_⟩
      rw [show j-i=(j-(i+1))+1 by omega];exact h2
theorem CL (t:Nat) (v:Nat->AV):∀ (E:List Sl) (i j:Nat),sV E=true->E[j]?=some (some (t,v))->wr E i t=some (i+j,v)
  | [],_,_,_,h=>by simp at h
  | none :: r,i,0,_,h=>by simp at h
  | none :: r,i,j+1,hd,h=>by
    have:=CL t v r (i+1) j hd (by simpa using h)
    rw [show i+(j+1)=i+1+j by omega];exact this
  | some (t',v') :: r,i,0,hd,h=>by
    simp only [List.getElem?_cons_zero,Option.some.injEq,Prod.mk.injEq] at h
    obtain ⟨rfl,rfl⟩:=h
    unfold wr;rw [Nat.beq_refl];rfl
  | some (t',v') :: r,i,j+1,hd,h=>by
    unfold sV at hd
    simp only [Bool.and_eq_true,Option.isNone_iff_eq_none] at hd
    have h':r[j]?=some (some (t,v)):=by simpa using h
    have:=CL t v r (i+1) j hd.2 h'
    unfold wr
    cases hb:Nat.beq t' t with
    | true =>
      have e:=Nat.eq_of_beq_eq_true hb
      subst e
      have h0:=CL t' v r 0 j hd.2 h'
      rw [hd.1] at h0;cases h0
    | false=>rw [show i+(j+1)=i+1+j by omega];exact this
theorem K4 {L L':Nat->Bool} {b i:Nat} {E:List Sl} {f:Nat->Option AV} {t:Nat} {v:Nat->AV} (hd:sV E=true) (hE:E[i]?=some (some (t,v))) (hL:∀ j,L' j=if j=i then true else L j) :
    jE L' b E 0 f=upd (jE L b E 0 f) t (some (v b)):=by
  funext t'
  rw [tO L' b t' E 0 f hd]
  by_cases e:t'=t
  · subst e
    rw [upd_same,CL t' v E 0 i hd hE,Nat.zero_add]
    simp [hL]
  · rw [upd_ne _ _ e,tO L b t' E 0 f hd]
    cases hw:wr E 0 t' with
    | none=>rfl
    | some p =>
      obtain ⟨j,v'⟩:=p
      have hne:j≠i:=λe'=>by
        subst e'
        have:=(F9 t' E 0 j v' hw).2
        rw [Nat.sub_zero,hE] at this
        simp only [Option.some.injEq,Prod.mk.injEq] at this
        exact e this.1.symm
      simp [hL,hne]
theorem aHC {L L':Nat->Bool} {b i:Nat} {E:List Sl} {f:Nat->Option AV} (hd:sV E=true) (hE:E[i]?=some none) (hL:∀ j,L' j=if j=i then true else L j):jE L' b E 0 f=jE L b E 0 f:=by
  funext t'
  rw [tO L' b t' E 0 f hd,tO L b t' E 0 f hd]
  cases hw:wr E 0 t' with
  | none=>rfl
  | some p =>
    obtain ⟨j,v'⟩:=p
    have hne:j≠i:=λe'=>by
      subst e'
      have:=(F9 t' E 0 j v' hw).2
      rw [Nat.sub_zero,hE] at this;cases this
    simp [hL,hne]
theorem MX (b:Nat) {L:Nat->Bool}:∀ (E:List Sl) (i:Nat) (f:Nat->Option AV),(∀ j,i<=j->j<i+E.length->L j=true)->jE L b E i f=jE (λ_=>true) b E i f
  | [],_,_,_=>rfl
  | none :: r,i,f,h=>MX b r (i+1) f λj h1 h2=>h j (by omega) (by simp;omega)
  | some (t,v) :: r,i,f,h=>by
    unfold jE
    rw [h i (Nat.le_refl _) (by simp)]
    exact MX b r (i+1) _ λj h1 h2=>h j (by omega) (by simp;omega)
def kF (L:Nat->Bool):List (Nat×Int×Int)->Int->Option Int
  | [],_=>none
  | (i,q,v) :: r,k=>bif L i && decide (k=q) then some v else kF L r k
def keysOf (I:List (Nat×Int×Int)):List (Int×Int):=I.map λp=>(p.2.1,p.2.2)
theorem VK {L:Nat->Bool}:∀ (I:List (Nat×Int×Int)),(∀ p∈I,L p.1=true)->kF L I=yU (keysOf I)
  | [],_=>rfl
  | (i,q,v) :: r,h=>by
    funext k
    show (bif L i && decide (k=q) then some v else kF L r k)=bif decide (k=q) then some v else yU (keysOf r) k
    rw [h _ (List.mem_cons_self ..),VK r λp hp=>h p (List.mem_cons_of_mem _ hp),Bool.true_and]
theorem TV {L:Nat->Bool}:∀ (I:List (Nat×Int×Int)) (i:Nat) (q:Int),L i=false->(∀ p∈I,p.2.1=q->p.1=i)->kF L I q=none
  | [],_,_,_,_=>rfl
  | (j,a,v) :: r,i,q,h,hq=>by
    show (bif L j && decide (q=a) then some v else kF L r q)=none
    rw [TV r i q h λp hp=>hq p (List.mem_cons_of_mem _ hp)]
    by_cases e:q=a
    · have:=hq (j,a,v) (List.mem_cons_self ..) e.symm
      simp only at this
      rw [this,h];rfl
    · rw [decide_eq_false e,Bool.and_false];rfl
theorem IR {L L':Nat->Bool} {i:Nat} (hL:∀ j,L' j=if j=i then true else L j):∀ (I:List (Nat×Int×Int)),(∀ p∈I,p.1≠i)->kF L' I=kF L I
  | [],_=>rfl
  | (j,a,w) :: r,h=>by
    funext k
    show (bif L' j && decide (k=a) then some w else kF L' r k)=bif L j && decide (k=a) then some w else kF L r k
    rw [IR hL r λp hp=>h p (List.mem_cons_of_mem _ hp),hL j,if_neg (h _ (List.mem_cons_self ..))]
theorem UY {L L':Nat->Bool} {i:Nat} {q v:Int} (hL:∀ j,L' j=if j=i then true else L j) (hi:L i=false):∀ (I:List (Nat×Int×Int)),(∀ p∈I,p.1=i->p=(i,q,v))->(∀ p∈I,p.2.1=q->p.1=i) ->
    ((i,q,v)∈I->kF L' I=λk=>bif decide (k=q) then some v else kF L I k)/\((i,q,v) ∉ I->kF L' I=kF L I)
  | [],_,_=>⟨λh=>(by cases h),λ_=>rfl⟩
  | (j,a,w) :: r,h1,h2=>by
    obtain ⟨g1,g2⟩:=UY hL hi r (λp hp=>h1 p (List.mem_cons_of_mem _ hp)) λp hp=>h2 p (List.mem_cons_of_mem _ hp)
    refine ⟨λhm=>?_,λhm=>?_⟩
    · funext k
      show (bif L' j && decide (k=a) then some w else kF L' r k)=bif decide (k=q) then some v else bif L j && decide (k=a) then some w else kF L r k
      by_cases e:j=i
      · have:=h1 (j,a,w) (List.mem_cons_self ..) e
        simp only [Prod.mk.injEq] at this
        obtain ⟨rfl,rfl,rfl⟩:=this
        rw [hL j,if_pos rfl,hi,Bool.true_and,Bool.false_and]
        by_cases hk:k=a
        · rw [decide_eq_true hk];rfl
        · rw [decide_eq_false hk]
          show kF L' r k=kF L r k
          by_cases hr:(j,a,w)∈r
          · rw [g1 hr];simp only [decide_eq_false hk,cond_false]
          · rw [g2 hr]
      · have hr:(i,q,v)∈r:=by
          rcases List.mem_cons.1 hm with h | h
          · exact absurd (Prod.mk.inj h).1.symm e
          · exact h
        rw [g1 hr,hL j,if_neg e]
        by_cases hk:k=q
        · rw [decide_eq_true hk]
          have:k≠a:=λea=>e (h2 (j,a,w) (List.mem_cons_self ..) (ea.symm.trans hk))
          rw [decide_eq_false this,Bool.and_false];simp only [decide_eq_true hk,cond_true,cond_false]
        · simp only [decide_eq_false hk,cond_false]
    · have hr:(i,q,v) ∉ r:=λh=>hm (List.mem_cons_of_mem _ h)
      funext k
      show (bif L' j && decide (k=a) then some w else kF L' r k)=bif L j && decide (k=a) then some w else kF L r k
      have e:j≠i:=λe=>hm (by rw [<- h1 (j,a,w) (List.mem_cons_self ..) e];exact List.mem_cons_self ..)
      rw [g2 hr,hL j,if_neg e]
structure wH (s:Sit) (H:AH) (b:Nat) (m:Int->Option Int):Prop where
  him:¬ s.Im b
  hno:¬ jX s H b
  at':∃ es clock,s.w.heap[b]?=some (.map es clock)/\yN es.toList m
theorem wH.fr {s s':Sit} {H H':AH} {b:Nat} {m:Int->Option Int} (h:wH s H b m) (hb:b<s.w.heap.size) (hf:Fr s H s' H'):wH s' H' b m:=by
  obtain ⟨es,clock,h1,h2⟩:=h.at'
  exact ⟨λhi=>h.him (hf.jD b hb h.hno hi),λho=>h.hno (hf.own b hb ho),es,clock,(hf.keep b hb h.hno).trans h1,h2⟩
theorem Z6 {n:NT} {s:Sit} {S:AS} {a:Act} {b:Nat} {m m':Int->Option Int} {es:Array MapEntry} {clock:Nat} (hs:SR n s S a) (hi:wH s S.hp b m) (hb:b<s.w.heap.size) (hm:yN es.toList m') {s0:Sit} {H0:AH} (h0:s0.w.heap.size<=b) (hf:Fr s0 H0 s S.hp) :
    ∃ s',s'.w={ s.w with heap:=s.w.heap.setIfInBounds b (.map es clock) }/\SR n s' S a/\wH s' S.hp b m'/\b<s'.w.heap.size/\Fr s0 H0 s' S.hp:=by
  have hold:∀ j,j≠b->(s.w.heap.setIfInBounds b (.map es clock))[j]?=s.w.heap[j]?:=λj hj=>by rw [Array.getElem?_setIfInBounds_ne (Ne.symm hj)]
  obtain ⟨g1,g2⟩:=wK hs.heap { s.w with heap:=s.w.heap.setIfInBounds b (.map es clock) } (by simp) (λj hj=>hold j (by
    rintro rfl
    rcases hj with hj | ⟨id,ob,m',p1,p2,p3,p4⟩
    · exact hi.him hj
    · obtain ⟨m2,hm2⟩:=hs.heap.obj id ob p1
      have e:m2=m':=by have:=hm2.hm.symm.trans p2;simpa using this
      subst e
      rcases hm2.body with ⟨q,_⟩ | ⟨cur,fr,hb⟩
      · rw [q] at p3;cases p3
      · exact SX hi.him hi.hno p1 p2 hb p4))
  exact ⟨{ s with w:={ s.w with heap:=s.w.heap.setIfInBounds b (.map es clock) } },rfl,hs.vals g1 g2,⟨hi.him,hi.hno,es,clock,Array.getElem?_setIfInBounds_self_of_lt hb,hm⟩,by simpa using hb,
    hf.os,hf.tape,hf.output,by simpa using hf.size,λj hj hno=>(hold j (by omega)).trans (hf.keep j hj hno),hf.jV,hf.jD,hf.own,λx v hx=>g2 _ _ (hf.vals x v hx),hf.lT⟩
theorem aGR {n:NT} {s:Sit} {S:AS} {a:Act} (hs:SR n s S a) {s0:Sit} {H0:AH} (hf:Fr s0 H0 s S.hp) :
    ∃ s',s'.w=s.w.alloc (.map #[] 0)/\SR n s' S a/\wH s' S.hp s.w.heap.size (λ_=>none)/\s.w.heap.size<s'.w.heap.size/\Fr s0 H0 s' S.hp:=by
  have hsz:(s.w.alloc (.map #[] 0)).heap.size=s.w.heap.size+1:=by simp
  have hold:∀ j,j<s.w.heap.size->(s.w.alloc (.map #[] 0)).heap[j]?=s.w.heap[j]?:=λj hj=>alloc_old s.w _ j hj
  obtain ⟨g1,g2⟩:=wK hs.heap (s.w.alloc (.map #[] 0)) (by rw [hsz];omega) (λj hj=>hold j (by
    rcases hj with hj | ⟨id,ob,m,q1,q2,q3,q4⟩
    · exact hs.heap.im j hj
    · obtain ⟨m',hm'⟩:=hs.heap.obj id ob q1
      have e:m'=m:=by have:=hm'.hm.symm.trans q2;simpa using this
      subst e
      rcases hm'.body with ⟨q,_⟩ | ⟨cur,fr,hb⟩
      · rw [q] at q3;cases q3
      · have:=hb.hb;rw [q4] at this
        exact (Array.getElem?_eq_some_iff.1 this).1))
  have hno:¬ jX { s with w:=s.w.alloc (.map #[] 0) } S.hp s.w.heap.size:=by
    rintro ⟨id,ob,m,q1,q2,q3,q4,q5⟩
    obtain ⟨m',hm'⟩:=hs.heap.obj id ob q1
    have e:m'=m:=by have:=hm'.hm.symm.trans q3;simpa using this
    subst e
    rcases hm'.body with ⟨q,_⟩ | ⟨cur,fr,hb⟩
    · rw [q] at q4;cases q4
    · have:=hb.hb;rw [q5] at this
      exact absurd (Array.getElem?_eq_some_iff.1 this).1 (Nat.lt_irrefl _)
  refine ⟨{ s with w:=s.w.alloc (.map #[] 0) },rfl,hs.vals g1 g2,⟨λhi=>absurd (hs.heap.im _ hi) (Nat.lt_irrefl _),hno,#[],0,nL s.w _,λk j=>rfl⟩,by simp,
    hf.os,hf.tape,hf.output,by have:=hf.size;simp;omega,λb hb hno=>(hold b (Nat.lt_of_lt_of_le hb hf.size)).trans (hf.keep b hb hno),hf.jV,hf.jD,hf.own,λx v hx=>g2 _ _ (hf.vals x v hx),hf.lT⟩
def xJ (b:Nat):Option AV->AV
  | some v=>v
  | none=>.sc (.map (some b))
def jZ (E0:List (Option (Nat×Option AV))):List Sl:=E0.map λx=>x.map λp=>(p.1,λb=>xJ b p.2)
theorem DN {E0:List (Option (Nat×Option AV))} {i t:Nat} {w:Option AV} (h:E0[i]?=some (some (t,w))):(jZ E0)[i]?=some (some (t,λb=>xJ b w)):=by
  unfold jZ;rw [List.getElem?_map,h];rfl
theorem aJX {E0:List (Option (Nat×Option AV))} {i:Nat} (h:E0[i]?=some none):(jZ E0)[i]?=some none:=by
  unfold jZ;rw [List.getElem?_map,h];rfl
def qE (E0:List (Option (Nat×Option AV))) (f:Nat->Option AV) (b:Nat):Nat->Option AV:=jE (λ_=>true) b (jZ E0) 0 f
theorem L4 {L:Nat->Bool} (b b':Nat):∀ (E0:List (Option (Nat×Option AV))) (i:Nat) (f:Nat->Option AV),(∀ j t,E0[j]?=some (some (t,none))->L (i+j)=false)->jE L b (jZ E0) i f=jE L b' (jZ E0) i f
  | [],_,_,_=>rfl
  | none :: r,i,f,h=>L4 b b' r (i+1) f λj t hj=>by have:=h (j+1) t (by simpa using hj);rw [show i+1+j=i+(j+1) by omega];exact this
  | some (t,w) :: r,i,f,h=>by
    show jE L b (jZ r) (i+1) (bif L i then upd f t (some (xJ b w)) else f)=jE L b' (jZ r) (i+1) (bif L i then upd f t (some (xJ b' w)) else f)
    have e:(bif L i then upd f t (some (xJ b w)) else f)=(bif L i then upd f t (some (xJ b' w)) else f):=by
      cases w with
      | some v=>rfl
      | none=>rw [show L i=false from h 0 t rfl];rfl
    rw [e]
    exact L4 b b' r (i+1) _ λj t hj=>by have:=h (j+1) t (by simpa using hj);rw [show i+1+j=i+(j+1) by omega];exact this
def uE (o:Oper):List Nat:=(o.after.toList.filter λe=>Region.binds .any e).map (·.on)
theorem ED {ops:List Oper} {listed:Array Bool} (hc:Closed ops listed) {i j:Nat} {o:Oper} (ho:ops[i]?=some o) (hl:listed.getD i false=true) (h:j∈uE o):listed.getD j false=true:=by
  unfold uE at h
  obtain ⟨e,he,rfl⟩:=List.mem_map.1 h
  obtain ⟨h1,h2⟩:=List.mem_filter.1 he
  exact hc i o ho hl e (by simpa using h1) h2
def OS (P:Program) (T:TypeId) (tm mkI:Nat) (E0:List (Option (Nat×Option AV))) (I:List (Nat×Int×Int)) (f:Nat->Option AV) (hp:AH) (o:Oper) (i:Nat):MK->Prop
  | .mk=>o.op=.makeMap T none/\o.dst=some tm/\E0[i]?=some (some (tm,none))/\i=mkI
  | .ins q v=>o.op=.insert T (.tmp tm) (.const (.int .i64 q)) (.const (.int .i64 v))/\o.dst=none/\E0[i]?=some none/\(i,q,v)∈I
  | .lk k=>∃ x y t,o.op=.lookup T (.tmp x) y false/\o.dst=some t/\E0[i]?=some (some (t,some (int (sQ (keysOf I) k))))/\(∀ b,qE E0 f b x=some (.sc (.map (some b))))/\∀ b,(AS.mk (qE E0 f b) hp).ev y=some (int k)
  | .pu=>∃ t w,o.dst=some t/\E0[i]?=some (some (t,w))/\∀ b,bP P o ⟨qE E0 f b,hp⟩ (xJ b w)
def zM (P:Program) (T:TypeId) (tm mkI:Nat) (E0:List (Option (Nat×Option AV))) (I:List (Nat×Int×Int)) (f:Nat->Option AV) (hp:AH):List Oper->List MK->Nat->Prop
  | [],_,_=>True
  | o :: r,c :: cs,i=>OS P T tm mkI E0 I f hp o i c/\zM P T tm mkI E0 I f hp r cs (i+1)
  | _ :: _,[],_=>False
theorem zM.get {P:Program} {T:TypeId} {tm mkI:Nat} {E0:List (Option (Nat×Option AV))} {I:List (Nat×Int×Int)} {f:Nat->Option AV} {hp:AH}:∀ {l:List Oper} {cs:List MK} {k:Nat},zM P T tm mkI E0 I f hp l cs k->∀ {i:Nat} {o:Oper},l[i]?=some o->∃ c,cs[i]?=some c/\OS P T tm mkI E0 I f hp o (k+i) c
  | [],_,_,_,i,o,h=>by simp at h
  | _ :: _,[],_,h,_,_,_=>h.elim
  | a :: r,c :: cs,k,h,0,o,ho=>by simp only [List.getElem?_cons_zero,Option.some.injEq] at ho;subst ho;exact ⟨c,rfl,h.1⟩
  | a :: r,c :: cs,k,h,i+1,o,ho=>by
    obtain ⟨c',h1,h2⟩:=zM.get h.2 (i:=i) (by simpa using ho)
    exact ⟨c',by simpa using h1,by rw [show k+(i+1)=k+1+i by omega];exact h2⟩
def BN (n:NT) (ops:List Oper) (E0:List (Option (Nat×Option AV))) (I:List (Nat×Int×Int)) (mkI:Nat) (cs:List MK):Bool :=
  sV (jZ E0) && Nat.beq E0.length ops.length && (ops.all λo=>kU n o.dst && o.guard.isNone && kW o) &&
  (ops.zipIdx.all λ(o,i)=>o.op.operands.all λx=>match x with | .tmp t=>(match wr (jZ E0) 0 t with | some (j,_)=>(uE o).any λq=>Nat.beq q j | none=>true) | _=>true) &&
  (ops.zipIdx.all λ(o,i)=>match E0[i]? with | some (some (_,none))=>Nat.beq i mkI || (uE o).any λq=>Nat.beq q mkI | _=>true) &&
  (ops.zipIdx.all λ(o,i)=>match cs[i]? with | some (.lk _)=>(uE o).any λj=>(match ops[j]? with | some oj=>I.all λp=>(uE oj).any λq=>Nat.beq q p.1 | none=>false) | _=>true) &&
  (I.all λp=>I.all λp'=>(Nat.beq p.1 p'.1 == decide (p.2.1=p'.2.1)) && (!(Nat.beq p.1 p'.1) || decide (p.2.2=p'.2.2))) &&
  (I.all λp=>match ops[p.1]? with | some o=>(uE o).any λq=>Nat.beq q mkI | none=>false) &&
  (I.all λp=>match cs[p.1]? with | some (.ins _ _)=>true | _=>false) && !I.isEmpty && (match cs[mkI]? with | some .mk=>true | _=>false)
theorem aHR {n:NT} {ops:List Oper} {E0:List (Option (Nat×Option AV))} {I:List (Nat×Int×Int)} {mkI:Nat} {cs:List MK} (hc:BN n ops E0 I mkI cs=true):ops.toArray.all kW=true:=by
  unfold BN at hc
  simp only [Bool.and_eq_true] at hc
  obtain ⟨⟨⟨⟨⟨⟨⟨⟨⟨⟨c1,c2⟩,c3⟩,c4⟩,c5⟩,c6⟩,c7⟩,c8⟩,c9⟩,c10⟩,c11⟩:=hc
  simp only [List.all_eq_true,Bool.and_eq_true] at c3
  simpa using λo ho=>(c3 o ho).2
theorem any_beq {l:List Nat} {j:Nat} (h:(l.any λq=>Nat.beq q j)=true):j∈l:=by
  rw [List.any_eq_true] at h
  obtain ⟨q,h1,h2⟩:=h
  rw [<- Nat.eq_of_beq_eq_true h2];exact h1
theorem filter_le {p p':Nat->Bool} (h:∀ j,p' j=true->p j=true):∀ l:List Nat,(l.filter p').length<=(l.filter p).length
  | []=>Nat.le_refl _
  | a :: r=>by
    have:=filter_le h r
    simp only [List.filter_cons]
    cases hp':p' a with
    | true=>rw [h a hp'];simp;exact this
    | false=>cases p a <;> simp <;> omega
theorem filter_lt {p p':Nat->Bool} (h:∀ j,p' j=true->p j=true) {i:Nat} (h1:p i=true) (h2:p' i=false):∀ l:List Nat,i∈l->(l.filter p').length<(l.filter p).length
  | [],hm=>by cases hm
  | a :: r,hm=>by
    simp only [List.filter_cons]
    rcases List.mem_cons.1 hm with e | hm
    · subst e
      rw [h1,h2]
      have:=filter_le h r
      simp;omega
    · have:=filter_lt h h1 h2 r hm
      cases hp':p' a with
      | true=>rw [h a hp'];simp;exact this
      | false=>cases p a <;> simp <;> omega
def left (N:Nat) (listed:Array Bool):Nat:=((List.range N).filter λi=>!(listed.getD i true)).length
theorem RG {N:Nat} {listed:Array Bool} {i:Nat} (hi:i<N) (hs:i<listed.size) (h:listed.getD i true=false):left N (listed.setIfInBounds i true)<left N listed:=by
  refine filter_lt (i:=i) (λj hj=>?_) (by rw [h];rfl) (by simp [hs]) _ (List.mem_range.2 hi)
  by_cases e:i=j
  · subst e;simp [hs] at hj
  · rw [getD_set_ne true e] at hj;exact hj
section
variable {P:Program} {n:NT} {ops:List Oper} {T K E:TypeId} {tm mkI:Nat} {E0:List (Option (Nat×Option AV))} {I:List (Nat×Int×Int)} {cs:List MK} {f:Nat->Option AV} {hp:AH} {s0:Sit}
def IV (n:NT) (E0:List (Option (Nat×Option AV))) (I:List (Nat×Int×Int)) (mkI:Nat) (f:Nat->Option AV) (hp:AH) (s0:Sit) (listed:Array Bool) (s:Sit) (a:Act):Prop :=
  ∃ b,SR n s ⟨jE (λj=>listed.getD j false) b (jZ E0) 0 f,hp⟩ a/\(listed.getD mkI false=true->s0.w.heap.size<=b/\b<s.w.heap.size/\wH s hp b (kF (λj=>listed.getD j false) I))/\Fr s0 hp s hp
theorem DD {listed:Array Bool} {i:Nat} (h:i<listed.size):listed.getD i true=listed.getD i false:=by simp [h]
theorem evM {L:Nat->Bool} {b:Nat} {o:Oper} (hd:sV (jZ E0)=true) (h:∀ x∈o.op.operands,∀ t,x=.tmp t->∀ j v,wr (jZ E0) 0 t=some (j,v)->L j=true) :
    ∀ x∈o.op.operands,(AS.mk (jE L b (jZ E0) 0 f) hp).ev x=(AS.mk (qE E0 f b) hp).ev x:=by
  intro x hx
  cases x with
  | tmp t =>
    show jE L b (jZ E0) 0 f t=qE E0 f b t
    unfold qE
    rw [tO L b t _ 0 f hd,tO _ b t _ 0 f hd]
    cases hw:wr (jZ E0) 0 t with
    | none=>rfl
    | some p =>
      obtain ⟨j,v⟩:=p
      simp only
      rw [h _ hx t rfl j v hw]
  | _=>rfl
theorem aBX (hT:P.underlying T=some (.map K E)) (hK:P.underlying K=some (.int .i64)) (hz:(P.info? E).bind (·.zero)=some (.int .i64 0)) (hc:BN n ops E0 I mkI cs=true) (ho:yB ops=true) (hE:E0[mkI]?=some (some (tm,none))) (hob:zM P T tm mkI E0 I f hp ops cs 0) :
    ∀ (fuel:Nat) (listed:Array Bool) (s:Sit) (a:Act),listed.size=ops.length->Closed ops listed->left ops.length listed<=fuel->IV n E0 I mkI f hp s0 listed s a ->
      wpAny P .any ops.toArray (λe a' w'=>e=.normal/\∃ S' s',w'=s'.w/\(∃ b,S'=⟨qE E0 f b,hp⟩)/\SR n s' S' a'/\Fr s0 hp s' S'.hp) fuel listed a s.w:=by
  unfold BN at hc
  simp only [Bool.and_eq_true] at hc
  obtain ⟨⟨⟨⟨⟨⟨⟨⟨⟨⟨c1,c2⟩,c3⟩,c4⟩,c5⟩,c6⟩,c7⟩,c8⟩,c9⟩,c10⟩,c11⟩:=hc
  have hni:∀ {i:Nat} {c:MK},cs[i]?=some c->(∀ q v,c≠.ins q v)->∀ p∈I,p.1≠i:=λ{i c} hci hne p hp e=>by
    rw [List.all_eq_true] at c9
    have:=c9 p hp
    rw [e,hci] at this
    cases c with
    | ins q v=>exact hne q v rfl
    | _=>cases this
  have c2:=Nat.eq_of_beq_eq_true c2
  have all:∀ listed:Array Bool,listed.size=ops.length->Region.ready .any ops.toArray listed=[]->∀ j,j<ops.length->listed.getD j false=true:=by
    intro listed hsz hr j
    induction j using Nat.strongRecOn with
    | _ j ih =>
      intro hj
      cases hl:listed.getD j false with
      | true=>rfl
      | false =>
        exfalso
        have hoj:ops[j]?=some ops[j]:=by simp [hj]
        have:j∈Region.ready .any ops.toArray listed:=by
          refine mem_ready.2 ⟨by rw [DD (listed:=listed) (i:=j) (by omega)];exact hl,ops[j],by simp [hj],λe he hb=>?_⟩
          unfold yB at ho
          rw [List.all_eq_true] at ho
          have:=ho (ops[j],j) (mem_zipIdx' hoj)
          simp only [Array.all_eq_true_iff_forall_mem] at this
          have:=this e he
          rw [hb] at this
          have hlt:e.on<j:=by simpa using this
          exact ih e.on hlt (by omega)
        rw [hr] at this;cases this
  have fin:∀ (listed:Array Bool) (s:Sit) (a:Act),listed.size=ops.length->(∀ j,j<ops.length->listed.getD j false=true)->IV n E0 I mkI f hp s0 listed s a->∃ S' s',s.w=s'.w/\(∃ b,S'=⟨qE E0 f b,hp⟩)/\SR n s' S' a/\Fr s0 hp s' S'.hp:=by
    rintro listed s a hsz hl ⟨b,h1,_,h3⟩
    have e:jE (λj=>listed.getD j false) b (jZ E0) 0 f=qE E0 f b:=MX b _ 0 f λj _ hj=>hl j (by unfold jZ at hj;rw [List.length_map] at hj;omega)
    rw [e] at h1
    exact ⟨_,s,rfl,⟨b,rfl⟩,h1,h3⟩
  intro fuel
  induction fuel with
  | zero =>
    intro listed s a hsz hcl hle hI
    have hl:∀ j,j<ops.length->listed.getD j false=true:=λj hj=>by
      cases h:listed.getD j false with
      | true=>rfl
      | false =>
        have:=RG (listed:=listed) (i:=j) hj (by omega) (by rw [DD (listed:=listed) (i:=j) (by omega)];exact h)
        omega
    refine ⟨?_,rfl,?_⟩
    · rw [List.eq_nil_iff_forall_not_mem]
      intro j hj
      obtain ⟨h1,o,ho',_⟩:=mem_ready.1 hj
      have hj':ops[j]?=some o:=by simpa using ho'
      have hlt:=(List.getElem?_eq_some_iff.1 hj').1
      rw [DD (listed:=listed) (i:=j) (by omega),hl j hlt] at h1;cases h1
    · exact fin listed s a hsz hl hI
  | succ fuel ih =>
    intro listed s a hsz hcl hle hI
    refine ⟨λh0=>⟨rfl,fin listed s a hsz (all listed hsz h0) hI⟩,λi hi=>?_⟩
    obtain ⟨hun,o,ho',hpre⟩:=mem_ready.1 hi
    have hoi:ops[i]?=some o:=by simpa using ho'
    have hlt:=(List.getElem?_eq_some_iff.1 hoi).1
    have hcl':=yH hcl hi
    have hle':left ops.length (listed.setIfInBounds i true)<=fuel:=by have:=RG hlt (by omega) hun;omega
    have hsz':(listed.setIfInBounds i true).size=ops.length:=by simpa using hsz
    have hun':listed.getD i false=false:=by rw [<- DD (by omega)];exact hun
    have hpre':∀ j∈uE o,listed.getD j false=true:=λj hj=>by
      unfold uE at hj
      obtain ⟨e,he,rfl⟩:=List.mem_map.1 hj
      obtain ⟨h1,h2⟩:=List.mem_filter.1 he
      exact hpre e (by simpa using h1) h2
    have hL:∀ j,(listed.setIfInBounds i true).getD j false=if j=i then true else listed.getD j false:=λj=>by
      by_cases e:j=i
      · subst e;rw [if_pos rfl];simp [show j<listed.size by omega]
      · rw [if_neg e,getD_set_ne false (Ne.symm e)]
    obtain ⟨b,hs,hm,hf⟩:=hI
    have hgd:kU n o.dst=true/\o.guard=none:=by
      rw [List.all_eq_true] at c3
      have:=c3 o (List.mem_of_getElem? hoi)
      simp only [Bool.and_eq_true,Option.isNone_iff_eq_none] at this
      exact this.1
    have hdep:∀ x∈o.op.operands,∀ t,x=.tmp t->∀ j v,wr (jZ E0) 0 t=some (j,v)->listed.getD j false=true:=by
      intro x hx t e j v hw
      rw [List.all_eq_true] at c4
      have:=c4 (o,i) (mem_zipIdx' hoi)
      simp only [Array.all_eq_true_iff_forall_mem] at this
      have:=this x hx
      subst e
      simp only [hw] at this
      exact hpre' j (any_beq this)
    have hev:=evM (f:=f) (hp:=hp) (b:=b) c1 hdep
    have hw:Wd ops ⟨jE (λj=>listed.getD j false) b (jZ E0) 0 f,hp⟩ o=some true:=by unfold Wd;rw [hgd.2]
    unfold wpOp
    simp only [List.getElem?_toArray,hoi,nC hs hw,if_true]
    refine .inl ?_
    obtain ⟨c,hc1,hc2⟩:=hob.get hoi
    rw [Nat.zero_add] at hc2
    have hmk:∀ t,E0[i]?=some (some (t,none))->i≠mkI->listed.getD mkI false=true:=λt ht hne=>by
      rw [List.all_eq_true] at c5
      have:=c5 (o,i) (mem_zipIdx' hoi)
      simp only [ht,Bool.or_eq_true] at this
      rcases this with h | h
      · exact absurd (Nat.eq_of_beq_eq_true h) hne
      · exact hpre' mkI (any_beq h)
    cases c with
    | mk =>
      obtain ⟨h1,h2,h3,rfl⟩:=hc2
      have hrun:(execOp a.eval o).run P s.w=.ok (.value (.map (some s.w.heap.size))) (s.w.alloc (.map #[] 0)):=by
        simp [execOp,h1,Instr.makeMap,newObj,Sem.run]
      obtain ⟨s',e1,g1,g2,g3,g4⟩:=aGR hs hf
      refine iR hrun ?_
      rw [<- e1]
      refine ih _ s' _ hsz' hcl' hle' ⟨s.w.heap.size,?_,λ_=>⟨hf.size,g3,?_⟩,g4⟩
      · have e2:jE (λj=>listed.getD j false) b (jZ E0) 0 f=jE (λj=>listed.getD j false) s.w.heap.size (jZ E0) 0 f:=L4 b _ E0 0 f λj t hj=>by
          rw [Nat.zero_add]
          cases hlj:listed.getD j false with
          | false=>rfl
          | true =>
            exfalso
            have hjlt:j<ops.length:=by have:=(List.getElem?_eq_some_iff.1 hj).1;omega
            by_cases e:j=i
            · subst e;rw [hun'] at hlj;cases hlj
            · have hoj:ops[j]?=some ops[j]:=by simp [hjlt]
              rw [List.all_eq_true] at c5
              have:=c5 (ops[j],j) (mem_zipIdx' hoj)
              simp only [hj,Bool.or_eq_true] at this
              rcases this with h | h
              · exact e (Nat.eq_of_beq_eq_true h)
              · have:=ED hcl hoj hlj (any_beq h)
                rw [hun'] at this;cases this
        rw [e2] at g1
        have g5:=g1.put (d:=some tm) (x:=.sc (.map (some s.w.heap.size))) (v:=.map (some s.w.heap.size)) (by rw [<- h2];exact hgd.1) (.sc _)
        rw [h2]
        rw [K4 (L:=λj=>listed.getD j false) c1 (DN h3) hL]
        exact g5
      · have:kF (λj=>(listed.setIfInBounds i true).getD j false) I=λ_=>none:=by
          funext k
          have key:∀ J:List (Nat×Int×Int),(∀ p∈J,(listed.setIfInBounds i true).getD p.1 false=false)->kF (λj=>(listed.setIfInBounds i true).getD j false) J k=none:=by
            intro J
            induction J with
            | nil=>intro _;rfl
            | cons p r ihr =>
              intro h
              obtain ⟨j,q,v⟩:=p
              show (bif (listed.setIfInBounds i true).getD j false && decide (k=q) then some v else kF _ r k)=none
              rw [h _ (List.mem_cons_self ..)]
              exact ihr λp hp=>h p (List.mem_cons_of_mem _ hp)
          refine key I λp hp=>?_
          rw [List.all_eq_true] at c8
          have h8:=c8 p hp
          cases hlj:(listed.setIfInBounds i true).getD p.1 false with
          | false=>rfl
          | true =>
            exfalso
            cases hop:ops[p.1]? with
            | none=>rw [hop] at h8;cases h8
            | some op =>
              rw [hop] at h8
              rw [hL p.1] at hlj
              split at hlj
              · rename_i e
                rw [e,hoi,Option.some.injEq] at hop
                subst hop
                have:=hpre' i (any_beq h8)
                rw [hun'] at this;cases this
              · have:=ED hcl hop hlj (any_beq h8)
                rw [hun'] at this;cases this
        rw [this];exact g2
    | ins q v =>
      obtain ⟨h1,h2,h3,h4⟩:=hc2
      rw [List.all_eq_true] at c8
      have h8:=c8 _ h4
      simp only [hoi] at h8
      have hmkl:=hpre' mkI (any_beq h8)
      obtain ⟨hb0,hb1,hmf⟩:=hm hmkl
      obtain ⟨es,clock,q1,q2⟩:=hmf.at'
      have htm:a.eval (.tmp tm)=.map (some b):=by
        have hx:(.tmp tm:Operand)∈o.op.operands:=by simp [h1,Op.operands]
        have hv:(AS.mk (jE (λj=>listed.getD j false) b (jZ E0) 0 f) hp).ev (.tmp tm)=some (.sc (.map (some b))):=by
          show jE _ b _ 0 f tm=_
          rw [tO _ b tm _ 0 f c1,CL tm _ _ 0 mkI c1 (DN hE),Nat.zero_add]
          simp only [hmkl,cond_true];rfl
        exact (rH hs hv).eZ
      have hnew:kF (λj=>listed.getD j false) I q=none:=TV I i q hun' λp hp hq=>by
        rw [List.all_eq_true] at c7
        have:=c7 p hp
        rw [List.all_eq_true] at this
        have:=this _ h4
        simp only [Bool.and_eq_true,hq,decide_true,beq_iff_eq] at this
        exact Nat.eq_of_beq_eq_true this.1
      have hpush:yN (es.push { key:=.int .i64 q,val:=.int .i64 v,born:=clock }).toList (λk=>bif decide (k=q) then some v else kF (λj=>listed.getD j false) I k):=by
        rw [Array.toList_push];exact q2.push hnew
      have hc':=SI (P:=P) (K:=K) (b:=false) (n:=9999) (v:=.int .i64 q) hK s.w
      have hfn:Instr.findNow (.int .i64) (.int .i64 q) es.toList 0=some none:=by
        have:=q2 q
        rw [hnew] at this
        exact this 0
      have hrun:(execOp a.eval o).run P s.w=.ok .skip { s.w with heap:=s.w.heap.setIfInBounds b (.map (es.push { key:=.int .i64 q,val:=.int .i64 v,born:=clock }) (clock+1)) }:=by
        have e2:a.eval (.const (.int .i64 q))=.int .i64 q:=rfl
        have e3:a.eval (.const (.int .i64 v))=.int .i64 v:=rfl
        simp only [execOp,h1,htm,e2,e3,Instr.mapUpdate,Sem.run_bind,run_underlying hT,Result.andThen_ok,run_getObj_map s.w _ _ _ q1,hc',Instr.findKey,run_underlying hK,hfn,Sem.run_pure]
        simp [setObj,Sem.run,q1]
      obtain ⟨s',e1,g1,g2,g3,g4⟩:=Z6 (clock:=clock+1) hs hmf hb1 hpush hb0 hf
      refine O6 hrun ?_
      rw [<- e1,h2]
      refine ih _ s' a hsz' hcl' hle' ⟨b,?_,λ_=>⟨hb0,g3,?_⟩,g4⟩
      · rw [aHC (L:=λj=>listed.getD j false) c1 (aJX h3) hL];exact g1
      · rw [(UY hL hun' I (λp hp hpi=>?_) λp hp hq=>?_).1 h4]
        · exact g2
        · rw [List.all_eq_true] at c7
          have:=c7 p hp
          rw [List.all_eq_true] at this
          have:=this _ h4
          simp only [Bool.and_eq_true,hpi,Nat.beq_refl,Bool.not_true,Bool.false_or,decide_eq_true_eq] at this
          obtain ⟨p1,p2,p3⟩:=p
          simp only at hpi this
          subst hpi
          have e1:p2=q:=by simpa using this.1
          rw [e1,this.2]
        · rw [List.all_eq_true] at c7
          have:=c7 p hp
          rw [List.all_eq_true] at this
          have:=this _ h4
          simp only [Bool.and_eq_true,hq,decide_true,beq_iff_eq] at this
          exact Nat.eq_of_beq_eq_true this.1
    | lk k =>
      obtain ⟨x,y,t,h1,h2,h3,h4,h5⟩:=hc2
      have hall:∀ p∈I,listed.getD p.1 false=true:=by
        rw [List.all_eq_true] at c6
        have:=c6 (o,i) (mem_zipIdx' hoi)
        simp only [hc1,List.any_eq_true] at this
        obtain ⟨j,hj1,hj2⟩:=this
        intro p hp
        cases hoj:ops[j]? with
        | none=>rw [hoj] at hj2;cases hj2
        | some oj =>
          rw [hoj] at hj2
          simp only [List.all_eq_true] at hj2
          exact ED hcl hoj (hpre' j hj1) (any_beq (hj2 p hp))
      have hmkl:listed.getD mkI false=true:=by
        cases hI:I with
        | nil=>rw [hI] at c10;cases c10
        | cons p r =>
          have hp:p∈I:=by rw [hI];exact List.mem_cons_self ..
          rw [List.all_eq_true] at c8
          have h8:=c8 p hp
          cases hop:ops[p.1]? with
          | none=>rw [hop] at h8;cases h8
          | some op=>rw [hop] at h8;exact ED hcl hop (hall p hp) (any_beq h8)
      obtain ⟨hb0,hb1,hmf⟩:=hm hmkl
      obtain ⟨es,clock,q1,q2⟩:=hmf.at'
      rw [VK I hall] at q2
      have ex:a.eval (.tmp x)=.map (some b):=(rH hs ((hev (.tmp x) (by simp [h1,Op.operands])).trans (h4 b))).eZ
      have ey:a.eval y=.int .i64 k:=(rH hs ((hev y (by simp [h1,Op.operands])).trans (h5 b))).eZ
      have hc':=SI (P:=P) (K:=K) (b:=es.isEmpty) (n:=9999) (v:=.int .i64 k) hK s.w
      have hrun:(execOp a.eval o).run P s.w=.ok (.value (.int .i64 (sQ (keysOf I) k))) s.w:=by
        have hk:=q2 k
        rw [V2]
        cases hg:yU (keysOf I) k with
        | some u =>
          rw [hg] at hk
          obtain ⟨j,hj⟩:=hk 0
          simp only [execOp,h1,ex,ey,Instr.lookup,Sem.run_bind,run_underlying hT,Result.andThen_ok,run_getObj_map s.w _ _ _ q1,hc',Instr.findKey,run_underlying hK,hj,Sem.run_pure]
          rfl
        | none =>
          rw [hg] at hk
          have hj:=hk 0
          simp only [execOp,h1,ex,ey,Instr.lookup,Sem.run_bind,run_underlying hT,Result.andThen_ok,run_getObj_map s.w _ _ _ q1,hc',Instr.findKey,run_underlying hK,hj,Sem.run_pure,aAZ hz]
          rfl
      refine iR hrun ?_
      have hs':=hs.put (d:=some t) (x:=int (sQ (keysOf I) k)) (v:=.int .i64 (sQ (keysOf I) k)) (by rw [<- h2];exact hgd.1) (.sc _)
      refine ih _ s _ hsz' hcl' hle' ⟨b,?_,λhl=>?_,hf⟩
      · rw [K4 (L:=λj=>listed.getD j false) c1 (DN h3) hL,h2];exact hs'
      · refine ⟨hb0,hb1,?_⟩
        rw [IR hL I (hni hc1 (λq v h=>by cases h))];exact hmf
    | pu =>
      obtain ⟨t,w,h1,h2,h3⟩:=hc2
      have hy:=zG (S:=⟨qE E0 f b,hp⟩) (S':=⟨jE (λj=>listed.getD j false) b (jZ E0) 0 f,hp⟩) hev rfl (h3 b)
      refine hy s a _ _ hs.heap (hs.opers o) (λ_ h=>h.elim) ?_
      rintro s' u z H' ⟨rfl,rfl⟩ hv hH hf' _
      have hs':=(hs.fr hH hf').put hgd.1 hv
      refine ih _ s' _ hsz' hcl' hle' ⟨b,?_,λhl=>?_,hf.trans hf'⟩
      · rw [K4 (L:=λj=>listed.getD j false) c1 (DN h2) hL]
        rw [h1] at hs' ⊢
        exact hs'
      · by_cases e:i=mkI
        · subst e
          rw [hc1] at c11;cases c11
        · rw [hL,if_neg (Ne.symm e)] at hl
          obtain ⟨hb0,hb1,hmf⟩:=hm hl
          refine ⟨hb0,Nat.lt_of_lt_of_le hb1 hf'.size,?_⟩
          rw [IR hL I (hni hc1 (λq v h=>by cases h))]
          exact hmf.fr hb1 hf'
theorem NB {L:Nat->Bool} (hL:∀ j,L j=false) (b:Nat):∀ (E:List Sl) (i:Nat) (f:Nat->Option AV),jE L b E i f=f
  | [],_,_=>rfl
  | none :: r,i,f=>NB hL b r (i+1) f
  | some (t,v) :: r,i,f=>by
    show jE L b r (i+1) (bif L i then upd f t (some (v b)) else f)=f
    rw [hL i]
    exact NB hL b r (i+1) f
theorem aJI {id:Nat} {l:List Oper} {cc:List Code} {Q:Go.Exit->AS->Prop} (E0:List (Option (Nat×Option AV))) (I:List (Nat×Int×Int)) (mkI tm:Nat) (cs:List MK) (hm:P.follows .mixedOrders=true) (hT:P.underlying T=some (.map K E)) (hK:P.underlying K=some (.int .i64))
    (hz:(P.info? E).bind (·.zero)=some (.int .i64 0)) (hB:(BN n l E0 I mkI cs && yB l)=true) (hE:E0[mkI]?=some (some (tm,none))) (hob:zM P T tm mkI E0 I f hp l cs 0) (h:∀ b,bX P n Q cc ⟨qE E0 f b,hp⟩):bX P n Q (.region id l.toArray true :: cc) ⟨f,hp⟩:=by
  simp only [Bool.and_eq_true] at hB
  intro s a hs
  let s1:Sit:={ s with w:={ s.w with drawn:=s.w.drawn+1 } }
  have hv:∀ x v,VR s x v->VR s1 x v:=λx v h=>VR.mono (s:=s) (s':=s1) (λ_ hi=>⟨hi,rfl⟩) (λ_ _ h=>.inl h) (λ_ h=>h) h
  have hs1:SR n s1 ⟨f,hp⟩ a:=by
    refine ⟨hs.size,hs.defers,λt x hx=>let ⟨v,h1,h2⟩:=hs.slot t x hx;⟨v,h1,hv _ _ h2⟩,⟨λi o ho=>?_,hs.heap.jB,hs.heap.im,hs.heap.fin⟩⟩
    obtain ⟨m,hm⟩:=hs.heap.obj i o ho
    refine ⟨m,⟨hm.hm,hm.bK,hm.hsz,hm.hk,hm.body.imp (λh=>h) λ⟨cur,fr,hb⟩=>⟨cur,fr,⟨hb.hnil,hb.hb,hb.hfr,hb.happ,hb.hcs,hb.hct,hb.hlen,hb.hr,λi r j x v a b c=>hv _ _ (hb.hv i r j x v a b c),hb.h1,hb.him,hb.iW⟩⟩⟩⟩
  have hfr1:Fr s hp s1 hp:=⟨rfl,rfl,rfl,Nat.le_refl _,λ_ _ _=>rfl,λ_ h=>h,λ_ _ _ h=>h,λ_ _ h=>h,hv,λ_ h=>h⟩
  have hrep:∀ j,(Array.replicate l.length false).getD j false=false:=λj=>by
    by_cases hj:j<l.length <;> simp [hj]
  have hcl:Closed l (Array.replicate l.length false):=λj o hj hl' e he hbd=>by rw [hrep] at hl';cases hl'
  have hle:left l.length (Array.replicate l.length false)<=l.length:=by
    unfold left
    exact Nat.le_trans (List.length_filter_le _ _) (by simp)
  have:=aBX (n:=n) (P:=P) (tm:=tm) (s0:=s) hT hK hz hB.1 hB.2 hE hob l.length (Array.replicate l.length false) s1 a (by simp) hcl hle
    ⟨0,by rw [NB hrep];exact hs1,λhl=>(by rw [hrep] at hl;cases hl),hfr1⟩
  have hsz:l.toArray.size=l.length:=by simp
  rw [<- hsz] at this
  have key:jN n.rd P (Code.region id l.toArray true) (λe a' w'=>e=.normal/\∃ S' s',w'=s'.w/\(∃ b,S'=⟨qE E0 f b,hp⟩)/\SR n s' S' a'/\Fr s hp s' S'.hp) a s.w:=EN hm (aHR hB.1) (by rw [hsz] at this ⊢;exact this)
  refine kL key ?_
  rintro e a' w' ⟨rfl,S',s',h1,⟨b,rfl⟩,h3,h4⟩
  exact ⟨_,s',h1,h b,h3,h4⟩
end
end Go.Pv
