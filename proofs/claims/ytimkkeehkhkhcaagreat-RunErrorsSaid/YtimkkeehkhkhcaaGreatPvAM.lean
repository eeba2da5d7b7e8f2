import Derived.Test.YtimkkeehkhkhcaaGreatPvAJ
set_option linter.unusedVariables false
set_option linter.unusedSimpArgs false
namespace Go.Pv
section
variable {P:Program} {n:NT} {ops:List Oper} {rdl kpl:Nat->List Nat} {bm:List Nat} {L:Nat} {K:AS->Prop}
def yU (ops:List Oper) (bm:List Nat) (rdl kpl:Nat->List Nat) (L:Nat):List Nat->Array Bool->Bool
  | [],listed=>(Region.ready .any ops.toArray listed == [L]) && (Region.ready .any ops.toArray (listed.setIfInBounds L true)).isEmpty
  | i :: pi,listed =>
    (match ops[i]? with
     | none=>false
     | some oi=>!(listed.getD i true) && (oi.after.all λe=>!(Region.binds .any e) || listed.getD e.on false) &&
        (ops.zipIdx.all λ(oj,j)=>Nat.beq j i || listed.getD j true || (bm.getD j 0).testBit i || (oi.apart ops.toArray oj && oL (rdl i) (kpl j)))) && (bm.getD L 0).testBit i && yU ops bm rdl kpl L pi (listed.setIfInBounds i true)
def y7 (P:Program) (ops:List Oper) (rdl kpl:Nat->List Nat) (L:Nat) (K:AS->Prop):Nat->Array Bool->AS->Prop
  | 0,listed,S=>Region.ready .any ops.toArray listed=[L]/\Region.ready .any ops.toArray (listed.setIfInBounds L true)=[]/\K S
  | fuel+1,listed,S=>Region.ready .any ops.toArray listed≠[] /\
    ∀ i∈Region.ready .any ops.toArray listed,jH P ops rdl kpl (λ_=>true) i (y7 P ops rdl kpl L K fuel (listed.setIfInBounds i true)) S
theorem aJO {i:Nat} {oi:Oper} {x:AV} (hb:oQ bm ops=true) (hi:ops[i]?=some oi) (hL:(bm.getD L 0).testBit i=true) :
    ∀ (fuel:Nat) (listed:Array Bool) (S:AS),Closed ops listed ->
      (∀ j oj,ops[j]?=some oj->j≠i->listed.getD j true=false->(bm.getD j 0).testBit i=false->oi.apart ops.toArray oj=true/\oL (rdl i) (kpl j)=true) ->
      i∈Region.ready .any ops.toArray listed->PE P ops rdl i oi S x ->
      y7 P ops rdl kpl L K fuel (listed.setIfInBounds i true) (S.put oi.dst x)->y7 P ops rdl kpl L K (fuel+1) listed S:=by
  have self:∀ {S:AS} {K':AS->Prop},PE P ops rdl i oi S x->K' (S.put oi.dst x)->jH P ops rdl kpl (λ_=>true) i K' S:=λhy h=>by
    unfold jH;simp only [hi];rw [if_pos trivial];exact ⟨x,hy,h⟩
  intro fuel
  induction fuel with
  | zero =>
    intro listed S hc _ hr hy H
    refine ⟨λh=>(by rw [h] at hr;cases hr),λj hj=>?_⟩
    by_cases hji:j=i
    · subst hji;exact self hy H
    · have:=ready_mono hj hji
      rw [H.1] at this
      simp only [List.mem_singleton] at this
      subst this
      have:=zJ hb hc hj (mem_ready.1 hr).1
      rw [hL] at this;cases this
  | succ fuel ih =>
    intro listed S hc hfree hr hy H
    refine ⟨λh=>(by rw [h] at hr;cases hr),λj hj=>?_⟩
    by_cases hji:j=i
    · subst hji;exact self hy H
    · have h1:=H.2 j (ready_mono hj hji)
      obtain ⟨hjun,oj,hoj,hall⟩:=mem_ready.1 hj
      have hoj':ops[j]?=some oj:=by simpa using hoj
      obtain ⟨f1,f2⟩:=hfree j oj hoj' hji hjun (zJ hb hc hj (mem_ready.1 hr).1)
      have h2:=NS hoj' f1 f2 hy h1
      have hfree':∀ k ok,ops[k]?=some ok->k≠i->(listed.setIfInBounds j true).getD k true=false->(bm.getD k 0).testBit i=false->oi.apart ops.toArray ok=true/\oL (rdl i) (kpl k)=true:=λk ok hk hki hun hno=>by
        refine hfree k ok hk hki ?_ hno
        by_cases hjk:j=k
        · subst hjk;exact hjun
        · rw [getD_set_ne true hjk] at hun;exact hun
      refine EF (λS' h3=>ih (listed.setIfInBounds j true) S' (zB hc hj) hfree' (ready_mono hr (Ne.symm hji)) h3.1 ?_) h2
      rw [Array.setIfInBounds_comm _ _ hji]
      exact h3.2
theorem MF (hb:oQ bm ops=true):∀ (pi:List Nat) (listed:Array Bool) (S:AS),Closed ops listed->yU ops bm rdl kpl L pi listed=true->DE P ops rdl kpl (λ_=>true) K pi S->y7 P ops rdl kpl L K pi.length listed S
  | [],listed,S,_,hc,h=>by
    unfold yU at hc
    simp only [Bool.and_eq_true,beq_iff_eq,List.isEmpty_iff] at hc
    exact ⟨hc.1,hc.2,h⟩
  | i :: pi,listed,S,hcl,hc,h=>by
    unfold yU at hc
    cases ho:ops[i]? with
    | none=>rw [ho] at hc;simp at hc
    | some oi =>
      rw [ho] at hc
      simp only [Bool.and_eq_true,Bool.not_eq_true'] at hc
      obtain ⟨⟨⟨⟨c1,c2⟩,c3⟩,cL⟩,c4⟩:=hc
      have hready:i∈Region.ready .any ops.toArray listed:=by
        refine mem_ready.2 ⟨c1,oi,by simpa using ho,λe he hbd=>?_⟩
        rw [Array.all_eq_true_iff_forall_mem] at c2
        have:=c2 e he
        simpa [hbd] using this
      have hcl':=zB hcl hready
      have h2:jH P ops rdl kpl (λ_=>true) i (DE P ops rdl kpl (λ_=>true) K pi) S:=h
      unfold jH at h2
      simp only [ho] at h2
      rw [if_pos trivial] at h2
      obtain ⟨x,g1,g2⟩:=h2
      refine aJO hb ho cL pi.length listed S hcl (λj oj hj hji hun hno=>?_) hready g1 (MF hb pi _ _ hcl' c4 g2)
      rw [List.all_eq_true] at c3
      have:=c3 (oj,j) (mem_zipIdx' hj)
      have e1:Nat.beq j i=false:=by cases hbq:Nat.beq j i with | false=>rfl | true=>exact absurd (Nat.eq_of_beq_eq_true hbq) hji
      simp only [e1,hun,hno,Bool.false_or,Bool.and_eq_true] at this
      exact ⟨this.1,this.2⟩
theorem DI {s0:Sit} {H0:AH} {Q:Go.Exit->Act->World->Prop} (hdst:∀ (i:Nat) (o:Oper),ops[i]?=some o->kP n o.dst=true)
    (hfin:∀ S s a,K S->SR n s S a->Fr s0 H0 s S.hp->wpOp P ops.toArray Q L (λa w=>Q .normal a w) a s.w):∀ (fuel:Nat) (listed:Array Bool) (S:AS) (s:Sit) (a:Act),SR n s S a->Fr s0 H0 s S.hp ->
    y7 P ops rdl kpl L K fuel listed S->wpAny P .any ops.toArray Q (fuel+1) listed a s.w
  | 0,listed,S,s,a,hs,hf,h=>by
    refine ⟨λh0=>(by rw [h.1] at h0;cases h0),λi hi=>?_⟩
    rw [h.1] at hi
    simp only [List.mem_singleton] at hi
    subst hi
    exact wpOp_mono (λa w q=>⟨h.2.1,q⟩) (hfin S s a h.2.2 hs hf)
  | fuel+1,listed,S,s,a,hs,hf,h=>by
    refine ⟨λh0=>(h.1 h0).elim,λi hi=>?_⟩
    have h1:=h.2 i hi
    unfold jH at h1
    unfold wpOp
    simp only [List.getElem?_toArray]
    cases ho:ops[i]? with
    | none =>
      simp only [ho] at h1
      exact DI hdst hfin fuel _ S s a hs hf h1
    | some o =>
      simp only [ho] at h1
      have hd:=hdst i o ho
      rw [if_pos trivial] at h1
      obtain ⟨x,hy,hK⟩:=h1
      rcases hy with ⟨hw,hY⟩ | ⟨hw,rfl⟩
      · simp only [nE hs hw,if_true]
        refine .inl (hY S.hp (λ_ _=>Kq.refl) s a _ _ hs.heap (hs.opers o) (λ_ h=>h.elim) ?_)
        rintro s' v y H' ⟨rfl,rfl⟩ hv hH' hf' _
        have hs':SR n s' (S.put o.dst y) (a.put o.dst v):=(hs.fr hH' hf').put hd hv
        exact DI hdst hfin fuel _ _ s' _ hs' (by rw [AS.pJ];exact hf.trans hf') hK
      · simp only [nE hs hw,Bool.false_eq_true,if_false]
        exact DI hdst hfin fuel _ _ s _ (hs.put hd (.sc _)) (by rw [AS.pJ];exact hf) hK
end
section
variable {P:Program} {n:NT} {S:AS} {ops:List Oper} {o:Oper}
theorem aBH {s:Sit} {a:Act} {T t:Nat} {x:Operand} {l:List UInt8} {next:Act->World->Prop} {Q:Go.Exit->Act->World->Prop} (ho:o.op=.range T x) (hd:o.dst=some t) (ht:Nat.blt t n.n=true) (hT:P.underlying T=some .string)
    (hs:SR n s S a) (hx:S.ev x=some (str l))
    (h:∀ b s' a',SR n s' ⟨upd S.sl t (some (rR b)),S.hp⟩ a'->Fr s S.hp s' S.hp->oO s' S.hp b l 0->s.w.heap.size<=b->b<s'.w.heap.size->next a' s'.w):o.wp P a s.w next Q:=by
  have hv:=(hs.opers o x (by simp [ho,Op.operands]) _ hx).gJ
  have hrun:(execOp a.eval o).run P s.w=.ok (.value (.pointer (some ⟨s.w.heap.size,0,none⟩))) (s.w.alloc (.stringIter (bs l) 0)):=by
    simp [execOp,ho,hv,Instr.range,Sem.run_bind,run_underlying hT,newObj,Sem.run]
  refine jM hrun ?_
  have hsz:(s.w.alloc (.stringIter (bs l) 0)).heap.size=s.w.heap.size+1:=by simp
  have hold:∀ j,j<s.w.heap.size->(s.w.alloc (.stringIter (bs l) 0)).heap[j]?=s.w.heap[j]?:=λj hj=>alloc_old s.w _ j hj
  obtain ⟨g1,g2⟩:=yS hs.heap (s.w.alloc (.stringIter (bs l) 0)) (by rw [hsz];omega) (λj hj=>hold j (by
    rcases hj with hj | ⟨id,ob,m,q1,q2,q3,q4⟩
    · exact hs.heap.im j hj
    · obtain ⟨m',hm'⟩:=hs.heap.obj id ob q1
      have e:m'=m:=by have:=hm'.hm.symm.trans q2;simpa using this
      subst e
      rcases hm'.body with ⟨q,_⟩ | ⟨cur,fr,hb⟩
      · rw [q] at q3;cases q3
      · have:=hb.hb;rw [q4] at this
        exact (Array.getElem?_eq_some_iff.1 this).1))
  have hno:¬ jY { s with w:=s.w.alloc (.stringIter (bs l) 0) } S.hp s.w.heap.size:=by
    rintro ⟨id,ob,m,q1,q2,q3,q4,q5⟩
    obtain ⟨m',hm'⟩:=hs.heap.obj id ob q1
    have e:m'=m:=by have:=hm'.hm.symm.trans q3;simpa using this
    subst e
    rcases hm'.body with ⟨q,_⟩ | ⟨cur,fr,hb⟩
    · rw [q] at q4;cases q4
    · have:=hb.hb;rw [q5] at this
      exact absurd (Array.getElem?_eq_some_iff.1 this).1 (Nat.lt_irrefl _)
  have hfr:Fr s S.hp { s with w:=s.w.alloc (.stringIter (bs l) 0) } S.hp :=
    ⟨rfl,rfl,rfl,by simp,λb hb _=>hold b hb,λ_ h=>h,λ_ _ _ h=>h,λ_ _ h=>h,g2,λ_ h=>h⟩
  have hs':=(hs.vals (s':={ s with w:=s.w.alloc (.stringIter (bs l) 0) }) g1 g2).put (d:=some t) (x:=rR s.w.heap.size) (v:=.pointer (some ⟨s.w.heap.size,0,none⟩)) (by simpa [kP] using ht) (.sc _)
  rw [hd]
  exact h s.w.heap.size { s with w:=s.w.alloc (.stringIter (bs l) 0) } _ hs' hfr ⟨λhi=>absurd (hs.heap.im _ hi) (Nat.lt_irrefl _),hno,mZ s.w _⟩ (Nat.le_refl _) (by simp)
theorem mO {rdl kpl:Nat->List Nat} {pu:Nat->Bool} {K:AS->Prop} {pi:List Nat} {f:Nat->Option AV} {hp:AH} {u:AV} (t:Nat) (v:AV) (h:f t=some u) (e:u=v) (h1:DE P ops rdl kpl pu K pi ⟨upd f t (some v),hp⟩):DE P ops rdl kpl pu K pi ⟨f,hp⟩:=by
  subst e
  have e1:upd f t (some u)=f:=by
    funext i
    by_cases hi:i=t
    · subst hi;rw [upd_same,h]
    · exact upd_ne _ _ hi
  rw [e1] at h1;exact h1
def QX (n:NT) (ops:List Oper) (bm:List Nat) (rdl kpl:Nat->List Nat) (L:Nat) (pi:List Nat):Bool :=
  oQ bm ops && (ops.all λo=>kP n o.dst && kN o) && Nat.beq (pi.length+1) ops.length && yU ops bm rdl kpl L pi (Array.replicate ops.length false)
variable {Q0:Go.Exit->AS->Prop} {st:List Fm} {cs:List Code}
theorem mP {rid rid2 out it nx mo:Nat} {o1 o2:Oper} {y:Code} {T t:Nat} {x:Operand} {ol:Oper} (bm:List Nat) (rdl kpl:Nat->List Nat) (L:Nat) (pi:List Nat) (hmx:P.follows .mixedOrders=true)
    (hB:QX n ops bm rdl kpl L pi=true) (ho1:o1.op=.next (.tmp it) true) (hd1:o1.dst=some nx) (hg1:o1.guard=none)
    (ho2:o2.op=.extract (.tmp nx) 0) (hd2:o2.dst=some mo) (hg2:o2.guard=none) (hn:Nat.blt nx n.n=true) (hm:Nat.blt mo n.n=true)
    (hol:ops[L]?=some ol) (hop:ol.op=.range T x) (hgl:ol.guard=none) (hdl:ol.dst=some t) (htl:Nat.blt t n.n=true) (hT:P.underlying T=some .string)
    (h:DE P ops rdl kpl (λ_=>true) (λS'=>∃ l,S'.ev x=some (str l)/\zH l=true/\∀ b,GG P n Q0 (.rs it nx mo b y l 0 :: .blk out cs :: st) (.c []) ⟨upd S'.sl t (some (rR b)),S'.hp⟩) pi S) :
    dI P n (QQ P n Q0 st) (.seq (.region rid ops.toArray true) (.block out (.loop (.seq (.region rid2 #[o1,o2] false) y))) :: cs) S:=by
  intro s a hs
  refine DC ?_
  unfold QX at hB
  simp only [Bool.and_eq_true] at hB
  obtain ⟨⟨⟨b1,b2⟩,b3⟩,b4⟩:=hB
  have b3:=Nat.eq_of_beq_eq_true b3
  let s1:Sit:={ s with w:={ s.w with drawn:=s.w.drawn+1 } }
  have hv:∀ x v,VR s x v->VR s1 x v:=λx v h=>VR.mono (s:=s) (s':=s1) (λ_ hi=>⟨hi,rfl⟩) (λ_ _ h=>.inl h) (λ_ h=>h) h
  have hs1:SR n s1 S a:=by
    refine ⟨hs.size,hs.defers,λt x hx=>let ⟨v,h1,h2⟩:=hs.slot t x hx;⟨v,h1,hv _ _ h2⟩,⟨λi o ho=>?_,hs.heap.jQ,hs.heap.im,hs.heap.fin⟩⟩
    obtain ⟨m,hm⟩:=hs.heap.obj i o ho
    refine ⟨m,⟨hm.hm,hm.bP,hm.hsz,hm.hk,hm.body.imp (λh=>h) λ⟨cur,fr,hb⟩=>⟨cur,fr,⟨hb.hnil,hb.hb,hb.hfr,hb.happ,hb.hcs,hb.hct,hb.hlen,hb.hr,λi r j x v a b c=>hv _ _ (hb.hv i r j x v a b c),hb.h1,hb.him,hb.jI⟩⟩⟩⟩
  have hfr1:Fr s S.hp s1 S.hp:=⟨rfl,rfl,rfl,Nat.le_refl _,λ_ _ _=>rfl,λ_ h=>h,λ_ _ _ h=>h,λ_ _ h=>h,hv,λ_ h=>h⟩
  have hcl:Closed ops (Array.replicate ops.length false):=λj o hj hl' e he hbd=>by
    exfalso
    have hjl:=(List.getElem?_eq_some_iff.1 hj).1
    simp [hjl] at hl'
  have hF:=MF (P:=P) b1 pi (Array.replicate ops.length false) S hcl b4 h
  have:=DI (n:=n) (s0:=s) (H0:=S.hp) (Q:=λe a' w'=>e=.normal/\∃ b l S' s',w'=s'.w/\(zH l=true/\GG P n Q0 (.rs it nx mo b y l 0 :: .blk out cs :: st) (.c []) S')/\SR n s' S' a'/\Fr s S.hp s' S'.hp/\oO s' S'.hp b l 0/\s.w.heap.size<=b/\b<s'.w.heap.size)
    (λi o ho=>by rw [List.all_eq_true] at b2;have:=b2 o (List.mem_of_getElem? ho);rw [Bool.and_eq_true] at this;exact this.1)
    (λS' s' a' ⟨l,q1,q2,q3⟩ hs' hf'=>by
      have hw:Wd ops S' ol=some true:=by unfold Wd;rw [hgl]
      unfold wpOp
      simp only [List.getElem?_toArray,hol,nE hs' hw,if_true]
      refine .inl (aBH hop hdl htl hT hs' q1 ?_)
      intro b s2 a2 g1 g2 g3 g4 g5
      exact ⟨by first | rfl | trivial,b,l,_,s2,rfl,⟨q2,q3 b⟩,g1,hf'.trans g2,g3,Nat.le_trans hf'.size g4,g5⟩) pi.length _ S s1 a hs1 hfr1 hF
  have hsz:ops.toArray.size=pi.length+1:=by simp [b3]
  rw [show Array.replicate ops.length false=Array.replicate ops.toArray.size false by simp,<- hsz] at this
  refine kJ (JX hmx (GU b2) this) ?_
  rintro e a1 w1 ⟨rfl,b,l,S1,s1,rfl,⟨ha,hk⟩,hs1,hf1,hi1,hb0,hb1⟩
  refine HV (kJ (RA (l:=l) (s0:=s) (H0:=S.hp) (F:=QQ P n Q0 (.blk out cs :: st)) ho1 hd1 hg1 ho2 hd2 hg2 hn hm hb0 ha ⟨0,S1,s1,rfl,hs1,hb1,hi1,hf1,hk⟩) ?_)
  rintro e a2 w2 ⟨S2,s2,rfl,hq,hs2,hf2⟩
  cases e with
  | exit i =>
    have hq:cond (Nat.beq i out) (dI P n (QQ P n Q0 st) cs S2) (QQ P n Q0 st (.exit i) S2):=hq
    simp only [Exit.inBlock]
    split
    · rename_i he
      subst he
      rw [show Nat.beq i i=true from Nat.beq_refl i] at hq
      exact ⟨S2,s2,rfl,hq,hs2,hf2⟩
    · rename_i he
      rw [show Nat.beq i out=false from by cases hb:Nat.beq i out with | false=>rfl | true=>exact absurd (Nat.eq_of_beq_eq_true hb) he] at hq
      exact ⟨S2,s2,rfl,hq,hs2,hf2⟩
  | _=>exact ⟨S2,s2,rfl,hq,hs2,hf2⟩
end
set_option maxRecDepth 100000
section
variable {P:Program} {l D p:Nat} {fn:FuncId} {tmps:Array Value} {assign body:Code} {s:Sit} {H:AH} {x:AV} {v:Value}
end
section
variable {P:Program}
end
section
variable {P:Program} {n:NT} {S:AS} {o:Oper} {T:TypeId} {x y:Operand} {α:Type}
end
end Go.Pv
