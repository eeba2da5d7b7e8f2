/- Strings gone through by their bytes: a range over a string, round by round. -/
import Derived.Test.YtmokiknakhhhdaaGreatPvAG
set_option linter.unusedVariables false
set_option linter.unusedSimpArgs false
namespace Go.Pv
section
variable {P:Program} {n:NT}
structure pR (s:Sit) (H:AH) (b:Nat) (l:List UInt8) (p:Nat):Prop where
  him:¬ s.Im b
  hno:¬ jX s H b
  at':s.w.heap[b]?=some (.stringIter (bs l) p)
theorem pR.fr {s s':Sit} {H H':AH} {b:Nat} {l:List UInt8} {p:Nat} (h:pR s H b l p) (hb:b<s.w.heap.size) (hf:Fr s H s' H'):pR s' H' b l p :=
  ⟨λhi=>h.him (hf.jD b hb h.hno hi),λho=>h.hno (hf.own b hb ho),(hf.keep b hb h.hno).trans h.at'⟩
theorem U5 {w:World} {b:Nat} {l:ByteArray} {p:Nat} (h:w.heap[b]?=some (.stringIter l p)):(getObj b).run P w=.ok (.stringIter l p) w:=by
  simp [getObj,Sem.run,h]
def zV (l:List UInt8):Bool:=l.all λc=>Nat.blt c.toNat 128
theorem aG8 {l:List UInt8} {p:Nat} {c:UInt8} (h:l[p]?=some c) (hc:c.toNat<128):Utf8.decode (bs l) p=(c.toNat,1):=by
  have hp:=(List.getElem?_eq_some_iff.1 h).1
  have e:(bs l).get! (p+0)=c:=by
    show (l.toArray[p+0]!)=c
    simp [getElem!_def,h]
  unfold Utf8.decode
  simp only [e,hc,if_true]
theorem aOM {s:Sit} {S:AS} {a:Act} {b:Nat} {l:List UInt8} {p q:Nat} (hs:SR n s S a) (hi:pR s S.hp b l p) (hb:b<s.w.heap.size) {s0:Sit} {H0:AH} (h0:s0.w.heap.size<=b) (hf:Fr s0 H0 s S.hp) :
    ∃ s',s'.w={ s.w with heap:=s.w.heap.setIfInBounds b (.stringIter (bs l) q) }/\SR n s' S a/\pR s' S.hp b l q/\b<s'.w.heap.size/\Fr s0 H0 s' S.hp:=by
  have hold:∀ j,j≠b->(s.w.heap.setIfInBounds b (.stringIter (bs l) q))[j]?=s.w.heap[j]?:=λj hj=>by rw [Array.getElem?_setIfInBounds_ne (Ne.symm hj)]
  obtain ⟨g1,g2⟩:=wK hs.heap { s.w with heap:=s.w.heap.setIfInBounds b (.stringIter (bs l) q) } (by simp) (λj hj=>hold j (by
    rintro rfl
    rcases hj with hj | ⟨id,ob,m',p1,p2,p3,p4⟩
    · exact hi.him hj
    · obtain ⟨m2,hm2⟩:=hs.heap.obj id ob p1
      have e:m2=m':=by have:=hm2.hm.symm.trans p2;simpa using this
      subst e
      rcases hm2.body with ⟨q,_⟩ | ⟨cur,fr,hb⟩
      · rw [q] at p3;cases p3
      · exact SX hi.him hi.hno p1 p2 hb p4))
  exact ⟨{ s with w:={ s.w with heap:=s.w.heap.setIfInBounds b (.stringIter (bs l) q) } },rfl,hs.vals g1 g2,⟨hi.him,hi.hno,Array.getElem?_setIfInBounds_self_of_lt hb⟩,by simpa using hb,
    hf.os,hf.tape,hf.output,by simpa using hf.size,λj hj hno=>(hold j (by omega)).trans (hf.keep j hj hno),hf.jV,hf.jD,hf.own,λx v hx=>g2 _ _ (hf.vals x v hx),hf.lT⟩
theorem aJH {s:Sit} {b:Nat} {v:Value} (h:VR s (tZ b) v):v=.pointer (some ⟨b,0,none⟩):=h.eZ
theorem TO {it nx mo b rid:Nat} {o1 o2:Oper} {y:Code} {F:Go.Exit->AS->Prop} {l:List UInt8} {s0:Sit} {H0:AH} (ho1:o1.op=.next (.tmp it) true) (hd1:o1.dst=some nx) (hg1:o1.guard=none)
    (ho2:o2.op=.extract (.tmp nx) 0) (hd2:o2.dst=some mo) (hg2:o2.guard=none) (hn:Nat.blt nx n.n=true) (hm:Nat.blt mo n.n=true) (hb0:s0.w.heap.size<=b) (ha:zV l=true) {a:Act} {w:World}
    (h:∃ p S s,w=s.w/\SR n s S a/\b<s.w.heap.size/\pR s S.hp b l p/\Fr s0 H0 s S.hp/\RQ P n it nx mo b y F (l.drop p) p .normal S) :
    jN n.rd P (Code.loop (.seq (.region rid #[o1,o2] false) y)) (λe a' w'=>∃ S' s',w'=s'.w/\F e S'/\SR n s' S' a'/\Fr s0 H0 s' S'.hp) a w:=by
  refine aOU (λa w=>∃ p S s,w=s.w/\SR n s S a/\b<s.w.heap.size/\pR s S.hp b l p/\Fr s0 H0 s S.hp/\RQ P n it nx mo b y F (l.drop p) p .normal S)
    (λ_ w=>match w.heap[b]? with | some (.stringIter x p)=>x.size-p | _=>0) h ?_
  rintro a w ⟨p,S,s,rfl,hs,hb,hi,hf,hq⟩
  have hw1:Wd [o1,o2] S o1=some true:=by unfold Wd;rw [hg1]
  have hslot:S.sl it=some (tZ b):=by
    cases hl:l.drop p with
    | nil=>rw [hl] at hq;exact hq.1
    | cons c r=>rw [hl] at hq;exact hq.1
  have hit:a.eval (.tmp it)=.pointer (some ⟨b,0,none⟩):=aJH (rH (o:=.tmp it) hs hslot)
  refine FQ ?_
  refine aBA (by simp [kW,ho1,ho2]) ?_
  rw [show List.range (#[o1,o2]:Array Oper).size=[0,1] from rfl]
  have second:∀ (S1:AS) (s1:Sit) (a1:Act) (t:Bool) (vs:List AV),SR n s1 S1 a1->S1.sl nx=some (.aS (aB t :: vs))->∀ {R:Go.Exit->Act->World->Prop},
      (∀ s2 a2,s2.w=s1.w->SR n s2 ⟨upd S1.sl mo (some (aB t)),S1.hp⟩ a2->Fr s1 S1.hp s2 S1.hp->R .normal a2 s2.w)->wpOps P #[o1,o2] R [1] a1 s1.w:=by
    intro S1 s1 a1 t vs hs1 hnx R hR
    have hw2:Wd [o1,o2] S1 o2=some true:=by unfold Wd;rw [hg2]
    have hwd:=nC hs1 hw2
    simp only [wpOps,List.getElem?_toArray,List.getElem?_cons_succ,List.getElem?_cons_zero]
    rw [show (yielded #[o1,o2] a1.tmps)=yielded ([o1,o2].toArray) a1.tmps from rfl,hwd,if_pos rfl]
    obtain ⟨v,hv1,hv2⟩:=hs1.slot nx _ hnx
    have hev:a1.eval (.tmp nx)=v:=by simp [Act.eval,hv1]
    have hx:=JM (P:=P) (S:=S1) (o:=o2) ho2 (by exact hnx:S1.ev (.tmp nx)=some (.aS (aB t :: vs))) (rfl:(aB t :: vs)[0]?=some (aB t))
    refine .inl ?_
    cases hv2 with
    | aS hl hvv =>
      rename_i us
      have h0:∃ u,us[0]?=some u:=by
        have:0<us.size:=by rw [<- hl];simp
        exact ⟨us[0],by simp [this]⟩
      obtain ⟨u,hu⟩:=h0
      have hu2:=(hvv 0 (aB t) u rfl hu).eZ
      subst hu2
      have hrun:(execOp a1.eval o2).run P s1.w=.ok (.value (.bool t)) s1.w:=by
        simp [execOp,ho2,hev,Instr.extract,hu]
      refine iR hrun ?_
      refine hR s1 _ rfl ?_ (Fr.refl _ _)
      have:=hs1.put (d:=some mo) (x:=aB t) (v:=.bool t) (by simpa [kU] using hm) (.sc _)
      rw [hd2];exact this
  unfold wpOps
  rw [show (#[o1,o2]:Array Oper)[0]?=some o1 from rfl]
  simp only []
  rw [show (yielded #[o1,o2] a.tmps)=yielded ([o1,o2].toArray) a.tmps from rfl,nC hs hw1,if_pos rfl]
  refine .inl ?_
  cases hl:l.drop p with
  | nil =>
    rw [hl] at hq
    have hp:¬ p<l.length:=by
      have:=congrArg List.length hl
      simp at this;omega
    have hrun:(execOp a.eval o1).run P s.w=.ok (.value (.tuple #[.bool false])) s.w:=by
      simp only [execOp,ho1,hit,Instr.next,Sem.run_bind,U5 hi.at',Result.andThen_ok]
      rw [if_neg (by rw [kP];exact hp)]
      rfl
    refine iR hrun ?_
    have hs1:=hs.put (d:=some nx) (x:=.aS [aB false]) (v:=.tuple #[.bool false]) (by simpa [kU] using hn) (.aS rfl λi x v hx hv=>by
      cases i with
      | zero=>simp at hx hv;subst hx hv;exact .sc _
      | succ i=>simp at hx)
    rw [hd1]
    refine second _ s _ false [] hs1 (upd_same _ _ _) ?_
    rintro s2 a2 e2 hs2 hf2
    refine ⟨rfl,?_⟩
    refine kL (lQ hq.2 s2 a2 hs2) ?_
    rintro e a3 w3 ⟨S3,s3,rfl,q1,q2,q3⟩
    cases e with
    | normal=>exact q1.elim
    | _=>exact ⟨S3,s3,rfl,q1,q2,(hf.trans hf2).trans q3⟩
  | cons c r =>
    rw [hl] at hq
    obtain ⟨hlp,hdr⟩:=drop_cons hl
    have hp:=(List.getElem?_eq_some_iff.1 hlp).1
    have hc:c.toNat<128:=by
      unfold zV at ha
      rw [List.all_eq_true] at ha
      exact Nat.blt_eq.mp (ha c (List.mem_of_getElem? hlp))
    obtain ⟨s1,e1,hs1,hi1,hb1,hf1⟩:=aOM (q:=p+1) hs hi hb hb0 hf
    have hrun:(execOp a.eval o1).run P s.w=.ok (.value (.tuple #[.bool true,.int .i64 p,.int .i32 c.toNat])) s1.w:=by
      simp only [execOp,ho1,hit,Instr.next,Sem.run_bind,U5 hi.at',Result.andThen_ok]
      rw [if_pos (by rw [kP];exact hp),aG8 hlp hc,e1]
      simp [setObj,Sem.run,hi.at',goInt]
    refine iR hrun ?_
    have hs1':=hs1.put (d:=some nx) (x:=.aS [aB true,int p,.sc (.int .i32 c.toNat)]) (v:=.tuple #[.bool true,.int .i64 p,.int .i32 c.toNat]) (by simpa [kU] using hn) (.aS rfl λi x v hx hv=>by
      match i with
      | 0=>simp at hx hv;subst hx hv;exact .sc _
      | 1=>simp at hx hv;subst hx hv;exact .sc _
      | 2=>simp at hx hv;subst hx hv;exact .sc _
      | i+3=>simp at hx)
    rw [hd1]
    refine second _ s1 _ true [int p,.sc (.int .i32 c.toNat)] hs1' (upd_same _ _ _) ?_
    rintro s2 a2 e2 hs2 hf2
    refine ⟨rfl,?_⟩
    refine kL (lQ (S:=⟨upd (upd S.sl nx (some (.aS [aB true,int p,.sc (.int .i32 c.toNat)]))) mo (some (aB true)),S.hp⟩) hq.2 s2 a2 hs2) ?_
    rintro e a3 w3 ⟨S3,s3,rfl,q1,q2,q3⟩
    cases e with
    | normal =>
      have hi3:pR s3 S3.hp b l (p+1):=pR.fr (pR.fr hi1 hb1 hf2) (Nat.lt_of_lt_of_le hb1 hf2.size) q3
      refine ⟨⟨p+1,S3,s3,rfl,q2,Nat.lt_of_lt_of_le (Nat.lt_of_lt_of_le hb1 hf2.size) q3.size,hi3,(hf1.trans hf2).trans q3,by rw [hdr];exact q1⟩,?_⟩
      show (match s3.w.heap[b]? with | some (.stringIter x p)=>x.size-p | _=>0)<(match s.w.heap[b]? with | some (.stringIter x p)=>x.size-p | _=>0)
      rw [hi3.at',hi.at']
      show (bs l).size-(p+1)<(bs l).size-p
      rw [kP];omega
    | _ =>
      exact ⟨S3,s3,rfl,by cases r <;> exact q1,q2,(hf1.trans hf2).trans q3⟩
def U0 (P:Program) (n:NT) (ops todo:List Oper) (S:AS) (K:Nat->List UInt8->AS->Prop):Prop :=
  ∀ k,ops.drop k=todo->∀ s a,SR n s S a ->
    wpOps P ops.toArray (λe a' w'=>e=.normal/\∃ b l S' s',w'=s'.w/\K b l S'/\SR n s' S' a'/\Fr s S.hp s' S'.hp/\pR s' S'.hp b l 0/\s.w.heap.size<=b/\b<s'.w.heap.size) (List.range' k todo.length) a s.w
variable {S:AS} {ops rest:List Oper} {o:Oper} {K:Nat->List UInt8->AS->Prop}
theorem aLR {T t:Nat} {x:Operand} {l:List UInt8} (ho:o.op=.range T x) (hg:o.guard=none) (hd:o.dst=some t) (ht:Nat.blt t n.n=true) (hT:P.underlying T=some .string) (hx:S.ev x=some (str l))
    (h:∀ b,K b l ⟨upd S.sl t (some (tZ b)),S.hp⟩):U0 P n ops [o] S K:=by
  intro k hk s a hs
  obtain ⟨h0,h1⟩:=drop_cons hk
  have hw:Wd ops S o=some true:=by unfold Wd;rw [hg]
  rw [show List.range' k [o].length=[k] from rfl]
  simp only [wpOps,List.getElem?_toArray,h0,nC hs hw,if_true]
  have hv:=(hs.opers o x (by simp [ho,Op.operands]) _ hx).eZ
  have hrun:(execOp a.eval o).run P s.w=.ok (.value (.pointer (some ⟨s.w.heap.size,0,none⟩))) (s.w.alloc (.stringIter (bs l) 0)):=by
    simp [execOp,ho,hv,Instr.range,Sem.run_bind,run_underlying hT,newObj,Sem.run]
  refine .inl (iR hrun ?_)
  have hsz:(s.w.alloc (.stringIter (bs l) 0)).heap.size=s.w.heap.size+1:=by simp
  have hold:∀ j,j<s.w.heap.size->(s.w.alloc (.stringIter (bs l) 0)).heap[j]?=s.w.heap[j]?:=λj hj=>alloc_old s.w _ j hj
  obtain ⟨g1,g2⟩:=wK hs.heap (s.w.alloc (.stringIter (bs l) 0)) (by rw [hsz];omega) (λj hj=>hold j (by
    rcases hj with hj | ⟨id,ob,m,q1,q2,q3,q4⟩
    · exact hs.heap.im j hj
    · obtain ⟨m',hm'⟩:=hs.heap.obj id ob q1
      have e:m'=m:=by have:=hm'.hm.symm.trans q2;simpa using this
      subst e
      rcases hm'.body with ⟨q,_⟩ | ⟨cur,fr,hb⟩
      · rw [q] at q3;cases q3
      · have:=hb.hb;rw [q4] at this
        exact (Array.getElem?_eq_some_iff.1 this).1))
  have hno:¬ jX { s with w:=s.w.alloc (.stringIter (bs l) 0) } S.hp s.w.heap.size:=by
    rintro ⟨id,ob,m,q1,q2,q3,q4,q5⟩
    obtain ⟨m',hm'⟩:=hs.heap.obj id ob q1
    have e:m'=m:=by have:=hm'.hm.symm.trans q3;simpa using this
    subst e
    rcases hm'.body with ⟨q,_⟩ | ⟨cur,fr,hb⟩
    · rw [q] at q4;cases q4
    · have:=hb.hb;rw [q5] at this
      exact absurd (Array.getElem?_eq_some_iff.1 this).1 (Nat.lt_irrefl _)
  have hfr:Fr s S.hp { s with w:=s.w.alloc (.stringIter (bs l) 0) } S.hp :=
    ⟨rfl,rfl,rfl,by simp,λb hb _=>hold b hb,λ_ h=>h,λ_ _ _ h=>h,λ_ _ h=>h,g2,λ_ h=>h⟩
  have hs':=(hs.vals (s':={ s with w:=s.w.alloc (.stringIter (bs l) 0) }) g1 g2).put (d:=some t) (x:=tZ s.w.heap.size) (v:=.pointer (some ⟨s.w.heap.size,0,none⟩)) (by simpa [kU] using ht) (.sc _)
  rw [hd]
  exact ⟨by first | rfl | trivial,s.w.heap.size,l,_,_,rfl,h s.w.heap.size,hs',hfr,⟨λhi=>absurd (hs.heap.im _ hi) (Nat.lt_irrefl _),hno,nL s.w _⟩,Nat.le_refl _,by simp⟩
variable {Q0:Go.Exit->AS->Prop} {st:List Fm} {cs:List Code}
theorem aFV {rid rid2 out it nx mo:Nat} {o1 o2:Oper} {y:Code} (ho1:o1.op=.next (.tmp it) true) (hd1:o1.dst=some nx) (hg1:o1.guard=none)
    (ho2:o2.op=.extract (.tmp nx) 0) (hd2:o2.dst=some mo) (hg2:o2.guard=none) (hn:Nat.blt nx n.n=true) (hm:Nat.blt mo n.n=true)
    (h:U0 P n ops ops S λb l S'=>zV l=true/\GG P n Q0 (.rs it nx mo b y l 0 :: .blk out cs :: st) (.c []) S') (hnd:ops.all kW=true:=by rfl) :
    bX P n (QQ P n Q0 st) (.seq (.region rid ops.toArray false) (.block out (.loop (.seq (.region rid2 #[o1,o2] false) y))) :: cs) S:=by
  intro s a hs
  refine FQ ?_
  have h1:=h 0 rfl s a hs
  rw [<- List.range_eq_range'] at h1
  refine kL (NN (by simpa using hnd) (by simpa using h1)) ?_
  rintro e a1 w1 ⟨rfl,b,l,S1,s1,rfl,⟨ha,hk⟩,hs1,hf1,hi1,hb0,hb1⟩
  refine IG (kL (TO (l:=l) (s0:=s) (H0:=S.hp) (F:=QQ P n Q0 (.blk out cs :: st)) ho1 hd1 hg1 ho2 hd2 hg2 hn hm hb0 ha ⟨0,S1,s1,rfl,hs1,hb1,hi1,hf1,hk⟩) ?_)
  rintro e a2 w2 ⟨S2,s2,rfl,hq,hs2,hf2⟩
  cases e with
  | exit i =>
    have hq:cond (Nat.beq i out) (bX P n (QQ P n Q0 st) cs S2) (QQ P n Q0 st (.exit i) S2):=hq
    simp only [Exit.inBlock]
    split
    · rename_i he
      subst he
      rw [show Nat.beq i i=true from Nat.beq_refl i] at hq
      exact ⟨S2,s2,rfl,hq,hs2,hf2⟩
    · rename_i he
      rw [show Nat.beq i out=false from by cases hb:Nat.beq i out with | false=>rfl | true=>exact absurd (Nat.eq_of_beq_eq_true hb) he] at hq
      exact ⟨S2,s2,rfl,hq,hs2,hf2⟩
  | _=>exact ⟨S2,s2,rfl,hq,hs2,hf2⟩
end
section
variable {P:Program} {S:AS} {o:Oper} {T K E:TypeId} {x y:Operand} {α:Type}
theorem aGS {g:α->AV} {id aD:Nat} {ob:bA} {l:List α} {i:Int} {v:α} (ho:o.op=.load T x) (hT:dY P T=some (1,false)) (hx:S.ev x=some (.pt id aD 0 i.toNat))
    (hob:S.hp id=some ob) (bK:ob.aD=aD) (hr:ob.rows=[l.map g]) (h:ix l i=some v):bP P o S (g v) :=
  eT ho hT hx (.pt hob bK (r:=l.map g) (by rw [hr];rfl)) (by
    have h1:(l.map g)[i.toNat]?=some (g v):=by rw [List.getElem?_map,(mY h).2];rfl
    show ((l.map g).drop i.toNat).head?=_
    rw [List.head?_drop];exact h1)
theorem aA9 {id aD:Nat} {ob:bA} {l l':List Bool} {i:Int} {v w:Bool} (ho:o.op=.store T x y) (hT:dY P T=some (1,false)) (hx:S.ev x=some (.pt id aD 0 i.toNat)) (hy:S.ev y=some (aB v))
    (hob:S.hp id=some ob) (bK:ob.aD=aD) (hmt:ob.mt=true) (hr:ob.rows=[l.map aB]) (h:ix l i=some w) (hl:l.set i.toNat v=l') :
    bZ P o S no no (λz H'=>z=.sc undef/\H'=upd S.hp id (some { ob with rows:=[l'.map aB] })):=by
  have hlt:=wW h
  have h1:=dZ (P:=P) (r:=l.map aB) ho hT hx hy hob bK hmt (by rw [hr];rfl) rfl (Nat.ble_eq_true_of_le (by rw [List.length_map];omega)) rfl
  have e:ob.rows.set 0 (putRow (l.map aB) i.toNat [aB v])=[l'.map aB]:=by
    rw [hr,UU (by rw [List.length_map];exact hlt),<- hl,List.map_set];rfl
  show bZ P o S no no _
  have e2:(aB v).cells=[aB v]:=rfl
  rw [e2,e] at h1
  exact h1
theorem aAZ {z:Value} (h:(P.info? T).bind (·.zero)=some z) (w:World):(zeroValue T).run P w=.ok z w:=by
  cases hi:P.info? T with
  | none=>rw [hi] at h;simp at h
  | some i =>
    rw [hi] at h
    simp only [Option.bind_some] at h
    simp [zeroValue,typeInfo,program,Sem.run,hi,h]
def AU (l:List UInt8) (c:Int):Int :=
  match (List.range l.length).find? λi=>l[i]! == c.toNat.toUInt8 with
  | some i=>i
  | none=>-1
theorem aOF {f:FuncId} {fn:Func} {l:List UInt8} {c:Int} {ts:Array TypeId} (ho:o.op=.call { callee:=.value (.func f),args:=#[x,y],argTypes:=ts }) (hf:P.funcs[f]?=some fn) (hb:fn.body=none) (hn:(fn.name == "runtime.NumGoroutine")=false)
    (h1:Extern.findNext fn=none) (h2:Extern.find fn=some Extern.BytealgIndexByte.indexByte) (hx:S.ev x=some (str l)) (hy:S.ev y=some (.sc (.int .u8 c))):bP P o S (int (AU l c)) :=
  gY λs ρ hH h=>by
    refine ⟨.int .i64 (AU l c),.sc _,?_⟩
    have e1:=(h x (by simp [ho,Op.operands,Call.operands]) _ hx).eZ
    have e2:=(h y (by simp [ho,Op.operands,Call.operands]) _ hy).eZ
    have hfv:=h (.func f) (by simp [ho,Op.operands,Call.operands]) (.fn (.func f) [] []) rfl
    generalize hu:ρ (.func f)=u at hfv
    cases hfv with
    | fn hl hl' h3 h4 =>
      rename_i a' c'
      have ea:a'=#[]:=Array.eq_empty_of_size_eq_zero hl.symm
      have ec:c'=#[]:=Array.eq_empty_of_size_eq_zero hl'.symm
      subst ea ec
      have hb':fn.body.isNone=true:=by rw [hb];rfl
      have hg:∀ i:Nat,(bs l)[i]! = l[i]!:=λi=>by
        by_cases h:i<l.length
        · rw [getElem!_pos (bs l) i (by exact h),getElem!_pos l i h];rfl
        · rw [getElem!_neg (bs l) i (by exact h),getElem!_neg l i h]
      have hr:(Extern.BytealgIndexByte.indexByte #[.string (bs l),.int .u8 c]).run P s.w=.ok (.int .i64 (AU l c)) s.w:=by
        have e:Extern.BytealgIndexByte.indexByte #[.string (bs l),.int .u8 c]=(match (List.range (bs l).size).find? λi=>(bs l)[i]! == c.toNat.toUInt8 with
            | some i=>pure (goInt i)
            | none=>pure (goInt (-1))):=rfl
        rw [e,kP]
        simp only [hg,AU]
        split <;> rfl
      simp only [execOp,ho,resolve,hu,Deferred.ofValue,Sem.run_bind,Sem.run_pure,Result.andThen_ok,invoke,callFunc,program,Sem.run,hf,hn,hb',if_true,Bool.false_eq_true,if_false,mark,h1,h2]
      simp only [List.map_toArray,List.map_cons,List.map_nil,Array.empty_append,Array.append_empty,e1,e2]
      simp only [hr,Result.andThen_ok]
end
end Go.Pv
