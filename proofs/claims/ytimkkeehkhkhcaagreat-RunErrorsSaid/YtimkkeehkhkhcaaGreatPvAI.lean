import Derived.Test.YtimkkeehkhkhcaaGreatPvAG
set_option linter.unusedVariables false
set_option linter.unusedSimpArgs false
namespace Go.Pv
section
variable {P:Program} {n:NT}
structure oO (s:Sit) (H:AH) (b:Nat) (l:List UInt8) (p:Nat):Prop where
  him:¬ s.Im b
  hno:¬ jY s H b
  at':s.w.heap[b]?=some (.stringIter (bs l) p)
theorem oO.fr {s s':Sit} {H H':AH} {b:Nat} {l:List UInt8} {p:Nat} (h:oO s H b l p) (hb:b<s.w.heap.size) (hf:Fr s H s' H'):oO s' H' b l p :=
  ⟨λhi=>h.him (hf.j4 b hb h.hno hi),λho=>h.hno (hf.own b hb ho),(hf.keep b hb h.hno).trans h.at'⟩
theorem MJ {w:World} {b:Nat} {l:ByteArray} {p:Nat} (h:w.heap[b]?=some (.stringIter l p)):(getObj b).run P w=.ok (.stringIter l p) w:=by
  simp [getObj,Sem.run,h]
def zH (l:List UInt8):Bool:=l.all λc=>Nat.blt c.toNat 128
theorem aAF {l:List UInt8} {p:Nat} {c:UInt8} (h:l[p]?=some c) (hc:c.toNat<128):Utf8.decode (bs l) p=(c.toNat,1):=by
  have hp:=(List.getElem?_eq_some_iff.1 h).1
  have e:(bs l).get! (p+0)=c:=by
    show (l.toArray[p+0]!)=c
    simp [getElem!_def,h]
  unfold Utf8.decode
  simp only [e,hc,if_true]
theorem aFJ {s:Sit} {S:AS} {a:Act} {b:Nat} {l:List UInt8} {p q:Nat} (hs:SR n s S a) (hi:oO s S.hp b l p) (hb:b<s.w.heap.size) {s0:Sit} {H0:AH} (h0:s0.w.heap.size<=b) (hf:Fr s0 H0 s S.hp) :
    ∃ s',s'.w={ s.w with heap:=s.w.heap.setIfInBounds b (.stringIter (bs l) q) }/\SR n s' S a/\oO s' S.hp b l q/\b<s'.w.heap.size/\Fr s0 H0 s' S.hp:=by
  have hold:∀ j,j≠b->(s.w.heap.setIfInBounds b (.stringIter (bs l) q))[j]?=s.w.heap[j]?:=λj hj=>by rw [Array.getElem?_setIfInBounds_ne (Ne.symm hj)]
  obtain ⟨g1,g2⟩:=yS hs.heap { s.w with heap:=s.w.heap.setIfInBounds b (.stringIter (bs l) q) } (by simp) (λj hj=>hold j (by
    rintro rfl
    rcases hj with hj | ⟨id,ob,m',p1,p2,p3,p4⟩
    · exact hi.him hj
    · obtain ⟨m2,hm2⟩:=hs.heap.obj id ob p1
      have e:m2=m':=by have:=hm2.hm.symm.trans p2;simpa using this
      subst e
      rcases hm2.body with ⟨q,_⟩ | ⟨cur,fr,hb⟩
      · rw [q] at p3;cases p3
      · exact aGW hi.him hi.hno p1 p2 hb p4))
  exact ⟨{ s with w:={ s.w with heap:=s.w.heap.setIfInBounds b (.stringIter (bs l) q) } },rfl,hs.vals g1 g2,⟨hi.him,hi.hno,Array.getElem?_setIfInBounds_self_of_lt hb⟩,by simpa using hb,
    hf.os,hf.tape,hf.output,by simpa using hf.size,λj hj hno=>(hold j (by omega)).trans (hf.keep j hj hno),hf.j5,hf.j4,hf.own,λx v hx=>g2 _ _ (hf.vals x v hx),hf.lY⟩
theorem aIM {s:Sit} {b:Nat} {v:Value} (h:VR s (rR b) v):v=.pointer (some ⟨b,0,none⟩):=h.gJ
theorem RA {it nx mo b rid:Nat} {o1 o2:Oper} {y:Code} {F:Go.Exit->AS->Prop} {l:List UInt8} {s0:Sit} {H0:AH} (ho1:o1.op=.next (.tmp it) true) (hd1:o1.dst=some nx) (hg1:o1.guard=none)
    (ho2:o2.op=.extract (.tmp nx) 0) (hd2:o2.dst=some mo) (hg2:o2.guard=none) (hn:Nat.blt nx n.n=true) (hm:Nat.blt mo n.n=true) (hb0:s0.w.heap.size<=b) (ha:zH l=true) {a:Act} {w:World}
    (h:∃ p S s,w=s.w/\SR n s S a/\b<s.w.heap.size/\oO s S.hp b l p/\Fr s0 H0 s S.hp/\RQ P n it nx mo b y F (l.drop p) p .normal S) :
    jV n.rd P (Code.loop (.seq (.region rid #[o1,o2] false) y)) (λe a' w'=>∃ S' s',w'=s'.w/\F e S'/\SR n s' S' a'/\Fr s0 H0 s' S'.hp) a w:=by
  refine X5 (λa w=>∃ p S s,w=s.w/\SR n s S a/\b<s.w.heap.size/\oO s S.hp b l p/\Fr s0 H0 s S.hp/\RQ P n it nx mo b y F (l.drop p) p .normal S)
    (λ_ w=>match w.heap[b]? with | some (.stringIter x p)=>x.size-p | _=>0) h ?_
  rintro a w ⟨p,S,s,rfl,hs,hb,hi,hf,hq⟩
  have hw1:Wd [o1,o2] S o1=some true:=by unfold Wd;rw [hg1]
  have hslot:S.sl it=some (rR b):=by
    cases hl:l.drop p with
    | nil=>rw [hl] at hq;exact hq.1
    | cons c r=>rw [hl] at hq;exact hq.1
  have hit:a.eval (.tmp it)=.pointer (some ⟨b,0,none⟩):=aIM (tC (o:=.tmp it) hs hslot)
  refine DC ?_
  refine aFB (by simp [kN,ho1,ho2]) ?_
  rw [show List.range (#[o1,o2]:Array Oper).size=[0,1] from rfl]
  have second:∀ (S1:AS) (s1:Sit) (a1:Act) (t:Bool) (vs:List AV),SR n s1 S1 a1->S1.sl nx=some (.aM (aA t :: vs))->∀ {R:Go.Exit->Act->World->Prop},
      (∀ s2 a2,s2.w=s1.w->SR n s2 ⟨upd S1.sl mo (some (aA t)),S1.hp⟩ a2->Fr s1 S1.hp s2 S1.hp->R .normal a2 s2.w)->wpOps P #[o1,o2] R [1] a1 s1.w:=by
    intro S1 s1 a1 t vs hs1 hnx R hR
    have hw2:Wd [o1,o2] S1 o2=some true:=by unfold Wd;rw [hg2]
    have hwd:=nE hs1 hw2
    simp only [wpOps,List.getElem?_toArray,List.getElem?_cons_succ,List.getElem?_cons_zero]
    rw [show (yielded #[o1,o2] a1.tmps)=yielded ([o1,o2].toArray) a1.tmps from rfl,hwd,if_pos rfl]
    obtain ⟨v,hv1,hv2⟩:=hs1.slot nx _ hnx
    have hev:a1.eval (.tmp nx)=v:=by simp [Act.eval,hv1]
    have hx:=TP (P:=P) (S:=S1) (o:=o2) ho2 (by exact hnx:S1.ev (.tmp nx)=some (.aM (aA t :: vs))) (rfl:(aA t :: vs)[0]?=some (aA t))
    refine .inl ?_
    cases hv2 with
    | aM hl hvv =>
      rename_i us
      have h0:∃ u,us[0]?=some u:=by
        have:0<us.size:=by rw [<- hl];simp
        exact ⟨us[0],by simp [this]⟩
      obtain ⟨u,hu⟩:=h0
      have hu2:=(hvv 0 (aA t) u rfl hu).gJ
      subst hu2
      have hrun:(execOp a1.eval o2).run P s1.w=.ok (.value (.bool t)) s1.w:=by
        simp [execOp,ho2,hev,Instr.extract,hu]
      refine jM hrun ?_
      refine hR s1 _ rfl ?_ (Fr.refl _ _)
      have:=hs1.put (d:=some mo) (x:=aA t) (v:=.bool t) (by simpa [kP] using hm) (.sc _)
      rw [hd2];exact this
  unfold wpOps
  rw [show (#[o1,o2]:Array Oper)[0]?=some o1 from rfl]
  simp only []
  rw [show (yielded #[o1,o2] a.tmps)=yielded ([o1,o2].toArray) a.tmps from rfl,nE hs hw1,if_pos rfl]
  refine .inl ?_
  cases hl:l.drop p with
  | nil =>
    rw [hl] at hq
    have hp:¬ p<l.length:=by
      have:=congrArg List.length hl
      simp at this;omega
    have hrun:(execOp a.eval o1).run P s.w=.ok (.value (.tuple #[.bool false])) s.w:=by
      simp only [execOp,ho1,hit,Instr.next,Sem.run_bind,MJ hi.at',Result.andThen_ok]
      rw [if_neg (by rw [j6];exact hp)]
      rfl
    refine jM hrun ?_
    have hs1:=hs.put (d:=some nx) (x:=.aM [aA false]) (v:=.tuple #[.bool false]) (by simpa [kP] using hn) (.aM rfl λi x v hx hv=>by
      cases i with
      | zero=>simp at hx hv;subst hx hv;exact .sc _
      | succ i=>simp at hx)
    rw [hd1]
    refine second _ s _ false [] hs1 (upd_same _ _ _) ?_
    rintro s2 a2 e2 hs2 hf2
    refine ⟨rfl,?_⟩
    refine kJ (kY hq.2 s2 a2 hs2) ?_
    rintro e a3 w3 ⟨S3,s3,rfl,q1,q2,q3⟩
    cases e with
    | normal=>exact q1.elim
    | _=>exact ⟨S3,s3,rfl,q1,q2,(hf.trans hf2).trans q3⟩
  | cons c r =>
    rw [hl] at hq
    obtain ⟨hlp,hdr⟩:=drop_cons hl
    have hp:=(List.getElem?_eq_some_iff.1 hlp).1
    have hc:c.toNat<128:=by
      unfold zH at ha
      rw [List.all_eq_true] at ha
      exact Nat.blt_eq.mp (ha c (List.mem_of_getElem? hlp))
    obtain ⟨s1,e1,hs1,hi1,hb1,hf1⟩:=aFJ (q:=p+1) hs hi hb hb0 hf
    have hrun:(execOp a.eval o1).run P s.w=.ok (.value (.tuple #[.bool true,.int .i64 p,.int .i32 c.toNat])) s1.w:=by
      simp only [execOp,ho1,hit,Instr.next,Sem.run_bind,MJ hi.at',Result.andThen_ok]
      rw [if_pos (by rw [j6];exact hp),aAF hlp hc,e1]
      simp [setObj,Sem.run,hi.at',goInt]
    refine jM hrun ?_
    have hs1':=hs1.put (d:=some nx) (x:=.aM [aA true,int p,.sc (.int .i32 c.toNat)]) (v:=.tuple #[.bool true,.int .i64 p,.int .i32 c.toNat]) (by simpa [kP] using hn) (.aM rfl λi x v hx hv=>by
      match i with
      | 0=>simp at hx hv;subst hx hv;exact .sc _
      | 1=>simp at hx hv;subst hx hv;exact .sc _
      | 2=>simp at hx hv;subst hx hv;exact .sc _
      | i+3=>simp at hx)
    rw [hd1]
    refine second _ s1 _ true [int p,.sc (.int .i32 c.toNat)] hs1' (upd_same _ _ _) ?_
    rintro s2 a2 e2 hs2 hf2
    refine ⟨rfl,?_⟩
    refine kJ (kY (S:=⟨upd (upd S.sl nx (some (.aM [aA true,int p,.sc (.int .i32 c.toNat)]))) mo (some (aA true)),S.hp⟩) hq.2 s2 a2 hs2) ?_
    rintro e a3 w3 ⟨S3,s3,rfl,q1,q2,q3⟩
    cases e with
    | normal =>
      have hi3:oO s3 S3.hp b l (p+1):=oO.fr (oO.fr hi1 hb1 hf2) (Nat.lt_of_lt_of_le hb1 hf2.size) q3
      refine ⟨⟨p+1,S3,s3,rfl,q2,Nat.lt_of_lt_of_le (Nat.lt_of_lt_of_le hb1 hf2.size) q3.size,hi3,(hf1.trans hf2).trans q3,by rw [hdr];exact q1⟩,?_⟩
      show (match s3.w.heap[b]? with | some (.stringIter x p)=>x.size-p | _=>0)<(match s.w.heap[b]? with | some (.stringIter x p)=>x.size-p | _=>0)
      rw [hi3.at',hi.at']
      show (bs l).size-(p+1)<(bs l).size-p
      rw [j6];omega
    | _ =>
      exact ⟨S3,s3,rfl,by cases r <;> exact q1,q2,(hf1.trans hf2).trans q3⟩
def OO (P:Program) (n:NT) (ops todo:List Oper) (S:AS) (K:Nat->List UInt8->AS->Prop):Prop :=
  ∀ k,ops.drop k=todo->∀ s a,SR n s S a ->
    wpOps P ops.toArray (λe a' w'=>e=.normal/\∃ b l S' s',w'=s'.w/\K b l S'/\SR n s' S' a'/\Fr s S.hp s' S'.hp/\oO s' S'.hp b l 0/\s.w.heap.size<=b/\b<s'.w.heap.size) (List.range' k todo.length) a s.w
variable {S:AS} {ops rest:List Oper} {o:Oper} {K:Nat->List UInt8->AS->Prop}
theorem aCK {T t:Nat} {x:Operand} {l:List UInt8} (ho:o.op=.range T x) (hg:o.guard=none) (hd:o.dst=some t) (ht:Nat.blt t n.n=true) (hT:P.underlying T=some .string) (hx:S.ev x=some (str l))
    (h:∀ b,K b l ⟨upd S.sl t (some (rR b)),S.hp⟩):OO P n ops [o] S K:=by
  intro k hk s a hs
  obtain ⟨h0,h1⟩:=drop_cons hk
  have hw:Wd ops S o=some true:=by unfold Wd;rw [hg]
  rw [show List.range' k [o].length=[k] from rfl]
  simp only [wpOps,List.getElem?_toArray,h0,nE hs hw,if_true]
  have hv:=(hs.opers o x (by simp [ho,Op.operands]) _ hx).gJ
  have hrun:(execOp a.eval o).run P s.w=.ok (.value (.pointer (some ⟨s.w.heap.size,0,none⟩))) (s.w.alloc (.stringIter (bs l) 0)):=by
    simp [execOp,ho,hv,Instr.range,Sem.run_bind,run_underlying hT,newObj,Sem.run]
  refine .inl (jM hrun ?_)
  have hsz:(s.w.alloc (.stringIter (bs l) 0)).heap.size=s.w.heap.size+1:=by simp
  have hold:∀ j,j<s.w.heap.size->(s.w.alloc (.stringIter (bs l) 0)).heap[j]?=s.w.heap[j]?:=λj hj=>alloc_old s.w _ j hj
  obtain ⟨g1,g2⟩:=yS hs.heap (s.w.alloc (.stringIter (bs l) 0)) (by rw [hsz];omega) (λj hj=>hold j (by
    rcases hj with hj | ⟨id,ob,m,q1,q2,q3,q4⟩
    · exact hs.heap.im j hj
    · obtain ⟨m',hm'⟩:=hs.heap.obj id ob q1
      have e:m'=m:=by have:=hm'.hm.symm.trans q2;simpa using this
      subst e
      rcases hm'.body with ⟨q,_⟩ | ⟨cur,fr,hb⟩
      · rw [q] at q3;cases q3
      · have:=hb.hb;rw [q4] at this
        exact (Array.getElem?_eq_some_iff.1 this).1))
  have hno:¬ jY { s with w:=s.w.alloc (.stringIter (bs l) 0) } S.hp s.w.heap.size:=by
    rintro ⟨id,ob,m,q1,q2,q3,q4,q5⟩
    obtain ⟨m',hm'⟩:=hs.heap.obj id ob q1
    have e:m'=m:=by have:=hm'.hm.symm.trans q3;simpa using this
    subst e
    rcases hm'.body with ⟨q,_⟩ | ⟨cur,fr,hb⟩
    · rw [q] at q4;cases q4
    · have:=hb.hb;rw [q5] at this
      exact absurd (Array.getElem?_eq_some_iff.1 this).1 (Nat.lt_irrefl _)
  have hfr:Fr s S.hp { s with w:=s.w.alloc (.stringIter (bs l) 0) } S.hp :=
    ⟨rfl,rfl,rfl,by simp,λb hb _=>hold b hb,λ_ h=>h,λ_ _ _ h=>h,λ_ _ h=>h,g2,λ_ h=>h⟩
  have hs':=(hs.vals (s':={ s with w:=s.w.alloc (.stringIter (bs l) 0) }) g1 g2).put (d:=some t) (x:=rR s.w.heap.size) (v:=.pointer (some ⟨s.w.heap.size,0,none⟩)) (by simpa [kP] using ht) (.sc _)
  rw [hd]
  exact ⟨by first | rfl | trivial,s.w.heap.size,l,_,_,rfl,h s.w.heap.size,hs',hfr,⟨λhi=>absurd (hs.heap.im _ hi) (Nat.lt_irrefl _),hno,mZ s.w _⟩,Nat.le_refl _,by simp⟩
variable {Q0:Go.Exit->AS->Prop} {st:List Fm} {cs:List Code}
theorem aJC {rid rid2 out it nx mo:Nat} {o1 o2:Oper} {y:Code} (ho1:o1.op=.next (.tmp it) true) (hd1:o1.dst=some nx) (hg1:o1.guard=none)
    (ho2:o2.op=.extract (.tmp nx) 0) (hd2:o2.dst=some mo) (hg2:o2.guard=none) (hn:Nat.blt nx n.n=true) (hm:Nat.blt mo n.n=true)
    (h:OO P n ops ops S λb l S'=>zH l=true/\GG P n Q0 (.rs it nx mo b y l 0 :: .blk out cs :: st) (.c []) S') (hnd:ops.all kN=true:=by rfl) :
    dI P n (QQ P n Q0 st) (.seq (.region rid ops.toArray false) (.block out (.loop (.seq (.region rid2 #[o1,o2] false) y))) :: cs) S:=by
  intro s a hs
  refine DC ?_
  have h1:=h 0 rfl s a hs
  rw [<- List.range_eq_range'] at h1
  refine kJ (EM (by simpa using hnd) (by simpa using h1)) ?_
  rintro e a1 w1 ⟨rfl,b,l,S1,s1,rfl,⟨ha,hk⟩,hs1,hf1,hi1,hb0,hb1⟩
  refine HV (kJ (RA (l:=l) (s0:=s) (H0:=S.hp) (F:=QQ P n Q0 (.blk out cs :: st)) ho1 hd1 hg1 ho2 hd2 hg2 hn hm hb0 ha ⟨0,S1,s1,rfl,hs1,hb1,hi1,hf1,hk⟩) ?_)
  rintro e a2 w2 ⟨S2,s2,rfl,hq,hs2,hf2⟩
  cases e with
  | exit i =>
    have hq:cond (Nat.beq i out) (dI P n (QQ P n Q0 st) cs S2) (QQ P n Q0 st (.exit i) S2):=hq
    simp only [Exit.inBlock]
    split
    · rename_i he
      subst he
      rw [show Nat.beq i i=true from Nat.beq_refl i] at hq
      exact ⟨S2,s2,rfl,hq,hs2,hf2⟩
    · rename_i he
      rw [show Nat.beq i out=false from by cases hb:Nat.beq i out with | false=>rfl | true=>exact absurd (Nat.eq_of_beq_eq_true hb) he] at hq
      exact ⟨S2,s2,rfl,hq,hs2,hf2⟩
  | _=>exact ⟨S2,s2,rfl,hq,hs2,hf2⟩
end
section
variable {P:Program} {S:AS} {o:Oper} {T K E:TypeId} {x y:Operand} {α:Type}
def y9 (l:List UInt8) (c:Int):Int :=
  match (List.range l.length).find? λi=>l[i]! == c.toNat.toUInt8 with
  | some i=>i
  | none=>-1
theorem aJW {f:FuncId} {fn:Func} {l:List UInt8} {c:Int} {ts:Array TypeId} (ho:o.op=.call { callee:=.value (.func f),args:=#[x,y],argTypes:=ts }) (hf:P.funcs[f]?=some fn) (hb:fn.body=none) (hn:(fn.name == "runtime.NumGoroutine")=false)
    (h1:Extern.findNext fn=none) (h2:Extern.find fn=some Extern.BytealgIndexByte.indexByte) (hx:S.ev x=some (str l)) (hy:S.ev y=some (.sc (.int .u8 c))):bS P o S (int (y9 l c)) :=
  iK λs ρ hH h=>by
    refine ⟨.int .i64 (y9 l c),.sc _,?_⟩
    have e1:=(h x (by simp [ho,Op.operands,Call.operands]) _ hx).gJ
    have e2:=(h y (by simp [ho,Op.operands,Call.operands]) _ hy).gJ
    have hfv:=h (.func f) (by simp [ho,Op.operands,Call.operands]) (.fn (.func f) [] []) rfl
    generalize hu:ρ (.func f)=u at hfv
    cases hfv with
    | fn hl hl' h3 h4 =>
      rename_i a' c'
      have ea:a'=#[]:=Array.eq_empty_of_size_eq_zero hl.symm
      have ec:c'=#[]:=Array.eq_empty_of_size_eq_zero hl'.symm
      subst ea ec
      have hb':fn.body.isNone=true:=by rw [hb];rfl
      have hg:∀ i:Nat,(bs l)[i]! = l[i]!:=λi=>by
        by_cases h:i<l.length
        · rw [getElem!_pos (bs l) i (by exact h),getElem!_pos l i h];rfl
        · rw [getElem!_neg (bs l) i (by exact h),getElem!_neg l i h]
      have hr:(Extern.BytealgIndexByte.indexByte #[.string (bs l),.int .u8 c]).run P s.w=.ok (.int .i64 (y9 l c)) s.w:=by
        have e:Extern.BytealgIndexByte.indexByte #[.string (bs l),.int .u8 c]=(match (List.range (bs l).size).find? λi=>(bs l)[i]! == c.toNat.toUInt8 with
            | some i=>pure (goInt i)
            | none=>pure (goInt (-1))):=rfl
        rw [e,j6]
        simp only [hg,y9]
        split <;> rfl
      simp only [execOp,ho,resolve,hu,Deferred.ofValue,Sem.run_bind,Sem.run_pure,Result.andThen_ok,invoke,callFunc,program,Sem.run,hf,hn,hb',if_true,Bool.false_eq_true,if_false,mark,h1,h2]
      simp only [List.map_toArray,List.map_cons,List.map_nil,Array.empty_append,Array.append_empty,e1,e2]
      simp only [hr,Result.andThen_ok]
theorem YC {lo hi mx:Operand} {e:TypeId} {sz:Nat} {b:Bool} {xs:List (List AV)} {i j:Nat} (ho:o.op=.slice T x (some lo) (some hi) (some mx)) (hT:P.underlying T=some (.slice e)) (he:gF P e=some (sz,b)) (hx:S.ev x=some (.list sz xs))
    (hlo:kQ S 0 (some lo) i) (hhi:kQ S xs.length (some hi) j) (hmx:kQ S xs.length (some mx) j) (hij:i<=j) (hj:j<=xs.length):bS P o S (.list sz ((xs.take j).drop i)) :=
  iK λs ρ hH h=>by
    have hv:=h x (by simp [ho,Op.operands]) _ hx
    generalize hu:ρ x=u at hv
    have b1:=hlo.G9 (s:=s) (ρ:=ρ) λav=>h lo (by simp [ho,Op.operands]) av
    have b2:=hhi.G9 (s:=s) (ρ:=ρ) λav=>h hi (by simp [ho,Op.operands]) av
    have b3:=hmx.G9 (s:=s) (ρ:=ρ) λav=>h mx (by simp [ho,Op.operands]) av
    cases hv with
    | nil =>
      simp at hj;subst hj
      have:i=0:=by omega
      subst this
      have hb:=EU (P:=P) 0 0 0 0 s.w b1 b2 b3 (Nat.le_refl _) (Nat.le_refl _)
      refine ⟨.slice none 0 0,by simpa using VR.nil sz,?_⟩
      simp only [execOp,ho,hu,Instr.sliceAt,Instr.slice,Sem.run_bind,run_underlying hT,Result.andThen_ok,Option.map_none,hb,mG he,Sem.run_pure,if_true]
    | emp _ ad =>
      simp at hj;subst hj
      have:i=0:=by omega
      subst this
      have hb:=EU (P:=P) 0 0 0 0 s.w b1 b2 b3 (Nat.le_refl _) (Nat.le_refl _)
      simp only [Option.map_some] at hb
      refine ⟨.slice (some ad) 0 0,by simpa using VR.emp sz ad,?_⟩
      simp only [execOp,ho,hu,Instr.sliceAt,Instr.slice,Sem.run_bind,run_underlying hT,Result.andThen_ok,Option.map_none,hb,mG he,Sem.run_pure,Option.map_some,if_true]
    | list f hI hc hm hl hf hv =>
      rename_i bl of cap
      have hb:=EU (P:=P) xs.length cap i j s.w b1 b2 b3 hij (by omega)
      simp only [Option.map_some] at hb
      refine ⟨.slice (if j=i then some ⟨bl,of,none⟩ else some ⟨bl,of+i*sz,none⟩) (j-i) (j-i),?_,?_⟩
      · by_cases hci:j=i
        · subst hci
          have h1:List.drop j (List.take j xs)=[]:=by simp
          rw [h1,if_pos rfl]
          have:=VR.list (s:=s) (sz:=sz) (xs:=[]) (b:=bl) (off:=of) (cap:=0) (λ_ _=>undef) hI (by simp) (by simp [maxLen]) (by simp) (by simp) (by simp)
          simpa using this
        · rw [if_neg hci]
          have hlen:((xs.take j).drop i).length=j-i:=by simp;omega
          have get:∀ (k:Nat) (r:List AV),((xs.take j).drop i)[k]?=some r->xs[i+k]?=some r:=λk r hr=>by
            have hk:=(List.getElem?_eq_some_iff.1 hr).1
            rw [hlen] at hk
            rw [List.getElem?_drop,List.getElem?_take_of_lt (by omega)] at hr
            exact hr
          have:=VR.list (s:=s) (sz:=sz) (xs:=(xs.take j).drop i) (b:=bl) (off:=of+i*sz) (cap:=j-i) (λk=>f (i+k)) hI (by rw [hlen];omega) (by omega)
            (λk r hr=>hl _ r (get k r hr)) (λk r jj x hr hx=>by rw [<- hf _ r jj x (get k r hr) hx];congr 2;rw [Nat.add_mul];omega) (λk r jj x hr hx=>hv _ r jj x (get k r hr) hx)
          rw [hlen] at this
          exact this
      · simp only [execOp,ho,hu,Instr.sliceAt,Instr.slice,Sem.run_bind,run_underlying hT,Result.andThen_ok,Option.map_none,hb,mG he,Sem.run_pure,Option.map_some,addr_add]
theorem aJ9 {g:α->List AV} {l l':List α} {lo hi mx:Operand} {e:TypeId} {sz:Nat} {b:Bool} {i j:Nat} (ho:o.op=.slice T x (some lo) (some hi) (some mx)) (hT:P.underlying T=some (.slice e)) (he:gF P e=some (sz,b)) (hx:S.ev x=some (aG sz g l))
    (hlo:kQ S 0 (some lo) i) (hhi:kQ S l.length (some hi) j) (hmx:kQ S l.length (some mx) j) (hij:i<=j) (hj:j<=l.length) (hl:(l.take j).drop i=l'):bS P o S (aG sz g l'):=by
  subst hl
  have:=YC ho hT he hx hlo (by rw [List.length_map];exact hhi) (by rw [List.length_map];exact hmx) hij (by rw [List.length_map];exact hj)
  refine aN this ?_
  rw [aG,List.map_drop,List.map_take]
end
def BU (es:List MapEntry) (m:Int->Option Int):Prop :=
  ∀ k:Int,match m k with
    | some v=>∀ j,∃ i,Instr.findNow (.int .i64) (.int .i64 k) es j=some (some (i,.int .i64 v))
    | none=>∀ j,Instr.findNow (.int .i64) (.int .i64 k) es j=some none
theorem BN (k:Int) (e:MapEntry):∀ (es:List MapEntry) (j:Nat),Instr.findNow (.int .i64) (.int .i64 k) (es++[e]) j=match Instr.findNow (.int .i64) (.int .i64 k) es j with
    | some none=>Instr.findNow (.int .i64) (.int .i64 k) [e] (j+es.length)
    | r=>r
  | [],j=>by simp [Instr.findNow]
  | a :: r,j=>by
    have ih:=BN k e r (j+1)
    rw [show j+1+r.length=j+(a :: r).length by simp;omega] at ih
    rw [List.cons_append]
    unfold Instr.findNow
    split
    · rfl
    · rw [ih]
      cases Instr.findNow (.int .i64) (.int .i64 k) r (j+1) with
      | none=>rfl
      | some x=>cases x with
        | none=>unfold Instr.findNow;rfl
        | some y=>rfl
    · rfl
theorem BU.push {es:List MapEntry} {m:Int->Option Int} (h:BU es m) {q v:Int} {born:Nat} (hq:m q=none):BU (es++[{ key:=.int .i64 q,val:=.int .i64 v,born:=born }]) (λk=>bif decide (k=q) then some v else m k):=by
  intro k
  have hk:=h k
  by_cases e:k=q
  · subst e
    rw [hq] at hk
    simp only [decide_true,cond_true]
    intro j
    refine ⟨j+es.length,?_⟩
    rw [BN,hk j]
    simp [Instr.findNow,Instr.sameNow]
  · simp only [decide_eq_false e,cond_false]
    cases hm:m k with
    | some u =>
      rw [hm] at hk
      intro j
      obtain ⟨i,hi⟩:=hk j
      exact ⟨i,by rw [BN,hi]⟩
    | none =>
      rw [hm] at hk
      intro j
      rw [BN,hk j]
      simp [Instr.findNow,Instr.sameNow,beq_eq_false_iff_ne.2 e]
inductive MK where
  | mk
  | ins (k v:Int)
  | lk (k:Int)
  | pu
abbrev Sl:=Option (Nat×(Nat->AV))
def wr:List Sl->Nat->Nat->Option (Nat×(Nat->AV))
  | [],_,_=>none
  | none :: r,i,t=>wr r (i+1) t
  | some (t',v) :: r,i,t=>bif Nat.beq t' t then some (i,v) else wr r (i+1) t
structure aMH (s:Sit) (H:AH) (b:Nat) (m:Int->Option Int):Prop where
  him:¬ s.Im b
  hno:¬ jY s H b
  at':∃ es clock,s.w.heap[b]?=some (.map es clock)/\BU es.toList m
def left (N:Nat) (listed:Array Bool):Nat:=((List.range N).filter λi=>!(listed.getD i true)).length
section
variable {P:Program} {n:NT} {ops:List Oper} {T K E:TypeId} {tm mkI:Nat} {E0:List (Option (Nat×Option AV))} {I:List (Nat×Int×Int)} {cs:List MK} {f:Nat->Option AV} {hp:AH} {s0:Sit}
end
end Go.Pv
