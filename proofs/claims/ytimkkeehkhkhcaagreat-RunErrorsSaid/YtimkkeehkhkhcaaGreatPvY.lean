/- Regions that draw their order, walked in an order of our own: what has an effect stands alone. -/
import Derived.Test.YtimkkeehkhkhcaaGreatPvX
set_option linter.unusedVariables false
set_option linter.unusedSimpArgs false
namespace Go.Pv
section
variable {P:Program} {n:NT} {ops:List Oper} {rdl kpl:Nat->List Nat} {pu:Nat->Bool} {bm:List Nat}
def NJ:Option aW->Option (TypeId×Nat×Bool×Bool×Nat×List Nat)
  | none=>none
  | some o=>some (o.elem,o.sz,o.mt,o.app,o.aD,o.rows.map List.length)
def Kq (H' H:AH) (k:Nat):Prop :=
  match Nat.ble 100000 k with
  | true=>NJ (H' (k-100000))=NJ (H (k-100000))
  | false=>H' k=H k
theorem Kq.refl {H:AH} {k:Nat}:Kq H H k:=by unfold Kq;split <;> rfl
theorem Kq.symm {H' H:AH} {k:Nat} (h:Kq H' H k):Kq H H' k:=by
  unfold Kq at *;split <;> rename_i hb <;> rw [hb] at h <;> exact Eq.symm h
theorem Kq.trans {H1 H2 H3:AH} {k:Nat} (h:Kq H1 H2 k) (g:Kq H2 H3 k):Kq H1 H3 k:=by
  unfold Kq at *;split <;> rename_i hb <;> rw [hb] at h g <;> exact Eq.trans h g
theorem Kq.eq {H' H:AH} {k:Nat} (h:Kq H' H k) (hk:Nat.ble 100000 k=false):H' k=H k:=by unfold Kq at h;rw [hk] at h;exact h
def qQ (l:List Nat):Bool:=l.all λk=>!Nat.ble 100000 k
theorem UZ {l:List Nat} (h:qQ l=true) {k:Nat} (hk:k∈l):Nat.ble 100000 k=false:=by
  unfold qQ at h
  rw [List.all_eq_true] at h
  have:=h k hk
  cases hb:Nat.ble 100000 k
  · rfl
  · rw [hb] at this;cases this
def rY (H' H:AH):List Nat->Prop
  | []=>True
  | k :: r=>Kq H' H k/\rY H' H r
theorem rY.get {H' H:AH}:∀ {l:List Nat} (_:rY H' H l) (k:Nat),k∈l->Kq H' H k
  | [],_,k,hk=>by cases hk
  | q :: r,h,k,hk=>by
    rcases List.mem_cons.1 hk with e | hk
    · rw [e];exact h.1
    · exact h.2.get k hk
def PE (P:Program) (ops:List Oper) (rdl:Nat->List Nat) (i:Nat) (o:Oper) (S:AS) (x:AV):Prop :=
  (Wd ops S o=some true/\∀ H,(∀ k,k∈rdl i->Kq H S.hp k)->bS P o ⟨S.sl,H⟩ x)\/(Wd ops S o=some false/\x=.sc undef)
def EE (P:Program) (ops:List Oper) (kpl:Nat->List Nat) (i:Nat) (o:Oper) (S:AS) (K:AS->Prop):Prop :=
  (Wd ops S o=some true/\∃ Out:AV->AH->Prop,bW P o S no any Out/\∀ x H',Out x H'->rY H' S.hp (kpl i)/\K (({ S with hp:=H' }:AS).put o.dst x))\/(Wd ops S o=some false/\K (S.put o.dst (.sc undef)))
def jH (P:Program) (ops:List Oper) (rdl kpl:Nat->List Nat) (pu:Nat->Bool) (i:Nat) (K:AS->Prop) (S:AS):Prop :=
  match ops[i]? with
  | none=>K S
  | some o=>if pu i=true then ∃ x,PE P ops rdl i o S x/\K (S.put o.dst x) else EE P ops kpl i o S K
theorem EF {i:Nat} {K K':AS->Prop} {S:AS} (h:∀ S,K S->K' S) (hh:jH P ops rdl kpl pu i K S):jH P ops rdl kpl pu i K' S:=by
  unfold jH at *
  split
  · rename_i ho;simp only [ho] at hh;exact h _ hh
  · rename_i o ho
    simp only [ho] at hh
    split at hh
    · rename_i hp;obtain ⟨x,h1,h2⟩:=hh;rw [if_pos hp];exact ⟨x,h1,h _ h2⟩
    · rename_i hp;rw [if_neg hp]
      rcases hh with ⟨h1,Out,h2,h3⟩ | ⟨h1,h2⟩
      · exact .inl ⟨h1,Out,h2,λx H' hO=>⟨(h3 x H' hO).1,h _ (h3 x H' hO).2⟩⟩
      · exact .inr ⟨h1,h _ h2⟩
def wP (P:Program) (ops:List Oper) (rdl kpl:Nat->List Nat) (pu:Nat->Bool) (K:AS->Prop):Nat->Array Bool->AS->Prop
  | 0,listed,S=>Region.ready .any ops.toArray listed=[]/\K S
  | fuel+1,listed,S =>
    (Region.ready .any ops.toArray listed=[]->K S) /\
    ∀ i∈Region.ready .any ops.toArray listed,jH P ops rdl kpl pu i (wP P ops rdl kpl pu K fuel (listed.setIfInBounds i true)) S
theorem wG {K:AS->Prop} {s0:Sit} {H0:AH} (hdst:∀ (i:Nat) (o:Oper),ops[i]?=some o->kP n o.dst=true):∀ (fuel:Nat) (listed:Array Bool) (S:AS) (s:Sit) (a:Act),SR n s S a->Fr s0 H0 s S.hp ->
    wP P ops rdl kpl pu K fuel listed S ->
    wpAny P .any ops.toArray (λe a' w'=>e=.normal/\∃ S' s',w'=s'.w/\K S'/\SR n s' S' a'/\Fr s0 H0 s' S'.hp) fuel listed a s.w
  | 0,listed,S,s,a,hs,hf,h=>⟨h.1,rfl,S,s,rfl,h.2,hs,hf⟩
  | fuel+1,listed,S,s,a,hs,hf,h=>by
    refine ⟨λh0=>⟨rfl,S,s,rfl,h.1 h0,hs,hf⟩,λi hi=>?_⟩
    have h1:=h.2 i hi
    unfold jH at h1
    unfold wpOp
    simp only [List.getElem?_toArray]
    cases ho:ops[i]? with
    | none =>
      simp only [ho] at h1
      exact wG hdst fuel _ S s a hs hf h1
    | some o =>
      simp only [ho] at h1
      have hd:=hdst i o ho
      split at h1
      · obtain ⟨x,hy,hK⟩:=h1
        rcases hy with ⟨hw,hY⟩ | ⟨hw,rfl⟩
        · simp only [nE hs hw,if_true]
          refine .inl (hY S.hp (λ_ _=>Kq.refl) s a _ _ hs.heap (hs.opers o) (λ_ h=>h.elim) ?_)
          rintro s' v y H' ⟨rfl,rfl⟩ hv hH' hf' _
          have hs':SR n s' (S.put o.dst y) (a.put o.dst v):=(hs.fr hH' hf').put hd hv
          exact wG hdst fuel _ _ s' _ hs' (by rw [AS.pJ];exact hf.trans hf') hK
        · simp only [nE hs hw,Bool.false_eq_true,if_false]
          exact wG hdst fuel _ _ s _ (hs.put hd (.sc _)) (by rw [AS.pJ];exact hf) hK
      · rcases h1 with ⟨hw,Out,hY,hK⟩ | ⟨hw,hK⟩
        · simp only [nE hs hw,if_true]
          refine .inl (hY s a _ _ hs.heap (hs.opers o) (λ_ h=>h.elim) ?_)
          intro s' v y H' hO hv hH' hf' _
          have hs':SR n s' (({ S with hp:=H' }:AS).put o.dst y) (a.put o.dst v):=(hs.fr hH' hf').put hd hv
          exact wG hdst fuel _ _ s' _ hs' (by rw [AS.pJ];exact hf.trans hf') (hK y H' hO).2
        · simp only [nE hs hw,Bool.false_eq_true,if_false]
          exact wG hdst fuel _ _ s _ (hs.put hd (.sc _)) (by rw [AS.pJ];exact hf) hK
theorem xL (S:AS) (d:Option Tmp) (x:AV):S.put d x=S.res d x none:=by cases d <;> rfl
theorem put_comm (S:AS) {d e:Option Tmp} (x y:AV) (H:AH) (h:∀ t,d=some t->e≠some t):(({ S with hp:=H }:AS).put e y).put d x=({ (S.put d x) with hp:=H }:AS).put e y:=by
  have h1:=AS.U7 ({ S with hp:=H }:AS) (d:=d) (e:=e) (u:=none) (w:=none) x y h (λ_ _ h=>by cases h)
  rw [xL,xL,<- h1,xL]
  cases d <;> rfl
theorem GB {S:AS} {o:Oper} {d:Option Tmp} {x:AV} (h:∀ t,d=some t->t ∉ o.looksAt ops.toArray):Wd ops (S.put d x) o=Wd ops S o:=by
  rw [xL];exact UP h
theorem aFC {S:AS} {o:Oper} {H:AH}:Wd ops { S with hp:=H } o=Wd ops S o:=rfl
theorem MM {S:AS} {o:Oper} {d:Option Tmp} {x:AV} (h:∀ t,d=some t->t ∉ o.looksAt ops.toArray):∀ y∈o.op.operands,(S.put d x).ev y=S.ev y:=λy hy=>by
  rw [xL];exact M8 (u:=none) h y hy
theorem aI3 {S:AS} {H:AH} (y:Operand):({ S with hp:=H }:AS).ev y=S.ev y:=by cases y <;> rfl
theorem RB {j:Nat} {oj:Oper} {di:Option Tmp} {S:AS} {x y:AV} {H:AH} (h:∀ t,di=some t->t ∉ oj.looksAt ops.toArray) (hH:∀ k,k∈rdl j->Kq H S.hp k) :
    PE P ops rdl j oj (({ S with hp:=H }:AS).put di x) y↔PE P ops rdl j oj S y:=by
  unfold PE
  rw [GB h,aFC,AS.pJ]
  have hev:∀ z∈oj.op.operands,(({ S with hp:=H }:AS).put di x).ev z=S.ev z:=λz hz=>(MM h z hz).trans (aI3 z)
  constructor
  · rintro (⟨h1,h2⟩ | h1)
    · exact .inl ⟨h1,λH' hH'=>zA (S:=⟨(({ S with hp:=H }:AS).put di x).sl,H'⟩) (λz hz=>by
        have:=hev z hz;cases z <;> first | rfl | exact this.symm) rfl (h2 H' λk hk=>(hH' k hk).trans (hH k hk).symm)⟩
    · exact .inr h1
  · rintro (⟨h1,h2⟩ | h1)
    · exact .inl ⟨h1,λH' hH'=>zA (S:=⟨S.sl,H'⟩) (λz hz=>by
        have:=hev z hz;cases z <;> first | rfl | exact this) rfl (h2 H' λk hk=>(hH' k hk).trans (hH k hk))⟩
    · exact .inr h1
def oL (a b:List Nat):Bool:=a.all λk=>b.any λq=>Nat.beq k q
theorem CS {a b:List Nat} (h:oL a b=true) {k:Nat} (hk:k∈a):k∈b:=by
  unfold oL at h
  rw [List.all_eq_true] at h
  have:=h k hk
  rw [List.any_eq_true] at this
  obtain ⟨q,h1,h2⟩:=this
  rw [Nat.eq_of_beq_eq_true h2];exact h1
theorem NS {i j:Nat} {oi oj:Oper} {S:AS} {x:AV} (hj:ops[j]?=some oj) (hap:oi.apart ops.toArray oj=true) (hF:oL (rdl i) (kpl j)=true) {K:AS->Prop}
    (hy:PE P ops rdl i oi S x) (h:jH P ops rdl kpl pu j K (S.put oi.dst x)):jH P ops rdl kpl pu j (λS'=>PE P ops rdl i oi S' x/\K (S'.put oi.dst x)) S:=by
  obtain ⟨a1,a2,a3⟩:=Oper.apart_spec hap
  have hpe:∀ (y:AV) (H:AH),(∀ k,k∈rdl i->Kq H S.hp k)->PE P ops rdl i oi (({ S with hp:=H }:AS).put oj.dst y) x:=λy H hH=>(RB a3 hH).2 hy
  have hself:∀ (d:Option Tmp) (z:AV),S.put d z=({ S with hp:=S.hp }:AS).put d z:=λd z=>rfl
  unfold jH at h ⊢
  simp only [hj] at h ⊢
  split at h
  · rename_i hp
    rw [if_pos hp]
    obtain ⟨y,g1,g2⟩:=h
    refine ⟨y,(RB (H:=S.hp) a1 λ_ _=>Kq.refl).1 g1,hpe y S.hp λ_ _=>Kq.refl,?_⟩
    rw [hself oj.dst y,put_comm S x y S.hp a2]
    have e1:({ (S.put oi.dst x) with hp:=S.hp }:AS)=S.put oi.dst x:=by cases oi.dst <;> rfl
    rw [e1];exact g2
  · rename_i hp
    rw [if_neg hp]
    rcases h with ⟨h1,Out,h2,h3⟩ | ⟨h1,h2⟩
    · refine .inl ⟨by rw [GB a1] at h1;exact h1,Out,zA (S:=S.put oi.dst x) (λz hz=>(MM a1 z hz).symm) (AS.pJ _ _ _).symm h2,λy H' hO=>?_⟩
      obtain ⟨q1,q2⟩:=h3 y H' hO
      rw [AS.pJ] at q1
      refine ⟨q1,hpe y H' λk hk=>q1.get k (CS hF hk),?_⟩
      rw [put_comm S x y H' a2];exact q2
    · refine .inr ⟨by rw [GB a1] at h1;exact h1,hpe _ S.hp λ_ _=>Kq.refl,?_⟩
      rw [hself oj.dst,put_comm S x _ S.hp a2]
      have e1:({ (S.put oi.dst x) with hp:=S.hp }:AS)=S.put oi.dst x:=by cases oi.dst <;> rfl
      rw [e1];exact h2
theorem aB9 {K:AS->Prop} {i:Nat} {oi:Oper} {x:AV} (hb:oQ bm ops=true) (hi:ops[i]?=some oi) (hpu:pu i=true) :
    ∀ (fuel:Nat) (listed:Array Bool) (S:AS),Closed ops listed ->
      (∀ j oj,ops[j]?=some oj->j≠i->listed.getD j true=false->(bm.getD j 0).testBit i=false->oi.apart ops.toArray oj=true/\oL (rdl i) (kpl j)=true) ->
      i∈Region.ready .any ops.toArray listed->PE P ops rdl i oi S x ->
      wP P ops rdl kpl pu K fuel (listed.setIfInBounds i true) (S.put oi.dst x)->wP P ops rdl kpl pu K (fuel+1) listed S:=by
  have self:∀ {S:AS} {K':AS->Prop},PE P ops rdl i oi S x->K' (S.put oi.dst x)->jH P ops rdl kpl pu i K' S:=λhy h=>by
    unfold jH;simp only [hi];rw [if_pos hpu];exact ⟨x,hy,h⟩
  intro fuel
  induction fuel with
  | zero =>
    intro listed S _ _ hr hy H
    refine ⟨λh=>(by rw [h] at hr;cases hr),λj hj=>?_⟩
    by_cases hji:j=i
    · subst hji;exact self hy H
    · have:=ready_mono hj hji
      rw [H.1] at this
      cases this
  | succ fuel ih =>
    intro listed S hc hfree hr hy H
    refine ⟨λh=>(by rw [h] at hr;cases hr),λj hj=>?_⟩
    by_cases hji:j=i
    · subst hji;exact self hy H
    · have h1:=H.2 j (ready_mono hj hji)
      obtain ⟨hjun,oj,hoj,hall⟩:=mem_ready.1 hj
      have hoj':ops[j]?=some oj:=by simpa using hoj
      obtain ⟨f1,f2⟩:=hfree j oj hoj' hji hjun (zJ hb hc hj (mem_ready.1 hr).1)
      have h2:=NS hoj' f1 f2 hy h1
      have hfree':∀ k ok,ops[k]?=some ok->k≠i->(listed.setIfInBounds j true).getD k true=false->(bm.getD k 0).testBit i=false->oi.apart ops.toArray ok=true/\oL (rdl i) (kpl k)=true:=λk ok hk hki hun hno=>by
        refine hfree k ok hk hki ?_ hno
        by_cases hjk:j=k
        · subst hjk;exact hjun
        · rw [getD_set_ne true hjk] at hun;exact hun
      refine EF (λS' h3=>ih (listed.setIfInBounds j true) S' (zB hc hj) hfree' (ready_mono hr (Ne.symm hji)) h3.1 ?_) h2
      rw [Array.setIfInBounds_comm _ _ hji]
      exact h3.2
def DE (P:Program) (ops:List Oper) (rdl kpl:Nat->List Nat) (pu:Nat->Bool) (K:AS->Prop):List Nat->AS->Prop
  | [],S=>K S
  | i :: pi,S=>jH P ops rdl kpl pu i (DE P ops rdl kpl pu K pi) S
def xU (ops:List Oper) (bm:List Nat) (rdl kpl:Nat->List Nat) (pu:Nat->Bool):List Nat->Array Bool->Bool
  | [],listed=>(List.range ops.length).all λj=>listed.getD j true
  | i :: pi,listed =>
    (match ops[i]? with
     | none=>false
     | some oi=>!(listed.getD i true) && (oi.after.all λe=>!(Region.binds .any e) || listed.getD e.on false) &&
        (ops.zipIdx.all λ(oj,j)=>Nat.beq j i || listed.getD j true || (bm.getD j 0).testBit i || (pu i && oi.apart ops.toArray oj && oL (rdl i) (kpl j)))) && xU ops bm rdl kpl pu pi (listed.setIfInBounds i true)
theorem V3 {K:AS->Prop} (hb:oQ bm ops=true):∀ (pi:List Nat) (listed:Array Bool) (S:AS),Closed ops listed->xU ops bm rdl kpl pu pi listed=true->DE P ops rdl kpl pu K pi S->wP P ops rdl kpl pu K pi.length listed S
  | [],listed,S,_,hc,h=>by
    refine ⟨?_,h⟩
    rw [List.eq_nil_iff_forall_not_mem]
    intro j hj
    obtain ⟨h1,o,ho,_⟩:=mem_ready.1 hj
    have ho':ops[j]?=some o:=by simpa using ho
    have hlt:=(List.getElem?_eq_some_iff.1 ho').1
    unfold xU at hc
    rw [List.all_eq_true] at hc
    have:=hc j (List.mem_range.2 hlt)
    rw [h1] at this;cases this
  | i :: pi,listed,S,hcl,hc,h=>by
    unfold xU at hc
    cases ho:ops[i]? with
    | none=>rw [ho] at hc;simp at hc
    | some oi =>
      rw [ho] at hc
      simp only [Bool.and_eq_true,Bool.not_eq_true'] at hc
      obtain ⟨⟨⟨c1,c2⟩,c3⟩,c4⟩:=hc
      have hready:i∈Region.ready .any ops.toArray listed:=by
        refine mem_ready.2 ⟨c1,oi,by simpa using ho,λe he hbd=>?_⟩
        rw [Array.all_eq_true_iff_forall_mem] at c2
        have:=c2 e he
        simpa [hbd] using this
      have hcl':=zB hcl hready
      have h':jH P ops rdl kpl pu i (DE P ops rdl kpl pu K pi) S:=h
      have ih:∀ S',DE P ops rdl kpl pu K pi S'->wP P ops rdl kpl pu K pi.length (listed.setIfInBounds i true) S':=λS' hS'=>V3 hb pi _ S' hcl' c4 hS'
      have hall:∀ j oj,ops[j]?=some oj->j≠i->listed.getD j true=false->(bm.getD j 0).testBit i=false->pu i=true/\oi.apart ops.toArray oj=true/\oL (rdl i) (kpl j)=true:=λj oj hj hji hun hno=>by
        rw [List.all_eq_true] at c3
        have:=c3 (oj,j) (mem_zipIdx' hj)
        have e1:Nat.beq j i=false:=by cases hbq:Nat.beq j i with | false=>rfl | true=>exact absurd (Nat.eq_of_beq_eq_true hbq) hji
        simp only [e1,hun,hno,Bool.false_or,Bool.and_eq_true] at this
        exact ⟨this.1.1,this.1.2,this.2⟩
      by_cases hp:pu i=true
      · have h2:=h'
        unfold jH at h2
        simp only [ho] at h2
        rw [if_pos hp] at h2
        obtain ⟨x,g1,g2⟩:=h2
        exact aB9 hb ho hp pi.length listed S hcl (λj oj hj hji hun hno=>(hall j oj hj hji hun hno).2) hready g1 (ih _ g2)
      · refine ⟨λh0=>(by rw [h0] at hready;cases hready),λj hj=>?_⟩
        by_cases hji:j=i
        · subst hji;exact EF ih h'
        · exfalso
          obtain ⟨hjun,oj,hoj,_⟩:=mem_ready.1 hj
          have hoj':ops[j]?=some oj:=by simpa using hoj
          exact hp (hall j oj hoj' hji hjun (zJ hb hcl hj c1)).1
def AY (n:NT) (ops:List Oper) (bm:List Nat) (rdl kpl:Nat->List Nat) (pu:Nat->Bool) (pi:List Nat):Bool :=
  oQ bm ops && (ops.all λo=>kP n o.dst && kN o) && Nat.beq pi.length ops.length && xU ops bm rdl kpl pu pi (Array.replicate ops.length false)
theorem aFI {id:Nat} {l:List Oper} {S:AS} {Q:Go.Exit->AS->Prop} (bm:List Nat) (rdl kpl:Nat->List Nat) (pu:Nat->Bool) (pi:List Nat) (hm:P.follows .mixedOrders=true) (hB:AY n l bm rdl kpl pu pi=true)
    (h:DE P l rdl kpl pu (Q .normal) pi S):Tr P n (.region id l.toArray true) S Q:=by
  intro s a hs
  unfold AY at hB
  simp only [Bool.and_eq_true] at hB
  obtain ⟨⟨⟨b1,b2⟩,b3⟩,b4⟩:=hB
  have b3:=Nat.eq_of_beq_eq_true b3
  let s1:Sit:={ s with w:={ s.w with drawn:=s.w.drawn+1 } }
  have hv:∀ x v,VR s x v->VR s1 x v:=λx v h=>VR.mono (s:=s) (s':=s1) (λ_ hi=>⟨hi,rfl⟩) (λ_ _ h=>.inl h) (λ_ h=>h) h
  have hs1:SR n s1 S a:=by
    refine ⟨hs.size,hs.defers,λt x hx=>let ⟨v,h1,h2⟩:=hs.slot t x hx;⟨v,h1,hv _ _ h2⟩,⟨λi o ho=>?_,hs.heap.jQ,hs.heap.im,hs.heap.fin⟩⟩
    obtain ⟨m,hm⟩:=hs.heap.obj i o ho
    refine ⟨m,⟨hm.hm,hm.bP,hm.hsz,hm.hk,hm.body.imp (λh=>h) λ⟨cur,fr,hb⟩=>⟨cur,fr,⟨hb.hnil,hb.hb,hb.hfr,hb.happ,hb.hcs,hb.hct,hb.hlen,hb.hr,λi r j x v a b c=>hv _ _ (hb.hv i r j x v a b c),hb.h1,hb.him,hb.jI⟩⟩⟩⟩
  have hfr1:Fr s S.hp s1 S.hp:=⟨rfl,rfl,rfl,Nat.le_refl _,λ_ _ _=>rfl,λ_ h=>h,λ_ _ _ h=>h,λ_ _ h=>h,hv,λ_ h=>h⟩
  have hcl:Closed l (Array.replicate l.length false):=λj o hj hl' e he hbd=>by
    exfalso
    have hjl:=(List.getElem?_eq_some_iff.1 hj).1
    simp [hjl] at hl'
  have hE:=V3 (P:=P) (K:=Q .normal) b1 pi (Array.replicate l.length false) S hcl b4 h
  rw [b3] at hE
  have:=wG (n:=n) (s0:=s) (H0:=S.hp) (λi o ho=>by rw [List.all_eq_true] at b2;have:=b2 o (List.mem_of_getElem? ho);rw [Bool.and_eq_true] at this;exact this.1) _ _ S s1 a hs1 hfr1 hE
  have hsz:l.toArray.size=l.length:=by simp
  rw [<- hsz] at this
  refine kJ (JX hm (GU b2) this) ?_
  rintro e a' w' ⟨rfl,S',s',h1,h2,h3,h4⟩
  exact ⟨S',s',h1,h2,h3,h4⟩
variable {S:AS} {K:AS->Prop} {pi:List Nat} {o:Oper} {i:Nat} {Q:Go.Exit->AS->Prop} {f:Nat->Option AV} {hp:AH}
theorem AZ (h:K S):DE P ops rdl kpl pu K [] S:=h
theorem aIC {t:Nat} {x:AV} (ho:ops[i]?=some o) (hpu:pu i=true) (hw:Wd ops ⟨f,hp⟩ o=some true) (hd:o.dst=some t) (hy:∀ H,(∀ k,k∈rdl i->Kq H hp k)->bS P o ⟨f,H⟩ x) (h:DE P ops rdl kpl pu K pi ⟨upd f t (some x),hp⟩):DE P ops rdl kpl pu K (i :: pi) ⟨f,hp⟩:=by
  show jH P ops rdl kpl pu i _ _
  unfold jH;simp only [ho];rw [if_pos hpu,hd];exact ⟨x,.inl ⟨hw,hy⟩,h⟩
theorem kT {t:Nat} {x:AV} (ho:ops[i]?=some o) (hpu:pu i=true) (hw:Wd ops ⟨f,hp⟩ o=some true) (hd:o.dst=some t) (hy:∀ H,(∀ k,k∈rdl i->H k=hp k)->bS P o ⟨f,H⟩ x) (h:DE P ops rdl kpl pu K pi ⟨upd f t (some x),hp⟩) (hb:qQ (rdl i)=true:=by rfl):DE P ops rdl kpl pu K (i :: pi) ⟨f,hp⟩ :=
  aIC ho hpu hw hd (λH hH=>hy H λk hk=>(hH k hk).eq (UZ hb hk)) h
theorem aB4 {t:Nat} {Out:AV->AH->Prop} (ho:ops[i]?=some o) (hpu:pu i=false) (hw:Wd ops ⟨f,hp⟩ o=some true) (hd:o.dst=some t) (hy:bW P o ⟨f,hp⟩ no any Out)
    (hk:∀ x H',Out x H'->rY H' hp (kpl i)) (h:∀ x H',Out x H'->DE P ops rdl kpl pu K pi ⟨upd f t (some x),H'⟩):DE P ops rdl kpl pu K (i :: pi) ⟨f,hp⟩:=by
  show jH P ops rdl kpl pu i _ _
  unfold jH;simp only [ho];rw [if_neg (by rw [hpu];decide)];exact .inl ⟨hw,Out,hy,λx H' hO=>⟨hk x H' hO,by rw [hd];exact h x H' hO⟩⟩
theorem IE {Out:AV->AH->Prop} (ho:ops[i]?=some o) (hpu:pu i=false) (hw:Wd ops ⟨f,hp⟩ o=some true) (hd:o.dst=none) (hy:bW P o ⟨f,hp⟩ no any Out)
    (hk:∀ x H',Out x H'->rY H' hp (kpl i)) (h:∀ x H',Out x H'->DE P ops rdl kpl pu K pi ⟨f,H'⟩):DE P ops rdl kpl pu K (i :: pi) ⟨f,hp⟩:=by
  show jH P ops rdl kpl pu i _ _
  unfold jH;simp only [ho];rw [if_neg (by rw [hpu];decide)];exact .inl ⟨hw,Out,hy,λx H' hO=>⟨hk x H' hO,by rw [hd];exact h x H' hO⟩⟩
theorem C8 {id:Nat} {l:List Oper} {cs:List Code} (bm:List Nat) (rdl kpl:Nat->List Nat) (pu:Nat->Bool) (pi:List Nat) (hm:P.follows .mixedOrders=true) (hB:AY n l bm rdl kpl pu pi=true)
    (h:∀ Kp:AS->Prop,(∀ S',dI P n Q cs S'->Kp S')->DE P l rdl kpl pu Kp pi S):dI P n Q (.region id l.toArray true :: cs) S :=
  aFI bm rdl kpl pu pi hm hB (h _ λ_ h=>h)
end
section
variable {P:Program} {n:NT} {S:AS} {o:Oper}
theorem aL2 {s:Sit} {H:AH} (hH:HR s H) (id:Nat) {ob:aW} (ho:H id=some ob) :
    ∃ s',s'.w=s.w/\s'.used=s.used/\HR s' (upd H id (some { ob with mt:=false }))/\Fr s H s' (upd H id (some { ob with mt:=false })):=by
  cases hmt:ob.mt with
  | false =>
    refine ⟨s,rfl,rfl,?_⟩
    have:upd H id (some { ob with mt:=false })=H:=by
      funext i
      by_cases hi:i=id
      · subst hi;rw [upd_same,ho,<- hmt]
      · rw [upd_ne _ _ hi]
    rw [this]
    exact ⟨hH,Fr.refl _ _⟩
  | true =>
    obtain ⟨m,hm⟩:=hH.obj id ob ho
    let s':Sit:={ s with Im:=λb=>s.Im b\/(b=m.b/\m.nil=false) }
    have hmono:∀ x v,VR s x v->VR s' x v:=λx v h=>VR.mono (s:=s) (s':=s') (λ_ hi=>⟨.inl hi,rfl⟩) (λ_ _ h=>.inl h) (λ_ h=>h) h
    have hown:m.nil=false->jY s H m.b:=λh=>⟨id,ob,m,ho,hmt,hm.hm,h,rfl⟩
    have hlt:m.nil=false->m.b<s.w.heap.size:=λh=>by
      rcases hm.body with ⟨h',_⟩ | ⟨cur,fr,hb⟩
      · rw [h] at h';cases h'
      · exact (Array.getElem?_eq_some_iff.1 hb.hb).1
    refine ⟨s',rfl,rfl,⟨λi o' ho'=>?_,λi i' o1 o2 m1 m2 h1 h2 a b c d e=>?_,λb hb=>?_,hH.fin⟩,⟨rfl,rfl,rfl,Nat.le_refl _,λ_ _ _=>rfl,λ_ h=>.inl h,λb hb hno hi=>?_,λb hb h=>?_,hmono,λ_ h=>h⟩⟩
    · by_cases hi:i=id
      · subst hi
        rw [upd_same] at ho';cases ho'
        refine ⟨m,⟨hm.hm,hm.bP,hm.hsz,hm.hk,?_⟩⟩
        rcases hm.body with hb | ⟨cur,fr,hb⟩
        · exact .inl hb
        · exact .inr ⟨cur,fr,⟨hb.hnil,hb.hb,hb.hfr,hb.happ,hb.hcs,hb.hct,hb.hlen,hb.hr,λi r j x v a b c=>hmono _ _ (hb.hv i r j x v a b c),hb.h1,λ_=>.inr ⟨rfl,hb.hnil⟩,λh=>by cases h⟩⟩
      · rw [upd_ne _ _ hi] at ho'
        obtain ⟨m2,hm2⟩:=hH.obj i o' ho'
        refine ⟨m2,⟨hm2.hm,hm2.bP,hm2.hsz,hm2.hk,?_⟩⟩
        rcases hm2.body with hb | ⟨cur,fr,hb⟩
        · exact .inl hb
        · exact .inr ⟨cur,fr,⟨hb.hnil,hb.hb,hb.hfr,hb.happ,hb.hcs,hb.hct,hb.hlen,hb.hr,λi r j x v a b c=>hmono _ _ (hb.hv i r j x v a b c),hb.h1,λh=>.inl (hb.him h),λh hi'=>by
            rcases hi' with h' | ⟨h',hn⟩
            · exact hb.jI h h'
            · exact hi (hH.jQ i id o' ob m2 m ho' ho hm2.hm hm.hm hb.hnil hn h')⟩⟩
    · have conv:∀ i o',upd H id (some { ob with mt:=false }) i=some o'->∃ o'',H i=some o'':=by
        intro i o' h
        by_cases hi:i=id
        · subst hi;exact ⟨ob,ho⟩
        · rw [upd_ne _ _ hi] at h;exact ⟨o',h⟩
      obtain ⟨o1',g1⟩:=conv i o1 h1
      obtain ⟨o2',g2⟩:=conv i' o2 h2
      exact hH.jQ i i' o1' o2' m1 m2 g1 g2 a b c d e
    · rcases hb with hb | ⟨rfl,hn⟩
      · exact hH.im b hb
      · exact hlt hn
    · rcases hi with hi | ⟨rfl,hn⟩
      · exact hi
      · exact absurd (hown hn) hno
    · obtain ⟨i,o',m',q1,q2,q3,q4,q5⟩:=h
      by_cases hi:i=id
      · subst hi;rw [upd_same] at q1;cases q1;cases q2
      · rw [upd_ne _ _ hi] at q1
        exact ⟨i,o',m',q1,q2,q3,q4,q5⟩
theorem bW.jJ {F U:Nat->Prop} {Out:AV->AH->Prop} {f:Nat->Option AV} {hp:AH} (id:Nat) {ob:aW} (ho:hp id=some ob) (h:bW P o ⟨f,upd hp id (some { ob with mt:=false })⟩ F U Out):bW P o ⟨f,hp⟩ F U Out:=by
  intro s a next Q hH hops hF hn
  obtain ⟨s',g1,gu,g2,g3⟩:=aL2 hH id ho
  have:=h s' a next Q g2 (λx hx av hav=>g3.vals _ _ (hops x hx av (by cases x <;> exact hav))) (λk hk=>by rw [gu];exact hF k hk) (λs2 v x H' q1 q2 q3 q4 q5=>hn s2 v x H' q1 q2 q3 (g3.trans q4) (λk hk=>by have:=q5 k hk;rw [gu] at this;exact this))
  rwa [g1] at this
theorem WJ {ops rest:List Oper} {rd:Nat->Nat->Bool} {wr:Nat->Option Nat} {C:Nat} {K:AS->Prop} {i k:Nat} {x:AV} {ob:aW} (hw:Wd ops S o=some true) (hk:wr i=some k) (hd:o.dst=none)
    (hy:∀ H,(∀ k,rd i k=true->H k=S.hp k)->bW P o ⟨S.sl,H⟩ no no (λy H'=>y=x/\H'=upd H k (some ob))) (h:DG P rd wr C ops K rest (i+1) { S with hp:=upd S.hp k (some ob) }):DG P rd wr C ops K (o :: rest) i S :=
  rU hw hk (λH hH=>(hy H hH).d9 (λ_ h=>h.elim) (λ_ h=>h.elim)) (by rw [hd];exact h)
end
end Go.Pv
