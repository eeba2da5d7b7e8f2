/- The abstract layer, part 7: regions that draw their order. -/
import Derived.Test.YtimkkeehkhkhcaaGreatPvF
import Derived.Orders
set_option linter.unusedVariables false
set_option linter.unusedSimpArgs false
namespace Go.Pv
theorem SA {α:Type} (f:Nat->Option α) {i j:Nat} (v w:Option α) (h:i≠j):upd (upd f i v) j w=upd (upd f j w) i v:=by
  funext k
  by_cases h1:k=i
  · subst h1;rw [upd_ne _ _ h,upd_same,upd_same]
  · by_cases h2:k=j
    · subst h2;rw [upd_same,upd_ne _ _ h1,upd_same]
    · rw [upd_ne _ _ h2,upd_ne _ _ h1,upd_ne _ _ h1,upd_ne _ _ h2]
abbrev Up:=Option (Nat×Option aW)
def app (H:AH):Up->AH
  | none=>H
  | some (k,o)=>upd H k o
def AS.res (S:AS) (d:Option Tmp) (x:AV) (u:Up):AS:=({ S with hp:=app S.hp u }:AS).put d x
theorem AS.aBQ {S:AS} {d:Option Tmp} {x:AV} {u:Up} {y:Operand} (h:∀ t,d=some t->y≠.tmp t):(S.res d x u).ev y=S.ev y:=by
  cases d with
  | none=>cases y <;> rfl
  | some t =>
    cases y with
    | tmp i =>
      have hne:i≠t:=λe=>h t rfl (e ▸ rfl)
      show upd S.sl t (some x) i=S.sl i
      exact upd_ne _ _ hne
    | _=>rfl
theorem AS.zS (S:AS) (d:Option Tmp) (x:AV) (u:Up):(S.res d x u).hp=app S.hp u:=by unfold AS.res;rw [AS.pJ]
theorem AS.U7 (S:AS) {d e:Option Tmp} {u w:Up} (x y:AV) (h:∀ t,d=some t->e≠some t) (hk:∀ p q,u=some p->w=some q->p.1≠q.1) :
    (S.res d x u).res e y w=(S.res e y w).res d x u:=by
  have hhp:app (app S.hp u) w=app (app S.hp w) u:=by
    cases u with
    | none=>rfl
    | some p=>cases w with
      | none=>rfl
      | some q=>exact SA _ _ _ (hk p q rfl rfl)
  have hsl:∀ (f:Nat->Option AV),(AS.put ⟨(AS.put ⟨f,S.hp⟩ d x).sl,S.hp⟩ e y).sl=(AS.put ⟨(AS.put ⟨f,S.hp⟩ e y).sl,S.hp⟩ d x).sl:=λf=>by
    cases d with
    | none=>cases e <;> rfl
    | some t=>cases e with
      | none=>rfl
      | some t'=>exact SA _ _ _ (λe=>h t rfl (e ▸ rfl))
  have e1:∀ (S:AS) (d:Option Tmp) (x:AV) (u:Up),(S.res d x u)=⟨(AS.put ⟨S.sl,S.hp⟩ d x).sl,app S.hp u⟩:=λS d x u=>by cases d <;> rfl
  rw [e1 (S.res d x u),e1 (S.res e y w),AS.zS,AS.zS,hhp]
  congr 1
  have:=hsl S.sl
  cases d <;> cases e <;> first | rfl | exact this
section
variable {P:Program} {n:NT} {ops:List Oper} {rd:Nat->Nat->Bool} {wr:Nat->Option Nat} {C:Nat} {bm:List Nat}
def LY (P:Program) (rd:Nat->Nat->Bool) (wr:Nat->Option Nat) (C:Nat) (i:Nat) (o:Oper) (S:AS) (x:AV) (u:Up):Prop :=
  (∀ p,u=some p->wr i=some p.1)/\∀ H,(∀ k,rd i k=true->H k=S.hp k)->bW P o ⟨S.sl,H⟩ (·=C+i) (·=C+i) (λy H'=>y=x/\H'=app H u)
def YA (P:Program) (ops:List Oper) (rd:Nat->Nat->Bool) (wr:Nat->Option Nat) (C:Nat) (i:Nat) (o:Oper) (S:AS) (x:AV) (u:Up):Prop :=
  (Wd ops S o=some true/\LY P rd wr C i o S x u)\/(Wd ops S o=some false/\x=.sc undef/\u=none)
def rF (P:Program) (ops:List Oper) (rd:Nat->Nat->Bool) (wr:Nat->Option Nat) (C:Nat) (i:Nat) (K:AS->Prop) (S:AS):Prop :=
  match ops[i]? with
  | none=>K S
  | some o=>∃ x u,YA P ops rd wr C i o S x u/\K (S.res o.dst x u)
theorem aLH {i:Nat} {K K':AS->Prop} {S:AS} (h:∀ S,K S->K' S) (hh:rF P ops rd wr C i K S):rF P ops rd wr C i K' S:=by
  unfold rF at *
  split
  · rename_i ho;simp only [ho] at hh;exact h _ hh
  · rename_i o ho
    simp only [ho] at hh
    obtain ⟨x,u,h1,h2⟩:=hh
    exact ⟨x,u,h1,h _ h2⟩
def zR (P:Program) (ops:List Oper) (rd:Nat->Nat->Bool) (wr:Nat->Option Nat) (C:Nat) (K:AS->Prop):Nat->Array Bool->AS->Prop
  | 0,listed,S=>Region.ready .any ops.toArray listed=[]/\K S
  | fuel+1,listed,S =>
    (Region.ready .any ops.toArray listed=[]->K S) /\
    ∀ i∈Region.ready .any ops.toArray listed,rF P ops rd wr C i (zR P ops rd wr C K fuel (listed.setIfInBounds i true)) S
theorem CB {K:AS->Prop} {s0:Sit} {H0:AH} (hdst:∀ (i:Nat) (o:Oper),ops[i]?=some o->kP n o.dst=true):∀ (fuel:Nat) (listed:Array Bool) (S:AS) (s:Sit) (a:Act),SR n s S a->Fr s0 H0 s S.hp ->
    (∀ j,listed.getD j true=false->¬ s.used (C+j))->zR P ops rd wr C K fuel listed S ->
    wpAny P .any ops.toArray (λe a' w'=>e=.normal/\∃ S' s',w'=s'.w/\K S'/\SR n s' S' a'/\Fr s0 H0 s' S'.hp) fuel listed a s.w
  | 0,listed,S,s,a,hs,hf,_,h=>⟨h.1,rfl,S,s,rfl,h.2,hs,hf⟩
  | fuel+1,listed,S,s,a,hs,hf,hu,h=>by
    refine ⟨λh0=>⟨rfl,S,s,rfl,h.1 h0,hs,hf⟩,λi hi=>?_⟩
    have h1:=h.2 i hi
    have hun:=(mem_ready.1 hi).1
    unfold rF at h1
    unfold wpOp
    simp only [List.getElem?_toArray]
    cases ho:ops[i]? with
    | none =>
      simp only [ho] at h1
      exact CB hdst fuel _ S s a hs hf (λj hj=>hu j (by
        by_cases e:i=j
        · subst e;exact hun
        · rw [getD_set_ne true e] at hj;exact hj)) h1
    | some o =>
      simp only [ho] at h1
      obtain ⟨x,u,hy,hK⟩:=h1
      have hd:=hdst i o ho
      have hlt:i<listed.size:=by
        rcases Nat.lt_or_ge i listed.size with h | h
        · exact h
        · simp [Array.getElem?_eq_none h] at hun
      have hu':∀ (s':Sit),(∀ k,s'.used k->s.used k\/k=C+i)->∀ j,(listed.setIfInBounds i true).getD j true=false->¬ s'.used (C+j):=by
        intro s' h1 j hj h2
        by_cases e:i=j
        · subst e;simp [hlt] at hj
        · rw [getD_set_ne true e] at hj
          rcases h1 _ h2 with h3 | h3
          · exact hu j hj h3
          · omega
      rcases hy with ⟨hw,hLY⟩ | ⟨hw,rfl,rfl⟩
      · simp only [nE hs hw,if_true]
        refine .inl (hLY.2 S.hp (λ_ _=>rfl) s a _ _ hs.heap (hs.opers o) (λk hk=>by rw [hk];exact hu i hun) ?_)
        rintro s' v y H' ⟨rfl,rfl⟩ hv hH' hf' hU
        have hs':SR n s' (S.res o.dst y u) (a.put o.dst v):=(hs.fr hH' hf').put hd hv
        exact CB hdst fuel _ _ s' _ hs' (by rw [AS.zS];exact hf.trans hf') (hu' s' hU) hK
      · simp only [nE hs hw,Bool.false_eq_true,if_false]
        have hs':SR n s (S.res o.dst (.sc undef) none) (a.put o.dst undef):=SR.put (S:=⟨S.sl,S.hp⟩) hs hd (.sc _)
        exact CB hdst fuel _ _ s _ hs' (by rw [AS.zS];exact hf) (hu' s λk hk=>.inl hk) hK
def pW (rd:Nat->Nat->Bool) (wr:Nat->Option Nat) (i j:Nat):Bool :=
  (match wr i with | none=>true | some k=>!(rd j k) && (wr j != some k)) && (match wr j with | none=>true | some k=>!(rd i k))
theorem UP {S:AS} {o:Oper} {d:Option Tmp} {x:AV} {u:Up} (h:∀ t,d=some t->t ∉ o.looksAt ops.toArray):Wd ops (S.res d x u) o=Wd ops S o:=by
  unfold Wd
  cases hg:o.guard with
  | none=>rfl
  | some g =>
    obtain ⟨j,want⟩:=g
    simp only
    cases hd:(ops[j]?).bind (·.dst) with
    | none=>rfl
    | some t =>
      simp only
      have:(S.res d x u).sl t=S.sl t:=by
        cases d with
        | none=>rfl
        | some t' =>
          refine upd_ne _ _ λe=>h t' rfl ?_
          subst e
          simp [Oper.looksAt,hg,hd]
      rw [this]
theorem zA {o:Oper} {S S':AS} {F U:Nat->Prop} {Out:AV->AH->Prop} (he:∀ x∈o.op.operands,S'.ev x=S.ev x) (hh:S'.hp=S.hp) (h:bW P o S F U Out):bW P o S' F U Out :=
  λs a next Q h1 h2 h3 h4=>h s a next Q (hh ▸ h1) (λx hx av hav=>h2 x hx av ((he x hx).trans hav)) h3 (λs' v x H' a b c d e=>h4 s' v x H' a b c (hh ▸ d) e)
theorem M8 {S:AS} {o:Oper} {d:Option Tmp} {x:AV} {u:Up} (h:∀ t,d=some t->t ∉ o.looksAt ops.toArray):∀ y∈o.op.operands,(S.res d x u).ev y=S.ev y:=λy hy =>
  AS.aBQ λt ht e=>h t ht (by
    subst e
    exact List.mem_append_left _ (List.mem_filterMap.2 ⟨.tmp t,by simpa using hy,rfl⟩))
theorem aEP {i j:Nat} {oi oj:Oper} {S:AS} {x y:AV} {u w:Up} (hui:∀ p,u=some p->wr i=some p.1) (hF:pW rd wr i j=true) (h:∀ t,oi.dst=some t->t ∉ oj.looksAt ops.toArray) :
    LY P rd wr C j oj (S.res oi.dst x u) y w↔LY P rd wr C j oj S y w:=by
  have hhp:∀ k,rd j k=true->(S.res oi.dst x u).hp k=S.hp k:=by
    intro k hk
    rw [AS.zS]
    cases u with
    | none=>rfl
    | some p =>
      refine upd_ne _ _ λe=>?_
      subst e
      have:=hui p rfl
      simp only [pW,this,hk,Bool.not_true,Bool.false_and] at hF
      cases hF
  have hev:=M8 (S:=S) (x:=x) (u:=u) h
  constructor
  · rintro ⟨h1,h2⟩
    exact ⟨h1,λH hH=>zA (S:=⟨(S.res oi.dst x u).sl,H⟩) (λz hz=>by
      have:=hev z hz;cases z <;> first | rfl | exact this.symm) rfl (h2 H λk hk=>(hH k hk).trans (hhp k hk).symm)⟩
  · rintro ⟨h1,h2⟩
    exact ⟨h1,λH hH=>zA (S:=⟨S.sl,H⟩) (λz hz=>by
      have:=hev z hz;cases z <;> first | rfl | exact this) rfl (h2 H λk hk=>(hH k hk).trans (hhp k hk))⟩
theorem EH {i j:Nat} {oi oj:Oper} {S:AS} {x y:AV} {u w:Up} (hui:∀ p,u=some p->wr i=some p.1) (hF:pW rd wr i j=true) (h:∀ t,oi.dst=some t->t ∉ oj.looksAt ops.toArray) :
    YA P ops rd wr C j oj (S.res oi.dst x u) y w↔YA P ops rd wr C j oj S y w:=by
  unfold YA
  rw [UP h,aEP hui hF h]
theorem YA.zO {i:Nat} {o:Oper} {S:AS} {x:AV} {u:Up} (h:YA P ops rd wr C i o S x u):∀ p,u=some p->wr i=some p.1:=by
  rcases h with ⟨_,h,_⟩ | ⟨_,_,rfl⟩
  · exact h
  · intro p hp;cases hp
theorem aIT {i j:Nat} (h:pW rd wr i j=true):pW rd wr j i=true:=by
  unfold pW at *
  cases h1:wr i <;> cases h2:wr j <;> simp_all
  exact λe=>h.1.2 e.symm
theorem aJZ {i j:Nat} {oi oj:Oper} {S:AS} {x:AV} {u:Up} (hj:ops[j]?=some oj) (hap:oi.apart ops.toArray oj=true) (hF:pW rd wr i j=true) {K:AS->Prop}
    (hy:YA P ops rd wr C i oi S x u) (h:rF P ops rd wr C j K (S.res oi.dst x u)):rF P ops rd wr C j (λS'=>YA P ops rd wr C i oi S' x u/\K (S'.res oi.dst x u)) S:=by
  obtain ⟨a1,a2,a3⟩:=Oper.apart_spec hap
  unfold rF at *
  simp only [hj] at *
  obtain ⟨y,w,g1,g2⟩:=h
  refine ⟨y,w,(EH hy.zO hF a1).1 g1,(EH ((EH hy.zO hF a1).1 g1).zO (aIT hF) a3).2 hy,?_⟩
  rw [<- AS.U7 S x y a2 (λp q hp hq e=>?_)]
  · exact g2
  · have h1:=hy.zO p hp
    have h2:=g1.zO q hq
    unfold pW at hF
    rw [h1,h2,e] at hF
    simp at hF
def IY (e:Edge):Bool:=Region.binds .any e
def BE (bm:List Nat) (j:Nat) (l:List Edge):Nat:=l.foldl (λs e=>if IY e && Nat.blt e.on j then s ||| (2 ^ e.on ||| bm.getD e.on 0) else s) 0
theorem V2 (bm:List Nat) (j:Nat):∀ (l:List Edge) (z i:Nat),(l.foldl (λs e=>if IY e && Nat.blt e.on j then s ||| (2 ^ e.on ||| bm.getD e.on 0) else s) z).testBit i=true ->
    z.testBit i=true\/∃ e∈l,IY e=true/\e.on<j/\(e.on=i\/(bm.getD e.on 0).testBit i=true)
  | [],z,i,h=>.inl h
  | e :: l,z,i,h=>by
    simp only [List.foldl_cons] at h
    rcases V2 bm j l _ i h with h1 | ⟨e',h1,h2⟩
    · split at h1
      · rename_i hc
        simp only [Bool.and_eq_true,Nat.blt_eq] at hc
        simp only [Nat.testBit_or,Bool.or_eq_true] at h1
        rcases h1 with h1 | h1 | h1
        · exact .inl h1
        · refine .inr ⟨e,by simp,hc.1,hc.2,.inl ?_⟩
          rw [Nat.testBit_two_pow] at h1
          simpa using h1
        · exact .inr ⟨e,by simp,hc.1,hc.2,.inr h1⟩
      · exact .inl h1
    · exact .inr ⟨e',by simp [h1],h2⟩
def oQ (bm:List Nat) (ops:List Oper):Bool:=ops.zipIdx.all λ(o,j)=>Nat.beq (bm.getD j 0 ||| BE bm j o.after.toList) (BE bm j o.after.toList)
theorem U6 (h:oQ bm ops=true) {j:Nat} {o:Oper} (hj:ops[j]?=some o) {i:Nat} (hi:(bm.getD j 0).testBit i=true) :
    ∃ e∈o.after,Region.binds .any e=true/\e.on<j/\(e.on=i\/(bm.getD e.on 0).testBit i=true):=by
  unfold oQ at h
  rw [List.all_eq_true] at h
  have:=h (o,j) (by rw [List.mem_iff_getElem?];exact ⟨j,by simp [hj]⟩)
  simp only at this
  have heq:=Nat.eq_of_beq_eq_true this
  have ht:(BE bm j o.after.toList).testBit i=true:=by rw [<- heq,Nat.testBit_or,hi];rfl
  rcases V2 bm j o.after.toList 0 i ht with h1 | ⟨e,h1,h2⟩
  · simp at h1
  · exact ⟨e,by simpa using h1,h2⟩
def Closed (ops:List Oper) (listed:Array Bool):Prop:=∀ (j:Nat) (o:Oper),ops[j]?=some o->listed.getD j false=true->∀ e∈o.after,Region.binds .any e=true->listed.getD e.on false=true
theorem LH {listed:Array Bool} (hb:oQ bm ops=true) (hc:Closed ops listed) (i:Nat):∀ (m j:Nat) (o:Oper),j<m->ops[j]?=some o->listed.getD j false=true->(bm.getD j 0).testBit i=true->listed.getD i false=true
  | 0,_,_,h,_,_,_=>absurd h (by omega)
  | m+1,j,o,hjm,hj,hl,ht=>by
    obtain ⟨e,h1,h2,h3,h4⟩:=U6 hb hj ht
    have hle:=hc j o hj hl e h1 h2
    rcases h4 with rfl | h4
    · exact hle
    · have:e.on<ops.length:=by have:=(List.getElem?_eq_some_iff.1 hj).1;omega
      exact LH hb hc i m e.on ops[e.on] (by omega) (by simp [this]) hle h4
theorem zJ {listed:Array Bool} (hb:oQ bm ops=true) (hc:Closed ops listed) {i j:Nat} (hj:j∈Region.ready .any ops.toArray listed) (hi:listed.getD i true=false):(bm.getD j 0).testBit i=false:=by
  cases ht:(bm.getD j 0).testBit i with
  | false=>rfl
  | true =>
    exfalso
    obtain ⟨_,o,ho,hall⟩:=mem_ready.1 hj
    have ho':ops[j]?=some o:=by simpa using ho
    obtain ⟨e,h1,h2,h3,h4⟩:=U6 hb ho' ht
    have hle:=hall e h1 h2
    have hif:listed.getD i false=true:=by
      rcases h4 with rfl | h4
      · exact hle
      · have:e.on<ops.length:=by have:=(List.getElem?_eq_some_iff.1 ho').1;omega
        exact LH hb hc i (e.on+1) e.on ops[e.on] (by omega) (by simp [this]) hle h4
    rcases Nat.lt_or_ge i listed.size with h' | h'
    · simp [h'] at hi hif;rw [hi] at hif;cases hif
    · simp [Array.getElem?_eq_none h'] at hi
theorem zB {listed:Array Bool} (hc:Closed ops listed) {j:Nat} (hj:j∈Region.ready .any ops.toArray listed):Closed ops (listed.setIfInBounds j true):=by
  intro k o hk hl e he hb
  obtain ⟨_,oj,hoj,hall⟩:=mem_ready.1 hj
  by_cases hkj:j=k
  · subst hkj
    have:oj=o:=by simp [hk] at hoj;exact hoj.symm
    subst this
    exact getD_set_true (hall e he hb)
  · rw [getD_set_ne false hkj] at hl
    exact getD_set_true (hc k o hk hl e he hb)
theorem aC2 {K:AS->Prop} {i:Nat} {oi:Oper} {x:AV} {u:Up} (hb:oQ bm ops=true) (hi:ops[i]?=some oi) :
    ∀ (fuel:Nat) (listed:Array Bool) (S:AS),Closed ops listed ->
      (∀ j oj,ops[j]?=some oj->j≠i->listed.getD j true=false->(bm.getD j 0).testBit i=false->oi.apart ops.toArray oj=true/\pW rd wr i j=true) ->
      i∈Region.ready .any ops.toArray listed->YA P ops rd wr C i oi S x u ->
      zR P ops rd wr C K fuel (listed.setIfInBounds i true) (S.res oi.dst x u)->zR P ops rd wr C K (fuel+1) listed S:=by
  have self:∀ {S:AS} {K':AS->Prop},YA P ops rd wr C i oi S x u->K' (S.res oi.dst x u)->rF P ops rd wr C i K' S:=λhy h=>by
    unfold rF;simp only [hi];exact ⟨x,u,hy,h⟩
  intro fuel
  induction fuel with
  | zero =>
    intro listed S _ _ hr hy H
    refine ⟨λh=>(by rw [h] at hr;cases hr),λj hj=>?_⟩
    by_cases hji:j=i
    · subst hji;exact self hy H
    · have:=ready_mono hj hji
      rw [H.1] at this
      cases this
  | succ fuel ih =>
    intro listed S hc hfree hr hy H
    refine ⟨λh=>(by rw [h] at hr;cases hr),λj hj=>?_⟩
    by_cases hji:j=i
    · subst hji;exact self hy H
    · have h1:=H.2 j (ready_mono hj hji)
      obtain ⟨hjun,oj,hoj,hall⟩:=mem_ready.1 hj
      have hoj':ops[j]?=some oj:=by simpa using hoj
      obtain ⟨f1,f2⟩:=hfree j oj hoj' hji hjun (zJ hb hc hj (mem_ready.1 hr).1)
      have h2:=aJZ hoj' f1 f2 hy h1
      have hfree':∀ k ok,ops[k]?=some ok->k≠i->(listed.setIfInBounds j true).getD k true=false->(bm.getD k 0).testBit i=false->oi.apart ops.toArray ok=true/\pW rd wr i k=true:=λk ok hk hki hun hno=>by
        refine hfree k ok hk hki ?_ hno
        by_cases hjk:j=k
        · subst hjk;exact hjun
        · rw [getD_set_ne true hjk] at hun;exact hun
      refine aLH (λS' h3=>ih (listed.setIfInBounds j true) S' (zB hc hj) hfree' (ready_mono hr (Ne.symm hji)) h3.1 ?_) h2
      rw [Array.setIfInBounds_comm _ _ hji]
      exact h3.2
def DG (P:Program) (rd:Nat->Nat->Bool) (wr:Nat->Option Nat) (C:Nat) (ops:List Oper) (K:AS->Prop):List Oper->Nat->AS->Prop
  | [],_,S=>K S
  | o :: rest,i,S=>∃ x u,YA P ops rd wr C i o S x u/\DG P rd wr C ops K rest (i+1) (S.res o.dst x u)
def F8 (ops:List Oper) (bm:List Nat) (rd:Nat->Nat->Bool) (wr:Nat->Option Nat) (i:Nat) (o:Oper):Bool :=
  ops.zipIdx.all λ(oj,j)=>Nat.beq j i || Nat.blt j i || (bm.getD j 0).testBit i || (o.apart ops.toArray oj && pW rd wr i j)
def GZ (ops:List Oper):Bool:=ops.zipIdx.all λ(o,j)=>o.after.all λe=>!(Region.binds .any e) || Nat.blt e.on j
theorem GU {l:List Oper} (h:(l.all λo=>kP n o.dst && kN o)=true):l.toArray.all kN=true:=by
  simp only [List.all_eq_true,Bool.and_eq_true] at h
  simpa using λo ho=>(h o ho).2
def D6 (n:NT) (ops:List Oper) (bm:List Nat) (rd:Nat->Nat->Bool) (wr:Nat->Option Nat):Bool :=
  oQ bm ops && GZ ops && (ops.all λo=>kP n o.dst && kN o) && ops.zipIdx.all λ(o,i)=>F8 ops bm rd wr i o
def upto (N k:Nat):Array Bool:=Array.ofFn (n:=N) λi=>decide (i.val<k)
theorem vY (N k j:Nat) (d:Bool):(upto N k).getD j d=if j<N then decide (j<k) else d:=by
  unfold upto
  by_cases h:j<N
  · simp [h]
  · simp [h]
theorem aG6 {N k:Nat} (h:k<N):(upto N k).setIfInBounds k true=upto N (k+1):=by
  apply Array.ext_getElem?
  intro i
  rw [Array.getElem?_setIfInBounds]
  have hs:(upto N k).size=N:=by simp [upto]
  have g:∀ m,(upto N m)[i]?=if i<N then some (decide (i<m)) else none:=λm=>by
    unfold upto;by_cases hi:i<N <;> simp [hi]
  by_cases hk:k=i
  · subst hk;rw [if_pos rfl,g,if_pos (by rw [hs];exact h),if_pos h];simp
  · rw [if_neg hk,g,g]
    by_cases hi:i<N
    · rw [if_pos hi,if_pos hi];congr 1;simp;omega
    · rw [if_neg hi,if_neg hi]
theorem mem_zipIdx' {α:Type} {l:List α} {i:Nat} {x:α} (h:l[i]?=some x):(x,i)∈l.zipIdx:=by
  rw [List.mem_iff_getElem?];exact ⟨i,by simp [h]⟩
theorem UL {K:AS->Prop} (hb:oQ bm ops=true) (ho:GZ ops=true) (hf:(ops.zipIdx.all λ(o,i)=>F8 ops bm rd wr i o)=true) :
    ∀ (l:List Oper) (k:Nat) (S:AS),ops.drop k=l->k+l.length=ops.length->DG P rd wr C ops K l k S->zR P ops rd wr C K l.length (upto ops.length k) S
  | [],k,S,hl,hk,h=>by
    refine ⟨?_,h⟩
    simp at hk
    rw [List.eq_nil_iff_forall_not_mem]
    intro j hj
    obtain ⟨h1,o,ho,_⟩:=mem_ready.1 hj
    have ho':ops[j]?=some o:=by simpa using ho
    have:=(List.getElem?_eq_some_iff.1 ho').1
    rw [vY,if_pos this] at h1
    simp at h1
    omega
  | o :: l,k,S,hl,hk,h=>by
    obtain ⟨h0,h1⟩:=drop_cons hl
    simp only [List.length_cons] at hk
    have hkl:k<ops.length:=by omega
    obtain ⟨x,u,hy,hK⟩:=h
    have hin:∀ (j:Nat) (oj:Oper),ops[j]?=some oj->∀ e∈oj.after,Region.binds .any e=true->e.on<j:=by
      intro j oj hj e he hbd
      unfold GZ at ho
      rw [List.all_eq_true] at ho
      have:=ho (oj,j) (mem_zipIdx' hj)
      rw [Array.all_eq_true_iff_forall_mem] at this
      have:=this e he
      simpa [hbd,Nat.blt_eq] using this
    refine aC2 hb h0 l.length (upto ops.length k) S ?_ ?_ ?_ hy ?_
    · intro j oj hj hl' e he hbd
      have hjl:=(List.getElem?_eq_some_iff.1 hj).1
      have hlt:=hin j oj hj e he hbd
      rw [vY,if_pos hjl] at hl'
      rw [vY,if_pos (by omega)]
      simp at hl' ⊢;omega
    · intro j oj hj hne hun hbm
      have hjl:=(List.getElem?_eq_some_iff.1 hj).1
      rw [vY,if_pos hjl] at hun
      rw [List.all_eq_true] at hf
      have:=hf (o,k) (mem_zipIdx' h0)
      unfold F8 at this
      rw [List.all_eq_true] at this
      have:=this (oj,j) (mem_zipIdx' hj)
      have e1:Nat.beq j k=false:=by cases hbq:Nat.beq j k with | false=>rfl | true=>exact absurd (Nat.eq_of_beq_eq_true hbq) hne
      have e2:Nat.blt j k=false:=by
        cases hbq:Nat.blt j k with
        | false=>rfl
        | true=>rw [Nat.blt_eq] at hbq;simp at hun;omega
      simp only [e1,e2,hbm,Bool.false_or,Bool.and_eq_true] at this
      exact this
    · refine mem_ready.2 ⟨by rw [vY,if_pos hkl];simp,o,by simpa using h0,λe he hbd=>?_⟩
      have hlt:=hin k o h0 e he hbd
      rw [vY,if_pos (by omega)]
      simp;exact hlt
    · rw [aG6 hkl]
      exact UL hb ho hf l (k+1) _ h1 (by omega) hK
theorem aBS {id:Nat} {l:List Oper} {S:AS} {Q:Go.Exit->AS->Prop} (bm:List Nat) (rd:Nat->Nat->Bool) (wr:Nat->Option Nat) (hm:P.follows .mixedOrders=true) (hB:D6 n l bm rd wr=true)
    (h:∀ C,DG P rd wr C l (Q .normal) l 0 S):Tr P n (.region id l.toArray true) S Q:=by
  intro s a hs
  unfold D6 at hB
  simp only [Bool.and_eq_true] at hB
  obtain ⟨⟨⟨b1,b2⟩,b3⟩,b4⟩:=hB
  obtain ⟨C,hC⟩:=hs.heap.fin
  let s1:Sit:={ s with w:={ s.w with drawn:=s.w.drawn+1 } }
  have hv:∀ x v,VR s x v->VR s1 x v:=λx v h=>VR.mono (s:=s) (s':=s1) (λ_ hi=>⟨hi,rfl⟩) (λ_ _ h=>.inl h) (λ_ h=>h) h
  have hs1:SR n s1 S a:=by
    refine ⟨hs.size,hs.defers,λt x hx=>let ⟨v,h1,h2⟩:=hs.slot t x hx;⟨v,h1,hv _ _ h2⟩,⟨λi o ho=>?_,hs.heap.jQ,hs.heap.im,hs.heap.fin⟩⟩
    obtain ⟨m,hm⟩:=hs.heap.obj i o ho
    refine ⟨m,⟨hm.hm,hm.bP,hm.hsz,hm.hk,hm.body.imp (λh=>h) λ⟨cur,fr,hb⟩=>⟨cur,fr,⟨hb.hnil,hb.hb,hb.hfr,hb.happ,hb.hcs,hb.hct,hb.hlen,hb.hr,λi r j x v a b c=>hv _ _ (hb.hv i r j x v a b c),hb.h1,hb.him,hb.jI⟩⟩⟩⟩
  have hfr1:Fr s S.hp s1 S.hp:=⟨rfl,rfl,rfl,Nat.le_refl _,λ_ _ _=>rfl,λ_ h=>h,λ_ _ _ h=>h,λ_ _ h=>h,hv,λ_ h=>h⟩
  have hA:=UL (P:=P) (C:=C) (K:=Q .normal) b1 b2 b4 l 0 S rfl (by simp) (h C)
  have hup:upto l.length 0=Array.replicate l.toArray.size false:=by
    apply Array.ext
    · simp [upto]
    · intro i h1 h2;simp [upto]
  rw [hup] at hA
  have:=CB (n:=n) (s0:=s) (H0:=S.hp) (λi o ho=>by rw [List.all_eq_true] at b3;have:=b3 o (List.mem_of_getElem? ho);rw [Bool.and_eq_true] at this;exact this.1) _ _ S s1 a hs1 hfr1 (λj _=>hC (C+j) (by omega)) hA
  have hsz:l.toArray.size=l.length:=by simp
  rw [<- hsz] at this
  refine kJ (JX hm (GU b3) (by rw [hsz] at this ⊢;exact this)) ?_
  rintro e a' w' ⟨rfl,S',s',h1,h2,h3,h4⟩
  exact ⟨S',s',h1,h2,h3,h4⟩
variable {S:AS} {K:AS->Prop} {rest todo:List Oper} {o:Oper} {i:Nat}
theorem CP (h:K S):DG P rd wr C ops K [] i S:=h
theorem aJE (hw:Wd ops S o=some false) (h:DG P rd wr C ops K rest (i+1) (S.put o.dst (.sc undef))):DG P rd wr C ops K (o :: rest) i S :=
  ⟨.sc undef,none,.inr ⟨hw,rfl,rfl⟩,h⟩
theorem jO {x:AV} (hw:Wd ops S o=some true) (hy:∀ H,(∀ k,rd i k=true->H k=S.hp k)->bS P o ⟨S.sl,H⟩ x) (h:DG P rd wr C ops K rest (i+1) (S.put o.dst x)):DG P rd wr C ops K (o :: rest) i S :=
  ⟨x,none,.inl ⟨hw,λ_ hp=>(by cases hp),λH hH=>(hy H hH).d9 (λ_ h=>h.elim) (λ_ h=>h.elim)⟩,h⟩
theorem rU {x:AV} {k:Nat} {ob:Option aW} (hw:Wd ops S o=some true) (hk:wr i=some k) (hy:∀ H,(∀ k,rd i k=true->H k=S.hp k)->bW P o ⟨S.sl,H⟩ (·=C+i) (·=C+i) (λy H'=>y=x/\H'=upd H k ob))
    (h:DG P rd wr C ops K rest (i+1) (({ S with hp:=upd S.hp k ob }:AS).put o.dst x)):DG P rd wr C ops K (o :: rest) i S :=
  ⟨x,some (k,ob),.inl ⟨hw,λ_ hp=>(by cases hp;exact hk),λH hH=>hy H hH⟩,h⟩
end
end Go.Pv
