import Derived.Test.YtimkkeehkhkhcaaGreatPvC
set_option linter.unusedVariables false
set_option linter.unusedSimpArgs false
namespace Go.Pv
section
variable {P:Program} {n:NT} {S:AS}
theorem alloc_old (w:World) (o:Obj) (k:Nat) (h:k<w.heap.size):(w.alloc o).heap[k]?=w.heap[k]?:=by
  show (w.heap.push o)[k]?=_
  rw [Array.getElem?_push_lt h,Array.getElem?_eq_getElem h]
theorem mZ (w:World) (o:Obj):(w.alloc o).heap[w.heap.size]?=some o:=by
  show (w.heap.push o)[w.heap.size]?=_
  simp
theorem aDE {fr0:Nat×Nat} {s:Sit} {H:AH} (hH:HR s H) (id:Nat) (o:aW) (g ct:Nat) (cur:Array Value) (w':World)
    (hos:w'.os=s.w.os) (htape:w'.tape=s.w.tape) (hout:w'.output=s.w.output) (hsize:s.w.heap.size<=w'.heap.size)
    (hkeep:∀ k,k<s.w.heap.size->k≠g->w'.heap[k]?=s.w.heap[k]?)
    (hb:w'.heap[g]?=some (.cells cur o.elem fr0)) (hfr0:∀ k,k<cur.size->¬ (fr0.1<=k/\k<fr0.2)) (happ0:o.app=true->fr0=(0,0))
    (hg:s.w.heap.size<=g\/∃ o0 m0,H id=some o0/\o0.mt=true/\s.mu id=some m0/\m0.nil=false/\m0.b=g)
    (bP:¬ s.used o.aD) (hmt:o.mt=true) (hcs:cur.size=ct*o.sz) (hct:ct<=maxLen) (hlen:o.rows.length<=ct)
    (hr:∀ (i:Nat) (r:List AV),o.rows[i]?=some r->r.length=o.sz)
    (hv:∀ (i:Nat) (r:List AV) (j:Nat) (x:AV) (v:Value),o.rows[i]?=some r->r[j]?=some x->cur[i*o.sz+j]?=some v->VR s x v)
    (h1:∀ (k:Nat) (v:Value),cur[k]?=some v->v.oneCell'=true) :
    ∃ s':Sit,s'.w=w'/\s'.used=(λk=>s.used k\/k=o.aD)/\s'.mu id=some ⟨false,g,o.sz,ct,o.aD⟩/\HR s' (upd H id (some o))/\Fr s H s' (upd H id (some o)):=by
  have jI:¬ s.Im g:=by
    intro hi
    rcases hg with h | ⟨o0,m0,h1,h2,h3,h4,h5⟩
    · have:=hH.im g hi;omega
    · obtain ⟨m,hm⟩:=hH.obj id o0 h1
      have:=hm.hm;rw [h3] at this;cases this
      rcases hm.body with ⟨hn,_⟩ | ⟨cur,fr,hb⟩
      · rw [h4] at hn;cases hn
      · exact hb.jI h2 (by rw [h5];exact hi)
  have hsame:∀ b,s.Im b->w'.heap[b]?=s.w.heap[b]?:=λb hi=>hkeep b (hH.im b hi) (λe=>jI (e ▸ hi))
  let s':Sit:={ w:=w',Im:=s.Im,mu:=upd s.mu id (some ⟨false,g,o.sz,ct,o.aD⟩),used:=λk=>s.used k\/k=o.aD }
  have hmono:∀ x v,VR s x v->VR s' x v:=λx v h=>VR.mono (s:=s) (s':=s') (λb hi=>⟨hi,hsame b hi⟩) (λi m' hm'=>by
    by_cases hi:i=id
    · subst hi
      simp only [s',upd_same,Option.some.injEq] at hm'
      subst hm';exact .inr bP
    · simp only [s',upd_ne _ _ hi] at hm';exact .inl hm') (λ_ h=>.inl h) h
  have hother:∀ i o' m,i≠id->H i=some o'->s.mu i=some m->m.nil=false->m.b<s.w.heap.size/\m.b≠g:=by
    intro i o' m hi ho' hm hn
    obtain ⟨m1,hm1⟩:=hH.obj i o' ho'
    have:=hm1.hm;rw [hm] at this;cases this
    rcases hm1.body with ⟨hn',_⟩ | ⟨cur',fr',hb'⟩
    · rw [hn] at hn';cases hn'
    · have hlt:m.b<s.w.heap.size:=(Array.getElem?_eq_some_iff.1 hb'.hb).1
      refine ⟨hlt,λe=>?_⟩
      rcases hg with h | ⟨o0,m0,g1,_,g3,g4,g5⟩
      · omega
      · exact hi (hH.jQ i id o' o0 m m0 ho' g1 hm g3 hn g4 (by rw [e,g5]))
  refine ⟨s',rfl,rfl,by simp [s',upd_same],⟨?_,?_,?_,?_⟩,⟨hos,htape,hout,hsize,?_,λ_ h=>h,λ_ _ _ h=>h,?_,hmono,λ_ h=>.inl h⟩⟩
  · intro i o' ho'
    by_cases hi:i=id
    · subst hi
      rw [upd_same] at ho';cases ho'
      refine ⟨⟨false,g,o.sz,ct,o.aD⟩,⟨upd_same _ _ _,rfl,rfl,.inr rfl,.inr ⟨cur,fr0,?_⟩⟩⟩
      exact ⟨rfl,hb,hfr0,happ0,hcs,hct,hlen,hr,λi r j x v a b c=>hmono _ _ (hv i r j x v a b c),h1,λh=>(by rw [hmt] at h;cases h),λ_=>jI⟩
    · rw [upd_ne _ _ hi] at ho'
      obtain ⟨m,hm⟩:=hH.obj i o' ho'
      refine ⟨m,⟨by simp only [s',upd_ne _ _ hi];exact hm.hm,hm.bP,hm.hsz,.inl hm.hk,?_⟩⟩
      rcases hm.body with h | ⟨cur',fr',hb'⟩
      · exact .inl h
      · obtain ⟨q1,q2⟩:=hother i o' m hi ho' hm.hm hb'.hnil
        exact .inr ⟨cur',fr',⟨hb'.hnil,(hkeep m.b q1 q2).trans hb'.hb,hb'.hfr,hb'.happ,hb'.hcs,hb'.hct,hb'.hlen,hb'.hr,λi r j x v a b c=>hmono _ _ (hb'.hv i r j x v a b c),hb'.h1,hb'.him,hb'.jI⟩⟩
  · intro i i' o1 o2 m m' h1' h2' hm hm' hn hn' he
    by_cases hi:i=id
    · by_cases hi':i'=id
      · rw [hi,hi']
      · subst hi
        simp only [s',upd_same,Option.some.injEq] at hm
        rw [upd_ne _ _ hi'] at h2'
        simp only [s',upd_ne _ _ hi'] at hm'
        subst hm
        exact absurd he.symm (hother i' o2 m' hi' h2' hm' hn').2
    · rw [upd_ne _ _ hi] at h1'
      simp only [s',upd_ne _ _ hi] at hm
      by_cases hi':i'=id
      · subst hi'
        simp only [s',upd_same,Option.some.injEq] at hm'
        subst hm'
        exact absurd he (hother i o1 m hi h1' hm hn).2
      · rw [upd_ne _ _ hi'] at h2'
        simp only [s',upd_ne _ _ hi'] at hm'
        exact hH.jQ i i' o1 o2 m m' h1' h2' hm hm' hn hn' he
  · intro b hb'
    exact Nat.lt_of_lt_of_le (hH.im b hb') hsize
  · obtain ⟨C,hC⟩:=hH.fin
    exact ⟨max C (o.aD+1),λk hk h=>by rcases h with h | h;exact hC k (by omega) h;omega⟩
  · intro b hb' ho
    refine hkeep b hb' λe=>ho ?_
    rcases hg with h | ⟨o0,m0,g1,g2,g3,g4,g5⟩
    · omega
    · exact ⟨id,o0,m0,g1,g2,g3,g4,by rw [g5,e]⟩
  · rintro b hb' ⟨i,o',m,q1,q2,q3,q4,q5⟩
    by_cases hi:i=id
    · subst hi
      simp only [s',upd_same,Option.some.injEq] at q3
      subst q3
      simp only at q5;subst q5
      rcases hg with h | ⟨o0,m0,g1,g2,g3,g4,g5⟩
      · omega
      · exact ⟨i,o0,m0,g1,g2,g3,g4,g5⟩
    · rw [upd_ne _ _ hi] at q1
      simp only [s',upd_ne _ _ hi] at q3
      exact ⟨i,o',m,q1,q2,q3,q4,q5⟩
theorem qZ {s:Sit} {H:AH} (hH:HR s H) (id:Nat) (o:aW) (g ct:Nat) (cur:Array Value) (w':World)
    (hos:w'.os=s.w.os) (htape:w'.tape=s.w.tape) (hout:w'.output=s.w.output) (hsize:s.w.heap.size<=w'.heap.size)
    (hkeep:∀ k,k<s.w.heap.size->k≠g->w'.heap[k]?=s.w.heap[k]?)
    (hb:w'.heap[g]?=some (.cells cur o.elem (0,0)))
    (hg:s.w.heap.size<=g\/∃ o0 m0,H id=some o0/\o0.mt=true/\s.mu id=some m0/\m0.nil=false/\m0.b=g)
    (bP:¬ s.used o.aD) (hmt:o.mt=true) (hcs:cur.size=ct*o.sz) (hct:ct<=maxLen) (hlen:o.rows.length<=ct)
    (hr:∀ (i:Nat) (r:List AV),o.rows[i]?=some r->r.length=o.sz)
    (hv:∀ (i:Nat) (r:List AV) (j:Nat) (x:AV) (v:Value),o.rows[i]?=some r->r[j]?=some x->cur[i*o.sz+j]?=some v->VR s x v)
    (h1:∀ (k:Nat) (v:Value),cur[k]?=some v->v.oneCell'=true) :
    ∃ s':Sit,s'.w=w'/\s'.used=(λk=>s.used k\/k=o.aD)/\s'.mu id=some ⟨false,g,o.sz,ct,o.aD⟩/\HR s' (upd H id (some o))/\Fr s H s' (upd H id (some o)) :=
  aDE (fr0:=(0,0)) hH id o g ct cur w' hos htape hout hsize hkeep hb (λk _ h=>by simp at h) (λ_=>rfl) hg bP hmt hcs hct hlen hr hv h1
theorem VB {s:Sit} {H:AH} (hH:HR s H) (id:Nat) (o:aW) (m:Mu) (cur cur':Array Value) (fr:Nat×Nat) (rows:List (List AV)) (w':World)
    (ho:H id=some o) (hm:s.mu id=some m) (hB:rJ s o m cur fr) (hmt:o.mt=true)
    (hos:w'.os=s.w.os) (htape:w'.tape=s.w.tape) (hout:w'.output=s.w.output) (hsize:w'.heap.size=s.w.heap.size)
    (hkeep:∀ k,k≠m.b->w'.heap[k]?=s.w.heap[k]?) (hb:w'.heap[m.b]?=some (.cells cur' o.elem fr)) (hcs:cur'.size=cur.size)
    (hlen:rows.length<=m.ct) (hr:∀ (i:Nat) (r:List AV),rows[i]?=some r->r.length=o.sz)
    (hv:∀ (i:Nat) (r:List AV) (j:Nat) (x:AV) (v:Value),rows[i]?=some r->r[j]?=some x->cur'[i*o.sz+j]?=some v->VR s x v)
    (h1:∀ (k:Nat) (v:Value),cur'[k]?=some v->v.oneCell'=true) :
    ∃ s':Sit,s'.w=w'/\s'.used=s.used/\HR s' (upd H id (some { o with rows:=rows }))/\Fr s H s' (upd H id (some { o with rows:=rows })):=by
  let s':Sit:={ s with w:=w' }
  have jI:=hB.jI hmt
  have hsame:∀ b,s.Im b->w'.heap[b]?=s.w.heap[b]?:=λb hi=>hkeep b (λe=>jI (e ▸ hi))
  have hmono:∀ x v,VR s x v->VR s' x v:=λx v h=>VR.mono (s:=s) (s':=s') (λb hi=>⟨hi,hsame b hi⟩) (λi m' hm'=>.inl hm') (λ_ h=>h) h
  obtain ⟨m1,hm1⟩:=hH.obj id o ho
  have:=hm1.hm;rw [hm] at this;cases this
  refine ⟨s',rfl,rfl,⟨?_,?_,?_,hH.fin⟩,⟨hos,htape,hout,by simp [s',hsize],?_,λ_ h=>h,λ_ _ _ h=>h,?_,hmono,λ_ h=>h⟩⟩
  · intro i o' ho'
    by_cases hi:i=id
    · subst hi
      rw [upd_same] at ho';cases ho'
      refine ⟨m,⟨hm,hm1.bP,hm1.hsz,hm1.hk,.inr ⟨cur',fr,?_⟩⟩⟩
      exact ⟨hB.hnil,hb,λk hk=>hB.hfr k (by rw [<- hcs];exact hk),hB.happ,hcs.trans hB.hcs,hB.hct,hlen,hr,λi r j x v a b c=>hmono _ _ (hv i r j x v a b c),h1,hB.him,hB.jI⟩
    · rw [upd_ne _ _ hi] at ho'
      obtain ⟨m2,hm2⟩:=hH.obj i o' ho'
      refine ⟨m2,⟨hm2.hm,hm2.bP,hm2.hsz,hm2.hk,?_⟩⟩
      rcases hm2.body with h | ⟨cur2,fr2,hb2⟩
      · exact .inl h
      · have hne:m2.b≠m.b:=λe=>hi (hH.jQ i id o' o m2 m ho' ho hm2.hm hm hb2.hnil hB.hnil e)
        exact .inr ⟨cur2,fr2,⟨hb2.hnil,(hkeep m2.b hne).trans hb2.hb,hb2.hfr,hb2.happ,hb2.hcs,hb2.hct,hb2.hlen,hb2.hr,λi r j x v a b c=>hmono _ _ (hb2.hv i r j x v a b c),hb2.h1,hb2.him,hb2.jI⟩⟩
  · have conv:∀ i o',upd H id (some { o with rows:=rows }) i=some o'->∃ o'',H i=some o'':=by
      intro i o' h
      by_cases hi:i=id
      · subst hi;exact ⟨o,ho⟩
      · rw [upd_ne _ _ hi] at h;exact ⟨o',h⟩
    intro i i' o1 o2 m1 m2 g1 g2 q1 q2 n1 n2 e
    obtain ⟨o1',g1'⟩:=conv i o1 g1
    obtain ⟨o2',g2'⟩:=conv i' o2 g2
    exact hH.jQ i i' o1' o2' m1 m2 g1' g2' q1 q2 n1 n2 e
  · intro b hb'
    have:=hH.im b hb'
    simp only [s',hsize];exact this
  · intro b hb' hno
    exact hkeep b λe=>hno ⟨id,o,m,ho,hmt,hm,hB.hnil,e.symm⟩
  · rintro b hb' ⟨i,o',m',q1,q2,q3,q4,q5⟩
    by_cases hi:i=id
    · subst hi
      rw [upd_same] at q1;cases q1
      exact ⟨i,o,m',ho,q2,q3,q4,q5⟩
    · rw [upd_ne _ _ hi] at q1
      exact ⟨i,o',m',q1,q2,q3,q4,q5⟩
def AV.one:AV->Bool
  | .sc v=>v.oneCell'
  | .agg _=>false
  | .aM _=>false
  | _=>true
theorem VR.one {s:Sit} {x:AV} {v:Value} (h:VR s x v) (h1:x.one=true):v.oneCell'=true:=by
  cases h <;> first | exact h1 | rfl | assumption | cases h1
def AV.cells:AV->List AV
  | .agg cs=>cs
  | x=>[x]
def jF:List AV->Bool
  | []=>true
  | x :: r=>x.one && jF r
theorem E4:∀ {l:List AV} (_:jF l=true) (i:Nat) (x:AV),l[i]?=some x->x.one=true
  | [],_,i,x,h=>by simp at h
  | y :: r,hl,i,x,h=>by
    simp only [jF,Bool.and_eq_true] at hl
    cases i with
    | zero=>simp at h;subst h;exact hl.1
    | succ i=>exact E4 hl.2 i x (by simpa using h)
theorem VR.cells {s:Sit} {x:AV} {v:Value} (h:VR s x v) (h1:jF x.cells=true) :
    v.cells.size=x.cells.length/\(∀ (i:Nat) (y:AV) (u:Value),x.cells[i]?=some y->v.cells[i]?=some u->VR s y u)/\∀ (i:Nat) (u:Value),v.cells[i]?=some u->u.oneCell'=true:=by
  have one:∀ (hx:x.cells=[x]) (hv:v.cells=#[v]),v.cells.size=x.cells.length/\(∀ (i:Nat) (y:AV) (u:Value),x.cells[i]?=some y->v.cells[i]?=some u->VR s y u)/\∀ (i:Nat) (u:Value),v.cells[i]?=some u->u.oneCell'=true:=by
    intro hx hv
    rw [hx] at h1 ⊢
    rw [hv]
    refine ⟨rfl,λi y u h2 h3=>?_,λi u h3=>?_⟩
    · cases i with
      | zero=>simp at h2 h3;subst h2 h3;exact h
      | succ i=>simp at h2
    · cases i with
      | zero=>simp at h3;subst h3;exact h.one (by simpa [jF] using h1)
      | succ i=>simp at h3
  cases x with
  | agg cs =>
    cases h with
    | agg hl hv =>
      rename_i vs
      refine ⟨hl.symm,hv,λi u hu=>?_⟩
      have hi:i<cs.length:=by rw [hl];exact (Array.getElem?_eq_some_iff.1 hu).1
      exact (hv i cs[i] u (by simp [hi]) hu).one (E4 h1 i _ (by simp [AV.cells,hi]))
  | sc u =>
    have:=h.gJ;subst this
    refine one rfl ?_
    cases v <;> first | rfl | (simp [AV.cells,jF,AV.one,Value.oneCell'] at h1)
  | list sz xs=>exact one rfl (by cases h <;> rfl)
  | pp cs=>exact one rfl (by cases h;rfl)
  | pt id aD row off=>exact one rfl (by have:=h.one rfl;cases v <;> first | rfl | (simp [Value.oneCell'] at this))
  | sl id aD off len=>exact one rfl (by have:=h.one rfl;cases v <;> first | rfl | (simp [Value.oneCell'] at this))
  | fn f a c=>exact one rfl (by cases h;rfl)
  | iG t x=>exact one rfl (by cases h;rfl)
  | mp ks xs=>exact one rfl (by cases h;rfl)
  | aM cs=>simp [AV.cells,jF,AV.one] at h1
section ops
variable {o:Oper} {T:TypeId} {x y:Operand}
def zeroOf (P:Program) (T:TypeId):Option (List Value):=((P.info? T).bind (·.zero)).map (·.cells.toList)
theorem uY {zs:List Value} (h:zeroOf P T=some zs) (w:World):∃ z,z.cells.toList=zs/\(zeroValue T).run P w=.ok z w:=by
  unfold zeroOf at h
  cases hi:P.info? T with
  | none=>rw [hi] at h;simp at h
  | some i =>
    rw [hi] at h
    simp only [Option.bind_some] at h
    cases hz:i.zero with
    | none=>rw [hz] at h;simp at h
    | some z =>
      rw [hz] at h
      simp only [Option.map_some,Option.some.injEq] at h
      exact ⟨z,h,by simp [zeroValue,typeInfo,program,Sem.run,hi,hz]⟩
def lF:List Value->Bool
  | []=>true
  | x :: r=>x.oneCell' && lF r
theorem qY:∀ {l:List Value} (_:lF l=true) (i:Nat) (x:Value),l[i]?=some x->x.oneCell'=true
  | [],_,i,x,h=>by simp at h
  | y :: r,hl,i,x,h=>by
    simp only [lF,Bool.and_eq_true] at hl
    cases i with
    | zero=>simp at h;subst h;exact hl.1
    | succ i=>exact qY hl.2 i x (by simpa using h)
def nY (F U:Nat->Prop) (V:Nat->Prop):Prop:=(F=no/\U=any/\V=any)\/∃ v,F=(·=v)/\U=(·=v)/\V=(·=v)
theorem nY.any:nY no any any:=.inl ⟨rfl,rfl,rfl⟩
theorem nY.one (v:Nat):nY (·=v) (·=v) (·=v):=.inr ⟨v,rfl,rfl,rfl⟩
theorem nY.get {F U V:Nat->Prop} (h:nY F U V) {s:Sit} {H:AH} (hH:HR s H) (hF:∀ k,F k->¬ s.used k):∃ v,V v/\U v/\¬ s.used v:=by
  rcases h with ⟨rfl,rfl,rfl⟩ | ⟨v,rfl,rfl,rfl⟩
  · obtain ⟨C,hC⟩:=hH.fin
    exact ⟨C,trivial,trivial,hC C (Nat.le_refl _)⟩
  · exact ⟨v,rfl,rfl,hF v rfl⟩
theorem xZ {zs:List Value} {F U V:Nat->Prop} (id:Nat) (hp:nY F U V) (ho:o.op=.alloc T) (hz:zeroOf P T=some zs) (h1:lF zs=true) :
    bW P o S F U (λy H'=>∃ aD,V aD/\y=.pt id aD 0 0/\H'=upd S.hp id (some ⟨T,zs.length,true,true,aD,[zs.map .sc]⟩)):=by
  intro s a next Q hH hops hF hn
  obtain ⟨aD,hV,hU,hun⟩:=hp.get hH hF
  obtain ⟨z,hz1,hz2⟩:=uY hz s.w
  have hzs:z.cells.size=zs.length:=by rw [<- hz1];simp
  obtain ⟨s',g1,g2,g3,g4,g5⟩:=qZ hH id ⟨T,zs.length,true,true,aD,[zs.map .sc]⟩ s.w.heap.size 1 z.cells (s.w.alloc (.cells z.cells T)) rfl rfl rfl (by simp)
    (λk hk _=>alloc_old s.w _ k hk) (mZ s.w _) (.inl (Nat.le_refl _)) hun rfl (by simp [hzs]) (by simp [maxLen]) (by simp)
    (λi r hr=>by cases i with | zero=>simp at hr;subst hr;simp | succ i=>simp at hr)
    (λi r j x v hr hx hv=>by
      cases i with
      | succ i=>simp at hr
      | zero =>
        simp at hr;subst hr
        rw [Nat.zero_mul,Nat.zero_add,<- Array.getElem?_toList,hz1] at hv
        rw [List.getElem?_map,hv] at hx
        simp at hx;subst hx;exact .sc _)
    (λk v hv=>qY h1 k v (by rw [<- hz1,Array.getElem?_toList];exact hv))
  refine jM (w':=s'.w) (v:=.pointer (some ⟨s.w.heap.size,0,none⟩)) ?_ (hn s' _ (.pt id aD 0 0) _ ⟨aD,hV,rfl,rfl⟩ ?_ g4 g5 ?_)
  · rw [g1]
    simp only [execOp,ho,Instr.alloc,Sem.run_bind,hz2,Result.andThen_ok,newVar,newRow,newObj,Sem.run,Sem.run_pure]
    rfl
  · refine .pt (by rw [g2];exact .inr rfl) rfl λm hm _ _=>?_
    rw [g3] at hm;cases hm;simp
  · intro k hk;rw [g2] at hk;rcases hk with h | h;exact .inl h;exact .inr (h ▸ hU)
end ops
end
section
variable {P:Program} {n:NT} {S:AS}
theorem LD (P:Program) (g o:Nat) (e:TypeId) (fr:Nat×Nat):∀ (vs:List Value) (i:Nat) (cur:Array Value) (w:World),w.heap[g]?=some (.cells cur e fr)->o+i+vs.length<=cur.size ->
    (∀ k,k<cur.size->¬ (fr.1<=k/\k<fr.2))->(∀ (k:Nat) (v:Value),vs[k]?=some v->v.oneCell'=true) ->
    ∃ w' cur',(storeCells ⟨g,o,none⟩ vs i).run P w=.ok () w'/\w'.heap[g]?=some (.cells cur' e fr)/\cur'.size=cur.size /\
      (∀ k,cur'[k]?=if o+i<=k/\k<o+i+vs.length then vs[k-(o+i)]? else cur[k]?) /\
      (∀ k,k≠g->w'.heap[k]?=w.heap[k]?)/\w'.heap.size=w.heap.size/\w'.os=w.os/\w'.tape=w.tape/\w'.output=w.output
  | [],i,cur,w,hg,_,_,_=>⟨w,cur,rfl,hg,rfl,λk=>by rw [if_neg (by simp)],λ_ _=>rfl,rfl,rfl,rfl,rfl⟩
  | v :: vs,i,cur,w,hg,hl,hfr,h1=>by
    simp only [List.length_cons] at hl
    have hlt:o+i<cur.size:=by omega
    have hc:w.cell? ⟨g,o+i,none⟩=some cur[o+i]:=by rw [rX hg];simp [hlt]
    have hf:w.frozen? ⟨g,o+i,none⟩=false:=by
      have:=hfr (o+i) hlt
      simp only [World.frozen?,hg]
      simp only [Bool.and_eq_false_iff,decide_eq_false_iff_not]
      omega
    let w1:=w.setCell ⟨g,o+i,none⟩ v
    have hheap:w1.heap=w.heap.modify g λ
        | .cells c elem frozen=>.cells (if (none:Option Nat).isSome then c else c.setIfInBounds (o+i) v) elem frozen
        | o=>o:=rfl
    have hg1:w1.heap[g]?=some (.cells (cur.setIfInBounds (o+i) v) e fr):=by
      rw [hheap,Array.getElem?_modify,if_pos rfl,hg];rfl
    obtain ⟨w',cur',r1,r2,r3,r4,r5,r6,r7,r8,r9⟩:=LD P g o e fr vs (i+1) (cur.setIfInBounds (o+i) v) w1 hg1 (by simp;omega) (λk hk=>hfr k (by simpa using hk)) (λk u hu=>h1 (k+1) u (by simpa using hu))
    refine ⟨w',cur',?_,r2,by rw [r3];simp,λk=>?_,λk hk=>(r5 k hk).trans ?_,r6.trans ?_,r7,r8,r9⟩
    · simp only [storeCells,Sem.run_bind,addr_add]
      rw [run_store P w _ v .plain (h1 0 v rfl),hc]
      simp only [hf,Bool.false_eq_true,if_false,Result.andThen_ok]
      exact r1
    · rw [r4 k]
      by_cases hk:k=o+i
      · subst hk
        rw [if_neg (by omega),if_pos (by simp)]
        simp [hlt]
      · rw [Array.getElem?_setIfInBounds_ne (by omega)]
        by_cases h2:o+(i+1)<=k/\k<o+(i+1)+vs.length
        · rw [if_pos h2,if_pos (by simp;omega)]
          have:k-(o+i)=(k-(o+(i+1)))+1:=by omega
          rw [this];rfl
        · rw [if_neg h2,if_neg (by simp;omega)]
    · rw [hheap,Array.getElem?_modify,if_neg (by omega)]
    · rw [hheap];simp
def putRow (r:List AV) (off:Nat) (xs:List AV):List AV:=r.take off++xs++r.drop (off+xs.length)
theorem QY {r:List AV} {off:Nat} {xs:List AV} (h:off+xs.length<=r.length) (j:Nat):(putRow r off xs)[j]?=if off<=j/\j<off+xs.length then xs[j-off]? else r[j]?:=by
  unfold putRow
  have hl:(r.take off).length=off:=by simp;omega
  by_cases h1:j<off
  · rw [if_neg (by omega),List.append_assoc,List.getElem?_append_left (by omega),List.getElem?_take_of_lt h1]
  · rw [List.append_assoc,List.getElem?_append_right (by omega),hl]
    by_cases h2:j<off+xs.length
    · rw [if_pos (by omega),List.getElem?_append_left (by omega)]
    · rw [if_neg (by omega),List.getElem?_append_right (by omega),List.getElem?_drop]
      congr 1;omega
theorem M0 {r:List AV} {off:Nat} {xs:List AV} (h:off+xs.length<=r.length):(putRow r off xs).length=r.length:=by
  unfold putRow;simp;omega
theorem aD7 {i row sz j off k:Nat} (hj:j<sz) (ho:off+k<=sz) (h1:row*sz+off<=i*sz+j) (h2:i*sz+j<row*sz+off+k):i=row:=by
  rcases Nat.lt_trichotomy i row with h | h | h
  · have:(i+1)*sz<=row*sz:=Nat.mul_le_mul_right _ h
    rw [Nat.add_mul] at this;omega
  · exact h
  · have:(row+1)*sz<=i*sz:=Nat.mul_le_mul_right _ h
    rw [Nat.add_mul] at this;omega
section ops
variable {o:Oper} {T:TypeId} {x y:Operand}
theorem dZ {id aD row off k:Nat} {b:Bool} {ob:aW} {r:List AV} {v:AV} (ho:o.op=.store T x y) (hT0:gF P T=some (k,b)) (hx:S.ev x=some (.pt id aD row off)) (hy:S.ev y=some v)
    (hob:S.hp id=some ob) (bP:ob.aD=aD) (hmt:ob.mt=true) (hr:ob.rows[row]?=some r) (hcl:v.cells.length=k) (hfit0:Nat.ble (off+k) r.length=true) (h1:jF v.cells=true) :
    bW P o S no no (λz H'=>z=.sc undef/\H'=upd S.hp id (some { ob with rows:=ob.rows.set row (putRow r off v.cells) })):=by
  have hT:gF P T=some (v.cells.length,b):=by rw [hcl];exact hT0
  have hfit:off+v.cells.length<=r.length:=by rw [hcl];exact Nat.le_of_ble_eq_true hfit0
  intro s a next Q hH hops _ hn
  have hxv:=hops x (by simp [ho,Op.operands]) _ hx
  have hyv:=hops y (by simp [ho,Op.operands]) _ hy
  obtain ⟨m,cur,fr,hm,hb,hp⟩:=sD hH hob bP (λe=>by rw [e] at hr;simp at hr) hxv
  obtain ⟨c1,c2,c3⟩:=hyv.cells h1
  have hrow:row<ob.rows.length:=(List.getElem?_eq_some_iff.1 hr).1
  have hrl:r.length=ob.sz:=hb.hr row r hr
  have hroom:row*ob.sz+off+0+v.cells.length<=cur.size:=by
    rw [hb.hcs]
    have:(row+1)*ob.sz<=m.ct*ob.sz:=Nat.mul_le_mul_right _ (by have:=hb.hlen;omega)
    rw [Nat.add_mul] at this;omega
  obtain ⟨w',cur',r1,r2,r3,r4,r5,r6,r7,r8,r9⟩:=LD P m.b (row*ob.sz+off) ob.elem fr (a.eval y).cells.toList 0 cur s.w hb.hb (by rw [Array.length_toList,c1];exact hroom) hb.hfr
    (λk u hu=>c3 k u (by rw [<- hu,Array.getElem?_toList]))
  have hlen:(a.eval y).cells.toList.length=v.cells.length:=by rw [Array.length_toList,c1]
  simp only [Nat.add_zero,hlen] at r4
  have hpl:=M0 hfit
  obtain ⟨s',g1,gu,g2,g3⟩:=VB hH id ob m cur cur' fr (ob.rows.set row (putRow r off v.cells)) w' hob hm hb hmt r7 r8 r9 r6 r5 r2 r3 (by rw [List.length_set];exact hb.hlen)
    (λi q hq=>by
      by_cases hi:i=row
      · subst hi;rw [List.getElem?_set_self hrow] at hq;cases hq;rw [hpl,hrl]
      · rw [List.getElem?_set_ne (Ne.symm hi)] at hq;exact hb.hr i q hq)
    (λi q j z u hq hz hu=>by
      rw [r4] at hu
      by_cases hi:i=row
      · subst hi
        rw [List.getElem?_set_self hrow] at hq;cases hq
        rw [QY hfit] at hz
        by_cases hc:off<=j/\j<off+v.cells.length
        · rw [if_pos hc] at hz
          rw [if_pos (by omega)] at hu
          rw [show i*ob.sz+j-(i*ob.sz+off)=j-off by omega,Array.getElem?_toList] at hu
          exact c2 _ z u hz hu
        · rw [if_neg hc] at hz
          rw [if_neg (by omega)] at hu
          exact hb.hv i r j z u hr hz hu
      · rw [List.getElem?_set_ne (Ne.symm hi)] at hq
        have hj:j<ob.sz:=by have:=(List.getElem?_eq_some_iff.1 hz).1;rw [hb.hr i q hq] at this;exact this
        rw [if_neg (λhc=>hi (aD7 hj (by omega) hc.1 hc.2))] at hu
        exact hb.hv i q j z u hq hz hu)
    (λk u hu=>by
      rw [r4] at hu
      split at hu
      · exact c3 _ u (by rw [<- hu,Array.getElem?_toList])
      · exact hb.h1 k u hu)
  refine aHQ (w':=s'.w) ?_ (hn s' undef (.sc undef) _ ⟨rfl,rfl⟩ (.sc _) g2 g3 (λk hk=>.inl (gu ▸ hk)))
  rw [g1]
  have hnz:¬ ((a.eval y).cells.size≠v.cells.length):=by rw [c1];simp
  simp only [execOp,ho,Instr.storeAt,Sem.run_bind,hp,Instr.sureAddr,Sem.run_pure,Result.andThen_ok,storeVar,mG hT,hnz,if_false,r1]
theorem BD {v:AV} {F U V:Nat->Prop} (id:Nat) (hp:nY F U V) (ho:o.op=.box T x) (hx:S.ev x=some v) (h1:jF v.cells=true) :
    bW P o S F U (λy H'=>∃ aD,V aD/\y=.pt id aD 0 0/\H'=upd S.hp id (some ⟨T,v.cells.length,true,true,aD,[v.cells]⟩)):=by
  intro s a next Q hH hops hF hn
  obtain ⟨aD,hV,hU,hun⟩:=hp.get hH hF
  have hxv:=hops x (by simp [ho,Op.operands]) _ hx
  obtain ⟨c1,c2,c3⟩:=hxv.cells h1
  obtain ⟨s',g1,g2,g3,g4,g5⟩:=qZ hH id ⟨T,v.cells.length,true,true,aD,[v.cells]⟩ s.w.heap.size 1 (a.eval x).cells (s.w.alloc (.cells (a.eval x).cells T)) rfl rfl rfl (by simp)
    (λk hk _=>alloc_old s.w _ k hk) (mZ s.w _) (.inl (Nat.le_refl _)) hun rfl (by simp [c1]) (by simp [maxLen]) (by simp)
    (λi r hr=>by cases i with | zero=>simp at hr;subst hr;simp | succ i=>simp at hr)
    (λi r j z u hr hz hu=>by
      cases i with
      | succ i=>simp at hr
      | zero=>simp at hr;subst hr;rw [Nat.zero_mul,Nat.zero_add] at hu;exact c2 j z u hz hu)
    (λk u hu=>c3 k u hu)
  refine jM (w':=s'.w) (v:=.pointer (some ⟨s.w.heap.size,0,none⟩)) ?_ (hn s' _ (.pt id aD 0 0) _ ⟨aD,hV,rfl,rfl⟩ ?_ g4 g5 ?_)
  · rw [g1]
    simp only [execOp,ho,Instr.box,Sem.run_bind,newVar,newRow,newObj,Sem.run,Sem.run_pure]
    rfl
  · refine .pt (by rw [g2];exact .inr rfl) rfl λm hm _ _=>?_
    rw [g3] at hm;cases hm;simp
  · intro k hk;rw [g2] at hk;rcases hk with h | h;exact .inl h;exact .inr (h ▸ hU)
end ops
end
end Go.Pv
