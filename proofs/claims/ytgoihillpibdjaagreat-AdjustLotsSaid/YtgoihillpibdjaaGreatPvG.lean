import Derived.Test.YtgoihillpibdjaaGreatPvE
import Derived.Orders
set_option linter.unusedVariables false
set_option linter.unusedSimpArgs false
namespace Go.Pv
section
variable {P:Program} {n:NT} {S:AS}
def oD (s:Sit) (xs:List AV) (vs:Array Value):Prop:=xs.length=vs.size/\∀ (i:Nat) (x:AV) (v:Value),xs[i]?=some x->vs[i]?=some v->VR s x v
def PC (P:Program) (f:FuncId) (args:List AV) (H:AH) (R:AV->AH->Prop):Prop :=
  ∀ s vs,HR s H->oD s args vs->Calls P f vs s.w λe w'=>∃ y H' s' v,R y H'/\w'=s'.w/\e=.returned v/\VR s' y v/\HR s' H'/\Fr s H s' H'
theorem PC.mono {f:FuncId} {args:List AV} {H:AH} {R R':AV->AH->Prop} (h:PC P f args H R) (hr:∀ y H',R y H'->R' y H'):PC P f args H R' :=
  λs vs h1 h2=>(h s vs h1 h2).mono λ_ _ ⟨y,H',s',v,a,b⟩=>⟨y,H',s',v,hr _ _ a,b⟩
def bP (P:Program) (f:FuncId):Bool :=
  match P.funcs[f]? with
  | some fn=>!(fn.name == "runtime.NumGoroutine") && fn.body.isSome
  | none=>false
theorem XJ {f:FuncId} (h:bP P f=true) (args:Array Value) (w:World):(callFunc f args).run P w=.ok (.enter f args) w:=by
  unfold bP at h
  unfold callFunc
  cases hf:P.funcs[f]? with
  | none=>rw [hf] at h;cases h
  | some fn =>
    rw [hf] at h
    simp only [Bool.and_eq_true,Bool.not_eq_true'] at h
    have h2:fn.body.isNone=false:=by cases hb:fn.body <;> simp_all
    simp only [program,Sem.run_bind,Sem.run,Result.andThen_ok,hf,h.1,h2,Bool.false_eq_true,if_false]
    rfl
theorem oD.append {s:Sit} {xs ys:List AV} {vs us:Array Value} (h:oD s xs vs) (k:oD s ys us):oD s (xs++ys) (vs++us):=by
  refine ⟨by simp [h.1,k.1],λi x v h1 h2=>?_⟩
  by_cases hi:i<xs.length
  · rw [List.getElem?_append_left hi] at h1
    rw [Array.getElem?_append_left (by rw [<- h.1];exact hi)] at h2
    exact h.2 i x v h1 h2
  · rw [List.getElem?_append_right (by omega)] at h1
    rw [Array.getElem?_append_right (by rw [<- h.1];omega),<- h.1] at h2
    exact k.2 _ x v h1 h2
section
variable {o:Oper}
theorem O4 {fo:Operand} {as:List Operand} {ts:Array TypeId} {k:FuncId} {first cap vs:List AV} {s:Sit} {ρ:Operand->Value} (ho:o.op=.call { callee:=.value fo,args:=as.toArray,argTypes:=ts })
    (hf:S.ev fo=some (.fn (.func k) first cap)) (ha:EvL S as vs) (hc:bP P k=true) (h:∀ x∈o.op.operands,∀ av,S.ev x=some av->VR s av (ρ x)) :
    ∃ us,oD s (first++vs++cap) us/\(execOp ρ o).run P s.w=.ok (.enter k us) s.w:=by
  have hfv:=h fo (by simp [ho,Op.operands,Call.operands]) _ hf
  obtain ⟨a1,a2⟩:=ha.val (s:=s) (ρ:=ρ) λq hq=>h q (by simp [ho,Op.operands,Call.operands,hq])
  generalize hu:ρ fo=u at hfv
  cases hfv with
  | fn hl hl' hv hv' =>
    rename_i a' c'
    refine ⟨a'++(as.map ρ).toArray++c',?_,?_⟩
    · exact (oD.append ⟨hl,hv⟩ ⟨by simp [a1],by simpa using a2⟩).append ⟨hl',hv'⟩
    · simp only [execOp,ho,resolve,hu,Deferred.ofValue,Sem.run_bind,Sem.run_pure,Result.andThen_ok,invoke,List.map_toArray]
      exact XJ hc _ _
theorem kZ {fo:Operand} {as:List Operand} {ts:Array TypeId} {k:FuncId} {first cap vs:List AV} {R:AV->AH->Prop} (ho:o.op=.call { callee:=.value fo,args:=as.toArray,argTypes:=ts })
    (hf:S.ev fo=some (.fn (.func k) first cap)) (ha:EvL S as vs) (hc:bP P k=true) (hp:PC P k (first++vs++cap) S.hp R):eG P o S no any R:=by
  intro s a next Q hH hops _ hn
  obtain ⟨us,h1,h2⟩:=O4 (P:=P) ho hf ha hc hops
  unfold Oper.wp
  rw [h2]
  exact (hp s us hH h1).mono λe w' ⟨y,H',s',v,q1,q2,q3,q4,q5,q6⟩=>by subst q2 q3;exact hn s' v y H' q1 q4 q5 q6 (λ_ _=>.inr trivial)
end
inductive PV:AV->Prop where
  | sc (v:Value):PV (.sc v)
  | list {sz:Nat} {xs:List (List AV)} (h:∀ r∈xs,∀ x∈r,PV x):PV (.list sz xs)
  | pp {cs:List AV} (h:∀ x∈cs,PV x):PV (.pp cs)
  | agg {cs:List AV} (h:∀ x∈cs,PV x):PV (.agg cs)
  | fn {f:Fn} {a c:List AV} (h:∀ x∈a,PV x) (h':∀ x∈c,PV x):PV (.fn f a c)
  | iK {t:TypeId} {x:AV} (h:PV x):PV (.iK t x)
  | bT {cs:List AV} (h:∀ x∈cs,PV x):PV (.bT cs)
  | mp {ks:List Int} {cs:List AV} (h:∀ x∈cs,PV x):PV (.mp ks cs)
theorem PV.vr {s s':Sit} (hw:s'.w=s.w) (hI:∀ b,s.Im b->s'.Im b) {x:AV} {v:Value} (h:VR s x v) (hp:PV x):VR s' x v:=by
  induction h with
  | sc v=>exact .sc v
  | nil sz=>exact .nil sz
  | emp sz a=>exact .emp sz a
  | list f hI' hc hm' hr hf _ ih =>
    cases hp with
    | list hp=>exact .list f (hI _ hI') hc hm' hr (λi r j x h1 h2=>by rw [hw];exact hf i r j x h1 h2) (λi r j x h1 h2=>ih i r j x h1 h2 (hp r (List.mem_of_getElem? h1) x (List.mem_of_getElem? h2)))
  | pp f hI' hf _ ih =>
    cases hp with
    | pp hp=>exact .pp f (hI _ hI') (λj x h1=>by rw [hw];exact hf j x h1) (λj x h1=>ih j x h1 (hp x (List.mem_of_getElem? h1)))
  | pt hk' h1 h=>cases hp
  | sl hk' h1 h=>cases hp
  | agg hl _ ih=>cases hp with | agg hp=>exact .agg hl λi x v h1 h2=>ih i x v h1 h2 (hp x (List.mem_of_getElem? h1))
  | fn hl hl' _ _ ih ih'=>cases hp with | fn hp hp'=>exact .fn hl hl' (λi x v h1 h2=>ih i x v h1 h2 (hp x (List.mem_of_getElem? h1))) (λi x v h1 h2=>ih' i x v h1 h2 (hp' x (List.mem_of_getElem? h1)))
  | iK _ ih=>cases hp with | iK hp=>exact .iK (ih hp)
  | bT hl _ ih=>cases hp with | bT hp=>exact .bT hl λi x v h1 h2=>ih i x v h1 h2 (hp x (List.mem_of_getElem? h1))
  | mp hI' hb hk hl _ ih=>cases hp with | mp hp=>exact .mp (hI _ hI') (by rw [hw];exact hb) hk hl λi x e h1 h2=>ih i x e h1 h2 (hp x (List.mem_of_getElem? h1))
def H0:AH:=λ_=>none
theorem hr0 {s:Sit} (h:∀ b,s.Im b->b<s.w.heap.size) (hf:∃ C,∀ k,C<=k->¬ s.used k):HR s H0:=⟨λ_ _ h=>(by cases h),λ_ _ _ _ _ _ h=>(by cases h),h,hf⟩
def PP (P:Program) (f:FuncId) (args:List AV) (R:AV->Prop):Prop :=
  ∀ s vs,(∀ b,s.Im b->b<s.w.heap.size)->(∃ C,∀ k,C<=k->¬ s.used k)->oD s args vs ->
    Calls P f vs s.w λe w'=>∃ y s' v,R y/\PV y/\w'=s'.w/\e=.returned v/\VR s' y v/\(∀ b,s'.Im b->b<s'.w.heap.size)/\Fr s H0 s' H0
theorem PP.mono {f:FuncId} {args:List AV} {R R':AV->Prop} (h:PP P f args R) (hr:∀ y,R y->R' y):PP P f args R' :=
  λs vs h1 h2 h3=>(h s vs h1 h2 h3).mono λ_ _ ⟨y,s',v,a,b⟩=>⟨y,s',v,hr _ a,b⟩
def Cv (H:AH) (x y:AV):Prop:=∀ s,HR s H->∀ v,VR s x v->VR s y v
theorem Cv.refl {H:AH} (x:AV):Cv H x x:=λ_ _ _ h=>h
theorem Cv.trans {H:AH} {x y z:AV} (h:Cv H x y) (k:Cv H y z):Cv H x z:=λs hs v hv=>k s hs v (h s hs v hv)
theorem Cv.nil {H:AH} (sz:Nat):Cv H (.sc (.slice none 0 0)) (.list sz []):=λ_ _ v h=>by rw [h.iY];exact .nil sz
inductive dX (H:AH):List AV->List AV->Prop
  | nil:dX H [] []
  | cons {x y:AV} {xs ys:List AV} (h:Cv H x y) (t:dX H xs ys):dX H (x :: xs) (y :: ys)
theorem dX.refl {H:AH}:∀ (xs:List AV),dX H xs xs
  | []=>.nil
  | x :: r=>.cons (.refl x) (dX.refl r)
theorem dX.get {H:AH} {xs ys:List AV} (h:dX H xs ys):xs.length=ys.length/\∀ (i:Nat) (y:AV),ys[i]?=some y->∃ x,xs[i]?=some x/\Cv H x y:=by
  induction h with
  | nil=>simp
  | cons h t ih =>
    refine ⟨by simp [ih.1],λi y hy=>?_⟩
    cases i with
    | zero=>simp at hy;subst hy;exact ⟨_,rfl,h⟩
    | succ i=>obtain ⟨x,h1,h2⟩:=ih.2 i y (by simpa using hy);exact ⟨x,by simpa using h1,h2⟩
inductive jN (H:AH):List (List AV)->List (List AV)->Prop
  | nil:jN H [] []
  | cons {x y:List AV} {xs ys:List (List AV)} (h:dX H x y) (t:jN H xs ys):jN H (x :: xs) (y :: ys)
theorem jN.refl {H:AH}:∀ (xs:List (List AV)),jN H xs xs
  | []=>.nil
  | x :: r=>.cons (.refl x) (jN.refl r)
theorem jN.get {H:AH} {xs ys:List (List AV)} (h:jN H xs ys):xs.length=ys.length/\∀ (i:Nat) (y:List AV),ys[i]?=some y->∃ x,xs[i]?=some x/\dX H x y:=by
  induction h with
  | nil=>simp
  | cons h t ih =>
    refine ⟨by simp [ih.1],λi y hy=>?_⟩
    cases i with
    | zero=>simp at hy;subst hy;exact ⟨_,rfl,h⟩
    | succ i=>obtain ⟨x,h1,h2⟩:=ih.2 i y (by simpa using hy);exact ⟨x,by simpa using h1,h2⟩
theorem dX.agg {H:AH} {xs ys:List AV} (h:dX H xs ys):Cv H (.agg xs) (.agg ys):=λs hs v hv=>by
  obtain ⟨h1,h2⟩:=h.get
  cases hv with
  | agg hl hv=>exact .agg (h1 ▸ hl) λi y u hy hu=>let ⟨x,q1,q2⟩:=h2 i y hy;q2 s hs u (hv i x u q1 hu)
theorem dX.bT {H:AH} {xs ys:List AV} (h:dX H xs ys):Cv H (.bT xs) (.bT ys):=λs hs v hv=>by
  obtain ⟨h1,h2⟩:=h.get
  cases hv with
  | bT hl hv=>exact .bT (h1 ▸ hl) λi y u hy hu=>let ⟨x,q1,q2⟩:=h2 i y hy;q2 s hs u (hv i x u q1 hu)
theorem dX.fn {H:AH} {f:Fn} {xs ys as bs:List AV} (h:dX H xs ys) (k:dX H as bs):Cv H (.fn f xs as) (.fn f ys bs):=λs hs v hv=>by
  obtain ⟨h1,h2⟩:=h.get
  obtain ⟨k1,k2⟩:=k.get
  cases hv with
  | fn hl hl' hv hv' =>
    exact .fn (h1 ▸ hl) (k1 ▸ hl') (λi y u hy hu=>let ⟨x,q1,q2⟩:=h2 i y hy;q2 s hs u (hv i x u q1 hu)) (λi y u hy hu=>let ⟨x,q1,q2⟩:=k2 i y hy;q2 s hs u (hv' i x u q1 hu))
theorem dX.all {H:AH} {xs ys:List AV} (h:dX H xs ys) {s:Sit} (hs:HR s H) {vs:Array Value} (ha:oD s xs vs):oD s ys vs:=by
  obtain ⟨h1,h2⟩:=h.get
  exact ⟨h1 ▸ ha.1,λi y u hy hu=>let ⟨x,q1,q2⟩:=h2 i y hy;q2 s hs u (ha.2 i x u q1 hu)⟩
theorem Cv.sl {H:AH} {id aU off len:Nat} {ob:bZ} {rows:List (List AV)} (ho:H id=some ob) (dV:ob.aU=aU) (hmt:ob.mt=false) (hr:jN H ob.rows rows) (hl:off+len<=rows.length) :
    Cv H (.sl id aU off len) (.list ob.sz ((rows.drop off).take len)):=λs hs v hv=>by
  obtain ⟨m,hm⟩:=hs.obj id ob ho
  obtain ⟨r1,r2⟩:=hr.get
  have hlen:((rows.drop off).take len).length=len:=by simp;omega
  cases hv with
  | sl hk h1 h =>
    have hh:=h m hm.hm (hm.dV.trans dV)
    rcases hm.body with ⟨hn,he⟩ | ⟨cur,fr,hb⟩
    · obtain ⟨q1,q2⟩:=hh.1 hn
      subst q1 q2
      simpa using VR.nil ob.sz
    · obtain ⟨cap,q1,q2,q3⟩:=hh.2 hb.hnil
      subst q1
      have get:∀ (i:Nat) (r:List AV),((rows.drop off).take len)[i]?=some r->i<len/\rows[off+i]?=some r:=λi r hir=>by
        have hi:=(List.getElem?_eq_some_iff.1 hir).1
        rw [hlen] at hi
        rw [List.getElem?_take_of_lt hi,List.getElem?_drop] at hir
        exact ⟨hi,hir⟩
      have cell:∀ (i:Nat) (r:List AV) (j:Nat) (x:AV),((rows.drop off).take len)[i]?=some r->r[j]?=some x->∃ u,s.w.cell? ⟨m.b,off*m.sz+i*ob.sz+j,none⟩=some u/\VR s x u:=by
        intro i r j x hir hx
        obtain ⟨hi,hrr⟩:=get i r hir
        obtain ⟨r0,g1,g2⟩:=r2 _ _ hrr
        obtain ⟨_,g3⟩:=g2.get
        obtain ⟨x0,g4,g5⟩:=g3 j x hx
        obtain ⟨u,g6,g7⟩:=hb.rd g1 j x0 g4
        exact ⟨u,by rw [<- g6,hm.hsz,<- Nat.add_mul],g5 s hs u g7⟩
      have:=VR.list (s:=s) (sz:=ob.sz) (xs:=(rows.drop off).take len) (b:=m.b) (off:=off*m.sz) (cap:=cap)
        (λi j=>(s.w.cell? ⟨m.b,off*m.sz+i*ob.sz+j,none⟩).getD undef) (hb.him hmt) (by rw [hlen];exact q2) (by have:=hb.hct;omega)
        (λi r hir=>by
          obtain ⟨_,hrr⟩:=get i r hir
          obtain ⟨r0,g1,g2⟩:=r2 _ _ hrr
          rw [<- g2.get.1];exact hb.hr _ _ g1)
        (λi r j x hir hx=>by obtain ⟨u,g1,_⟩:=cell i r j x hir hx;simp [g1])
        (λi r j x hir hx=>by obtain ⟨u,g1,g2⟩:=cell i r j x hir hx;simp [g1,g2])
      rw [hlen] at this
      exact this
theorem Cv.pt {H:AH} {id aU row off:Nat} {ob:bZ} {r r':List AV} (ho:H id=some ob) (dV:ob.aU=aU) (hmt:ob.mt=false) (hr:ob.rows[row]?=some r) (hc:dX H r r') :
    Cv H (.pt id aU row off) (.pp (r'.drop off)):=λs hs v hv=>by
  obtain ⟨m,hm⟩:=hs.obj id ob ho
  rcases hm.body with ⟨_,he⟩ | ⟨cur,fr,hb⟩
  · rw [he] at hr;simp at hr
  · cases hv with
    | pt hk h1 h =>
      rw [h m hm.hm (hm.dV.trans dV) hb.hnil]
      refine Rd.pp (hb.him hmt) ?_
      rw [hm.hsz]
      refine Rd.drop (cs:=r') (λj x hx=>?_) off
      obtain ⟨x0,g1,g2⟩:=hc.get.2 j x hx
      obtain ⟨u,g3,g4⟩:=hb.rd hr j x0 g1
      exact ⟨u,g3,g2 s hs u g4⟩
def qP (H:AH):AH:=λi=>(H i).map λob=>{ ob with mt:=false }
def yM (s:Sit) (H:AH):Sit:={ s with Im:=λb=>s.Im b\/kX s H b }
theorem I6 {s:Sit} {H:AH} {x:AV} {v:Value} (h:VR s x v):VR (yM s H) x v :=
  VR.mono (s:=s) (s':=yM s H) (λ_ hi=>⟨.inl hi,rfl⟩) (λ_ _ h=>.inl h) (λ_ h=>h) h
theorem VF {s:Sit} {H:AH} (hH:HR s H):HR (yM s H) (qP H):=by
  refine ⟨λid o ho=>?_,λi i' o o' m m' h1 h2 a b c d e=>?_,λb hb=>?_,hH.fin⟩
  · unfold qP at ho
    cases h:H id with
    | none=>rw [h] at ho;cases ho
    | some ob =>
      rw [h] at ho
      cases ho
      obtain ⟨m,hm⟩:=hH.obj id ob h
      refine ⟨m,⟨hm.hm,hm.dV,hm.hsz,hm.hk,?_⟩⟩
      rcases hm.body with hb | ⟨cur,fr,hb⟩
      · exact .inl hb
      · refine .inr ⟨cur,fr,⟨hb.hnil,hb.hb,hb.hfr,hb.happ,hb.hcs,hb.hct,hb.hlen,hb.hr,λi r j x v a b c=>I6 (hb.hv i r j x v a b c),hb.h1,λ_=>?_,λh=>by cases h⟩⟩
        cases hmt:ob.mt with
        | false=>exact .inl (hb.him hmt)
        | true=>exact .inr ⟨id,ob,m,h,hmt,hm.hm,hb.hnil,rfl⟩
  · unfold qP at h1 h2
    cases g1:H i with
    | none=>rw [g1] at h1;cases h1
    | some ob =>
      cases g2:H i' with
      | none=>rw [g2] at h2;cases h2
      | some ob'=>exact hH.lN i i' ob ob' m m' g1 g2 a b c d e
  · rcases hb with hb | ⟨i,o,m,h1,h2,h3,h4,h5⟩
    · exact hH.im b hb
    · obtain ⟨m1,hm1⟩:=hH.obj i o h1
      have:=hm1.hm;rw [h3] at this;cases this
      rcases hm1.body with ⟨h,_⟩ | ⟨cur,fr,hb⟩
      · rw [h4] at h;cases h
      · rw [<- h5];exact (Array.getElem?_eq_some_iff.1 hb.hb).1
theorem U2 {f:FuncId} {args:List AV} {R0:AV->AH->Prop} {R:AV->Prop} (h:PC P f args H0 R0) (hr:∀ y H,R0 y H->∃ y',R y'/\PV y'/\Cv (qP H) y y'):PP P f args R:=by
  intro s vs him hfn ha
  refine (h s vs (hr0 him hfn) ha).mono ?_
  rintro e w' ⟨y,H',s',v,h1,rfl,rfl,h4,h5,h6⟩
  obtain ⟨y',g1,g2,g3⟩:=hr y H' h1
  have hno:∀ b,¬ kX s H0 b:=λb ⟨_,_,_,h,_⟩=>(by cases h)
  refine ⟨y',yM s' H',v,g1,g2,rfl,rfl,g3 _ (VF h5) v (I6 h4),(VF h5).im,⟨h6.os,h6.tape,h6.output,h6.size,h6.keep,λb hb=>.inl (h6.nW b hb),λb hb ho hi=>?_,λb _ ⟨_,_,_,h,_⟩=>(by cases h),λx v hx=>I6 (h6.vals x v hx),h6.p8⟩⟩
  rcases hi with hi | hi
  · exact h6.mR b hb ho hi
  · exact absurd (h6.own b hb hi) (hno b)
theorem aM1 {o:Oper} {fo:Operand} {as:List Operand} {ts:Array TypeId} {k:FuncId} {first cap vs args:List AV} {R:AV->Prop} (ho:o.op=.call { callee:=.value fo,args:=as.toArray,argTypes:=ts })
    (hf:S.ev fo=some (.fn (.func k) first cap)) (ha:EvL S as vs) (hc:bP P k=true) (hcv:dX S.hp (first++vs++cap) args) (hp:PP P k args R):eG P o S no no (λy H'=>R y/\H'=S.hp):=by
  intro s a next Q hH hops _ hn
  obtain ⟨us,h1,h2⟩:=O4 (P:=P) ho hf ha hc hops
  unfold Oper.wp
  rw [h2]
  refine (hp s us hH.im hH.fin (hcv.all hH h1)).mono ?_
  rintro e w' ⟨y,s',v,q1,q2,rfl,rfl,q4,q5,q6⟩
  let s2:Sit:={ w:=s'.w,Im:=s'.Im,mu:=s.mu,used:=s.used }
  have hno:∀ b,¬ kX s H0 b:=λb ⟨_,_,_,h,_⟩=>(by cases h)
  have hmono:∀ x v,VR s x v->VR s2 x v:=λx v h=>VR.mono (s:=s) (s':=s2) (λb hi=>⟨q6.nW b hi,q6.keep b (hH.im b hi) (hno b)⟩) (λ_ _ h=>.inl h) (λ_ h=>h) h
  refine hn s2 v y S.hp ⟨q1,rfl⟩ (PV.vr (s:=s') (s':=s2) rfl (λ_ h=>h) q4 q2) ⟨λid ob hob=>?_,hH.lN,q5,hH.fin⟩
    ⟨q6.os,q6.tape,q6.output,q6.size,λb hb _=>q6.keep b hb (hno b),q6.nW,λb hb _ hi=>q6.mR b hb (hno b) hi,λb _ h=>h,hmono,λ_ h=>h⟩ (λ_ h=>.inl h)
  obtain ⟨m,hm⟩:=hH.obj id ob hob
  refine ⟨m,⟨hm.hm,hm.dV,hm.hsz,hm.hk,?_⟩⟩
  rcases hm.body with hb | ⟨cur,fr,hb⟩
  · exact .inl hb
  · have hlt:m.b<s.w.heap.size:=(Array.getElem?_eq_some_iff.1 hb.hb).1
    exact .inr ⟨cur,fr,⟨hb.hnil,(q6.keep m.b hlt (hno _)).trans hb.hb,hb.hfr,hb.happ,hb.hcs,hb.hct,hb.hlen,hb.hr,λi r j x v a b c=>hmono _ _ (hb.hv i r j x v a b c),hb.h1,
      λh=>q6.nW _ (hb.him h),λh hi=>hb.kV h (q6.mR m.b hlt (hno _) hi)⟩⟩
theorem aBL {s:Sit} {H:AH} (hH:HR s H) (id:Nat) {ob:bZ} (ho:H id=some ob) :
    ∃ s',s'.w=s.w/\HR s' (upd H id (some { ob with mt:=false }))/\Fr s H s' (upd H id (some { ob with mt:=false })):=by
  cases hmt:ob.mt with
  | false =>
    refine ⟨s,rfl,?_⟩
    have:upd H id (some { ob with mt:=false })=H:=by
      funext i
      by_cases hi:i=id
      · subst hi;rw [upd_same,ho,<- hmt]
      · rw [upd_ne _ _ hi]
    rw [this]
    exact ⟨hH,Fr.refl _ _⟩
  | true =>
    obtain ⟨m,hm⟩:=hH.obj id ob ho
    let s':Sit:={ s with Im:=λb=>s.Im b\/(b=m.b/\m.nil=false) }
    have hmono:∀ x v,VR s x v->VR s' x v:=λx v h=>VR.mono (s:=s) (s':=s') (λ_ hi=>⟨.inl hi,rfl⟩) (λ_ _ h=>.inl h) (λ_ h=>h) h
    have hown:m.nil=false->kX s H m.b:=λh=>⟨id,ob,m,ho,hmt,hm.hm,h,rfl⟩
    have hlt:m.nil=false->m.b<s.w.heap.size:=λh=>by
      rcases hm.body with ⟨h',_⟩ | ⟨cur,fr,hb⟩
      · rw [h] at h';cases h'
      · exact (Array.getElem?_eq_some_iff.1 hb.hb).1
    refine ⟨s',rfl,⟨λi o' ho'=>?_,λi i' o1 o2 m1 m2 h1 h2 a b c d e=>?_,λb hb=>?_,hH.fin⟩,⟨rfl,rfl,rfl,Nat.le_refl _,λ_ _ _=>rfl,λ_ h=>.inl h,λb hb hno hi=>?_,λb hb h=>?_,hmono,λ_ h=>h⟩⟩
    · by_cases hi:i=id
      · subst hi
        rw [upd_same] at ho';cases ho'
        refine ⟨m,⟨hm.hm,hm.dV,hm.hsz,hm.hk,?_⟩⟩
        rcases hm.body with hb | ⟨cur,fr,hb⟩
        · exact .inl hb
        · exact .inr ⟨cur,fr,⟨hb.hnil,hb.hb,hb.hfr,hb.happ,hb.hcs,hb.hct,hb.hlen,hb.hr,λi r j x v a b c=>hmono _ _ (hb.hv i r j x v a b c),hb.h1,λ_=>.inr ⟨rfl,hb.hnil⟩,λh=>by cases h⟩⟩
      · rw [upd_ne _ _ hi] at ho'
        obtain ⟨m2,hm2⟩:=hH.obj i o' ho'
        refine ⟨m2,⟨hm2.hm,hm2.dV,hm2.hsz,hm2.hk,?_⟩⟩
        rcases hm2.body with hb | ⟨cur,fr,hb⟩
        · exact .inl hb
        · exact .inr ⟨cur,fr,⟨hb.hnil,hb.hb,hb.hfr,hb.happ,hb.hcs,hb.hct,hb.hlen,hb.hr,λi r j x v a b c=>hmono _ _ (hb.hv i r j x v a b c),hb.h1,λh=>.inl (hb.him h),λh hi'=>by
            rcases hi' with h' | ⟨h',hn⟩
            · exact hb.kV h h'
            · exact hi (hH.lN i id o' ob m2 m ho' ho hm2.hm hm.hm hb.hnil hn h')⟩⟩
    · have conv:∀ i o',upd H id (some { ob with mt:=false }) i=some o'->∃ o'',H i=some o'':=by
        intro i o' h
        by_cases hi:i=id
        · subst hi;exact ⟨ob,ho⟩
        · rw [upd_ne _ _ hi] at h;exact ⟨o',h⟩
      obtain ⟨o1',g1⟩:=conv i o1 h1
      obtain ⟨o2',g2⟩:=conv i' o2 h2
      exact hH.lN i i' o1' o2' m1 m2 g1 g2 a b c d e
    · rcases hb with hb | ⟨rfl,hn⟩
      · exact hH.im b hb
      · exact hlt hn
    · rcases hi with hi | ⟨rfl,hn⟩
      · exact hi
      · exact absurd (hown hn) hno
    · obtain ⟨i,o',m',q1,q2,q3,q4,q5⟩:=h
      by_cases hi:i=id
      · subst hi;rw [upd_same] at q1;cases q1;cases q2
      · rw [upd_ne _ _ hi] at q1
        exact ⟨i,o',m',q1,q2,q3,q4,q5⟩
theorem aOV {ops todo:List Oper} {K:AS->Prop} (id:Nat) {ob:bZ} (ho:S.hp id=some ob) (h:Rg P n ops todo { S with hp:=upd S.hp id (some { ob with mt:=false }) } K):Rg P n ops todo S K:=by
  intro k hk s a hs
  obtain ⟨s',g1,g2,g3⟩:=aBL hs.heap id ho
  have:=h k hk s' a (hs.fr g2 g3)
  rw [g1] at this
  refine AJ ?_ _ _ _ this
  rintro e a' w' ⟨rfl,S2,s2,q1,q2,q3,q4⟩
  exact ⟨rfl,S2,s2,q1,q2,q3,g3.trans q4⟩
theorem aLZ {c:Code} {Q:Go.Exit->AS->Prop} (id:Nat) {ob:bZ} (ho:S.hp id=some ob) (h:Tr P n c { S with hp:=upd S.hp id (some { ob with mt:=false }) } Q):Tr P n c S Q:=by
  intro s a hs
  obtain ⟨s',g1,g2,g3⟩:=aBL hs.heap id ho
  have:=h s' a (hs.fr g2 g3)
  rw [g1] at this
  refine nL this ?_
  rintro e a' w' ⟨S2,s2,q1,q2,q3,q4⟩
  exact ⟨S2,s2,q1,q2,q3,g3.trans q4⟩
theorem aVP {ops todo:List Oper} {K:AS->Prop} {x:AV} (y:AV) (t:Nat) (h:S.sl t=some x) (hc:Cv S.hp x y) (h1:Rg P n ops todo (S.put (some t) y) K):Rg P n ops todo S K:=by
  intro k hk s a hs
  refine h1 k hk s a ⟨hs.size,hs.defers,λi z hz=>?_,hs.heap⟩
  by_cases hi:i=t
  · subst hi;rw [AS.OF,upd_same] at hz;cases hz
    obtain ⟨v,g1,g2⟩:=hs.slot i _ h
    exact ⟨v,g1,hc s hs.heap v g2⟩
  · rw [AS.OF,upd_ne _ _ hi] at hz;exact hs.slot i z hz
inductive lZ (P:Program) (S:AS):List ResultVar->List AV->Prop
  | nil:lZ P S [] []
  | tmp {t:Tmp} {v:AV} {rs:List ResultVar} {vs:List AV} (h:S.sl t=some v) (r:lZ P S rs vs):lZ P S (.tmp t :: rs) (v :: vs)
  | cell {t:Tmp} {T k:Nat} {b:Bool} {p v:AV} {cs:List AV} {rs:List ResultVar} {vs:List AV} (h:S.sl t=some p) (hp:xH S p cs) (hT:gW P T=some (k,b)) (hv:kD k b cs=some v) (r:lZ P S rs vs):lZ P S (.cell t T :: rs) (v :: vs)
def tT:List AV->AV
  | [v]=>v
  | vs=>.bT vs
def FL (tmps:Array Value):ResultVar->Sem Value
  | .tmp t=>pure (tmps.getD t undef)
  | .cell a t=>do loadVar t (<- asAddr (tmps.getD a undef))
theorem aKM (fn:Func) (tmps:Array Value):results fn tmps=(do let vs <- fn.results.mapM (FL tmps);pure (if h:vs.size=1 then vs[0] else .tuple vs)):=by
  unfold results
  congr 1
theorem lZ.run {s:Sit} {a:Act} {rs:List ResultVar} {vs:List AV} (h:lZ P S rs vs) (hs:SR n s S a) :
    ∃ us:List Value,us.length=vs.length/\(∀ (i:Nat) (x:AV) (v:Value),vs[i]?=some x->us[i]?=some v->VR s x v) /\
      (rs.mapM (FL a.tmps)).run P s.w=.ok us s.w:=by
  induction h with
  | nil=>exact ⟨[],rfl,by simp,rfl⟩
  | tmp h r ih =>
    obtain ⟨us,h1,h2,h3⟩:=ih
    obtain ⟨v,g1,g2⟩:=hs.slot _ _ h
    refine ⟨v :: us,by simp [h1],λi x u a b=>?_,?_⟩
    · cases i with
      | zero=>simp at a b;subst a b;exact g2
      | succ i=>exact h2 i x u (by simpa using a) (by simpa using b)
    · simp only [List.mapM_cons,FL,Sem.run_bind,Sem.run_pure,Result.andThen_ok,h3]
      simp [g1]
  | @cell t0 T0 k0 b0 p0 v0 cs0 rs0 vs0 h hp hT hv r ih =>
    obtain ⟨us,h1,h2,h3⟩:=ih
    obtain ⟨v,g1,g2⟩:=hs.slot _ _ h
    obtain ⟨b,o,e1,e2⟩:=hp.rd hs.heap g2
    obtain ⟨u,e3,e4⟩:=aA9 hT e2 hv
    refine ⟨u :: us,by simp [h1],λi x u a b=>?_,?_⟩
    · cases i with
      | zero=>simp at a b;subst a b;exact e3
      | succ i=>exact h2 i x u (by simpa using a) (by simpa using b)
    · have:a.tmps.getD t0 undef=.pointer (some ⟨b,o,none⟩):=by simp [g1,e1]
      simp only [List.mapM_cons,FL,Sem.run_bind,this,asAddr,Sem.run_pure,Result.andThen_ok,e4,h3]
theorem OL {f:FuncId} {fn:Func} {c:Code} {args:List AV} {H:AH} {R:AV->AH->Prop} (hf:P.funcs[f]?=some fn) (hb:fn.body=some c) (hle:args.length<=fn.ntmps)
    (h:Tr P ⟨fn.ntmps,false,[]⟩ c ⟨λt=>args[t]?,H⟩ (λe S'=>(e=.normal\/e=.ret)/\∃ vs H2,lZ P S' fn.results.toList vs/\(∀ t v,H2 t=some v->S'.hp t=some v)/\R (tT vs) H2)):PC P f args H R:=by
  intro s vs hH ha
  refine aYR hf hb ?_
  have hs:SR ⟨fn.ntmps,false,[]⟩ s ⟨λt=>args[t]?,H⟩ { tmps:=vs++Array.replicate (fn.ntmps-vs.size) undef,defers:=[] }:=by
    refine ⟨by simp [<- ha.1];omega,rfl,λt x hx=>?_,hH⟩
    have ht:t<vs.size:=by rw [<- ha.1];exact (List.getElem?_eq_some_iff.1 hx).1
    exact ⟨vs[t],by simp [Array.getElem?_append_left ht,ht],ha.2 t x _ hx (by simp [ht])⟩
  refine nL (h s _ hs) ?_
  rintro e a w' ⟨S',s',rfl,⟨he,us,H2,hr,hsub,hR⟩,hs',hf'⟩
  obtain ⟨xs,h1,h2,h3⟩:=hr.run hs'
  have hres:∃ v,VR s' (tT us) v/\(results fn a.tmps).run P s'.w=.ok v s'.w:=by
    have hrun:(fn.results.mapM (FL a.tmps)).run P s'.w=.ok xs.toArray s'.w:=by
      rw [Array.mapM_eq_mapM_toList]
      simp only [Sem.run_map,h3,Result.andThen_ok]
    rw [aKM,Sem.run_bind,hrun]
    simp only [Result.andThen_ok]
    match us,xs,h1,h2 with
    | [u],[x],_,h2=>exact ⟨x,h2 0 u x rfl rfl,rfl⟩
    | [],[],_,_=>exact ⟨.tuple #[],.bT rfl (by simp),rfl⟩
    | u1 :: u2 :: ur,x1 :: x2 :: xr,h1,h2=>exact ⟨.tuple (x1 :: x2 :: xr).toArray,.bT (by simpa using h1.symm) (by simpa using h2),by simp⟩
  obtain ⟨v,g1,g2⟩:=hres
  have hH2:HR s' H2:=⟨λid o ho=>hs'.heap.obj id o (hsub id o ho),λi i' o o' m m' a b=>hs'.heap.lN i i' o o' m m' (hsub _ _ a) (hsub _ _ b),hs'.heap.im,hs'.heap.fin⟩
  have hfr:Fr s H s' H2:=⟨hf'.os,hf'.tape,hf'.output,hf'.size,hf'.keep,hf'.nW,hf'.mR,λb hb ⟨id,o,m,a,r⟩=>hf'.own b hb ⟨id,o,m,hsub _ _ a,r⟩,hf'.vals,hf'.p8⟩
  rcases he with rfl | rfl
  · exact ⟨hs'.defers,v,g2,_,_,s',v,hR,rfl,rfl,g1,hH2,hfr⟩
  · exact ⟨hs'.defers,v,g2,_,_,s',v,hR,rfl,rfl,g1,hH2,hfr⟩
end
theorem aFV {α:Type} (f:Nat->Option α) {i j:Nat} (v w:Option α) (h:i≠j):upd (upd f i v) j w=upd (upd f j w) i v:=by
  funext k
  by_cases h1:k=i
  · subst h1;rw [upd_ne _ _ h,upd_same,upd_same]
  · by_cases h2:k=j
    · subst h2;rw [upd_same,upd_ne _ _ h1,upd_same]
    · rw [upd_ne _ _ h2,upd_ne _ _ h1,upd_ne _ _ h1,upd_ne _ _ h2]
abbrev Up:=Option (Nat×Option bZ)
def app (H:AH):Up->AH
  | none=>H
  | some (k,o)=>upd H k o
def AS.res (S:AS) (d:Option Tmp) (x:AV) (u:Up):AS:=({ S with hp:=app S.hp u }:AS).put d x
theorem AS.aP6 {S:AS} {d:Option Tmp} {x:AV} {u:Up} {y:Operand} (h:∀ t,d=some t->y≠.tmp t):(S.res d x u).ev y=S.ev y:=by
  cases d with
  | none=>cases y <;> rfl
  | some t =>
    cases y with
    | tmp i =>
      have hne:i≠t:=λe=>h t rfl (e ▸ rfl)
      show upd S.sl t (some x) i=S.sl i
      exact upd_ne _ _ hne
    | _=>rfl
theorem AS.FU (S:AS) (d:Option Tmp) (x:AV) (u:Up):(S.res d x u).hp=app S.hp u:=by unfold AS.res;rw [AS.uD]
theorem AS.aDC (S:AS) {d e:Option Tmp} {u w:Up} (x y:AV) (h:∀ t,d=some t->e≠some t) (hk:∀ p q,u=some p->w=some q->p.1≠q.1) :
    (S.res d x u).res e y w=(S.res e y w).res d x u:=by
  have hhp:app (app S.hp u) w=app (app S.hp w) u:=by
    cases u with
    | none=>rfl
    | some p=>cases w with
      | none=>rfl
      | some q=>exact aFV _ _ _ (hk p q rfl rfl)
  have hsl:∀ (f:Nat->Option AV),(AS.put ⟨(AS.put ⟨f,S.hp⟩ d x).sl,S.hp⟩ e y).sl=(AS.put ⟨(AS.put ⟨f,S.hp⟩ e y).sl,S.hp⟩ d x).sl:=λf=>by
    cases d with
    | none=>cases e <;> rfl
    | some t=>cases e with
      | none=>rfl
      | some t'=>exact aFV _ _ _ (λe=>h t rfl (e ▸ rfl))
  have e1:∀ (S:AS) (d:Option Tmp) (x:AV) (u:Up),(S.res d x u)=⟨(AS.put ⟨S.sl,S.hp⟩ d x).sl,app S.hp u⟩:=λS d x u=>by cases d <;> rfl
  rw [e1 (S.res d x u),e1 (S.res e y w),AS.FU,AS.FU,hhp]
  congr 1
  have:=hsl S.sl
  cases d <;> cases e <;> first | rfl | exact this
section
variable {P:Program} {n:NT} {ops:List Oper} {rd:Nat->Nat->Bool} {wr:Nat->Option Nat} {C:Nat} {bm:List Nat}
def LY (P:Program) (rd:Nat->Nat->Bool) (wr:Nat->Option Nat) (C:Nat) (i:Nat) (o:Oper) (S:AS) (x:AV) (u:Up):Prop :=
  (∀ p,u=some p->wr i=some p.1)/\∀ H,(∀ k,rd i k=true->H k=S.hp k)->eG P o ⟨S.sl,H⟩ (·=C+i) (·=C+i) (λy H'=>y=x/\H'=app H u)
def YA (P:Program) (ops:List Oper) (rd:Nat->Nat->Bool) (wr:Nat->Option Nat) (C:Nat) (i:Nat) (o:Oper) (S:AS) (x:AV) (u:Up):Prop :=
  (Wd ops S o=some true/\LY P rd wr C i o S x u)\/(Wd ops S o=some false/\x=.sc undef/\u=none)
def uI (P:Program) (ops:List Oper) (rd:Nat->Nat->Bool) (wr:Nat->Option Nat) (C:Nat) (i:Nat) (K:AS->Prop) (S:AS):Prop :=
  match ops[i]? with
  | none=>K S
  | some o=>∃ x u,YA P ops rd wr C i o S x u/\K (S.res o.dst x u)
theorem aMK {i:Nat} {K K':AS->Prop} {S:AS} (h:∀ S,K S->K' S) (hh:uI P ops rd wr C i K S):uI P ops rd wr C i K' S:=by
  unfold uI at *
  split
  · rename_i ho;simp only [ho] at hh;exact h _ hh
  · rename_i o ho
    simp only [ho] at hh
    obtain ⟨x,u,h1,h2⟩:=hh
    exact ⟨x,u,h1,h _ h2⟩
def D9 (P:Program) (ops:List Oper) (rd:Nat->Nat->Bool) (wr:Nat->Option Nat) (C:Nat) (K:AS->Prop):Nat->Array Bool->AS->Prop
  | 0,listed,S=>Region.ready .any ops.toArray listed=[]/\K S
  | fuel+1,listed,S =>
    (Region.ready .any ops.toArray listed=[]->K S) /\
    ∀ i∈Region.ready .any ops.toArray listed,uI P ops rd wr C i (D9 P ops rd wr C K fuel (listed.setIfInBounds i true)) S
theorem OQ {K:AS->Prop} {s0:Sit} {H0:AH} (hdst:∀ (i:Nat) (o:Oper),ops[i]?=some o->nS n o.dst=true):∀ (fuel:Nat) (listed:Array Bool) (S:AS) (s:Sit) (a:Act),SR n s S a->Fr s0 H0 s S.hp ->
    (∀ j,listed.getD j true=false->¬ s.used (C+j))->D9 P ops rd wr C K fuel listed S ->
    wpAny P .any ops.toArray (λe a' w'=>e=.normal/\∃ S' s',w'=s'.w/\K S'/\SR n s' S' a'/\Fr s0 H0 s' S'.hp) fuel listed a s.w
  | 0,listed,S,s,a,hs,hf,_,h=>⟨h.1,rfl,S,s,rfl,h.2,hs,hf⟩
  | fuel+1,listed,S,s,a,hs,hf,hu,h=>by
    refine ⟨λh0=>⟨rfl,S,s,rfl,h.1 h0,hs,hf⟩,λi hi=>?_⟩
    have h1:=h.2 i hi
    have hun:=(mem_ready.1 hi).1
    unfold uI at h1
    unfold wpOp
    simp only [List.getElem?_toArray]
    cases ho:ops[i]? with
    | none =>
      simp only [ho] at h1
      exact OQ hdst fuel _ S s a hs hf (λj hj=>hu j (by
        by_cases e:i=j
        · subst e;exact hun
        · rw [getD_set_ne true e] at hj;exact hj)) h1
    | some o =>
      simp only [ho] at h1
      obtain ⟨x,u,hy,hK⟩:=h1
      have hd:=hdst i o ho
      have hlt:i<listed.size:=by
        rcases Nat.lt_or_ge i listed.size with h | h
        · exact h
        · simp [Array.getElem?_eq_none h] at hun
      have hu':∀ (s':Sit),(∀ k,s'.used k->s.used k\/k=C+i)->∀ j,(listed.setIfInBounds i true).getD j true=false->¬ s'.used (C+j):=by
        intro s' h1 j hj h2
        by_cases e:i=j
        · subst e;simp [hlt] at hj
        · rw [getD_set_ne true e] at hj
          rcases h1 _ h2 with h3 | h3
          · exact hu j hj h3
          · omega
      rcases hy with ⟨hw,hLY⟩ | ⟨hw,rfl,rfl⟩
      · simp only [qY hs hw,if_true]
        refine .inl (hLY.2 S.hp (λ_ _=>rfl) s a _ _ hs.heap (hs.opers o) (λk hk=>by rw [hk];exact hu i hun) ?_)
        rintro s' v y H' ⟨rfl,rfl⟩ hv hH' hf' hU
        have hs':SR n s' (S.res o.dst y u) (a.put o.dst v):=(hs.fr hH' hf').put hd hv
        exact OQ hdst fuel _ _ s' _ hs' (by rw [AS.FU];exact hf.trans hf') (hu' s' hU) hK
      · simp only [qY hs hw,Bool.false_eq_true,if_false]
        have hs':SR n s (S.res o.dst (.sc undef) none) (a.put o.dst undef):=SR.put (S:=⟨S.sl,S.hp⟩) hs hd (.sc _)
        exact OQ hdst fuel _ _ s _ hs' (by rw [AS.FU];exact hf) (hu' s λk hk=>.inl hk) hK
def sO (rd:Nat->Nat->Bool) (wr:Nat->Option Nat) (i j:Nat):Bool :=
  (match wr i with | none=>true | some k=>!(rd j k) && (wr j != some k)) && (match wr j with | none=>true | some k=>!(rd i k))
theorem aCK {S:AS} {o:Oper} {d:Option Tmp} {x:AV} {u:Up} (h:∀ t,d=some t->t ∉ o.looksAt ops.toArray):Wd ops (S.res d x u) o=Wd ops S o:=by
  unfold Wd
  cases hg:o.guard with
  | none=>rfl
  | some g =>
    obtain ⟨j,want⟩:=g
    simp only
    cases hd:(ops[j]?).bind (·.dst) with
    | none=>rfl
    | some t =>
      simp only
      have:(S.res d x u).sl t=S.sl t:=by
        cases d with
        | none=>rfl
        | some t' =>
          refine upd_ne _ _ λe=>h t' rfl ?_
          subst e
          simp [Oper.looksAt,hg,hd]
      rw [this]
theorem FV {o:Oper} {S S':AS} {F U:Nat->Prop} {Out:AV->AH->Prop} (he:∀ x∈o.op.operands,S'.ev x=S.ev x) (hh:S'.hp=S.hp) (h:eG P o S F U Out):eG P o S' F U Out :=
  λs a next Q h1 h2 h3 h4=>h s a next Q (hh ▸ h1) (λx hx av hav=>h2 x hx av ((he x hx).trans hav)) h3 (λs' v x H' a b c d e=>h4 s' v x H' a b c (hh ▸ d) e)
theorem aDQ {S:AS} {o:Oper} {d:Option Tmp} {x:AV} {u:Up} (h:∀ t,d=some t->t ∉ o.looksAt ops.toArray):∀ y∈o.op.operands,(S.res d x u).ev y=S.ev y:=λy hy =>
  AS.aP6 λt ht e=>h t ht (by
    subst e
    exact List.mem_append_left _ (List.mem_filterMap.2 ⟨.tmp t,by simpa using hy,rfl⟩))
theorem aXM {i j:Nat} {oi oj:Oper} {S:AS} {x y:AV} {u w:Up} (hui:∀ p,u=some p->wr i=some p.1) (hF:sO rd wr i j=true) (h:∀ t,oi.dst=some t->t ∉ oj.looksAt ops.toArray) :
    LY P rd wr C j oj (S.res oi.dst x u) y w↔LY P rd wr C j oj S y w:=by
  have hhp:∀ k,rd j k=true->(S.res oi.dst x u).hp k=S.hp k:=by
    intro k hk
    rw [AS.FU]
    cases u with
    | none=>rfl
    | some p =>
      refine upd_ne _ _ λe=>?_
      subst e
      have:=hui p rfl
      simp only [sO,this,hk,Bool.not_true,Bool.false_and] at hF
      cases hF
  have hev:=aDQ (S:=S) (x:=x) (u:=u) h
  constructor
  · rintro ⟨h1,h2⟩
    exact ⟨h1,λH hH=>FV (S:=⟨(S.res oi.dst x u).sl,H⟩) (λz hz=>by
      have:=hev z hz;cases z <;> first | rfl | exact this.symm) rfl (h2 H λk hk=>(hH k hk).trans (hhp k hk).symm)⟩
  · rintro ⟨h1,h2⟩
    exact ⟨h1,λH hH=>FV (S:=⟨S.sl,H⟩) (λz hz=>by
      have:=hev z hz;cases z <;> first | rfl | exact this) rfl (h2 H λk hk=>(hH k hk).trans (hhp k hk))⟩
theorem SC {i j:Nat} {oi oj:Oper} {S:AS} {x y:AV} {u w:Up} (hui:∀ p,u=some p->wr i=some p.1) (hF:sO rd wr i j=true) (h:∀ t,oi.dst=some t->t ∉ oj.looksAt ops.toArray) :
    YA P ops rd wr C j oj (S.res oi.dst x u) y w↔YA P ops rd wr C j oj S y w:=by
  unfold YA
  rw [aCK h,aXM hui hF h]
theorem YA.E7 {i:Nat} {o:Oper} {S:AS} {x:AV} {u:Up} (h:YA P ops rd wr C i o S x u):∀ p,u=some p->wr i=some p.1:=by
  rcases h with ⟨_,h,_⟩ | ⟨_,_,rfl⟩
  · exact h
  · intro p hp;cases hp
theorem aMW {i j:Nat} (h:sO rd wr i j=true):sO rd wr j i=true:=by
  unfold sO at *
  cases h1:wr i <;> cases h2:wr j <;> simp_all
  exact λe=>h.1.2 e.symm
theorem aW4 {i j:Nat} {oi oj:Oper} {S:AS} {x:AV} {u:Up} (hj:ops[j]?=some oj) (hap:oi.apart ops.toArray oj=true) (hF:sO rd wr i j=true) {K:AS->Prop}
    (hy:YA P ops rd wr C i oi S x u) (h:uI P ops rd wr C j K (S.res oi.dst x u)):uI P ops rd wr C j (λS'=>YA P ops rd wr C i oi S' x u/\K (S'.res oi.dst x u)) S:=by
  obtain ⟨a1,a2,a3⟩:=Oper.apart_spec hap
  unfold uI at *
  simp only [hj] at *
  obtain ⟨y,w,g1,g2⟩:=h
  refine ⟨y,w,(SC hy.E7 hF a1).1 g1,(SC ((SC hy.E7 hF a1).1 g1).E7 (aMW hF) a3).2 hy,?_⟩
  rw [<- AS.aDC S x y a2 (λp q hp hq e=>?_)]
  · exact g2
  · have h1:=hy.E7 p hp
    have h2:=g1.E7 q hq
    unfold sO at hF
    rw [h1,h2,e] at hF
    simp at hF
def SH (e:Edge):Bool:=Region.binds .any e
def NN (bm:List Nat) (j:Nat) (l:List Edge):Nat:=l.foldl (λs e=>if SH e && Nat.blt e.on j then s ||| (2 ^ e.on ||| bm.getD e.on 0) else s) 0
theorem aI3 (bm:List Nat) (j:Nat):∀ (l:List Edge) (z i:Nat),(l.foldl (λs e=>if SH e && Nat.blt e.on j then s ||| (2 ^ e.on ||| bm.getD e.on 0) else s) z).testBit i=true ->
    z.testBit i=true\/∃ e∈l,SH e=true/\e.on<j/\(e.on=i\/(bm.getD e.on 0).testBit i=true)
  | [],z,i,h=>.inl h
  | e :: l,z,i,h=>by
    simp only [List.foldl_cons] at h
    rcases aI3 bm j l _ i h with h1 | ⟨e',h1,h2⟩
    · split at h1
      · rename_i hc
        simp only [Bool.and_eq_true,Nat.blt_eq] at hc
        simp only [Nat.testBit_or,Bool.or_eq_true] at h1
        rcases h1 with h1 | h1 | h1
        · exact .inl h1
        · refine .inr ⟨e,by simp,hc.1,hc.2,.inl ?_⟩
          rw [Nat.testBit_two_pow] at h1
          simpa using h1
        · exact .inr ⟨e,by simp,hc.1,hc.2,.inr h1⟩
      · exact .inl h1
    · exact .inr ⟨e',by simp [h1],h2⟩
def tY (bm:List Nat) (ops:List Oper):Bool:=ops.zipIdx.all λ(o,j)=>Nat.beq (bm.getD j 0 ||| NN bm j o.after.toList) (NN bm j o.after.toList)
theorem X6 (h:tY bm ops=true) {j:Nat} {o:Oper} (hj:ops[j]?=some o) {i:Nat} (hi:(bm.getD j 0).testBit i=true) :
    ∃ e∈o.after,Region.binds .any e=true/\e.on<j/\(e.on=i\/(bm.getD e.on 0).testBit i=true):=by
  unfold tY at h
  rw [List.all_eq_true] at h
  have:=h (o,j) (by rw [List.mem_iff_getElem?];exact ⟨j,by simp [hj]⟩)
  simp only at this
  have heq:=Nat.eq_of_beq_eq_true this
  have ht:(NN bm j o.after.toList).testBit i=true:=by rw [<- heq,Nat.testBit_or,hi];rfl
  rcases aI3 bm j o.after.toList 0 i ht with h1 | ⟨e,h1,h2⟩
  · simp at h1
  · exact ⟨e,by simpa using h1,h2⟩
def Closed (ops:List Oper) (listed:Array Bool):Prop:=∀ (j:Nat) (o:Oper),ops[j]?=some o->listed.getD j false=true->∀ e∈o.after,Region.binds .any e=true->listed.getD e.on false=true
theorem aBS {listed:Array Bool} (hb:tY bm ops=true) (hc:Closed ops listed) (i:Nat):∀ (m j:Nat) (o:Oper),j<m->ops[j]?=some o->listed.getD j false=true->(bm.getD j 0).testBit i=true->listed.getD i false=true
  | 0,_,_,h,_,_,_=>absurd h (by omega)
  | m+1,j,o,hjm,hj,hl,ht=>by
    obtain ⟨e,h1,h2,h3,h4⟩:=X6 hb hj ht
    have hle:=hc j o hj hl e h1 h2
    rcases h4 with rfl | h4
    · exact hle
    · have:e.on<ops.length:=by have:=(List.getElem?_eq_some_iff.1 hj).1;omega
      exact aBS hb hc i m e.on ops[e.on] (by omega) (by simp [this]) hle h4
theorem TQ {listed:Array Bool} (hb:tY bm ops=true) (hc:Closed ops listed) {i j:Nat} (hj:j∈Region.ready .any ops.toArray listed) (hi:listed.getD i true=false):(bm.getD j 0).testBit i=false:=by
  cases ht:(bm.getD j 0).testBit i with
  | false=>rfl
  | true =>
    exfalso
    obtain ⟨_,o,ho,hall⟩:=mem_ready.1 hj
    have ho':ops[j]?=some o:=by simpa using ho
    obtain ⟨e,h1,h2,h3,h4⟩:=X6 hb ho' ht
    have hle:=hall e h1 h2
    have hif:listed.getD i false=true:=by
      rcases h4 with rfl | h4
      · exact hle
      · have:e.on<ops.length:=by have:=(List.getElem?_eq_some_iff.1 ho').1;omega
        exact aBS hb hc i (e.on+1) e.on ops[e.on] (by omega) (by simp [this]) hle h4
    rcases Nat.lt_or_ge i listed.size with h' | h'
    · simp [h'] at hi hif;rw [hi] at hif;cases hif
    · simp [Array.getElem?_eq_none h'] at hi
theorem VK {listed:Array Bool} (hc:Closed ops listed) {j:Nat} (hj:j∈Region.ready .any ops.toArray listed):Closed ops (listed.setIfInBounds j true):=by
  intro k o hk hl e he hb
  obtain ⟨_,oj,hoj,hall⟩:=mem_ready.1 hj
  by_cases hkj:j=k
  · subst hkj
    have:oj=o:=by simp [hk] at hoj;exact hoj.symm
    subst this
    exact getD_set_true (hall e he hb)
  · rw [getD_set_ne false hkj] at hl
    exact getD_set_true (hc k o hk hl e he hb)
theorem aL2 {K:AS->Prop} {i:Nat} {oi:Oper} {x:AV} {u:Up} (hb:tY bm ops=true) (hi:ops[i]?=some oi) :
    ∀ (fuel:Nat) (listed:Array Bool) (S:AS),Closed ops listed ->
      (∀ j oj,ops[j]?=some oj->j≠i->listed.getD j true=false->(bm.getD j 0).testBit i=false->oi.apart ops.toArray oj=true/\sO rd wr i j=true) ->
      i∈Region.ready .any ops.toArray listed->YA P ops rd wr C i oi S x u ->
      D9 P ops rd wr C K fuel (listed.setIfInBounds i true) (S.res oi.dst x u)->D9 P ops rd wr C K (fuel+1) listed S:=by
  have self:∀ {S:AS} {K':AS->Prop},YA P ops rd wr C i oi S x u->K' (S.res oi.dst x u)->uI P ops rd wr C i K' S:=λhy h=>by
    unfold uI;simp only [hi];exact ⟨x,u,hy,h⟩
  intro fuel
  induction fuel with
  | zero =>
    intro listed S _ _ hr hy H
    refine ⟨λh=>(by rw [h] at hr;cases hr),λj hj=>?_⟩
    by_cases hji:j=i
    · subst hji;exact self hy H
    · have:=ready_mono hj hji
      rw [H.1] at this
      cases this
  | succ fuel ih =>
    intro listed S hc hfree hr hy H
    refine ⟨λh=>(by rw [h] at hr;cases hr),λj hj=>?_⟩
    by_cases hji:j=i
    · subst hji;exact self hy H
    · have h1:=H.2 j (ready_mono hj hji)
      obtain ⟨hjun,oj,hoj,hall⟩:=mem_ready.1 hj
      have hoj':ops[j]?=some oj:=by simpa using hoj
      obtain ⟨f1,f2⟩:=hfree j oj hoj' hji hjun (TQ hb hc hj (mem_ready.1 hr).1)
      have h2:=aW4 hoj' f1 f2 hy h1
      have hfree':∀ k ok,ops[k]?=some ok->k≠i->(listed.setIfInBounds j true).getD k true=false->(bm.getD k 0).testBit i=false->oi.apart ops.toArray ok=true/\sO rd wr i k=true:=λk ok hk hki hun hno=>by
        refine hfree k ok hk hki ?_ hno
        by_cases hjk:j=k
        · subst hjk;exact hjun
        · rw [getD_set_ne true hjk] at hun;exact hun
      refine aMK (λS' h3=>ih (listed.setIfInBounds j true) S' (VK hc hj) hfree' (ready_mono hr (Ne.symm hji)) h3.1 ?_) h2
      rw [Array.setIfInBounds_comm _ _ hji]
      exact h3.2
def DG (P:Program) (rd:Nat->Nat->Bool) (wr:Nat->Option Nat) (C:Nat) (ops:List Oper) (K:AS->Prop):List Oper->Nat->AS->Prop
  | [],_,S=>K S
  | o :: rest,i,S=>∃ x u,YA P ops rd wr C i o S x u/\DG P rd wr C ops K rest (i+1) (S.res o.dst x u)
def TO (ops:List Oper) (bm:List Nat) (rd:Nat->Nat->Bool) (wr:Nat->Option Nat) (i:Nat) (o:Oper):Bool :=
  ops.zipIdx.all λ(oj,j)=>Nat.beq j i || Nat.blt j i || (bm.getD j 0).testBit i || (o.apart ops.toArray oj && sO rd wr i j)
def RU (ops:List Oper):Bool:=ops.zipIdx.all λ(o,j)=>o.after.all λe=>!(Region.binds .any e) || Nat.blt e.on j
theorem ZY {l:List Oper} (h:(l.all λo=>nS n o.dst && mV o)=true):l.toArray.all mV=true:=by
  simp only [List.all_eq_true,Bool.and_eq_true] at h
  simpa using λo ho=>(h o ho).2
def JA (n:NT) (ops:List Oper) (bm:List Nat) (rd:Nat->Nat->Bool) (wr:Nat->Option Nat):Bool :=
  tY bm ops && RU ops && (ops.all λo=>nS n o.dst && mV o) && ops.zipIdx.all λ(o,i)=>TO ops bm rd wr i o
def upto (N k:Nat):Array Bool:=Array.ofFn (n:=N) λi=>decide (i.val<k)
theorem BV (N k j:Nat) (d:Bool):(upto N k).getD j d=if j<N then decide (j<k) else d:=by
  unfold upto
  by_cases h:j<N
  · simp [h]
  · simp [h]
theorem aSM {N k:Nat} (h:k<N):(upto N k).setIfInBounds k true=upto N (k+1):=by
  apply Array.ext_getElem?
  intro i
  rw [Array.getElem?_setIfInBounds]
  have hs:(upto N k).size=N:=by simp [upto]
  have g:∀ m,(upto N m)[i]?=if i<N then some (decide (i<m)) else none:=λm=>by
    unfold upto;by_cases hi:i<N <;> simp [hi]
  by_cases hk:k=i
  · subst hk;rw [if_pos rfl,g,if_pos (by rw [hs];exact h),if_pos h];simp
  · rw [if_neg hk,g,g]
    by_cases hi:i<N
    · rw [if_pos hi,if_pos hi];congr 1;simp;omega
    · rw [if_neg hi,if_neg hi]
theorem mem_zipIdx' {α:Type} {l:List α} {i:Nat} {x:α} (h:l[i]?=some x):(x,i)∈l.zipIdx:=by
  rw [List.mem_iff_getElem?];exact ⟨i,by simp [h]⟩
theorem XO {K:AS->Prop} (hb:tY bm ops=true) (ho:RU ops=true) (hf:(ops.zipIdx.all λ(o,i)=>TO ops bm rd wr i o)=true) :
    ∀ (l:List Oper) (k:Nat) (S:AS),ops.drop k=l->k+l.length=ops.length->DG P rd wr C ops K l k S->D9 P ops rd wr C K l.length (upto ops.length k) S
  | [],k,S,hl,hk,h=>by
    refine ⟨?_,h⟩
    simp at hk
    rw [List.eq_nil_iff_forall_not_mem]
    intro j hj
    obtain ⟨h1,o,ho,_⟩:=mem_ready.1 hj
    have ho':ops[j]?=some o:=by simpa using ho
    have:=(List.getElem?_eq_some_iff.1 ho').1
    rw [BV,if_pos this] at h1
    simp at h1
    omega
  | o :: l,k,S,hl,hk,h=>by
    obtain ⟨h0,h1⟩:=drop_cons hl
    simp only [List.length_cons] at hk
    have hkl:k<ops.length:=by omega
    obtain ⟨x,u,hy,hK⟩:=h
    have hin:∀ (j:Nat) (oj:Oper),ops[j]?=some oj->∀ e∈oj.after,Region.binds .any e=true->e.on<j:=by
      intro j oj hj e he hbd
      unfold RU at ho
      rw [List.all_eq_true] at ho
      have:=ho (oj,j) (mem_zipIdx' hj)
      rw [Array.all_eq_true_iff_forall_mem] at this
      have:=this e he
      simpa [hbd,Nat.blt_eq] using this
    refine aL2 hb h0 l.length (upto ops.length k) S ?_ ?_ ?_ hy ?_
    · intro j oj hj hl' e he hbd
      have hjl:=(List.getElem?_eq_some_iff.1 hj).1
      have hlt:=hin j oj hj e he hbd
      rw [BV,if_pos hjl] at hl'
      rw [BV,if_pos (by omega)]
      simp at hl' ⊢;omega
    · intro j oj hj hne hun hbm
      have hjl:=(List.getElem?_eq_some_iff.1 hj).1
      rw [BV,if_pos hjl] at hun
      rw [List.all_eq_true] at hf
      have:=hf (o,k) (mem_zipIdx' h0)
      unfold TO at this
      rw [List.all_eq_true] at this
      have:=this (oj,j) (mem_zipIdx' hj)
      have e1:Nat.beq j k=false:=by cases hbq:Nat.beq j k with | false=>rfl | true=>exact absurd (Nat.eq_of_beq_eq_true hbq) hne
      have e2:Nat.blt j k=false:=by
        cases hbq:Nat.blt j k with
        | false=>rfl
        | true=>rw [Nat.blt_eq] at hbq;simp at hun;omega
      simp only [e1,e2,hbm,Bool.false_or,Bool.and_eq_true] at this
      exact this
    · refine mem_ready.2 ⟨by rw [BV,if_pos hkl];simp,o,by simpa using h0,λe he hbd=>?_⟩
      have hlt:=hin k o h0 e he hbd
      rw [BV,if_pos (by omega)]
      simp;exact hlt
    · rw [aSM hkl]
      exact XO hb ho hf l (k+1) _ h1 (by omega) hK
theorem aWD {id:Nat} {l:List Oper} {S:AS} {Q:Go.Exit->AS->Prop} (bm:List Nat) (rd:Nat->Nat->Bool) (wr:Nat->Option Nat) (hm:P.follows .mixedOrders=true) (hB:JA n l bm rd wr=true)
    (h:∀ C,DG P rd wr C l (Q .normal) l 0 S):Tr P n (.region id l.toArray true) S Q:=by
  intro s a hs
  unfold JA at hB
  simp only [Bool.and_eq_true] at hB
  obtain ⟨⟨⟨b1,b2⟩,b3⟩,b4⟩:=hB
  obtain ⟨C,hC⟩:=hs.heap.fin
  let s1:Sit:={ s with w:={ s.w with drawn:=s.w.drawn+1 } }
  have hv:∀ x v,VR s x v->VR s1 x v:=λx v h=>VR.mono (s:=s) (s':=s1) (λ_ hi=>⟨hi,rfl⟩) (λ_ _ h=>.inl h) (λ_ h=>h) h
  have hs1:SR n s1 S a:=by
    refine ⟨hs.size,hs.defers,λt x hx=>let ⟨v,h1,h2⟩:=hs.slot t x hx;⟨v,h1,hv _ _ h2⟩,⟨λi o ho=>?_,hs.heap.lN,hs.heap.im,hs.heap.fin⟩⟩
    obtain ⟨m,hm⟩:=hs.heap.obj i o ho
    refine ⟨m,⟨hm.hm,hm.dV,hm.hsz,hm.hk,hm.body.imp (λh=>h) λ⟨cur,fr,hb⟩=>⟨cur,fr,⟨hb.hnil,hb.hb,hb.hfr,hb.happ,hb.hcs,hb.hct,hb.hlen,hb.hr,λi r j x v a b c=>hv _ _ (hb.hv i r j x v a b c),hb.h1,hb.him,hb.kV⟩⟩⟩⟩
  have hfr1:Fr s S.hp s1 S.hp:=⟨rfl,rfl,rfl,Nat.le_refl _,λ_ _ _=>rfl,λ_ h=>h,λ_ _ _ h=>h,λ_ _ h=>h,hv,λ_ h=>h⟩
  have hA:=XO (P:=P) (C:=C) (K:=Q .normal) b1 b2 b4 l 0 S rfl (by simp) (h C)
  have hup:upto l.length 0=Array.replicate l.toArray.size false:=by
    apply Array.ext
    · simp [upto]
    · intro i h1 h2;simp [upto]
  rw [hup] at hA
  have:=OQ (n:=n) (s0:=s) (H0:=S.hp) (λi o ho=>by rw [List.all_eq_true] at b3;have:=b3 o (List.mem_of_getElem? ho);rw [Bool.and_eq_true] at this;exact this.1) _ _ S s1 a hs1 hfr1 (λj _=>hC (C+j) (by omega)) hA
  have hsz:l.toArray.size=l.length:=by simp
  rw [<- hsz] at this
  refine nL (WM hm (ZY b3) (by rw [hsz] at this ⊢;exact this)) ?_
  rintro e a' w' ⟨rfl,S',s',h1,h2,h3,h4⟩
  exact ⟨S',s',h1,h2,h3,h4⟩
variable {S:AS} {K:AS->Prop} {rest todo:List Oper} {o:Oper} {i:Nat}
theorem aH1 (h:K S):DG P rd wr C ops K [] i S:=h
theorem aL6 (hw:Wd ops S o=some false) (h:DG P rd wr C ops K rest (i+1) (S.put o.dst (.sc undef))):DG P rd wr C ops K (o :: rest) i S :=
  ⟨.sc undef,none,.inr ⟨hw,rfl,rfl⟩,h⟩
theorem wT {x:AV} (hw:Wd ops S o=some true) (hy:∀ H,(∀ k,rd i k=true->H k=S.hp k)->dW P o ⟨S.sl,H⟩ x) (h:DG P rd wr C ops K rest (i+1) (S.put o.dst x)):DG P rd wr C ops K (o :: rest) i S :=
  ⟨x,none,.inl ⟨hw,λ_ hp=>(by cases hp),λH hH=>(hy H hH).gV (λ_ h=>h.elim) (λ_ h=>h.elim)⟩,h⟩
theorem vB {x:AV} {k:Nat} {ob:Option bZ} (hw:Wd ops S o=some true) (hk:wr i=some k) (hy:∀ H,(∀ k,rd i k=true->H k=S.hp k)->eG P o ⟨S.sl,H⟩ (·=C+i) (·=C+i) (λy H'=>y=x/\H'=upd H k ob))
    (h:DG P rd wr C ops K rest (i+1) (({ S with hp:=upd S.hp k ob }:AS).put o.dst x)):DG P rd wr C ops K (o :: rest) i S :=
  ⟨x,some (k,ob),.inl ⟨hw,λ_ hp=>(by cases hp;exact hk),λH hH=>hy H hH⟩,h⟩
end
end Go.Pv
