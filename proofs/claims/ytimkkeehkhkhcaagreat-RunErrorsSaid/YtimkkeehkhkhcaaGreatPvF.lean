/- The abstract layer, part 6: functions, calls, what is never written again. -/
import Derived.Test.YtimkkeehkhkhcaaGreatPvE
set_option linter.unusedVariables false
set_option linter.unusedSimpArgs false
namespace Go.Pv
section
variable {P:Program} {n:NT} {S:AS}
def lX (s:Sit) (xs:List AV) (vs:Array Value):Prop:=xs.length=vs.size/\∀ (i:Nat) (x:AV) (v:Value),xs[i]?=some x->vs[i]?=some v->VR s x v
def PC (P:Program) (f:FuncId) (args:List AV) (H:AH) (R:AV->AH->Prop):Prop :=
  ∀ s vs,HR s H->lX s args vs->Calls P f vs s.w λe w'=>∃ y H' s' v,R y H'/\w'=s'.w/\e=.returned v/\VR s' y v/\HR s' H'/\Fr s H s' H'
theorem PC.mono {f:FuncId} {args:List AV} {H:AH} {R R':AV->AH->Prop} (h:PC P f args H R) (hr:∀ y H',R y H'->R' y H'):PC P f args H R' :=
  λs vs h1 h2=>(h s vs h1 h2).mono λ_ _ ⟨y,H',s',v,a,b⟩=>⟨y,H',s',v,hr _ _ a,b⟩
def bD (P:Program) (f:FuncId):Bool :=
  match P.funcs[f]? with
  | some fn=>!(fn.name == "runtime.NumGoroutine") && fn.body.isSome
  | none=>false
theorem EG {f:FuncId} (h:bD P f=true) (args:Array Value) (w:World):(callFunc f args).run P w=.ok (.enter f args) w:=by
  unfold bD at h
  unfold callFunc
  cases hf:P.funcs[f]? with
  | none=>rw [hf] at h;cases h
  | some fn =>
    rw [hf] at h
    simp only [Bool.and_eq_true,Bool.not_eq_true'] at h
    have h2:fn.body.isNone=false:=by cases hb:fn.body <;> simp_all
    simp only [program,Sem.run_bind,Sem.run,Result.andThen_ok,hf,h.1,h2,Bool.false_eq_true,if_false]
    rfl
theorem lX.append {s:Sit} {xs ys:List AV} {vs us:Array Value} (h:lX s xs vs) (k:lX s ys us):lX s (xs++ys) (vs++us):=by
  refine ⟨by simp [h.1,k.1],λi x v h1 h2=>?_⟩
  by_cases hi:i<xs.length
  · rw [List.getElem?_append_left hi] at h1
    rw [Array.getElem?_append_left (by rw [<- h.1];exact hi)] at h2
    exact h.2 i x v h1 h2
  · rw [List.getElem?_append_right (by omega)] at h1
    rw [Array.getElem?_append_right (by rw [<- h.1];omega),<- h.1] at h2
    exact k.2 _ x v h1 h2
section
variable {o:Oper}
theorem y5 {fo:Operand} {as:List Operand} {ts:Array TypeId} {k:FuncId} {first cap vs:List AV} {s:Sit} {ρ:Operand->Value} (ho:o.op=.call { callee:=.value fo,args:=as.toArray,argTypes:=ts })
    (hf:S.ev fo=some (.fn (.func k) first cap)) (ha:EvL S as vs) (hc:bD P k=true) (h:∀ x∈o.op.operands,∀ av,S.ev x=some av->VR s av (ρ x)) :
    ∃ us,lX s (first++vs++cap) us/\(execOp ρ o).run P s.w=.ok (.enter k us) s.w:=by
  have hfv:=h fo (by simp [ho,Op.operands,Call.operands]) _ hf
  obtain ⟨a1,a2⟩:=ha.val (s:=s) (ρ:=ρ) λq hq=>h q (by simp [ho,Op.operands,Call.operands,hq])
  generalize hu:ρ fo=u at hfv
  cases hfv with
  | fn hl hl' hv hv' =>
    rename_i a' c'
    refine ⟨a'++(as.map ρ).toArray++c',?_,?_⟩
    · exact (lX.append ⟨hl,hv⟩ ⟨by simp [a1],by simpa using a2⟩).append ⟨hl',hv'⟩
    · simp only [execOp,ho,resolve,hu,Deferred.ofValue,Sem.run_bind,Sem.run_pure,Result.andThen_ok,invoke,List.map_toArray]
      exact EG hc _ _
theorem aQ {fo:Operand} {as:List Operand} {ts:Array TypeId} {k:FuncId} {first cap vs:List AV} {R:AV->AH->Prop} (ho:o.op=.call { callee:=.value fo,args:=as.toArray,argTypes:=ts })
    (hf:S.ev fo=some (.fn (.func k) first cap)) (ha:EvL S as vs) (hc:bD P k=true) (hp:PC P k (first++vs++cap) S.hp R):bW P o S no any R:=by
  intro s a next Q hH hops _ hn
  obtain ⟨us,h1,h2⟩:=y5 (P:=P) ho hf ha hc hops
  unfold Oper.wp
  rw [h2]
  exact (hp s us hH h1).mono λe w' ⟨y,H',s',v,q1,q2,q3,q4,q5,q6⟩=>by subst q2 q3;exact hn s' v y H' q1 q4 q5 q6 (λ_ _=>.inr trivial)
end
inductive PV:AV->Prop where
  | sc (v:Value):PV (.sc v)
  | list {sz:Nat} {xs:List (List AV)} (h:∀ r∈xs,∀ x∈r,PV x):PV (.list sz xs)
  | pp {cs:List AV} (h:∀ x∈cs,PV x):PV (.pp cs)
  | agg {cs:List AV} (h:∀ x∈cs,PV x):PV (.agg cs)
  | fn {f:Fn} {a c:List AV} (h:∀ x∈a,PV x) (h':∀ x∈c,PV x):PV (.fn f a c)
  | iG {t:TypeId} {x:AV} (h:PV x):PV (.iG t x)
  | aM {cs:List AV} (h:∀ x∈cs,PV x):PV (.aM cs)
  | mp {ks:List Int} {cs:List AV} (h:∀ x∈cs,PV x):PV (.mp ks cs)
theorem PV.vr {s s':Sit} (hw:s'.w=s.w) (hI:∀ b,s.Im b->s'.Im b) {x:AV} {v:Value} (h:VR s x v) (hp:PV x):VR s' x v:=by
  induction h with
  | sc v=>exact .sc v
  | nil sz=>exact .nil sz
  | emp sz a=>exact .emp sz a
  | list f hI' hc hm' hr hf _ ih =>
    cases hp with
    | list hp=>exact .list f (hI _ hI') hc hm' hr (λi r j x h1 h2=>by rw [hw];exact hf i r j x h1 h2) (λi r j x h1 h2=>ih i r j x h1 h2 (hp r (List.mem_of_getElem? h1) x (List.mem_of_getElem? h2)))
  | pp f hI' hf _ ih =>
    cases hp with
    | pp hp=>exact .pp f (hI _ hI') (λj x h1=>by rw [hw];exact hf j x h1) (λj x h1=>ih j x h1 (hp x (List.mem_of_getElem? h1)))
  | pt hk' h1 h=>cases hp
  | sl hk' h1 h=>cases hp
  | agg hl _ ih=>cases hp with | agg hp=>exact .agg hl λi x v h1 h2=>ih i x v h1 h2 (hp x (List.mem_of_getElem? h1))
  | fn hl hl' _ _ ih ih'=>cases hp with | fn hp hp'=>exact .fn hl hl' (λi x v h1 h2=>ih i x v h1 h2 (hp x (List.mem_of_getElem? h1))) (λi x v h1 h2=>ih' i x v h1 h2 (hp' x (List.mem_of_getElem? h1)))
  | iG _ ih=>cases hp with | iG hp=>exact .iG (ih hp)
  | aM hl _ ih=>cases hp with | aM hp=>exact .aM hl λi x v h1 h2=>ih i x v h1 h2 (hp x (List.mem_of_getElem? h1))
  | mp hI' hb hk hl _ ih=>cases hp with | mp hp=>exact .mp (hI _ hI') (by rw [hw];exact hb) hk hl λi x e h1 h2=>ih i x e h1 h2 (hp x (List.mem_of_getElem? h1))
def H0:AH:=λ_=>none
theorem hr0 {s:Sit} (h:∀ b,s.Im b->b<s.w.heap.size) (hf:∃ C,∀ k,C<=k->¬ s.used k):HR s H0:=⟨λ_ _ h=>(by cases h),λ_ _ _ _ _ _ h=>(by cases h),h,hf⟩
def PP (P:Program) (f:FuncId) (args:List AV) (R:AV->Prop):Prop :=
  ∀ s vs,(∀ b,s.Im b->b<s.w.heap.size)->(∃ C,∀ k,C<=k->¬ s.used k)->lX s args vs ->
    Calls P f vs s.w λe w'=>∃ y s' v,R y/\PV y/\w'=s'.w/\e=.returned v/\VR s' y v/\(∀ b,s'.Im b->b<s'.w.heap.size)/\Fr s H0 s' H0
theorem PP.mono {f:FuncId} {args:List AV} {R R':AV->Prop} (h:PP P f args R) (hr:∀ y,R y->R' y):PP P f args R' :=
  λs vs h1 h2 h3=>(h s vs h1 h2 h3).mono λ_ _ ⟨y,s',v,a,b⟩=>⟨y,s',v,hr _ a,b⟩
def Cv (H:AH) (x y:AV):Prop:=∀ s,HR s H->∀ v,VR s x v->VR s y v
theorem Cv.refl {H:AH} (x:AV):Cv H x x:=λ_ _ _ h=>h
theorem Cv.trans {H:AH} {x y z:AV} (h:Cv H x y) (k:Cv H y z):Cv H x z:=λs hs v hv=>k s hs v (h s hs v hv)
theorem Cv.nil {H:AH} (sz:Nat):Cv H (.sc (.slice none 0 0)) (.list sz []):=λ_ _ v h=>by rw [h.gJ];exact .nil sz
inductive cO (H:AH):List AV->List AV->Prop
  | nil:cO H [] []
  | cons {x y:AV} {xs ys:List AV} (h:Cv H x y) (t:cO H xs ys):cO H (x :: xs) (y :: ys)
theorem cO.refl {H:AH}:∀ (xs:List AV),cO H xs xs
  | []=>.nil
  | x :: r=>.cons (.refl x) (cO.refl r)
theorem cO.get {H:AH} {xs ys:List AV} (h:cO H xs ys):xs.length=ys.length/\∀ (i:Nat) (y:AV),ys[i]?=some y->∃ x,xs[i]?=some x/\Cv H x y:=by
  induction h with
  | nil=>simp
  | cons h t ih =>
    refine ⟨by simp [ih.1],λi y hy=>?_⟩
    cases i with
    | zero=>simp at hy;subst hy;exact ⟨_,rfl,h⟩
    | succ i=>obtain ⟨x,h1,h2⟩:=ih.2 i y (by simpa using hy);exact ⟨x,by simpa using h1,h2⟩
inductive gN (H:AH):List (List AV)->List (List AV)->Prop
  | nil:gN H [] []
  | cons {x y:List AV} {xs ys:List (List AV)} (h:cO H x y) (t:gN H xs ys):gN H (x :: xs) (y :: ys)
theorem gN.refl {H:AH}:∀ (xs:List (List AV)),gN H xs xs
  | []=>.nil
  | x :: r=>.cons (.refl x) (gN.refl r)
theorem gN.get {H:AH} {xs ys:List (List AV)} (h:gN H xs ys):xs.length=ys.length/\∀ (i:Nat) (y:List AV),ys[i]?=some y->∃ x,xs[i]?=some x/\cO H x y:=by
  induction h with
  | nil=>simp
  | cons h t ih =>
    refine ⟨by simp [ih.1],λi y hy=>?_⟩
    cases i with
    | zero=>simp at hy;subst hy;exact ⟨_,rfl,h⟩
    | succ i=>obtain ⟨x,h1,h2⟩:=ih.2 i y (by simpa using hy);exact ⟨x,by simpa using h1,h2⟩
theorem cO.agg {H:AH} {xs ys:List AV} (h:cO H xs ys):Cv H (.agg xs) (.agg ys):=λs hs v hv=>by
  obtain ⟨h1,h2⟩:=h.get
  cases hv with
  | agg hl hv=>exact .agg (h1 ▸ hl) λi y u hy hu=>let ⟨x,q1,q2⟩:=h2 i y hy;q2 s hs u (hv i x u q1 hu)
theorem cO.aM {H:AH} {xs ys:List AV} (h:cO H xs ys):Cv H (.aM xs) (.aM ys):=λs hs v hv=>by
  obtain ⟨h1,h2⟩:=h.get
  cases hv with
  | aM hl hv=>exact .aM (h1 ▸ hl) λi y u hy hu=>let ⟨x,q1,q2⟩:=h2 i y hy;q2 s hs u (hv i x u q1 hu)
theorem cO.fn {H:AH} {f:Fn} {xs ys as bs:List AV} (h:cO H xs ys) (k:cO H as bs):Cv H (.fn f xs as) (.fn f ys bs):=λs hs v hv=>by
  obtain ⟨h1,h2⟩:=h.get
  obtain ⟨k1,k2⟩:=k.get
  cases hv with
  | fn hl hl' hv hv' =>
    exact .fn (h1 ▸ hl) (k1 ▸ hl') (λi y u hy hu=>let ⟨x,q1,q2⟩:=h2 i y hy;q2 s hs u (hv i x u q1 hu)) (λi y u hy hu=>let ⟨x,q1,q2⟩:=k2 i y hy;q2 s hs u (hv' i x u q1 hu))
theorem cO.all {H:AH} {xs ys:List AV} (h:cO H xs ys) {s:Sit} (hs:HR s H) {vs:Array Value} (ha:lX s xs vs):lX s ys vs:=by
  obtain ⟨h1,h2⟩:=h.get
  exact ⟨h1 ▸ ha.1,λi y u hy hu=>let ⟨x,q1,q2⟩:=h2 i y hy;q2 s hs u (ha.2 i x u q1 hu)⟩
theorem Cv.sl {H:AH} {id aD off len:Nat} {ob:aW} {rows:List (List AV)} (ho:H id=some ob) (bP:ob.aD=aD) (hmt:ob.mt=false) (hr:gN H ob.rows rows) (hl:off+len<=rows.length) :
    Cv H (.sl id aD off len) (.list ob.sz ((rows.drop off).take len)):=λs hs v hv=>by
  obtain ⟨m,hm⟩:=hs.obj id ob ho
  obtain ⟨r1,r2⟩:=hr.get
  have hlen:((rows.drop off).take len).length=len:=by simp;omega
  cases hv with
  | sl hk h1 h =>
    have hh:=h m hm.hm (hm.bP.trans bP)
    rcases hm.body with ⟨hn,he⟩ | ⟨cur,fr,hb⟩
    · obtain ⟨q1,q2⟩:=hh.1 hn
      subst q1 q2
      simpa using VR.nil ob.sz
    · obtain ⟨cap,q1,q2,q3⟩:=hh.2 hb.hnil
      subst q1
      have get:∀ (i:Nat) (r:List AV),((rows.drop off).take len)[i]?=some r->i<len/\rows[off+i]?=some r:=λi r hir=>by
        have hi:=(List.getElem?_eq_some_iff.1 hir).1
        rw [hlen] at hi
        rw [List.getElem?_take_of_lt hi,List.getElem?_drop] at hir
        exact ⟨hi,hir⟩
      have cell:∀ (i:Nat) (r:List AV) (j:Nat) (x:AV),((rows.drop off).take len)[i]?=some r->r[j]?=some x->∃ u,s.w.cell? ⟨m.b,off*m.sz+i*ob.sz+j,none⟩=some u/\VR s x u:=by
        intro i r j x hir hx
        obtain ⟨hi,hrr⟩:=get i r hir
        obtain ⟨r0,g1,g2⟩:=r2 _ _ hrr
        obtain ⟨_,g3⟩:=g2.get
        obtain ⟨x0,g4,g5⟩:=g3 j x hx
        obtain ⟨u,g6,g7⟩:=hb.rd g1 j x0 g4
        exact ⟨u,by rw [<- g6,hm.hsz,<- Nat.add_mul],g5 s hs u g7⟩
      have:=VR.list (s:=s) (sz:=ob.sz) (xs:=(rows.drop off).take len) (b:=m.b) (off:=off*m.sz) (cap:=cap)
        (λi j=>(s.w.cell? ⟨m.b,off*m.sz+i*ob.sz+j,none⟩).getD undef) (hb.him hmt) (by rw [hlen];exact q2) (by have:=hb.hct;omega)
        (λi r hir=>by
          obtain ⟨_,hrr⟩:=get i r hir
          obtain ⟨r0,g1,g2⟩:=r2 _ _ hrr
          rw [<- g2.get.1];exact hb.hr _ _ g1)
        (λi r j x hir hx=>by obtain ⟨u,g1,_⟩:=cell i r j x hir hx;simp [g1])
        (λi r j x hir hx=>by obtain ⟨u,g1,g2⟩:=cell i r j x hir hx;simp [g1,g2])
      rw [hlen] at this
      exact this
theorem Cv.pt {H:AH} {id aD row off:Nat} {ob:aW} {r r':List AV} (ho:H id=some ob) (bP:ob.aD=aD) (hmt:ob.mt=false) (hr:ob.rows[row]?=some r) (hc:cO H r r') :
    Cv H (.pt id aD row off) (.pp (r'.drop off)):=λs hs v hv=>by
  obtain ⟨m,hm⟩:=hs.obj id ob ho
  rcases hm.body with ⟨_,he⟩ | ⟨cur,fr,hb⟩
  · rw [he] at hr;simp at hr
  · cases hv with
    | pt hk h1 h =>
      rw [h m hm.hm (hm.bP.trans bP) hb.hnil]
      refine Rd.pp (hb.him hmt) ?_
      rw [hm.hsz]
      refine Rd.drop (cs:=r') (λj x hx=>?_) off
      obtain ⟨x0,g1,g2⟩:=hc.get.2 j x hx
      obtain ⟨u,g3,g4⟩:=hb.rd hr j x0 g1
      exact ⟨u,g3,g2 s hs u g4⟩
def mI (H:AH):AH:=λi=>(H i).map λob=>{ ob with mt:=false }
def vI (s:Sit) (H:AH):Sit:={ s with Im:=λb=>s.Im b\/jY s H b }
theorem D9 {s:Sit} {H:AH} {x:AV} {v:Value} (h:VR s x v):VR (vI s H) x v :=
  VR.mono (s:=s) (s':=vI s H) (λ_ hi=>⟨.inl hi,rfl⟩) (λ_ _ h=>.inl h) (λ_ h=>h) h
theorem E6 {s:Sit} {H:AH} (hH:HR s H):HR (vI s H) (mI H):=by
  refine ⟨λid o ho=>?_,λi i' o o' m m' h1 h2 a b c d e=>?_,λb hb=>?_,hH.fin⟩
  · unfold mI at ho
    cases h:H id with
    | none=>rw [h] at ho;cases ho
    | some ob =>
      rw [h] at ho
      cases ho
      obtain ⟨m,hm⟩:=hH.obj id ob h
      refine ⟨m,⟨hm.hm,hm.bP,hm.hsz,hm.hk,?_⟩⟩
      rcases hm.body with hb | ⟨cur,fr,hb⟩
      · exact .inl hb
      · refine .inr ⟨cur,fr,⟨hb.hnil,hb.hb,hb.hfr,hb.happ,hb.hcs,hb.hct,hb.hlen,hb.hr,λi r j x v a b c=>D9 (hb.hv i r j x v a b c),hb.h1,λ_=>?_,λh=>by cases h⟩⟩
        cases hmt:ob.mt with
        | false=>exact .inl (hb.him hmt)
        | true=>exact .inr ⟨id,ob,m,h,hmt,hm.hm,hb.hnil,rfl⟩
  · unfold mI at h1 h2
    cases g1:H i with
    | none=>rw [g1] at h1;cases h1
    | some ob =>
      cases g2:H i' with
      | none=>rw [g2] at h2;cases h2
      | some ob'=>exact hH.jQ i i' ob ob' m m' g1 g2 a b c d e
  · rcases hb with hb | ⟨i,o,m,h1,h2,h3,h4,h5⟩
    · exact hH.im b hb
    · obtain ⟨m1,hm1⟩:=hH.obj i o h1
      have:=hm1.hm;rw [h3] at this;cases this
      rcases hm1.body with ⟨h,_⟩ | ⟨cur,fr,hb⟩
      · rw [h4] at h;cases h
      · rw [<- h5];exact (Array.getElem?_eq_some_iff.1 hb.hb).1
theorem sG {f:FuncId} {args:List AV} {R0:AV->AH->Prop} {R:AV->Prop} (h:PC P f args H0 R0) (hr:∀ y H,R0 y H->∃ y',R y'/\PV y'/\Cv (mI H) y y'):PP P f args R:=by
  intro s vs him hfn ha
  refine (h s vs (hr0 him hfn) ha).mono ?_
  rintro e w' ⟨y,H',s',v,h1,rfl,rfl,h4,h5,h6⟩
  obtain ⟨y',g1,g2,g3⟩:=hr y H' h1
  have hno:∀ b,¬ jY s H0 b:=λb ⟨_,_,_,h,_⟩=>(by cases h)
  refine ⟨y',vI s' H',v,g1,g2,rfl,rfl,g3 _ (E6 h5) v (D9 h4),(E6 h5).im,⟨h6.os,h6.tape,h6.output,h6.size,h6.keep,λb hb=>.inl (h6.j5 b hb),λb hb ho hi=>?_,λb _ ⟨_,_,_,h,_⟩=>(by cases h),λx v hx=>D9 (h6.vals x v hx),h6.lY⟩⟩
  rcases hi with hi | hi
  · exact h6.j4 b hb ho hi
  · exact absurd (h6.own b hb hi) (hno b)
theorem aAJ {o:Oper} {fo:Operand} {as:List Operand} {ts:Array TypeId} {k:FuncId} {first cap vs args:List AV} {R:AV->Prop} (ho:o.op=.call { callee:=.value fo,args:=as.toArray,argTypes:=ts })
    (hf:S.ev fo=some (.fn (.func k) first cap)) (ha:EvL S as vs) (hc:bD P k=true) (hcv:cO S.hp (first++vs++cap) args) (hp:PP P k args R):bW P o S no no (λy H'=>R y/\H'=S.hp):=by
  intro s a next Q hH hops _ hn
  obtain ⟨us,h1,h2⟩:=y5 (P:=P) ho hf ha hc hops
  unfold Oper.wp
  rw [h2]
  refine (hp s us hH.im hH.fin (hcv.all hH h1)).mono ?_
  rintro e w' ⟨y,s',v,q1,q2,rfl,rfl,q4,q5,q6⟩
  let s2:Sit:={ w:=s'.w,Im:=s'.Im,mu:=s.mu,used:=s.used }
  have hno:∀ b,¬ jY s H0 b:=λb ⟨_,_,_,h,_⟩=>(by cases h)
  have hmono:∀ x v,VR s x v->VR s2 x v:=λx v h=>VR.mono (s:=s) (s':=s2) (λb hi=>⟨q6.j5 b hi,q6.keep b (hH.im b hi) (hno b)⟩) (λ_ _ h=>.inl h) (λ_ h=>h) h
  refine hn s2 v y S.hp ⟨q1,rfl⟩ (PV.vr (s:=s') (s':=s2) rfl (λ_ h=>h) q4 q2) ⟨λid ob hob=>?_,hH.jQ,q5,hH.fin⟩
    ⟨q6.os,q6.tape,q6.output,q6.size,λb hb _=>q6.keep b hb (hno b),q6.j5,λb hb _ hi=>q6.j4 b hb (hno b) hi,λb _ h=>h,hmono,λ_ h=>h⟩ (λ_ h=>.inl h)
  obtain ⟨m,hm⟩:=hH.obj id ob hob
  refine ⟨m,⟨hm.hm,hm.bP,hm.hsz,hm.hk,?_⟩⟩
  rcases hm.body with hb | ⟨cur,fr,hb⟩
  · exact .inl hb
  · have hlt:m.b<s.w.heap.size:=(Array.getElem?_eq_some_iff.1 hb.hb).1
    exact .inr ⟨cur,fr,⟨hb.hnil,(q6.keep m.b hlt (hno _)).trans hb.hb,hb.hfr,hb.happ,hb.hcs,hb.hct,hb.hlen,hb.hr,λi r j x v a b c=>hmono _ _ (hb.hv i r j x v a b c),hb.h1,
      λh=>q6.j5 _ (hb.him h),λh hi=>hb.jI h (q6.j4 m.b hlt (hno _) hi)⟩⟩
theorem O3 {s:Sit} {H:AH} (hH:HR s H) (id:Nat) {ob:aW} (ho:H id=some ob) :
    ∃ s',s'.w=s.w/\HR s' (upd H id (some { ob with mt:=false }))/\Fr s H s' (upd H id (some { ob with mt:=false })):=by
  cases hmt:ob.mt with
  | false =>
    refine ⟨s,rfl,?_⟩
    have:upd H id (some { ob with mt:=false })=H:=by
      funext i
      by_cases hi:i=id
      · subst hi;rw [upd_same,ho,<- hmt]
      · rw [upd_ne _ _ hi]
    rw [this]
    exact ⟨hH,Fr.refl _ _⟩
  | true =>
    obtain ⟨m,hm⟩:=hH.obj id ob ho
    let s':Sit:={ s with Im:=λb=>s.Im b\/(b=m.b/\m.nil=false) }
    have hmono:∀ x v,VR s x v->VR s' x v:=λx v h=>VR.mono (s:=s) (s':=s') (λ_ hi=>⟨.inl hi,rfl⟩) (λ_ _ h=>.inl h) (λ_ h=>h) h
    have hown:m.nil=false->jY s H m.b:=λh=>⟨id,ob,m,ho,hmt,hm.hm,h,rfl⟩
    have hlt:m.nil=false->m.b<s.w.heap.size:=λh=>by
      rcases hm.body with ⟨h',_⟩ | ⟨cur,fr,hb⟩
      · rw [h] at h';cases h'
      · exact (Array.getElem?_eq_some_iff.1 hb.hb).1
    refine ⟨s',rfl,⟨λi o' ho'=>?_,λi i' o1 o2 m1 m2 h1 h2 a b c d e=>?_,λb hb=>?_,hH.fin⟩,⟨rfl,rfl,rfl,Nat.le_refl _,λ_ _ _=>rfl,λ_ h=>.inl h,λb hb hno hi=>?_,λb hb h=>?_,hmono,λ_ h=>h⟩⟩
    · by_cases hi:i=id
      · subst hi
        rw [upd_same] at ho';cases ho'
        refine ⟨m,⟨hm.hm,hm.bP,hm.hsz,hm.hk,?_⟩⟩
        rcases hm.body with hb | ⟨cur,fr,hb⟩
        · exact .inl hb
        · exact .inr ⟨cur,fr,⟨hb.hnil,hb.hb,hb.hfr,hb.happ,hb.hcs,hb.hct,hb.hlen,hb.hr,λi r j x v a b c=>hmono _ _ (hb.hv i r j x v a b c),hb.h1,λ_=>.inr ⟨rfl,hb.hnil⟩,λh=>by cases h⟩⟩
      · rw [upd_ne _ _ hi] at ho'
        obtain ⟨m2,hm2⟩:=hH.obj i o' ho'
        refine ⟨m2,⟨hm2.hm,hm2.bP,hm2.hsz,hm2.hk,?_⟩⟩
        rcases hm2.body with hb | ⟨cur,fr,hb⟩
        · exact .inl hb
        · exact .inr ⟨cur,fr,⟨hb.hnil,hb.hb,hb.hfr,hb.happ,hb.hcs,hb.hct,hb.hlen,hb.hr,λi r j x v a b c=>hmono _ _ (hb.hv i r j x v a b c),hb.h1,λh=>.inl (hb.him h),λh hi'=>by
            rcases hi' with h' | ⟨h',hn⟩
            · exact hb.jI h h'
            · exact hi (hH.jQ i id o' ob m2 m ho' ho hm2.hm hm.hm hb.hnil hn h')⟩⟩
    · have conv:∀ i o',upd H id (some { ob with mt:=false }) i=some o'->∃ o'',H i=some o'':=by
        intro i o' h
        by_cases hi:i=id
        · subst hi;exact ⟨ob,ho⟩
        · rw [upd_ne _ _ hi] at h;exact ⟨o',h⟩
      obtain ⟨o1',g1⟩:=conv i o1 h1
      obtain ⟨o2',g2⟩:=conv i' o2 h2
      exact hH.jQ i i' o1' o2' m1 m2 g1 g2 a b c d e
    · rcases hb with hb | ⟨rfl,hn⟩
      · exact hH.im b hb
      · exact hlt hn
    · rcases hi with hi | ⟨rfl,hn⟩
      · exact hi
      · exact absurd (hown hn) hno
    · obtain ⟨i,o',m',q1,q2,q3,q4,q5⟩:=h
      by_cases hi:i=id
      · subst hi;rw [upd_same] at q1;cases q1;cases q2
      · rw [upd_ne _ _ hi] at q1
        exact ⟨i,o',m',q1,q2,q3,q4,q5⟩
theorem aKK {ops todo:List Oper} {K:AS->Prop} (id:Nat) {ob:aW} (ho:S.hp id=some ob) (h:Rg P n ops todo { S with hp:=upd S.hp id (some { ob with mt:=false }) } K):Rg P n ops todo S K:=by
  intro k hk s a hs
  obtain ⟨s',g1,g2,g3⟩:=O3 hs.heap id ho
  have:=h k hk s' a (hs.fr g2 g3)
  rw [g1] at this
  refine xB ?_ _ _ _ this
  rintro e a' w' ⟨rfl,S2,s2,q1,q2,q3,q4⟩
  exact ⟨rfl,S2,s2,q1,q2,q3,g3.trans q4⟩
theorem aEV {c:Code} {Q:Go.Exit->AS->Prop} (id:Nat) {ob:aW} (ho:S.hp id=some ob) (h:Tr P n c { S with hp:=upd S.hp id (some { ob with mt:=false }) } Q):Tr P n c S Q:=by
  intro s a hs
  obtain ⟨s',g1,g2,g3⟩:=O3 hs.heap id ho
  have:=h s' a (hs.fr g2 g3)
  rw [g1] at this
  refine kJ this ?_
  rintro e a' w' ⟨S2,s2,q1,q2,q3,q4⟩
  exact ⟨S2,s2,q1,q2,q3,g3.trans q4⟩
theorem aFX {ops todo:List Oper} {K:AS->Prop} {x:AV} (y:AV) (t:Nat) (h:S.sl t=some x) (hc:Cv S.hp x y) (h1:Rg P n ops todo (S.put (some t) y) K):Rg P n ops todo S K:=by
  intro k hk s a hs
  refine h1 k hk s a ⟨hs.size,hs.defers,λi z hz=>?_,hs.heap⟩
  by_cases hi:i=t
  · subst hi;rw [AS.vQ,upd_same] at hz;cases hz
    obtain ⟨v,g1,g2⟩:=hs.slot i _ h
    exact ⟨v,g1,hc s hs.heap v g2⟩
  · rw [AS.vQ,upd_ne _ _ hi] at hz;exact hs.slot i z hz
inductive kX (P:Program) (S:AS):List ResultVar->List AV->Prop
  | nil:kX P S [] []
  | tmp {t:Tmp} {v:AV} {rs:List ResultVar} {vs:List AV} (h:S.sl t=some v) (r:kX P S rs vs):kX P S (.tmp t :: rs) (v :: vs)
  | cell {t:Tmp} {T k:Nat} {b:Bool} {p v:AV} {cs:List AV} {rs:List ResultVar} {vs:List AV} (h:S.sl t=some p) (hp:qR S p cs) (hT:gF P T=some (k,b)) (hv:jU k b cs=some v) (r:kX P S rs vs):kX P S (.cell t T :: rs) (v :: vs)
def l8:List AV->AV
  | [v]=>v
  | vs=>.aM vs
def wF (tmps:Array Value):ResultVar->Sem Value
  | .tmp t=>pure (tmps.getD t undef)
  | .cell a t=>do loadVar t (<- asAddr (tmps.getD a undef))
theorem I1 (fn:Func) (tmps:Array Value):results fn tmps=(do let vs <- fn.results.mapM (wF tmps);pure (if h:vs.size=1 then vs[0] else .tuple vs)):=by
  unfold results
  congr 1
theorem kX.run {s:Sit} {a:Act} {rs:List ResultVar} {vs:List AV} (h:kX P S rs vs) (hs:SR n s S a) :
    ∃ us:List Value,us.length=vs.length/\(∀ (i:Nat) (x:AV) (v:Value),vs[i]?=some x->us[i]?=some v->VR s x v) /\
      (rs.mapM (wF a.tmps)).run P s.w=.ok us s.w:=by
  induction h with
  | nil=>exact ⟨[],rfl,by simp,rfl⟩
  | tmp h r ih =>
    obtain ⟨us,h1,h2,h3⟩:=ih
    obtain ⟨v,g1,g2⟩:=hs.slot _ _ h
    refine ⟨v :: us,by simp [h1],λi x u a b=>?_,?_⟩
    · cases i with
      | zero=>simp at a b;subst a b;exact g2
      | succ i=>exact h2 i x u (by simpa using a) (by simpa using b)
    · simp only [List.mapM_cons,wF,Sem.run_bind,Sem.run_pure,Result.andThen_ok,h3]
      simp [g1]
  | @cell t0 T0 k0 b0 p0 v0 cs0 rs0 vs0 h hp hT hv r ih =>
    obtain ⟨us,h1,h2,h3⟩:=ih
    obtain ⟨v,g1,g2⟩:=hs.slot _ _ h
    obtain ⟨b,o,e1,e2⟩:=hp.rd hs.heap g2
    obtain ⟨u,e3,e4⟩:=R4 hT e2 hv
    refine ⟨u :: us,by simp [h1],λi x u a b=>?_,?_⟩
    · cases i with
      | zero=>simp at a b;subst a b;exact e3
      | succ i=>exact h2 i x u (by simpa using a) (by simpa using b)
    · have:a.tmps.getD t0 undef=.pointer (some ⟨b,o,none⟩):=by simp [g1,e1]
      simp only [List.mapM_cons,wF,Sem.run_bind,this,asAddr,Sem.run_pure,Result.andThen_ok,e4,h3]
theorem C4 {f:FuncId} {fn:Func} {c:Code} {args:List AV} {H:AH} {R:AV->AH->Prop} (hf:P.funcs[f]?=some fn) (hb:fn.body=some c) (hle:args.length<=fn.ntmps)
    (h:Tr P ⟨fn.ntmps,false,[]⟩ c ⟨λt=>args[t]?,H⟩ (λe S'=>(e=.normal\/e=.ret)/\∃ vs H2,kX P S' fn.results.toList vs/\(∀ t v,H2 t=some v->S'.hp t=some v)/\R (l8 vs) H2)):PC P f args H R:=by
  intro s vs hH ha
  refine aAW hf hb ?_
  have hs:SR ⟨fn.ntmps,false,[]⟩ s ⟨λt=>args[t]?,H⟩ { tmps:=vs++Array.replicate (fn.ntmps-vs.size) undef,defers:=[] }:=by
    refine ⟨by simp [<- ha.1];omega,rfl,λt x hx=>?_,hH⟩
    have ht:t<vs.size:=by rw [<- ha.1];exact (List.getElem?_eq_some_iff.1 hx).1
    exact ⟨vs[t],by simp [Array.getElem?_append_left ht,ht],ha.2 t x _ hx (by simp [ht])⟩
  refine kJ (h s _ hs) ?_
  rintro e a w' ⟨S',s',rfl,⟨he,us,H2,hr,hsub,hR⟩,hs',hf'⟩
  obtain ⟨xs,h1,h2,h3⟩:=hr.run hs'
  have hres:∃ v,VR s' (l8 us) v/\(results fn a.tmps).run P s'.w=.ok v s'.w:=by
    have hrun:(fn.results.mapM (wF a.tmps)).run P s'.w=.ok xs.toArray s'.w:=by
      rw [Array.mapM_eq_mapM_toList]
      simp only [Sem.run_map,h3,Result.andThen_ok]
    rw [I1,Sem.run_bind,hrun]
    simp only [Result.andThen_ok]
    match us,xs,h1,h2 with
    | [u],[x],_,h2=>exact ⟨x,h2 0 u x rfl rfl,rfl⟩
    | [],[],_,_=>exact ⟨.tuple #[],.aM rfl (by simp),rfl⟩
    | u1 :: u2 :: ur,x1 :: x2 :: xr,h1,h2=>exact ⟨.tuple (x1 :: x2 :: xr).toArray,.aM (by simpa using h1.symm) (by simpa using h2),by simp⟩
  obtain ⟨v,g1,g2⟩:=hres
  have hH2:HR s' H2:=⟨λid o ho=>hs'.heap.obj id o (hsub id o ho),λi i' o o' m m' a b=>hs'.heap.jQ i i' o o' m m' (hsub _ _ a) (hsub _ _ b),hs'.heap.im,hs'.heap.fin⟩
  have hfr:Fr s H s' H2:=⟨hf'.os,hf'.tape,hf'.output,hf'.size,hf'.keep,hf'.j5,hf'.j4,λb hb ⟨id,o,m,a,r⟩=>hf'.own b hb ⟨id,o,m,hsub _ _ a,r⟩,hf'.vals,hf'.lY⟩
  rcases he with rfl | rfl
  · exact ⟨hs'.defers,v,g2,_,_,s',v,hR,rfl,rfl,g1,hH2,hfr⟩
  · exact ⟨hs'.defers,v,g2,_,_,s',v,hR,rfl,rfl,g1,hH2,hfr⟩
end
end Go.Pv
