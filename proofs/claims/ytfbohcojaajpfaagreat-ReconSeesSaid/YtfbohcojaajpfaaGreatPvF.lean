/- The abstract layer, part 6: functions, calls, what is never written again. -/
import Derived.Test.YtfbohcojaajpfaaGreatPvE
set_option linter.unusedVariables false
set_option linter.unusedSimpArgs false
namespace Go.Pv
section
variable {P:Program} {n:NT} {S:AS}
def AllR (s:Sit) (xs:List AV) (vs:Array Value):Prop:=xs.length=vs.size∧∀ (i:Nat) (x:AV) (v:Value),xs[i]?=some x→vs[i]?=some v→VR s x v
def PC (P:Program) (f:FuncId) (args:List AV) (H:AH) (R:AV→AH→Prop):Prop :=
  ∀ s vs,HR s H→AllR s args vs→Calls P f vs s.w fun e w'=>∃ y H' s' v,R y H'∧w'=s'.w∧e=.returned v∧VR s' y v∧HR s' H'∧Fr s H s' H'
theorem PC.mono {f:FuncId} {args:List AV} {H:AH} {R R':AV→AH→Prop} (h:PC P f args H R) (hr:∀ y H',R y H'→R' y H'):PC P f args H R' :=
  fun s vs h1 h2=>(h s vs h1 h2).mono fun _ _ ⟨y,H',s',v,a,b⟩=>⟨y,H',s',v,hr _ _ a,b⟩
def cal (P:Program) (f:FuncId):Bool :=
  match P.funcs[f]? with
  | some fn=>!(fn.name == "runtime.NumGoroutine") && fn.body.isSome
  | none=>false
theorem run_callFunc' {f:FuncId} (h:cal P f=true) (args:Array Value) (w:World):(callFunc f args).run P w=.ok (.enter f args) w:=by
  unfold cal at h
  unfold callFunc
  cases hf:P.funcs[f]? with
  | none=>rw [hf] at h;cases h
  | some fn =>
    rw [hf] at h
    simp only [Bool.and_eq_true,Bool.not_eq_true'] at h
    have h2:fn.body.isNone=false:=by cases hb:fn.body <;> simp_all
    simp only [program,Sem.run_bind,Sem.run,Result.andThen_ok,hf,h.1,h2,Bool.false_eq_true,if_false]
    rfl
theorem AllR.append {s:Sit} {xs ys:List AV} {vs us:Array Value} (h:AllR s xs vs) (k:AllR s ys us):AllR s (xs++ys) (vs++us):=by
  refine ⟨by simp [h.1,k.1],fun i x v h1 h2=>?_⟩
  by_cases hi:i<xs.length
  · rw [List.getElem?_append_left hi] at h1
    rw [Array.getElem?_append_left (by rw [← h.1];exact hi)] at h2
    exact h.2 i x v h1 h2
  · rw [List.getElem?_append_right (by omega)] at h1
    rw [Array.getElem?_append_right (by rw [← h.1];omega),← h.1] at h2
    exact k.2 _ x v h1 h2
section
variable {o:Oper}
theorem run_call {fo:Operand} {as:List Operand} {ts:Array TypeId} {k:FuncId} {first cap vs:List AV} {s:Sit} {ρ:Operand→Value} (ho:o.op=.call { callee:=.value fo,args:=as.toArray,argTypes:=ts })
    (hf:S.ev fo=some (.fn (.func k) first cap)) (ha:EvL S as vs) (hc:cal P k=true) (h:∀ x∈o.op.operands,∀ av,S.ev x=some av→VR s av (ρ x)) :
    ∃ us,AllR s (first++vs++cap) us∧(execOp ρ o).run P s.w=.ok (.enter k us) s.w:=by
  have hfv:=h fo (by simp [ho,Op.operands,Call.operands]) _ hf
  obtain ⟨a1,a2⟩:=ha.val (s:=s) (ρ:=ρ) fun q hq=>h q (by simp [ho,Op.operands,Call.operands,hq])
  generalize hu:ρ fo=u at hfv
  cases hfv with
  | fn hl hl' hv hv' =>
    rename_i a' c'
    refine ⟨a'++(as.map ρ).toArray++c',?_,?_⟩
    · exact (AllR.append ⟨hl,hv⟩ ⟨by simp [a1],by simpa using a2⟩).append ⟨hl',hv'⟩
    · simp only [execOp,ho,resolve,hu,Deferred.ofValue,Sem.run_bind,Sem.run_pure,Result.andThen_ok,invoke,List.map_toArray]
      exact run_callFunc' hc _ _
theorem yl_call {fo:Operand} {as:List Operand} {ts:Array TypeId} {k:FuncId} {first cap vs:List AV} {R:AV→AH→Prop} (ho:o.op=.call { callee:=.value fo,args:=as.toArray,argTypes:=ts })
    (hf:S.ev fo=some (.fn (.func k) first cap)) (ha:EvL S as vs) (hc:cal P k=true) (hp:PC P k (first++vs++cap) S.hp R):Yield P o S no any R:=by
  intro s a next Q hH hops _ hn
  obtain ⟨us,h1,h2⟩:=run_call (P:=P) ho hf ha hc hops
  unfold Oper.wp
  rw [h2]
  exact (hp s us hH h1).mono fun e w' ⟨y,H',s',v,q1,q2,q3,q4,q5,q6⟩=>by subst q2 q3;exact hn s' v y H' q1 q4 q5 q6 (fun _ _=>.inr trivial)
end
inductive PV:AV→Prop where
  | sc (v:Value):PV (.sc v)
  | list {sz:Nat} {xs:List (List AV)} (h:∀ r∈xs,∀ x∈r,PV x):PV (.list sz xs)
  | pp {cs:List AV} (h:∀ x∈cs,PV x):PV (.pp cs)
  | agg {cs:List AV} (h:∀ x∈cs,PV x):PV (.agg cs)
  | fn {f:Fn} {a c:List AV} (h:∀ x∈a,PV x) (h':∀ x∈c,PV x):PV (.fn f a c)
  | ifc {t:TypeId} {x:AV} (h:PV x):PV (.ifc t x)
  | tup {cs:List AV} (h:∀ x∈cs,PV x):PV (.tup cs)
  | mp {ks:List Int} {cs:List AV} (h:∀ x∈cs,PV x):PV (.mp ks cs)
theorem PV.vr {s s':Sit} (hw:s'.w=s.w) (hI:∀ b,s.Im b→s'.Im b) {x:AV} {v:Value} (h:VR s x v) (hp:PV x):VR s' x v:=by
  induction h with
  | sc v=>exact .sc v
  | nil sz=>exact .nil sz
  | emp sz a=>exact .emp sz a
  | list f hI' hc hm' hr hf _ ih =>
    cases hp with
    | list hp=>exact .list f (hI _ hI') hc hm' hr (fun i r j x h1 h2=>by rw [hw];exact hf i r j x h1 h2) (fun i r j x h1 h2=>ih i r j x h1 h2 (hp r (List.mem_of_getElem? h1) x (List.mem_of_getElem? h2)))
  | pp f hI' hf _ ih =>
    cases hp with
    | pp hp=>exact .pp f (hI _ hI') (fun j x h1=>by rw [hw];exact hf j x h1) (fun j x h1=>ih j x h1 (hp x (List.mem_of_getElem? h1)))
  | pt hk' h1 h=>cases hp
  | sl hk' h1 h=>cases hp
  | agg hl _ ih=>cases hp with | agg hp=>exact .agg hl fun i x v h1 h2=>ih i x v h1 h2 (hp x (List.mem_of_getElem? h1))
  | fn hl hl' _ _ ih ih'=>cases hp with | fn hp hp'=>exact .fn hl hl' (fun i x v h1 h2=>ih i x v h1 h2 (hp x (List.mem_of_getElem? h1))) (fun i x v h1 h2=>ih' i x v h1 h2 (hp' x (List.mem_of_getElem? h1)))
  | ifc _ ih=>cases hp with | ifc hp=>exact .ifc (ih hp)
  | tup hl _ ih=>cases hp with | tup hp=>exact .tup hl fun i x v h1 h2=>ih i x v h1 h2 (hp x (List.mem_of_getElem? h1))
  | mp hI' hb hk hl _ ih=>cases hp with | mp hp=>exact .mp (hI _ hI') (by rw [hw];exact hb) hk hl fun i x e h1 h2=>ih i x e h1 h2 (hp x (List.mem_of_getElem? h1))
def H0:AH:=fun _=>none
theorem hr0 {s:Sit} (h:∀ b,s.Im b→b<s.w.heap.size) (hf:∃ C,∀ k,C≤k→¬ s.used k):HR s H0:=⟨fun _ _ h=>(by cases h),fun _ _ _ _ _ _ h=>(by cases h),h,hf⟩
def PP (P:Program) (f:FuncId) (args:List AV) (R:AV→Prop):Prop :=
  ∀ s vs,(∀ b,s.Im b→b<s.w.heap.size)→(∃ C,∀ k,C≤k→¬ s.used k)→AllR s args vs →
    Calls P f vs s.w fun e w'=>∃ y s' v,R y∧PV y∧w'=s'.w∧e=.returned v∧VR s' y v∧(∀ b,s'.Im b→b<s'.w.heap.size)∧Fr s H0 s' H0
theorem PP.mono {f:FuncId} {args:List AV} {R R':AV→Prop} (h:PP P f args R) (hr:∀ y,R y→R' y):PP P f args R' :=
  fun s vs h1 h2 h3=>(h s vs h1 h2 h3).mono fun _ _ ⟨y,s',v,a,b⟩=>⟨y,s',v,hr _ a,b⟩
def Cv (H:AH) (x y:AV):Prop:=∀ s,HR s H→∀ v,VR s x v→VR s y v
theorem Cv.refl {H:AH} (x:AV):Cv H x x:=fun _ _ _ h=>h
theorem Cv.trans {H:AH} {x y z:AV} (h:Cv H x y) (k:Cv H y z):Cv H x z:=fun s hs v hv=>k s hs v (h s hs v hv)
theorem Cv.nil {H:AH} (sz:Nat):Cv H (.sc (.slice none 0 0)) (.list sz []):=fun _ _ v h=>by rw [h.sc_inv];exact .nil sz
inductive CvL (H:AH):List AV→List AV→Prop
  | nil:CvL H [] []
  | cons {x y:AV} {xs ys:List AV} (h:Cv H x y) (t:CvL H xs ys):CvL H (x :: xs) (y :: ys)
theorem CvL.refl {H:AH}:∀ (xs:List AV),CvL H xs xs
  | []=>.nil
  | x :: r=>.cons (.refl x) (CvL.refl r)
theorem CvL.get {H:AH} {xs ys:List AV} (h:CvL H xs ys):xs.length=ys.length∧∀ (i:Nat) (y:AV),ys[i]?=some y→∃ x,xs[i]?=some x∧Cv H x y:=by
  induction h with
  | nil=>simp
  | cons h t ih =>
    refine ⟨by simp [ih.1],fun i y hy=>?_⟩
    cases i with
    | zero=>simp at hy;subst hy;exact ⟨_,rfl,h⟩
    | succ i=>obtain ⟨x,h1,h2⟩:=ih.2 i y (by simpa using hy);exact ⟨x,by simpa using h1,h2⟩
inductive CvLL (H:AH):List (List AV)→List (List AV)→Prop
  | nil:CvLL H [] []
  | cons {x y:List AV} {xs ys:List (List AV)} (h:CvL H x y) (t:CvLL H xs ys):CvLL H (x :: xs) (y :: ys)
theorem CvLL.refl {H:AH}:∀ (xs:List (List AV)),CvLL H xs xs
  | []=>.nil
  | x :: r=>.cons (.refl x) (CvLL.refl r)
theorem CvLL.get {H:AH} {xs ys:List (List AV)} (h:CvLL H xs ys):xs.length=ys.length∧∀ (i:Nat) (y:List AV),ys[i]?=some y→∃ x,xs[i]?=some x∧CvL H x y:=by
  induction h with
  | nil=>simp
  | cons h t ih =>
    refine ⟨by simp [ih.1],fun i y hy=>?_⟩
    cases i with
    | zero=>simp at hy;subst hy;exact ⟨_,rfl,h⟩
    | succ i=>obtain ⟨x,h1,h2⟩:=ih.2 i y (by simpa using hy);exact ⟨x,by simpa using h1,h2⟩
theorem CvL.agg {H:AH} {xs ys:List AV} (h:CvL H xs ys):Cv H (.agg xs) (.agg ys):=fun s hs v hv=>by
  obtain ⟨h1,h2⟩:=h.get
  cases hv with
  | agg hl hv=>exact .agg (h1 ▸ hl) fun i y u hy hu=>let ⟨x,q1,q2⟩:=h2 i y hy;q2 s hs u (hv i x u q1 hu)
theorem CvL.tup {H:AH} {xs ys:List AV} (h:CvL H xs ys):Cv H (.tup xs) (.tup ys):=fun s hs v hv=>by
  obtain ⟨h1,h2⟩:=h.get
  cases hv with
  | tup hl hv=>exact .tup (h1 ▸ hl) fun i y u hy hu=>let ⟨x,q1,q2⟩:=h2 i y hy;q2 s hs u (hv i x u q1 hu)
theorem CvL.fn {H:AH} {f:Fn} {xs ys as bs:List AV} (h:CvL H xs ys) (k:CvL H as bs):Cv H (.fn f xs as) (.fn f ys bs):=fun s hs v hv=>by
  obtain ⟨h1,h2⟩:=h.get
  obtain ⟨k1,k2⟩:=k.get
  cases hv with
  | fn hl hl' hv hv' =>
    exact .fn (h1 ▸ hl) (k1 ▸ hl') (fun i y u hy hu=>let ⟨x,q1,q2⟩:=h2 i y hy;q2 s hs u (hv i x u q1 hu)) (fun i y u hy hu=>let ⟨x,q1,q2⟩:=k2 i y hy;q2 s hs u (hv' i x u q1 hu))
theorem CvL.all {H:AH} {xs ys:List AV} (h:CvL H xs ys) {s:Sit} (hs:HR s H) {vs:Array Value} (ha:AllR s xs vs):AllR s ys vs:=by
  obtain ⟨h1,h2⟩:=h.get
  exact ⟨h1 ▸ ha.1,fun i y u hy hu=>let ⟨x,q1,q2⟩:=h2 i y hy;q2 s hs u (ha.2 i x u q1 hu)⟩
theorem Cv.sl {H:AH} {id ver off len:Nat} {ob:AObj} {rows:List (List AV)} (ho:H id=some ob) (hver:ob.ver=ver) (hmt:ob.mt=false) (hr:CvLL H ob.rows rows) (hl:off+len≤rows.length) :
    Cv H (.sl id ver off len) (.list ob.sz ((rows.drop off).take len)):=fun s hs v hv=>by
  obtain ⟨m,hm⟩:=hs.obj id ob ho
  obtain ⟨r1,r2⟩:=hr.get
  have hlen:((rows.drop off).take len).length=len:=by simp;omega
  cases hv with
  | sl hk h1 h =>
    have hh:=h m hm.hm (hm.hver.trans hver)
    rcases hm.body with ⟨hn,he⟩ | ⟨cur,fr,hb⟩
    · obtain ⟨q1,q2⟩:=hh.1 hn
      subst q1 q2
      simpa using VR.nil ob.sz
    · obtain ⟨cap,q1,q2,q3⟩:=hh.2 hb.hnil
      subst q1
      have get:∀ (i:Nat) (r:List AV),((rows.drop off).take len)[i]?=some r→i<len∧rows[off+i]?=some r:=fun i r hir=>by
        have hi:=(List.getElem?_eq_some_iff.1 hir).1
        rw [hlen] at hi
        rw [List.getElem?_take_of_lt hi,List.getElem?_drop] at hir
        exact ⟨hi,hir⟩
      have cell:∀ (i:Nat) (r:List AV) (j:Nat) (x:AV),((rows.drop off).take len)[i]?=some r→r[j]?=some x→∃ u,s.w.cell? ⟨m.b,off*m.sz+i*ob.sz+j,none⟩=some u∧VR s x u:=by
        intro i r j x hir hx
        obtain ⟨hi,hrr⟩:=get i r hir
        obtain ⟨r0,g1,g2⟩:=r2 _ _ hrr
        obtain ⟨_,g3⟩:=g2.get
        obtain ⟨x0,g4,g5⟩:=g3 j x hx
        obtain ⟨u,g6,g7⟩:=hb.rd g1 j x0 g4
        exact ⟨u,by rw [← g6,hm.hsz,← Nat.add_mul],g5 s hs u g7⟩
      have:=VR.list (s:=s) (sz:=ob.sz) (xs:=(rows.drop off).take len) (b:=m.b) (off:=off*m.sz) (cap:=cap)
        (fun i j=>(s.w.cell? ⟨m.b,off*m.sz+i*ob.sz+j,none⟩).getD undef) (hb.him hmt) (by rw [hlen];exact q2) (by have:=hb.hct;omega)
        (fun i r hir=>by
          obtain ⟨_,hrr⟩:=get i r hir
          obtain ⟨r0,g1,g2⟩:=r2 _ _ hrr
          rw [← g2.get.1];exact hb.hr _ _ g1)
        (fun i r j x hir hx=>by obtain ⟨u,g1,_⟩:=cell i r j x hir hx;simp [g1])
        (fun i r j x hir hx=>by obtain ⟨u,g1,g2⟩:=cell i r j x hir hx;simp [g1,g2])
      rw [hlen] at this
      exact this
theorem Cv.pt {H:AH} {id ver row off:Nat} {ob:AObj} {r r':List AV} (ho:H id=some ob) (hver:ob.ver=ver) (hmt:ob.mt=false) (hr:ob.rows[row]?=some r) (hc:CvL H r r') :
    Cv H (.pt id ver row off) (.pp (r'.drop off)):=fun s hs v hv=>by
  obtain ⟨m,hm⟩:=hs.obj id ob ho
  rcases hm.body with ⟨_,he⟩ | ⟨cur,fr,hb⟩
  · rw [he] at hr;simp at hr
  · cases hv with
    | pt hk h1 h =>
      rw [h m hm.hm (hm.hver.trans hver) hb.hnil]
      refine Rd.pp (hb.him hmt) ?_
      rw [hm.hsz]
      refine Rd.drop (cs:=r') (fun j x hx=>?_) off
      obtain ⟨x0,g1,g2⟩:=hc.get.2 j x hx
      obtain ⟨u,g3,g4⟩:=hb.rd hr j x0 g1
      exact ⟨u,g3,g2 s hs u g4⟩
def frzH (H:AH):AH:=fun i=>(H i).map fun ob=>{ ob with mt:=false }
def frzS (s:Sit) (H:AH):Sit:={ s with Im:=fun b=>s.Im b∨Owned s H b }
theorem frz_vr {s:Sit} {H:AH} {x:AV} {v:Value} (h:VR s x v):VR (frzS s H) x v :=
  VR.mono (s:=s) (s':=frzS s H) (fun _ hi=>⟨.inl hi,rfl⟩) (fun _ _ h=>.inl h) (fun _ h=>h) h
theorem frz_hr {s:Sit} {H:AH} (hH:HR s H):HR (frzS s H) (frzH H):=by
  refine ⟨fun id o ho=>?_,fun i i' o o' m m' h1 h2 a b c d e=>?_,fun b hb=>?_,hH.fin⟩
  · unfold frzH at ho
    cases h:H id with
    | none=>rw [h] at ho;cases ho
    | some ob =>
      rw [h] at ho
      cases ho
      obtain ⟨m,hm⟩:=hH.obj id ob h
      refine ⟨m,⟨hm.hm,hm.hver,hm.hsz,hm.hk,?_⟩⟩
      rcases hm.body with hb | ⟨cur,fr,hb⟩
      · exact .inl hb
      · refine .inr ⟨cur,fr,⟨hb.hnil,hb.hb,hb.hfr,hb.happ,hb.hcs,hb.hct,hb.hlen,hb.hr,fun i r j x v a b c=>frz_vr (hb.hv i r j x v a b c),hb.h1,fun _=>?_,fun h=>by cases h⟩⟩
        cases hmt:ob.mt with
        | false=>exact .inl (hb.him hmt)
        | true=>exact .inr ⟨id,ob,m,h,hmt,hm.hm,hb.hnil,rfl⟩
  · unfold frzH at h1 h2
    cases g1:H i with
    | none=>rw [g1] at h1;cases h1
    | some ob =>
      cases g2:H i' with
      | none=>rw [g2] at h2;cases h2
      | some ob'=>exact hH.uniq i i' ob ob' m m' g1 g2 a b c d e
  · rcases hb with hb | ⟨i,o,m,h1,h2,h3,h4,h5⟩
    · exact hH.im b hb
    · obtain ⟨m1,hm1⟩:=hH.obj i o h1
      have:=hm1.hm;rw [h3] at this;cases this
      rcases hm1.body with ⟨h,_⟩ | ⟨cur,fr,hb⟩
      · rw [h4] at h;cases h
      · rw [← h5];exact (Array.getElem?_eq_some_iff.1 hb.hb).1
theorem pp_of_pc {f:FuncId} {args:List AV} {R0:AV→AH→Prop} {R:AV→Prop} (h:PC P f args H0 R0) (hr:∀ y H,R0 y H→∃ y',R y'∧PV y'∧Cv (frzH H) y y'):PP P f args R:=by
  intro s vs him hfn ha
  refine (h s vs (hr0 him hfn) ha).mono ?_
  rintro e w' ⟨y,H',s',v,h1,rfl,rfl,h4,h5,h6⟩
  obtain ⟨y',g1,g2,g3⟩:=hr y H' h1
  have hno:∀ b,¬ Owned s H0 b:=fun b ⟨_,_,_,h,_⟩=>(by cases h)
  refine ⟨y',frzS s' H',v,g1,g2,rfl,rfl,g3 _ (frz_hr h5) v (frz_vr h4),(frz_hr h5).im,⟨h6.os,h6.tape,h6.output,h6.size,h6.keep,fun b hb=>.inl (h6.imk b hb),fun b hb ho hi=>?_,fun b _ ⟨_,_,_,h,_⟩=>(by cases h),fun x v hx=>frz_vr (h6.vals x v hx),h6.usd⟩⟩
  rcases hi with hi | hi
  · exact h6.imo b hb ho hi
  · exact absurd (h6.own b hb hi) (hno b)
theorem yl_callP {o:Oper} {fo:Operand} {as:List Operand} {ts:Array TypeId} {k:FuncId} {first cap vs args:List AV} {R:AV→Prop} (ho:o.op=.call { callee:=.value fo,args:=as.toArray,argTypes:=ts })
    (hf:S.ev fo=some (.fn (.func k) first cap)) (ha:EvL S as vs) (hc:cal P k=true) (hcv:CvL S.hp (first++vs++cap) args) (hp:PP P k args R):Yield P o S no no (fun y H'=>R y∧H'=S.hp):=by
  intro s a next Q hH hops _ hn
  obtain ⟨us,h1,h2⟩:=run_call (P:=P) ho hf ha hc hops
  unfold Oper.wp
  rw [h2]
  refine (hp s us hH.im hH.fin (hcv.all hH h1)).mono ?_
  rintro e w' ⟨y,s',v,q1,q2,rfl,rfl,q4,q5,q6⟩
  let s2:Sit:={ w:=s'.w,Im:=s'.Im,mu:=s.mu,used:=s.used }
  have hno:∀ b,¬ Owned s H0 b:=fun b ⟨_,_,_,h,_⟩=>(by cases h)
  have hmono:∀ x v,VR s x v→VR s2 x v:=fun x v h=>VR.mono (s:=s) (s':=s2) (fun b hi=>⟨q6.imk b hi,q6.keep b (hH.im b hi) (hno b)⟩) (fun _ _ h=>.inl h) (fun _ h=>h) h
  refine hn s2 v y S.hp ⟨q1,rfl⟩ (PV.vr (s:=s') (s':=s2) rfl (fun _ h=>h) q4 q2) ⟨fun id ob hob=>?_,hH.uniq,q5,hH.fin⟩
    ⟨q6.os,q6.tape,q6.output,q6.size,fun b hb _=>q6.keep b hb (hno b),q6.imk,fun b hb _ hi=>q6.imo b hb (hno b) hi,fun b _ h=>h,hmono,fun _ h=>h⟩ (fun _ h=>.inl h)
  obtain ⟨m,hm⟩:=hH.obj id ob hob
  refine ⟨m,⟨hm.hm,hm.hver,hm.hsz,hm.hk,?_⟩⟩
  rcases hm.body with hb | ⟨cur,fr,hb⟩
  · exact .inl hb
  · have hlt:m.b<s.w.heap.size:=(Array.getElem?_eq_some_iff.1 hb.hb).1
    exact .inr ⟨cur,fr,⟨hb.hnil,(q6.keep m.b hlt (hno _)).trans hb.hb,hb.hfr,hb.happ,hb.hcs,hb.hct,hb.hlen,hb.hr,fun i r j x v a b c=>hmono _ _ (hb.hv i r j x v a b c),hb.h1,
      fun h=>q6.imk _ (hb.him h),fun h hi=>hb.hnim h (q6.imo m.b hlt (hno _) hi)⟩⟩
theorem fr_freeze {s:Sit} {H:AH} (hH:HR s H) (id:Nat) {ob:AObj} (ho:H id=some ob) :
    ∃ s',s'.w=s.w∧HR s' (upd H id (some { ob with mt:=false }))∧Fr s H s' (upd H id (some { ob with mt:=false })):=by
  cases hmt:ob.mt with
  | false =>
    refine ⟨s,rfl,?_⟩
    have:upd H id (some { ob with mt:=false })=H:=by
      funext i
      by_cases hi:i=id
      · subst hi;rw [upd_same,ho,← hmt]
      · rw [upd_ne _ _ hi]
    rw [this]
    exact ⟨hH,Fr.refl _ _⟩
  | true =>
    obtain ⟨m,hm⟩:=hH.obj id ob ho
    let s':Sit:={ s with Im:=fun b=>s.Im b∨(b=m.b∧m.nil=false) }
    have hmono:∀ x v,VR s x v→VR s' x v:=fun x v h=>VR.mono (s:=s) (s':=s') (fun _ hi=>⟨.inl hi,rfl⟩) (fun _ _ h=>.inl h) (fun _ h=>h) h
    have hown:m.nil=false→Owned s H m.b:=fun h=>⟨id,ob,m,ho,hmt,hm.hm,h,rfl⟩
    have hlt:m.nil=false→m.b<s.w.heap.size:=fun h=>by
      rcases hm.body with ⟨h',_⟩ | ⟨cur,fr,hb⟩
      · rw [h] at h';cases h'
      · exact (Array.getElem?_eq_some_iff.1 hb.hb).1
    refine ⟨s',rfl,⟨fun i o' ho'=>?_,fun i i' o1 o2 m1 m2 h1 h2 a b c d e=>?_,fun b hb=>?_,hH.fin⟩,⟨rfl,rfl,rfl,Nat.le_refl _,fun _ _ _=>rfl,fun _ h=>.inl h,fun b hb hno hi=>?_,fun b hb h=>?_,hmono,fun _ h=>h⟩⟩
    · by_cases hi:i=id
      · subst hi
        rw [upd_same] at ho';cases ho'
        refine ⟨m,⟨hm.hm,hm.hver,hm.hsz,hm.hk,?_⟩⟩
        rcases hm.body with hb | ⟨cur,fr,hb⟩
        · exact .inl hb
        · exact .inr ⟨cur,fr,⟨hb.hnil,hb.hb,hb.hfr,hb.happ,hb.hcs,hb.hct,hb.hlen,hb.hr,fun i r j x v a b c=>hmono _ _ (hb.hv i r j x v a b c),hb.h1,fun _=>.inr ⟨rfl,hb.hnil⟩,fun h=>by cases h⟩⟩
      · rw [upd_ne _ _ hi] at ho'
        obtain ⟨m2,hm2⟩:=hH.obj i o' ho'
        refine ⟨m2,⟨hm2.hm,hm2.hver,hm2.hsz,hm2.hk,?_⟩⟩
        rcases hm2.body with hb | ⟨cur,fr,hb⟩
        · exact .inl hb
        · exact .inr ⟨cur,fr,⟨hb.hnil,hb.hb,hb.hfr,hb.happ,hb.hcs,hb.hct,hb.hlen,hb.hr,fun i r j x v a b c=>hmono _ _ (hb.hv i r j x v a b c),hb.h1,fun h=>.inl (hb.him h),fun h hi'=>by
            rcases hi' with h' | ⟨h',hn⟩
            · exact hb.hnim h h'
            · exact hi (hH.uniq i id o' ob m2 m ho' ho hm2.hm hm.hm hb.hnil hn h')⟩⟩
    · have conv:∀ i o',upd H id (some { ob with mt:=false }) i=some o'→∃ o'',H i=some o'':=by
        intro i o' h
        by_cases hi:i=id
        · subst hi;exact ⟨ob,ho⟩
        · rw [upd_ne _ _ hi] at h;exact ⟨o',h⟩
      obtain ⟨o1',g1⟩:=conv i o1 h1
      obtain ⟨o2',g2⟩:=conv i' o2 h2
      exact hH.uniq i i' o1' o2' m1 m2 g1 g2 a b c d e
    · rcases hb with hb | ⟨rfl,hn⟩
      · exact hH.im b hb
      · exact hlt hn
    · rcases hi with hi | ⟨rfl,hn⟩
      · exact hi
      · exact absurd (hown hn) hno
    · obtain ⟨i,o',m',q1,q2,q3,q4,q5⟩:=h
      by_cases hi:i=id
      · subst hi;rw [upd_same] at q1;cases q1;cases q2
      · rw [upd_ne _ _ hi] at q1
        exact ⟨i,o',m',q1,q2,q3,q4,q5⟩
theorem rg_freeze {ops todo:List Oper} {K:AS→Prop} (id:Nat) {ob:AObj} (ho:S.hp id=some ob) (h:Rg P n ops todo { S with hp:=upd S.hp id (some { ob with mt:=false }) } K):Rg P n ops todo S K:=by
  intro k hk s a hs
  obtain ⟨s',g1,g2,g3⟩:=fr_freeze hs.heap id ho
  have:=h k hk s' a (hs.fr g2 g3)
  rw [g1] at this
  refine wpOps_mono' ?_ _ _ _ this
  rintro e a' w' ⟨rfl,S2,s2,q1,q2,q3,q4⟩
  exact ⟨rfl,S2,s2,q1,q2,q3,g3.trans q4⟩
theorem tr_freeze {c:Code} {Q:Go.Exit→AS→Prop} (id:Nat) {ob:AObj} (ho:S.hp id=some ob) (h:Tr P n c { S with hp:=upd S.hp id (some { ob with mt:=false }) } Q):Tr P n c S Q:=by
  intro s a hs
  obtain ⟨s',g1,g2,g3⟩:=fr_freeze hs.heap id ho
  have:=h s' a (hs.fr g2 g3)
  rw [g1] at this
  refine wpA_mono this ?_
  rintro e a' w' ⟨S2,s2,q1,q2,q3,q4⟩
  exact ⟨S2,s2,q1,q2,q3,g3.trans q4⟩
theorem rg_cv {ops todo:List Oper} {K:AS→Prop} {x:AV} (y:AV) (t:Nat) (h:S.sl t=some x) (hc:Cv S.hp x y) (h1:Rg P n ops todo (S.put (some t) y) K):Rg P n ops todo S K:=by
  intro k hk s a hs
  refine h1 k hk s a ⟨hs.size,hs.defers,fun i z hz=>?_,hs.heap⟩
  by_cases hi:i=t
  · subst hi;rw [AS.put_sl,upd_same] at hz;cases hz
    obtain ⟨v,g1,g2⟩:=hs.slot i _ h
    exact ⟨v,g1,hc s hs.heap v g2⟩
  · rw [AS.put_sl,upd_ne _ _ hi] at hz;exact hs.slot i z hz
inductive ResA (P:Program) (S:AS):List ResultVar→List AV→Prop
  | nil:ResA P S [] []
  | tmp {t:Tmp} {v:AV} {rs:List ResultVar} {vs:List AV} (h:S.sl t=some v) (r:ResA P S rs vs):ResA P S (.tmp t :: rs) (v :: vs)
  | cell {t:Tmp} {T k:Nat} {b:Bool} {p v:AV} {cs:List AV} {rs:List ResultVar} {vs:List AV} (h:S.sl t=some p) (hp:PRd S p cs) (hT:tySh P T=some (k,b)) (hv:cellsV k b cs=some v) (r:ResA P S rs vs):ResA P S (.cell t T :: rs) (v :: vs)
def oneOrTup:List AV→AV
  | [v]=>v
  | vs=>.tup vs
def resOne (tmps:Array Value):ResultVar→Sem Value
  | .tmp t=>pure (tmps.getD t undef)
  | .cell a t=>do loadVar t (← asAddr (tmps.getD a undef))
theorem results_eq (fn:Func) (tmps:Array Value):results fn tmps=(do let vs ← fn.results.mapM (resOne tmps);pure (if h:vs.size=1 then vs[0] else .tuple vs)):=by
  unfold results
  congr 1
theorem ResA.run {s:Sit} {a:Act} {rs:List ResultVar} {vs:List AV} (h:ResA P S rs vs) (hs:SR n s S a) :
    ∃ us:List Value,us.length=vs.length∧(∀ (i:Nat) (x:AV) (v:Value),vs[i]?=some x→us[i]?=some v→VR s x v) ∧
      (rs.mapM (resOne a.tmps)).run P s.w=.ok us s.w:=by
  induction h with
  | nil=>exact ⟨[],rfl,by simp,rfl⟩
  | tmp h r ih =>
    obtain ⟨us,h1,h2,h3⟩:=ih
    obtain ⟨v,g1,g2⟩:=hs.slot _ _ h
    refine ⟨v :: us,by simp [h1],fun i x u a b=>?_,?_⟩
    · cases i with
      | zero=>simp at a b;subst a b;exact g2
      | succ i=>exact h2 i x u (by simpa using a) (by simpa using b)
    · simp only [List.mapM_cons,resOne,Sem.run_bind,Sem.run_pure,Result.andThen_ok,h3]
      simp [g1]
  | @cell t0 T0 k0 b0 p0 v0 cs0 rs0 vs0 h hp hT hv r ih =>
    obtain ⟨us,h1,h2,h3⟩:=ih
    obtain ⟨v,g1,g2⟩:=hs.slot _ _ h
    obtain ⟨b,o,e1,e2⟩:=hp.rd hs.heap g2
    obtain ⟨u,e3,e4⟩:=run_loadVar' hT e2 hv
    refine ⟨u :: us,by simp [h1],fun i x u a b=>?_,?_⟩
    · cases i with
      | zero=>simp at a b;subst a b;exact e3
      | succ i=>exact h2 i x u (by simpa using a) (by simpa using b)
    · have:a.tmps.getD t0 undef=.pointer (some ⟨b,o,none⟩):=by simp [g1,e1]
      simp only [List.mapM_cons,resOne,Sem.run_bind,this,asAddr,Sem.run_pure,Result.andThen_ok,e4,h3]
theorem pc_of {f:FuncId} {fn:Func} {c:Code} {args:List AV} {H:AH} {R:AV→AH→Prop} (hf:P.funcs[f]?=some fn) (hb:fn.body=some c) (hle:args.length≤fn.ntmps)
    (h:Tr P ⟨fn.ntmps,false,[]⟩ c ⟨fun t=>args[t]?,H⟩ (fun e S'=>(e=.normal∨e=.ret)∧∃ vs H2,ResA P S' fn.results.toList vs∧(∀ t v,H2 t=some v→S'.hp t=some v)∧R (oneOrTup vs) H2)):PC P f args H R:=by
  intro s vs hH ha
  refine calls_of_wpA hf hb ?_
  have hs:SR ⟨fn.ntmps,false,[]⟩ s ⟨fun t=>args[t]?,H⟩ { tmps:=vs++Array.replicate (fn.ntmps-vs.size) undef,defers:=[] }:=by
    refine ⟨by simp [← ha.1];omega,rfl,fun t x hx=>?_,hH⟩
    have ht:t<vs.size:=by rw [← ha.1];exact (List.getElem?_eq_some_iff.1 hx).1
    exact ⟨vs[t],by simp [Array.getElem?_append_left ht,ht],ha.2 t x _ hx (by simp [ht])⟩
  refine wpA_mono (h s _ hs) ?_
  rintro e a w' ⟨S',s',rfl,⟨he,us,H2,hr,hsub,hR⟩,hs',hf'⟩
  obtain ⟨xs,h1,h2,h3⟩:=hr.run hs'
  have hres:∃ v,VR s' (oneOrTup us) v∧(results fn a.tmps).run P s'.w=.ok v s'.w:=by
    have hrun:(fn.results.mapM (resOne a.tmps)).run P s'.w=.ok xs.toArray s'.w:=by
      rw [Array.mapM_eq_mapM_toList]
      simp only [Sem.run_map,h3,Result.andThen_ok]
    rw [results_eq,Sem.run_bind,hrun]
    simp only [Result.andThen_ok]
    match us,xs,h1,h2 with
    | [u],[x],_,h2=>exact ⟨x,h2 0 u x rfl rfl,rfl⟩
    | [],[],_,_=>exact ⟨.tuple #[],.tup rfl (by simp),rfl⟩
    | u1 :: u2 :: ur,x1 :: x2 :: xr,h1,h2=>exact ⟨.tuple (x1 :: x2 :: xr).toArray,.tup (by simpa using h1.symm) (by simpa using h2),by simp⟩
  obtain ⟨v,g1,g2⟩:=hres
  have hH2:HR s' H2:=⟨fun id o ho=>hs'.heap.obj id o (hsub id o ho),fun i i' o o' m m' a b=>hs'.heap.uniq i i' o o' m m' (hsub _ _ a) (hsub _ _ b),hs'.heap.im,hs'.heap.fin⟩
  have hfr:Fr s H s' H2:=⟨hf'.os,hf'.tape,hf'.output,hf'.size,hf'.keep,hf'.imk,hf'.imo,fun b hb ⟨id,o,m,a,r⟩=>hf'.own b hb ⟨id,o,m,hsub _ _ a,r⟩,hf'.vals,hf'.usd⟩
  rcases he with rfl | rfl
  · exact ⟨hs'.defers,v,g2,_,_,s',v,hR,rfl,rfl,g1,hH2,hfr⟩
  · exact ⟨hs'.defers,v,g2,_,_,s',v,hR,rfl,rfl,g1,hH2,hfr⟩
end
end Go.Pv
