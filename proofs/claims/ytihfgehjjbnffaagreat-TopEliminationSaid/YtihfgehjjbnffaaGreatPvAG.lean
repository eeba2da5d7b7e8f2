import Derived.Test.YtihfgehjjbnffaaGreatPvAD
import Derived.ChangeKeysEq
set_option linter.unusedVariables false
set_option linter.unusedSimpArgs false
namespace Go.Pv
section
variable {P:Program} {n:NT} {S:AS} {o:Oper} {T:TypeId} {x y z:Operand}
theorem I9 {kk:IntKind} {a b c r:Int} {ts:Array TypeId} (ho:o.op=.call { callee:=.builtin .max,args:=#[x,y,z],argTypes:=ts }) (hx:S.ev x=some (.sc (.int kk a))) (hy:S.ev y=some (.sc (.int kk b))) (hz:S.ev z=some (.sc (.int kk c)))
    (hr:(if c>(if b>a then b else a) then c else (if b>a then b else a))=r):bW P o S (.sc (.int kk r)) :=
  iV λs ρ _ h=>⟨_,.sc _,by
    have h1:=(h x (by simp [ho,Op.operands,Call.operands]) _ hx).fF
    have h2:=(h y (by simp [ho,Op.operands,Call.operands]) _ hy).fF
    have h3:=(h z (by simp [ho,Op.operands,Call.operands]) _ hz).fF
    subst hr;simp [execOp,ho,h1,h2,h3,resolve,invoke,builtin,Builtin.max_,Builtin.max2]⟩
theorem aK3 {t tx:TypeId} {ms:Array (String×TypeId)} (hT:P.underlying t=some (.interface ms)) (v:Value) (w:World):(Op.equal t (.iface tx v) .nilIface).run P w=.ok false w:=by
  unfold Op.equal Op.maxDepth
  rw [Op.equalIn]
  simp only [Sem.run_bind,run_underlying hT,Result.andThen_ok,Sem.run_pure]
theorem aKQ {t:TypeId} {ms:Array (String×TypeId)} (hT:P.underlying t=some (.interface ms)) (w:World):(Op.equal t .nilIface .nilIface).run P w=.ok true w:=by
  unfold Op.equal Op.maxDepth
  rw [Op.equalIn]
  simp only [Sem.run_bind,run_underlying hT,Result.andThen_ok,Sem.run_pure]
theorem JX {s:Sit} {t:TypeId} {v:AV} {u:Value} (h:VR s (.gB t v) u):∃ u',u=.iface t u'/\VR s v u':=by cases h with | gB h=>exact ⟨_,rfl,h⟩
theorem rX {Ty:TypeId} {ms:Array (String×TypeId)} {t:TypeId} {v:AV} (ho:o.op=.binOp .eql T x y Ty) (hT:P.underlying T=some (.interface ms)) (hx:S.ev x=some (.gB t v)) (hy:S.ev y=some (.sc .nilIface)):bW P o S (aI false) :=
  iV λs ρ _ h=>⟨_,.sc _,by
    obtain ⟨u,h1,_⟩:=JX (h x (by simp [ho,Op.operands]) _ hx)
    have h2:=(h y (by simp [ho,Op.operands]) _ hy).fF
    simp [execOp,ho,h1,h2,eqGuard,binOp,aK3 hT]⟩
theorem OF {Ty:TypeId} {ms:Array (String×TypeId)} {c:Value} (ho:o.op=.binOp .eql T x (.const c) Ty) (hT:P.underlying T=some (.interface ms)) (hx:S.ev x=some (.sc .nilIface)) (hc:c=.nilIface):bW P o S (aI true) :=
  iV λs ρ _ h=>⟨_,.sc _,by
    have h1:=(h x (by simp [ho,Op.operands]) _ hx).fF
    have h2:ρ (.const c)=.nilIface:=by
      have:=(h (.const c) (by simp [ho,Op.operands]) (.sc c) rfl).fF
      rw [this,hc]
    simp [execOp,ho,h1,h2,eqGuard,binOp,aKQ hT]⟩
def Y7:TypeDesc->Bool
  | .pointer _=>true
  | _=>false
def qE (P:Program) (t:TypeId) (nm:String):Option FuncId :=
  match P.info? t,P.underlying t with
  | some i,some d =>
    match i.methods.find? (·.name == nm) with
    | some m=>if m.path.isEmpty && !Y7 d then (match m.func with
      | some (f,false)=>some f
      | _=>none) else none
    | none=>none
  | _,_=>none
theorem aLE {t:TypeId} {nm:String} {f:FuncId} (h:qE P t nm=some f) (v:Value) (k:Nat) (w:World):(method (k+1) t v nm).run P w=.ok (f,v) w:=by
  unfold qE at h
  split at h
  · rename_i i d hi hd
    split at h
    · rename_i m hm
      split at h
      · rename_i hp
        simp only [Bool.and_eq_true,Bool.not_eq_true'] at hp
        have hp':m.path.toList=[]:=by simpa using hp.1
        rw [method]
        simp only [Sem.run_bind,run_typeInfo _ hi,Result.andThen_ok,hm,hp',follow,Sem.run_pure]
        split at h
        · rename_i f' hf
          cases h
          simp only [hf,receiverAt,Sem.run_bind,run_underlying hd,Result.andThen_ok]
          cases d <;> first | (simp [Place.get];done) | (simp [Y7] at hp;done)
        · cases h
      · cases h
    · cases h
  · cases h
theorem aKZ {r:Operand} {nm:String} {as:List Operand} {ts:Array TypeId} {k:FuncId} {t:TypeId} {v:AV} {vs:List AV} {s:Sit} {ρ:Operand->Value} (ho:o.op=.call { callee:=.invoke r nm,args:=as.toArray,argTypes:=ts })
    (hr:S.ev r=some (.gB t v)) (hm:qE P t nm=some k) (ha:EvL S as vs) (hc:bC P k=true) (h:∀ x∈o.op.operands,∀ av,S.ev x=some av->VR s av (ρ x)) :
    ∃ us,mU s (v :: vs) us/\(execOp ρ o).run P s.w=.ok (.enter k us) s.w:=by
  obtain ⟨u,hu,hv⟩:=JX (h r (by simp [ho,Op.operands,Call.operands]) _ hr)
  obtain ⟨a1,a2⟩:=ha.val (s:=s) (ρ:=ρ) λq hq=>h q (by simp [ho,Op.operands,Call.operands,hq])
  refine ⟨#[u]++(as.map ρ).toArray,?_,?_⟩
  · have h1:mU s [v] #[u]:=⟨rfl,λi x w hx hw=>by
      cases i with
      | zero=>simp at hx hw;subst hx hw;exact hv
      | succ i=>simp at hx⟩
    exact h1.append ⟨by simp [a1],by simpa using a2⟩
  · have hd:P.types.size+Made.depth=(P.types.size+99)+1:=rfl
    have hx:(#[Value.iface t u]++(as.map ρ).toArray).extract 1 (#[Value.iface t u]++(as.map ρ).toArray).size=(as.map ρ).toArray:=by
      apply Array.ext'
      simp
      exact List.take_of_length_le (by simp)
    have hprog:program.run P s.w=.ok P s.w:=rfl
    simp only [execOp,ho,resolve,List.map_toArray,hu,Sem.run_bind,Sem.run_pure,Result.andThen_ok,invoke]
    rw [show (#[Value.iface t u]++(as.map ρ).toArray)[0]?=some (.iface t u) from by simp]
    simp only [callMethod,Sem.run_bind,hprog,Result.andThen_ok,hd,aLE hm]
    rw [hx]
    exact LH hc _ _
theorem aKR {r:Operand} {nm:String} {as:List Operand} {ts:Array TypeId} {k:FuncId} {t:TypeId} {v:AV} {vs:List AV} {R:AV->AH->Prop} (ho:o.op=.call { callee:=.invoke r nm,args:=as.toArray,argTypes:=ts })
    (hr:S.ev r=some (.gB t v)) (hm:qE P t nm=some k) (ha:EvL S as vs) (hc:bC P k=true) (hp:PC P k (v :: vs) S.hp R):bY P o S no any R:=by
  intro s a next Q hH hops _ hn
  obtain ⟨us,h1,h2⟩:=aKZ (P:=P) ho hr hm ha hc hops
  unfold Oper.wp
  rw [h2]
  exact (hp s us hH h1).mono λe w' ⟨y,H',s',v,q1,q2,q3,q4,q5,q6⟩=>by subst q2 q3;exact hn s' v y H' q1 q4 q5 q6 (λ_ _=>.inr trivial)
def DC:TypeDesc->Bool
  | .interface _=>false
  | _=>true
theorem aEX {t:TypeId} {d:TypeDesc} {v:AV} (ho:o.op=.typeAssert x T t true) (hT:P.underlying t=some d) (hd:DC d=true) (hx:S.ev x=some (.gB t v)):bW P o S (.bD [v,aI true]) :=
  iV λs ρ _ h=>by
    obtain ⟨u,hu,hv⟩:=JX (h x (by simp [ho,Op.operands]) _ hx)
    refine ⟨.tuple #[u,.bool true],.bD rfl λi y w hy hw=>?_,?_⟩
    · cases i with
      | zero=>simp at hy hw;subst hy hw;exact hv
      | succ i=>cases i with
        | zero=>simp at hy hw;subst hy hw;exact .sc _
        | succ i=>simp at hy
    · simp only [execOp,ho,hu,Instr.typeAssert,Sem.run_bind,run_underlying hT,Result.andThen_ok]
      cases d <;> first | (simp [DC] at hd;done) | simp [Instr.typeAssert]
def HY (P:Program) (t:TypeId):Bool :=
  match (P.info? t).bind (·.zero) with
  | some (.agg cs)=>cs.isEmpty
  | _=>false
theorem aKX {t:TypeId} (h:HY P t=true) (w:World):(zeroValue t).run P w=.ok (.agg #[]) w:=by
  unfold HY at h
  cases hi:P.info? t with
  | none=>rw [hi] at h;simp at h
  | some i =>
    rw [hi] at h
    simp only [Option.bind_some] at h
    split at h
    · rename_i cs hz
      have:cs=#[]:=by simpa using h
      subst this
      simp [zeroValue,typeInfo,program,Sem.run,hi,hz]
    · cases h
theorem KD {t tx:TypeId} {d:TypeDesc} {v:AV} (ho:o.op=.typeAssert x T t true) (hT:P.underlying t=some d) (hd:DC d=true) (hx:S.ev x=some (.gB tx v)) (hne:Nat.beq tx t=false)
    (hz:HY P t=true):bW P o S (.bD [.agg [],aI false]) :=
  iV λs ρ _ h=>by
    obtain ⟨u,hu,hv⟩:=JX (h x (by simp [ho,Op.operands]) _ hx)
    have hne':tx≠t:=Nat.ne_of_beq_eq_false hne
    refine ⟨.tuple #[.agg #[],.bool false],.bD rfl λi y w hy hw=>?_,?_⟩
    · cases i with
      | zero=>simp at hy hw;subst hy hw;exact .agg rfl λi y w hy=>by simp at hy
      | succ i=>cases i with
        | zero=>simp at hy hw;subst hy hw;exact .sc _
        | succ i=>simp at hy
    · simp only [execOp,ho,hu,Instr.typeAssert,Sem.run_bind,run_underlying hT,Result.andThen_ok]
      cases d <;> first | (simp [DC] at hd;done) | simp [Instr.typeAssert,hne',aKX hz]
theorem VV {e N id aN:Nat} {b:Bool} {ob:bH} {kk:IntKind} {i:Int} {r:List AV} (ho:o.op=.indexAddr T x y) (hT:P.underlying T=some (.array N e)) (he:eG P e=some (1,b)) (hx:S.ev x=some (.pt id aN 0 0)) (hy:S.ev y=some (.sc (.int kk i)))
    (hob:S.hp id=some ob) (bX:ob.aN=aN) (hr:ob.rows=[r]) (hi:0<=i/\i<(N:Int)):bW P o S (.pt id aN 0 i.toNat):=by
  have h:=qF (r:=r) ho hT he hx hy hob bX (by rw [hr];rfl) hi
  rwa [Nat.zero_add,Nat.mul_one] at h
theorem aMB {id aN:Nat} {ob:bH} {l:List Int} {i v:Int} (ho:o.op=.load T x) (hT:eG P T=some (1,false)) (hx:S.ev x=some (.pt id aN 0 i.toNat))
    (hob:S.hp id=some ob) (bX:ob.aN=aN) (hr:ob.rows=[l.map int]) (h:ix l i=some v):bW P o S (int v) :=
  fU ho hT hx (.pt hob bX (r:=l.map int) (by rw [hr];rfl)) (by
    have h1:(l.map int)[i.toNat]?=some (int v):=dN (f:=int) h
    show ((l.map int).drop i.toNat).head?=_
    rw [List.head?_drop];exact h1)
theorem aD3 {r:List AV} {k:Nat} {v:AV} (h:k<r.length):putRow r k [v]=r.set k v:=by
  unfold putRow
  rw [List.set_eq_take_append_cons_drop,if_pos h]
  simp
theorem aU3 {id aN:Nat} {ob:bH} {l l':List Int} {i v w:Int} (ho:o.op=.store T x y) (hT:eG P T=some (1,false)) (hx:S.ev x=some (.pt id aN 0 i.toNat)) (hy:S.ev y=some (int v))
    (hob:S.hp id=some ob) (bX:ob.aN=aN) (hmt:ob.mt=true) (hr:ob.rows=[l.map int]) (h:ix l i=some w) (hl:l.set i.toNat v=l') :
    bY P o S no no (λz H'=>z=.sc undef/\H'=upd S.hp id (some { ob with rows:=[l'.map int] })):=by
  have hlt:=xS h
  have h1:=fC (P:=P) (r:=l.map int) ho hT hx hy hob bX hmt (by rw [hr];rfl) rfl (Nat.ble_eq_true_of_le (by rw [List.length_map];omega)) rfl
  have e:ob.rows.set 0 (putRow (l.map int) i.toNat [int v])=[l'.map int]:=by
    rw [hr,aD3 (by rw [List.length_map];exact hlt),<- hl,List.map_set];rfl
  show bY P o S no no _
  have e2:(int v).cells=[int v]:=rfl
  rw [e2,e] at h1
  exact h1
theorem aT2 {α:Type} {e sz id aN off len:Nat} {zs:List Value} {ob:bH} {g:α->List AV} {l l':List α} (ho:o.op=.call { callee:=.builtin .clear,args:=#[x],argTypes:=#[T] }) (hT:P.underlying T=some (.slice e)) (hz:iR P e=some (sz,zs))
    (hx:S.ev x=some (.sl id aN off len)) (hob:S.hp id=some ob) (bX:ob.aN=aN) (hmt:ob.mt=true) (hosz:ob.sz=sz) (hr:ob.rows=l.map g) (hl:l.take off=l') :
    bY P o S no no (λz H'=>z=.bD []/\H'=upd S.hp id (some { ob with rows:=l'.map g })):=by
  intro s a next Q hH hops _ hn
  obtain ⟨i,hi,hisz,hzo,hzl,hpos,hzone⟩:=CQ hz
  have hxv:=hops x (by simp [ho,Op.operands,Call.operands]) _ hx
  obtain ⟨m,hm⟩:=hH.obj id ob hob
  have htr:l'.map g=ob.rows.take off:=by rw [hr,<- hl,List.map_take]
  have hlen':(l'.map g).length<=ob.rows.length:=by rw [htr];simp;omega
  have hvt:VR s (.bD []) (.tuple #[]):=.bD rfl λi y w hy=>by simp at hy
  obtain ⟨z,hz2,hzr⟩:=y9 hzo s.w
  generalize hu:a.eval x=u at hxv
  have fin:∀ (cur cur':Array Value) (fr:Nat×Nat) (w':World),wY s ob m cur fr->w'.os=s.w.os->w'.tape=s.w.tape->w'.output=s.w.output->w'.heap.size=s.w.heap.size->(∀ k,k≠m.b->w'.heap[k]?=s.w.heap[k]?) ->
      w'.heap[m.b]?=some (.cells cur' ob.elem fr)->cur'.size=cur.size->(∀ k,k<off*sz->cur'[k]?=cur[k]?)->(∀ (k:Nat) (v:Value),cur'[k]?=some v->v.oneCell'=true) ->
      (execOp a.eval o).run P s.w=.ok (.value (.tuple #[])) w'->o.wp P a s.w next Q:=by
    intro cur cur' fr w' hb q1 q2 q3 q4 q5 q6 q7 q8 q9 q10
    obtain ⟨s',g1,gu,g2,g3⟩:=aF8 hH id ob m cur cur' fr (l'.map g) w' hob hm.hm hb hmt q1 q2 q3 q4 q5 q6 q7 (Nat.le_trans hlen' hb.hlen)
      (λi r hir=>by rw [htr] at hir;exact hb.hr i r (by rw [List.getElem?_take] at hir;split at hir;exact hir;cases hir))
      (λi r j y v hir hj hv=>by
        rw [htr,List.getElem?_take] at hir
        split at hir
        · rename_i hio
          have hj':j<sz:=by have:=(List.getElem?_eq_some_iff.1 hj).1;rw [hb.hr i r hir,hosz] at this;exact this
          have:i*sz+j<off*sz:=by
            have h1:(i+1)*sz<=off*sz:=Nat.mul_le_mul_right _ hio
            rw [Nat.add_mul] at h1;omega
          rw [hosz,q8 _ this,<- hosz] at hv
          exact hb.hv i r j y v hir hj hv
        · cases hir) q9
    refine kP (w':=s'.w) (v:=.tuple #[]) (by rw [g1];exact q10) (hn s' _ (.bD []) _ ⟨rfl,rfl⟩ (g3.vals _ _ hvt) g2 g3 (λk hk=>.inl (gu ▸ hk)))
  cases hxv with
  | sl hk h1 hh =>
    have hh:=hh m hm.hm (hm.bX.trans bX)
    rcases hm.body with ⟨hnil,hrows⟩ | ⟨cur,fr,hb⟩
    · obtain ⟨e1,e2⟩:=hh.1 hnil
      have hup:upd S.hp id (some { ob with rows:=l'.map g })=S.hp:=by
        have hlm:l'.map g=[]:=by rw [htr,hrows];simp
        funext k
        by_cases hk:k=id
        · subst hk;rw [upd_same,hlm,hob,<- hrows]
        · rw [upd_ne _ _ hk]
      have hrun:(execOp a.eval o).run P s.w=.ok (.value (.tuple #[])) s.w:=by
        simp [execOp,ho,resolve,invoke,builtin,Builtin.clear_,hu,e1,run_underlying hT]
      exact kP hrun (hn s _ (.bD []) _ ⟨rfl,rfl⟩ hvt (by rw [hup];exact hH) (by rw [hup];exact Fr.refl _ _) λ_ h=>.inl h)
    · obtain ⟨cap,e1,e2,e3⟩:=hh.2 hb.hnil
      by_cases hl0:len=0
      · refine fin cur cur fr s.w hb rfl rfl rfl rfl (λ_ _=>rfl) hb.hb rfl (λ_ _=>rfl) hb.h1 ?_
        simp [execOp,ho,resolve,invoke,builtin,Builtin.clear_,hu,e1,hl0,run_underlying hT]
      · have hzc:(Builtin.zeroCells z.cells len).toList.length=len*sz:=by rw [Array.length_toList,size_zeroCells,<- Array.length_toList,hz2,hzl]
        have hms:m.sz=sz:=hm.hsz.trans hosz
        have hroom:off*m.sz+0+(Builtin.zeroCells z.cells len).toList.length<=cur.size:=by
          rw [hzc,hb.hcs,hms,hosz]
          have:(off+len)*sz<=m.ct*sz:=Nat.mul_le_mul_right _ (by omega)
          rw [Nat.add_mul] at this;omega
        have hz1:∀ (k:Nat) (v:Value),(Builtin.zeroCells z.cells len).toList[k]?=some v->v.oneCell'=true:=λk v hv=>by
          rw [Array.getElem?_toList] at hv
          simp only [Builtin.zeroCells,Array.getElem?_map] at hv
          obtain ⟨jj,hjj,rfl⟩:=Option.map_eq_some_iff.1 hv
          have hzs:z.cells.size=sz:=by rw [<- Array.length_toList,hz2,hzl]
          have hm':jj % z.cells.size<z.cells.size:=Nat.mod_lt _ (by omega)
          rw [getElem!_pos z.cells _ hm']
          exact vQ hzone (jj % z.cells.size) _ (by rw [<- hz2,Array.getElem?_toList];simp [hm'])
        obtain ⟨w',cur',r1,r2,r3,r4,r5,r6,r7,r8,r9⟩:=QE P m.b (off*m.sz) ob.elem fr (Builtin.zeroCells z.cells len).toList 0 cur s.w hb.hb hroom hb.hfr hz1
        refine fin cur cur' fr w' hb r7 r8 r9 r6 r5 r2 r3 (λk hk=>?_) (λk v hv=>?_) ?_
        · rw [r4,if_neg (by rw [hms];omega)]
        · rw [r4] at hv
          split at hv
          · exact hz1 _ v hv
          · exact hb.h1 k v hv
        · simp only [execOp,ho,resolve,invoke,builtin,Builtin.clear_,List.map_toArray,List.map_cons,List.map_nil,hu,e1,Sem.run_bind,Sem.run_pure,Result.andThen_ok,List.getElem?_toArray,List.getElem?_cons_zero,run_underlying hT]
          simp [hl0,hzr,r1]
theorem pZ {H:AH} {a b c:List AV} (h:bT H a b) (e:c=b):bT H a c:=e ▸ h
theorem E4 {P:Program} (len cap:Nat) {lo hi mx:Option Value} (i j:Nat) (w:World) (hlo:∃ k,lo=some (.int k (i:Int))) (hhi:∃ k,hi=some (.int k (j:Int))) (hmx:∃ k,mx=some (.int k (j:Int)))
    (hij:i<=j) (hj:j<=cap):(Instr.sliceBounds true len cap lo hi mx).run P w=.ok (i,j,j) w:=by
  have a1:(0:Int)<=(i:Int):=by omega
  have a2:(0:Int)<=(j:Int):=by omega
  have a3:(i:Int)<=(j:Int):=by omega
  have a4:(j:Int)<=(cap:Int):=by omega
  have a5:(j:Int)<=(j:Int):=by omega
  obtain ⟨k,rfl⟩:=hlo
  obtain ⟨k1,rfl⟩:=hhi
  obtain ⟨k2,rfl⟩:=hmx
  simp only [Instr.sliceBounds,Sem.run_bind,Sem.run_pure,Result.andThen_ok,Option.isSome_some,if_true,run_sliceBound,a1,a2,a3,a4,a5,Int.toNat_natCast]
theorem nC.AZ {s:Sit} {ρ:Operand->Value} {d i:Nat} {p:Operand} (h:nC S d (some p) i) (hv:∀ av,S.ev p=some av->VR s av (ρ p)):∃ k,(some p).map ρ=some (.int k (i:Int)):=by
  cases h with
  | yes h e=>subst e;exact ⟨_,congrArg some (hv _ h).fF⟩
theorem WW {e:TypeId} {sz id aN off off' len i j:Nat} {b:Bool} {lo hi mx:Operand} {ob:bH} (ho:o.op=.slice T x (some lo) (some hi) (some mx)) (hT:P.underlying T=some (.slice e)) (he:eG P e=some (sz,b)) (hx:S.ev x=some (.sl id aN off len))
    (hob:S.hp id=some ob) (bX:ob.aN=aN) (hsz:ob.sz=sz) (hlo:nC S 0 (some lo) i) (hhi:nC S len (some hi) j) (hmx:nC S len (some mx) j) (hij:i<=j) (hj:j<=len) (ho':(if j=i then off else off+i)=off'):bW P o S (.sl id aN off' (j-i)) :=
  iV λs ρ hH h=>by
    have hv:=h x (by simp [ho,Op.operands]) _ hx
    generalize hu:ρ x=u at hv
    have b1:=hlo.AZ (s:=s) (ρ:=ρ) λav=>h lo (by simp [ho,Op.operands]) av
    have b2:=hhi.AZ (s:=s) (ρ:=ρ) λav=>h hi (by simp [ho,Op.operands]) av
    have b3:=hmx.AZ (s:=s) (ρ:=ρ) λav=>h mx (by simp [ho,Op.operands]) av
    obtain ⟨m,hm⟩:=hH.obj id ob hob
    cases hv with
    | sl hk h1 hh =>
      have hh:=hh m hm.hm (hm.bX.trans bX)
      cases hn:m.nil with
      | true =>
        obtain ⟨q1,q2⟩:=hh.1 hn
        have hj0:j=0:=by omega
        have hi0:i=0:=by omega
        subst hj0 hi0
        have hb:=E4 (P:=P) 0 0 0 0 s.w b1 b2 b3 (Nat.le_refl _) (Nat.le_refl _)
        refine ⟨.slice none 0 0,.sl hk rfl λm' hm' _=>?_,?_⟩
        · rw [hm.hm] at hm';cases hm'
          exact ⟨λ_=>⟨rfl,rfl⟩,λh=>by rw [hn] at h;cases h⟩
        · simp only [execOp,ho,hu,q1,Instr.sliceAt,Instr.slice,Sem.run_bind,run_underlying hT,Result.andThen_ok,hb,nS he,Sem.run_pure,if_true]
      | false =>
        obtain ⟨cap,q1,q2,q3⟩:=hh.2 hn
        have hms:m.sz=sz:=hm.hsz.trans hsz
        have hb:=E4 (P:=P) len cap i j s.w b1 b2 b3 hij (by omega)
        by_cases hji:j=i
        · rw [if_pos hji] at ho'
          subst ho' hji
          refine ⟨.slice (some ⟨m.b,off*m.sz,none⟩) 0 0,.sl hk rfl λm' hm' _=>?_,?_⟩
          · rw [hm.hm] at hm';cases hm'
            exact ⟨λh=>(by rw [hn] at h;cases h),λ_=>⟨0,by rw [Nat.sub_self],by omega,by omega⟩⟩
          · simp only [execOp,ho,hu,q1,Instr.sliceAt,Instr.slice,Sem.run_bind,run_underlying hT,Result.andThen_ok,hb,nS he,Sem.run_pure,if_true,Nat.sub_self]
        · rw [if_neg hji] at ho'
          subst ho'
          simp only [Option.map_some] at hb
          refine ⟨.slice (some ⟨m.b,(off+i)*m.sz,none⟩) (j-i) (j-i),.sl hk rfl λm' hm' _=>?_,?_⟩
          · rw [hm.hm] at hm';cases hm'
            exact ⟨λh=>(by rw [hn] at h;cases h),λ_=>⟨j-i,rfl,by omega,by omega⟩⟩
          · simp only [execOp,ho,hu,q1,Instr.sliceAt,Instr.slice,Sem.run_bind,run_underlying hT,Result.andThen_ok,hb,nS he,Sem.run_pure,Option.map_some,addr_add,if_neg hji,hms,Nat.add_mul]
end
section
variable {P:Program} {n:NT} {S:AS} {o:Oper} {T:TypeId} {x y:Operand} {α:Type}
theorem nN {e:TypeId} {sz id aN off k:Nat} {b:Bool} {kk:IntKind} {i:Int} {ob:bH} {l:List α} {v:α} (ho:o.op=.indexAddr T x y) (hT:P.underlying T=some (.slice e)) (he:eG P e=some (sz,b))
    (hx:S.ev x=some (.sl id aN off k)) (hy:S.ev y=some (.sc (.int kk i))) (hob:S.hp id=some ob) (bX:ob.aN=aN) (hsz:ob.sz=sz) (hk:0<=i/\i<(k:Int)) (hrl:ob.rows.length=l.length) (h:ix l ((off:Int)+i)=some v):bW P o S (.pt id aN ((off:Int)+i).toNat 0):=by
  have hlt:=xS h
  have e1:((off:Int)+i).toNat=off+i.toNat:=by omega
  have:=ET.sl (S:=S) (sz:=sz) (id:=id) (aN:=aN) (off:=off) (len:=k) (i:=i.toNat) hob bX hsz (by omega) (by omega)
  rw [e1]
  exact lK ho hT he hx hy (by omega) this
theorem B8 {β:Type} {g:β->List AV} {l l':List β} {k:Nat} {v:β} {c:List AV} (e:l.set k v=l') (hc:g v=c):(l.map g).set k c=l'.map g:=by rw [<- e,List.map_set,hc]
end
def rl {α:Type}:List (Nat×α)->α->Nat->α
  | [],d,_=>d
  | (j,v) :: r,d,i=>bif Nat.beq i j then v else rl r d i
section
variable {P:Program} {n:NT} {ops:List Oper} {rdl kpl:Nat->List Nat} {pu:Nat->Bool} {K:AS->Prop} {pi:List Nat} {i t:Nat} {o:Oper} {f:Nat->Option AV} {hp:AH} {x y:Operand} {v:AV}
theorem eP (hy:∀ H,(∀ k,k∈rdl i->H k=hp k)->bW P o ⟨f,H⟩ v) (h:DE P ops rdl kpl pu K pi ⟨upd f t (some v),hp⟩) (ho:ops[i]?=some o:=by rfl) (hpu:pu i=true:=by rfl) (hw:Wd ops ⟨f,hp⟩ o=some true:=by rfl) (hd:o.dst=some t:=by rfl) (hs:uM (rdl i)=true:=by rfl) :
    DE P ops rdl kpl pu K (i :: pi) ⟨f,hp⟩:=qR ho hpu hw hd hy h hs
theorem eM (h:DE P ops rdl kpl pu K pi ⟨upd f t (some v),hp⟩) (ho:ops[i]?=some o:=by rfl) (hm:o.op=.move x:=by rfl) (hx:(AS.mk f hp).ev x=some v:=by rfl) (hpu:pu i=true:=by rfl) (hw:Wd ops ⟨f,hp⟩ o=some true:=by rfl) (hd:o.dst=some t:=by rfl) (hs:uM (rdl i)=true:=by rfl) :
    DE P ops rdl kpl pu K (i :: pi) ⟨f,hp⟩:=qR ho hpu hw hd (λH hH=>mK hm hx) h hs
theorem eA (h:DE P ops rdl kpl pu K pi ⟨upd f t (some v),hp⟩) (ho:ops[i]?=some o:=by rfl) (hm:o.op=.assign x:=by rfl) (hx:(AS.mk f hp).ev x=some v:=by rfl) (hpu:pu i=true:=by rfl) (hw:Wd ops ⟨f,hp⟩ o=some true:=by rfl) (hd:o.dst=some t:=by rfl) (hs:uM (rdl i)=true:=by rfl) :
    DE P ops rdl kpl pu K (i :: pi) ⟨f,hp⟩:=qR ho hpu hw hd (λH hH=>uK hm hx) h hs
theorem eL {T k id aN row off:Nat} {b:Bool} {ob:bH} {r:List AV} (hT:eG P T=some (k,b)) (h:DE P ops rdl kpl pu K pi ⟨upd f t (some v),hp⟩) (ho:ops[i]?=some o:=by rfl) (hm:o.op=.load T x:=by rfl)
    (hx:(AS.mk f hp).ev x=some (.pt id aN row off):=by rfl) (hi:id∈rdl i:=by decide) (hb:hp id=some ob:=by rfl) (hr:ob.rows[row]?=some r:=by rfl) (he:ob.aN=aN:=by rfl) (hv:kT k b (r.drop off)=some v:=by rfl)
    (hpu:pu i=true:=by rfl) (hw:Wd ops ⟨f,hp⟩ o=some true:=by rfl) (hd:o.dst=some t:=by rfl) (hs:uM (rdl i)=true:=by rfl) :
    DE P ops rdl kpl pu K (i :: pi) ⟨f,hp⟩:=qR ho hpu hw hd (λH hH=>fU hm hT hx (.pt ((hH _ hi).trans hb) he hr) hv) h hs
theorem eF {T k id aN row off j:Nat} {ob:bH} {r:List AV} (hT:lF P T j=some k) (h:DE P ops rdl kpl pu K pi ⟨upd f t (some (.pt id aN row (off+k))),hp⟩) (ho:ops[i]?=some o:=by rfl) (hm:o.op=.fieldAddr T x j:=by rfl)
    (hx:(AS.mk f hp).ev x=some (.pt id aN row off):=by rfl) (hi:id∈rdl i:=by decide) (hb:hp id=some ob:=by rfl) (hr:ob.rows[row]?=some r:=by rfl) (he:ob.aN=aN:=by rfl)
    (hpu:pu i=true:=by rfl) (hw:Wd ops ⟨f,hp⟩ o=some true:=by rfl) (hd:o.dst=some t:=by rfl) (hs:uM (rdl i)=true:=by rfl) :
    DE P ops rdl kpl pu K (i :: pi) ⟨f,hp⟩:=qR ho hpu hw hd (λH hH=>fZ hm hT hx (.pt ((hH _ hi).trans hb) he hr) (.pt _ _ _ _ _)) h hs
end
section
variable {P:Program} {n:NT} {Q0:Go.Exit->AS->Prop} {st:List Fm} {cs:List Code} {f:Nat->Option AV} {hp:AH} {ops rest:List Oper} {o:Oper} {x y:Operand}
theorem sS (ob':bH) {T id aN row off k:Nat} {b:Bool} {ob:bH} {r:List AV} {v:AV} (hT0:eG P T=some (k,b)) (h:RR P n Q0 st ops rest cs ⟨f,upd hp id (some ob')⟩) (ho:o.op=.store T x y:=by rfl) (hx:(AS.mk f hp).ev x=some (.pt id aN row off):=by rfl) (hy:(AS.mk f hp).ev y=some v:=by rfl)
    (hob:hp id=some ob:=by rfl) (bX:ob.aN=aN:=by rfl) (hmt:ob.mt=true:=by rfl) (hr:ob.rows[row]?=some r:=by rfl) (hcl:v.cells.length=k:=by rfl) (hfit0:Nat.ble (off+k) r.length=true:=by rfl) (h1:iW v.cells=true:=by rfl)
    (e:{ ob with rows:=ob.rows.set row (putRow r off v.cells) }=ob':=by rfl) (hw:Wd ops ⟨f,hp⟩ o=some true:=by rfl) (hd:o.dst=none:=by rfl):RR P n Q0 st ops (o :: rest) cs ⟨f,hp⟩ :=
  y5 hw hd (fH (fC ho hT0 hx hy hob bX hmt hr hcl hfit0 h1) e) h
theorem sA (id:Nat) {T t:Nat} {zs:List Value} (hz:zeroOf P T=some zs) (h:∀ aN,RR P n Q0 st ops rest cs ⟨upd f t (some (.pt id aN 0 0)),upd hp id (some ⟨T,zs.length,true,true,aN,[zs.map .sc]⟩)⟩)
    (ho:o.op=.alloc T:=by rfl) (h1:nL zs=true:=by rfl) (hw:Wd ops ⟨f,hp⟩ o=some true:=by rfl) (hd:o.dst=some t:=by rfl) (hn:Nat.blt t n.n=true:=by rfl):RR P n Q0 st ops (o :: rest) cs ⟨f,hp⟩ :=
  iP hw hd hn (RU id .any ho hz h1) (by rintro _ _ ⟨v,-,rfl,rfl⟩;exact h v)
theorem sB (id:Nat) {T t:Nat} {v:AV} (h:∀ aN,RR P n Q0 st ops rest cs ⟨upd f t (some (.pt id aN 0 0)),upd hp id (some ⟨T,v.cells.length,true,true,aN,[v.cells]⟩)⟩)
    (ho:o.op=.box T x:=by rfl) (hx:(AS.mk f hp).ev x=some v:=by rfl) (h1:iW v.cells=true:=by rfl) (hw:Wd ops ⟨f,hp⟩ o=some true:=by rfl) (hd:o.dst=some t:=by rfl) (hn:Nat.blt t n.n=true:=by rfl):RR P n Q0 st ops (o :: rest) cs ⟨f,hp⟩ :=
  iP hw hd hn (U1 id .any ho hx h1) (by rintro _ _ ⟨v,-,rfl,rfl⟩;exact h v)
def evs (S:AS):List Operand->Option (List AV)
  | []=>some []
  | x :: r=>match S.ev x with
    | some v=>match evs S r with
      | some vs=>some (v :: vs)
      | none=>none
    | none=>none
theorem MB {S:AS}:∀ {as:List Operand} {vs:List AV},evs S as=some vs->EvL S as vs
  | [],vs,h=>by simp only [evs,Option.some.injEq] at h;subst h;exact .nil
  | x :: r,vs,h=>by
    unfold evs at h
    split at h
    · rename_i v hv
      split at h
      · rename_i us hu
        simp only [Option.some.injEq] at h;subst h;exact .cons hv (MB hu)
      · cases h
    · cases h
theorem sC {fo:Operand} {as:List Operand} {ts:Array TypeId} {k t:Nat} {first cap vs args:List AV} {v:AV} (hc:bC P k=true) (hp':PP P k args (λy=>y=v)) (h:RR P n Q0 st ops rest cs ⟨upd f t (some v),hp⟩)
    (ho:o.op=.call { callee:=.value fo,args:=as.toArray,argTypes:=ts }:=by rfl) (hf:(AS.mk f hp).ev fo=some (.fn (.func k) first cap):=by rfl) (ha:evs (AS.mk f hp) as=some vs:=by rfl)
    (hcv:first++vs++cap=args:=by rfl) (hw:Wd ops ⟨f,hp⟩ o=some true:=by rfl) (hd:o.dst=some t:=by rfl) (hn:Nat.blt t n.n=true:=by rfl):RR P n Q0 st ops (o :: rest) cs ⟨f,hp⟩ :=
  UJ hw hd hn (uN ho hf (MB ha) hc (by rw [hcv];exact bT.refl _) hp') h
theorem sY {t:Nat} {v:AV} (hy:bW P o ⟨f,hp⟩ v) (h:RR P n Q0 st ops rest cs ⟨upd f t (some v),hp⟩) (hw:Wd ops ⟨f,hp⟩ o=some true:=by rfl) (hd:o.dst=some t:=by rfl) (hn:Nat.blt t n.n=true:=by rfl):RR P n Q0 st ops (o :: rest) cs ⟨f,hp⟩:=UJ hw hd hn hy h
theorem wR {S:AS} {rs:List ResultVar} {vs:List AV} {G:List AV->AH->Prop} (hret:∀ (S':AS) (vs:List AV) (H2:AH),mO P S' rs vs->(∀ t v,H2 t=some v->S'.hp t=some v)->G vs H2->Q0 .ret S') (hR:mO P S rs vs) (h:G vs S.hp):dF P n (QQ P n Q0 st) (.ret :: cs) S :=
  iX (hret S vs S.hp hR (λ_ _ h=>h) h)
theorem rC {S:AS} {t T k id aN row off:Nat} {b:Bool} {v:AV} {ob:bH} {r:List AV} {rs:List ResultVar} {vs:List AV} (hT:eG P T=some (k,b)) (hr:mO P S rs vs) (h:S.sl t=some (.pt id aN row off):=by rfl) (ho:S.hp id=some ob:=by rfl) (hv:ob.aN=aN:=by rfl)
    (hw:ob.rows[row]?=some r:=by rfl) (hc:kT k b (r.drop off)=some v:=by rfl):mO P S (.cell t T :: rs) (v :: vs):=.cell h (.pt ho hv hw) hT hc hr
theorem rT {S:AS} {t:Nat} {v:AV} {rs:List ResultVar} {vs:List AV} (hr:mO P S rs vs) (h:S.sl t=some v:=by rfl):mO P S (.tmp t :: rs) (v :: vs):=.tmp h hr
end
def fix (k:Int):List Int->Option Nat
  | []=>none
  | a :: r=>match decide (k=a) with
    | true=>some 0
    | false=>(fix k r).map (·+1)
theorem aC6 (k:Int):∀ (es:List MapEntry) (ks:List Int) (i j:Nat),es.map (·.key)=ks.map (Value.int .i64)->fix k ks=some j ->
    ∃ e,es[j]?=some e/\Instr.findNow (.int .i64) (.int .i64 k) es i=some (some (i+j,e.val))
  | [],ks,i,j,h,hj=>by
    have:ks=[]:=by cases ks with | nil=>rfl | cons a r=>simp at h
    subst this;simp [fix] at hj
  | e :: es,[],i,j,h,hj=>by simp at h
  | e :: es,a :: r,i,j,h,hj=>by
    simp only [List.map_cons,List.cons.injEq] at h
    unfold fix at hj
    by_cases hk:k=a
    · rw [decide_eq_true hk] at hj
      simp only [Option.some.injEq] at hj
      subst hj
      exact ⟨e,rfl,by simp [Instr.findNow,Instr.sameNow,h.1,hk]⟩
    · rw [decide_eq_false hk] at hj
      simp only [Option.map_eq_some_iff] at hj
      obtain ⟨j',h1,rfl⟩:=hj
      obtain ⟨e',h2,h3⟩:=aC6 k es r (i+1) j' h.2 h1
      exact ⟨e',by simpa using h2,by rw [Nat.add_right_comm,Nat.add_assoc] at h3;simp [Instr.findNow,Instr.sameNow,h.1,beq_eq_false_iff_ne.2 hk,h3]⟩
section
variable {P:Program} {S:AS} {o:Oper} {T K E:TypeId} {x y:Operand}
theorem GZ {b:Bool} {n:Nat} {v:Value} {kk:IntKind} (hK:P.underlying K=some (.int kk)) (w:World):(Instr.checkKey b (n+1) K v).run P w=.ok () w:=by
  unfold Instr.checkKey
  simp only [Sem.run_bind,run_underlying hK,Result.andThen_ok]
  rfl
theorem NL {ks:List Int} {vs:List AV} {k:Int} {v:AV} {j:Nat} (ho:o.op=.lookup T x y true) (hT:P.underlying T=some (.map K E)) (hK:P.underlying K=some (.int .i64))
    (hx:S.ev x=some (.mp ks vs)) (hy:S.ev y=some (.sc (.int .i64 k))) (hj:fix k ks=some j) (hv:vs[j]?=some v):bW P o S (.bD [v,.sc (.bool true)]) :=
  iV λs ρ _ h=>by
    have h1:=h x (by simp [ho,Op.operands]) _ hx
    have h2:=(h y (by simp [ho,Op.operands]) _ hy).fF
    generalize hu:ρ x=u at h1
    cases h1 with
    | mp hI hb hk hl hvv =>
      rename_i b clock es
      obtain ⟨e,g1,g2⟩:=aC6 k es.toList ks 0 j hk hj
      refine ⟨.tuple #[e.val,.bool true],.bD rfl λi y w hy hw=>?_,?_⟩
      · cases i with
        | zero=>simp at hy hw;subst hy hw;exact hvv j v e hv g1
        | succ i=>cases i with
          | zero=>simp at hy hw;subst hy hw;exact .sc _
          | succ i=>simp at hy
      · have hc:=GZ (P:=P) (K:=K) (b:=es.isEmpty) (n:=9999) (v:=.int .i64 k) hK s.w
        simp only [execOp,ho,hu,h2,Instr.lookup,Sem.run_bind,run_underlying hT,Result.andThen_ok,run_getObj_map s.w _ _ _ hb,hc,Instr.findKey,run_underlying hK,g2,Sem.run_pure]
        rfl
theorem aP0 {l:List Int} {k:Nat} (h:l.length=k):l.map int=(List.range k).map λi=>int (l.getD i 0):=by
  subst h
  refine List.ext_getElem (by simp) λi h1 h2=>?_
  simp only [List.getElem_map,List.getElem_range]
  have h3:i<l.length:=by simpa using h1
  simp [List.getD,List.getElem?_eq_getElem h3]
theorem aPR {id aN k:Nat} {ob:bH} {l:List Int} (ho:o.op=.load T x) (hT:eG P T=some (k,true)) (hx:S.ev x=some (.pt id aN 0 0))
    (hob:S.hp id=some ob) (bX:ob.aN=aN) (hr:ob.rows=[l.map int]) (hl:l.length=k):bW P o S (.agg ((List.range k).map λi=>int (l.getD i 0))) :=
  fU ho hT hx (.pt hob bX (r:=l.map int) (by rw [hr];rfl)) (by
    rw [<- aP0 hl]
    show kT k true (l.map int)=_
    unfold kT
    rw [if_pos rfl,if_pos (by simp [hl]),List.take_of_length_le (by simp [hl])])
structure MapAt (s:Sit) (H:AH) (b:Nat) (ks:List Int) (xs:List AV):Prop where
  him:¬ s.Im b
  hno:¬ kS s H b
  at':∃ es clock,s.w.heap[b]?=some (.map es clock)/\es.toList.map (·.key)=ks.map (Value.int .i64)/\xs.length=es.toList.length/\∀ (i:Nat) (x:AV) (e:MapEntry),xs[i]?=some x->es.toList[i]?=some e->VR s x e.val
def AI (P:Program) (n:NT) (ops todo:List Oper) (S:AS) (b:Nat) (ks:List Int) (xs:List AV) (K:AS->Prop):Prop :=
  ∀ k,ops.drop k=todo->∀ s0 s a,Fr s0 S.hp s S.hp->s0.w.heap.size<=b->b<s.w.heap.size->SR n s S a->MapAt s S.hp b ks xs ->
    wpOps P ops.toArray (λe a' w'=>e=.normal/\∃ S' s',w'=s'.w/\K S'/\SR n s' S' a'/\Fr s0 S.hp s' S'.hp) (List.range' k todo.length) a s.w
theorem KS {s:Sit} {H:AH} {b id:Nat} {ob:bH} {m:Mu} {cur:Array Value} {fr:Nat×Nat} (him:¬ s.Im b) (hno:¬ kS s H b) (h:H id=some ob) (hm:s.mu id=some m) (hb:wY s ob m cur fr):m.b≠b:=by
  intro e
  cases hmt:ob.mt with
  | true=>exact hno ⟨id,ob,m,h,hmt,hm,hb.hnil,e⟩
  | false=>exact him (e ▸ hb.him hmt)
theorem w9 {s:Sit} {H:AH} (hH:HR s H) (w':World) (hsize:s.w.heap.size<=w'.heap.size) (hk:∀ j,(s.Im j\/∃ id o m,H id=some o/\s.mu id=some m/\m.nil=false/\m.b=j)->w'.heap[j]?=s.w.heap[j]?) :
    HR { s with w:=w' } H/\∀ x v,VR s x v->VR { s with w:=w' } x v:=by
  have hmono:∀ x v,VR s x v->VR { s with w:=w' } x v:=λx v h=>VR.mono (s:=s) (s':={ s with w:=w' }) (λb hi=>⟨hi,hk b (.inl hi)⟩) (λi m' hm'=>.inl hm') (λ_ h=>h) h
  refine ⟨⟨λid o ho=>?_,hH.lH,λb hb=>Nat.lt_of_lt_of_le (hH.im b hb) hsize,hH.fin⟩,hmono⟩
  obtain ⟨m,hm⟩:=hH.obj id o ho
  refine ⟨m,hm.hm,hm.bX,hm.hsz,hm.hk,?_⟩
  rcases hm.body with h | ⟨cur,fr,hb⟩
  · exact .inl h
  · exact .inr ⟨cur,fr,⟨hb.hnil,(hk _ (.inr ⟨id,o,m,ho,hm.hm,hb.hnil,rfl⟩)).trans hb.hb,hb.hfr,hb.happ,hb.hcs,hb.hct,hb.hlen,hb.hr,λi r j x v a b c=>hmono _ _ (hb.hv i r j x v a b c),hb.h1,hb.him,hb.l7⟩⟩
theorem SR.vals {n:NT} {s s':Sit} {S:AS} {a:Act} (hs:SR n s S a) (hH:HR s' S.hp) (hv:∀ x v,VR s x v->VR s' x v):SR n s' S a :=
  ⟨hs.size,hs.defers,λt x hx=>let ⟨v,h1,h2⟩:=hs.slot t x hx;⟨v,h1,hv _ _ h2⟩,hH⟩
variable {n:NT} {ops rest:List Oper} {K':AS->Prop}
theorem aIK {t:Nat} (ho:o.op=.makeMap T none) (hg:o.guard=none) (hd:o.dst=some t) (ht:Nat.blt t n.n=true)
    (h:∀ b,AI P n ops rest ⟨upd S.sl t (some (.sc (.map (some b)))),S.hp⟩ b [] [] K'):Rg P n ops (o :: rest) S K':=by
  intro k hk s a hs
  obtain ⟨h0,h1⟩:=drop_cons hk
  rw [List.length_cons,List.range'_succ]
  have hw:Wd ops S o=some true:=by unfold Wd;rw [hg]
  simp only [wpOps,List.getElem?_toArray,h0,oC hs hw,if_true]
  have hrun:(execOp a.eval o).run P s.w=.ok (.value (.map (some s.w.heap.size))) (s.w.alloc (.map #[] 0)):=by
    simp [execOp,ho,Instr.makeMap,newObj,Sem.run]
  refine .inl (kP hrun ?_)
  have hsz:(s.w.alloc (.map #[] 0)).heap.size=s.w.heap.size+1:=by simp
  have hold:∀ j,j<s.w.heap.size->(s.w.alloc (.map #[] 0)).heap[j]?=s.w.heap[j]?:=λj hj=>alloc_old s.w _ j hj
  obtain ⟨g1,g2⟩:=w9 hs.heap (s.w.alloc (.map #[] 0)) (by rw [hsz];omega) (λj hj=>hold j (by
    rcases hj with hj | ⟨id,ob,m,q1,q2,q3,q4⟩
    · exact hs.heap.im j hj
    · obtain ⟨m',hm'⟩:=hs.heap.obj id ob q1
      have e:m'=m:=by have:=hm'.hm.symm.trans q2;simpa using this
      subst e
      rcases hm'.body with ⟨q,_⟩ | ⟨cur,fr,hb⟩
      · rw [q] at q3;cases q3
      · have:=hb.hb;rw [q4] at this
        exact (Array.getElem?_eq_some_iff.1 this).1))
  have hno:¬ kS { s with w:=s.w.alloc (.map #[] 0) } S.hp s.w.heap.size:=by
    rintro ⟨id,ob,m,q1,q2,q3,q4,q5⟩
    obtain ⟨m',hm'⟩:=hs.heap.obj id ob q1
    have e:m'=m:=by have:=hm'.hm.symm.trans q3;simpa using this
    subst e
    rcases hm'.body with ⟨q,_⟩ | ⟨cur,fr,hb⟩
    · rw [q] at q4;cases q4
    · have:=hb.hb;rw [q5] at this
      exact absurd (Array.getElem?_eq_some_iff.1 this).1 (Nat.lt_irrefl _)
  have hfr:Fr s S.hp { s with w:=s.w.alloc (.map #[] 0) } S.hp :=
    ⟨rfl,rfl,rfl,by simp,λb hb _=>hold b hb,λ_ h=>h,λ_ _ _ h=>h,λ_ _ h=>h,g2,λ_ h=>h⟩
  have hs':=(hs.vals (s':={ s with w:=s.w.alloc (.map #[] 0) }) g1 g2).put (d:=some t) (x:=.sc (.map (some s.w.heap.size))) (v:=.map (some s.w.heap.size)) (by simpa [kX] using ht) (.sc _)
  rw [hd]
  exact h s.w.heap.size (k+1) h1 s { s with w:=s.w.alloc (.map #[] 0) } _ hfr (Nat.le_refl _) (by simp) hs' ⟨λhi=>absurd (hs.heap.im _ hi) (Nat.lt_irrefl _),hno,#[],0,qP s.w _,rfl,rfl,λi x e hx=>by simp at hx⟩
theorem aVM {b:Nat} {ks:List Int} {xs:List AV} {t:Nat} {v:AV} (hg:o.guard=none) (hd:o.dst=some t) (ht:Nat.blt t n.n=true) (hy:bW P o S v) (h:AI P n ops rest ⟨upd S.sl t (some v),S.hp⟩ b ks xs K'):AI P n ops (o :: rest) S b ks xs K':=by
  intro k hk s0 s a hf0 hb0 hb1 hs hm
  obtain ⟨h0,h1⟩:=drop_cons hk
  rw [List.length_cons,List.range'_succ]
  have hw:Wd ops S o=some true:=by unfold Wd;rw [hg]
  simp only [wpOps,List.getElem?_toArray,h0,oC hs hw,if_true]
  refine .inl (hy s a _ _ hs.heap (hs.opers o) (λ_ h=>h.elim) ?_)
  rintro s' u x H' ⟨rfl,rfl⟩ hv hH hf _
  have hs':=(hs.fr hH hf).put (d:=o.dst) (by rw [hd];simpa [kX] using ht) hv
  rw [hd] at hs' ⊢
  obtain ⟨es,clock,q1,q2,q3,q4⟩:=hm.at'
  exact h (k+1) h1 s0 s' _ (hf0.trans hf) hb0 (Nat.lt_of_lt_of_le hb1 hf.size) hs' ⟨λhi=>hm.him (hf.iY b hb1 hm.hno hi),λho=>hm.hno (hf.own b hb1 ho),es,clock,(hf.keep b hb1 hm.hno).trans q1,q2,q3,λi x e g1 g2=>hf.vals _ _ (q4 i x e g1 g2)⟩
theorem QL (k:Int):∀ (es:List MapEntry) (ks:List Int) (i:Nat),es.map (·.key)=ks.map (Value.int .i64)->fix k ks=none->Instr.findNow (.int .i64) (.int .i64 k) es i=some none
  | [],_,_,_,_=>rfl
  | e :: es,[],i,h,_=>by simp at h
  | e :: es,a :: r,i,h,hj=>by
    simp only [List.map_cons,List.cons.injEq] at h
    unfold fix at hj
    by_cases hk:k=a
    · rw [decide_eq_true hk] at hj;cases hj
    · rw [decide_eq_false hk] at hj
      simp only [Option.map_eq_none_iff] at hj
      simp [Instr.findNow,Instr.sameNow,h.1,beq_eq_false_iff_ne.2 hk,QL k es r (i+1) h.2 hj]
theorem aW0 {m y v:Operand} {b:Nat} {ks:List Int} {xs:List AV} {q:Int} {x:AV} (ho:o.op=.insert T m y v) (hg:o.guard=none) (hd:o.dst=none) (hT:P.underlying T=some (.map K E)) (hK:P.underlying K=some (.int .i64))
    (hm:S.ev m=some (.sc (.map (some b)))) (hy:S.ev y=some (.sc (.int .i64 q))) (hv:S.ev v=some x) (hq:fix q ks=none)
    (h:AI P n ops rest S b (ks++[q]) (xs++[x]) K'):AI P n ops (o :: rest) S b ks xs K':=by
  intro k hk s0 s a hf0 hb0 hb1 hs hma
  obtain ⟨h0,h1⟩:=drop_cons hk
  rw [List.length_cons,List.range'_succ]
  have hw:Wd ops S o=some true:=by unfold Wd;rw [hg]
  simp only [wpOps,List.getElem?_toArray,h0,oC hs hw,if_true]
  obtain ⟨es,clock,q1,q2,q3,q4⟩:=hma.at'
  have e1:=(hs.opers o m (by simp [ho,Op.operands]) _ hm).fF
  have e2:=(hs.opers o y (by simp [ho,Op.operands]) _ hy).fF
  have e3:=hs.opers o v (by simp [ho,Op.operands]) _ hv
  have hc:=GZ (P:=P) (K:=K) (b:=false) (n:=9999) (v:=.int .i64 q) hK s.w
  have hrun:(execOp a.eval o).run P s.w=.ok .skip { s.w with heap:=s.w.heap.setIfInBounds b (.map (es.push { key:=.int .i64 q,val:=a.eval v,born:=clock }) (clock+1)) }:=by
    simp only [execOp,ho,e1,e2,Instr.mapUpdate,Sem.run_bind,run_underlying hT,Result.andThen_ok,run_getObj_map s.w _ _ _ q1,hc,Instr.findKey,run_underlying hK,QL q es.toList ks 0 q2 hq,Sem.run_pure]
    simp [setObj,Sem.run,q1]
  refine .inl (Q3 hrun ?_)
  have hold:∀ j,j≠b->(s.w.heap.setIfInBounds b (.map (es.push { key:=.int .i64 q,val:=a.eval v,born:=clock }) (clock+1)))[j]?=s.w.heap[j]?:=λj hj=>by rw [Array.getElem?_setIfInBounds_ne (Ne.symm hj)]
  obtain ⟨g1,g2⟩:=w9 hs.heap { s.w with heap:=s.w.heap.setIfInBounds b (.map (es.push { key:=.int .i64 q,val:=a.eval v,born:=clock }) (clock+1)) } (by simp) (λj hj=>hold j (by
    rintro rfl
    rcases hj with hj | ⟨id,ob,m',p1,p2,p3,p4⟩
    · exact hma.him hj
    · obtain ⟨m2,hm2⟩:=hs.heap.obj id ob p1
      have e:m2=m':=by have:=hm2.hm.symm.trans p2;simpa using this
      subst e
      rcases hm2.body with ⟨q,_⟩ | ⟨cur,fr,hb⟩
      · rw [q] at p3;cases p3
      · exact KS hma.him hma.hno p1 p2 hb p4))
  have hs':=hs.vals (s':={ s with w:={ s.w with heap:=s.w.heap.setIfInBounds b (.map (es.push { key:=.int .i64 q,val:=a.eval v,born:=clock }) (clock+1)) } }) g1 g2
  rw [hd]
  refine h (k+1) h1 s0 { s with w:={ s.w with heap:=s.w.heap.setIfInBounds b (.map (es.push { key:=.int .i64 q,val:=a.eval v,born:=clock }) (clock+1)) } } a ?_ hb0 (by simpa using hb1) hs' ⟨hma.him,hma.hno,_,_,Array.getElem?_setIfInBounds_self_of_lt hb1,by simp [q2],by simp [q3],λi z e z1 z2=>g2 _ _ ?_⟩
  · exact ⟨hf0.os,hf0.tape,hf0.output,by simpa using hf0.size,λj hj hno=>(hold j (by omega)).trans (hf0.keep j hj hno),hf0.jL,hf0.iY,hf0.own,λx v hx=>g2 _ _ (hf0.vals x v hx),hf0.kY⟩
  · rw [Array.toList_push] at z2
    by_cases hi:i<xs.length
    · rw [List.getElem?_append_left hi] at z1
      rw [List.getElem?_append_left (by omega)] at z2
      exact q4 i z e z1 z2
    · rw [List.getElem?_append_right (by omega)] at z1
      rw [List.getElem?_append_right (by omega),<- q3] at z2
      have hi0:i-xs.length=0:=by
        have:=(List.getElem?_eq_some_iff.1 z1).1
        simp at this;omega
      rw [hi0] at z1 z2
      simp at z1 z2
      subst z1 z2
      exact e3
theorem aNQ {todo:List Oper} {t:Nat} {f:Nat->Option AV} {hp:AH} {b:Nat} {ks:List Int} {xs:List AV} (ht:f t=some (.sc (.map (some b)))) (h:Rg P n ops todo ⟨upd f t (some (.mp ks xs)),hp⟩ K'):AI P n ops todo ⟨f,hp⟩ b ks xs K':=by
  intro k hk s0 s a hf0 hb0 hb1 hs hma
  obtain ⟨es,clock,q1,q2,q3,q4⟩:=hma.at'
  have hmono:∀ x v,VR s x v->VR { s with Im:=λj=>s.Im j\/j=b } x v:=λx v h=>VR.mono (s:=s) (s':={ s with Im:=λj=>s.Im j\/j=b }) (λb hi=>⟨.inl hi,rfl⟩) (λi m' hm'=>.inl hm') (λ_ h=>h) h
  have hH:HR { s with Im:=λj=>s.Im j\/j=b } hp:=by
    refine ⟨λid o ho=>?_,hs.heap.lH,λj hj=>?_,hs.heap.fin⟩
    · obtain ⟨m,hm⟩:=hs.heap.obj id o ho
      refine ⟨m,hm.hm,hm.bX,hm.hsz,hm.hk,?_⟩
      rcases hm.body with h | ⟨cur,fr,hb⟩
      · exact .inl h
      · refine .inr ⟨cur,fr,⟨hb.hnil,hb.hb,hb.hfr,hb.happ,hb.hcs,hb.hct,hb.hlen,hb.hr,λi r j x v a b c=>hmono _ _ (hb.hv i r j x v a b c),hb.h1,λh=>.inl (hb.him h),λh hi=>?_⟩⟩
        rcases hi with hi | hi
        · exact hb.l7 h hi
        · exact KS hma.him hma.hno ho hm.hm hb hi
    · rcases hj with hj | hj
      · exact hs.heap.im j hj
      · exact hj ▸ hb1
  have hs':SR n { s with Im:=λj=>s.Im j\/j=b } ⟨upd f t (some (.mp ks xs)),hp⟩ a:=by
    refine ⟨hs.size,hs.defers,λi x hx=>?_,hH⟩
    by_cases hi:i=t
    · subst hi
      simp only [upd_same,Option.some.injEq] at hx
      subst hx
      obtain ⟨v,h1,h2⟩:=hs.slot i _ ht
      have:=h2.fF;subst this
      exact ⟨_,h1,.mp (.inr rfl) q1 q2 q3 λi x e z1 z2=>hmono _ _ (q4 i x e z1 z2)⟩
    · simp only [upd_ne _ _ hi] at hx
      obtain ⟨v,h1,h2⟩:=hs.slot i x hx
      exact ⟨v,h1,hmono _ _ h2⟩
  refine CY ?_ _ _ _ (h k hk { s with Im:=λj=>s.Im j\/j=b } a hs')
  rintro e a' w' ⟨rfl,S2,s2,g1,g2,g3,g4⟩
  have hf1:Fr s0 hp { s with Im:=λj=>s.Im j\/j=b } hp :=
    ⟨hf0.os,hf0.tape,hf0.output,hf0.size,hf0.keep,λj hj=>.inl (hf0.jL j hj),λj hj hno hi=>by
      rcases hi with hi | hi
      · exact hf0.iY j hj hno hi
      · omega,hf0.own,λx v hx=>hmono _ _ (hf0.vals x v hx),hf0.kY⟩
  exact ⟨rfl,S2,s2,g1,g2,g3,hf1.trans g4⟩
def CK (P:Program) (n:NT) (Q0:Go.Exit->AS->Prop) (st:List Fm) (l todo:List Oper) (cs:List Code) (S:AS) (b:Nat) (ks:List Int) (xs:List AV):Prop :=
  ∀ K:AS->Prop,(∀ S',dF P n (QQ P n Q0 st) cs S'->K S')->AI P n l todo S b ks xs K
variable {Q0:Go.Exit->AS->Prop} {st:List Fm} {cs:List Code} {b:Nat} {ks:List Int} {xs:List AV}
theorem mmk {t:Nat} (ho:o.op=.makeMap T none) (hg:o.guard=none) (hd:o.dst=some t) (ht:Nat.blt t n.n=true)
    (h:∀ b,CK P n Q0 st ops rest cs ⟨upd S.sl t (some (.sc (.map (some b)))),S.hp⟩ b [] []):RR P n Q0 st ops (o :: rest) cs S:=λK hK=>aIK ho hg hd ht λb=>h b K hK
theorem M8 {t:Nat} {v:AV} (hg:o.guard=none) (hd:o.dst=some t) (ht:Nat.blt t n.n=true) (hy:bW P o S v) (h:CK P n Q0 st ops rest cs ⟨upd S.sl t (some v),S.hp⟩ b ks xs):CK P n Q0 st ops (o :: rest) cs S b ks xs :=
  λK hK=>aVM hg hd ht hy (h K hK)
theorem LW {m y v:Operand} {q:Int} {x:AV} (ho:o.op=.insert T m y v) (hg:o.guard=none) (hd:o.dst=none) (hT:P.underlying T=some (.map K E)) (hK:P.underlying K=some (.int .i64))
    (hm:S.ev m=some (.sc (.map (some b)))) (hy:S.ev y=some (.sc (.int .i64 q))) (hv:S.ev v=some x) (hq:fix q ks=none)
    (h:CK P n Q0 st ops rest cs S b (ks++[q]) (xs++[x])):CK P n Q0 st ops (o :: rest) cs S b ks xs:=λK hK'=>aW0 ho hg hd hT hK hm hy hv hq (h K hK')
theorem aSI {f:Nat->Option AV} {hp:AH} {todo:List Oper} (t:Nat) (ht:f t=some (.sc (.map (some b)))) (h:RR P n Q0 st ops todo cs ⟨upd f t (some (.mp ks xs)),hp⟩):CK P n Q0 st ops todo cs ⟨f,hp⟩ b ks xs :=
  λK hK=>aNQ ht (h K hK)
end
end Go.Pv
