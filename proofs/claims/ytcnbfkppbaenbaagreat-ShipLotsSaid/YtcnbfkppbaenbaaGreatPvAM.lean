import Derived.Test.YtcnbfkppbaenbaaGreatPvAD
import Derived.ChangeKeysEq
set_option linter.unusedVariables false
set_option linter.unusedSimpArgs false
namespace Go.Pv
section
variable {P:Program} {n:NT} {S:AS} {o:Oper} {T:TypeId} {x y z:Operand}
theorem aAL {kk:IntKind} {a b c r:Int} {ts:Array TypeId} (ho:o.op=.call { callee:=.builtin .max,args:=#[x,y,z],argTypes:=ts }) (hx:S.ev x=some (.sc (.int kk a))) (hy:S.ev y=some (.sc (.int kk b))) (hz:S.ev z=some (.sc (.int kk c)))
    (hr:(if c>(if b>a then b else a) then c else (if b>a then b else a))=r):eB P o S (.sc (.int kk r)) :=
  kF λs ρ _ h=>⟨_,.sc _,by
    have h1:=(h x (by simp [ho,Op.operands,Call.operands]) _ hx).jU
    have h2:=(h y (by simp [ho,Op.operands,Call.operands]) _ hy).jU
    have h3:=(h z (by simp [ho,Op.operands,Call.operands]) _ hz).jU
    subst hr;simp [execOp,ho,h1,h2,h3,resolve,invoke,builtin,Builtin.max_,Builtin.max2]⟩
theorem aQ4 {t tx:TypeId} {ms:Array (String×TypeId)} (hT:P.underlying t=some (.interface ms)) (v:Value) (w:World):(Op.equal t (.iface tx v) .nilIface).run P w=.ok false w:=by
  unfold Op.equal Op.maxDepth
  rw [Op.equalIn]
  simp only [Sem.run_bind,run_underlying hT,Result.andThen_ok,Sem.run_pure]
theorem aHH {t:TypeId} {ms:Array (String×TypeId)} (hT:P.underlying t=some (.interface ms)) (w:World):(Op.equal t .nilIface .nilIface).run P w=.ok true w:=by
  unfold Op.equal Op.maxDepth
  rw [Op.equalIn]
  simp only [Sem.run_bind,run_underlying hT,Result.andThen_ok,Sem.run_pure]
theorem I6 {s:Sit} {t:TypeId} {v:AV} {u:Value} (h:VR s (.iM t v) u):∃ u',u=.iface t u'/\VR s v u':=by cases h with | iM h=>exact ⟨_,rfl,h⟩
theorem FK {Ty:TypeId} {ms:Array (String×TypeId)} {t:TypeId} {v:AV} (ho:o.op=.binOp .eql T x y Ty) (hT:P.underlying T=some (.interface ms)) (hx:S.ev x=some (.iM t v)) (hy:S.ev y=some (.sc .nilIface)):eB P o S (aT false) :=
  kF λs ρ _ h=>⟨_,.sc _,by
    obtain ⟨u,h1,_⟩:=I6 (h x (by simp [ho,Op.operands]) _ hx)
    have h2:=(h y (by simp [ho,Op.operands]) _ hy).jU
    simp [execOp,ho,h1,h2,eqGuard,binOp,aQ4 hT]⟩
theorem aDT {Ty:TypeId} {ms:Array (String×TypeId)} {c:Value} (ho:o.op=.binOp .eql T x (.const c) Ty) (hT:P.underlying T=some (.interface ms)) (hx:S.ev x=some (.sc .nilIface)) (hc:c=.nilIface):eB P o S (aT true) :=
  kF λs ρ _ h=>⟨_,.sc _,by
    have h1:=(h x (by simp [ho,Op.operands]) _ hx).jU
    have h2:ρ (.const c)=.nilIface:=by
      have:=(h (.const c) (by simp [ho,Op.operands]) (.sc c) rfl).jU
      rw [this,hc]
    simp [execOp,ho,h1,h2,eqGuard,binOp,aHH hT]⟩
def YH:TypeDesc->Bool
  | .pointer _=>true
  | _=>false
def pJ (P:Program) (t:TypeId) (nm:String):Option FuncId :=
  match P.info? t,P.underlying t with
  | some i,some d =>
    match i.methods.find? (·.name == nm) with
    | some m=>if m.path.isEmpty && !YH d then (match m.func with
      | some (f,false)=>some f
      | _=>none) else none
    | none=>none
  | _,_=>none
theorem aMT {t:TypeId} {nm:String} {f:FuncId} (h:pJ P t nm=some f) (v:Value) (k:Nat) (w:World):(method (k+1) t v nm).run P w=.ok (f,v) w:=by
  unfold pJ at h
  split at h
  · rename_i i d hi hd
    split at h
    · rename_i m hm
      split at h
      · rename_i hp
        simp only [Bool.and_eq_true,Bool.not_eq_true'] at hp
        have hp':m.path.toList=[]:=by simpa using hp.1
        rw [method]
        simp only [Sem.run_bind,run_typeInfo _ hi,Result.andThen_ok,hm,hp',follow,Sem.run_pure]
        split at h
        · rename_i f' hf
          cases h
          simp only [hf,receiverAt,Sem.run_bind,run_underlying hd,Result.andThen_ok]
          cases d <;> first | (simp [Place.get];done) | (simp [YH] at hp;done)
        · cases h
      · cases h
    · cases h
  · cases h
theorem aLT {r:Operand} {nm:String} {as:List Operand} {ts:Array TypeId} {k:FuncId} {t:TypeId} {v:AV} {vs:List AV} {s:Sit} {ρ:Operand->Value} (ho:o.op=.call { callee:=.invoke r nm,args:=as.toArray,argTypes:=ts })
    (hr:S.ev r=some (.iM t v)) (hm:pJ P t nm=some k) (ha:EvL S as vs) (hc:bP P k=true) (h:∀ x∈o.op.operands,∀ av,S.ev x=some av->VR s av (ρ x)) :
    ∃ us,nS s (v :: vs) us/\(execOp ρ o).run P s.w=.ok (.enter k us) s.w:=by
  obtain ⟨u,hu,hv⟩:=I6 (h r (by simp [ho,Op.operands,Call.operands]) _ hr)
  obtain ⟨a1,a2⟩:=ha.val (s:=s) (ρ:=ρ) λq hq=>h q (by simp [ho,Op.operands,Call.operands,hq])
  refine ⟨#[u]++(as.map ρ).toArray,?_,?_⟩
  · have h1:nS s [v] #[u]:=⟨rfl,λi x w hx hw=>by
      cases i with
      | zero=>simp at hx hw;subst hx hw;exact hv
      | succ i=>simp at hx⟩
    exact h1.append ⟨by simp [a1],by simpa using a2⟩
  · have hd:P.types.size+Made.depth=(P.types.size+99)+1:=rfl
    have hx:(#[Value.iface t u]++(as.map ρ).toArray).extract 1 (#[Value.iface t u]++(as.map ρ).toArray).size=(as.map ρ).toArray:=by
      apply Array.ext'
      simp
      exact List.take_of_length_le (by simp)
    have hprog:program.run P s.w=.ok P s.w:=rfl
    simp only [execOp,ho,resolve,List.map_toArray,hu,Sem.run_bind,Sem.run_pure,Result.andThen_ok,invoke]
    rw [show (#[Value.iface t u]++(as.map ρ).toArray)[0]?=some (.iface t u) from by simp]
    simp only [callMethod,Sem.run_bind,hprog,Result.andThen_ok,hd,aMT hm]
    rw [hx]
    exact aAU hc _ _
theorem aRA {r:Operand} {nm:String} {as:List Operand} {ts:Array TypeId} {k:FuncId} {t:TypeId} {v:AV} {vs:List AV} {R:AV->AH->Prop} (ho:o.op=.call { callee:=.invoke r nm,args:=as.toArray,argTypes:=ts })
    (hr:S.ev r=some (.iM t v)) (hm:pJ P t nm=some k) (ha:EvL S as vs) (hc:bP P k=true) (hp:PC P k (v :: vs) S.hp R):eO P o S no any R:=by
  intro s a next Q hH hops _ hn
  obtain ⟨us,h1,h2⟩:=aLT (P:=P) ho hr hm ha hc hops
  unfold Oper.wp
  rw [h2]
  exact (hp s us hH h1).mono λe w' ⟨y,H',s',v,q1,q2,q3,q4,q5,q6⟩=>by subst q2 q3;exact hn s' v y H' q1 q4 q5 q6 (λ_ _=>.inr trivial)
def MC:TypeDesc->Bool
  | .interface _=>false
  | _=>true
theorem aU8 {t:TypeId} {d:TypeDesc} {v:AV} (ho:o.op=.typeAssert x T t true) (hT:P.underlying t=some d) (hd:MC d=true) (hx:S.ev x=some (.iM t v)):eB P o S (.bC [v,aT true]) :=
  kF λs ρ _ h=>by
    obtain ⟨u,hu,hv⟩:=I6 (h x (by simp [ho,Op.operands]) _ hx)
    refine ⟨.tuple #[u,.bool true],.bC rfl λi y w hy hw=>?_,?_⟩
    · cases i with
      | zero=>simp at hy hw;subst hy hw;exact hv
      | succ i=>cases i with
        | zero=>simp at hy hw;subst hy hw;exact .sc _
        | succ i=>simp at hy
    · simp only [execOp,ho,hu,Instr.typeAssert,Sem.run_bind,run_underlying hT,Result.andThen_ok]
      cases d <;> first | (simp [MC] at hd;done) | simp [Instr.typeAssert]
def I4 (P:Program) (t:TypeId):Bool :=
  match (P.info? t).bind (·.zero) with
  | some (.agg cs)=>cs.isEmpty
  | _=>false
theorem aJG {t:TypeId} (h:I4 P t=true) (w:World):(zeroValue t).run P w=.ok (.agg #[]) w:=by
  unfold I4 at h
  cases hi:P.info? t with
  | none=>rw [hi] at h;simp at h
  | some i =>
    rw [hi] at h
    simp only [Option.bind_some] at h
    split at h
    · rename_i cs hz
      have:cs=#[]:=by simpa using h
      subst this
      simp [zeroValue,typeInfo,program,Sem.run,hi,hz]
    · cases h
theorem SE {t tx:TypeId} {d:TypeDesc} {v:AV} (ho:o.op=.typeAssert x T t true) (hT:P.underlying t=some d) (hd:MC d=true) (hx:S.ev x=some (.iM tx v)) (hne:Nat.beq tx t=false)
    (hz:I4 P t=true):eB P o S (.bC [.agg [],aT false]) :=
  kF λs ρ _ h=>by
    obtain ⟨u,hu,hv⟩:=I6 (h x (by simp [ho,Op.operands]) _ hx)
    have hne':tx≠t:=Nat.ne_of_beq_eq_false hne
    refine ⟨.tuple #[.agg #[],.bool false],.bC rfl λi y w hy hw=>?_,?_⟩
    · cases i with
      | zero=>simp at hy hw;subst hy hw;exact .agg rfl λi y w hy=>by simp at hy
      | succ i=>cases i with
        | zero=>simp at hy hw;subst hy hw;exact .sc _
        | succ i=>simp at hy
    · simp only [execOp,ho,hu,Instr.typeAssert,Sem.run_bind,run_underlying hT,Result.andThen_ok]
      cases d <;> first | (simp [MC] at hd;done) | simp [Instr.typeAssert,hne',aJG hz]
theorem JR {e N id aS:Nat} {b:Bool} {ob:cB} {kk:IntKind} {i:Int} {r:List AV} (ho:o.op=.indexAddr T x y) (hT:P.underlying T=some (.array N e)) (he:gT P e=some (1,b)) (hx:S.ev x=some (.pt id aS 0 0)) (hy:S.ev y=some (.sc (.int kk i)))
    (hob:S.hp id=some ob) (dP:ob.aS=aS) (hr:ob.rows=[r]) (hi:0<=i/\i<(N:Int)):eB P o S (.pt id aS 0 i.toNat):=by
  have h:=lV (r:=r) ho hT he hx hy hob dP (by rw [hr];rfl) hi
  rwa [Nat.zero_add,Nat.mul_one] at h
theorem IQ {id aS:Nat} {ob:cB} {l:List Int} {i v:Int} (ho:o.op=.load T x) (hT:gT P T=some (1,false)) (hx:S.ev x=some (.pt id aS 0 i.toNat))
    (hob:S.hp id=some ob) (dP:ob.aS=aS) (hr:ob.rows=[l.map int]) (h:ix l i=some v):eB P o S (int v) :=
  iK ho hT hx (.pt hob dP (r:=l.map int) (by rw [hr];rfl)) (by
    have h1:(l.map int)[i.toNat]?=some (int v):=fM (f:=int) h
    show ((l.map int).drop i.toNat).head?=_
    rw [List.head?_drop];exact h1)
theorem aNS {r:List AV} {k:Nat} {v:AV} (h:k<r.length):putRow r k [v]=r.set k v:=by
  unfold putRow
  rw [List.set_eq_take_append_cons_drop,if_pos h]
  simp
theorem aOQ {id aS:Nat} {ob:cB} {l l':List Int} {i v w:Int} (ho:o.op=.store T x y) (hT:gT P T=some (1,false)) (hx:S.ev x=some (.pt id aS 0 i.toNat)) (hy:S.ev y=some (int v))
    (hob:S.hp id=some ob) (dP:ob.aS=aS) (hmt:ob.mt=true) (hr:ob.rows=[l.map int]) (h:ix l i=some w) (hl:l.set i.toNat v=l') :
    eO P o S no no (λz H'=>z=.sc undef/\H'=upd S.hp id (some { ob with rows:=[l'.map int] })):=by
  have hlt:=w9 h
  have h1:=iG (P:=P) (r:=l.map int) ho hT hx hy hob dP hmt (by rw [hr];rfl) rfl (Nat.ble_eq_true_of_le (by rw [List.length_map];omega)) rfl
  have e:ob.rows.set 0 (putRow (l.map int) i.toNat [int v])=[l'.map int]:=by
    rw [hr,aNS (by rw [List.length_map];exact hlt),<- hl,List.map_set];rfl
  show eO P o S no no _
  have e2:(int v).cells=[int v]:=rfl
  rw [e2,e] at h1
  exact h1
theorem aM1 {α:Type} {e sz id aS off len:Nat} {zs:List Value} {ob:cB} {g:α->List AV} {l l':List α} (ho:o.op=.call { callee:=.builtin .clear,args:=#[x],argTypes:=#[T] }) (hT:P.underlying T=some (.slice e)) (hz:kK P e=some (sz,zs))
    (hx:S.ev x=some (.sl id aS off len)) (hob:S.hp id=some ob) (dP:ob.aS=aS) (hmt:ob.mt=true) (hosz:ob.sz=sz) (hr:ob.rows=l.map g) (hl:l.take off=l') :
    eO P o S no no (λz H'=>z=.bC []/\H'=upd S.hp id (some { ob with rows:=l'.map g })):=by
  intro s a next Q hH hops _ hn
  obtain ⟨i,hi,hisz,hzo,hzl,hpos,hzone⟩:=yV hz
  have hxv:=hops x (by simp [ho,Op.operands,Call.operands]) _ hx
  obtain ⟨m,hm⟩:=hH.obj id ob hob
  have htr:l'.map g=ob.rows.take off:=by rw [hr,<- hl,List.map_take]
  have hlen':(l'.map g).length<=ob.rows.length:=by rw [htr];simp;omega
  have hvt:VR s (.bC []) (.tuple #[]):=.bC rfl λi y w hy=>by simp at hy
  obtain ⟨z,hz2,hzr⟩:=xR hzo s.w
  generalize hu:a.eval x=u at hxv
  have fin:∀ (cur cur':Array Value) (fr:Nat×Nat) (w':World),wP s ob m cur fr->w'.os=s.w.os->w'.tape=s.w.tape->w'.output=s.w.output->w'.heap.size=s.w.heap.size->(∀ k,k≠m.b->w'.heap[k]?=s.w.heap[k]?) ->
      w'.heap[m.b]?=some (.cells cur' ob.elem fr)->cur'.size=cur.size->(∀ k,k<off*sz->cur'[k]?=cur[k]?)->(∀ (k:Nat) (v:Value),cur'[k]?=some v->v.oneCell'=true) ->
      (execOp a.eval o).run P s.w=.ok (.value (.tuple #[])) w'->o.wp P a s.w next Q:=by
    intro cur cur' fr w' hb q1 q2 q3 q4 q5 q6 q7 q8 q9 q10
    obtain ⟨s',g1,gu,g2,g3⟩:=UI hH id ob m cur cur' fr (l'.map g) w' hob hm.hm hb hmt q1 q2 q3 q4 q5 q6 q7 (Nat.le_trans hlen' hb.hlen)
      (λi r hir=>by rw [htr] at hir;exact hb.hr i r (by rw [List.getElem?_take] at hir;split at hir;exact hir;cases hir))
      (λi r j y v hir hj hv=>by
        rw [htr,List.getElem?_take] at hir
        split at hir
        · rename_i hio
          have hj':j<sz:=by have:=(List.getElem?_eq_some_iff.1 hj).1;rw [hb.hr i r hir,hosz] at this;exact this
          have:i*sz+j<off*sz:=by
            have h1:(i+1)*sz<=off*sz:=Nat.mul_le_mul_right _ hio
            rw [Nat.add_mul] at h1;omega
          rw [hosz,q8 _ this,<- hosz] at hv
          exact hb.hv i r j y v hir hj hv
        · cases hir) q9
    refine lT (w':=s'.w) (v:=.tuple #[]) (by rw [g1];exact q10) (hn s' _ (.bC []) _ ⟨rfl,rfl⟩ (g3.vals _ _ hvt) g2 g3 (λk hk=>.inl (gu ▸ hk)))
  cases hxv with
  | sl hk h1 hh =>
    have hh:=hh m hm.hm (hm.dP.trans dP)
    rcases hm.body with ⟨hnil,hrows⟩ | ⟨cur,fr,hb⟩
    · obtain ⟨e1,e2⟩:=hh.1 hnil
      have hup:upd S.hp id (some { ob with rows:=l'.map g })=S.hp:=by
        have hlm:l'.map g=[]:=by rw [htr,hrows];simp
        funext k
        by_cases hk:k=id
        · subst hk;rw [upd_same,hlm,hob,<- hrows]
        · rw [upd_ne _ _ hk]
      have hrun:(execOp a.eval o).run P s.w=.ok (.value (.tuple #[])) s.w:=by
        simp [execOp,ho,resolve,invoke,builtin,Builtin.clear_,hu,e1,run_underlying hT]
      exact lT hrun (hn s _ (.bC []) _ ⟨rfl,rfl⟩ hvt (by rw [hup];exact hH) (by rw [hup];exact Fr.refl _ _) λ_ h=>.inl h)
    · obtain ⟨cap,e1,e2,e3⟩:=hh.2 hb.hnil
      by_cases hl0:len=0
      · refine fin cur cur fr s.w hb rfl rfl rfl rfl (λ_ _=>rfl) hb.hb rfl (λ_ _=>rfl) hb.h1 ?_
        simp [execOp,ho,resolve,invoke,builtin,Builtin.clear_,hu,e1,hl0,run_underlying hT]
      · have hzc:(Builtin.zeroCells z.cells len).toList.length=len*sz:=by rw [Array.length_toList,size_zeroCells,<- Array.length_toList,hz2,hzl]
        have hms:m.sz=sz:=hm.hsz.trans hosz
        have hroom:off*m.sz+0+(Builtin.zeroCells z.cells len).toList.length<=cur.size:=by
          rw [hzc,hb.hcs,hms,hosz]
          have:(off+len)*sz<=m.ct*sz:=Nat.mul_le_mul_right _ (by omega)
          rw [Nat.add_mul] at this;omega
        have hz1:∀ (k:Nat) (v:Value),(Builtin.zeroCells z.cells len).toList[k]?=some v->v.oneCell'=true:=λk v hv=>by
          rw [Array.getElem?_toList] at hv
          simp only [Builtin.zeroCells,Array.getElem?_map] at hv
          obtain ⟨jj,hjj,rfl⟩:=Option.map_eq_some_iff.1 hv
          have hzs:z.cells.size=sz:=by rw [<- Array.length_toList,hz2,hzl]
          have hm':jj % z.cells.size<z.cells.size:=Nat.mod_lt _ (by omega)
          rw [getElem!_pos z.cells _ hm']
          exact tO hzone (jj % z.cells.size) _ (by rw [<- hz2,Array.getElem?_toList];simp [hm'])
        obtain ⟨w',cur',r1,r2,r3,r4,r5,r6,r7,r8,r9⟩:=OG P m.b (off*m.sz) ob.elem fr (Builtin.zeroCells z.cells len).toList 0 cur s.w hb.hb hroom hb.hfr hz1
        refine fin cur cur' fr w' hb r7 r8 r9 r6 r5 r2 r3 (λk hk=>?_) (λk v hv=>?_) ?_
        · rw [r4,if_neg (by rw [hms];omega)]
        · rw [r4] at hv
          split at hv
          · exact hz1 _ v hv
          · exact hb.h1 k v hv
        · simp only [execOp,ho,resolve,invoke,builtin,Builtin.clear_,List.map_toArray,List.map_cons,List.map_nil,hu,e1,Sem.run_bind,Sem.run_pure,Result.andThen_ok,List.getElem?_toArray,List.getElem?_cons_zero,run_underlying hT]
          simp [hl0,hzr,r1]
theorem yA {H:AH} {a b c:List AV} (h:dX H a b) (e:c=b):dX H a c:=e ▸ h
theorem YZ {P:Program} (len cap:Nat) {lo hi mx:Option Value} (i j:Nat) (w:World) (hlo:∃ k,lo=some (.int k (i:Int))) (hhi:∃ k,hi=some (.int k (j:Int))) (hmx:∃ k,mx=some (.int k (j:Int)))
    (hij:i<=j) (hj:j<=cap):(Instr.sliceBounds true len cap lo hi mx).run P w=.ok (i,j,j) w:=by
  have a1:(0:Int)<=(i:Int):=by omega
  have a2:(0:Int)<=(j:Int):=by omega
  have a3:(i:Int)<=(j:Int):=by omega
  have a4:(j:Int)<=(cap:Int):=by omega
  have a5:(j:Int)<=(j:Int):=by omega
  obtain ⟨k,rfl⟩:=hlo
  obtain ⟨k1,rfl⟩:=hhi
  obtain ⟨k2,rfl⟩:=hmx
  simp only [Instr.sliceBounds,Sem.run_bind,Sem.run_pure,Result.andThen_ok,Option.isSome_some,if_true,run_sliceBound,a1,a2,a3,a4,a5,Int.toNat_natCast]
theorem qG.TK {s:Sit} {ρ:Operand->Value} {d i:Nat} {p:Operand} (h:qG S d (some p) i) (hv:∀ av,S.ev p=some av->VR s av (ρ p)):∃ k,(some p).map ρ=some (.int k (i:Int)):=by
  cases h with
  | yes h e=>subst e;exact ⟨_,congrArg some (hv _ h).jU⟩
theorem X9 {e:TypeId} {sz id aS off off' len i j:Nat} {b:Bool} {lo hi mx:Operand} {ob:cB} (ho:o.op=.slice T x (some lo) (some hi) (some mx)) (hT:P.underlying T=some (.slice e)) (he:gT P e=some (sz,b)) (hx:S.ev x=some (.sl id aS off len))
    (hob:S.hp id=some ob) (dP:ob.aS=aS) (hsz:ob.sz=sz) (hlo:qG S 0 (some lo) i) (hhi:qG S len (some hi) j) (hmx:qG S len (some mx) j) (hij:i<=j) (hj:j<=len) (ho':(if j=i then off else off+i)=off'):eB P o S (.sl id aS off' (j-i)) :=
  kF λs ρ hH h=>by
    have hv:=h x (by simp [ho,Op.operands]) _ hx
    generalize hu:ρ x=u at hv
    have b1:=hlo.TK (s:=s) (ρ:=ρ) λav=>h lo (by simp [ho,Op.operands]) av
    have b2:=hhi.TK (s:=s) (ρ:=ρ) λav=>h hi (by simp [ho,Op.operands]) av
    have b3:=hmx.TK (s:=s) (ρ:=ρ) λav=>h mx (by simp [ho,Op.operands]) av
    obtain ⟨m,hm⟩:=hH.obj id ob hob
    cases hv with
    | sl hk h1 hh =>
      have hh:=hh m hm.hm (hm.dP.trans dP)
      cases hn:m.nil with
      | true =>
        obtain ⟨q1,q2⟩:=hh.1 hn
        have hj0:j=0:=by omega
        have hi0:i=0:=by omega
        subst hj0 hi0
        have hb:=YZ (P:=P) 0 0 0 0 s.w b1 b2 b3 (Nat.le_refl _) (Nat.le_refl _)
        refine ⟨.slice none 0 0,.sl hk rfl λm' hm' _=>?_,?_⟩
        · rw [hm.hm] at hm';cases hm'
          exact ⟨λ_=>⟨rfl,rfl⟩,λh=>by rw [hn] at h;cases h⟩
        · simp only [execOp,ho,hu,q1,Instr.sliceAt,Instr.slice,Sem.run_bind,run_underlying hT,Result.andThen_ok,hb,oZ he,Sem.run_pure,if_true]
      | false =>
        obtain ⟨cap,q1,q2,q3⟩:=hh.2 hn
        have hms:m.sz=sz:=hm.hsz.trans hsz
        have hb:=YZ (P:=P) len cap i j s.w b1 b2 b3 hij (by omega)
        by_cases hji:j=i
        · rw [if_pos hji] at ho'
          subst ho' hji
          refine ⟨.slice (some ⟨m.b,off*m.sz,none⟩) 0 0,.sl hk rfl λm' hm' _=>?_,?_⟩
          · rw [hm.hm] at hm';cases hm'
            exact ⟨λh=>(by rw [hn] at h;cases h),λ_=>⟨0,by rw [Nat.sub_self],by omega,by omega⟩⟩
          · simp only [execOp,ho,hu,q1,Instr.sliceAt,Instr.slice,Sem.run_bind,run_underlying hT,Result.andThen_ok,hb,oZ he,Sem.run_pure,if_true,Nat.sub_self]
        · rw [if_neg hji] at ho'
          subst ho'
          simp only [Option.map_some] at hb
          refine ⟨.slice (some ⟨m.b,(off+i)*m.sz,none⟩) (j-i) (j-i),.sl hk rfl λm' hm' _=>?_,?_⟩
          · rw [hm.hm] at hm';cases hm'
            exact ⟨λh=>(by rw [hn] at h;cases h),λ_=>⟨j-i,rfl,by omega,by omega⟩⟩
          · simp only [execOp,ho,hu,q1,Instr.sliceAt,Instr.slice,Sem.run_bind,run_underlying hT,Result.andThen_ok,hb,oZ he,Sem.run_pure,Option.map_some,addr_add,if_neg hji,hms,Nat.add_mul]
end
section
variable {P:Program} {n:NT} {S:AS} {o:Oper} {T:TypeId} {x y:Operand} {α:Type}
theorem mU {e:TypeId} {sz id aS off k:Nat} {b:Bool} {kk:IntKind} {i:Int} {ob:cB} {l:List α} {v:α} (ho:o.op=.indexAddr T x y) (hT:P.underlying T=some (.slice e)) (he:gT P e=some (sz,b))
    (hx:S.ev x=some (.sl id aS off k)) (hy:S.ev y=some (.sc (.int kk i))) (hob:S.hp id=some ob) (dP:ob.aS=aS) (hsz:ob.sz=sz) (hk:0<=i/\i<(k:Int)) (hrl:ob.rows.length=l.length) (h:ix l ((off:Int)+i)=some v):eB P o S (.pt id aS ((off:Int)+i).toNat 0):=by
  have hlt:=w9 h
  have e1:((off:Int)+i).toNat=off+i.toNat:=by omega
  have:=EH.sl (S:=S) (sz:=sz) (id:=id) (aS:=aS) (off:=off) (len:=k) (i:=i.toNat) hob dP hsz (by omega) (by omega)
  rw [e1]
  exact mQ ho hT he hx hy (by omega) this
theorem VW {β:Type} {g:β->List AV} {l l':List β} {k:Nat} {v:β} {c:List AV} (e:l.set k v=l') (hc:g v=c):(l.map g).set k c=l'.map g:=by rw [<- e,List.map_set,hc]
end
def rl {α:Type}:List (Nat×α)->α->Nat->α
  | [],d,_=>d
  | (j,v) :: r,d,i=>bif Nat.beq i j then v else rl r d i
section
variable {P:Program} {n:NT} {ops:List Oper} {rdl kpl:Nat->List Nat} {pu:Nat->Bool} {K:AS->Prop} {pi:List Nat} {i t:Nat} {o:Oper} {f:Nat->Option AV} {hp:AH} {x y:Operand} {v:AV}
end
section
variable {P:Program} {n:NT} {Q0:Go.Exit->AS->Prop} {st:List Fm} {cs:List Code} {f:Nat->Option AV} {hp:AH} {ops rest:List Oper} {o:Oper} {x y:Operand}
theorem sS (ob':cB) {T id aS row off k:Nat} {b:Bool} {ob:cB} {r:List AV} {v:AV} (hT0:gT P T=some (k,b)) (h:RR P n Q0 st ops rest cs ⟨f,upd hp id (some ob')⟩) (ho:o.op=.store T x y:=by rfl) (hx:(AS.mk f hp).ev x=some (.pt id aS row off):=by rfl) (hy:(AS.mk f hp).ev y=some v:=by rfl)
    (hob:hp id=some ob:=by rfl) (dP:ob.aS=aS:=by rfl) (hmt:ob.mt=true:=by rfl) (hr:ob.rows[row]?=some r:=by rfl) (hcl:v.cells.length=k:=by rfl) (hfit0:Nat.ble (off+k) r.length=true:=by rfl) (h1:jS v.cells=true:=by rfl)
    (e:{ ob with rows:=ob.rows.set row (putRow r off v.cells) }=ob':=by rfl) (hw:Wd ops ⟨f,hp⟩ o=some true:=by rfl) (hd:o.dst=none:=by rfl):RR P n Q0 st ops (o :: rest) cs ⟨f,hp⟩ :=
  aAR hw hd (iQ (iG ho hT0 hx hy hob dP hmt hr hcl hfit0 h1) e) h
theorem sA (id:Nat) {T t:Nat} {zs:List Value} (hz:zeroOf P T=some zs) (h:∀ aS,RR P n Q0 st ops rest cs ⟨upd f t (some (.pt id aS 0 0)),upd hp id (some ⟨T,zs.length,true,true,aS,[zs.map .sc]⟩)⟩)
    (ho:o.op=.alloc T:=by rfl) (h1:lI zs=true:=by rfl) (hw:Wd ops ⟨f,hp⟩ o=some true:=by rfl) (hd:o.dst=some t:=by rfl) (hn:Nat.blt t n.n=true:=by rfl):RR P n Q0 st ops (o :: rest) cs ⟨f,hp⟩ :=
  QN hw hd hn (RS id .any ho hz h1) (by rintro _ _ ⟨v,-,rfl,rfl⟩;exact h v)
theorem sB (id:Nat) {T t:Nat} {v:AV} (h:∀ aS,RR P n Q0 st ops rest cs ⟨upd f t (some (.pt id aS 0 0)),upd hp id (some ⟨T,v.cells.length,true,true,aS,[v.cells]⟩)⟩)
    (ho:o.op=.box T x:=by rfl) (hx:(AS.mk f hp).ev x=some v:=by rfl) (h1:jS v.cells=true:=by rfl) (hw:Wd ops ⟨f,hp⟩ o=some true:=by rfl) (hd:o.dst=some t:=by rfl) (hn:Nat.blt t n.n=true:=by rfl):RR P n Q0 st ops (o :: rest) cs ⟨f,hp⟩ :=
  QN hw hd hn (TB id .any ho hx h1) (by rintro _ _ ⟨v,-,rfl,rfl⟩;exact h v)
def evs (S:AS):List Operand->Option (List AV)
  | []=>some []
  | x :: r=>match S.ev x with
    | some v=>match evs S r with
      | some vs=>some (v :: vs)
      | none=>none
    | none=>none
theorem J2 {S:AS}:∀ {as:List Operand} {vs:List AV},evs S as=some vs->EvL S as vs
  | [],vs,h=>by simp only [evs,Option.some.injEq] at h;subst h;exact .nil
  | x :: r,vs,h=>by
    unfold evs at h
    split at h
    · rename_i v hv
      split at h
      · rename_i us hu
        simp only [Option.some.injEq] at h;subst h;exact .cons hv (J2 hu)
      · cases h
    · cases h
theorem sC {fo:Operand} {as:List Operand} {ts:Array TypeId} {k t:Nat} {first cap vs args:List AV} {v:AV} (hc:bP P k=true) (hp':PP P k args (λy=>y=v)) (h:RR P n Q0 st ops rest cs ⟨upd f t (some v),hp⟩)
    (ho:o.op=.call { callee:=.value fo,args:=as.toArray,argTypes:=ts }:=by rfl) (hf:(AS.mk f hp).ev fo=some (.fn (.func k) first cap):=by rfl) (ha:evs (AS.mk f hp) as=some vs:=by rfl)
    (hcv:first++vs++cap=args:=by rfl) (hw:Wd ops ⟨f,hp⟩ o=some true:=by rfl) (hd:o.dst=some t:=by rfl) (hn:Nat.blt t n.n=true:=by rfl):RR P n Q0 st ops (o :: rest) cs ⟨f,hp⟩ :=
  OS hw hd hn (ND ho hf (J2 ha) hc (by rw [hcv];exact dX.refl _) hp') h
theorem sY {t:Nat} {v:AV} (hy:eB P o ⟨f,hp⟩ v) (h:RR P n Q0 st ops rest cs ⟨upd f t (some v),hp⟩) (hw:Wd ops ⟨f,hp⟩ o=some true:=by rfl) (hd:o.dst=some t:=by rfl) (hn:Nat.blt t n.n=true:=by rfl):RR P n Q0 st ops (o :: rest) cs ⟨f,hp⟩:=OS hw hd hn hy h
theorem wR {S:AS} {rs:List ResultVar} {vs:List AV} {G:List AV->AH->Prop} (hret:∀ (S':AS) (vs:List AV) (H2:AH),lY P S' rs vs->(∀ t v,H2 t=some v->S'.hp t=some v)->G vs H2->Q0 .ret S') (hR:lY P S rs vs) (h:G vs S.hp):eX P n (QQ P n Q0 st) (.ret :: cs) S :=
  aMI (hret S vs S.hp hR (λ_ _ h=>h) h)
theorem rC {S:AS} {t T k id aS row off:Nat} {b:Bool} {v:AV} {ob:cB} {r:List AV} {rs:List ResultVar} {vs:List AV} (hT:gT P T=some (k,b)) (hr:lY P S rs vs) (h:S.sl t=some (.pt id aS row off):=by rfl) (ho:S.hp id=some ob:=by rfl) (hv:ob.aS=aS:=by rfl)
    (hw:ob.rows[row]?=some r:=by rfl) (hc:jZ k b (r.drop off)=some v:=by rfl):lY P S (.cell t T :: rs) (v :: vs):=.cell h (.pt ho hv hw) hT hc hr
theorem rT {S:AS} {t:Nat} {v:AV} {rs:List ResultVar} {vs:List AV} (hr:lY P S rs vs) (h:S.sl t=some v:=by rfl):lY P S (.tmp t :: rs) (v :: vs):=.tmp h hr
end
section
variable {P:Program} {S:AS} {o:Oper} {T K E:TypeId} {x y:Operand}
theorem aML {l:List Int} {k:Nat} (h:l.length=k):l.map int=(List.range k).map λi=>int (l.getD i 0):=by
  subst h
  refine List.ext_getElem (by simp) λi h1 h2=>?_
  simp only [List.getElem_map,List.getElem_range]
  have h3:i<l.length:=by simpa using h1
  simp [List.getD,List.getElem?_eq_getElem h3]
theorem aJF {id aS k:Nat} {ob:cB} {l:List Int} (ho:o.op=.load T x) (hT:gT P T=some (k,true)) (hx:S.ev x=some (.pt id aS 0 0))
    (hob:S.hp id=some ob) (dP:ob.aS=aS) (hr:ob.rows=[l.map int]) (hl:l.length=k):eB P o S (.agg ((List.range k).map λi=>int (l.getD i 0))) :=
  iK ho hT hx (.pt hob dP (r:=l.map int) (by rw [hr];rfl)) (by
    rw [<- aML hl]
    show jZ k true (l.map int)=_
    unfold jZ
    rw [if_pos rfl,if_pos (by simp [hl]),List.take_of_length_le (by simp [hl])])
structure MapAt (s:Sit) (H:AH) (b:Nat) (ks:List Int) (xs:List AV):Prop where
  him:¬ s.Im b
  hno:¬ lN s H b
  at':∃ es clock,s.w.heap[b]?=some (.map es clock)/\es.toList.map (·.key)=ks.map (Value.int .i64)/\xs.length=es.toList.length/\∀ (i:Nat) (x:AV) (e:MapEntry),xs[i]?=some x->es.toList[i]?=some e->VR s x e.val
variable {n:NT} {ops rest:List Oper} {K':AS->Prop}
variable {Q0:Go.Exit->AS->Prop} {st:List Fm} {cs:List Code} {b:Nat} {ks:List Int} {xs:List AV}
end
section
variable {P:Program} {n:NT}
structure PU (s:Sit) (H:AH) (b:Nat) (l:List UInt8) (p:Nat):Prop where
  him:¬ s.Im b
  hno:¬ lN s H b
  at':s.w.heap[b]?=some (.stringIter (bs l) p)
variable {S:AS} {ops rest:List Oper} {o:Oper} {K:Nat->List UInt8->AS->Prop}
variable {Q0:Go.Exit->AS->Prop} {st:List Fm} {cs:List Code}
end
section
variable {P:Program} {S:AS} {o:Oper} {T K E:TypeId} {x y:Operand} {α:Type}
end
def G4 (es:List MapEntry) (m:Int->Option Int):Prop :=
  ∀ k:Int,match m k with
    | some v=>∀ j,∃ i,Instr.findNow (.int .i64) (.int .i64 k) es j=some (some (i,.int .i64 v))
    | none=>∀ j,Instr.findNow (.int .i64) (.int .i64 k) es j=some none
inductive MK where
  | mk
  | ins (k v:Int)
  | lk (k:Int)
  | pu
abbrev Sl:=Option (Nat×(Nat->AV))
def wr:List Sl->Nat->Nat->Option (Nat×(Nat->AV))
  | [],_,_=>none
  | none :: r,i,t=>wr r (i+1) t
  | some (t',v) :: r,i,t=>bif Nat.beq t' t then some (i,v) else wr r (i+1) t
structure OX (s:Sit) (H:AH) (b:Nat) (m:Int->Option Int):Prop where
  him:¬ s.Im b
  hno:¬ lN s H b
  at':∃ es clock,s.w.heap[b]?=some (.map es clock)/\G4 es.toList m
def left (N:Nat) (listed:Array Bool):Nat:=((List.range N).filter λi=>!(listed.getD i true)).length
section
variable {P:Program} {n:NT} {ops:List Oper} {T K E:TypeId} {tm mkI:Nat} {E0:List (Option (Nat×Option AV))} {I:List (Nat×Int×Int)} {cs:List MK} {f:Nat->Option AV} {hp:AH} {s0:Sit}
end
def Sit.put (s:Sit) (l:Nat) (o:Obj):Sit:={ s with w:=s.w.putObj l o }
def noc:Obj->Bool
  | .cells ..=>false
  | _=>true
structure qH (s:Sit) (l:Nat) (o:Obj):Prop where
  im:¬ s.Im l
  at':s.w.heap[l]?=some o
  nc:noc o=true
section
variable {P:Program} {s s' s1 s3:Sit} {H H' H1 H2:AH} {l:Nat} {o o1 o2:Obj}
def Sit.al (s:Sit) (o:Obj):Sit:={ s with w:=s.w.alloc o }
end
abbrev mk (D:Nat):Deferred:={ target:=.collected D,args:=#[] }
section
variable {P:Program} {l D p:Nat} {fn:FuncId} {tmps:Array Value} {assign body:Code} {s:Sit} {H:AH} {x:AV} {v:Value}
end
section
variable {P:Program}
end
section
variable {P:Program} {n:NT} {ops:List Oper} {rdl kpl:Nat->List Nat} {bm:List Nat} {L:Nat} {K:AS->Prop}
end
section
variable {P:Program} {n:NT} {S:AS} {ops:List Oper} {o:Oper}
variable {Q0:Go.Exit->AS->Prop} {st:List Fm} {cs:List Code}
end
set_option maxRecDepth 100000
section
variable {P:Program} {l D p:Nat} {fn:FuncId} {tmps:Array Value} {assign body:Code} {s:Sit} {H:AH} {x:AV} {v:Value}
end
section
variable {P:Program}
end
section
variable {P:Program} {n:NT} {S:AS} {o:Oper} {T:TypeId} {x y:Operand} {α:Type}
end
end Go.Pv
