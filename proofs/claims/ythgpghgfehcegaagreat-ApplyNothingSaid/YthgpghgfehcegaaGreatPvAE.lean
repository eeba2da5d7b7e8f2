/- More operations: methods of interfaces, type tests, arrays by a number, clear, the greatest of three. -/
import Derived.Test.YthgpghgfehcegaaGreatPvAD
import Derived.ChangeKeysEq
set_option linter.unusedVariables false
set_option linter.unusedSimpArgs false
namespace Go.Pv
section
variable {P:Program} {n:NT} {S:AS} {o:Oper} {T:TypeId} {x y z:Operand}
theorem zP {kk:IntKind} {a b c r:Int} {ts:Array TypeId} (ho:o.op=.call { callee:=.builtin .max,args:=#[x,y,z],argTypes:=ts }) (hx:S.ev x=some (.sc (.int kk a))) (hy:S.ev y=some (.sc (.int kk b))) (hz:S.ev z=some (.sc (.int kk c)))
    (hr:(if c>(if b>a then b else a) then c else (if b>a then b else a))=r):bJ P o S (.sc (.int kk r)) :=
  fV λs ρ _ h=>⟨_,.sc _,by
    have h1:=(h x (by simp [ho,Op.operands,Call.operands]) _ hx).dP
    have h2:=(h y (by simp [ho,Op.operands,Call.operands]) _ hy).dP
    have h3:=(h z (by simp [ho,Op.operands,Call.operands]) _ hz).dP
    subst hr;simp [execOp,ho,h1,h2,h3,resolve,invoke,builtin,Builtin.max_,Builtin.max2]⟩
theorem aMS {t tx:TypeId} {ms:Array (String×TypeId)} (hT:P.underlying t=some (.interface ms)) (v:Value) (w:World):(Op.equal t (.iface tx v) .nilIface).run P w=.ok false w:=by
  unfold Op.equal Op.maxDepth
  rw [Op.equalIn]
  simp only [Sem.run_bind,run_underlying hT,Result.andThen_ok,Sem.run_pure]
theorem aG5 {t:TypeId} {ms:Array (String×TypeId)} (hT:P.underlying t=some (.interface ms)) (w:World):(Op.equal t .nilIface .nilIface).run P w=.ok true w:=by
  unfold Op.equal Op.maxDepth
  rw [Op.equalIn]
  simp only [Sem.run_bind,run_underlying hT,Result.andThen_ok,Sem.run_pure]
theorem BM {s:Sit} {t:TypeId} {v:AV} {u:Value} (h:VR s (.dW t v) u):∃ u',u=.iface t u'/\VR s v u':=by cases h with | dW h=>exact ⟨_,rfl,h⟩
theorem qU {Ty:TypeId} {ms:Array (String×TypeId)} {t:TypeId} {v:AV} (ho:o.op=.binOp .eql T x y Ty) (hT:P.underlying T=some (.interface ms)) (hx:S.ev x=some (.dW t v)) (hy:S.ev y=some (.sc .nilIface)):bJ P o S (aF false) :=
  fV λs ρ _ h=>⟨_,.sc _,by
    obtain ⟨u,h1,_⟩:=BM (h x (by simp [ho,Op.operands]) _ hx)
    have h2:=(h y (by simp [ho,Op.operands]) _ hy).dP
    simp [execOp,ho,h1,h2,eqGuard,binOp,aMS hT]⟩
theorem U0 {Ty:TypeId} {ms:Array (String×TypeId)} {c:Value} (ho:o.op=.binOp .eql T x (.const c) Ty) (hT:P.underlying T=some (.interface ms)) (hx:S.ev x=some (.sc .nilIface)) (hc:c=.nilIface):bJ P o S (aF true) :=
  fV λs ρ _ h=>⟨_,.sc _,by
    have h1:=(h x (by simp [ho,Op.operands]) _ hx).dP
    have h2:ρ (.const c)=.nilIface:=by
      have:=(h (.const c) (by simp [ho,Op.operands]) (.sc c) rfl).dP
      rw [this,hc]
    simp [execOp,ho,h1,h2,eqGuard,binOp,aG5 hT]⟩
def TJ:TypeDesc->Bool
  | .pointer _=>true
  | _=>false
def kH (P:Program) (t:TypeId) (nm:String):Option FuncId :=
  match P.info? t,P.underlying t with
  | some i,some d =>
    match i.methods.find? (·.name == nm) with
    | some m=>if m.path.isEmpty && !TJ d then (match m.func with
      | some (f,false)=>some f
      | _=>none) else none
    | none=>none
  | _,_=>none
theorem aME {t:TypeId} {nm:String} {f:FuncId} (h:kH P t nm=some f) (v:Value) (k:Nat) (w:World):(method (k+1) t v nm).run P w=.ok (f,v) w:=by
  unfold kH at h
  split at h
  · rename_i i d hi hd
    split at h
    · rename_i m hm
      split at h
      · rename_i hp
        simp only [Bool.and_eq_true,Bool.not_eq_true'] at hp
        have hp':m.path.toList=[]:=by simpa using hp.1
        rw [method]
        simp only [Sem.run_bind,run_typeInfo _ hi,Result.andThen_ok,hm,hp',follow,Sem.run_pure]
        split at h
        · rename_i f' hf
          cases h
          simp only [hf,receiverAt,Sem.run_bind,run_underlying hd,Result.andThen_ok]
          cases d <;> first | (simp [Place.get];done) | (simp [TJ] at hp;done)
        · cases h
      · cases h
    · cases h
  · cases h
theorem aGR {r:Operand} {nm:String} {as:List Operand} {ts:Array TypeId} {k:FuncId} {t:TypeId} {v:AV} {vs:List AV} {s:Sit} {ρ:Operand->Value} (ho:o.op=.call { callee:=.invoke r nm,args:=as.toArray,argTypes:=ts })
    (hr:S.ev r=some (.dW t v)) (hm:kH P t nm=some k) (ha:EvL S as vs) (hc:aT P k=true) (h:∀ x∈o.op.operands,∀ av,S.ev x=some av->VR s av (ρ x)) :
    ∃ us,jI s (v :: vs) us/\(execOp ρ o).run P s.w=.ok (.enter k us) s.w:=by
  obtain ⟨u,hu,hv⟩:=BM (h r (by simp [ho,Op.operands,Call.operands]) _ hr)
  obtain ⟨a1,a2⟩:=ha.val (s:=s) (ρ:=ρ) λq hq=>h q (by simp [ho,Op.operands,Call.operands,hq])
  refine ⟨#[u]++(as.map ρ).toArray,?_,?_⟩
  · have h1:jI s [v] #[u]:=⟨rfl,λi x w hx hw=>by
      cases i with
      | zero=>simp at hx hw;subst hx hw;exact hv
      | succ i=>simp at hx⟩
    exact h1.append ⟨by simp [a1],by simpa using a2⟩
  · have hd:P.types.size+Made.depth=(P.types.size+99)+1:=rfl
    have hx:(#[Value.iface t u]++(as.map ρ).toArray).extract 1 (#[Value.iface t u]++(as.map ρ).toArray).size=(as.map ρ).toArray:=by
      apply Array.ext'
      simp
      exact List.take_of_length_le (by simp)
    have hprog:program.run P s.w=.ok P s.w:=rfl
    simp only [execOp,ho,resolve,List.map_toArray,hu,Sem.run_bind,Sem.run_pure,Result.andThen_ok,invoke]
    rw [show (#[Value.iface t u]++(as.map ρ).toArray)[0]?=some (.iface t u) from by simp]
    simp only [callMethod,Sem.run_bind,hprog,Result.andThen_ok,hd,aME hm]
    rw [hx]
    exact GK hc _ _
theorem aJG {r:Operand} {nm:String} {as:List Operand} {ts:Array TypeId} {k:FuncId} {t:TypeId} {v:AV} {vs:List AV} {R:AV->AH->Prop} (ho:o.op=.call { callee:=.invoke r nm,args:=as.toArray,argTypes:=ts })
    (hr:S.ev r=some (.dW t v)) (hm:kH P t nm=some k) (ha:EvL S as vs) (hc:aT P k=true) (hp:PC P k (v :: vs) S.hp R):bQ P o S no any R:=by
  intro s a next Q hH hops _ hn
  obtain ⟨us,h1,h2⟩:=aGR (P:=P) ho hr hm ha hc hops
  unfold Oper.wp
  rw [h2]
  exact (hp s us hH h1).mono λe w' ⟨y,H',s',v,q1,q2,q3,q4,q5,q6⟩=>by subst q2 q3;exact hn s' v y H' q1 q4 q5 q6 (λ_ _=>.inr trivial)
def wN:TypeDesc->Bool
  | .interface _=>false
  | _=>true
theorem aHG {t:TypeId} {d:TypeDesc} {v:AV} (ho:o.op=.typeAssert x T t true) (hT:P.underlying t=some d) (hd:wN d=true) (hx:S.ev x=some (.dW t v)):bJ P o S (.aU [v,aF true]) :=
  fV λs ρ _ h=>by
    obtain ⟨u,hu,hv⟩:=BM (h x (by simp [ho,Op.operands]) _ hx)
    refine ⟨.tuple #[u,.bool true],.aU rfl λi y w hy hw=>?_,?_⟩
    · cases i with
      | zero=>simp at hy hw;subst hy hw;exact hv
      | succ i=>cases i with
        | zero=>simp at hy hw;subst hy hw;exact .sc _
        | succ i=>simp at hy
    · simp only [execOp,ho,hu,Instr.typeAssert,Sem.run_bind,run_underlying hT,Result.andThen_ok]
      cases d <;> first | (simp [wN] at hd;done) | simp [Instr.typeAssert]
def CO (P:Program) (t:TypeId):Bool :=
  match (P.info? t).bind (·.zero) with
  | some (.agg cs)=>cs.isEmpty
  | _=>false
theorem aB2 {t:TypeId} (h:CO P t=true) (w:World):(zeroValue t).run P w=.ok (.agg #[]) w:=by
  unfold CO at h
  cases hi:P.info? t with
  | none=>rw [hi] at h;simp at h
  | some i =>
    rw [hi] at h
    simp only [Option.bind_some] at h
    split at h
    · rename_i cs hz
      have:cs=#[]:=by simpa using h
      subst this
      simp [zeroValue,typeInfo,program,Sem.run,hi,hz]
    · cases h
theorem YF {t tx:TypeId} {d:TypeDesc} {v:AV} (ho:o.op=.typeAssert x T t true) (hT:P.underlying t=some d) (hd:wN d=true) (hx:S.ev x=some (.dW tx v)) (hne:Nat.beq tx t=false)
    (hz:CO P t=true):bJ P o S (.aU [.agg [],aF false]) :=
  fV λs ρ _ h=>by
    obtain ⟨u,hu,hv⟩:=BM (h x (by simp [ho,Op.operands]) _ hx)
    have hne':tx≠t:=Nat.ne_of_beq_eq_false hne
    refine ⟨.tuple #[.agg #[],.bool false],.aU rfl λi y w hy hw=>?_,?_⟩
    · cases i with
      | zero=>simp at hy hw;subst hy hw;exact .agg rfl λi y w hy=>by simp at hy
      | succ i=>cases i with
        | zero=>simp at hy hw;subst hy hw;exact .sc _
        | succ i=>simp at hy
    · simp only [execOp,ho,hu,Instr.typeAssert,Sem.run_bind,run_underlying hT,Result.andThen_ok]
      cases d <;> first | (simp [wN] at hd;done) | simp [Instr.typeAssert,hne',aB2 hz]
theorem FM {e N id aG:Nat} {b:Bool} {ob:bC} {kk:IntKind} {i:Int} {r:List AV} (ho:o.op=.indexAddr T x y) (hT:P.underlying T=some (.array N e)) (he:dL P e=some (1,b)) (hx:S.ev x=some (.pt id aG 0 0)) (hy:S.ev y=some (.sc (.int kk i)))
    (hob:S.hp id=some ob) (bL:ob.aG=aG) (hr:ob.rows=[r]) (hi:0<=i/\i<(N:Int)):bJ P o S (.pt id aG 0 i.toNat):=by
  have h:=pQ (r:=r) ho hT he hx hy hob bL (by rw [hr];rfl) hi
  rwa [Nat.zero_add,Nat.mul_one] at h
theorem aNS {id aG:Nat} {ob:bC} {l:List Int} {i v:Int} (ho:o.op=.load T x) (hT:dL P T=some (1,false)) (hx:S.ev x=some (.pt id aG 0 i.toNat))
    (hob:S.hp id=some ob) (bL:ob.aG=aG) (hr:ob.rows=[l.map int]) (h:ix l i=some v):bJ P o S (int v) :=
  dV ho hT hx (.pt hob bL (r:=l.map int) (by rw [hr];rfl)) (by
    have h1:(l.map int)[i.toNat]?=some (int v):=cZ (f:=int) h
    show ((l.map int).drop i.toNat).head?=_
    rw [List.head?_drop];exact h1)
theorem UW {r:List AV} {k:Nat} {v:AV} (h:k<r.length):putRow r k [v]=r.set k v:=by
  unfold putRow
  rw [List.set_eq_take_append_cons_drop,if_pos h]
  simp
theorem aMJ {id aG:Nat} {ob:bC} {l l':List Int} {i v w:Int} (ho:o.op=.store T x y) (hT:dL P T=some (1,false)) (hx:S.ev x=some (.pt id aG 0 i.toNat)) (hy:S.ev y=some (int v))
    (hob:S.hp id=some ob) (bL:ob.aG=aG) (hmt:ob.mt=true) (hr:ob.rows=[l.map int]) (h:ix l i=some w) (hl:l.set i.toNat v=l') :
    bQ P o S no no (λz H'=>z=.sc undef/\H'=upd S.hp id (some { ob with rows:=[l'.map int] })):=by
  have hlt:=pI h
  have h1:=dZ (P:=P) (r:=l.map int) ho hT hx hy hob bL hmt (by rw [hr];rfl) rfl (Nat.ble_eq_true_of_le (by rw [List.length_map];omega)) rfl
  have e:ob.rows.set 0 (putRow (l.map int) i.toNat [int v])=[l'.map int]:=by
    rw [hr,UW (by rw [List.length_map];exact hlt),<- hl,List.map_set];rfl
  show bQ P o S no no _
  have e2:(int v).cells=[int v]:=rfl
  rw [e2,e] at h1
  exact h1
theorem aDB {α:Type} {e sz id aG off len:Nat} {zs:List Value} {ob:bC} {g:α->List AV} {l l':List α} (ho:o.op=.call { callee:=.builtin .clear,args:=#[x],argTypes:=#[T] }) (hT:P.underlying T=some (.slice e)) (hz:fJ P e=some (sz,zs))
    (hx:S.ev x=some (.sl id aG off len)) (hob:S.hp id=some ob) (bL:ob.aG=aG) (hmt:ob.mt=true) (hosz:ob.sz=sz) (hr:ob.rows=l.map g) (hl:l.take off=l') :
    bQ P o S no no (λz H'=>z=.aU []/\H'=upd S.hp id (some { ob with rows:=l'.map g })):=by
  intro s a next Q hH hops _ hn
  obtain ⟨i,hi,hisz,hzo,hzl,hpos,hzone⟩:=wC hz
  have hxv:=hops x (by simp [ho,Op.operands,Call.operands]) _ hx
  obtain ⟨m,hm⟩:=hH.obj id ob hob
  have htr:l'.map g=ob.rows.take off:=by rw [hr,<- hl,List.map_take]
  have hlen':(l'.map g).length<=ob.rows.length:=by rw [htr];simp;omega
  have hvt:VR s (.aU []) (.tuple #[]):=.aU rfl λi y w hy=>by simp at hy
  obtain ⟨z,hz2,hzr⟩:=qY hzo s.w
  generalize hu:a.eval x=u at hxv
  have fin:∀ (cur cur':Array Value) (fr:Nat×Nat) (w':World),oZ s ob m cur fr->w'.os=s.w.os->w'.tape=s.w.tape->w'.output=s.w.output->w'.heap.size=s.w.heap.size->(∀ k,k≠m.b->w'.heap[k]?=s.w.heap[k]?) ->
      w'.heap[m.b]?=some (.cells cur' ob.elem fr)->cur'.size=cur.size->(∀ k,k<off*sz->cur'[k]?=cur[k]?)->(∀ (k:Nat) (v:Value),cur'[k]?=some v->v.oneCell'=true) ->
      (execOp a.eval o).run P s.w=.ok (.value (.tuple #[])) w'->o.wp P a s.w next Q:=by
    intro cur cur' fr w' hb q1 q2 q3 q4 q5 q6 q7 q8 q9 q10
    obtain ⟨s',g1,gu,g2,g3⟩:=U6 hH id ob m cur cur' fr (l'.map g) w' hob hm.hm hb hmt q1 q2 q3 q4 q5 q6 q7 (Nat.le_trans hlen' hb.hlen)
      (λi r hir=>by rw [htr] at hir;exact hb.hr i r (by rw [List.getElem?_take] at hir;split at hir;exact hir;cases hir))
      (λi r j y v hir hj hv=>by
        rw [htr,List.getElem?_take] at hir
        split at hir
        · rename_i hio
          have hj':j<sz:=by have:=(List.getElem?_eq_some_iff.1 hj).1;rw [hb.hr i r hir,hosz] at this;exact this
          have:i*sz+j<off*sz:=by
            have h1:(i+1)*sz<=off*sz:=Nat.mul_le_mul_right _ hio
            rw [Nat.add_mul] at h1;omega
          rw [hosz,q8 _ this,<- hosz] at hv
          exact hb.hv i r j y v hir hj hv
        · cases hir) q9
    refine gP (w':=s'.w) (v:=.tuple #[]) (by rw [g1];exact q10) (hn s' _ (.aU []) _ ⟨rfl,rfl⟩ (g3.vals _ _ hvt) g2 g3 (λk hk=>.inl (gu ▸ hk)))
  cases hxv with
  | sl hk h1 hh =>
    have hh:=hh m hm.hm (hm.bL.trans bL)
    rcases hm.body with ⟨hnil,hrows⟩ | ⟨cur,fr,hb⟩
    · obtain ⟨e1,e2⟩:=hh.1 hnil
      have hup:upd S.hp id (some { ob with rows:=l'.map g })=S.hp:=by
        have hlm:l'.map g=[]:=by rw [htr,hrows];simp
        funext k
        by_cases hk:k=id
        · subst hk;rw [upd_same,hlm,hob,<- hrows]
        · rw [upd_ne _ _ hk]
      have hrun:(execOp a.eval o).run P s.w=.ok (.value (.tuple #[])) s.w:=by
        simp [execOp,ho,resolve,invoke,builtin,Builtin.clear_,hu,e1,run_underlying hT]
      exact gP hrun (hn s _ (.aU []) _ ⟨rfl,rfl⟩ hvt (by rw [hup];exact hH) (by rw [hup];exact Fr.refl _ _) λ_ h=>.inl h)
    · obtain ⟨cap,e1,e2,e3⟩:=hh.2 hb.hnil
      by_cases hl0:len=0
      · refine fin cur cur fr s.w hb rfl rfl rfl rfl (λ_ _=>rfl) hb.hb rfl (λ_ _=>rfl) hb.h1 ?_
        simp [execOp,ho,resolve,invoke,builtin,Builtin.clear_,hu,e1,hl0,run_underlying hT]
      · have hzc:(Builtin.zeroCells z.cells len).toList.length=len*sz:=by rw [Array.length_toList,size_zeroCells,<- Array.length_toList,hz2,hzl]
        have hms:m.sz=sz:=hm.hsz.trans hosz
        have hroom:off*m.sz+0+(Builtin.zeroCells z.cells len).toList.length<=cur.size:=by
          rw [hzc,hb.hcs,hms,hosz]
          have:(off+len)*sz<=m.ct*sz:=Nat.mul_le_mul_right _ (by omega)
          rw [Nat.add_mul] at this;omega
        have hz1:∀ (k:Nat) (v:Value),(Builtin.zeroCells z.cells len).toList[k]?=some v->v.oneCell'=true:=λk v hv=>by
          rw [Array.getElem?_toList] at hv
          simp only [Builtin.zeroCells,Array.getElem?_map] at hv
          obtain ⟨jj,hjj,rfl⟩:=Option.map_eq_some_iff.1 hv
          have hzs:z.cells.size=sz:=by rw [<- Array.length_toList,hz2,hzl]
          have hm':jj % z.cells.size<z.cells.size:=Nat.mod_lt _ (by omega)
          rw [getElem!_pos z.cells _ hm']
          exact oF hzone (jj % z.cells.size) _ (by rw [<- hz2,Array.getElem?_toList];simp [hm'])
        obtain ⟨w',cur',r1,r2,r3,r4,r5,r6,r7,r8,r9⟩:=FK P m.b (off*m.sz) ob.elem fr (Builtin.zeroCells z.cells len).toList 0 cur s.w hb.hb hroom hb.hfr hz1
        refine fin cur cur' fr w' hb r7 r8 r9 r6 r5 r2 r3 (λk hk=>?_) (λk v hv=>?_) ?_
        · rw [r4,if_neg (by rw [hms];omega)]
        · rw [r4] at hv
          split at hv
          · exact hz1 _ v hv
          · exact hb.h1 k v hv
        · simp only [execOp,ho,resolve,invoke,builtin,Builtin.clear_,List.map_toArray,List.map_cons,List.map_nil,hu,e1,Sem.run_bind,Sem.run_pure,Result.andThen_ok,List.getElem?_toArray,List.getElem?_cons_zero,run_underlying hT]
          simp [hl0,hzr,r1]
theorem lW {H:AH} {a b c:List AV} (h:bK H a b) (e:c=b):bK H a c:=e ▸ h
theorem J4 {P:Program} (len cap:Nat) {lo hi mx:Option Value} (i j:Nat) (w:World) (hlo:∃ k,lo=some (.int k (i:Int))) (hhi:∃ k,hi=some (.int k (j:Int))) (hmx:∃ k,mx=some (.int k (j:Int)))
    (hij:i<=j) (hj:j<=cap):(Instr.sliceBounds true len cap lo hi mx).run P w=.ok (i,j,j) w:=by
  have a1:(0:Int)<=(i:Int):=by omega
  have a2:(0:Int)<=(j:Int):=by omega
  have a3:(i:Int)<=(j:Int):=by omega
  have a4:(j:Int)<=(cap:Int):=by omega
  have a5:(j:Int)<=(j:Int):=by omega
  obtain ⟨k,rfl⟩:=hlo
  obtain ⟨k1,rfl⟩:=hhi
  obtain ⟨k2,rfl⟩:=hmx
  simp only [Instr.sliceBounds,Sem.run_bind,Sem.run_pure,Result.andThen_ok,Option.isSome_some,if_true,run_sliceBound,a1,a2,a3,a4,a5,Int.toNat_natCast]
theorem mY.D8 {s:Sit} {ρ:Operand->Value} {d i:Nat} {p:Operand} (h:mY S d (some p) i) (hv:∀ av,S.ev p=some av->VR s av (ρ p)):∃ k,(some p).map ρ=some (.int k (i:Int)):=by
  cases h with
  | yes h e=>subst e;exact ⟨_,congrArg some (hv _ h).dP⟩
theorem VX {e:TypeId} {sz id aG off off' len i j:Nat} {b:Bool} {lo hi mx:Operand} {ob:bC} (ho:o.op=.slice T x (some lo) (some hi) (some mx)) (hT:P.underlying T=some (.slice e)) (he:dL P e=some (sz,b)) (hx:S.ev x=some (.sl id aG off len))
    (hob:S.hp id=some ob) (bL:ob.aG=aG) (hsz:ob.sz=sz) (hlo:mY S 0 (some lo) i) (hhi:mY S len (some hi) j) (hmx:mY S len (some mx) j) (hij:i<=j) (hj:j<=len) (ho':(if j=i then off else off+i)=off'):bJ P o S (.sl id aG off' (j-i)) :=
  fV λs ρ hH h=>by
    have hv:=h x (by simp [ho,Op.operands]) _ hx
    generalize hu:ρ x=u at hv
    have b1:=hlo.D8 (s:=s) (ρ:=ρ) λav=>h lo (by simp [ho,Op.operands]) av
    have b2:=hhi.D8 (s:=s) (ρ:=ρ) λav=>h hi (by simp [ho,Op.operands]) av
    have b3:=hmx.D8 (s:=s) (ρ:=ρ) λav=>h mx (by simp [ho,Op.operands]) av
    obtain ⟨m,hm⟩:=hH.obj id ob hob
    cases hv with
    | sl hk h1 hh =>
      have hh:=hh m hm.hm (hm.bL.trans bL)
      cases hn:m.nil with
      | true =>
        obtain ⟨q1,q2⟩:=hh.1 hn
        have hj0:j=0:=by omega
        have hi0:i=0:=by omega
        subst hj0 hi0
        have hb:=J4 (P:=P) 0 0 0 0 s.w b1 b2 b3 (Nat.le_refl _) (Nat.le_refl _)
        refine ⟨.slice none 0 0,.sl hk rfl λm' hm' _=>?_,?_⟩
        · rw [hm.hm] at hm';cases hm'
          exact ⟨λ_=>⟨rfl,rfl⟩,λh=>by rw [hn] at h;cases h⟩
        · simp only [execOp,ho,hu,q1,Instr.sliceAt,Instr.slice,Sem.run_bind,run_underlying hT,Result.andThen_ok,hb,lC he,Sem.run_pure,if_true]
      | false =>
        obtain ⟨cap,q1,q2,q3⟩:=hh.2 hn
        have hms:m.sz=sz:=hm.hsz.trans hsz
        have hb:=J4 (P:=P) len cap i j s.w b1 b2 b3 hij (by omega)
        by_cases hji:j=i
        · rw [if_pos hji] at ho'
          subst ho' hji
          refine ⟨.slice (some ⟨m.b,off*m.sz,none⟩) 0 0,.sl hk rfl λm' hm' _=>?_,?_⟩
          · rw [hm.hm] at hm';cases hm'
            exact ⟨λh=>(by rw [hn] at h;cases h),λ_=>⟨0,by rw [Nat.sub_self],by omega,by omega⟩⟩
          · simp only [execOp,ho,hu,q1,Instr.sliceAt,Instr.slice,Sem.run_bind,run_underlying hT,Result.andThen_ok,hb,lC he,Sem.run_pure,if_true,Nat.sub_self]
        · rw [if_neg hji] at ho'
          subst ho'
          simp only [Option.map_some] at hb
          refine ⟨.slice (some ⟨m.b,(off+i)*m.sz,none⟩) (j-i) (j-i),.sl hk rfl λm' hm' _=>?_,?_⟩
          · rw [hm.hm] at hm';cases hm'
            exact ⟨λh=>(by rw [hn] at h;cases h),λ_=>⟨j-i,rfl,by omega,by omega⟩⟩
          · simp only [execOp,ho,hu,q1,Instr.sliceAt,Instr.slice,Sem.run_bind,run_underlying hT,Result.andThen_ok,hb,lC he,Sem.run_pure,Option.map_some,addr_add,if_neg hji,hms,Nat.add_mul]
end
section
variable {P:Program} {n:NT} {S:AS} {o:Oper} {T:TypeId} {x y:Operand} {α:Type}
theorem jF {e:TypeId} {sz id aG off k:Nat} {b:Bool} {kk:IntKind} {i:Int} {ob:bC} {l:List α} {v:α} (ho:o.op=.indexAddr T x y) (hT:P.underlying T=some (.slice e)) (he:dL P e=some (sz,b))
    (hx:S.ev x=some (.sl id aG off k)) (hy:S.ev y=some (.sc (.int kk i))) (hob:S.hp id=some ob) (bL:ob.aG=aG) (hsz:ob.sz=sz) (hk:0<=i/\i<(k:Int)) (hrl:ob.rows.length=l.length) (h:ix l ((off:Int)+i)=some v):bJ P o S (.pt id aG ((off:Int)+i).toNat 0):=by
  have hlt:=pI h
  have e1:((off:Int)+i).toNat=off+i.toNat:=by omega
  have:=wZ.sl (S:=S) (sz:=sz) (id:=id) (aG:=aG) (off:=off) (len:=k) (i:=i.toNat) hob bL hsz (by omega) (by omega)
  rw [e1]
  exact iM ho hT he hx hy (by omega) this
theorem C5 {β:Type} {g:β->List AV} {l l':List β} {k:Nat} {v:β} {c:List AV} (e:l.set k v=l') (hc:g v=c):(l.map g).set k c=l'.map g:=by rw [<- e,List.map_set,hc]
end
end Go.Pv
