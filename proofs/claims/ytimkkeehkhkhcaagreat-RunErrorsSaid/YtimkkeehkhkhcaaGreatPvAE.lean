/- More operations: methods of interfaces, type tests, arrays by a number, clear, the greatest of three. -/
import Derived.Test.YtimkkeehkhkhcaaGreatPvAD
import Derived.ChangeKeysEq
set_option linter.unusedVariables false
set_option linter.unusedSimpArgs false
namespace Go.Pv
section
variable {P:Program} {n:NT} {S:AS} {o:Oper} {T:TypeId} {x y z:Operand}
theorem OR {kk:IntKind} {a b c r:Int} {ts:Array TypeId} (ho:o.op=.call { callee:=.builtin .max,args:=#[x,y,z],argTypes:=ts }) (hx:S.ev x=some (.sc (.int kk a))) (hy:S.ev y=some (.sc (.int kk b))) (hz:S.ev z=some (.sc (.int kk c)))
    (hr:(if c>(if b>a then b else a) then c else (if b>a then b else a))=r):bS P o S (.sc (.int kk r)) :=
  iK λs ρ _ h=>⟨_,.sc _,by
    have h1:=(h x (by simp [ho,Op.operands,Call.operands]) _ hx).gJ
    have h2:=(h y (by simp [ho,Op.operands,Call.operands]) _ hy).gJ
    have h3:=(h z (by simp [ho,Op.operands,Call.operands]) _ hz).gJ
    subst hr;simp [execOp,ho,h1,h2,h3,resolve,invoke,builtin,Builtin.max_,Builtin.max2]⟩
theorem aCQ {t tx:TypeId} {ms:Array (String×TypeId)} (hT:P.underlying t=some (.interface ms)) (v:Value) (w:World):(Op.equal t (.iface tx v) .nilIface).run P w=.ok false w:=by
  unfold Op.equal Op.maxDepth
  rw [Op.equalIn]
  simp only [Sem.run_bind,run_underlying hT,Result.andThen_ok,Sem.run_pure]
theorem aF6 {t:TypeId} {ms:Array (String×TypeId)} (hT:P.underlying t=some (.interface ms)) (w:World):(Op.equal t .nilIface .nilIface).run P w=.ok true w:=by
  unfold Op.equal Op.maxDepth
  rw [Op.equalIn]
  simp only [Sem.run_bind,run_underlying hT,Result.andThen_ok,Sem.run_pure]
theorem CK {s:Sit} {t:TypeId} {v:AV} {u:Value} (h:VR s (.iG t v) u):∃ u',u=.iface t u'/\VR s v u':=by cases h with | iG h=>exact ⟨_,rfl,h⟩
theorem zL {Ty:TypeId} {ms:Array (String×TypeId)} {t:TypeId} {v:AV} (ho:o.op=.binOp .eql T x y Ty) (hT:P.underlying T=some (.interface ms)) (hx:S.ev x=some (.iG t v)) (hy:S.ev y=some (.sc .nilIface)):bS P o S (aA false) :=
  iK λs ρ _ h=>⟨_,.sc _,by
    obtain ⟨u,h1,_⟩:=CK (h x (by simp [ho,Op.operands]) _ hx)
    have h2:=(h y (by simp [ho,Op.operands]) _ hy).gJ
    simp [execOp,ho,h1,h2,eqGuard,binOp,aCQ hT]⟩
theorem KP {Ty:TypeId} {ms:Array (String×TypeId)} {c:Value} (ho:o.op=.binOp .eql T x (.const c) Ty) (hT:P.underlying T=some (.interface ms)) (hx:S.ev x=some (.sc .nilIface)) (hc:c=.nilIface):bS P o S (aA true) :=
  iK λs ρ _ h=>⟨_,.sc _,by
    have h1:=(h x (by simp [ho,Op.operands]) _ hx).gJ
    have h2:ρ (.const c)=.nilIface:=by
      have:=(h (.const c) (by simp [ho,Op.operands]) (.sc c) rfl).gJ
      rw [this,hc]
    simp [execOp,ho,h1,h2,eqGuard,binOp,aF6 hT]⟩
def O4:TypeDesc->Bool
  | .pointer _=>true
  | _=>false
def sU (P:Program) (t:TypeId) (nm:String):Option FuncId :=
  match P.info? t,P.underlying t with
  | some i,some d =>
    match i.methods.find? (·.name == nm) with
    | some m=>if m.path.isEmpty && !O4 d then (match m.func with
      | some (f,false)=>some f
      | _=>none) else none
    | none=>none
  | _,_=>none
theorem WK {t:TypeId} {nm:String} {f:FuncId} (h:sU P t nm=some f) (v:Value) (k:Nat) (w:World):(method (k+1) t v nm).run P w=.ok (f,v) w:=by
  unfold sU at h
  split at h
  · rename_i i d hi hd
    split at h
    · rename_i m hm
      split at h
      · rename_i hp
        simp only [Bool.and_eq_true,Bool.not_eq_true'] at hp
        have hp':m.path.toList=[]:=by simpa using hp.1
        rw [method]
        simp only [Sem.run_bind,run_typeInfo _ hi,Result.andThen_ok,hm,hp',follow,Sem.run_pure]
        split at h
        · rename_i f' hf
          cases h
          simp only [hf,receiverAt,Sem.run_bind,run_underlying hd,Result.andThen_ok]
          cases d <;> first | (simp [Place.get];done) | (simp [O4] at hp;done)
        · cases h
      · cases h
    · cases h
  · cases h
theorem aKH {r:Operand} {nm:String} {as:List Operand} {ts:Array TypeId} {k:FuncId} {t:TypeId} {v:AV} {vs:List AV} {s:Sit} {ρ:Operand->Value} (ho:o.op=.call { callee:=.invoke r nm,args:=as.toArray,argTypes:=ts })
    (hr:S.ev r=some (.iG t v)) (hm:sU P t nm=some k) (ha:EvL S as vs) (hc:bD P k=true) (h:∀ x∈o.op.operands,∀ av,S.ev x=some av->VR s av (ρ x)) :
    ∃ us,lX s (v :: vs) us/\(execOp ρ o).run P s.w=.ok (.enter k us) s.w:=by
  obtain ⟨u,hu,hv⟩:=CK (h r (by simp [ho,Op.operands,Call.operands]) _ hr)
  obtain ⟨a1,a2⟩:=ha.val (s:=s) (ρ:=ρ) λq hq=>h q (by simp [ho,Op.operands,Call.operands,hq])
  refine ⟨#[u]++(as.map ρ).toArray,?_,?_⟩
  · have h1:lX s [v] #[u]:=⟨rfl,λi x w hx hw=>by
      cases i with
      | zero=>simp at hx hw;subst hx hw;exact hv
      | succ i=>simp at hx⟩
    exact h1.append ⟨by simp [a1],by simpa using a2⟩
  · have hd:P.types.size+Made.depth=(P.types.size+99)+1:=rfl
    have hx:(#[Value.iface t u]++(as.map ρ).toArray).extract 1 (#[Value.iface t u]++(as.map ρ).toArray).size=(as.map ρ).toArray:=by
      apply Array.ext'
      simp
      exact List.take_of_length_le (by simp)
    have hprog:program.run P s.w=.ok P s.w:=rfl
    simp only [execOp,ho,resolve,List.map_toArray,hu,Sem.run_bind,Sem.run_pure,Result.andThen_ok,invoke]
    rw [show (#[Value.iface t u]++(as.map ρ).toArray)[0]?=some (.iface t u) from by simp]
    simp only [callMethod,Sem.run_bind,hprog,Result.andThen_ok,hd,WK hm]
    rw [hx]
    exact EG hc _ _
theorem aB7 {r:Operand} {nm:String} {as:List Operand} {ts:Array TypeId} {k:FuncId} {t:TypeId} {v:AV} {vs:List AV} {R:AV->AH->Prop} (ho:o.op=.call { callee:=.invoke r nm,args:=as.toArray,argTypes:=ts })
    (hr:S.ev r=some (.iG t v)) (hm:sU P t nm=some k) (ha:EvL S as vs) (hc:bD P k=true) (hp:PC P k (v :: vs) S.hp R):bW P o S no any R:=by
  intro s a next Q hH hops _ hn
  obtain ⟨us,h1,h2⟩:=aKH (P:=P) ho hr hm ha hc hops
  unfold Oper.wp
  rw [h2]
  exact (hp s us hH h1).mono λe w' ⟨y,H',s',v,q1,q2,q3,q4,q5,q6⟩=>by subst q2 q3;exact hn s' v y H' q1 q4 q5 q6 (λ_ _=>.inr trivial)
def wS:TypeDesc->Bool
  | .interface _=>false
  | _=>true
theorem VH {t:TypeId} {d:TypeDesc} {v:AV} (ho:o.op=.typeAssert x T t true) (hT:P.underlying t=some d) (hd:wS d=true) (hx:S.ev x=some (.iG t v)):bS P o S (.aM [v,aA true]) :=
  iK λs ρ _ h=>by
    obtain ⟨u,hu,hv⟩:=CK (h x (by simp [ho,Op.operands]) _ hx)
    refine ⟨.tuple #[u,.bool true],.aM rfl λi y w hy hw=>?_,?_⟩
    · cases i with
      | zero=>simp at hy hw;subst hy hw;exact hv
      | succ i=>cases i with
        | zero=>simp at hy hw;subst hy hw;exact .sc _
        | succ i=>simp at hy
    · simp only [execOp,ho,hu,Instr.typeAssert,Sem.run_bind,run_underlying hT,Result.andThen_ok]
      cases d <;> first | (simp [wS] at hd;done) | simp [Instr.typeAssert]
def zU (P:Program) (t:TypeId):Bool :=
  match (P.info? t).bind (·.zero) with
  | some (.agg cs)=>cs.isEmpty
  | _=>false
theorem aKO {t:TypeId} (h:zU P t=true) (w:World):(zeroValue t).run P w=.ok (.agg #[]) w:=by
  unfold zU at h
  cases hi:P.info? t with
  | none=>rw [hi] at h;simp at h
  | some i =>
    rw [hi] at h
    simp only [Option.bind_some] at h
    split at h
    · rename_i cs hz
      have:cs=#[]:=by simpa using h
      subst this
      simp [zeroValue,typeInfo,program,Sem.run,hi,hz]
    · cases h
theorem FZ {t tx:TypeId} {d:TypeDesc} {v:AV} (ho:o.op=.typeAssert x T t true) (hT:P.underlying t=some d) (hd:wS d=true) (hx:S.ev x=some (.iG tx v)) (hne:Nat.beq tx t=false)
    (hz:zU P t=true):bS P o S (.aM [.agg [],aA false]) :=
  iK λs ρ _ h=>by
    obtain ⟨u,hu,hv⟩:=CK (h x (by simp [ho,Op.operands]) _ hx)
    have hne':tx≠t:=Nat.ne_of_beq_eq_false hne
    refine ⟨.tuple #[.agg #[],.bool false],.aM rfl λi y w hy hw=>?_,?_⟩
    · cases i with
      | zero=>simp at hy hw;subst hy hw;exact .agg rfl λi y w hy=>by simp at hy
      | succ i=>cases i with
        | zero=>simp at hy hw;subst hy hw;exact .sc _
        | succ i=>simp at hy
    · simp only [execOp,ho,hu,Instr.typeAssert,Sem.run_bind,run_underlying hT,Result.andThen_ok]
      cases d <;> first | (simp [wS] at hd;done) | simp [Instr.typeAssert,hne',aKO hz]
theorem aFR {e N id aD:Nat} {b:Bool} {ob:aW} {kk:IntKind} {i:Int} {r:List AV} (ho:o.op=.indexAddr T x y) (hT:P.underlying T=some (.array N e)) (he:gF P e=some (1,b)) (hx:S.ev x=some (.pt id aD 0 0)) (hy:S.ev y=some (.sc (.int kk i)))
    (hob:S.hp id=some ob) (bP:ob.aD=aD) (hr:ob.rows=[r]) (hi:0<=i/\i<(N:Int)):bS P o S (.pt id aD 0 i.toNat):=by
  have h:=tZ (r:=r) ho hT he hx hy hob bP (by rw [hr];rfl) hi
  rwa [Nat.zero_add,Nat.mul_one] at h
theorem aK7 {id aD:Nat} {ob:aW} {l:List Int} {i v:Int} (ho:o.op=.load T x) (hT:gF P T=some (1,false)) (hx:S.ev x=some (.pt id aD 0 i.toNat))
    (hob:S.hp id=some ob) (bP:ob.aD=aD) (hr:ob.rows=[l.map int]) (h:ix l i=some v):bS P o S (int v) :=
  fG ho hT hx (.pt hob bP (r:=l.map int) (by rw [hr];rfl)) (by
    have h1:(l.map int)[i.toNat]?=some (int v):=bZ (f:=int) h
    show ((l.map int).drop i.toNat).head?=_
    rw [List.head?_drop];exact h1)
theorem aA6 {r:List AV} {k:Nat} {v:AV} (h:k<r.length):putRow r k [v]=r.set k v:=by
  unfold putRow
  rw [List.set_eq_take_append_cons_drop,if_pos h]
  simp
theorem aHD {id aD:Nat} {ob:aW} {l l':List Int} {i v w:Int} (ho:o.op=.store T x y) (hT:gF P T=some (1,false)) (hx:S.ev x=some (.pt id aD 0 i.toNat)) (hy:S.ev y=some (int v))
    (hob:S.hp id=some ob) (bP:ob.aD=aD) (hmt:ob.mt=true) (hr:ob.rows=[l.map int]) (h:ix l i=some w) (hl:l.set i.toNat v=l') :
    bW P o S no no (λz H'=>z=.sc undef/\H'=upd S.hp id (some { ob with rows:=[l'.map int] })):=by
  have hlt:=vV h
  have h1:=dZ (P:=P) (r:=l.map int) ho hT hx hy hob bP hmt (by rw [hr];rfl) rfl (Nat.ble_eq_true_of_le (by rw [List.length_map];omega)) rfl
  have e:ob.rows.set 0 (putRow (l.map int) i.toNat [int v])=[l'.map int]:=by
    rw [hr,aA6 (by rw [List.length_map];exact hlt),<- hl,List.map_set];rfl
  show bW P o S no no _
  have e2:(int v).cells=[int v]:=rfl
  rw [e2,e] at h1
  exact h1
theorem Y3 {α:Type} {e sz id aD off len:Nat} {zs:List Value} {ob:aW} {g:α->List AV} {l l':List α} (ho:o.op=.call { callee:=.builtin .clear,args:=#[x],argTypes:=#[T] }) (hT:P.underlying T=some (.slice e)) (hz:iW P e=some (sz,zs))
    (hx:S.ev x=some (.sl id aD off len)) (hob:S.hp id=some ob) (bP:ob.aD=aD) (hmt:ob.mt=true) (hosz:ob.sz=sz) (hr:ob.rows=l.map g) (hl:l.take off=l') :
    bW P o S no no (λz H'=>z=.aM []/\H'=upd S.hp id (some { ob with rows:=l'.map g })):=by
  intro s a next Q hH hops _ hn
  obtain ⟨i,hi,hisz,hzo,hzl,hpos,hzone⟩:=uE hz
  have hxv:=hops x (by simp [ho,Op.operands,Call.operands]) _ hx
  obtain ⟨m,hm⟩:=hH.obj id ob hob
  have htr:l'.map g=ob.rows.take off:=by rw [hr,<- hl,List.map_take]
  have hlen':(l'.map g).length<=ob.rows.length:=by rw [htr];simp;omega
  have hvt:VR s (.aM []) (.tuple #[]):=.aM rfl λi y w hy=>by simp at hy
  obtain ⟨z,hz2,hzr⟩:=uY hzo s.w
  generalize hu:a.eval x=u at hxv
  have fin:∀ (cur cur':Array Value) (fr:Nat×Nat) (w':World),rJ s ob m cur fr->w'.os=s.w.os->w'.tape=s.w.tape->w'.output=s.w.output->w'.heap.size=s.w.heap.size->(∀ k,k≠m.b->w'.heap[k]?=s.w.heap[k]?) ->
      w'.heap[m.b]?=some (.cells cur' ob.elem fr)->cur'.size=cur.size->(∀ k,k<off*sz->cur'[k]?=cur[k]?)->(∀ (k:Nat) (v:Value),cur'[k]?=some v->v.oneCell'=true) ->
      (execOp a.eval o).run P s.w=.ok (.value (.tuple #[])) w'->o.wp P a s.w next Q:=by
    intro cur cur' fr w' hb q1 q2 q3 q4 q5 q6 q7 q8 q9 q10
    obtain ⟨s',g1,gu,g2,g3⟩:=VB hH id ob m cur cur' fr (l'.map g) w' hob hm.hm hb hmt q1 q2 q3 q4 q5 q6 q7 (Nat.le_trans hlen' hb.hlen)
      (λi r hir=>by rw [htr] at hir;exact hb.hr i r (by rw [List.getElem?_take] at hir;split at hir;exact hir;cases hir))
      (λi r j y v hir hj hv=>by
        rw [htr,List.getElem?_take] at hir
        split at hir
        · rename_i hio
          have hj':j<sz:=by have:=(List.getElem?_eq_some_iff.1 hj).1;rw [hb.hr i r hir,hosz] at this;exact this
          have:i*sz+j<off*sz:=by
            have h1:(i+1)*sz<=off*sz:=Nat.mul_le_mul_right _ hio
            rw [Nat.add_mul] at h1;omega
          rw [hosz,q8 _ this,<- hosz] at hv
          exact hb.hv i r j y v hir hj hv
        · cases hir) q9
    refine jM (w':=s'.w) (v:=.tuple #[]) (by rw [g1];exact q10) (hn s' _ (.aM []) _ ⟨rfl,rfl⟩ (g3.vals _ _ hvt) g2 g3 (λk hk=>.inl (gu ▸ hk)))
  cases hxv with
  | sl hk h1 hh =>
    have hh:=hh m hm.hm (hm.bP.trans bP)
    rcases hm.body with ⟨hnil,hrows⟩ | ⟨cur,fr,hb⟩
    · obtain ⟨e1,e2⟩:=hh.1 hnil
      have hup:upd S.hp id (some { ob with rows:=l'.map g })=S.hp:=by
        have hlm:l'.map g=[]:=by rw [htr,hrows];simp
        funext k
        by_cases hk:k=id
        · subst hk;rw [upd_same,hlm,hob,<- hrows]
        · rw [upd_ne _ _ hk]
      have hrun:(execOp a.eval o).run P s.w=.ok (.value (.tuple #[])) s.w:=by
        simp [execOp,ho,resolve,invoke,builtin,Builtin.clear_,hu,e1,run_underlying hT]
      exact jM hrun (hn s _ (.aM []) _ ⟨rfl,rfl⟩ hvt (by rw [hup];exact hH) (by rw [hup];exact Fr.refl _ _) λ_ h=>.inl h)
    · obtain ⟨cap,e1,e2,e3⟩:=hh.2 hb.hnil
      by_cases hl0:len=0
      · refine fin cur cur fr s.w hb rfl rfl rfl rfl (λ_ _=>rfl) hb.hb rfl (λ_ _=>rfl) hb.h1 ?_
        simp [execOp,ho,resolve,invoke,builtin,Builtin.clear_,hu,e1,hl0,run_underlying hT]
      · have hzc:(Builtin.zeroCells z.cells len).toList.length=len*sz:=by rw [Array.length_toList,size_zeroCells,<- Array.length_toList,hz2,hzl]
        have hms:m.sz=sz:=hm.hsz.trans hosz
        have hroom:off*m.sz+0+(Builtin.zeroCells z.cells len).toList.length<=cur.size:=by
          rw [hzc,hb.hcs,hms,hosz]
          have:(off+len)*sz<=m.ct*sz:=Nat.mul_le_mul_right _ (by omega)
          rw [Nat.add_mul] at this;omega
        have hz1:∀ (k:Nat) (v:Value),(Builtin.zeroCells z.cells len).toList[k]?=some v->v.oneCell'=true:=λk v hv=>by
          rw [Array.getElem?_toList] at hv
          simp only [Builtin.zeroCells,Array.getElem?_map] at hv
          obtain ⟨jj,hjj,rfl⟩:=Option.map_eq_some_iff.1 hv
          have hzs:z.cells.size=sz:=by rw [<- Array.length_toList,hz2,hzl]
          have hm':jj % z.cells.size<z.cells.size:=Nat.mod_lt _ (by omega)
          rw [getElem!_pos z.cells _ hm']
          exact qY hzone (jj % z.cells.size) _ (by rw [<- hz2,Array.getElem?_toList];simp [hm'])
        obtain ⟨w',cur',r1,r2,r3,r4,r5,r6,r7,r8,r9⟩:=LD P m.b (off*m.sz) ob.elem fr (Builtin.zeroCells z.cells len).toList 0 cur s.w hb.hb hroom hb.hfr hz1
        refine fin cur cur' fr w' hb r7 r8 r9 r6 r5 r2 r3 (λk hk=>?_) (λk v hv=>?_) ?_
        · rw [r4,if_neg (by rw [hms];omega)]
        · rw [r4] at hv
          split at hv
          · exact hz1 _ v hv
          · exact hb.h1 k v hv
        · simp only [execOp,ho,resolve,invoke,builtin,Builtin.clear_,List.map_toArray,List.map_cons,List.map_nil,hu,e1,Sem.run_bind,Sem.run_pure,Result.andThen_ok,List.getElem?_toArray,List.getElem?_cons_zero,run_underlying hT]
          simp [hl0,hzr,r1]
theorem rG {H:AH} {a b c:List AV} (h:cO H a b) (e:c=b):cO H a c:=e ▸ h
theorem EU {P:Program} (len cap:Nat) {lo hi mx:Option Value} (i j:Nat) (w:World) (hlo:∃ k,lo=some (.int k (i:Int))) (hhi:∃ k,hi=some (.int k (j:Int))) (hmx:∃ k,mx=some (.int k (j:Int)))
    (hij:i<=j) (hj:j<=cap):(Instr.sliceBounds true len cap lo hi mx).run P w=.ok (i,j,j) w:=by
  have a1:(0:Int)<=(i:Int):=by omega
  have a2:(0:Int)<=(j:Int):=by omega
  have a3:(i:Int)<=(j:Int):=by omega
  have a4:(j:Int)<=(cap:Int):=by omega
  have a5:(j:Int)<=(j:Int):=by omega
  obtain ⟨k,rfl⟩:=hlo
  obtain ⟨k1,rfl⟩:=hhi
  obtain ⟨k2,rfl⟩:=hmx
  simp only [Instr.sliceBounds,Sem.run_bind,Sem.run_pure,Result.andThen_ok,Option.isSome_some,if_true,run_sliceBound,a1,a2,a3,a4,a5,Int.toNat_natCast]
theorem kQ.G9 {s:Sit} {ρ:Operand->Value} {d i:Nat} {p:Operand} (h:kQ S d (some p) i) (hv:∀ av,S.ev p=some av->VR s av (ρ p)):∃ k,(some p).map ρ=some (.int k (i:Int)):=by
  cases h with
  | yes h e=>subst e;exact ⟨_,congrArg some (hv _ h).gJ⟩
end
section
variable {P:Program} {n:NT} {S:AS} {o:Oper} {T:TypeId} {x y:Operand} {α:Type}
theorem KO {β:Type} {g:β->List AV} {l l':List β} {k:Nat} {v:β} {c:List AV} (e:l.set k v=l') (hc:g v=c):(l.map g).set k c=l'.map g:=by rw [<- e,List.map_set,hc]
end
end Go.Pv
