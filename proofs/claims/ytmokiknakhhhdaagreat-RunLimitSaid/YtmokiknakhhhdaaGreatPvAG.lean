import Derived.Test.YtmokiknakhhhdaaGreatPvAD
import Derived.ChangeKeysEq
set_option linter.unusedVariables false
set_option linter.unusedSimpArgs false
namespace Go.Pv
section
variable {P:Program} {n:NT} {S:AS} {o:Oper} {T:TypeId} {x y z:Operand}
theorem PI {kk:IntKind} {a b c r:Int} {ts:Array TypeId} (ho:o.op=.call { callee:=.builtin .max,args:=#[x,y,z],argTypes:=ts }) (hx:S.ev x=some (.sc (.int kk a))) (hy:S.ev y=some (.sc (.int kk b))) (hz:S.ev z=some (.sc (.int kk c)))
    (hr:(if c>(if b>a then b else a) then c else (if b>a then b else a))=r):bP P o S (.sc (.int kk r)) :=
  gY λs ρ _ h=>⟨_,.sc _,by
    have h1:=(h x (by simp [ho,Op.operands,Call.operands]) _ hx).eZ
    have h2:=(h y (by simp [ho,Op.operands,Call.operands]) _ hy).eZ
    have h3:=(h z (by simp [ho,Op.operands,Call.operands]) _ hz).eZ
    subst hr;simp [execOp,ho,h1,h2,h3,resolve,invoke,builtin,Builtin.max_,Builtin.max2]⟩
theorem aG6 {t tx:TypeId} {ms:Array (String×TypeId)} (hT:P.underlying t=some (.interface ms)) (v:Value) (w:World):(Op.equal t (.iface tx v) .nilIface).run P w=.ok false w:=by
  unfold Op.equal Op.maxDepth
  rw [Op.equalIn]
  simp only [Sem.run_bind,run_underlying hT,Result.andThen_ok,Sem.run_pure]
theorem aFI {t:TypeId} {ms:Array (String×TypeId)} (hT:P.underlying t=some (.interface ms)) (w:World):(Op.equal t .nilIface .nilIface).run P w=.ok true w:=by
  unfold Op.equal Op.maxDepth
  rw [Op.equalIn]
  simp only [Sem.run_bind,run_underlying hT,Result.andThen_ok,Sem.run_pure]
theorem FI {s:Sit} {t:TypeId} {v:AV} {u:Value} (h:VR s (.gQ t v) u):∃ u',u=.iface t u'/\VR s v u':=by cases h with | gQ h=>exact ⟨_,rfl,h⟩
theorem B7 {Ty:TypeId} {ms:Array (String×TypeId)} {t:TypeId} {v:AV} (ho:o.op=.binOp .eql T x y Ty) (hT:P.underlying T=some (.interface ms)) (hx:S.ev x=some (.gQ t v)) (hy:S.ev y=some (.sc .nilIface)):bP P o S (aB false) :=
  gY λs ρ _ h=>⟨_,.sc _,by
    obtain ⟨u,h1,_⟩:=FI (h x (by simp [ho,Op.operands]) _ hx)
    have h2:=(h y (by simp [ho,Op.operands]) _ hy).eZ
    simp [execOp,ho,h1,h2,eqGuard,binOp,aG6 hT]⟩
theorem KA {Ty:TypeId} {ms:Array (String×TypeId)} {c:Value} (ho:o.op=.binOp .eql T x (.const c) Ty) (hT:P.underlying T=some (.interface ms)) (hx:S.ev x=some (.sc .nilIface)) (hc:c=.nilIface):bP P o S (aB true) :=
  gY λs ρ _ h=>⟨_,.sc _,by
    have h1:=(h x (by simp [ho,Op.operands]) _ hx).eZ
    have h2:ρ (.const c)=.nilIface:=by
      have:=(h (.const c) (by simp [ho,Op.operands]) (.sc c) rfl).eZ
      rw [this,hc]
    simp [execOp,ho,h1,h2,eqGuard,binOp,aFI hT]⟩
def ZB:TypeDesc->Bool
  | .pointer _=>true
  | _=>false
def vP (P:Program) (t:TypeId) (nm:String):Option FuncId :=
  match P.info? t,P.underlying t with
  | some i,some d =>
    match i.methods.find? (·.name == nm) with
    | some m=>if m.path.isEmpty && !ZB d then (match m.func with
      | some (f,false)=>some f
      | _=>none) else none
    | none=>none
  | _,_=>none
theorem aDU {t:TypeId} {nm:String} {f:FuncId} (h:vP P t nm=some f) (v:Value) (k:Nat) (w:World):(method (k+1) t v nm).run P w=.ok (f,v) w:=by
  unfold vP at h
  split at h
  · rename_i i d hi hd
    split at h
    · rename_i m hm
      split at h
      · rename_i hp
        simp only [Bool.and_eq_true,Bool.not_eq_true'] at hp
        have hp':m.path.toList=[]:=by simpa using hp.1
        rw [method]
        simp only [Sem.run_bind,run_typeInfo _ hi,Result.andThen_ok,hm,hp',follow,Sem.run_pure]
        split at h
        · rename_i f' hf
          cases h
          simp only [hf,receiverAt,Sem.run_bind,run_underlying hd,Result.andThen_ok]
          cases d <;> first | (simp [Place.get];done) | (simp [ZB] at hp;done)
        · cases h
      · cases h
    · cases h
  · cases h
theorem aI0 {r:Operand} {nm:String} {as:List Operand} {ts:Array TypeId} {k:FuncId} {t:TypeId} {v:AV} {vs:List AV} {s:Sit} {ρ:Operand->Value} (ho:o.op=.call { callee:=.invoke r nm,args:=as.toArray,argTypes:=ts })
    (hr:S.ev r=some (.gQ t v)) (hm:vP P t nm=some k) (ha:EvL S as vs) (hc:aU P k=true) (h:∀ x∈o.op.operands,∀ av,S.ev x=some av->VR s av (ρ x)) :
    ∃ us,mD s (v :: vs) us/\(execOp ρ o).run P s.w=.ok (.enter k us) s.w:=by
  obtain ⟨u,hu,hv⟩:=FI (h r (by simp [ho,Op.operands,Call.operands]) _ hr)
  obtain ⟨a1,a2⟩:=ha.val (s:=s) (ρ:=ρ) λq hq=>h q (by simp [ho,Op.operands,Call.operands,hq])
  refine ⟨#[u]++(as.map ρ).toArray,?_,?_⟩
  · have h1:mD s [v] #[u]:=⟨rfl,λi x w hx hw=>by
      cases i with
      | zero=>simp at hx hw;subst hx hw;exact hv
      | succ i=>simp at hx⟩
    exact h1.append ⟨by simp [a1],by simpa using a2⟩
  · have hd:P.types.size+Made.depth=(P.types.size+99)+1:=rfl
    have hx:(#[Value.iface t u]++(as.map ρ).toArray).extract 1 (#[Value.iface t u]++(as.map ρ).toArray).size=(as.map ρ).toArray:=by
      apply Array.ext'
      simp
      exact List.take_of_length_le (by simp)
    have hprog:program.run P s.w=.ok P s.w:=rfl
    simp only [execOp,ho,resolve,List.map_toArray,hu,Sem.run_bind,Sem.run_pure,Result.andThen_ok,invoke]
    rw [show (#[Value.iface t u]++(as.map ρ).toArray)[0]?=some (.iface t u) from by simp]
    simp only [callMethod,Sem.run_bind,hprog,Result.andThen_ok,hd,aDU hm]
    rw [hx]
    exact NU hc _ _
theorem aDP {r:Operand} {nm:String} {as:List Operand} {ts:Array TypeId} {k:FuncId} {t:TypeId} {v:AV} {vs:List AV} {R:AV->AH->Prop} (ho:o.op=.call { callee:=.invoke r nm,args:=as.toArray,argTypes:=ts })
    (hr:S.ev r=some (.gQ t v)) (hm:vP P t nm=some k) (ha:EvL S as vs) (hc:aU P k=true) (hp:PC P k (v :: vs) S.hp R):bZ P o S no any R:=by
  intro s a next Q hH hops _ hn
  obtain ⟨us,h1,h2⟩:=aI0 (P:=P) ho hr hm ha hc hops
  unfold Oper.wp
  rw [h2]
  exact (hp s us hH h1).mono λe w' ⟨y,H',s',v,q1,q2,q3,q4,q5,q6⟩=>by subst q2 q3;exact hn s' v y H' q1 q4 q5 q6 (λ_ _=>.inr trivial)
def yV:TypeDesc->Bool
  | .interface _=>false
  | _=>true
theorem aNR {t:TypeId} {d:TypeDesc} {v:AV} (ho:o.op=.typeAssert x T t true) (hT:P.underlying t=some d) (hd:yV d=true) (hx:S.ev x=some (.gQ t v)):bP P o S (.aS [v,aB true]) :=
  gY λs ρ _ h=>by
    obtain ⟨u,hu,hv⟩:=FI (h x (by simp [ho,Op.operands]) _ hx)
    refine ⟨.tuple #[u,.bool true],.aS rfl λi y w hy hw=>?_,?_⟩
    · cases i with
      | zero=>simp at hy hw;subst hy hw;exact hv
      | succ i=>cases i with
        | zero=>simp at hy hw;subst hy hw;exact .sc _
        | succ i=>simp at hy
    · simp only [execOp,ho,hu,Instr.typeAssert,Sem.run_bind,run_underlying hT,Result.andThen_ok]
      cases d <;> first | (simp [yV] at hd;done) | simp [Instr.typeAssert]
def AR (P:Program) (t:TypeId):Bool :=
  match (P.info? t).bind (·.zero) with
  | some (.agg cs)=>cs.isEmpty
  | _=>false
theorem aGN {t:TypeId} (h:AR P t=true) (w:World):(zeroValue t).run P w=.ok (.agg #[]) w:=by
  unfold AR at h
  cases hi:P.info? t with
  | none=>rw [hi] at h;simp at h
  | some i =>
    rw [hi] at h
    simp only [Option.bind_some] at h
    split at h
    · rename_i cs hz
      have:cs=#[]:=by simpa using h
      subst this
      simp [zeroValue,typeInfo,program,Sem.run,hi,hz]
    · cases h
theorem NS {t tx:TypeId} {d:TypeDesc} {v:AV} (ho:o.op=.typeAssert x T t true) (hT:P.underlying t=some d) (hd:yV d=true) (hx:S.ev x=some (.gQ tx v)) (hne:Nat.beq tx t=false)
    (hz:AR P t=true):bP P o S (.aS [.agg [],aB false]) :=
  gY λs ρ _ h=>by
    obtain ⟨u,hu,hv⟩:=FI (h x (by simp [ho,Op.operands]) _ hx)
    have hne':tx≠t:=Nat.ne_of_beq_eq_false hne
    refine ⟨.tuple #[.agg #[],.bool false],.aS rfl λi y w hy hw=>?_,?_⟩
    · cases i with
      | zero=>simp at hy hw;subst hy hw;exact .agg rfl λi y w hy=>by simp at hy
      | succ i=>cases i with
        | zero=>simp at hy hw;subst hy hw;exact .sc _
        | succ i=>simp at hy
    · simp only [execOp,ho,hu,Instr.typeAssert,Sem.run_bind,run_underlying hT,Result.andThen_ok]
      cases d <;> first | (simp [yV] at hd;done) | simp [Instr.typeAssert,hne',aGN hz]
theorem LF {e N id aD:Nat} {b:Bool} {ob:bA} {kk:IntKind} {i:Int} {r:List AV} (ho:o.op=.indexAddr T x y) (hT:P.underlying T=some (.array N e)) (he:dY P e=some (1,b)) (hx:S.ev x=some (.pt id aD 0 0)) (hy:S.ev y=some (.sc (.int kk i)))
    (hob:S.hp id=some ob) (bK:ob.aD=aD) (hr:ob.rows=[r]) (hi:0<=i/\i<(N:Int)):bP P o S (.pt id aD 0 i.toNat):=by
  have h:=WQ (r:=r) ho hT he hx hy hob bK (by rw [hr];rfl) hi
  rwa [Nat.zero_add,Nat.mul_one] at h
theorem aFS {id aD:Nat} {ob:bA} {l:List Int} {i v:Int} (ho:o.op=.load T x) (hT:dY P T=some (1,false)) (hx:S.ev x=some (.pt id aD 0 i.toNat))
    (hob:S.hp id=some ob) (bK:ob.aD=aD) (hr:ob.rows=[l.map int]) (h:ix l i=some v):bP P o S (int v) :=
  eT ho hT hx (.pt hob bK (r:=l.map int) (by rw [hr];rfl)) (by
    have h1:(l.map int)[i.toNat]?=some (int v):=kK (f:=int) h
    show ((l.map int).drop i.toNat).head?=_
    rw [List.head?_drop];exact h1)
theorem UU {r:List AV} {k:Nat} {v:AV} (h:k<r.length):putRow r k [v]=r.set k v:=by
  unfold putRow
  rw [List.set_eq_take_append_cons_drop,if_pos h]
  simp
theorem aKW {id aD:Nat} {ob:bA} {l l':List Int} {i v w:Int} (ho:o.op=.store T x y) (hT:dY P T=some (1,false)) (hx:S.ev x=some (.pt id aD 0 i.toNat)) (hy:S.ev y=some (int v))
    (hob:S.hp id=some ob) (bK:ob.aD=aD) (hmt:ob.mt=true) (hr:ob.rows=[l.map int]) (h:ix l i=some w) (hl:l.set i.toNat v=l') :
    bZ P o S no no (λz H'=>z=.sc undef/\H'=upd S.hp id (some { ob with rows:=[l'.map int] })):=by
  have hlt:=wW h
  have h1:=dZ (P:=P) (r:=l.map int) ho hT hx hy hob bK hmt (by rw [hr];rfl) rfl (Nat.ble_eq_true_of_le (by rw [List.length_map];omega)) rfl
  have e:ob.rows.set 0 (putRow (l.map int) i.toNat [int v])=[l'.map int]:=by
    rw [hr,UU (by rw [List.length_map];exact hlt),<- hl,List.map_set];rfl
  show bZ P o S no no _
  have e2:(int v).cells=[int v]:=rfl
  rw [e2,e] at h1
  exact h1
theorem aAH {α:Type} {e sz id aD off len:Nat} {zs:List Value} {ob:bA} {g:α->List AV} {l l':List α} (ho:o.op=.call { callee:=.builtin .clear,args:=#[x],argTypes:=#[T] }) (hT:P.underlying T=some (.slice e)) (hz:iL P e=some (sz,zs))
    (hx:S.ev x=some (.sl id aD off len)) (hob:S.hp id=some ob) (bK:ob.aD=aD) (hmt:ob.mt=true) (hosz:ob.sz=sz) (hr:ob.rows=l.map g) (hl:l.take off=l') :
    bZ P o S no no (λz H'=>z=.aS []/\H'=upd S.hp id (some { ob with rows:=l'.map g })):=by
  intro s a next Q hH hops _ hn
  obtain ⟨i,hi,hisz,hzo,hzl,hpos,hzone⟩:=uZ hz
  have hxv:=hops x (by simp [ho,Op.operands,Call.operands]) _ hx
  obtain ⟨m,hm⟩:=hH.obj id ob hob
  have htr:l'.map g=ob.rows.take off:=by rw [hr,<- hl,List.map_take]
  have hlen':(l'.map g).length<=ob.rows.length:=by rw [htr];simp;omega
  have hvt:VR s (.aS []) (.tuple #[]):=.aS rfl λi y w hy=>by simp at hy
  obtain ⟨z,hz2,hzr⟩:=xM hzo s.w
  generalize hu:a.eval x=u at hxv
  have fin:∀ (cur cur':Array Value) (fr:Nat×Nat) (w':World),sZ s ob m cur fr->w'.os=s.w.os->w'.tape=s.w.tape->w'.output=s.w.output->w'.heap.size=s.w.heap.size->(∀ k,k≠m.b->w'.heap[k]?=s.w.heap[k]?) ->
      w'.heap[m.b]?=some (.cells cur' ob.elem fr)->cur'.size=cur.size->(∀ k,k<off*sz->cur'[k]?=cur[k]?)->(∀ (k:Nat) (v:Value),cur'[k]?=some v->v.oneCell'=true) ->
      (execOp a.eval o).run P s.w=.ok (.value (.tuple #[])) w'->o.wp P a s.w next Q:=by
    intro cur cur' fr w' hb q1 q2 q3 q4 q5 q6 q7 q8 q9 q10
    obtain ⟨s',g1,gu,g2,g3⟩:=VD hH id ob m cur cur' fr (l'.map g) w' hob hm.hm hb hmt q1 q2 q3 q4 q5 q6 q7 (Nat.le_trans hlen' hb.hlen)
      (λi r hir=>by rw [htr] at hir;exact hb.hr i r (by rw [List.getElem?_take] at hir;split at hir;exact hir;cases hir))
      (λi r j y v hir hj hv=>by
        rw [htr,List.getElem?_take] at hir
        split at hir
        · rename_i hio
          have hj':j<sz:=by have:=(List.getElem?_eq_some_iff.1 hj).1;rw [hb.hr i r hir,hosz] at this;exact this
          have:i*sz+j<off*sz:=by
            have h1:(i+1)*sz<=off*sz:=Nat.mul_le_mul_right _ hio
            rw [Nat.add_mul] at h1;omega
          rw [hosz,q8 _ this,<- hosz] at hv
          exact hb.hv i r j y v hir hj hv
        · cases hir) q9
    refine iR (w':=s'.w) (v:=.tuple #[]) (by rw [g1];exact q10) (hn s' _ (.aS []) _ ⟨rfl,rfl⟩ (g3.vals _ _ hvt) g2 g3 (λk hk=>.inl (gu ▸ hk)))
  cases hxv with
  | sl hk h1 hh =>
    have hh:=hh m hm.hm (hm.bK.trans bK)
    rcases hm.body with ⟨hnil,hrows⟩ | ⟨cur,fr,hb⟩
    · obtain ⟨e1,e2⟩:=hh.1 hnil
      have hup:upd S.hp id (some { ob with rows:=l'.map g })=S.hp:=by
        have hlm:l'.map g=[]:=by rw [htr,hrows];simp
        funext k
        by_cases hk:k=id
        · subst hk;rw [upd_same,hlm,hob,<- hrows]
        · rw [upd_ne _ _ hk]
      have hrun:(execOp a.eval o).run P s.w=.ok (.value (.tuple #[])) s.w:=by
        simp [execOp,ho,resolve,invoke,builtin,Builtin.clear_,hu,e1,run_underlying hT]
      exact iR hrun (hn s _ (.aS []) _ ⟨rfl,rfl⟩ hvt (by rw [hup];exact hH) (by rw [hup];exact Fr.refl _ _) λ_ h=>.inl h)
    · obtain ⟨cap,e1,e2,e3⟩:=hh.2 hb.hnil
      by_cases hl0:len=0
      · refine fin cur cur fr s.w hb rfl rfl rfl rfl (λ_ _=>rfl) hb.hb rfl (λ_ _=>rfl) hb.h1 ?_
        simp [execOp,ho,resolve,invoke,builtin,Builtin.clear_,hu,e1,hl0,run_underlying hT]
      · have hzc:(Builtin.zeroCells z.cells len).toList.length=len*sz:=by rw [Array.length_toList,size_zeroCells,<- Array.length_toList,hz2,hzl]
        have hms:m.sz=sz:=hm.hsz.trans hosz
        have hroom:off*m.sz+0+(Builtin.zeroCells z.cells len).toList.length<=cur.size:=by
          rw [hzc,hb.hcs,hms,hosz]
          have:(off+len)*sz<=m.ct*sz:=Nat.mul_le_mul_right _ (by omega)
          rw [Nat.add_mul] at this;omega
        have hz1:∀ (k:Nat) (v:Value),(Builtin.zeroCells z.cells len).toList[k]?=some v->v.oneCell'=true:=λk v hv=>by
          rw [Array.getElem?_toList] at hv
          simp only [Builtin.zeroCells,Array.getElem?_map] at hv
          obtain ⟨jj,hjj,rfl⟩:=Option.map_eq_some_iff.1 hv
          have hzs:z.cells.size=sz:=by rw [<- Array.length_toList,hz2,hzl]
          have hm':jj % z.cells.size<z.cells.size:=Nat.mod_lt _ (by omega)
          rw [getElem!_pos z.cells _ hm']
          exact rW hzone (jj % z.cells.size) _ (by rw [<- hz2,Array.getElem?_toList];simp [hm'])
        obtain ⟨w',cur',r1,r2,r3,r4,r5,r6,r7,r8,r9⟩:=IN P m.b (off*m.sz) ob.elem fr (Builtin.zeroCells z.cells len).toList 0 cur s.w hb.hb hroom hb.hfr hz1
        refine fin cur cur' fr w' hb r7 r8 r9 r6 r5 r2 r3 (λk hk=>?_) (λk v hv=>?_) ?_
        · rw [r4,if_neg (by rw [hms];omega)]
        · rw [r4] at hv
          split at hv
          · exact hz1 _ v hv
          · exact hb.h1 k v hv
        · simp only [execOp,ho,resolve,invoke,builtin,Builtin.clear_,List.map_toArray,List.map_cons,List.map_nil,hu,e1,Sem.run_bind,Sem.run_pure,Result.andThen_ok,List.getElem?_toArray,List.getElem?_cons_zero,run_underlying hT]
          simp [hl0,hzr,r1]
theorem wB {H:AH} {a b c:List AV} (h:bO H a b) (e:c=b):bO H a c:=e ▸ h
end
section
variable {P:Program} {n:NT} {S:AS} {o:Oper} {T:TypeId} {x y:Operand} {α:Type}
theorem aJB {β:Type} {g:β->List AV} {l l':List β} {k:Nat} {v:β} {c:List AV} (e:l.set k v=l') (hc:g v=c):(l.map g).set k c=l'.map g:=by rw [<- e,List.map_set,hc]
end
def rl {α:Type}:List (Nat×α)->α->Nat->α
  | [],d,_=>d
  | (j,v) :: r,d,i=>bif Nat.beq i j then v else rl r d i
section
variable {P:Program} {n:NT} {ops:List Oper} {rdl kpl:Nat->List Nat} {pu:Nat->Bool} {K:AS->Prop} {pi:List Nat} {i t:Nat} {o:Oper} {f:Nat->Option AV} {hp:AH} {x y:Operand} {v:AV}
theorem eP (hy:∀ H,(∀ k,k∈rdl i->H k=hp k)->bP P o ⟨f,H⟩ v) (h:DE P ops rdl kpl pu K pi ⟨upd f t (some v),hp⟩) (ho:ops[i]?=some o:=by rfl) (hpu:pu i=true:=by rfl) (hw:Wd ops ⟨f,hp⟩ o=some true:=by rfl) (hd:o.dst=some t:=by rfl) (hs:rP (rdl i)=true:=by rfl) :
    DE P ops rdl kpl pu K (i :: pi) ⟨f,hp⟩:=lF ho hpu hw hd hy h hs
theorem eM (h:DE P ops rdl kpl pu K pi ⟨upd f t (some v),hp⟩) (ho:ops[i]?=some o:=by rfl) (hm:o.op=.move x:=by rfl) (hx:(AS.mk f hp).ev x=some v:=by rfl) (hpu:pu i=true:=by rfl) (hw:Wd ops ⟨f,hp⟩ o=some true:=by rfl) (hd:o.dst=some t:=by rfl) (hs:rP (rdl i)=true:=by rfl) :
    DE P ops rdl kpl pu K (i :: pi) ⟨f,hp⟩:=lF ho hpu hw hd (λH hH=>bF hm hx) h hs
theorem eA (h:DE P ops rdl kpl pu K pi ⟨upd f t (some v),hp⟩) (ho:ops[i]?=some o:=by rfl) (hm:o.op=.assign x:=by rfl) (hx:(AS.mk f hp).ev x=some v:=by rfl) (hpu:pu i=true:=by rfl) (hw:Wd ops ⟨f,hp⟩ o=some true:=by rfl) (hd:o.dst=some t:=by rfl) (hs:rP (rdl i)=true:=by rfl) :
    DE P ops rdl kpl pu K (i :: pi) ⟨f,hp⟩:=lF ho hpu hw hd (λH hH=>dG hm hx) h hs
theorem eX {j:Nat} {vs:List AV} (h:DE P ops rdl kpl pu K pi ⟨upd f t (some v),hp⟩) (ho:ops[i]?=some o:=by rfl) (hm:o.op=.extract x j:=by rfl) (hx:(AS.mk f hp).ev x=some (.aS vs):=by rfl) (hv:vs[j]?=some v:=by rfl)
    (hpu:pu i=true:=by rfl) (hw:Wd ops ⟨f,hp⟩ o=some true:=by rfl) (hd:o.dst=some t:=by rfl) (hs:rP (rdl i)=true:=by rfl) :
    DE P ops rdl kpl pu K (i :: pi) ⟨f,hp⟩:=lF ho hpu hw hd (λH hH=>JM hm hx hv) h hs
theorem eL {T k id aD row off:Nat} {b:Bool} {ob:bA} {r:List AV} (hT:dY P T=some (k,b)) (h:DE P ops rdl kpl pu K pi ⟨upd f t (some v),hp⟩) (ho:ops[i]?=some o:=by rfl) (hm:o.op=.load T x:=by rfl)
    (hx:(AS.mk f hp).ev x=some (.pt id aD row off):=by rfl) (hi:id∈rdl i:=by decide) (hb:hp id=some ob:=by rfl) (hr:ob.rows[row]?=some r:=by rfl) (he:ob.aD=aD:=by rfl) (hv:jU k b (r.drop off)=some v:=by rfl)
    (hpu:pu i=true:=by rfl) (hw:Wd ops ⟨f,hp⟩ o=some true:=by rfl) (hd:o.dst=some t:=by rfl) (hs:rP (rdl i)=true:=by rfl) :
    DE P ops rdl kpl pu K (i :: pi) ⟨f,hp⟩:=lF ho hpu hw hd (λH hH=>eT hm hT hx (.pt ((hH _ hi).trans hb) he hr) hv) h hs
theorem eF {T k id aD row off j:Nat} {ob:bA} {r:List AV} (hT:kH P T j=some k) (h:DE P ops rdl kpl pu K pi ⟨upd f t (some (.pt id aD row (off+k))),hp⟩) (ho:ops[i]?=some o:=by rfl) (hm:o.op=.fieldAddr T x j:=by rfl)
    (hx:(AS.mk f hp).ev x=some (.pt id aD row off):=by rfl) (hi:id∈rdl i:=by decide) (hb:hp id=some ob:=by rfl) (hr:ob.rows[row]?=some r:=by rfl) (he:ob.aD=aD:=by rfl)
    (hpu:pu i=true:=by rfl) (hw:Wd ops ⟨f,hp⟩ o=some true:=by rfl) (hd:o.dst=some t:=by rfl) (hs:rP (rdl i)=true:=by rfl) :
    DE P ops rdl kpl pu K (i :: pi) ⟨f,hp⟩:=lF ho hpu hw hd (λH hH=>fT hm hT hx (.pt ((hH _ hi).trans hb) he hr) (.pt _ _ _ _ _)) h hs
end
section
variable {P:Program} {n:NT} {Q0:Go.Exit->AS->Prop} {st:List Fm} {cs:List Code} {f:Nat->Option AV} {hp:AH} {ops rest:List Oper} {o:Oper} {x y:Operand}
theorem sS (ob':bA) {T id aD row off k:Nat} {b:Bool} {ob:bA} {r:List AV} {v:AV} (hT0:dY P T=some (k,b)) (h:RR P n Q0 st ops rest cs ⟨f,upd hp id (some ob')⟩) (ho:o.op=.store T x y:=by rfl) (hx:(AS.mk f hp).ev x=some (.pt id aD row off):=by rfl) (hy:(AS.mk f hp).ev y=some v:=by rfl)
    (hob:hp id=some ob:=by rfl) (bK:ob.aD=aD:=by rfl) (hmt:ob.mt=true:=by rfl) (hr:ob.rows[row]?=some r:=by rfl) (hcl:v.cells.length=k:=by rfl) (hfit0:Nat.ble (off+k) r.length=true:=by rfl) (h1:iQ v.cells=true:=by rfl)
    (e:{ ob with rows:=ob.rows.set row (putRow r off v.cells) }=ob':=by rfl) (hw:Wd ops ⟨f,hp⟩ o=some true:=by rfl) (hd:o.dst=none:=by rfl):RR P n Q0 st ops (o :: rest) cs ⟨f,hp⟩ :=
  NA hw hd (gM (dZ ho hT0 hx hy hob bK hmt hr hcl hfit0 h1) e) h
theorem sA (id:Nat) {T t:Nat} {zs:List Value} (hz:zeroOf P T=some zs) (h:∀ aD,RR P n Q0 st ops rest cs ⟨upd f t (some (.pt id aD 0 0)),upd hp id (some ⟨T,zs.length,true,true,aD,[zs.map .sc]⟩)⟩)
    (ho:o.op=.alloc T:=by rfl) (h1:l9 zs=true:=by rfl) (hw:Wd ops ⟨f,hp⟩ o=some true:=by rfl) (hd:o.dst=some t:=by rfl) (hn:Nat.blt t n.n=true:=by rfl):RR P n Q0 st ops (o :: rest) cs ⟨f,hp⟩ :=
  bL hw hd hn (xW id .any ho hz h1) (by rintro _ _ ⟨v,-,rfl,rfl⟩;exact h v)
theorem sB (id:Nat) {T t:Nat} {v:AV} (h:∀ aD,RR P n Q0 st ops rest cs ⟨upd f t (some (.pt id aD 0 0)),upd hp id (some ⟨T,v.cells.length,true,true,aD,[v.cells]⟩)⟩)
    (ho:o.op=.box T x:=by rfl) (hx:(AS.mk f hp).ev x=some v:=by rfl) (h1:iQ v.cells=true:=by rfl) (hw:Wd ops ⟨f,hp⟩ o=some true:=by rfl) (hd:o.dst=some t:=by rfl) (hn:Nat.blt t n.n=true:=by rfl):RR P n Q0 st ops (o :: rest) cs ⟨f,hp⟩ :=
  bL hw hd hn (G6 id .any ho hx h1) (by rintro _ _ ⟨v,-,rfl,rfl⟩;exact h v)
def evs (S:AS):List Operand->Option (List AV)
  | []=>some []
  | x :: r=>match S.ev x with
    | some v=>match evs S r with
      | some vs=>some (v :: vs)
      | none=>none
    | none=>none
theorem DK {S:AS}:∀ {as:List Operand} {vs:List AV},evs S as=some vs->EvL S as vs
  | [],vs,h=>by simp only [evs,Option.some.injEq] at h;subst h;exact .nil
  | x :: r,vs,h=>by
    unfold evs at h
    split at h
    · rename_i v hv
      split at h
      · rename_i us hu
        simp only [Option.some.injEq] at h;subst h;exact .cons hv (DK hu)
      · cases h
    · cases h
theorem sC {fo:Operand} {as:List Operand} {ts:Array TypeId} {k t:Nat} {first cap vs args:List AV} {v:AV} (hc:aU P k=true) (hp':PP P k args (λy=>y=v)) (h:RR P n Q0 st ops rest cs ⟨upd f t (some v),hp⟩)
    (ho:o.op=.call { callee:=.value fo,args:=as.toArray,argTypes:=ts }:=by rfl) (hf:(AS.mk f hp).ev fo=some (.fn (.func k) first cap):=by rfl) (ha:evs (AS.mk f hp) as=some vs:=by rfl)
    (hcv:first++vs++cap=args:=by rfl) (hw:Wd ops ⟨f,hp⟩ o=some true:=by rfl) (hd:o.dst=some t:=by rfl) (hn:Nat.blt t n.n=true:=by rfl):RR P n Q0 st ops (o :: rest) cs ⟨f,hp⟩ :=
  MU hw hd hn (gH ho hf (DK ha) hc (by rw [hcv];exact bO.refl _) hp') h
theorem sY {t:Nat} {v:AV} (hy:bP P o ⟨f,hp⟩ v) (h:RR P n Q0 st ops rest cs ⟨upd f t (some v),hp⟩) (hw:Wd ops ⟨f,hp⟩ o=some true:=by rfl) (hd:o.dst=some t:=by rfl) (hn:Nat.blt t n.n=true:=by rfl):RR P n Q0 st ops (o :: rest) cs ⟨f,hp⟩:=MU hw hd hn hy h
theorem wR {S:AS} {rs:List ResultVar} {vs:List AV} {G:List AV->AH->Prop} (hret:∀ (S':AS) (vs:List AV) (H2:AH),lU P S' rs vs->(∀ t v,H2 t=some v->S'.hp t=some v)->G vs H2->Q0 .ret S') (hR:lU P S rs vs) (h:G vs S.hp):bX P n (QQ P n Q0 st) (.ret :: cs) S :=
  dM (hret S vs S.hp hR (λ_ _ h=>h) h)
theorem rC {S:AS} {t T k id aD row off:Nat} {b:Bool} {v:AV} {ob:bA} {r:List AV} {rs:List ResultVar} {vs:List AV} (hT:dY P T=some (k,b)) (hr:lU P S rs vs) (h:S.sl t=some (.pt id aD row off):=by rfl) (ho:S.hp id=some ob:=by rfl) (hv:ob.aD=aD:=by rfl)
    (hw:ob.rows[row]?=some r:=by rfl) (hc:jU k b (r.drop off)=some v:=by rfl):lU P S (.cell t T :: rs) (v :: vs):=.cell h (.pt ho hv hw) hT hc hr
theorem rT {S:AS} {t:Nat} {v:AV} {rs:List ResultVar} {vs:List AV} (hr:lU P S rs vs) (h:S.sl t=some v:=by rfl):lU P S (.tmp t :: rs) (v :: vs):=.tmp h hr
end
section
variable {P:Program} {S:AS} {o:Oper} {T K E:TypeId} {x y:Operand}
theorem SI {b:Bool} {n:Nat} {v:Value} {kk:IntKind} (hK:P.underlying K=some (.int kk)) (w:World):(Instr.checkKey b (n+1) K v).run P w=.ok () w:=by
  unfold Instr.checkKey
  simp only [Sem.run_bind,run_underlying hK,Result.andThen_ok]
  rfl
theorem aIR {l:List Int} {k:Nat} (h:l.length=k):l.map int=(List.range k).map λi=>int (l.getD i 0):=by
  subst h
  refine List.ext_getElem (by simp) λi h1 h2=>?_
  simp only [List.getElem_map,List.getElem_range]
  have h3:i<l.length:=by simpa using h1
  simp [List.getD,List.getElem?_eq_getElem h3]
theorem aKY {id aD k:Nat} {ob:bA} {l:List Int} (ho:o.op=.load T x) (hT:dY P T=some (k,true)) (hx:S.ev x=some (.pt id aD 0 0))
    (hob:S.hp id=some ob) (bK:ob.aD=aD) (hr:ob.rows=[l.map int]) (hl:l.length=k):bP P o S (.agg ((List.range k).map λi=>int (l.getD i 0))) :=
  eT ho hT hx (.pt hob bK (r:=l.map int) (by rw [hr];rfl)) (by
    rw [<- aIR hl]
    show jU k true (l.map int)=_
    unfold jU
    rw [if_pos rfl,if_pos (by simp [hl]),List.take_of_length_le (by simp [hl])])
structure MapAt (s:Sit) (H:AH) (b:Nat) (ks:List Int) (xs:List AV):Prop where
  him:¬ s.Im b
  hno:¬ jX s H b
  at':∃ es clock,s.w.heap[b]?=some (.map es clock)/\es.toList.map (·.key)=ks.map (Value.int .i64)/\xs.length=es.toList.length/\∀ (i:Nat) (x:AV) (e:MapEntry),xs[i]?=some x->es.toList[i]?=some e->VR s x e.val
theorem SX {s:Sit} {H:AH} {b id:Nat} {ob:bA} {m:Mu} {cur:Array Value} {fr:Nat×Nat} (him:¬ s.Im b) (hno:¬ jX s H b) (h:H id=some ob) (hm:s.mu id=some m) (hb:sZ s ob m cur fr):m.b≠b:=by
  intro e
  cases hmt:ob.mt with
  | true=>exact hno ⟨id,ob,m,h,hmt,hm,hb.hnil,e⟩
  | false=>exact him (e ▸ hb.him hmt)
theorem wK {s:Sit} {H:AH} (hH:HR s H) (w':World) (hsize:s.w.heap.size<=w'.heap.size) (hk:∀ j,(s.Im j\/∃ id o m,H id=some o/\s.mu id=some m/\m.nil=false/\m.b=j)->w'.heap[j]?=s.w.heap[j]?) :
    HR { s with w:=w' } H/\∀ x v,VR s x v->VR { s with w:=w' } x v:=by
  have hmono:∀ x v,VR s x v->VR { s with w:=w' } x v:=λx v h=>VR.mono (s:=s) (s':={ s with w:=w' }) (λb hi=>⟨hi,hk b (.inl hi)⟩) (λi m' hm'=>.inl hm') (λ_ h=>h) h
  refine ⟨⟨λid o ho=>?_,hH.jB,λb hb=>Nat.lt_of_lt_of_le (hH.im b hb) hsize,hH.fin⟩,hmono⟩
  obtain ⟨m,hm⟩:=hH.obj id o ho
  refine ⟨m,hm.hm,hm.bK,hm.hsz,hm.hk,?_⟩
  rcases hm.body with h | ⟨cur,fr,hb⟩
  · exact .inl h
  · exact .inr ⟨cur,fr,⟨hb.hnil,(hk _ (.inr ⟨id,o,m,ho,hm.hm,hb.hnil,rfl⟩)).trans hb.hb,hb.hfr,hb.happ,hb.hcs,hb.hct,hb.hlen,hb.hr,λi r j x v a b c=>hmono _ _ (hb.hv i r j x v a b c),hb.h1,hb.him,hb.iW⟩⟩
theorem SR.vals {n:NT} {s s':Sit} {S:AS} {a:Act} (hs:SR n s S a) (hH:HR s' S.hp) (hv:∀ x v,VR s x v->VR s' x v):SR n s' S a :=
  ⟨hs.size,hs.defers,λt x hx=>let ⟨v,h1,h2⟩:=hs.slot t x hx;⟨v,h1,hv _ _ h2⟩,hH⟩
variable {n:NT} {ops rest:List Oper} {K':AS->Prop}
variable {Q0:Go.Exit->AS->Prop} {st:List Fm} {cs:List Code} {b:Nat} {ks:List Int} {xs:List AV}
end
end Go.Pv
