import Derived.Test.YtfbohcojaajpfaaGreatPvAD
import Derived.ChangeKeysEq
set_option linter.unusedVariables false
set_option linter.unusedSimpArgs false
namespace Go.Pv
section
variable {P:Program} {n:NT} {S:AS} {o:Oper} {T:TypeId} {x y z:Operand}
theorem yv_max3 {kk:IntKind} {a b c r:Int} {ts:Array TypeId} (ho:o.op=.call { callee:=.builtin .max,args:=#[x,y,z],argTypes:=ts }) (hx:S.ev x=some (.sc (.int kk a))) (hy:S.ev y=some (.sc (.int kk b))) (hz:S.ev z=some (.sc (.int kk c)))
    (hr:(if c>(if b>a then b else a) then c else (if b>a then b else a))=r):YieldV P o S (.sc (.int kk r)) :=
  yv_of fun s ρ _ h=>⟨_,.sc _,by
    have h1:=(h x (by simp [ho,Op.operands,Call.operands]) _ hx).sc_inv
    have h2:=(h y (by simp [ho,Op.operands,Call.operands]) _ hy).sc_inv
    have h3:=(h z (by simp [ho,Op.operands,Call.operands]) _ hz).sc_inv
    subst hr;simp [execOp,ho,h1,h2,h3,resolve,invoke,builtin,Builtin.max_,Builtin.max2]⟩
theorem run_eql_iface {t tx:TypeId} {ms:Array (String×TypeId)} (hT:P.underlying t=some (.interface ms)) (v:Value) (w:World):(Op.equal t (.iface tx v) .nilIface).run P w=.ok false w:=by
  unfold Op.equal Op.maxDepth
  rw [Op.equalIn]
  simp only [Sem.run_bind,run_underlying hT,Result.andThen_ok,Sem.run_pure]
theorem run_eql_nils {t:TypeId} {ms:Array (String×TypeId)} (hT:P.underlying t=some (.interface ms)) (w:World):(Op.equal t .nilIface .nilIface).run P w=.ok true w:=by
  unfold Op.equal Op.maxDepth
  rw [Op.equalIn]
  simp only [Sem.run_bind,run_underlying hT,Result.andThen_ok,Sem.run_pure]
theorem ifc_inv {s:Sit} {t:TypeId} {v:AV} {u:Value} (h:VR s (.ifc t v) u):∃ u',u=.iface t u'∧VR s v u':=by cases h with | ifc h=>exact ⟨_,rfl,h⟩
theorem yv_ifeq {Ty:TypeId} {ms:Array (String×TypeId)} {t:TypeId} {v:AV} (ho:o.op=.binOp .eql T x y Ty) (hT:P.underlying T=some (.interface ms)) (hx:S.ev x=some (.ifc t v)) (hy:S.ev y=some (.sc .nilIface)):YieldV P o S (boo false) :=
  yv_of fun s ρ _ h=>⟨_,.sc _,by
    obtain ⟨u,h1,_⟩:=ifc_inv (h x (by simp [ho,Op.operands]) _ hx)
    have h2:=(h y (by simp [ho,Op.operands]) _ hy).sc_inv
    simp [execOp,ho,h1,h2,eqGuard,binOp,run_eql_iface hT]⟩
theorem yv_ifeqN {Ty:TypeId} {ms:Array (String×TypeId)} {c:Value} (ho:o.op=.binOp .eql T x (.const c) Ty) (hT:P.underlying T=some (.interface ms)) (hx:S.ev x=some (.sc .nilIface)) (hc:c=.nilIface):YieldV P o S (boo true) :=
  yv_of fun s ρ _ h=>⟨_,.sc _,by
    have h1:=(h x (by simp [ho,Op.operands]) _ hx).sc_inv
    have h2:ρ (.const c)=.nilIface:=by
      have:=(h (.const c) (by simp [ho,Op.operands]) (.sc c) rfl).sc_inv
      rw [this,hc]
    simp [execOp,ho,h1,h2,eqGuard,binOp,run_eql_nils hT]⟩
def notIfc:TypeDesc→Bool
  | .interface _=>false
  | _=>true
theorem yv_tassT {t:TypeId} {d:TypeDesc} {v:AV} (ho:o.op=.typeAssert x T t true) (hT:P.underlying t=some d) (hd:notIfc d=true) (hx:S.ev x=some (.ifc t v)):YieldV P o S (.tup [v,boo true]) :=
  yv_of fun s ρ _ h=>by
    obtain ⟨u,hu,hv⟩:=ifc_inv (h x (by simp [ho,Op.operands]) _ hx)
    refine ⟨.tuple #[u,.bool true],.tup rfl fun i y w hy hw=>?_,?_⟩
    · cases i with
      | zero=>simp at hy hw;subst hy hw;exact hv
      | succ i=>cases i with
        | zero=>simp at hy hw;subst hy hw;exact .sc _
        | succ i=>simp at hy
    · simp only [execOp,ho,hu,Instr.typeAssert,Sem.run_bind,run_underlying hT,Result.andThen_ok]
      cases d <;> first | (simp [notIfc] at hd;done) | simp [Instr.typeAssert]
def zAgg (P:Program) (t:TypeId):Bool :=
  match (P.info? t).bind (·.zero) with
  | some (.agg cs)=>cs.isEmpty
  | _=>false
theorem run_zAgg {t:TypeId} (h:zAgg P t=true) (w:World):(zeroValue t).run P w=.ok (.agg #[]) w:=by
  unfold zAgg at h
  cases hi:P.info? t with
  | none=>rw [hi] at h;simp at h
  | some i =>
    rw [hi] at h
    simp only [Option.bind_some] at h
    split at h
    · rename_i cs hz
      have:cs=#[]:=by simpa using h
      subst this
      simp [zeroValue,typeInfo,program,Sem.run,hi,hz]
    · cases h
theorem yv_tassF {t tx:TypeId} {d:TypeDesc} {v:AV} (ho:o.op=.typeAssert x T t true) (hT:P.underlying t=some d) (hd:notIfc d=true) (hx:S.ev x=some (.ifc tx v)) (hne:Nat.beq tx t=false)
    (hz:zAgg P t=true):YieldV P o S (.tup [.agg [],boo false]) :=
  yv_of fun s ρ _ h=>by
    obtain ⟨u,hu,hv⟩:=ifc_inv (h x (by simp [ho,Op.operands]) _ hx)
    have hne':tx≠t:=Nat.ne_of_beq_eq_false hne
    refine ⟨.tuple #[.agg #[],.bool false],.tup rfl fun i y w hy hw=>?_,?_⟩
    · cases i with
      | zero=>simp at hy hw;subst hy hw;exact .agg rfl fun i y w hy=>by simp at hy
      | succ i=>cases i with
        | zero=>simp at hy hw;subst hy hw;exact .sc _
        | succ i=>simp at hy
    · simp only [execOp,ho,hu,Instr.typeAssert,Sem.run_bind,run_underlying hT,Result.andThen_ok]
      cases d <;> first | (simp [notIfc] at hd;done) | simp [Instr.typeAssert,hne',run_zAgg hz]
theorem yv_ixAR {e N id ver:Nat} {b:Bool} {ob:AObj} {kk:IntKind} {i:Int} {r:List AV} (ho:o.op=.indexAddr T x y) (hT:P.underlying T=some (.array N e)) (he:tySh P e=some (1,b)) (hx:S.ev x=some (.pt id ver 0 0)) (hy:S.ev y=some (.sc (.int kk i)))
    (hob:S.hp id=some ob) (hver:ob.ver=ver) (hr:ob.rows=[r]) (hi:0≤i∧i<(N:Int)):YieldV P o S (.pt id ver 0 i.toNat):=by
  have h:=yv_indexAddrA (r:=r) ho hT he hx hy hob hver (by rw [hr];rfl) hi
  rwa [Nat.zero_add,Nat.mul_one] at h
theorem yv_ldAR {id ver:Nat} {ob:AObj} {l:List Int} {i v:Int} (ho:o.op=.load T x) (hT:tySh P T=some (1,false)) (hx:S.ev x=some (.pt id ver 0 i.toNat))
    (hob:S.hp id=some ob) (hver:ob.ver=ver) (hr:ob.rows=[l.map int]) (h:ix l i=some v):YieldV P o S (int v) :=
  yv_load ho hT hx (.pt hob hver (r:=l.map int) (by rw [hr];rfl)) (by
    have h1:(l.map int)[i.toNat]?=some (int v):=ix_get (f:=int) h
    show ((l.map int).drop i.toNat).head?=_
    rw [List.head?_drop];exact h1)
theorem putRow_one {r:List AV} {k:Nat} {v:AV} (h:k<r.length):putRow r k [v]=r.set k v:=by
  unfold putRow
  rw [List.set_eq_take_append_cons_drop,if_pos h]
  simp
theorem yl_stAR {id ver:Nat} {ob:AObj} {l l':List Int} {i v w:Int} (ho:o.op=.store T x y) (hT:tySh P T=some (1,false)) (hx:S.ev x=some (.pt id ver 0 i.toNat)) (hy:S.ev y=some (int v))
    (hob:S.hp id=some ob) (hver:ob.ver=ver) (hmt:ob.mt=true) (hr:ob.rows=[l.map int]) (h:ix l i=some w) (hl:l.set i.toNat v=l') :
    Yield P o S no no (fun z H'=>z=.sc undef∧H'=upd S.hp id (some { ob with rows:=[l'.map int] })):=by
  have hlt:=ix_lt h
  have h1:=yl_store (P:=P) (r:=l.map int) ho hT hx hy hob hver hmt (by rw [hr];rfl) rfl (Nat.ble_eq_true_of_le (by rw [List.length_map];omega)) rfl
  have e:ob.rows.set 0 (putRow (l.map int) i.toNat [int v])=[l'.map int]:=by
    rw [hr,putRow_one (by rw [List.length_map];exact hlt),← hl,List.map_set];rfl
  show Yield P o S no no _
  have e2:(int v).cells=[int v]:=rfl
  rw [e2,e] at h1
  exact h1
theorem cvl_to {H:AH} {a b c:List AV} (h:CvL H a b) (e:c=b):CvL H a c:=e ▸ h
end
section
variable {P:Program} {n:NT} {S:AS} {o:Oper} {T:TypeId} {x y:Operand} {α:Type}
theorem map_setR {β:Type} {g:β→List AV} {l l':List β} {k:Nat} {v:β} {c:List AV} (e:l.set k v=l') (hc:g v=c):(l.map g).set k c=l'.map g:=by rw [← e,List.map_set,hc]
end
def rl {α:Type}:List (Nat×α)→α→Nat→α
  | [],d,_=>d
  | (j,v) :: r,d,i=>bif Nat.beq i j then v else rl r d i
section
variable {P:Program} {n:NT} {ops:List Oper} {rdl kpl:Nat→List Nat} {pu:Nat→Bool} {K:AS→Prop} {pi:List Nat} {i t:Nat} {o:Oper} {f:Nat→Option AV} {hp:AH} {x y:Operand} {v:AV}
theorem eP (hy:∀ H,(∀ k,k∈rdl i→H k=hp k)→YieldV P o ⟨f,H⟩ v) (h:DE P ops rdl kpl pu K pi ⟨upd f t (some v),hp⟩) (ho:ops[i]?=some o:=by rfl) (hpu:pu i=true:=by rfl) (hw:Wd ops ⟨f,hp⟩ o=some true:=by rfl) (hd:o.dst=some t:=by rfl) (hs:allS (rdl i)=true:=by rfl) :
    DE P ops rdl kpl pu K (i :: pi) ⟨f,hp⟩:=de_pure ho hpu hw hd hy h hs
theorem eM (h:DE P ops rdl kpl pu K pi ⟨upd f t (some v),hp⟩) (ho:ops[i]?=some o:=by rfl) (hm:o.op=.move x:=by rfl) (hx:(AS.mk f hp).ev x=some v:=by rfl) (hpu:pu i=true:=by rfl) (hw:Wd ops ⟨f,hp⟩ o=some true:=by rfl) (hd:o.dst=some t:=by rfl) (hs:allS (rdl i)=true:=by rfl) :
    DE P ops rdl kpl pu K (i :: pi) ⟨f,hp⟩:=de_pure ho hpu hw hd (fun H hH=>yv_move hm hx) h hs
theorem eA (h:DE P ops rdl kpl pu K pi ⟨upd f t (some v),hp⟩) (ho:ops[i]?=some o:=by rfl) (hm:o.op=.assign x:=by rfl) (hx:(AS.mk f hp).ev x=some v:=by rfl) (hpu:pu i=true:=by rfl) (hw:Wd ops ⟨f,hp⟩ o=some true:=by rfl) (hd:o.dst=some t:=by rfl) (hs:allS (rdl i)=true:=by rfl) :
    DE P ops rdl kpl pu K (i :: pi) ⟨f,hp⟩:=de_pure ho hpu hw hd (fun H hH=>yv_assign hm hx) h hs
theorem eX {j:Nat} {vs:List AV} (h:DE P ops rdl kpl pu K pi ⟨upd f t (some v),hp⟩) (ho:ops[i]?=some o:=by rfl) (hm:o.op=.extract x j:=by rfl) (hx:(AS.mk f hp).ev x=some (.tup vs):=by rfl) (hv:vs[j]?=some v:=by rfl)
    (hpu:pu i=true:=by rfl) (hw:Wd ops ⟨f,hp⟩ o=some true:=by rfl) (hd:o.dst=some t:=by rfl) (hs:allS (rdl i)=true:=by rfl) :
    DE P ops rdl kpl pu K (i :: pi) ⟨f,hp⟩:=de_pure ho hpu hw hd (fun H hH=>yv_extract hm hx hv) h hs
theorem eL {T k id ver row off:Nat} {b:Bool} {ob:AObj} {r:List AV} (hT:tySh P T=some (k,b)) (h:DE P ops rdl kpl pu K pi ⟨upd f t (some v),hp⟩) (ho:ops[i]?=some o:=by rfl) (hm:o.op=.load T x:=by rfl)
    (hx:(AS.mk f hp).ev x=some (.pt id ver row off):=by rfl) (hi:id∈rdl i:=by decide) (hb:hp id=some ob:=by rfl) (hr:ob.rows[row]?=some r:=by rfl) (he:ob.ver=ver:=by rfl) (hv:cellsV k b (r.drop off)=some v:=by rfl)
    (hpu:pu i=true:=by rfl) (hw:Wd ops ⟨f,hp⟩ o=some true:=by rfl) (hd:o.dst=some t:=by rfl) (hs:allS (rdl i)=true:=by rfl) :
    DE P ops rdl kpl pu K (i :: pi) ⟨f,hp⟩:=de_pure ho hpu hw hd (fun H hH=>yv_load hm hT hx (.pt ((hH _ hi).trans hb) he hr) hv) h hs
theorem eF {T k id ver row off j:Nat} {ob:AObj} {r:List AV} (hT:fOff P T j=some k) (h:DE P ops rdl kpl pu K pi ⟨upd f t (some (.pt id ver row (off+k))),hp⟩) (ho:ops[i]?=some o:=by rfl) (hm:o.op=.fieldAddr T x j:=by rfl)
    (hx:(AS.mk f hp).ev x=some (.pt id ver row off):=by rfl) (hi:id∈rdl i:=by decide) (hb:hp id=some ob:=by rfl) (hr:ob.rows[row]?=some r:=by rfl) (he:ob.ver=ver:=by rfl)
    (hpu:pu i=true:=by rfl) (hw:Wd ops ⟨f,hp⟩ o=some true:=by rfl) (hd:o.dst=some t:=by rfl) (hs:allS (rdl i)=true:=by rfl) :
    DE P ops rdl kpl pu K (i :: pi) ⟨f,hp⟩:=de_pure ho hpu hw hd (fun H hH=>yv_fieldAddr hm hT hx (.pt ((hH _ hi).trans hb) he hr) (.pt _ _ _ _ _)) h hs
theorem eN {id ver row off:Nat} {ob:AObj} {r:List AV} (h:DE P ops rdl kpl pu K pi ⟨upd f t (some (.pt id ver row off)),hp⟩) (ho:ops[i]?=some o:=by rfl) (hm:o.op=.nilCheck x:=by rfl)
    (hx:(AS.mk f hp).ev x=some (.pt id ver row off):=by rfl) (hi:id∈rdl i:=by decide) (hb:hp id=some ob:=by rfl) (hr:ob.rows[row]?=some r:=by rfl) (he:ob.ver=ver:=by rfl)
    (hpu:pu i=true:=by rfl) (hw:Wd ops ⟨f,hp⟩ o=some true:=by rfl) (hd:o.dst=some t:=by rfl) (hs:allS (rdl i)=true:=by rfl) :
    DE P ops rdl kpl pu K (i :: pi) ⟨f,hp⟩:=de_pure ho hpu hw hd (fun H hH=>yv_nilCheck hm hx (.pt ((hH _ hi).trans hb) he hr)) h hs
end
section
variable {P:Program} {n:NT} {Q0:Go.Exit→AS→Prop} {st:List Fm} {cs:List Code} {f:Nat→Option AV} {hp:AH} {ops rest:List Oper} {o:Oper} {x y:Operand}
theorem sS (ob':AObj) {T id ver row off k:Nat} {b:Bool} {ob:AObj} {r:List AV} {v:AV} (hT0:tySh P T=some (k,b)) (h:RR P n Q0 st ops rest cs ⟨f,upd hp id (some ob')⟩) (ho:o.op=.store T x y:=by rfl) (hx:(AS.mk f hp).ev x=some (.pt id ver row off):=by rfl) (hy:(AS.mk f hp).ev y=some v:=by rfl)
    (hob:hp id=some ob:=by rfl) (hver:ob.ver=ver:=by rfl) (hmt:ob.mt=true:=by rfl) (hr:ob.rows[row]?=some r:=by rfl) (hcl:v.cells.length=k:=by rfl) (hfit0:Nat.ble (off+k) r.length=true:=by rfl) (h1:allOne v.cells=true:=by rfl)
    (e:{ ob with rows:=ob.rows.set row (putRow r off v.cells) }=ob':=by rfl) (hw:Wd ops ⟨f,hp⟩ o=some true:=by rfl) (hd:o.dst=none:=by rfl):RR P n Q0 st ops (o :: rest) cs ⟨f,hp⟩ :=
  rsstore hw hd (yl_ob (yl_store ho hT0 hx hy hob hver hmt hr hcl hfit0 h1) e) h
theorem sA (id:Nat) {T t:Nat} {zs:List Value} (hz:zeroOf P T=some zs) (h:∀ ver,RR P n Q0 st ops rest cs ⟨upd f t (some (.pt id ver 0 0)),upd hp id (some ⟨T,zs.length,true,true,ver,[zs.map .sc]⟩)⟩)
    (ho:o.op=.alloc T:=by rfl) (h1:allOneV zs=true:=by rfl) (hw:Wd ops ⟨f,hp⟩ o=some true:=by rfl) (hd:o.dst=some t:=by rfl) (hn:Nat.blt t n.n=true:=by rfl):RR P n Q0 st ops (o :: rest) cs ⟨f,hp⟩ :=
  rse hw hd hn (yl_alloc id .any ho hz h1) (by rintro _ _ ⟨v,-,rfl,rfl⟩;exact h v)
theorem sB (id:Nat) {T t:Nat} {v:AV} (h:∀ ver,RR P n Q0 st ops rest cs ⟨upd f t (some (.pt id ver 0 0)),upd hp id (some ⟨T,v.cells.length,true,true,ver,[v.cells]⟩)⟩)
    (ho:o.op=.box T x:=by rfl) (hx:(AS.mk f hp).ev x=some v:=by rfl) (h1:allOne v.cells=true:=by rfl) (hw:Wd ops ⟨f,hp⟩ o=some true:=by rfl) (hd:o.dst=some t:=by rfl) (hn:Nat.blt t n.n=true:=by rfl):RR P n Q0 st ops (o :: rest) cs ⟨f,hp⟩ :=
  rse hw hd hn (yl_box id .any ho hx h1) (by rintro _ _ ⟨v,-,rfl,rfl⟩;exact h v)
def evs (S:AS):List Operand→Option (List AV)
  | []=>some []
  | x :: r=>match S.ev x with
    | some v=>match evs S r with
      | some vs=>some (v :: vs)
      | none=>none
    | none=>none
theorem evs_ok {S:AS}:∀ {as:List Operand} {vs:List AV},evs S as=some vs→EvL S as vs
  | [],vs,h=>by simp only [evs,Option.some.injEq] at h;subst h;exact .nil
  | x :: r,vs,h=>by
    unfold evs at h
    split at h
    · rename_i v hv
      split at h
      · rename_i us hu
        simp only [Option.some.injEq] at h;subst h;exact .cons hv (evs_ok hu)
      · cases h
    · cases h
theorem sC {fo:Operand} {as:List Operand} {ts:Array TypeId} {k t:Nat} {first cap vs args:List AV} {v:AV} (hc:cal P k=true) (hp':PP P k args (fun y=>y=v)) (h:RR P n Q0 st ops rest cs ⟨upd f t (some v),hp⟩)
    (ho:o.op=.call { callee:=.value fo,args:=as.toArray,argTypes:=ts }:=by rfl) (hf:(AS.mk f hp).ev fo=some (.fn (.func k) first cap):=by rfl) (ha:evs (AS.mk f hp) as=some vs:=by rfl)
    (hcv:first++vs++cap=args:=by rfl) (hw:Wd ops ⟨f,hp⟩ o=some true:=by rfl) (hd:o.dst=some t:=by rfl) (hn:Nat.blt t n.n=true:=by rfl):RR P n Q0 st ops (o :: rest) cs ⟨f,hp⟩ :=
  rst hw hd hn (yv_callP ho hf (evs_ok ha) hc (by rw [hcv];exact CvL.refl _) hp') h
theorem sY {t:Nat} {v:AV} (hy:YieldV P o ⟨f,hp⟩ v) (h:RR P n Q0 st ops rest cs ⟨upd f t (some v),hp⟩) (hw:Wd ops ⟨f,hp⟩ o=some true:=by rfl) (hd:o.dst=some t:=by rfl) (hn:Nat.blt t n.n=true:=by rfl):RR P n Q0 st ops (o :: rest) cs ⟨f,hp⟩:=rst hw hd hn hy h
theorem wR {S:AS} {rs:List ResultVar} {vs:List AV} {G:List AV→AH→Prop} (hret:∀ (S':AS) (vs:List AV) (H2:AH),ResA P S' rs vs→(∀ t v,H2 t=some v→S'.hp t=some v)→G vs H2→Q0 .ret S') (hR:ResA P S rs vs) (h:G vs S.hp):Trs P n (QQ P n Q0 st) (.ret :: cs) S :=
  w_ret (hret S vs S.hp hR (fun _ _ h=>h) h)
theorem rC {S:AS} {t T k id ver row off:Nat} {b:Bool} {v:AV} {ob:AObj} {r:List AV} {rs:List ResultVar} {vs:List AV} (hT:tySh P T=some (k,b)) (hr:ResA P S rs vs) (h:S.sl t=some (.pt id ver row off):=by rfl) (ho:S.hp id=some ob:=by rfl) (hv:ob.ver=ver:=by rfl)
    (hw:ob.rows[row]?=some r:=by rfl) (hc:cellsV k b (r.drop off)=some v:=by rfl):ResA P S (.cell t T :: rs) (v :: vs):=.cell h (.pt ho hv hw) hT hc hr
theorem rT {S:AS} {t:Nat} {v:AV} {rs:List ResultVar} {vs:List AV} (hr:ResA P S rs vs) (h:S.sl t=some v:=by rfl):ResA P S (.tmp t :: rs) (v :: vs):=.tmp h hr
end
section
variable {P:Program} {S:AS} {o:Oper} {T K E:TypeId} {x y:Operand}
theorem map_getD {l:List Int} {k:Nat} (h:l.length=k):l.map int=(List.range k).map fun i=>int (l.getD i 0):=by
  subst h
  refine List.ext_getElem (by simp) fun i h1 h2=>?_
  simp only [List.getElem_map,List.getElem_range]
  have h3:i<l.length:=by simpa using h1
  simp [List.getD,List.getElem?_eq_getElem h3]
theorem yv_ldARw {id ver k:Nat} {ob:AObj} {l:List Int} (ho:o.op=.load T x) (hT:tySh P T=some (k,true)) (hx:S.ev x=some (.pt id ver 0 0))
    (hob:S.hp id=some ob) (hver:ob.ver=ver) (hr:ob.rows=[l.map int]) (hl:l.length=k):YieldV P o S (.agg ((List.range k).map fun i=>int (l.getD i 0))) :=
  yv_load ho hT hx (.pt hob hver (r:=l.map int) (by rw [hr];rfl)) (by
    rw [← map_getD hl]
    show cellsV k true (l.map int)=_
    unfold cellsV
    rw [if_pos rfl,if_pos (by simp [hl]),List.take_of_length_le (by simp [hl])])
structure MapAt (s:Sit) (H:AH) (b:Nat) (ks:List Int) (xs:List AV):Prop where
  him:¬ s.Im b
  hno:¬ Owned s H b
  at':∃ es clock,s.w.heap[b]?=some (.map es clock)∧es.toList.map (·.key)=ks.map (Value.int .i64)∧xs.length=es.toList.length∧∀ (i:Nat) (x:AV) (e:MapEntry),xs[i]?=some x→es.toList[i]?=some e→VR s x e.val
theorem sit_w {s:Sit} {H:AH} (hH:HR s H) (w':World) (hsize:s.w.heap.size≤w'.heap.size) (hk:∀ j,(s.Im j∨∃ id o m,H id=some o∧s.mu id=some m∧m.nil=false∧m.b=j)→w'.heap[j]?=s.w.heap[j]?) :
    HR { s with w:=w' } H∧∀ x v,VR s x v→VR { s with w:=w' } x v:=by
  have hmono:∀ x v,VR s x v→VR { s with w:=w' } x v:=fun x v h=>VR.mono (s:=s) (s':={ s with w:=w' }) (fun b hi=>⟨hi,hk b (.inl hi)⟩) (fun i m' hm'=>.inl hm') (fun _ h=>h) h
  refine ⟨⟨fun id o ho=>?_,hH.uniq,fun b hb=>Nat.lt_of_lt_of_le (hH.im b hb) hsize,hH.fin⟩,hmono⟩
  obtain ⟨m,hm⟩:=hH.obj id o ho
  refine ⟨m,hm.hm,hm.hver,hm.hsz,hm.hk,?_⟩
  rcases hm.body with h | ⟨cur,fr,hb⟩
  · exact .inl h
  · exact .inr ⟨cur,fr,⟨hb.hnil,(hk _ (.inr ⟨id,o,m,ho,hm.hm,hb.hnil,rfl⟩)).trans hb.hb,hb.hfr,hb.happ,hb.hcs,hb.hct,hb.hlen,hb.hr,fun i r j x v a b c=>hmono _ _ (hb.hv i r j x v a b c),hb.h1,hb.him,hb.hnim⟩⟩
theorem SR.vals {n:NT} {s s':Sit} {S:AS} {a:Act} (hs:SR n s S a) (hH:HR s' S.hp) (hv:∀ x v,VR s x v→VR s' x v):SR n s' S a :=
  ⟨hs.size,hs.defers,fun t x hx=>let ⟨v,h1,h2⟩:=hs.slot t x hx;⟨v,h1,hv _ _ h2⟩,hH⟩
variable {n:NT} {ops rest:List Oper} {K':AS→Prop}
variable {Q0:Go.Exit→AS→Prop} {st:List Fm} {cs:List Code} {b:Nat} {ks:List Int} {xs:List AV}
end
section
variable {P:Program} {n:NT}
structure IterAt (s:Sit) (H:AH) (b:Nat) (l:List UInt8) (p:Nat):Prop where
  him:¬ s.Im b
  hno:¬ Owned s H b
  at':s.w.heap[b]?=some (.stringIter (bs l) p)
theorem IterAt.fr {s s':Sit} {H H':AH} {b:Nat} {l:List UInt8} {p:Nat} (h:IterAt s H b l p) (hb:b<s.w.heap.size) (hf:Fr s H s' H'):IterAt s' H' b l p :=
  ⟨fun hi=>h.him (hf.imo b hb h.hno hi),fun ho=>h.hno (hf.own b hb ho),(hf.keep b hb h.hno).trans h.at'⟩
variable {S:AS} {ops rest:List Oper} {o:Oper} {K:Nat→List UInt8→AS→Prop}
variable {Q0:Go.Exit→AS→Prop} {st:List Fm} {cs:List Code}
end
section
variable {P:Program} {S:AS} {o:Oper} {T K E:TypeId} {x y:Operand} {α:Type}
end
def lkI:List (Int×Int)→Int→Int
  | [],_=>0
  | (a,v) :: r,k=>bif decide (k=a) then v else lkI r k
def MEq (es:List MapEntry) (m:Int→Option Int):Prop :=
  ∀ k:Int,match m k with
    | some v=>∀ j,∃ i,Instr.findNow (.int .i64) (.int .i64 k) es j=some (some (i,.int .i64 v))
    | none=>∀ j,Instr.findNow (.int .i64) (.int .i64 k) es j=some none
theorem findNow_append (k:Int) (e:MapEntry):∀ (es:List MapEntry) (j:Nat),Instr.findNow (.int .i64) (.int .i64 k) (es++[e]) j=match Instr.findNow (.int .i64) (.int .i64 k) es j with
    | some none=>Instr.findNow (.int .i64) (.int .i64 k) [e] (j+es.length)
    | r=>r
  | [],j=>by simp [Instr.findNow]
  | a :: r,j=>by
    have ih:=findNow_append k e r (j+1)
    rw [show j+1+r.length=j+(a :: r).length by simp;omega] at ih
    rw [List.cons_append]
    unfold Instr.findNow
    split
    · rfl
    · rw [ih]
      cases Instr.findNow (.int .i64) (.int .i64 k) r (j+1) with
      | none=>rfl
      | some x=>cases x with
        | none=>unfold Instr.findNow;rfl
        | some y=>rfl
    · rfl
theorem MEq.push {es:List MapEntry} {m:Int→Option Int} (h:MEq es m) {q v:Int} {born:Nat} (hq:m q=none):MEq (es++[{ key:=.int .i64 q,val:=.int .i64 v,born:=born }]) (fun k=>bif decide (k=q) then some v else m k):=by
  intro k
  have hk:=h k
  by_cases e:k=q
  · subst e
    rw [hq] at hk
    simp only [decide_true,cond_true]
    intro j
    refine ⟨j+es.length,?_⟩
    rw [findNow_append,hk j]
    simp [Instr.findNow,Instr.sameNow]
  · simp only [decide_eq_false e,cond_false]
    cases hm:m k with
    | some u =>
      rw [hm] at hk
      intro j
      obtain ⟨i,hi⟩:=hk j
      exact ⟨i,by rw [findNow_append,hi]⟩
    | none =>
      rw [hm] at hk
      intro j
      rw [findNow_append,hk j]
      simp [Instr.findNow,Instr.sameNow,beq_eq_false_iff_ne.2 e]
inductive MK where
  | mk
  | ins (k v:Int)
  | lk (k:Int)
  | pu
abbrev Sl:=Option (Nat×(Nat→AV))
def stL (L:Nat→Bool) (b:Nat):List Sl→Nat→(Nat→Option AV)→(Nat→Option AV)
  | [],_,f=>f
  | none :: r,i,f=>stL L b r (i+1) f
  | some (t,v) :: r,i,f=>stL L b r (i+1) (bif L i then upd f t (some (v b)) else f)
def wr:List Sl→Nat→Nat→Option (Nat×(Nat→AV))
  | [],_,_=>none
  | none :: r,i,t=>wr r (i+1) t
  | some (t',v) :: r,i,t=>bif Nat.beq t' t then some (i,v) else wr r (i+1) t
def keysOf (I:List (Nat×Int×Int)):List (Int×Int):=I.map fun p=>(p.2.1,p.2.2)
structure MapF (s:Sit) (H:AH) (b:Nat) (m:Int→Option Int):Prop where
  him:¬ s.Im b
  hno:¬ Owned s H b
  at':∃ es clock,s.w.heap[b]?=some (.map es clock)∧MEq es.toList m
theorem MapF.fr {s s':Sit} {H H':AH} {b:Nat} {m:Int→Option Int} (h:MapF s H b m) (hb:b<s.w.heap.size) (hf:Fr s H s' H'):MapF s' H' b m:=by
  obtain ⟨es,clock,h1,h2⟩:=h.at'
  exact ⟨fun hi=>h.him (hf.imo b hb h.hno hi),fun ho=>h.hno (hf.own b hb ho),es,clock,(hf.keep b hb h.hno).trans h1,h2⟩
def valM (b:Nat):Option AV→AV
  | some v=>v
  | none=>.sc (.map (some b))
def cvE (E0:List (Option (Nat×Option AV))):List Sl:=E0.map fun x=>x.map fun p=>(p.1,fun b=>valM b p.2)
def fullM (E0:List (Option (Nat×Option AV))) (f:Nat→Option AV) (b:Nat):Nat→Option AV:=stL (fun _=>true) b (cvE E0) 0 f
def Ob1 (P:Program) (T:TypeId) (tm mkI:Nat) (E0:List (Option (Nat×Option AV))) (I:List (Nat×Int×Int)) (f:Nat→Option AV) (hp:AH) (o:Oper) (i:Nat):MK→Prop
  | .mk=>o.op=.makeMap T none∧o.dst=some tm∧E0[i]?=some (some (tm,none))∧i=mkI
  | .ins q v=>o.op=.insert T (.tmp tm) (.const (.int .i64 q)) (.const (.int .i64 v))∧o.dst=none∧E0[i]?=some none∧(i,q,v)∈I
  | .lk k=>∃ x y t,o.op=.lookup T (.tmp x) y false∧o.dst=some t∧E0[i]?=some (some (t,some (int (lkI (keysOf I) k))))∧(∀ b,fullM E0 f b x=some (.sc (.map (some b))))∧∀ b,(AS.mk (fullM E0 f b) hp).ev y=some (int k)
  | .pu=>∃ t w,o.dst=some t∧E0[i]?=some (some (t,w))∧∀ b,YieldV P o ⟨fullM E0 f b,hp⟩ (valM b w)
def ObM (P:Program) (T:TypeId) (tm mkI:Nat) (E0:List (Option (Nat×Option AV))) (I:List (Nat×Int×Int)) (f:Nat→Option AV) (hp:AH):List Oper→List MK→Nat→Prop
  | [],_,_=>True
  | o :: r,c :: cs,i=>Ob1 P T tm mkI E0 I f hp o i c∧ObM P T tm mkI E0 I f hp r cs (i+1)
  | _ :: _,[],_=>False
theorem ObM.get {P:Program} {T:TypeId} {tm mkI:Nat} {E0:List (Option (Nat×Option AV))} {I:List (Nat×Int×Int)} {f:Nat→Option AV} {hp:AH}:∀ {l:List Oper} {cs:List MK} {k:Nat},ObM P T tm mkI E0 I f hp l cs k→∀ {i:Nat} {o:Oper},l[i]?=some o→∃ c,cs[i]?=some c∧Ob1 P T tm mkI E0 I f hp o (k+i) c
  | [],_,_,_,i,o,h=>by simp at h
  | _ :: _,[],_,h,_,_,_=>h.elim
  | a :: r,c :: cs,k,h,0,o,ho=>by simp only [List.getElem?_cons_zero,Option.some.injEq] at ho;subst ho;exact ⟨c,rfl,h.1⟩
  | a :: r,c :: cs,k,h,i+1,o,ho=>by
    obtain ⟨c',h1,h2⟩:=ObM.get h.2 (i:=i) (by simpa using ho)
    exact ⟨c',by simpa using h1,by rw [show k+(i+1)=k+1+i by omega];exact h2⟩
def left (N:Nat) (listed:Array Bool):Nat:=((List.range N).filter fun i=>!(listed.getD i true)).length
section
variable {P:Program} {n:NT} {ops:List Oper} {T K E:TypeId} {tm mkI:Nat} {E0:List (Option (Nat×Option AV))} {I:List (Nat×Int×Int)} {cs:List MK} {f:Nat→Option AV} {hp:AH} {s0:Sit}
end
def Sit.put (s:Sit) (l:Nat) (o:Obj):Sit:={ s with w:=s.w.putObj l o }
def noc:Obj→Bool
  | .cells ..=>false
  | _=>true
structure NoC (s:Sit) (l:Nat) (o:Obj):Prop where
  im:¬ s.Im l
  at':s.w.heap[l]?=some o
  nc:noc o=true
section
variable {P:Program} {s s' s1 s3:Sit} {H H' H1 H2:AH} {l:Nat} {o o1 o2:Obj}
theorem NoC.lt (h:NoC s l o):l<s.w.heap.size:=(Array.getElem?_eq_some_iff.1 h.at').1
theorem NoC.notOwned (h:NoC s l o) (hH:HR s H) {id:Nat} {ob:AObj} {m:Mu} (h1:H id=some ob) (h2:s.mu id=some m) (h3:m.nil=false):m.b≠l:=by
  intro e
  obtain ⟨m',hm'⟩:=hH.obj id ob h1
  have e':m'=m:=by have:=hm'.hm.symm.trans h2;simpa using this
  subst e'
  rcases hm'.body with ⟨q,_⟩ | ⟨cur,fr,hb⟩
  · rw [q] at h3;cases h3
  · have:=hb.hb;rw [e,h.at'] at this
    cases this
    have:=h.nc
    simp [noc] at this
theorem NoC.no (h:NoC s l o) (hH:HR s H):¬ Owned s H l:=fun ⟨_,_,_,q1,_,q3,q4,q5⟩=>h.notOwned hH q1 q3 q4 q5
theorem NoC.put (h:NoC s l o) (hH:HR s H) (o':Obj):HR (s.put l o') H∧∀ x v,VR s x v→VR (s.put l o') x v:=by
  refine sit_w hH (s.w.putObj l o') (by simp) fun j hj=>World.putObj_heap_other fun e=>?_
  rcases hj with hj | ⟨id,ob,m,q1,q2,q3,q4⟩
  · exact h.im (e ▸ hj)
  · exact h.notOwned hH q1 q2 q3 (q4.trans e)
theorem NoC.fr (h:NoC s l o) (hH:HR s H) (hf:Fr s H s' H'):NoC s' l o:=⟨fun hi=>h.im (hf.imo l h.lt (h.no hH) hi),(hf.keep l h.lt (h.no hH)).trans h.at',h.nc⟩
def Sit.al (s:Sit) (o:Obj):Sit:={ s with w:=s.w.alloc o }
end
abbrev mk (D:Nat):Deferred:={ target:=.collected D,args:=#[] }
section
variable {P:Program} {l D p:Nat} {fn:FuncId} {tmps:Array Value} {assign body:Code} {s:Sit} {H:AH} {x:AV} {v:Value}
end
section
variable {P:Program}
end
section
variable {P:Program} {n:NT} {ops:List Oper} {rdl kpl:Nat→List Nat} {bm:List Nat} {L:Nat} {K:AS→Prop}
end
section
variable {P:Program} {n:NT} {S:AS} {ops:List Oper} {o:Oper}
variable {Q0:Go.Exit→AS→Prop} {st:List Fm} {cs:List Code}
end
set_option maxRecDepth 100000
section
variable {P:Program} {l D p:Nat} {fn:FuncId} {tmps:Array Value} {assign body:Code} {s:Sit} {H:AH} {x:AV} {v:Value}
end
section
variable {P:Program}
end
section
variable {P:Program} {n:NT} {S:AS} {o:Oper} {T:TypeId} {x y:Operand} {α:Type}
end
end Go.Pv
