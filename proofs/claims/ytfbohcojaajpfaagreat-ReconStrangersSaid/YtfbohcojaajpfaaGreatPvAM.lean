import Derived.Test.YtfbohcojaajpfaaGreatPvAD
import Derived.ChangeKeysEq
set_option linter.unusedSimpArgs false
set_option linter.unusedVariables false
namespace Go.Pv
section
variable {P:Program} {n:NT} {S:AS} {o:Oper} {T:TypeId} {x y z:Operand}
theorem yv_max3 {kk:IntKind} {a b c r:Int} {ts:Array TypeId} (ho:o.op=.call { callee:=.builtin .max,args:=#[x,y,z],argTypes:=ts }) (hx:S.ev x=some (.sc (.int kk a))) (hy:S.ev y=some (.sc (.int kk b))) (hz:S.ev z=some (.sc (.int kk c)))
    (hr:(if c>(if b>a then b else a) then c else (if b>a then b else a))=r):YieldV P o S (.sc (.int kk r)) :=
  yv_of fun s ρ _ h=>⟨_,.sc _,by
    have h1:=(h x (by simp [ho,Op.operands,Call.operands]) _ hx).sc_inv
    have h2:=(h y (by simp [ho,Op.operands,Call.operands]) _ hy).sc_inv
    have h3:=(h z (by simp [ho,Op.operands,Call.operands]) _ hz).sc_inv
    subst hr;simp [execOp,ho,h1,h2,h3,resolve,invoke,builtin,Builtin.max_,Builtin.max2]⟩
theorem run_eql_iface {t tx:TypeId} {ms:Array (String×TypeId)} (hT:P.underlying t=some (.interface ms)) (v:Value) (w:World):(Op.equal t (.iface tx v) .nilIface).run P w=.ok false w:=by
  unfold Op.equal Op.maxDepth
  rw [Op.equalIn]
  simp only [Sem.run_bind,run_underlying hT,Result.andThen_ok,Sem.run_pure]
theorem run_eql_nils {t:TypeId} {ms:Array (String×TypeId)} (hT:P.underlying t=some (.interface ms)) (w:World):(Op.equal t .nilIface .nilIface).run P w=.ok true w:=by
  unfold Op.equal Op.maxDepth
  rw [Op.equalIn]
  simp only [Sem.run_bind,run_underlying hT,Result.andThen_ok,Sem.run_pure]
theorem ifc_inv {s:Sit} {t:TypeId} {v:AV} {u:Value} (h:VR s (.ifc t v) u):∃ u',u=.iface t u'∧VR s v u':=by cases h with | ifc h=>exact ⟨_,rfl,h⟩
theorem yv_ifeq {Ty:TypeId} {ms:Array (String×TypeId)} {t:TypeId} {v:AV} (ho:o.op=.binOp .eql T x y Ty) (hT:P.underlying T=some (.interface ms)) (hx:S.ev x=some (.ifc t v)) (hy:S.ev y=some (.sc .nilIface)):YieldV P o S (boo false) :=
  yv_of fun s ρ _ h=>⟨_,.sc _,by
    obtain ⟨u,h1,_⟩:=ifc_inv (h x (by simp [ho,Op.operands]) _ hx)
    have h2:=(h y (by simp [ho,Op.operands]) _ hy).sc_inv
    simp [execOp,ho,h1,h2,eqGuard,binOp,run_eql_iface hT]⟩
theorem yv_ifeqN {Ty:TypeId} {ms:Array (String×TypeId)} {c:Value} (ho:o.op=.binOp .eql T x (.const c) Ty) (hT:P.underlying T=some (.interface ms)) (hx:S.ev x=some (.sc .nilIface)) (hc:c=.nilIface):YieldV P o S (boo true) :=
  yv_of fun s ρ _ h=>⟨_,.sc _,by
    have h1:=(h x (by simp [ho,Op.operands]) _ hx).sc_inv
    have h2:ρ (.const c)=.nilIface:=by
      have:=(h (.const c) (by simp [ho,Op.operands]) (.sc c) rfl).sc_inv
      rw [this,hc]
    simp [execOp,ho,h1,h2,eqGuard,binOp,run_eql_nils hT]⟩
def notIfc:TypeDesc→Bool
  | .interface _=>false
  | _=>true
theorem yv_tassT {t:TypeId} {d:TypeDesc} {v:AV} (ho:o.op=.typeAssert x T t true) (hT:P.underlying t=some d) (hd:notIfc d=true) (hx:S.ev x=some (.ifc t v)):YieldV P o S (.tup [v,boo true]) :=
  yv_of fun s ρ _ h=>by
    obtain ⟨u,hu,hv⟩:=ifc_inv (h x (by simp [ho,Op.operands]) _ hx)
    refine ⟨.tuple #[u,.bool true],.tup rfl fun i y w hy hw=>?_,?_⟩
    · cases i with
      | zero=>simp at hy hw;subst hy hw;exact hv
      | succ i=>cases i with
        | zero=>simp at hy hw;subst hy hw;exact .sc _
        | succ i=>simp at hy
    · simp only [execOp,ho,hu,Instr.typeAssert,Sem.run_bind,run_underlying hT,Result.andThen_ok]
      cases d <;> first | (simp [notIfc] at hd;done) | simp [Instr.typeAssert]
def zAgg (P:Program) (t:TypeId):Bool :=
  match (P.info? t).bind (·.zero) with
  | some (.agg cs)=>cs.isEmpty
  | _=>false
theorem run_zAgg {t:TypeId} (h:zAgg P t=true) (w:World):(zeroValue t).run P w=.ok (.agg #[]) w:=by
  unfold zAgg at h
  cases hi:P.info? t with
  | none=>rw [hi] at h;simp at h
  | some i =>
    rw [hi] at h
    simp only [Option.bind_some] at h
    split at h
    · rename_i cs hz
      have:cs=#[]:=by simpa using h
      subst this
      simp [zeroValue,typeInfo,program,Sem.run,hi,hz]
    · cases h
theorem yv_tassF {t tx:TypeId} {d:TypeDesc} {v:AV} (ho:o.op=.typeAssert x T t true) (hT:P.underlying t=some d) (hd:notIfc d=true) (hx:S.ev x=some (.ifc tx v)) (hne:Nat.beq tx t=false)
    (hz:zAgg P t=true):YieldV P o S (.tup [.agg [],boo false]) :=
  yv_of fun s ρ _ h=>by
    obtain ⟨u,hu,hv⟩:=ifc_inv (h x (by simp [ho,Op.operands]) _ hx)
    have hne':tx≠t:=Nat.ne_of_beq_eq_false hne
    refine ⟨.tuple #[.agg #[],.bool false],.tup rfl fun i y w hy hw=>?_,?_⟩
    · cases i with
      | zero=>simp at hy hw;subst hy hw;exact .agg rfl fun i y w hy=>by simp at hy
      | succ i=>cases i with
        | zero=>simp at hy hw;subst hy hw;exact .sc _
        | succ i=>simp at hy
    · simp only [execOp,ho,hu,Instr.typeAssert,Sem.run_bind,run_underlying hT,Result.andThen_ok]
      cases d <;> first | (simp [notIfc] at hd;done) | simp [Instr.typeAssert,hne',run_zAgg hz]
theorem yv_ixAR {e N id ver:Nat} {b:Bool} {ob:AObj} {kk:IntKind} {i:Int} {r:List AV} (ho:o.op=.indexAddr T x y) (hT:P.underlying T=some (.array N e)) (he:tySh P e=some (1,b)) (hx:S.ev x=some (.pt id ver 0 0)) (hy:S.ev y=some (.sc (.int kk i)))
    (hob:S.hp id=some ob) (hver:ob.ver=ver) (hr:ob.rows=[r]) (hi:0≤i∧i<(N:Int)):YieldV P o S (.pt id ver 0 i.toNat):=by
  have h:=yv_indexAddrA (r:=r) ho hT he hx hy hob hver (by rw [hr];rfl) hi
  rwa [Nat.zero_add,Nat.mul_one] at h
theorem yv_ldAR {id ver:Nat} {ob:AObj} {l:List Int} {i v:Int} (ho:o.op=.load T x) (hT:tySh P T=some (1,false)) (hx:S.ev x=some (.pt id ver 0 i.toNat))
    (hob:S.hp id=some ob) (hver:ob.ver=ver) (hr:ob.rows=[l.map int]) (h:ix l i=some v):YieldV P o S (int v) :=
  yv_load ho hT hx (.pt hob hver (r:=l.map int) (by rw [hr];rfl)) (by
    have h1:(l.map int)[i.toNat]?=some (int v):=ix_get (f:=int) h
    show ((l.map int).drop i.toNat).head?=_
    rw [List.head?_drop];exact h1)
theorem putRow_one {r:List AV} {k:Nat} {v:AV} (h:k<r.length):putRow r k [v]=r.set k v:=by
  unfold putRow
  rw [List.set_eq_take_append_cons_drop,if_pos h]
  simp
theorem yl_stAR {id ver:Nat} {ob:AObj} {l l':List Int} {i v w:Int} (ho:o.op=.store T x y) (hT:tySh P T=some (1,false)) (hx:S.ev x=some (.pt id ver 0 i.toNat)) (hy:S.ev y=some (int v))
    (hob:S.hp id=some ob) (hver:ob.ver=ver) (hmt:ob.mt=true) (hr:ob.rows=[l.map int]) (h:ix l i=some w) (hl:l.set i.toNat v=l') :
    Yield P o S no no (fun z H'=>z=.sc undef∧H'=upd S.hp id (some { ob with rows:=[l'.map int] })):=by
  have hlt:=ix_lt h
  have h1:=yl_store (P:=P) (r:=l.map int) ho hT hx hy hob hver hmt (by rw [hr];rfl) rfl (Nat.ble_eq_true_of_le (by rw [List.length_map];omega)) rfl
  have e:ob.rows.set 0 (putRow (l.map int) i.toNat [int v])=[l'.map int]:=by
    rw [hr,putRow_one (by rw [List.length_map];exact hlt),← hl,List.map_set];rfl
  show Yield P o S no no _
  have e2:(int v).cells=[int v]:=rfl
  rw [e2,e] at h1
  exact h1
theorem cvl_to {H:AH} {a b c:List AV} (h:CvL H a b) (e:c=b):CvL H a c:=e ▸ h
end
section
variable {P:Program} {n:NT} {S:AS} {o:Oper} {T:TypeId} {x y:Operand} {α:Type}
theorem map_setR {β:Type} {g:β→List AV} {l l':List β} {k:Nat} {v:β} {c:List AV} (e:l.set k v=l') (hc:g v=c):(l.map g).set k c=l'.map g:=by rw [← e,List.map_set,hc]
end
end Go.Pv
set_option linter.unusedSimpArgs false
set_option linter.unusedVariables false
namespace Go.Pv
def rl {α:Type}:List (Nat×α)→α→Nat→α
  | [],d,_=>d
  | (j,v) :: r,d,i=>bif Nat.beq i j then v else rl r d i
section
variable {P:Program} {n:NT} {ops:List Oper} {rdl kpl:Nat→List Nat} {pu:Nat→Bool} {K:AS→Prop} {pi:List Nat} {i t:Nat} {o:Oper} {f:Nat→Option AV} {hp:AH} {x y:Operand} {v:AV}
end
section
variable {P:Program} {n:NT} {Q0:Go.Exit→AS→Prop} {st:List Fm} {cs:List Code} {f:Nat→Option AV} {hp:AH} {ops rest:List Oper} {o:Oper} {x y:Operand}
def evs (S:AS):List Operand→Option (List AV)
  | []=>some []
  | x :: r=>match S.ev x with
    | some v=>match evs S r with
      | some vs=>some (v :: vs)
      | none=>none
    | none=>none
theorem evs_ok {S:AS}:∀ {as:List Operand} {vs:List AV},evs S as=some vs→EvL S as vs
  | [],vs,h=>by simp only [evs,Option.some.injEq] at h;subst h;exact .nil
  | x :: r,vs,h=>by
    unfold evs at h
    split at h
    · rename_i v hv
      split at h
      · rename_i us hu
        simp only [Option.some.injEq] at h;subst h;exact .cons hv (evs_ok hu)
      · cases h
    · cases h
end
end Go.Pv
set_option linter.unusedSimpArgs false
set_option linter.unusedVariables false
namespace Go.Pv
section
variable {P:Program} {S:AS} {o:Oper} {T K E:TypeId} {x y:Operand}
theorem map_getD {l:List Int} {k:Nat} (h:l.length=k):l.map int=(List.range k).map fun i=>int (l.getD i 0):=by
  subst h
  refine List.ext_getElem (by simp) fun i h1 h2=>?_
  simp only [List.getElem_map,List.getElem_range]
  have h3:i<l.length:=by simpa using h1
  simp [List.getD,List.getElem?_eq_getElem h3]
theorem yv_ldARw {id ver k:Nat} {ob:AObj} {l:List Int} (ho:o.op=.load T x) (hT:tySh P T=some (k,true)) (hx:S.ev x=some (.pt id ver 0 0))
    (hob:S.hp id=some ob) (hver:ob.ver=ver) (hr:ob.rows=[l.map int]) (hl:l.length=k):YieldV P o S (.agg ((List.range k).map fun i=>int (l.getD i 0))) :=
  yv_load ho hT hx (.pt hob hver (r:=l.map int) (by rw [hr];rfl)) (by
    rw [← map_getD hl]
    show cellsV k true (l.map int)=_
    unfold cellsV
    rw [if_pos rfl,if_pos (by simp [hl]),List.take_of_length_le (by simp [hl])])
structure MapAt (s:Sit) (H:AH) (b:Nat) (ks:List Int) (xs:List AV):Prop where
  him:¬ s.Im b
  hno:¬ Owned s H b
  at':∃ es clock,s.w.heap[b]?=some (.map es clock)∧es.toList.map (·.key)=ks.map (Value.int .i64)∧xs.length=es.toList.length∧∀ (i:Nat) (x:AV) (e:MapEntry),xs[i]?=some x→es.toList[i]?=some e→VR s x e.val
variable {n:NT} {ops rest:List Oper} {K':AS→Prop}
variable {Q0:Go.Exit→AS→Prop} {st:List Fm} {cs:List Code} {b:Nat} {ks:List Int} {xs:List AV}
end
end Go.Pv
set_option linter.unusedSimpArgs false
set_option linter.unusedVariables false
namespace Go.Pv
section
variable {P:Program} {n:NT}
structure IterAt (s:Sit) (H:AH) (b:Nat) (l:List UInt8) (p:Nat):Prop where
  him:¬ s.Im b
  hno:¬ Owned s H b
  at':s.w.heap[b]?=some (.stringIter (bs l) p)
variable {S:AS} {ops rest:List Oper} {o:Oper} {K:Nat→List UInt8→AS→Prop}
variable {Q0:Go.Exit→AS→Prop} {st:List Fm} {cs:List Code}
end
section
variable {P:Program} {S:AS} {o:Oper} {T K E:TypeId} {x y:Operand} {α:Type}
end
end Go.Pv
set_option linter.unusedSimpArgs false
set_option linter.unusedVariables false
namespace Go.Pv
def MEq (es:List MapEntry) (m:Int→Option Int):Prop :=
  ∀ k:Int,match m k with
    | some v=>∀ j,∃ i,Instr.findNow (.int .i64) (.int .i64 k) es j=some (some (i,.int .i64 v))
    | none=>∀ j,Instr.findNow (.int .i64) (.int .i64 k) es j=some none
inductive MK where
  | mk
  | ins (k v:Int)
  | lk (k:Int)
  | pu
abbrev Sl:=Option (Nat×(Nat→AV))
def wr:List Sl→Nat→Nat→Option (Nat×(Nat→AV))
  | [],_,_=>none
  | none :: r,i,t=>wr r (i+1) t
  | some (t',v) :: r,i,t=>bif Nat.beq t' t then some (i,v) else wr r (i+1) t
structure MapF (s:Sit) (H:AH) (b:Nat) (m:Int→Option Int):Prop where
  him:¬ s.Im b
  hno:¬ Owned s H b
  at':∃ es clock,s.w.heap[b]?=some (.map es clock)∧MEq es.toList m
def left (N:Nat) (listed:Array Bool):Nat:=((List.range N).filter fun i=>!(listed.getD i true)).length
section
variable {P:Program} {n:NT} {ops:List Oper} {T K E:TypeId} {tm mkI:Nat} {E0:List (Option (Nat×Option AV))} {I:List (Nat×Int×Int)} {cs:List MK} {f:Nat→Option AV} {hp:AH} {s0:Sit}
end
end Go.Pv
set_option linter.unusedSimpArgs false
set_option linter.unusedVariables false
namespace Go.Pv
def Sit.put (s:Sit) (l:Nat) (o:Obj):Sit:={ s with w:=s.w.putObj l o }
def noc:Obj→Bool
  | .cells ..=>false
  | _=>true
structure NoC (s:Sit) (l:Nat) (o:Obj):Prop where
  im:¬ s.Im l
  at':s.w.heap[l]?=some o
  nc:noc o=true
section
variable {P:Program} {s s' s1 s3:Sit} {H H' H1 H2:AH} {l:Nat} {o o1 o2:Obj}
theorem NoC.no (h:NoC s l o) (hH:HR s H):¬ Owned s H l:=fun ⟨_,_,_,q1,_,q3,q4,q5⟩=>h.notOwned hH q1 q3 q4 q5
def Sit.al (s:Sit) (o:Obj):Sit:={ s with w:=s.w.alloc o }
end
abbrev mk (D:Nat):Deferred:={ target:=.collected D,args:=#[] }
section
variable {P:Program} {l D p:Nat} {fn:FuncId} {tmps:Array Value} {assign body:Code} {s:Sit} {H:AH} {x:AV} {v:Value}
end
section
variable {P:Program}
end
end Go.Pv
set_option linter.unusedSimpArgs false
set_option linter.unusedVariables false
namespace Go.Pv
section
variable {P:Program} {n:NT} {ops:List Oper} {rdl kpl:Nat→List Nat} {bm:List Nat} {L:Nat} {K:AS→Prop}
end
section
variable {P:Program} {n:NT} {S:AS} {ops:List Oper} {o:Oper}
variable {Q0:Go.Exit→AS→Prop} {st:List Fm} {cs:List Code}
end
end Go.Pv
set_option linter.unusedSimpArgs false
set_option linter.unusedVariables false
namespace Go.Pv
set_option maxRecDepth 100000
section
variable {P:Program} {l D p:Nat} {fn:FuncId} {tmps:Array Value} {assign body:Code} {s:Sit} {H:AH} {x:AV} {v:Value}
end
section
variable {P:Program}
end
end Go.Pv
set_option linter.unusedSimpArgs false
set_option linter.unusedVariables false
namespace Go.Pv
section
variable {P:Program} {n:NT} {S:AS} {o:Oper} {T:TypeId} {x y:Operand} {α:Type}
end
end Go.Pv
