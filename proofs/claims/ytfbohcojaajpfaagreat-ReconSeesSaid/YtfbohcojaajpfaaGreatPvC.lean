/- The abstract layer, part 3: operations on memory. -/
import Derived.Test.YtfbohcojaajpfaaGreatPvB
set_option linter.unusedVariables false
set_option linter.unusedSimpArgs false
namespace Go.Pv
section
variable {P:Program} {n:NT} {S:AS}
theorem addr_add (b o k:Nat):(⟨b,o,none⟩:Addr).add k=⟨b,o+k,none⟩:=by
  unfold Addr.add;split
  · subst_vars;rfl
  · rfl
def Rd (s:Sit) (b o:Nat) (cs:List AV):Prop:=∀ (j:Nat) (x:AV),cs[j]?=some x→∃ v,s.w.cell? ⟨b,o+j,none⟩=some v∧VR s x v
theorem Rd.drop {s:Sit} {b o:Nat} {cs:List AV} (h:Rd s b o cs) (k:Nat):Rd s b (o+k) (cs.drop k):=by
  intro j x hx
  rw [List.getElem?_drop] at hx
  obtain ⟨v,h1,h2⟩:=h _ _ hx
  exact ⟨v,by rw [← h1];congr 2;omega,h2⟩
theorem VR.pp_rd {s:Sit} {cs:List AV} {v:Value} (h:VR s (.pp cs) v):∃ b o,v=.pointer (some ⟨b,o,none⟩)∧s.Im b∧Rd s b o cs:=by
  cases h with
  | pp f hI hf hv=>exact ⟨_,_,rfl,hI,fun j x hx=>⟨_,hf j x hx,hv j x hx⟩⟩
theorem Rd.pp {s:Sit} {b o:Nat} {cs:List AV} (hI:s.Im b) (h:Rd s b o cs):VR s (.pp cs) (.pointer (some ⟨b,o,none⟩)):=by
  refine .pp (fun j=>(s.w.cell? ⟨b,o+j,none⟩).getD undef) hI (fun j x hx=>?_) (fun j x hx=>?_)
  · obtain ⟨v,h1,_⟩:=h j x hx;simp [h1]
  · obtain ⟨v,h1,h2⟩:=h j x hx;simp [h1,h2]
theorem cell_of_cells {w:World} {b o:Nat} {cur:Array Value} {e:TypeId} {fr:Nat×Nat} (h:w.heap[b]?=some (.cells cur e fr)):w.cell? ⟨b,o,none⟩=cur[o]?:=by
  simp [World.cell?,h]
theorem ObjB.rd {s:Sit} {o:AObj} {m:Mu} {cur:Array Value} {fr:Nat×Nat} (h:ObjB s o m cur fr) {i:Nat} {r:List AV} (hi:o.rows[i]?=some r):Rd s m.b (i*o.sz) r:=by
  intro j x hx
  have hi':i<o.rows.length:=(List.getElem?_eq_some_iff.1 hi).1
  have hj:j<o.sz:=by have:=(List.getElem?_eq_some_iff.1 hx).1;rw [h.hr i r hi] at this;exact this
  have hlt:i*o.sz+j<cur.size:=by
    rw [h.hcs]
    have:(i+1)*o.sz≤m.ct*o.sz:=Nat.mul_le_mul_right _ (by have:=h.hlen;omega)
    rw [Nat.add_mul] at this;omega
  refine ⟨cur[i*o.sz+j],?_,h.hv i r j x _ hi hx (by simp [hlt])⟩
  rw [cell_of_cells h.hb];simp [hlt]
theorem pt_live {s:Sit} {id ver row off:Nat} {v:Value} {o:AObj} (hH:HR s S.hp) (ho:S.hp id=some o) (hv:o.ver=ver) (hne:o.rows≠[]) (h:VR s (.pt id ver row off) v) :
    ∃ m cur fr,s.mu id=some m∧ObjB s o m cur fr∧v=.pointer (some ⟨m.b,row*o.sz+off,none⟩):=by
  obtain ⟨m,hm⟩:=hH.obj id o ho
  rcases hm.body with ⟨_,h2⟩ | ⟨cur,fr,hb⟩
  · exact absurd h2 hne
  · cases h with
    | pt hk h1 h=>exact ⟨m,cur,fr,hm.hm,hb,by rw [h m hm.hm (hm.hver.trans hv) hb.hnil,hm.hsz]⟩
inductive PRd (S:AS):AV→List AV→Prop
  | pp (cs:List AV):PRd S (.pp cs) cs
  | pt {id ver row off:Nat} {o:AObj} {r:List AV} (ho:S.hp id=some o) (hv:o.ver=ver) (hr:o.rows[row]?=some r):PRd S (.pt id ver row off) (r.drop off)
theorem PRd.rd {s:Sit} {x:AV} {cs:List AV} {v:Value} (h:PRd S x cs) (hH:HR s S.hp) (hv:VR s x v):∃ b o,v=.pointer (some ⟨b,o,none⟩)∧Rd s b o cs:=by
  cases h with
  | pp cs=>obtain ⟨b,o,h1,_,h2⟩:=hv.pp_rd;exact ⟨b,o,h1,h2⟩
  | pt ho hver hr =>
    obtain ⟨m,cur,fr,_,hb,h1⟩:=pt_live hH ho hver (fun e=>by rw [e] at hr;simp at hr) hv
    exact ⟨_,_,h1,(hb.rd hr).drop _⟩
def tySh (P:Program) (T:TypeId):Option (Nat×Bool) :=
  match P.info? T,P.underlying T with
  | some i,some (.struct _)=>some (i.size,true)
  | some i,some (.array _ _)=>some (i.size,true)
  | some i,some _=>some (i.size,false)
  | _,_=>none
theorem run_isAgg {T:TypeId} {k:Nat} {b:Bool} (h:tySh P T=some (k,b)) (w:World):(isAgg T).run P w=.ok b w:=by
  unfold tySh at h
  unfold isAgg underlying
  cases hi:P.info? T with
  | none=>rw [hi] at h;simp at h
  | some i =>
    cases hu:P.underlying T with
    | none=>rw [hi,hu] at h;simp at h
    | some d=>rw [hi,hu] at h;cases d <;> simp at h <;> simp [program,hu,Sem.run,h]
theorem run_sizeOf' {T:TypeId} {k:Nat} {b:Bool} (h:tySh P T=some (k,b)) (w:World):(sizeOf T).run P w=.ok k w:=by
  unfold tySh at h
  unfold sizeOf typeInfo
  cases hi:P.info? T with
  | none=>rw [hi] at h;simp at h
  | some i =>
    cases hu:P.underlying T with
    | none=>rw [hi,hu] at h;simp at h
    | some d=>rw [hi,hu] at h;cases d <;> simp at h <;> simp [program,hi,Sem.run,h]
def cellsV (k:Nat) (agg:Bool) (cs:List AV):Option AV :=
  if agg then (if k≤cs.length then some (.agg (cs.take k)) else none) else cs.head?
theorem run_loadVar' {T:TypeId} {k:Nat} {b:Bool} (h:tySh P T=some (k,b)) {s:Sit} {bl o:Nat} {cs:List AV} {x:AV} (hr:Rd s bl o cs) (hx:cellsV k b cs=some x) :
    ∃ v,VR s x v∧(loadVar T ⟨bl,o,none⟩).run P s.w=.ok v s.w:=by
  unfold loadVar
  rw [Sem.run_bind,run_isAgg h]
  simp only [Result.andThen_ok]
  cases b with
  | false =>
    cases cs with
    | nil=>simp [cellsV] at hx
    | cons c cs =>
      simp only [cellsV,Bool.false_eq_true,if_false,List.head?_cons,Option.some.injEq] at hx
      subst hx
      obtain ⟨v,h1,h2⟩:=hr 0 c rfl
      refine ⟨v,h2,?_⟩
      simp only [Bool.false_eq_true,if_false,run_load]
      rw [Nat.add_zero] at h1
      rw [h1]
  | true =>
    simp only [cellsV,if_true] at hx
    split at hx
    · rename_i hk
      cases hx
      have hc:∀ j,j<k→∃ v,s.w.cell? ⟨bl,o+j,none⟩=some v∧∀ x,cs[j]?=some x→VR s x v:=fun j hj=>by
        obtain ⟨v,h1,h2⟩:=hr j cs[j] (by simp [show j<cs.length by omega])
        exact ⟨v,h1,fun x hx=>by rw [List.getElem?_eq_getElem (by omega)] at hx;cases hx;exact h2⟩
      let f:Nat→Value:=fun j=>(s.w.cell? ⟨bl,o+j,none⟩).getD undef
      have hrun:=run_loadCells (P:=P) s.w ⟨bl,o,none⟩ k f (fun j hj=>by
        obtain ⟨v,h1,_⟩:=hc j hj
        rw [addr_add,h1];simp [f,h1])
      refine ⟨.agg ((List.range k).map f).toArray,?_,by simp only [if_true,Sem.run_bind,run_sizeOf' h,Result.andThen_ok,hrun,Sem.run_pure]⟩
      refine .agg (by simp;omega) fun i x v h1 h2=>?_
      have hi:i<k:=by have:=(List.getElem?_eq_some_iff.1 h1).1;simp at this;omega
      obtain ⟨u,g1,g2⟩:=hc i hi
      rw [List.getElem?_take_of_lt hi] at h1
      have:v=f i:=by simpa [hi] using h2.symm
      rw [this]
      simp only [f,g1,Option.getD_some]
      exact g2 x h1
    · simp at hx
section ops
variable {o:Oper} {T:TypeId} {x y:Operand}
theorem yv_load {k:Nat} {b:Bool} {p:AV} {cs:List AV} {v:AV} (ho:o.op=.load T x) (hT:tySh P T=some (k,b)) (hx:S.ev x=some p) (hp:PRd S p cs) (hv:cellsV k b cs=some v):YieldV P o S v :=
  yv_of fun s ρ hH h=>by
    obtain ⟨bl,off,h1,h2⟩:=hp.rd hH (h x (by simp [ho,Op.operands]) _ hx)
    obtain ⟨u,g1,g2⟩:=run_loadVar' hT h2 hv
    exact ⟨u,g1,by simp [execOp,ho,Instr.loadAt,h1,Instr.sureAddr,g2]⟩
theorem yv_nilCheck {p:AV} {cs:List AV} (ho:o.op=.nilCheck x) (hx:S.ev x=some p) (hp:PRd S p cs):YieldV P o S p :=
  yv_of fun s ρ hH h=>by
    have hv:=h x (by simp [ho,Op.operands]) _ hx
    obtain ⟨bl,off,h1,h2⟩:=hp.rd hH hv
    rw [h1] at hv
    exact ⟨_,hv,by simp [execOp,ho,h1]⟩
def fOff (P:Program) (T:TypeId) (f:Nat):Option Nat :=
  match P.underlying T with
  | some (.struct fs)=>match fs[f]? with
    | some fl=>match P.info? fl.type with
      | some i=>if i.size=0 then none else some fl.offset
      | none=>none
    | none=>none
  | _=>none
theorem run_fieldAt' {f k:Nat} (h:fOff P T f=some k) (b o:Nat) (w:World):(Instr.fieldAt T (.pointer (some ⟨b,o,none⟩)) f).run P w=.ok (.pointer (some ⟨b,o+k,none⟩)) w:=by
  unfold fOff at h
  cases hu:P.underlying T with
  | none=>rw [hu] at h;simp at h
  | some d =>
    rw [hu] at h
    cases d with
    | struct fs =>
      simp only at h
      cases hf:fs[f]? with
      | none=>rw [hf] at h;simp at h
      | some fl =>
        rw [hf] at h;simp only at h
        cases hi:P.info? fl.type with
        | none=>rw [hi] at h;simp at h
        | some i =>
          rw [hi] at h;simp only at h
          split at h
          · simp at h
          · rename_i hz
            cases h
            simp [Instr.fieldAt,underlying,program,hu,Sem.run,hf,Instr.sureAddr,fieldPlace,sizeOf,typeInfo,hi,hz,addr_add]
    | _=>simp at h
inductive FAd:AV→Nat→AV→Prop
  | pp (cs:List AV) (k:Nat):FAd (.pp cs) k (.pp (cs.drop k))
  | pt (id ver row off k:Nat):FAd (.pt id ver row off) k (.pt id ver row (off+k))
theorem yv_fieldAddr {f k:Nat} {p q:AV} {cs:List AV} (ho:o.op=.fieldAddr T x f) (hT:fOff P T f=some k) (hx:S.ev x=some p) (hp:PRd S p cs) (hq:FAd p k q):YieldV P o S q :=
  yv_of fun s ρ hH h=>by
    have hv:=h x (by simp [ho,Op.operands]) _ hx
    cases hq with
    | pp cs' k =>
      obtain ⟨b,off,h1,hI,h2⟩:=hv.pp_rd
      exact ⟨_,(h2.drop k).pp hI,by simp [execOp,ho,h1,run_fieldAt' hT]⟩
    | pt id ver row off k =>
      cases hp with
      | pt hob hver hr =>
        obtain ⟨m,cur,fr,hm,hb,h1⟩:=pt_live hH hob hver (fun e=>by rw [e] at hr;simp at hr) hv
        refine ⟨.pointer (some ⟨m.b,row*_+off+k,none⟩),?_,by simp only [execOp,ho,h1,Sem.run_bind,run_fieldAt' hT];rfl⟩
        cases hv with
        | pt hk hone hh =>
          refine .pt hk rfl fun m' hm' hver' hnil=>?_
          rw [hm] at hm';cases hm'
          obtain ⟨m2,hm2⟩:=hH.obj _ _ hob
          have:=hm2.hm;rw [hm] at this;cases this
          rw [hm2.hsz,Nat.add_assoc]
theorem yv_pick {c:Operand} {b:Bool} {u v r:AV} (ho:o.op=.pick c x y) (hc:S.ev c=some (.sc (.bool b))) (hx:b=true→S.ev x=some u) (hy:b=false→S.ev y=some v)
    (hr:(bif b then u else v)=r):YieldV P o S r :=
  yv_of fun s ρ hH h=>by
    have hcv:=(h c (by simp [ho,Op.operands]) _ hc).sc_inv
    refine ⟨if b then ρ x else ρ y,?_,by simp [execOp,ho,hcv,asBool]⟩
    cases b with
    | true=>simp only [cond_true] at hr;subst hr;exact h x (by simp [ho,Op.operands]) _ (hx rfl)
    | false=>simp only [cond_false] at hr;subst hr;exact h y (by simp [ho,Op.operands]) _ (hy rfl)
theorem yv_convInt {src:TypeId} {k k':IntKind} {a r:Int} {d:TypeDesc} (ho:o.op=.convert src T x) (hs:P.underlying src=some d) (hT:P.underlying T=some (.int k)) (hx:S.ev x=some (.sc (.int k' a)))
    (hr:k.wrap a=r):YieldV P o S (.sc (.int k r)) :=
  yv_sc1 hx (by simp [ho,Op.operands]) fun ρ w h1=>by
    simp [execOp,ho,h1,convert,run_underlying hs,run_underlying hT,Conv.intToInt,hr]
theorem yv_neg {k:IntKind} {a r:Int} (ho:o.op=.unOp .neg T x) (hx:S.ev x=some (.sc (.int k a))) (hr:k.wrap (0-a)=r):YieldV P o S (.sc (.int k r)) :=
  yv_sc1 hx (by simp [ho,Op.operands]) fun ρ w h1=>by subst hr;simp [execOp,ho,h1,Op.unary,Op.intArith]
theorem yv_not {b r:Bool} (ho:o.op=.unOp .not T x) (hx:S.ev x=some (.sc (.bool b))) (hr:(!b)=r):YieldV P o S (.sc (.bool r)) :=
  yv_sc1 hx (by simp [ho,Op.operands]) fun ρ w h1=>by subst hr;simp [execOp,ho,h1,Op.unary]
theorem yv_bneq {Ty:TypeId} {a b:Bool} (ho:o.op=.binOp .neq T x y Ty) (hT:P.underlying T=some .bool) (hx:S.ev x=some (.sc (.bool a))) (hy:S.ev y=some (.sc (.bool b))):YieldV P o S (.sc (.bool (decide (a≠b)))) :=
  yv_bin ho hx hy fun w=>by
    have:(!(a == b))=decide (a≠b):=by cases a <;> cases b <;> rfl
    simp only [eqGuard,Sem.run_bind]
    simp [run_neq_bool _ _ _ _ hT,← this]
theorem yv_beql {Ty:TypeId} {a b:Bool} (ho:o.op=.binOp .eql T x y Ty) (hT:P.underlying T=some .bool) (hx:S.ev x=some (.sc (.bool a))) (hy:S.ev y=some (.sc (.bool b))):YieldV P o S (.sc (.bool (decide (a=b)))) :=
  yv_bin ho hx hy fun w=>by
    have:(a == b)=decide (a=b):=by cases a <;> cases b <;> rfl
    simp only [eqGuard,Sem.run_bind]
    simp [run_eql_bool _ _ _ _ hT,← this]
theorem bs_size (l:List UInt8):(bs l).size=l.length:=rfl
theorem yv_len_str {l:List UInt8} (ho:o.op=.call { callee:=.builtin .len,args:=#[x],argTypes:=#[T] }) (hT:P.underlying T=some .string) (hx:S.ev x=some (.sc (.string (bs l)))) :
    YieldV P o S (.sc (.int .i64 l.length)) :=
  yv_sc1 hx (by simp [ho,Op.operands,Call.operands]) fun ρ w h1=>by
    simp [execOp,ho,h1,resolve,invoke,builtin,Builtin.len_,run_underlying hT,goInt,bs_size]
inductive SlLen (S:AS):AV→Nat→Prop
  | list (sz:Nat) (xs:List (List AV)):SlLen S (.list sz xs) xs.length
  | sl {id ver off len:Nat} {ob:AObj} (ho:S.hp id=some ob) (hv:ob.ver=ver):SlLen S (.sl id ver off len) len
  | nil (c:Nat) (a:Option Addr) (k:Nat):SlLen S (.sc (.slice a k c)) k
theorem SlLen.val {s:Sit} {p:AV} {k:Nat} {v:Value} (h:SlLen S p k) (hH:HR s S.hp) (hv:VR s p v):∃ a c,v=.slice a k c:=by
  cases h with
  | list sz xs=>cases hv with
    | nil=>exact ⟨_,_,rfl⟩
    | emp=>exact ⟨_,_,rfl⟩
    | list=>exact ⟨_,_,rfl⟩
  | nil c a k=>cases hv;exact ⟨_,_,rfl⟩
  | sl ho hver=>cases hv with
    | sl hk h1 h =>
      obtain ⟨m,hm⟩:=hH.obj _ _ ho
      have:=h m hm.hm (hm.hver.trans hver)
      cases hn:m.nil with
      | true=>obtain ⟨g1,g2⟩:=this.1 hn;subst g2;exact ⟨_,_,g1⟩
      | false=>obtain ⟨c,g1,_⟩:=this.2 hn;exact ⟨_,_,g1⟩
theorem yv_len_sl {e:TypeId} {p:AV} {k:Nat} (ho:o.op=.call { callee:=.builtin .len,args:=#[x],argTypes:=#[T] }) (hT:P.underlying T=some (.slice e)) (hx:S.ev x=some p) (hp:SlLen S p k) :
    YieldV P o S (.sc (.int .i64 k)) :=
  yv_of fun s ρ hH h=>by
    obtain ⟨a,c,h1⟩:=hp.val hH (h x (by simp [ho,Op.operands,Call.operands]) _ hx)
    exact ⟨_,.sc _,by simp [execOp,ho,h1,resolve,invoke,builtin,Builtin.len_,run_underlying hT,goInt]⟩
inductive IAd (S:AS) (sz:Nat):AV→Nat→AV→Prop
  | list {xs:List (List AV)} {i:Nat} {r:List AV} (h:xs[i]?=some r):IAd S sz (.list sz xs) i (.pp r)
  | sl {id ver off len i:Nat} {ob:AObj} (ho:S.hp id=some ob) (hv:ob.ver=ver) (hs:ob.sz=sz) (hi:i<len) (hr:off+i<ob.rows.length):IAd S sz (.sl id ver off len) i (.pt id ver (off+i) 0)
theorem yv_indexAddr {e:TypeId} {sz:Nat} {b:Bool} {p q:AV} {k:IntKind} {i:Int} {j:Nat} (ho:o.op=.indexAddr T x y) (hT:P.underlying T=some (.slice e)) (he:tySh P e=some (sz,b)) (hx:S.ev x=some p) (hy:S.ev y=some (.sc (.int k i)))
    (hi:i=(j:Int)) (hq:IAd S sz p j q):YieldV P o S q :=
  yv_of fun s ρ hH h=>by
    have hv:=h x (by simp [ho,Op.operands]) _ hx
    have hyv:=(h y (by simp [ho,Op.operands]) _ hy).sc_inv
    generalize hu:ρ x=u at hv
    have run:∀ (bl of len cap:Nat),j<len→(Instr.indexAt T (.slice (some ⟨bl,of,none⟩) len cap) (.int k i)).run P s.w=.ok (.pointer (some ⟨bl,of+j*sz,none⟩)) s.w:=fun bl of len cap hlt=>by
      subst hi
      have h0:(0:Int)≤(j:Int):=by omega
      have h1:(j:Int)<(len:Int):=by omega
      simp only [Instr.indexAt,asIntOf,run_underlying hT,Sem.run_bind,Sem.run_pure,Result.andThen_ok,h0,h1,and_self,if_true,run_sizeOf' he,addr_add,Int.toNat_natCast]
    cases hq with
    | list hr =>
      cases hv with
      | nil=>simp at hr
      | emp=>simp at hr
      | list f hI hc hm hl hf hv =>
        have hlt:j<_:=(List.getElem?_eq_some_iff.1 hr).1
        refine ⟨_,?_,by simp only [execOp,ho,hyv,hu,Sem.run_bind,run _ _ _ _ hlt];rfl⟩
        exact Rd.pp hI fun jj z hz=>⟨_,hf _ _ _ _ hr hz,hv _ _ _ _ hr hz⟩
    | sl hob hver hsz hlen hr =>
      cases hv with
      | sl hk h1 hh =>
        obtain ⟨m,hm⟩:=hH.obj _ _ hob
        rcases hm.body with ⟨_,h2⟩ | ⟨cur,fr,hb⟩
        · rw [h2] at hr;simp at hr
        · obtain ⟨cap,g1,g2,g3⟩:=(hh m hm.hm (hm.hver.trans hver)).2 hb.hnil
          refine ⟨_,?_,by simp only [execOp,ho,hyv,hu,g1,Sem.run_bind,run _ _ _ _ hlen];rfl⟩
          refine .pt hk rfl fun m' hm' _ _=>?_
          rw [hm.hm] at hm';cases hm'
          rw [hm.hsz,hsz,Nat.add_mul,Nat.add_zero]
theorem yv_index_str {k:IntKind} {i:Int} {j:Nat} {l:List UInt8} {c:UInt8} (ho:o.op=.index T x y) (hT:P.underlying T=some .string) (hx:S.ev x=some (.sc (.string (bs l)))) (hy:S.ev y=some (.sc (.int k i)))
    (hi:i=(j:Int)) (hc:l[j]?=some c):YieldV P o S (.sc (.int .u8 c.toNat)) :=
  yv_sc2 hx hy (by simp [ho,Op.operands]) (by simp [ho,Op.operands]) fun ρ w h1 h2=>by
    subst hi
    have hlt:j<l.length:=(List.getElem?_eq_some_iff.1 hc).1
    have hget:(bs l)[j]?=some c:=by
      have:j<(bs l).size:=by rw [bs_size];exact hlt
      rw [getElem?_pos (bs l) j this]
      have h3:=(List.getElem?_eq_some_iff.1 hc).2
      rw [← h3];rfl
    simp [execOp,ho,h1,h2,Instr.index,asIntOf,run_underlying hT,hget]
inductive BdO (S:AS) (d:Nat):Option Operand→Nat→Prop
  | no:BdO S d none d
  | yes {p:Operand} {k:IntKind} {a:Int} {i:Nat} (h:S.ev p=some (.sc (.int k a))) (e:a=(i:Int)):BdO S d (some p) i
theorem BdO.val {s:Sit} {ρ:Operand→Value} {d i:Nat} {p:Option Operand} (h:BdO S d p i) (hv:∀ q,p=some q→∀ av,S.ev q=some av→VR s av (ρ q)):(p.map ρ=none∧i=d)∨∃ k,p.map ρ=some (.int k (i:Int)):=by
  cases h with
  | no=>exact .inl ⟨rfl,rfl⟩
  | yes h e=>exact .inr ⟨_,by rw [Option.map_some,(hv _ rfl _ h).sc_inv,e]⟩
theorem yv_makeIface {d:TypeDesc} {v:AV} (ho:o.op=.makeInterface T x) (hT:P.underlying T=some d) (hd:∀ ms,d≠.interface ms) (hx:S.ev x=some v):YieldV P o S (.ifc T v) :=
  yv_of fun s ρ hH h=>⟨_,.ifc (h x (by simp [ho,Op.operands]) _ hx),by
    simp only [execOp,ho,Instr.makeInterface,Sem.run_bind,run_underlying hT,Result.andThen_ok]
    cases d <;> first | rfl | exact absurd rfl (hd _)⟩
inductive EvL (S:AS):List Operand→List AV→Prop
  | nil:EvL S [] []
  | cons {x:Operand} {v:AV} {xs:List Operand} {vs:List AV} (h:S.ev x=some v) (t:EvL S xs vs):EvL S (x :: xs) (v :: vs)
theorem EvL.val {s:Sit} {ρ:Operand→Value} {xs:List Operand} {vs:List AV} (h:EvL S xs vs) (hv:∀ q∈xs,∀ av,S.ev q=some av→VR s av (ρ q)) :
    vs.length=xs.length∧∀ (i:Nat) (x:AV) (v:Value),vs[i]?=some x→(xs.map ρ)[i]?=some v→VR s x v:=by
  induction h with
  | nil=>simp
  | cons h t ih =>
    obtain ⟨i1,i2⟩:=ih fun q hq=>hv q (List.mem_cons_of_mem _ hq)
    refine ⟨by simp [i1],fun i x v h1 h2=>?_⟩
    cases i with
    | zero=>simp at h1 h2;subst h1 h2;exact hv _ (List.mem_cons_self ..) _ h
    | succ i=>exact i2 i x v (by simpa using h1) (by simpa using h2)
theorem yv_makeFunc {f:Fn} {as cs:List Operand} {vs ws:List AV} (ho:o.op=.makeFunc f as.toArray cs.toArray) (h1:EvL S as vs) (h2:EvL S cs ws):YieldV P o S (.fn f vs ws) :=
  yv_of fun s ρ hH h=>by
    obtain ⟨a1,a2⟩:=h1.val (s:=s) (ρ:=ρ) fun q hq=>h q (by simp [ho,Op.operands,hq])
    obtain ⟨b1,b2⟩:=h2.val (s:=s) (ρ:=ρ) fun q hq=>h q (by simp [ho,Op.operands,hq])
    refine ⟨.func f (as.map ρ).toArray (cs.map ρ).toArray,.fn (by simp [a1]) (by simp [b1]) (by simpa using a2) (by simpa using b2),?_⟩
    simp [execOp,ho,Instr.makeFunc]
theorem yv_extract {i:Nat} {vs:List AV} {v:AV} (ho:o.op=.extract x i) (hx:S.ev x=some (.tup vs)) (hv:vs[i]?=some v):YieldV P o S v :=
  yv_of fun s ρ hH h=>by
    have hxv:=h x (by simp [ho,Op.operands]) _ hx
    generalize hu:ρ x=u at hxv
    cases hxv with
    | tup hl hh =>
      rename_i us
      have hi:i<us.size:=by rw [← hl];exact (List.getElem?_eq_some_iff.1 hv).1
      exact ⟨us[i],hh i v _ hv (by simp [hi]),by simp [execOp,ho,hu,Instr.extract,hi]⟩
end ops
end
end Go.Pv
