/- The abstract layer, part 3: operations on memory. -/
import Derived.Test.YtimkkeehkhkhcaaGreatPvB
set_option linter.unusedVariables false
set_option linter.unusedSimpArgs false
namespace Go.Pv
section
variable {P:Program} {n:NT} {S:AS}
theorem addr_add (b o k:Nat):(⟨b,o,none⟩:Addr).add k=⟨b,o+k,none⟩:=by
  unfold Addr.add;split
  · subst_vars;rfl
  · rfl
def Rd (s:Sit) (b o:Nat) (cs:List AV):Prop:=∀ (j:Nat) (x:AV),cs[j]?=some x->∃ v,s.w.cell? ⟨b,o+j,none⟩=some v/\VR s x v
theorem Rd.drop {s:Sit} {b o:Nat} {cs:List AV} (h:Rd s b o cs) (k:Nat):Rd s b (o+k) (cs.drop k):=by
  intro j x hx
  rw [List.getElem?_drop] at hx
  obtain ⟨v,h1,h2⟩:=h _ _ hx
  exact ⟨v,by rw [<- h1];congr 2;omega,h2⟩
theorem VR.JM {s:Sit} {cs:List AV} {v:Value} (h:VR s (.pp cs) v):∃ b o,v=.pointer (some ⟨b,o,none⟩)/\s.Im b/\Rd s b o cs:=by
  cases h with
  | pp f hI hf hv=>exact ⟨_,_,rfl,hI,λj x hx=>⟨_,hf j x hx,hv j x hx⟩⟩
theorem Rd.pp {s:Sit} {b o:Nat} {cs:List AV} (hI:s.Im b) (h:Rd s b o cs):VR s (.pp cs) (.pointer (some ⟨b,o,none⟩)):=by
  refine .pp (λj=>(s.w.cell? ⟨b,o+j,none⟩).getD undef) hI (λj x hx=>?_) (λj x hx=>?_)
  · obtain ⟨v,h1,_⟩:=h j x hx;simp [h1]
  · obtain ⟨v,h1,h2⟩:=h j x hx;simp [h1,h2]
theorem rX {w:World} {b o:Nat} {cur:Array Value} {e:TypeId} {fr:Nat×Nat} (h:w.heap[b]?=some (.cells cur e fr)):w.cell? ⟨b,o,none⟩=cur[o]?:=by
  simp [World.cell?,h]
theorem rJ.rd {s:Sit} {o:aW} {m:Mu} {cur:Array Value} {fr:Nat×Nat} (h:rJ s o m cur fr) {i:Nat} {r:List AV} (hi:o.rows[i]?=some r):Rd s m.b (i*o.sz) r:=by
  intro j x hx
  have hi':i<o.rows.length:=(List.getElem?_eq_some_iff.1 hi).1
  have hj:j<o.sz:=by have:=(List.getElem?_eq_some_iff.1 hx).1;rw [h.hr i r hi] at this;exact this
  have hlt:i*o.sz+j<cur.size:=by
    rw [h.hcs]
    have:(i+1)*o.sz<=m.ct*o.sz:=Nat.mul_le_mul_right _ (by have:=h.hlen;omega)
    rw [Nat.add_mul] at this;omega
  refine ⟨cur[i*o.sz+j],?_,h.hv i r j x _ hi hx (by simp [hlt])⟩
  rw [rX h.hb];simp [hlt]
theorem sD {s:Sit} {id aD row off:Nat} {v:Value} {o:aW} (hH:HR s S.hp) (ho:S.hp id=some o) (hv:o.aD=aD) (hne:o.rows≠[]) (h:VR s (.pt id aD row off) v) :
    ∃ m cur fr,s.mu id=some m/\rJ s o m cur fr/\v=.pointer (some ⟨m.b,row*o.sz+off,none⟩):=by
  obtain ⟨m,hm⟩:=hH.obj id o ho
  rcases hm.body with ⟨_,h2⟩ | ⟨cur,fr,hb⟩
  · exact absurd h2 hne
  · cases h with
    | pt hk h1 h=>exact ⟨m,cur,fr,hm.hm,hb,by rw [h m hm.hm (hm.bP.trans hv) hb.hnil,hm.hsz]⟩
inductive qR (S:AS):AV->List AV->Prop
  | pp (cs:List AV):qR S (.pp cs) cs
  | pt {id aD row off:Nat} {o:aW} {r:List AV} (ho:S.hp id=some o) (hv:o.aD=aD) (hr:o.rows[row]?=some r):qR S (.pt id aD row off) (r.drop off)
theorem qR.rd {s:Sit} {x:AV} {cs:List AV} {v:Value} (h:qR S x cs) (hH:HR s S.hp) (hv:VR s x v):∃ b o,v=.pointer (some ⟨b,o,none⟩)/\Rd s b o cs:=by
  cases h with
  | pp cs=>obtain ⟨b,o,h1,_,h2⟩:=hv.JM;exact ⟨b,o,h1,h2⟩
  | pt ho bP hr =>
    obtain ⟨m,cur,fr,_,hb,h1⟩:=sD hH ho bP (λe=>by rw [e] at hr;simp at hr) hv
    exact ⟨_,_,h1,(hb.rd hr).drop _⟩
def gF (P:Program) (T:TypeId):Option (Nat×Bool) :=
  match P.info? T,P.underlying T with
  | some i,some (.struct _)=>some (i.size,true)
  | some i,some (.array _ _)=>some (i.size,true)
  | some i,some _=>some (i.size,false)
  | _,_=>none
theorem PX {T:TypeId} {k:Nat} {b:Bool} (h:gF P T=some (k,b)) (w:World):(isAgg T).run P w=.ok b w:=by
  unfold gF at h
  unfold isAgg underlying
  cases hi:P.info? T with
  | none=>rw [hi] at h;simp at h
  | some i =>
    cases hu:P.underlying T with
    | none=>rw [hi,hu] at h;simp at h
    | some d=>rw [hi,hu] at h;cases d <;> simp at h <;> simp [program,hu,Sem.run,h]
theorem mG {T:TypeId} {k:Nat} {b:Bool} (h:gF P T=some (k,b)) (w:World):(sizeOf T).run P w=.ok k w:=by
  unfold gF at h
  unfold sizeOf typeInfo
  cases hi:P.info? T with
  | none=>rw [hi] at h;simp at h
  | some i =>
    cases hu:P.underlying T with
    | none=>rw [hi,hu] at h;simp at h
    | some d=>rw [hi,hu] at h;cases d <;> simp at h <;> simp [program,hi,Sem.run,h]
def jU (k:Nat) (agg:Bool) (cs:List AV):Option AV :=
  if agg then (if k<=cs.length then some (.agg (cs.take k)) else none) else cs.head?
theorem R4 {T:TypeId} {k:Nat} {b:Bool} (h:gF P T=some (k,b)) {s:Sit} {bl o:Nat} {cs:List AV} {x:AV} (hr:Rd s bl o cs) (hx:jU k b cs=some x) :
    ∃ v,VR s x v/\(loadVar T ⟨bl,o,none⟩).run P s.w=.ok v s.w:=by
  unfold loadVar
  rw [Sem.run_bind,PX h]
  simp only [Result.andThen_ok]
  cases b with
  | false =>
    cases cs with
    | nil=>simp [jU] at hx
    | cons c cs =>
      simp only [jU,Bool.false_eq_true,if_false,List.head?_cons,Option.some.injEq] at hx
      subst hx
      obtain ⟨v,h1,h2⟩:=hr 0 c rfl
      refine ⟨v,h2,?_⟩
      simp only [Bool.false_eq_true,if_false,run_load]
      rw [Nat.add_zero] at h1
      rw [h1]
  | true =>
    simp only [jU,if_true] at hx
    split at hx
    · rename_i hk
      cases hx
      have hc:∀ j,j<k->∃ v,s.w.cell? ⟨bl,o+j,none⟩=some v/\∀ x,cs[j]?=some x->VR s x v:=λj hj=>by
        obtain ⟨v,h1,h2⟩:=hr j cs[j] (by simp [show j<cs.length by omega])
        exact ⟨v,h1,λx hx=>by rw [List.getElem?_eq_getElem (by omega)] at hx;cases hx;exact h2⟩
      let f:Nat->Value:=λj=>(s.w.cell? ⟨bl,o+j,none⟩).getD undef
      have hrun:=run_loadCells (P:=P) s.w ⟨bl,o,none⟩ k f (λj hj=>by
        obtain ⟨v,h1,_⟩:=hc j hj
        rw [addr_add,h1];simp [f,h1])
      refine ⟨.agg ((List.range k).map f).toArray,?_,by simp only [if_true,Sem.run_bind,mG h,Result.andThen_ok,hrun,Sem.run_pure]⟩
      refine .agg (by simp;omega) λi x v h1 h2=>?_
      have hi:i<k:=by have:=(List.getElem?_eq_some_iff.1 h1).1;simp at this;omega
      obtain ⟨u,g1,g2⟩:=hc i hi
      rw [List.getElem?_take_of_lt hi] at h1
      have:v=f i:=by simpa [hi] using h2.symm
      rw [this]
      simp only [f,g1,Option.getD_some]
      exact g2 x h1
    · simp at hx
section ops
variable {o:Oper} {T:TypeId} {x y:Operand}
theorem fG {k:Nat} {b:Bool} {p:AV} {cs:List AV} {v:AV} (ho:o.op=.load T x) (hT:gF P T=some (k,b)) (hx:S.ev x=some p) (hp:qR S p cs) (hv:jU k b cs=some v):bS P o S v :=
  iK λs ρ hH h=>by
    obtain ⟨bl,off,h1,h2⟩:=hp.rd hH (h x (by simp [ho,Op.operands]) _ hx)
    obtain ⟨u,g1,g2⟩:=R4 hT h2 hv
    exact ⟨u,g1,by simp [execOp,ho,Instr.loadAt,h1,Instr.sureAddr,g2]⟩
theorem bK {p:AV} {cs:List AV} (ho:o.op=.nilCheck x) (hx:S.ev x=some p) (hp:qR S p cs):bS P o S p :=
  iK λs ρ hH h=>by
    have hv:=h x (by simp [ho,Op.operands]) _ hx
    obtain ⟨bl,off,h1,h2⟩:=hp.rd hH hv
    rw [h1] at hv
    exact ⟨_,hv,by simp [execOp,ho,h1]⟩
def jC (P:Program) (T:TypeId) (f:Nat):Option Nat :=
  match P.underlying T with
  | some (.struct fs)=>match fs[f]? with
    | some fl=>match P.info? fl.type with
      | some i=>if i.size=0 then none else some fl.offset
      | none=>none
    | none=>none
  | _=>none
theorem SI {f k:Nat} (h:jC P T f=some k) (b o:Nat) (w:World):(Instr.fieldAt T (.pointer (some ⟨b,o,none⟩)) f).run P w=.ok (.pointer (some ⟨b,o+k,none⟩)) w:=by
  unfold jC at h
  cases hu:P.underlying T with
  | none=>rw [hu] at h;simp at h
  | some d =>
    rw [hu] at h
    cases d with
    | struct fs =>
      simp only at h
      cases hf:fs[f]? with
      | none=>rw [hf] at h;simp at h
      | some fl =>
        rw [hf] at h;simp only at h
        cases hi:P.info? fl.type with
        | none=>rw [hi] at h;simp at h
        | some i =>
          rw [hi] at h;simp only at h
          split at h
          · simp at h
          · rename_i hz
            cases h
            simp [Instr.fieldAt,underlying,program,hu,Sem.run,hf,Instr.sureAddr,fieldPlace,sizeOf,typeInfo,hi,hz,addr_add]
    | _=>simp at h
inductive LF:AV->Nat->AV->Prop
  | pp (cs:List AV) (k:Nat):LF (.pp cs) k (.pp (cs.drop k))
  | pt (id aD row off k:Nat):LF (.pt id aD row off) k (.pt id aD row (off+k))
theorem dX {f k:Nat} {p q:AV} {cs:List AV} (ho:o.op=.fieldAddr T x f) (hT:jC P T f=some k) (hx:S.ev x=some p) (hp:qR S p cs) (hq:LF p k q):bS P o S q :=
  iK λs ρ hH h=>by
    have hv:=h x (by simp [ho,Op.operands]) _ hx
    cases hq with
    | pp cs' k =>
      obtain ⟨b,off,h1,hI,h2⟩:=hv.JM
      exact ⟨_,(h2.drop k).pp hI,by simp [execOp,ho,h1,SI hT]⟩
    | pt id aD row off k =>
      cases hp with
      | pt hob bP hr =>
        obtain ⟨m,cur,fr,hm,hb,h1⟩:=sD hH hob bP (λe=>by rw [e] at hr;simp at hr) hv
        refine ⟨.pointer (some ⟨m.b,row*_+off+k,none⟩),?_,by simp only [execOp,ho,h1,Sem.run_bind,SI hT];rfl⟩
        cases hv with
        | pt hk hone hh =>
          refine .pt hk rfl λm' hm' hver' hnil=>?_
          rw [hm] at hm';cases hm'
          obtain ⟨m2,hm2⟩:=hH.obj _ _ hob
          have:=hm2.hm;rw [hm] at this;cases this
          rw [hm2.hsz,Nat.add_assoc]
theorem pV {c:Operand} {b:Bool} {u v r:AV} (ho:o.op=.pick c x y) (hc:S.ev c=some (.sc (.bool b))) (hx:b=true->S.ev x=some u) (hy:b=false->S.ev y=some v)
    (hr:(bif b then u else v)=r):bS P o S r :=
  iK λs ρ hH h=>by
    have hcv:=(h c (by simp [ho,Op.operands]) _ hc).gJ
    refine ⟨if b then ρ x else ρ y,?_,by simp [execOp,ho,hcv,asBool]⟩
    cases b with
    | true=>simp only [cond_true] at hr;subst hr;exact h x (by simp [ho,Op.operands]) _ (hx rfl)
    | false=>simp only [cond_false] at hr;subst hr;exact h y (by simp [ho,Op.operands]) _ (hy rfl)
theorem jX {src:TypeId} {k k':IntKind} {a r:Int} {d:TypeDesc} (ho:o.op=.convert src T x) (hs:P.underlying src=some d) (hT:P.underlying T=some (.int k)) (hx:S.ev x=some (.sc (.int k' a)))
    (hr:k.wrap a=r):bS P o S (.sc (.int k r)) :=
  vU hx (by simp [ho,Op.operands]) fun ρ w h1=>by
    simp [execOp,ho,h1,convert,run_underlying hs,run_underlying hT,Conv.intToInt,hr]
theorem yA {k:IntKind} {a r:Int} (ho:o.op=.unOp .neg T x) (hx:S.ev x=some (.sc (.int k a))) (hr:k.wrap (0-a)=r):bS P o S (.sc (.int k r)) :=
  vU hx (by simp [ho,Op.operands]) fun ρ w h1=>by subst hr;simp [execOp,ho,h1,Op.unary,Op.intArith]
theorem EA {b r:Bool} (ho:o.op=.unOp .not T x) (hx:S.ev x=some (.sc (.bool b))) (hr:(!b)=r):bS P o S (.sc (.bool r)) :=
  vU hx (by simp [ho,Op.operands]) fun ρ w h1=>by subst hr;simp [execOp,ho,h1,Op.unary]
theorem TK {Ty:TypeId} {a b:Bool} (ho:o.op=.binOp .neq T x y Ty) (hT:P.underlying T=some .bool) (hx:S.ev x=some (.sc (.bool a))) (hy:S.ev y=some (.sc (.bool b))):bS P o S (.sc (.bool (decide (a≠b)))) :=
  kK ho hx hy λw=>by
    have:(!(a == b))=decide (a≠b):=by cases a <;> cases b <;> rfl
    simp only [eqGuard,Sem.run_bind]
    simp [run_neq_bool _ _ _ _ hT,<- this]
theorem M9 {Ty:TypeId} {a b:Bool} (ho:o.op=.binOp .eql T x y Ty) (hT:P.underlying T=some .bool) (hx:S.ev x=some (.sc (.bool a))) (hy:S.ev y=some (.sc (.bool b))):bS P o S (.sc (.bool (decide (a=b)))) :=
  kK ho hx hy λw=>by
    have:(a == b)=decide (a=b):=by cases a <;> cases b <;> rfl
    simp only [eqGuard,Sem.run_bind]
    simp [run_eql_bool _ _ _ _ hT,<- this]
theorem j6 (l:List UInt8):(bs l).size=l.length:=rfl
theorem nX {l:List UInt8} (ho:o.op=.call { callee:=.builtin .len,args:=#[x],argTypes:=#[T] }) (hT:P.underlying T=some .string) (hx:S.ev x=some (.sc (.string (bs l)))) :
    bS P o S (.sc (.int .i64 l.length)) :=
  vU hx (by simp [ho,Op.operands,Call.operands]) fun ρ w h1=>by
    simp [execOp,ho,h1,resolve,invoke,builtin,Builtin.len_,run_underlying hT,goInt,j6]
inductive tY (S:AS):AV->Nat->Prop
  | list (sz:Nat) (xs:List (List AV)):tY S (.list sz xs) xs.length
  | sl {id aD off len:Nat} {ob:aW} (ho:S.hp id=some ob) (hv:ob.aD=aD):tY S (.sl id aD off len) len
  | nil (c:Nat) (a:Option Addr) (k:Nat):tY S (.sc (.slice a k c)) k
theorem tY.val {s:Sit} {p:AV} {k:Nat} {v:Value} (h:tY S p k) (hH:HR s S.hp) (hv:VR s p v):∃ a c,v=.slice a k c:=by
  cases h with
  | list sz xs=>cases hv with
    | nil=>exact ⟨_,_,rfl⟩
    | emp=>exact ⟨_,_,rfl⟩
    | list=>exact ⟨_,_,rfl⟩
  | nil c a k=>cases hv;exact ⟨_,_,rfl⟩
  | sl ho bP=>cases hv with
    | sl hk h1 h =>
      obtain ⟨m,hm⟩:=hH.obj _ _ ho
      have:=h m hm.hm (hm.bP.trans bP)
      cases hn:m.nil with
      | true=>obtain ⟨g1,g2⟩:=this.1 hn;subst g2;exact ⟨_,_,g1⟩
      | false=>obtain ⟨c,g1,_⟩:=this.2 hn;exact ⟨_,_,g1⟩
theorem mY {e:TypeId} {p:AV} {k:Nat} (ho:o.op=.call { callee:=.builtin .len,args:=#[x],argTypes:=#[T] }) (hT:P.underlying T=some (.slice e)) (hx:S.ev x=some p) (hp:tY S p k) :
    bS P o S (.sc (.int .i64 k)) :=
  iK λs ρ hH h=>by
    obtain ⟨a,c,h1⟩:=hp.val hH (h x (by simp [ho,Op.operands,Call.operands]) _ hx)
    exact ⟨_,.sc _,by simp [execOp,ho,h1,resolve,invoke,builtin,Builtin.len_,run_underlying hT,goInt]⟩
inductive zI (S:AS) (sz:Nat):AV->Nat->AV->Prop
  | list {xs:List (List AV)} {i:Nat} {r:List AV} (h:xs[i]?=some r):zI S sz (.list sz xs) i (.pp r)
  | sl {id aD off len i:Nat} {ob:aW} (ho:S.hp id=some ob) (hv:ob.aD=aD) (hs:ob.sz=sz) (hi:i<len) (hr:off+i<ob.rows.length):zI S sz (.sl id aD off len) i (.pt id aD (off+i) 0)
theorem dA {e:TypeId} {sz:Nat} {b:Bool} {p q:AV} {k:IntKind} {i:Int} {j:Nat} (ho:o.op=.indexAddr T x y) (hT:P.underlying T=some (.slice e)) (he:gF P e=some (sz,b)) (hx:S.ev x=some p) (hy:S.ev y=some (.sc (.int k i)))
    (hi:i=(j:Int)) (hq:zI S sz p j q):bS P o S q :=
  iK λs ρ hH h=>by
    have hv:=h x (by simp [ho,Op.operands]) _ hx
    have hyv:=(h y (by simp [ho,Op.operands]) _ hy).gJ
    generalize hu:ρ x=u at hv
    have run:∀ (bl of len cap:Nat),j<len->(Instr.indexAt T (.slice (some ⟨bl,of,none⟩) len cap) (.int k i)).run P s.w=.ok (.pointer (some ⟨bl,of+j*sz,none⟩)) s.w:=λbl of len cap hlt=>by
      subst hi
      have h0:(0:Int)<=(j:Int):=by omega
      have h1:(j:Int)<(len:Int):=by omega
      simp only [Instr.indexAt,asIntOf,run_underlying hT,Sem.run_bind,Sem.run_pure,Result.andThen_ok,h0,h1,and_self,if_true,mG he,addr_add,Int.toNat_natCast]
    cases hq with
    | list hr =>
      cases hv with
      | nil=>simp at hr
      | emp=>simp at hr
      | list f hI hc hm hl hf hv =>
        have hlt:j<_:=(List.getElem?_eq_some_iff.1 hr).1
        refine ⟨_,?_,by simp only [execOp,ho,hyv,hu,Sem.run_bind,run _ _ _ _ hlt];rfl⟩
        exact Rd.pp hI λjj z hz=>⟨_,hf _ _ _ _ hr hz,hv _ _ _ _ hr hz⟩
    | sl hob bP hsz hlen hr =>
      cases hv with
      | sl hk h1 hh =>
        obtain ⟨m,hm⟩:=hH.obj _ _ hob
        rcases hm.body with ⟨_,h2⟩ | ⟨cur,fr,hb⟩
        · rw [h2] at hr;simp at hr
        · obtain ⟨cap,g1,g2,g3⟩:=(hh m hm.hm (hm.bP.trans bP)).2 hb.hnil
          refine ⟨_,?_,by simp only [execOp,ho,hyv,hu,g1,Sem.run_bind,run _ _ _ _ hlen];rfl⟩
          refine .pt hk rfl λm' hm' _ _=>?_
          rw [hm.hm] at hm';cases hm'
          rw [hm.hsz,hsz,Nat.add_mul,Nat.add_zero]
theorem yT {k:IntKind} {i:Int} {j:Nat} {l:List UInt8} {c:UInt8} (ho:o.op=.index T x y) (hT:P.underlying T=some .string) (hx:S.ev x=some (.sc (.string (bs l)))) (hy:S.ev y=some (.sc (.int k i)))
    (hi:i=(j:Int)) (hc:l[j]?=some c):bS P o S (.sc (.int .u8 c.toNat)) :=
  zX hx hy (by simp [ho,Op.operands]) (by simp [ho,Op.operands]) fun ρ w h1 h2=>by
    subst hi
    have hlt:j<l.length:=(List.getElem?_eq_some_iff.1 hc).1
    have hget:(bs l)[j]?=some c:=by
      have:j<(bs l).size:=by rw [j6];exact hlt
      rw [getElem?_pos (bs l) j this]
      have h3:=(List.getElem?_eq_some_iff.1 hc).2
      rw [<- h3];rfl
    simp [execOp,ho,h1,h2,Instr.index,asIntOf,run_underlying hT,hget]
theorem uU (isS:Bool) (len cap:Nat) (lo hi:Option Value) (i j:Nat) (w:World) (hlo:(lo=none/\i=0)\/∃ k,lo=some (.int k (i:Int))) (hhi:(hi=none/\j=len)\/∃ k,hi=some (.int k (j:Int)))
    (hij:i<=j) (hj:j<=cap):(Instr.sliceBounds isS len cap lo hi none).run P w=.ok (i,j,cap) w:=by
  have a1:(0:Int)<=(i:Int):=by omega
  have a2:(0:Int)<=(j:Int):=by omega
  have a3:(i:Int)<=(j:Int):=by omega
  have a4:(j:Int)<=(cap:Int):=by omega
  rcases hlo with ⟨rfl,rfl⟩ | ⟨k,rfl⟩ <;> rcases hhi with ⟨rfl,rfl⟩ | ⟨k',rfl⟩ <;>
    simp only [Instr.sliceBounds,Sem.run_bind,Sem.run_pure,Result.andThen_ok,Option.isSome_none,Bool.false_eq_true,if_false,run_sliceBound,a1,a2,a3,a4,Int.toNat_natCast]
inductive kQ (S:AS) (d:Nat):Option Operand->Nat->Prop
  | no:kQ S d none d
  | yes {p:Operand} {k:IntKind} {a:Int} {i:Nat} (h:S.ev p=some (.sc (.int k a))) (e:a=(i:Int)):kQ S d (some p) i
theorem kQ.val {s:Sit} {ρ:Operand->Value} {d i:Nat} {p:Option Operand} (h:kQ S d p i) (hv:∀ q,p=some q->∀ av,S.ev q=some av->VR s av (ρ q)):(p.map ρ=none/\i=d)\/∃ k,p.map ρ=some (.int k (i:Int)):=by
  cases h with
  | no=>exact .inl ⟨rfl,rfl⟩
  | yes h e=>exact .inr ⟨_,by rw [Option.map_some,(hv _ rfl _ h).gJ,e]⟩
theorem vP {lo hi:Option Operand} {l:List UInt8} {i j:Nat} (ho:o.op=.slice T x lo hi none) (hT:P.underlying T=some .string) (hx:S.ev x=some (.sc (.string (bs l))))
    (hlo:kQ S 0 lo i) (hhi:kQ S l.length hi j) (hij:i<=j) (hj:j<=l.length):bS P o S (.sc (.string (bs ((l.take j).drop i)))) :=
  iK λs ρ hH h=>by
    have hxv:=(h x (by simp [ho,Op.operands]) _ hx).gJ
    refine ⟨_,.sc _,?_⟩
    have hex:(bs l).extract i j=bs ((l.take j).drop i):=by
      apply ByteArray.ext;simp [bs,ByteArray.data_extract,List.drop_take]
    have hb:=uU (P:=P) false l.length l.length _ _ i j s.w (hlo.val λq hq av=>h q (by simp [ho,Op.operands,hq]) av) (hhi.val λq hq av=>h q (by simp [ho,Op.operands,hq]) av) hij hj
    simp only [execOp,ho,hxv,Instr.sliceAt,Instr.slice,Sem.run_bind,run_underlying hT,Result.andThen_ok,j6,Option.map_none,Option.isSome_none,Bool.false_eq_true,if_false,hb,Sem.run_pure,hex]
theorem aIE {lo hi:Option Operand} {e:TypeId} {sz:Nat} {b:Bool} {xs:List (List AV)} {i j:Nat} (ho:o.op=.slice T x lo hi none) (hT:P.underlying T=some (.slice e)) (he:gF P e=some (sz,b)) (hx:S.ev x=some (.list sz xs))
    (hlo:kQ S 0 lo i) (hhi:kQ S xs.length hi j) (hij:i<=j) (hj:j<=xs.length):bS P o S (.list sz ((xs.take j).drop i)) :=
  iK λs ρ hH h=>by
    have hv:=h x (by simp [ho,Op.operands]) _ hx
    generalize hu:ρ x=u at hv
    have b1:=hlo.val (s:=s) (ρ:=ρ) λq hq av=>h q (by simp [ho,Op.operands,hq]) av
    have b2:=hhi.val (s:=s) (ρ:=ρ) λq hq av=>h q (by simp [ho,Op.operands,hq]) av
    cases hv with
    | nil =>
      simp at hj;subst hj
      have:i=0:=by omega
      subst this
      have hb:=uU (P:=P) true 0 0 _ _ 0 0 s.w b1 b2 (Nat.le_refl _) (Nat.le_refl _)
      refine ⟨.slice none 0 0,by simpa using VR.nil sz,?_⟩
      simp only [execOp,ho,hu,Instr.sliceAt,Instr.slice,Sem.run_bind,run_underlying hT,Result.andThen_ok,Option.map_none,hb,mG he,Sem.run_pure,if_true]
    | emp _ ad =>
      simp at hj;subst hj
      have:i=0:=by omega
      subst this
      have hb:=uU (P:=P) true 0 0 _ _ 0 0 s.w b1 b2 (Nat.le_refl _) (Nat.le_refl _)
      refine ⟨.slice (some ad) 0 0,by simpa using VR.emp sz ad,?_⟩
      simp only [execOp,ho,hu,Instr.sliceAt,Instr.slice,Sem.run_bind,run_underlying hT,Result.andThen_ok,Option.map_none,hb,mG he,Sem.run_pure,Option.map_some,if_true]
    | list f hI hc hm hl hf hv =>
      rename_i bl of cap
      have hb:=uU (P:=P) true xs.length cap _ _ i j s.w b1 b2 hij (by omega)
      refine ⟨.slice (if cap=i then some ⟨bl,of,none⟩ else some ⟨bl,of+i*sz,none⟩) (j-i) (cap-i),?_,?_⟩
      · by_cases hci:cap=i
        · have h0:j=i:=by omega
          subst h0 hci
          have h1:List.drop cap (List.take cap xs)=[]:=by simp
          rw [h1,if_pos rfl]
          have:=VR.list (s:=s) (sz:=sz) (xs:=[]) (b:=bl) (off:=of) (cap:=0) (λ_ _=>undef) hI (by simp) (by simp [maxLen]) (by simp) (by simp) (by simp)
          simpa using this
        · rw [if_neg hci]
          have hlen:((xs.take j).drop i).length=j-i:=by simp;omega
          have get:∀ (k:Nat) (r:List AV),((xs.take j).drop i)[k]?=some r->xs[i+k]?=some r:=λk r hr=>by
            have hk:=(List.getElem?_eq_some_iff.1 hr).1
            rw [hlen] at hk
            rw [List.getElem?_drop,List.getElem?_take_of_lt (by omega)] at hr
            exact hr
          have:=VR.list (s:=s) (sz:=sz) (xs:=(xs.take j).drop i) (b:=bl) (off:=of+i*sz) (cap:=cap-i) (λk=>f (i+k)) hI (by rw [hlen];omega) (by omega)
            (λk r hr=>hl _ r (get k r hr)) (λk r jj x hr hx=>by rw [<- hf _ r jj x (get k r hr) hx];congr 2;rw [Nat.add_mul];omega) (λk r jj x hr hx=>hv _ r jj x (get k r hr) hx)
          rw [hlen] at this
          exact this
      · simp only [execOp,ho,hu,Instr.sliceAt,Instr.slice,Sem.run_bind,run_underlying hT,Result.andThen_ok,Option.map_none,hb,mG he,Sem.run_pure,Option.map_some,addr_add]
theorem zK {d:TypeDesc} {v:AV} (ho:o.op=.makeInterface T x) (hT:P.underlying T=some d) (hd:∀ ms,d≠.interface ms) (hx:S.ev x=some v):bS P o S (.iG T v) :=
  iK λs ρ hH h=>⟨_,.iG (h x (by simp [ho,Op.operands]) _ hx),by
    simp only [execOp,ho,Instr.makeInterface,Sem.run_bind,run_underlying hT,Result.andThen_ok]
    cases d <;> first | rfl | exact absurd rfl (hd _)⟩
inductive EvL (S:AS):List Operand->List AV->Prop
  | nil:EvL S [] []
  | cons {x:Operand} {v:AV} {xs:List Operand} {vs:List AV} (h:S.ev x=some v) (t:EvL S xs vs):EvL S (x :: xs) (v :: vs)
theorem EvL.val {s:Sit} {ρ:Operand->Value} {xs:List Operand} {vs:List AV} (h:EvL S xs vs) (hv:∀ q∈xs,∀ av,S.ev q=some av->VR s av (ρ q)) :
    vs.length=xs.length/\∀ (i:Nat) (x:AV) (v:Value),vs[i]?=some x->(xs.map ρ)[i]?=some v->VR s x v:=by
  induction h with
  | nil=>simp
  | cons h t ih =>
    obtain ⟨i1,i2⟩:=ih λq hq=>hv q (List.mem_cons_of_mem _ hq)
    refine ⟨by simp [i1],λi x v h1 h2=>?_⟩
    cases i with
    | zero=>simp at h1 h2;subst h1 h2;exact hv _ (List.mem_cons_self ..) _ h
    | succ i=>exact i2 i x v (by simpa using h1) (by simpa using h2)
theorem JC {f:Fn} {as cs:List Operand} {vs ws:List AV} (ho:o.op=.makeFunc f as.toArray cs.toArray) (h1:EvL S as vs) (h2:EvL S cs ws):bS P o S (.fn f vs ws) :=
  iK λs ρ hH h=>by
    obtain ⟨a1,a2⟩:=h1.val (s:=s) (ρ:=ρ) λq hq=>h q (by simp [ho,Op.operands,hq])
    obtain ⟨b1,b2⟩:=h2.val (s:=s) (ρ:=ρ) λq hq=>h q (by simp [ho,Op.operands,hq])
    refine ⟨.func f (as.map ρ).toArray (cs.map ρ).toArray,.fn (by simp [a1]) (by simp [b1]) (by simpa using a2) (by simpa using b2),?_⟩
    simp [execOp,ho,Instr.makeFunc]
theorem TP {i:Nat} {vs:List AV} {v:AV} (ho:o.op=.extract x i) (hx:S.ev x=some (.aM vs)) (hv:vs[i]?=some v):bS P o S v :=
  iK λs ρ hH h=>by
    have hxv:=h x (by simp [ho,Op.operands]) _ hx
    generalize hu:ρ x=u at hxv
    cases hxv with
    | aM hl hh =>
      rename_i us
      have hi:i<us.size:=by rw [<- hl];exact (List.getElem?_eq_some_iff.1 hv).1
      exact ⟨us[i],hh i v _ hv (by simp [hi]),by simp [execOp,ho,hu,Instr.extract,hi]⟩
end ops
end
end Go.Pv
