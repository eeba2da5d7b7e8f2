import Derived.Test.YtfamehgkphejnaaGreatPvB
set_option linter.unusedVariables false
set_option linter.unusedSimpArgs false
namespace Go.Pv
section
variable {P:Program} {n:NT} {S:AS}
theorem addr_add (b o k:Nat):(⟨b,o,none⟩:Addr).add k=⟨b,o+k,none⟩:=by
  unfold Addr.add;split
  · subst_vars;rfl
  · rfl
def Rd (s:Sit) (b o:Nat) (cs:List AV):Prop:=∀ (j:Nat) (x:AV),cs[j]?=some x->∃ v,s.w.cell? ⟨b,o+j,none⟩=some v/\VR s x v
theorem Rd.drop {s:Sit} {b o:Nat} {cs:List AV} (h:Rd s b o cs) (k:Nat):Rd s b (o+k) (cs.drop k):=by
  intro j x hx
  rw [List.getElem?_drop] at hx
  obtain ⟨v,h1,h2⟩:=h _ _ hx
  exact ⟨v,by rw [<- h1];congr 2;omega,h2⟩
theorem VR.VB {s:Sit} {cs:List AV} {v:Value} (h:VR s (.pp cs) v):∃ b o,v=.pointer (some ⟨b,o,none⟩)/\s.Im b/\Rd s b o cs:=by
  cases h with
  | pp f hI hf hv=>exact ⟨_,_,rfl,hI,λj x hx=>⟨_,hf j x hx,hv j x hx⟩⟩
theorem Rd.pp {s:Sit} {b o:Nat} {cs:List AV} (hI:s.Im b) (h:Rd s b o cs):VR s (.pp cs) (.pointer (some ⟨b,o,none⟩)):=by
  refine .pp (λj=>(s.w.cell? ⟨b,o+j,none⟩).getD undef) hI (λj x hx=>?_) (λj x hx=>?_)
  · obtain ⟨v,h1,_⟩:=h j x hx;simp [h1]
  · obtain ⟨v,h1,h2⟩:=h j x hx;simp [h1,h2]
theorem xH {w:World} {b o:Nat} {cur:Array Value} {e:TypeId} {fr:Nat×Nat} (h:w.heap[b]?=some (.cells cur e fr)):w.cell? ⟨b,o,none⟩=cur[o]?:=by
  simp [World.cell?,h]
theorem oZ.rd {s:Sit} {o:bC} {m:Mu} {cur:Array Value} {fr:Nat×Nat} (h:oZ s o m cur fr) {i:Nat} {r:List AV} (hi:o.rows[i]?=some r):Rd s m.b (i*o.sz) r:=by
  intro j x hx
  have hi':i<o.rows.length:=(List.getElem?_eq_some_iff.1 hi).1
  have hj:j<o.sz:=by have:=(List.getElem?_eq_some_iff.1 hx).1;rw [h.hr i r hi] at this;exact this
  have hlt:i*o.sz+j<cur.size:=by
    rw [h.hcs]
    have:(i+1)*o.sz<=m.ct*o.sz:=Nat.mul_le_mul_right _ (by have:=h.hlen;omega)
    rw [Nat.add_mul] at this;omega
  refine ⟨cur[i*o.sz+j],?_,h.hv i r j x _ hi hx (by simp [hlt])⟩
  rw [xH h.hb];simp [hlt]
theorem CP {s:Sit} {id aG row off:Nat} {v:Value} {o:bC} (hH:HR s S.hp) (ho:S.hp id=some o) (hv:o.aG=aG) (hne:o.rows≠[]) (h:VR s (.pt id aG row off) v) :
    ∃ m cur fr,s.mu id=some m/\oZ s o m cur fr/\v=.pointer (some ⟨m.b,row*o.sz+off,none⟩):=by
  obtain ⟨m,hm⟩:=hH.obj id o ho
  rcases hm.body with ⟨_,h2⟩ | ⟨cur,fr,hb⟩
  · exact absurd h2 hne
  · cases h with
    | pt hk h1 h=>exact ⟨m,cur,fr,hm.hm,hb,by rw [h m hm.hm (hm.bL.trans hv) hb.hnil,hm.hsz]⟩
inductive qQ (S:AS):AV->List AV->Prop
  | pp (cs:List AV):qQ S (.pp cs) cs
  | pt {id aG row off:Nat} {o:bC} {r:List AV} (ho:S.hp id=some o) (hv:o.aG=aG) (hr:o.rows[row]?=some r):qQ S (.pt id aG row off) (r.drop off)
theorem qQ.rd {s:Sit} {x:AV} {cs:List AV} {v:Value} (h:qQ S x cs) (hH:HR s S.hp) (hv:VR s x v):∃ b o,v=.pointer (some ⟨b,o,none⟩)/\Rd s b o cs:=by
  cases h with
  | pp cs=>obtain ⟨b,o,h1,_,h2⟩:=hv.VB;exact ⟨b,o,h1,h2⟩
  | pt ho bL hr =>
    obtain ⟨m,cur,fr,_,hb,h1⟩:=CP hH ho bL (λe=>by rw [e] at hr;simp at hr) hv
    exact ⟨_,_,h1,(hb.rd hr).drop _⟩
def dL (P:Program) (T:TypeId):Option (Nat×Bool) :=
  match P.info? T,P.underlying T with
  | some i,some (.struct _)=>some (i.size,true)
  | some i,some (.array _ _)=>some (i.size,true)
  | some i,some _=>some (i.size,false)
  | _,_=>none
theorem RX {T:TypeId} {k:Nat} {b:Bool} (h:dL P T=some (k,b)) (w:World):(isAgg T).run P w=.ok b w:=by
  unfold dL at h
  unfold isAgg underlying
  cases hi:P.info? T with
  | none=>rw [hi] at h;simp at h
  | some i =>
    cases hu:P.underlying T with
    | none=>rw [hi,hu] at h;simp at h
    | some d=>rw [hi,hu] at h;cases d <;> simp at h <;> simp [program,hu,Sem.run,h]
theorem lC {T:TypeId} {k:Nat} {b:Bool} (h:dL P T=some (k,b)) (w:World):(sizeOf T).run P w=.ok k w:=by
  unfold dL at h
  unfold sizeOf typeInfo
  cases hi:P.info? T with
  | none=>rw [hi] at h;simp at h
  | some i =>
    cases hu:P.underlying T with
    | none=>rw [hi,hu] at h;simp at h
    | some d=>rw [hi,hu] at h;cases d <;> simp at h <;> simp [program,hi,Sem.run,h]
def gD (k:Nat) (agg:Bool) (cs:List AV):Option AV :=
  if agg then (if k<=cs.length then some (.agg (cs.take k)) else none) else cs.head?
theorem MH {T:TypeId} {k:Nat} {b:Bool} (h:dL P T=some (k,b)) {s:Sit} {bl o:Nat} {cs:List AV} {x:AV} (hr:Rd s bl o cs) (hx:gD k b cs=some x) :
    ∃ v,VR s x v/\(loadVar T ⟨bl,o,none⟩).run P s.w=.ok v s.w:=by
  unfold loadVar
  rw [Sem.run_bind,RX h]
  simp only [Result.andThen_ok]
  cases b with
  | false =>
    cases cs with
    | nil=>simp [gD] at hx
    | cons c cs =>
      simp only [gD,Bool.false_eq_true,if_false,List.head?_cons,Option.some.injEq] at hx
      subst hx
      obtain ⟨v,h1,h2⟩:=hr 0 c rfl
      refine ⟨v,h2,?_⟩
      simp only [Bool.false_eq_true,if_false,run_load]
      rw [Nat.add_zero] at h1
      rw [h1]
  | true =>
    simp only [gD,if_true] at hx
    split at hx
    · rename_i hk
      cases hx
      have hc:∀ j,j<k->∃ v,s.w.cell? ⟨bl,o+j,none⟩=some v/\∀ x,cs[j]?=some x->VR s x v:=λj hj=>by
        obtain ⟨v,h1,h2⟩:=hr j cs[j] (by simp [show j<cs.length by omega])
        exact ⟨v,h1,λx hx=>by rw [List.getElem?_eq_getElem (by omega)] at hx;cases hx;exact h2⟩
      let f:Nat->Value:=λj=>(s.w.cell? ⟨bl,o+j,none⟩).getD undef
      have hrun:=run_loadCells (P:=P) s.w ⟨bl,o,none⟩ k f (λj hj=>by
        obtain ⟨v,h1,_⟩:=hc j hj
        rw [addr_add,h1];simp [f,h1])
      refine ⟨.agg ((List.range k).map f).toArray,?_,by simp only [if_true,Sem.run_bind,lC h,Result.andThen_ok,hrun,Sem.run_pure]⟩
      refine .agg (by simp;omega) λi x v h1 h2=>?_
      have hi:i<k:=by have:=(List.getElem?_eq_some_iff.1 h1).1;simp at this;omega
      obtain ⟨u,g1,g2⟩:=hc i hi
      rw [List.getElem?_take_of_lt hi] at h1
      have:v=f i:=by simpa [hi] using h2.symm
      rw [this]
      simp only [f,g1,Option.getD_some]
      exact g2 x h1
    · simp at hx
section ops
variable {o:Oper} {T:TypeId} {x y:Operand}
theorem dV {k:Nat} {b:Bool} {p:AV} {cs:List AV} {v:AV} (ho:o.op=.load T x) (hT:dL P T=some (k,b)) (hx:S.ev x=some p) (hp:qQ S p cs) (hv:gD k b cs=some v):bJ P o S v :=
  aQM λs ρ hH h=>by
    obtain ⟨bl,off,h1,h2⟩:=hp.rd hH (h x (by simp [ho,Op.operands]) _ hx)
    obtain ⟨u,g1,g2⟩:=MH hT h2 hv
    exact ⟨u,g1,by simp [execOp,ho,Instr.loadAt,h1,Instr.sureAddr,g2]⟩
theorem iH {p:AV} {cs:List AV} (ho:o.op=.nilCheck x) (hx:S.ev x=some p) (hp:qQ S p cs):bJ P o S p :=
  aQM λs ρ hH h=>by
    have hv:=h x (by simp [ho,Op.operands]) _ hx
    obtain ⟨bl,off,h1,h2⟩:=hp.rd hH hv
    rw [h1] at hv
    exact ⟨_,hv,by simp [execOp,ho,h1]⟩
def iF (P:Program) (T:TypeId) (f:Nat):Option Nat :=
  match P.underlying T with
  | some (.struct fs)=>match fs[f]? with
    | some fl=>match P.info? fl.type with
      | some i=>if i.size=0 then none else some fl.offset
      | none=>none
    | none=>none
  | _=>none
theorem SX {f k:Nat} (h:iF P T f=some k) (b o:Nat) (w:World):(Instr.fieldAt T (.pointer (some ⟨b,o,none⟩)) f).run P w=.ok (.pointer (some ⟨b,o+k,none⟩)) w:=by
  unfold iF at h
  cases hu:P.underlying T with
  | none=>rw [hu] at h;simp at h
  | some d =>
    rw [hu] at h
    cases d with
    | struct fs =>
      simp only at h
      cases hf:fs[f]? with
      | none=>rw [hf] at h;simp at h
      | some fl =>
        rw [hf] at h;simp only at h
        cases hi:P.info? fl.type with
        | none=>rw [hi] at h;simp at h
        | some i =>
          rw [hi] at h;simp only at h
          split at h
          · simp at h
          · rename_i hz
            cases h
            simp [Instr.fieldAt,underlying,program,hu,Sem.run,hf,Instr.sureAddr,fieldPlace,sizeOf,typeInfo,hi,hz,addr_add]
    | _=>simp at h
inductive EO:AV->Nat->AV->Prop
  | pp (cs:List AV) (k:Nat):EO (.pp cs) k (.pp (cs.drop k))
  | pt (id aG row off k:Nat):EO (.pt id aG row off) k (.pt id aG row (off+k))
theorem dK {f k:Nat} {p q:AV} {cs:List AV} (ho:o.op=.fieldAddr T x f) (hT:iF P T f=some k) (hx:S.ev x=some p) (hp:qQ S p cs) (hq:EO p k q):bJ P o S q :=
  aQM λs ρ hH h=>by
    have hv:=h x (by simp [ho,Op.operands]) _ hx
    cases hq with
    | pp cs' k =>
      obtain ⟨b,off,h1,hI,h2⟩:=hv.VB
      exact ⟨_,(h2.drop k).pp hI,by simp [execOp,ho,h1,SX hT]⟩
    | pt id aG row off k =>
      cases hp with
      | pt hob bL hr =>
        obtain ⟨m,cur,fr,hm,hb,h1⟩:=CP hH hob bL (λe=>by rw [e] at hr;simp at hr) hv
        refine ⟨.pointer (some ⟨m.b,row*_+off+k,none⟩),?_,by simp only [execOp,ho,h1,Sem.run_bind,SX hT];rfl⟩
        cases hv with
        | pt hk hone hh =>
          refine .pt hk rfl λm' hm' hver' hnil=>?_
          rw [hm] at hm';cases hm'
          obtain ⟨m2,hm2⟩:=hH.obj _ _ hob
          have:=hm2.hm;rw [hm] at this;cases this
          rw [hm2.hsz,Nat.add_assoc]
theorem U7 {c:Operand} {b:Bool} {u v r:AV} (ho:o.op=.pick c x y) (hc:S.ev c=some (.sc (.bool b))) (hx:b=true->S.ev x=some u) (hy:b=false->S.ev y=some v)
    (hr:(bif b then u else v)=r):bJ P o S r :=
  aQM λs ρ hH h=>by
    have hcv:=(h c (by simp [ho,Op.operands]) _ hc).dP
    refine ⟨if b then ρ x else ρ y,?_,by simp [execOp,ho,hcv,asBool]⟩
    cases b with
    | true=>simp only [cond_true] at hr;subst hr;exact h x (by simp [ho,Op.operands]) _ (hx rfl)
    | false=>simp only [cond_false] at hr;subst hr;exact h y (by simp [ho,Op.operands]) _ (hy rfl)
theorem pX {src:TypeId} {k k':IntKind} {a r:Int} {d:TypeDesc} (ho:o.op=.convert src T x) (hs:P.underlying src=some d) (hT:P.underlying T=some (.int k)) (hx:S.ev x=some (.sc (.int k' a)))
    (hr:k.wrap a=r):bJ P o S (.sc (.int k r)) :=
  zU hx (by simp [ho,Op.operands]) fun ρ w h1=>by
    simp [execOp,ho,h1,convert,run_underlying hs,run_underlying hT,Conv.intToInt,hr]
theorem aGT {k:IntKind} {a r:Int} (ho:o.op=.unOp .neg T x) (hx:S.ev x=some (.sc (.int k a))) (hr:k.wrap (0-a)=r):bJ P o S (.sc (.int k r)) :=
  zU hx (by simp [ho,Op.operands]) fun ρ w h1=>by subst hr;simp [execOp,ho,h1,Op.unary,Op.intArith]
theorem FL {b r:Bool} (ho:o.op=.unOp .not T x) (hx:S.ev x=some (.sc (.bool b))) (hr:(!b)=r):bJ P o S (.sc (.bool r)) :=
  zU hx (by simp [ho,Op.operands]) fun ρ w h1=>by subst hr;simp [execOp,ho,h1,Op.unary]
theorem zJ {Ty:TypeId} {a b:Bool} (ho:o.op=.binOp .neq T x y Ty) (hT:P.underlying T=some .bool) (hx:S.ev x=some (.sc (.bool a))) (hy:S.ev y=some (.sc (.bool b))):bJ P o S (.sc (.bool (decide (a≠b)))) :=
  jM ho hx hy λw=>by
    have:(!(a == b))=decide (a≠b):=by cases a <;> cases b <;> rfl
    simp only [eqGuard,Sem.run_bind]
    simp [run_neq_bool _ _ _ _ hT,<- this]
theorem zZ {Ty:TypeId} {a b:Bool} (ho:o.op=.binOp .eql T x y Ty) (hT:P.underlying T=some .bool) (hx:S.ev x=some (.sc (.bool a))) (hy:S.ev y=some (.sc (.bool b))):bJ P o S (.sc (.bool (decide (a=b)))) :=
  jM ho hx hy λw=>by
    have:(a == b)=decide (a=b):=by cases a <;> cases b <;> rfl
    simp only [eqGuard,Sem.run_bind]
    simp [run_eql_bool _ _ _ _ hT,<- this]
theorem uN (l:List UInt8):(bs l).size=l.length:=rfl
theorem DR {l:List UInt8} (ho:o.op=.call { callee:=.builtin .len,args:=#[x],argTypes:=#[T] }) (hT:P.underlying T=some .string) (hx:S.ev x=some (.sc (.string (bs l)))) :
    bJ P o S (.sc (.int .i64 l.length)) :=
  zU hx (by simp [ho,Op.operands,Call.operands]) fun ρ w h1=>by
    simp [execOp,ho,h1,resolve,invoke,builtin,Builtin.len_,run_underlying hT,goInt,uN]
inductive pW (S:AS):AV->Nat->Prop
  | list (sz:Nat) (xs:List (List AV)):pW S (.list sz xs) xs.length
  | sl {id aG off len:Nat} {ob:bC} (ho:S.hp id=some ob) (hv:ob.aG=aG):pW S (.sl id aG off len) len
  | nil (c:Nat) (a:Option Addr) (k:Nat):pW S (.sc (.slice a k c)) k
theorem pW.val {s:Sit} {p:AV} {k:Nat} {v:Value} (h:pW S p k) (hH:HR s S.hp) (hv:VR s p v):∃ a c,v=.slice a k c:=by
  cases h with
  | list sz xs=>cases hv with
    | nil=>exact ⟨_,_,rfl⟩
    | emp=>exact ⟨_,_,rfl⟩
    | list=>exact ⟨_,_,rfl⟩
  | nil c a k=>cases hv;exact ⟨_,_,rfl⟩
  | sl ho bL=>cases hv with
    | sl hk h1 h =>
      obtain ⟨m,hm⟩:=hH.obj _ _ ho
      have:=h m hm.hm (hm.bL.trans bL)
      cases hn:m.nil with
      | true=>obtain ⟨g1,g2⟩:=this.1 hn;subst g2;exact ⟨_,_,g1⟩
      | false=>obtain ⟨c,g1,_⟩:=this.2 hn;exact ⟨_,_,g1⟩
theorem oU {e:TypeId} {p:AV} {k:Nat} (ho:o.op=.call { callee:=.builtin .len,args:=#[x],argTypes:=#[T] }) (hT:P.underlying T=some (.slice e)) (hx:S.ev x=some p) (hp:pW S p k) :
    bJ P o S (.sc (.int .i64 k)) :=
  aQM λs ρ hH h=>by
    obtain ⟨a,c,h1⟩:=hp.val hH (h x (by simp [ho,Op.operands,Call.operands]) _ hx)
    exact ⟨_,.sc _,by simp [execOp,ho,h1,resolve,invoke,builtin,Builtin.len_,run_underlying hT,goInt]⟩
inductive wZ (S:AS) (sz:Nat):AV->Nat->AV->Prop
  | list {xs:List (List AV)} {i:Nat} {r:List AV} (h:xs[i]?=some r):wZ S sz (.list sz xs) i (.pp r)
  | sl {id aG off len i:Nat} {ob:bC} (ho:S.hp id=some ob) (hv:ob.aG=aG) (hs:ob.sz=sz) (hi:i<len) (hr:off+i<ob.rows.length):wZ S sz (.sl id aG off len) i (.pt id aG (off+i) 0)
theorem iM {e:TypeId} {sz:Nat} {b:Bool} {p q:AV} {k:IntKind} {i:Int} {j:Nat} (ho:o.op=.indexAddr T x y) (hT:P.underlying T=some (.slice e)) (he:dL P e=some (sz,b)) (hx:S.ev x=some p) (hy:S.ev y=some (.sc (.int k i)))
    (hi:i=(j:Int)) (hq:wZ S sz p j q):bJ P o S q :=
  aQM λs ρ hH h=>by
    have hv:=h x (by simp [ho,Op.operands]) _ hx
    have hyv:=(h y (by simp [ho,Op.operands]) _ hy).dP
    generalize hu:ρ x=u at hv
    have run:∀ (bl of len cap:Nat),j<len->(Instr.indexAt T (.slice (some ⟨bl,of,none⟩) len cap) (.int k i)).run P s.w=.ok (.pointer (some ⟨bl,of+j*sz,none⟩)) s.w:=λbl of len cap hlt=>by
      subst hi
      have h0:(0:Int)<=(j:Int):=by omega
      have h1:(j:Int)<(len:Int):=by omega
      simp only [Instr.indexAt,asIntOf,run_underlying hT,Sem.run_bind,Sem.run_pure,Result.andThen_ok,h0,h1,and_self,if_true,lC he,addr_add,Int.toNat_natCast]
    cases hq with
    | list hr =>
      cases hv with
      | nil=>simp at hr
      | emp=>simp at hr
      | list f hI hc hm hl hf hv =>
        have hlt:j<_:=(List.getElem?_eq_some_iff.1 hr).1
        refine ⟨_,?_,by simp only [execOp,ho,hyv,hu,Sem.run_bind,run _ _ _ _ hlt];rfl⟩
        exact Rd.pp hI λjj z hz=>⟨_,hf _ _ _ _ hr hz,hv _ _ _ _ hr hz⟩
    | sl hob bL hsz hlen hr =>
      cases hv with
      | sl hk h1 hh =>
        obtain ⟨m,hm⟩:=hH.obj _ _ hob
        rcases hm.body with ⟨_,h2⟩ | ⟨cur,fr,hb⟩
        · rw [h2] at hr;simp at hr
        · obtain ⟨cap,g1,g2,g3⟩:=(hh m hm.hm (hm.bL.trans bL)).2 hb.hnil
          refine ⟨_,?_,by simp only [execOp,ho,hyv,hu,g1,Sem.run_bind,run _ _ _ _ hlen];rfl⟩
          refine .pt hk rfl λm' hm' _ _=>?_
          rw [hm.hm] at hm';cases hm'
          rw [hm.hsz,hsz,Nat.add_mul,Nat.add_zero]
theorem CK {k:IntKind} {i:Int} {j:Nat} {l:List UInt8} {c:UInt8} (ho:o.op=.index T x y) (hT:P.underlying T=some .string) (hx:S.ev x=some (.sc (.string (bs l)))) (hy:S.ev y=some (.sc (.int k i)))
    (hi:i=(j:Int)) (hc:l[j]?=some c):bJ P o S (.sc (.int .u8 c.toNat)) :=
  zW hx hy (by simp [ho,Op.operands]) (by simp [ho,Op.operands]) fun ρ w h1 h2=>by
    subst hi
    have hlt:j<l.length:=(List.getElem?_eq_some_iff.1 hc).1
    have hget:(bs l)[j]?=some c:=by
      have:j<(bs l).size:=by rw [uN];exact hlt
      rw [getElem?_pos (bs l) j this]
      have h3:=(List.getElem?_eq_some_iff.1 hc).2
      rw [<- h3];rfl
    simp [execOp,ho,h1,h2,Instr.index,asIntOf,run_underlying hT,hget]
theorem K4 (isS:Bool) (len cap:Nat) (lo hi:Option Value) (i j:Nat) (w:World) (hlo:(lo=none/\i=0)\/∃ k,lo=some (.int k (i:Int))) (hhi:(hi=none/\j=len)\/∃ k,hi=some (.int k (j:Int)))
    (hij:i<=j) (hj:j<=cap):(Instr.sliceBounds isS len cap lo hi none).run P w=.ok (i,j,cap) w:=by
  have a1:(0:Int)<=(i:Int):=by omega
  have a2:(0:Int)<=(j:Int):=by omega
  have a3:(i:Int)<=(j:Int):=by omega
  have a4:(j:Int)<=(cap:Int):=by omega
  rcases hlo with ⟨rfl,rfl⟩ | ⟨k,rfl⟩ <;> rcases hhi with ⟨rfl,rfl⟩ | ⟨k',rfl⟩ <;>
    simp only [Instr.sliceBounds,Sem.run_bind,Sem.run_pure,Result.andThen_ok,Option.isSome_none,Bool.false_eq_true,if_false,run_sliceBound,a1,a2,a3,a4,Int.toNat_natCast]
inductive mY (S:AS) (d:Nat):Option Operand->Nat->Prop
  | no:mY S d none d
  | yes {p:Operand} {k:IntKind} {a:Int} {i:Nat} (h:S.ev p=some (.sc (.int k a))) (e:a=(i:Int)):mY S d (some p) i
theorem mY.val {s:Sit} {ρ:Operand->Value} {d i:Nat} {p:Option Operand} (h:mY S d p i) (hv:∀ q,p=some q->∀ av,S.ev q=some av->VR s av (ρ q)):(p.map ρ=none/\i=d)\/∃ k,p.map ρ=some (.int k (i:Int)):=by
  cases h with
  | no=>exact .inl ⟨rfl,rfl⟩
  | yes h e=>exact .inr ⟨_,by rw [Option.map_some,(hv _ rfl _ h).dP,e]⟩
theorem bF6 {lo hi:Option Operand} {e:TypeId} {sz:Nat} {b:Bool} {xs:List (List AV)} {i j:Nat} (ho:o.op=.slice T x lo hi none) (hT:P.underlying T=some (.slice e)) (he:dL P e=some (sz,b)) (hx:S.ev x=some (.list sz xs))
    (hlo:mY S 0 lo i) (hhi:mY S xs.length hi j) (hij:i<=j) (hj:j<=xs.length):bJ P o S (.list sz ((xs.take j).drop i)) :=
  aQM λs ρ hH h=>by
    have hv:=h x (by simp [ho,Op.operands]) _ hx
    generalize hu:ρ x=u at hv
    have b1:=hlo.val (s:=s) (ρ:=ρ) λq hq av=>h q (by simp [ho,Op.operands,hq]) av
    have b2:=hhi.val (s:=s) (ρ:=ρ) λq hq av=>h q (by simp [ho,Op.operands,hq]) av
    cases hv with
    | nil =>
      simp at hj;subst hj
      have:i=0:=by omega
      subst this
      have hb:=K4 (P:=P) true 0 0 _ _ 0 0 s.w b1 b2 (Nat.le_refl _) (Nat.le_refl _)
      refine ⟨.slice none 0 0,by simpa using VR.nil sz,?_⟩
      simp only [execOp,ho,hu,Instr.sliceAt,Instr.slice,Sem.run_bind,run_underlying hT,Result.andThen_ok,Option.map_none,hb,lC he,Sem.run_pure,if_true]
    | emp _ ad =>
      simp at hj;subst hj
      have:i=0:=by omega
      subst this
      have hb:=K4 (P:=P) true 0 0 _ _ 0 0 s.w b1 b2 (Nat.le_refl _) (Nat.le_refl _)
      refine ⟨.slice (some ad) 0 0,by simpa using VR.emp sz ad,?_⟩
      simp only [execOp,ho,hu,Instr.sliceAt,Instr.slice,Sem.run_bind,run_underlying hT,Result.andThen_ok,Option.map_none,hb,lC he,Sem.run_pure,Option.map_some,if_true]
    | list f hI hc hm hl hf hv =>
      rename_i bl of cap
      have hb:=K4 (P:=P) true xs.length cap _ _ i j s.w b1 b2 hij (by omega)
      refine ⟨.slice (if cap=i then some ⟨bl,of,none⟩ else some ⟨bl,of+i*sz,none⟩) (j-i) (cap-i),?_,?_⟩
      · by_cases hci:cap=i
        · have h0:j=i:=by omega
          subst h0 hci
          have h1:List.drop cap (List.take cap xs)=[]:=by simp
          rw [h1,if_pos rfl]
          have:=VR.list (s:=s) (sz:=sz) (xs:=[]) (b:=bl) (off:=of) (cap:=0) (λ_ _=>undef) hI (by simp) (by simp [maxLen]) (by simp) (by simp) (by simp)
          simpa using this
        · rw [if_neg hci]
          have hlen:((xs.take j).drop i).length=j-i:=by simp;omega
          have get:∀ (k:Nat) (r:List AV),((xs.take j).drop i)[k]?=some r->xs[i+k]?=some r:=λk r hr=>by
            have hk:=(List.getElem?_eq_some_iff.1 hr).1
            rw [hlen] at hk
            rw [List.getElem?_drop,List.getElem?_take_of_lt (by omega)] at hr
            exact hr
          have:=VR.list (s:=s) (sz:=sz) (xs:=(xs.take j).drop i) (b:=bl) (off:=of+i*sz) (cap:=cap-i) (λk=>f (i+k)) hI (by rw [hlen];omega) (by omega)
            (λk r hr=>hl _ r (get k r hr)) (λk r jj x hr hx=>by rw [<- hf _ r jj x (get k r hr) hx];congr 2;rw [Nat.add_mul];omega) (λk r jj x hr hx=>hv _ r jj x (get k r hr) hx)
          rw [hlen] at this
          exact this
      · simp only [execOp,ho,hu,Instr.sliceAt,Instr.slice,Sem.run_bind,run_underlying hT,Result.andThen_ok,Option.map_none,hb,lC he,Sem.run_pure,Option.map_some,addr_add]
theorem qR {d:TypeDesc} {v:AV} (ho:o.op=.makeInterface T x) (hT:P.underlying T=some d) (hd:∀ ms,d≠.interface ms) (hx:S.ev x=some v):bJ P o S (.dW T v) :=
  aQM λs ρ hH h=>⟨_,.dW (h x (by simp [ho,Op.operands]) _ hx),by
    simp only [execOp,ho,Instr.makeInterface,Sem.run_bind,run_underlying hT,Result.andThen_ok]
    cases d <;> first | rfl | exact absurd rfl (hd _)⟩
inductive EvL (S:AS):List Operand->List AV->Prop
  | nil:EvL S [] []
  | cons {x:Operand} {v:AV} {xs:List Operand} {vs:List AV} (h:S.ev x=some v) (t:EvL S xs vs):EvL S (x :: xs) (v :: vs)
theorem EvL.val {s:Sit} {ρ:Operand->Value} {xs:List Operand} {vs:List AV} (h:EvL S xs vs) (hv:∀ q∈xs,∀ av,S.ev q=some av->VR s av (ρ q)) :
    vs.length=xs.length/\∀ (i:Nat) (x:AV) (v:Value),vs[i]?=some x->(xs.map ρ)[i]?=some v->VR s x v:=by
  induction h with
  | nil=>simp
  | cons h t ih =>
    obtain ⟨i1,i2⟩:=ih λq hq=>hv q (List.mem_cons_of_mem _ hq)
    refine ⟨by simp [i1],λi x v h1 h2=>?_⟩
    cases i with
    | zero=>simp at h1 h2;subst h1 h2;exact hv _ (List.mem_cons_self ..) _ h
    | succ i=>exact i2 i x v (by simpa using h1) (by simpa using h2)
theorem aEC {f:Fn} {as cs:List Operand} {vs ws:List AV} (ho:o.op=.makeFunc f as.toArray cs.toArray) (h1:EvL S as vs) (h2:EvL S cs ws):bJ P o S (.fn f vs ws) :=
  aQM λs ρ hH h=>by
    obtain ⟨a1,a2⟩:=h1.val (s:=s) (ρ:=ρ) λq hq=>h q (by simp [ho,Op.operands,hq])
    obtain ⟨b1,b2⟩:=h2.val (s:=s) (ρ:=ρ) λq hq=>h q (by simp [ho,Op.operands,hq])
    refine ⟨.func f (as.map ρ).toArray (cs.map ρ).toArray,.fn (by simp [a1]) (by simp [b1]) (by simpa using a2) (by simpa using b2),?_⟩
    simp [execOp,ho,Instr.makeFunc]
theorem Q4 {i:Nat} {vs:List AV} {v:AV} (ho:o.op=.extract x i) (hx:S.ev x=some (.aU vs)) (hv:vs[i]?=some v):bJ P o S v :=
  aQM λs ρ hH h=>by
    have hxv:=h x (by simp [ho,Op.operands]) _ hx
    generalize hu:ρ x=u at hxv
    cases hxv with
    | aU hl hh =>
      rename_i us
      have hi:i<us.size:=by rw [<- hl];exact (List.getElem?_eq_some_iff.1 hv).1
      exact ⟨us[i],hh i v _ hv (by simp [hi]),by simp [execOp,ho,hu,Instr.extract,hi]⟩
end ops
end
section
variable {P:Program} {n:NT} {S:AS}
theorem alloc_old (w:World) (o:Obj) (k:Nat) (h:k<w.heap.size):(w.alloc o).heap[k]?=w.heap[k]?:=by
  show (w.heap.push o)[k]?=_
  rw [Array.getElem?_push_lt h,Array.getElem?_eq_getElem h]
theorem aQQ (w:World) (o:Obj):(w.alloc o).heap[w.heap.size]?=some o:=by
  show (w.heap.push o)[w.heap.size]?=_
  simp
theorem aE6 {fr0:Nat×Nat} {s:Sit} {H:AH} (hH:HR s H) (id:Nat) (o:bC) (g ct:Nat) (cur:Array Value) (w':World)
    (hos:w'.os=s.w.os) (htape:w'.tape=s.w.tape) (hout:w'.output=s.w.output) (hsize:s.w.heap.size<=w'.heap.size)
    (hkeep:∀ k,k<s.w.heap.size->k≠g->w'.heap[k]?=s.w.heap[k]?)
    (hb:w'.heap[g]?=some (.cells cur o.elem fr0)) (hfr0:∀ k,k<cur.size->¬ (fr0.1<=k/\k<fr0.2)) (happ0:o.app=true->fr0=(0,0))
    (hg:s.w.heap.size<=g\/∃ o0 m0,H id=some o0/\o0.mt=true/\s.mu id=some m0/\m0.nil=false/\m0.b=g)
    (bL:¬ s.used o.aG) (hmt:o.mt=true) (hcs:cur.size=ct*o.sz) (hct:ct<=maxLen) (hlen:o.rows.length<=ct)
    (hr:∀ (i:Nat) (r:List AV),o.rows[i]?=some r->r.length=o.sz)
    (hv:∀ (i:Nat) (r:List AV) (j:Nat) (x:AV) (v:Value),o.rows[i]?=some r->r[j]?=some x->cur[i*o.sz+j]?=some v->VR s x v)
    (h1:∀ (k:Nat) (v:Value),cur[k]?=some v->v.oneCell'=true) :
    ∃ s':Sit,s'.w=w'/\s'.used=(λk=>s.used k\/k=o.aG)/\s'.mu id=some ⟨false,g,o.sz,ct,o.aG⟩/\HR s' (upd H id (some o))/\Fr s H s' (upd H id (some o)):=by
  have iG:¬ s.Im g:=by
    intro hi
    rcases hg with h | ⟨o0,m0,h1,h2,h3,h4,h5⟩
    · have:=hH.im g hi;omega
    · obtain ⟨m,hm⟩:=hH.obj id o0 h1
      have:=hm.hm;rw [h3] at this;cases this
      rcases hm.body with ⟨hn,_⟩ | ⟨cur,fr,hb⟩
      · rw [h4] at hn;cases hn
      · exact hb.iG h2 (by rw [h5];exact hi)
  have hsame:∀ b,s.Im b->w'.heap[b]?=s.w.heap[b]?:=λb hi=>hkeep b (hH.im b hi) (λe=>iG (e ▸ hi))
  let s':Sit:={ w:=w',Im:=s.Im,mu:=upd s.mu id (some ⟨false,g,o.sz,ct,o.aG⟩),used:=λk=>s.used k\/k=o.aG }
  have hmono:∀ x v,VR s x v->VR s' x v:=λx v h=>VR.mono (s:=s) (s':=s') (λb hi=>⟨hi,hsame b hi⟩) (λi m' hm'=>by
    by_cases hi:i=id
    · subst hi
      simp only [s',upd_same,Option.some.injEq] at hm'
      subst hm';exact .inr bL
    · simp only [s',upd_ne _ _ hi] at hm';exact .inl hm') (λ_ h=>.inl h) h
  have hother:∀ i o' m,i≠id->H i=some o'->s.mu i=some m->m.nil=false->m.b<s.w.heap.size/\m.b≠g:=by
    intro i o' m hi ho' hm hn
    obtain ⟨m1,hm1⟩:=hH.obj i o' ho'
    have:=hm1.hm;rw [hm] at this;cases this
    rcases hm1.body with ⟨hn',_⟩ | ⟨cur',fr',hb'⟩
    · rw [hn] at hn';cases hn'
    · have hlt:m.b<s.w.heap.size:=(Array.getElem?_eq_some_iff.1 hb'.hb).1
      refine ⟨hlt,λe=>?_⟩
      rcases hg with h | ⟨o0,m0,g1,_,g3,g4,g5⟩
      · omega
      · exact hi (hH.iB i id o' o0 m m0 ho' g1 hm g3 hn g4 (by rw [e,g5]))
  refine ⟨s',rfl,rfl,by simp [s',upd_same],⟨?_,?_,?_,?_⟩,⟨hos,htape,hout,hsize,?_,λ_ h=>h,λ_ _ _ h=>h,?_,hmono,λ_ h=>.inl h⟩⟩
  · intro i o' ho'
    by_cases hi:i=id
    · subst hi
      rw [upd_same] at ho';cases ho'
      refine ⟨⟨false,g,o.sz,ct,o.aG⟩,⟨upd_same _ _ _,rfl,rfl,.inr rfl,.inr ⟨cur,fr0,?_⟩⟩⟩
      exact ⟨rfl,hb,hfr0,happ0,hcs,hct,hlen,hr,λi r j x v a b c=>hmono _ _ (hv i r j x v a b c),h1,λh=>(by rw [hmt] at h;cases h),λ_=>iG⟩
    · rw [upd_ne _ _ hi] at ho'
      obtain ⟨m,hm⟩:=hH.obj i o' ho'
      refine ⟨m,⟨by simp only [s',upd_ne _ _ hi];exact hm.hm,hm.bL,hm.hsz,.inl hm.hk,?_⟩⟩
      rcases hm.body with h | ⟨cur',fr',hb'⟩
      · exact .inl h
      · obtain ⟨q1,q2⟩:=hother i o' m hi ho' hm.hm hb'.hnil
        exact .inr ⟨cur',fr',⟨hb'.hnil,(hkeep m.b q1 q2).trans hb'.hb,hb'.hfr,hb'.happ,hb'.hcs,hb'.hct,hb'.hlen,hb'.hr,λi r j x v a b c=>hmono _ _ (hb'.hv i r j x v a b c),hb'.h1,hb'.him,hb'.iG⟩⟩
  · intro i i' o1 o2 m m' h1' h2' hm hm' hn hn' he
    by_cases hi:i=id
    · by_cases hi':i'=id
      · rw [hi,hi']
      · subst hi
        simp only [s',upd_same,Option.some.injEq] at hm
        rw [upd_ne _ _ hi'] at h2'
        simp only [s',upd_ne _ _ hi'] at hm'
        subst hm
        exact absurd he.symm (hother i' o2 m' hi' h2' hm' hn').2
    · rw [upd_ne _ _ hi] at h1'
      simp only [s',upd_ne _ _ hi] at hm
      by_cases hi':i'=id
      · subst hi'
        simp only [s',upd_same,Option.some.injEq] at hm'
        subst hm'
        exact absurd he (hother i o1 m hi h1' hm hn).2
      · rw [upd_ne _ _ hi'] at h2'
        simp only [s',upd_ne _ _ hi'] at hm'
        exact hH.iB i i' o1 o2 m m' h1' h2' hm hm' hn hn' he
  · intro b hb'
    exact Nat.lt_of_lt_of_le (hH.im b hb') hsize
  · obtain ⟨C,hC⟩:=hH.fin
    exact ⟨max C (o.aG+1),λk hk h=>by rcases h with h | h;exact hC k (by omega) h;omega⟩
  · intro b hb' ho
    refine hkeep b hb' λe=>ho ?_
    rcases hg with h | ⟨o0,m0,g1,g2,g3,g4,g5⟩
    · omega
    · exact ⟨id,o0,m0,g1,g2,g3,g4,by rw [g5,e]⟩
  · rintro b hb' ⟨i,o',m,q1,q2,q3,q4,q5⟩
    by_cases hi:i=id
    · subst hi
      simp only [s',upd_same,Option.some.injEq] at q3
      subst q3
      simp only at q5;subst q5
      rcases hg with h | ⟨o0,m0,g1,g2,g3,g4,g5⟩
      · omega
      · exact ⟨i,o0,m0,g1,g2,g3,g4,g5⟩
    · rw [upd_ne _ _ hi] at q1
      simp only [s',upd_ne _ _ hi] at q3
      exact ⟨i,o',m,q1,q2,q3,q4,q5⟩
theorem pZ {s:Sit} {H:AH} (hH:HR s H) (id:Nat) (o:bC) (g ct:Nat) (cur:Array Value) (w':World)
    (hos:w'.os=s.w.os) (htape:w'.tape=s.w.tape) (hout:w'.output=s.w.output) (hsize:s.w.heap.size<=w'.heap.size)
    (hkeep:∀ k,k<s.w.heap.size->k≠g->w'.heap[k]?=s.w.heap[k]?)
    (hb:w'.heap[g]?=some (.cells cur o.elem (0,0)))
    (hg:s.w.heap.size<=g\/∃ o0 m0,H id=some o0/\o0.mt=true/\s.mu id=some m0/\m0.nil=false/\m0.b=g)
    (bL:¬ s.used o.aG) (hmt:o.mt=true) (hcs:cur.size=ct*o.sz) (hct:ct<=maxLen) (hlen:o.rows.length<=ct)
    (hr:∀ (i:Nat) (r:List AV),o.rows[i]?=some r->r.length=o.sz)
    (hv:∀ (i:Nat) (r:List AV) (j:Nat) (x:AV) (v:Value),o.rows[i]?=some r->r[j]?=some x->cur[i*o.sz+j]?=some v->VR s x v)
    (h1:∀ (k:Nat) (v:Value),cur[k]?=some v->v.oneCell'=true) :
    ∃ s':Sit,s'.w=w'/\s'.used=(λk=>s.used k\/k=o.aG)/\s'.mu id=some ⟨false,g,o.sz,ct,o.aG⟩/\HR s' (upd H id (some o))/\Fr s H s' (upd H id (some o)) :=
  aE6 (fr0:=(0,0)) hH id o g ct cur w' hos htape hout hsize hkeep hb (λk _ h=>by simp at h) (λ_=>rfl) hg bL hmt hcs hct hlen hr hv h1
theorem U6 {s:Sit} {H:AH} (hH:HR s H) (id:Nat) (o:bC) (m:Mu) (cur cur':Array Value) (fr:Nat×Nat) (rows:List (List AV)) (w':World)
    (ho:H id=some o) (hm:s.mu id=some m) (hB:oZ s o m cur fr) (hmt:o.mt=true)
    (hos:w'.os=s.w.os) (htape:w'.tape=s.w.tape) (hout:w'.output=s.w.output) (hsize:w'.heap.size=s.w.heap.size)
    (hkeep:∀ k,k≠m.b->w'.heap[k]?=s.w.heap[k]?) (hb:w'.heap[m.b]?=some (.cells cur' o.elem fr)) (hcs:cur'.size=cur.size)
    (hlen:rows.length<=m.ct) (hr:∀ (i:Nat) (r:List AV),rows[i]?=some r->r.length=o.sz)
    (hv:∀ (i:Nat) (r:List AV) (j:Nat) (x:AV) (v:Value),rows[i]?=some r->r[j]?=some x->cur'[i*o.sz+j]?=some v->VR s x v)
    (h1:∀ (k:Nat) (v:Value),cur'[k]?=some v->v.oneCell'=true) :
    ∃ s':Sit,s'.w=w'/\s'.used=s.used/\HR s' (upd H id (some { o with rows:=rows }))/\Fr s H s' (upd H id (some { o with rows:=rows })):=by
  let s':Sit:={ s with w:=w' }
  have iG:=hB.iG hmt
  have hsame:∀ b,s.Im b->w'.heap[b]?=s.w.heap[b]?:=λb hi=>hkeep b (λe=>iG (e ▸ hi))
  have hmono:∀ x v,VR s x v->VR s' x v:=λx v h=>VR.mono (s:=s) (s':=s') (λb hi=>⟨hi,hsame b hi⟩) (λi m' hm'=>.inl hm') (λ_ h=>h) h
  obtain ⟨m1,hm1⟩:=hH.obj id o ho
  have:=hm1.hm;rw [hm] at this;cases this
  refine ⟨s',rfl,rfl,⟨?_,?_,?_,hH.fin⟩,⟨hos,htape,hout,by simp [s',hsize],?_,λ_ h=>h,λ_ _ _ h=>h,?_,hmono,λ_ h=>h⟩⟩
  · intro i o' ho'
    by_cases hi:i=id
    · subst hi
      rw [upd_same] at ho';cases ho'
      refine ⟨m,⟨hm,hm1.bL,hm1.hsz,hm1.hk,.inr ⟨cur',fr,?_⟩⟩⟩
      exact ⟨hB.hnil,hb,λk hk=>hB.hfr k (by rw [<- hcs];exact hk),hB.happ,hcs.trans hB.hcs,hB.hct,hlen,hr,λi r j x v a b c=>hmono _ _ (hv i r j x v a b c),h1,hB.him,hB.iG⟩
    · rw [upd_ne _ _ hi] at ho'
      obtain ⟨m2,hm2⟩:=hH.obj i o' ho'
      refine ⟨m2,⟨hm2.hm,hm2.bL,hm2.hsz,hm2.hk,?_⟩⟩
      rcases hm2.body with h | ⟨cur2,fr2,hb2⟩
      · exact .inl h
      · have hne:m2.b≠m.b:=λe=>hi (hH.iB i id o' o m2 m ho' ho hm2.hm hm hb2.hnil hB.hnil e)
        exact .inr ⟨cur2,fr2,⟨hb2.hnil,(hkeep m2.b hne).trans hb2.hb,hb2.hfr,hb2.happ,hb2.hcs,hb2.hct,hb2.hlen,hb2.hr,λi r j x v a b c=>hmono _ _ (hb2.hv i r j x v a b c),hb2.h1,hb2.him,hb2.iG⟩⟩
  · have conv:∀ i o',upd H id (some { o with rows:=rows }) i=some o'->∃ o'',H i=some o'':=by
      intro i o' h
      by_cases hi:i=id
      · subst hi;exact ⟨o,ho⟩
      · rw [upd_ne _ _ hi] at h;exact ⟨o',h⟩
    intro i i' o1 o2 m1 m2 g1 g2 q1 q2 n1 n2 e
    obtain ⟨o1',g1'⟩:=conv i o1 g1
    obtain ⟨o2',g2'⟩:=conv i' o2 g2
    exact hH.iB i i' o1' o2' m1 m2 g1' g2' q1 q2 n1 n2 e
  · intro b hb'
    have:=hH.im b hb'
    simp only [s',hsize];exact this
  · intro b hb' hno
    exact hkeep b λe=>hno ⟨id,o,m,ho,hmt,hm,hB.hnil,e.symm⟩
  · rintro b hb' ⟨i,o',m',q1,q2,q3,q4,q5⟩
    by_cases hi:i=id
    · subst hi
      rw [upd_same] at q1;cases q1
      exact ⟨i,o,m',ho,q2,q3,q4,q5⟩
    · rw [upd_ne _ _ hi] at q1
      exact ⟨i,o',m',q1,q2,q3,q4,q5⟩
def AV.one:AV->Bool
  | .sc v=>v.oneCell'
  | .agg _=>false
  | .aU _=>false
  | _=>true
theorem VR.one {s:Sit} {x:AV} {v:Value} (h:VR s x v) (h1:x.one=true):v.oneCell'=true:=by
  cases h <;> first | exact h1 | rfl | assumption | cases h1
def AV.cells:AV->List AV
  | .agg cs=>cs
  | x=>[x]
def fE:List AV->Bool
  | []=>true
  | x :: r=>x.one && fE r
theorem FO:∀ {l:List AV} (_:fE l=true) (i:Nat) (x:AV),l[i]?=some x->x.one=true
  | [],_,i,x,h=>by simp at h
  | y :: r,hl,i,x,h=>by
    simp only [fE,Bool.and_eq_true] at hl
    cases i with
    | zero=>simp at h;subst h;exact hl.1
    | succ i=>exact FO hl.2 i x (by simpa using h)
theorem VR.cells {s:Sit} {x:AV} {v:Value} (h:VR s x v) (h1:fE x.cells=true) :
    v.cells.size=x.cells.length/\(∀ (i:Nat) (y:AV) (u:Value),x.cells[i]?=some y->v.cells[i]?=some u->VR s y u)/\∀ (i:Nat) (u:Value),v.cells[i]?=some u->u.oneCell'=true:=by
  have one:∀ (hx:x.cells=[x]) (hv:v.cells=#[v]),v.cells.size=x.cells.length/\(∀ (i:Nat) (y:AV) (u:Value),x.cells[i]?=some y->v.cells[i]?=some u->VR s y u)/\∀ (i:Nat) (u:Value),v.cells[i]?=some u->u.oneCell'=true:=by
    intro hx hv
    rw [hx] at h1 ⊢
    rw [hv]
    refine ⟨rfl,λi y u h2 h3=>?_,λi u h3=>?_⟩
    · cases i with
      | zero=>simp at h2 h3;subst h2 h3;exact h
      | succ i=>simp at h2
    · cases i with
      | zero=>simp at h3;subst h3;exact h.one (by simpa [fE] using h1)
      | succ i=>simp at h3
  cases x with
  | agg cs =>
    cases h with
    | agg hl hv =>
      rename_i vs
      refine ⟨hl.symm,hv,λi u hu=>?_⟩
      have hi:i<cs.length:=by rw [hl];exact (Array.getElem?_eq_some_iff.1 hu).1
      exact (hv i cs[i] u (by simp [hi]) hu).one (FO h1 i _ (by simp [AV.cells,hi]))
  | sc u =>
    have:=h.dP;subst this
    refine one rfl ?_
    cases v <;> first | rfl | (simp [AV.cells,fE,AV.one,Value.oneCell'] at h1)
  | list sz xs=>exact one rfl (by cases h <;> rfl)
  | pp cs=>exact one rfl (by cases h;rfl)
  | pt id aG row off=>exact one rfl (by have:=h.one rfl;cases v <;> first | rfl | (simp [Value.oneCell'] at this))
  | sl id aG off len=>exact one rfl (by have:=h.one rfl;cases v <;> first | rfl | (simp [Value.oneCell'] at this))
  | fn f a c=>exact one rfl (by cases h;rfl)
  | dW t x=>exact one rfl (by cases h;rfl)
  | mp ks xs=>exact one rfl (by cases h;rfl)
  | aU cs=>simp [AV.cells,fE,AV.one] at h1
section ops
variable {o:Oper} {T:TypeId} {x y:Operand}
def zeroOf (P:Program) (T:TypeId):Option (List Value):=((P.info? T).bind (·.zero)).map (·.cells.toList)
theorem qY {zs:List Value} (h:zeroOf P T=some zs) (w:World):∃ z,z.cells.toList=zs/\(zeroValue T).run P w=.ok z w:=by
  unfold zeroOf at h
  cases hi:P.info? T with
  | none=>rw [hi] at h;simp at h
  | some i =>
    rw [hi] at h
    simp only [Option.bind_some] at h
    cases hz:i.zero with
    | none=>rw [hz] at h;simp at h
    | some z =>
      rw [hz] at h
      simp only [Option.map_some,Option.some.injEq] at h
      exact ⟨z,h,by simp [zeroValue,typeInfo,program,Sem.run,hi,hz]⟩
def iX:List Value->Bool
  | []=>true
  | x :: r=>x.oneCell' && iX r
theorem oF:∀ {l:List Value} (_:iX l=true) (i:Nat) (x:Value),l[i]?=some x->x.oneCell'=true
  | [],_,i,x,h=>by simp at h
  | y :: r,hl,i,x,h=>by
    simp only [iX,Bool.and_eq_true] at hl
    cases i with
    | zero=>simp at h;subst h;exact hl.1
    | succ i=>exact oF hl.2 i x (by simpa using h)
def aY9 (F U:Nat->Prop) (V:Nat->Prop):Prop:=(F=no/\U=any/\V=any)\/∃ v,F=(·=v)/\U=(·=v)/\V=(·=v)
theorem aY9.any:aY9 no any any:=.inl ⟨rfl,rfl,rfl⟩
theorem aY9.one (v:Nat):aY9 (·=v) (·=v) (·=v):=.inr ⟨v,rfl,rfl,rfl⟩
theorem aY9.get {F U V:Nat->Prop} (h:aY9 F U V) {s:Sit} {H:AH} (hH:HR s H) (hF:∀ k,F k->¬ s.used k):∃ v,V v/\U v/\¬ s.used v:=by
  rcases h with ⟨rfl,rfl,rfl⟩ | ⟨v,rfl,rfl,rfl⟩
  · obtain ⟨C,hC⟩:=hH.fin
    exact ⟨C,trivial,trivial,hC C (Nat.le_refl _)⟩
  · exact ⟨v,rfl,rfl,hF v rfl⟩
theorem DZ {zs:List Value} {F U V:Nat->Prop} (id:Nat) (hp:aY9 F U V) (ho:o.op=.alloc T) (hz:zeroOf P T=some zs) (h1:iX zs=true) :
    bQ P o S F U (λy H'=>∃ aG,V aG/\y=.pt id aG 0 0/\H'=upd S.hp id (some ⟨T,zs.length,true,true,aG,[zs.map .sc]⟩)):=by
  intro s a next Q hH hops hF hn
  obtain ⟨aG,hV,hU,hun⟩:=hp.get hH hF
  obtain ⟨z,hz1,hz2⟩:=qY hz s.w
  have hzs:z.cells.size=zs.length:=by rw [<- hz1];simp
  obtain ⟨s',g1,g2,g3,g4,g5⟩:=pZ hH id ⟨T,zs.length,true,true,aG,[zs.map .sc]⟩ s.w.heap.size 1 z.cells (s.w.alloc (.cells z.cells T)) rfl rfl rfl (by simp)
    (λk hk _=>alloc_old s.w _ k hk) (aQQ s.w _) (.inl (Nat.le_refl _)) hun rfl (by simp [hzs]) (by simp [maxLen]) (by simp)
    (λi r hr=>by cases i with | zero=>simp at hr;subst hr;simp | succ i=>simp at hr)
    (λi r j x v hr hx hv=>by
      cases i with
      | succ i=>simp at hr
      | zero =>
        simp at hr;subst hr
        rw [Nat.zero_mul,Nat.zero_add,<- Array.getElem?_toList,hz1] at hv
        rw [List.getElem?_map,hv] at hx
        simp at hx;subst hx;exact .sc _)
    (λk v hv=>oF h1 k v (by rw [<- hz1,Array.getElem?_toList];exact hv))
  refine gP (w':=s'.w) (v:=.pointer (some ⟨s.w.heap.size,0,none⟩)) ?_ (hn s' _ (.pt id aG 0 0) _ ⟨aG,hV,rfl,rfl⟩ ?_ g4 g5 ?_)
  · rw [g1]
    simp only [execOp,ho,Instr.alloc,Sem.run_bind,hz2,Result.andThen_ok,newVar,newRow,newObj,Sem.run,Sem.run_pure]
    rfl
  · refine .pt (by rw [g2];exact .inr rfl) rfl λm hm _ _=>?_
    rw [g3] at hm;cases hm;simp
  · intro k hk;rw [g2] at hk;rcases hk with h | h;exact .inl h;exact .inr (h ▸ hU)
end ops
end
section
variable {P:Program} {n:NT} {S:AS}
theorem FK (P:Program) (g o:Nat) (e:TypeId) (fr:Nat×Nat):∀ (vs:List Value) (i:Nat) (cur:Array Value) (w:World),w.heap[g]?=some (.cells cur e fr)->o+i+vs.length<=cur.size ->
    (∀ k,k<cur.size->¬ (fr.1<=k/\k<fr.2))->(∀ (k:Nat) (v:Value),vs[k]?=some v->v.oneCell'=true) ->
    ∃ w' cur',(storeCells ⟨g,o,none⟩ vs i).run P w=.ok () w'/\w'.heap[g]?=some (.cells cur' e fr)/\cur'.size=cur.size /\
      (∀ k,cur'[k]?=if o+i<=k/\k<o+i+vs.length then vs[k-(o+i)]? else cur[k]?) /\
      (∀ k,k≠g->w'.heap[k]?=w.heap[k]?)/\w'.heap.size=w.heap.size/\w'.os=w.os/\w'.tape=w.tape/\w'.output=w.output
  | [],i,cur,w,hg,_,_,_=>⟨w,cur,rfl,hg,rfl,λk=>by rw [if_neg (by simp)],λ_ _=>rfl,rfl,rfl,rfl,rfl⟩
  | v :: vs,i,cur,w,hg,hl,hfr,h1=>by
    simp only [List.length_cons] at hl
    have hlt:o+i<cur.size:=by omega
    have hc:w.cell? ⟨g,o+i,none⟩=some cur[o+i]:=by rw [xH hg];simp [hlt]
    have hf:w.frozen? ⟨g,o+i,none⟩=false:=by
      have:=hfr (o+i) hlt
      simp only [World.frozen?,hg]
      simp only [Bool.and_eq_false_iff,decide_eq_false_iff_not]
      omega
    let w1:=w.setCell ⟨g,o+i,none⟩ v
    have hheap:w1.heap=w.heap.modify g λ
        | .cells c elem frozen=>.cells (if (none:Option Nat).isSome then c else c.setIfInBounds (o+i) v) elem frozen
        | o=>o:=rfl
    have hg1:w1.heap[g]?=some (.cells (cur.setIfInBounds (o+i) v) e fr):=by
      rw [hheap,Array.getElem?_modify,if_pos rfl,hg];rfl
    obtain ⟨w',cur',r1,r2,r3,r4,r5,r6,r7,r8,r9⟩:=FK P g o e fr vs (i+1) (cur.setIfInBounds (o+i) v) w1 hg1 (by simp;omega) (λk hk=>hfr k (by simpa using hk)) (λk u hu=>h1 (k+1) u (by simpa using hu))
    refine ⟨w',cur',?_,r2,by rw [r3];simp,λk=>?_,λk hk=>(r5 k hk).trans ?_,r6.trans ?_,r7,r8,r9⟩
    · simp only [storeCells,Sem.run_bind,addr_add]
      rw [run_store P w _ v .plain (h1 0 v rfl),hc]
      simp only [hf,Bool.false_eq_true,if_false,Result.andThen_ok]
      exact r1
    · rw [r4 k]
      by_cases hk:k=o+i
      · subst hk
        rw [if_neg (by omega),if_pos (by simp)]
        simp [hlt]
      · rw [Array.getElem?_setIfInBounds_ne (by omega)]
        by_cases h2:o+(i+1)<=k/\k<o+(i+1)+vs.length
        · rw [if_pos h2,if_pos (by simp;omega)]
          have:k-(o+i)=(k-(o+(i+1)))+1:=by omega
          rw [this];rfl
        · rw [if_neg h2,if_neg (by simp;omega)]
    · rw [hheap,Array.getElem?_modify,if_neg (by omega)]
    · rw [hheap];simp
def putRow (r:List AV) (off:Nat) (xs:List AV):List AV:=r.take off++xs++r.drop (off+xs.length)
theorem MO {r:List AV} {off:Nat} {xs:List AV} (h:off+xs.length<=r.length) (j:Nat):(putRow r off xs)[j]?=if off<=j/\j<off+xs.length then xs[j-off]? else r[j]?:=by
  unfold putRow
  have hl:(r.take off).length=off:=by simp;omega
  by_cases h1:j<off
  · rw [if_neg (by omega),List.append_assoc,List.getElem?_append_left (by omega),List.getElem?_take_of_lt h1]
  · rw [List.append_assoc,List.getElem?_append_right (by omega),hl]
    by_cases h2:j<off+xs.length
    · rw [if_pos (by omega),List.getElem?_append_left (by omega)]
    · rw [if_neg (by omega),List.getElem?_append_right (by omega),List.getElem?_drop]
      congr 1;omega
theorem J7 {r:List AV} {off:Nat} {xs:List AV} (h:off+xs.length<=r.length):(putRow r off xs).length=r.length:=by
  unfold putRow;simp;omega
theorem aCR {i row sz j off k:Nat} (hj:j<sz) (ho:off+k<=sz) (h1:row*sz+off<=i*sz+j) (h2:i*sz+j<row*sz+off+k):i=row:=by
  rcases Nat.lt_trichotomy i row with h | h | h
  · have:(i+1)*sz<=row*sz:=Nat.mul_le_mul_right _ h
    rw [Nat.add_mul] at this;omega
  · exact h
  · have:(row+1)*sz<=i*sz:=Nat.mul_le_mul_right _ h
    rw [Nat.add_mul] at this;omega
section ops
variable {o:Oper} {T:TypeId} {x y:Operand}
theorem dZ {id aG row off k:Nat} {b:Bool} {ob:bC} {r:List AV} {v:AV} (ho:o.op=.store T x y) (hT0:dL P T=some (k,b)) (hx:S.ev x=some (.pt id aG row off)) (hy:S.ev y=some v)
    (hob:S.hp id=some ob) (bL:ob.aG=aG) (hmt:ob.mt=true) (hr:ob.rows[row]?=some r) (hcl:v.cells.length=k) (hfit0:Nat.ble (off+k) r.length=true) (h1:fE v.cells=true) :
    bQ P o S no no (λz H'=>z=.sc undef/\H'=upd S.hp id (some { ob with rows:=ob.rows.set row (putRow r off v.cells) })):=by
  have hT:dL P T=some (v.cells.length,b):=by rw [hcl];exact hT0
  have hfit:off+v.cells.length<=r.length:=by rw [hcl];exact Nat.le_of_ble_eq_true hfit0
  intro s a next Q hH hops _ hn
  have hxv:=hops x (by simp [ho,Op.operands]) _ hx
  have hyv:=hops y (by simp [ho,Op.operands]) _ hy
  obtain ⟨m,cur,fr,hm,hb,hp⟩:=CP hH hob bL (λe=>by rw [e] at hr;simp at hr) hxv
  obtain ⟨c1,c2,c3⟩:=hyv.cells h1
  have hrow:row<ob.rows.length:=(List.getElem?_eq_some_iff.1 hr).1
  have hrl:r.length=ob.sz:=hb.hr row r hr
  have hroom:row*ob.sz+off+0+v.cells.length<=cur.size:=by
    rw [hb.hcs]
    have:(row+1)*ob.sz<=m.ct*ob.sz:=Nat.mul_le_mul_right _ (by have:=hb.hlen;omega)
    rw [Nat.add_mul] at this;omega
  obtain ⟨w',cur',r1,r2,r3,r4,r5,r6,r7,r8,r9⟩:=FK P m.b (row*ob.sz+off) ob.elem fr (a.eval y).cells.toList 0 cur s.w hb.hb (by rw [Array.length_toList,c1];exact hroom) hb.hfr
    (λk u hu=>c3 k u (by rw [<- hu,Array.getElem?_toList]))
  have hlen:(a.eval y).cells.toList.length=v.cells.length:=by rw [Array.length_toList,c1]
  simp only [Nat.add_zero,hlen] at r4
  have hpl:=J7 hfit
  obtain ⟨s',g1,gu,g2,g3⟩:=U6 hH id ob m cur cur' fr (ob.rows.set row (putRow r off v.cells)) w' hob hm hb hmt r7 r8 r9 r6 r5 r2 r3 (by rw [List.length_set];exact hb.hlen)
    (λi q hq=>by
      by_cases hi:i=row
      · subst hi;rw [List.getElem?_set_self hrow] at hq;cases hq;rw [hpl,hrl]
      · rw [List.getElem?_set_ne (Ne.symm hi)] at hq;exact hb.hr i q hq)
    (λi q j z u hq hz hu=>by
      rw [r4] at hu
      by_cases hi:i=row
      · subst hi
        rw [List.getElem?_set_self hrow] at hq;cases hq
        rw [MO hfit] at hz
        by_cases hc:off<=j/\j<off+v.cells.length
        · rw [if_pos hc] at hz
          rw [if_pos (by omega)] at hu
          rw [show i*ob.sz+j-(i*ob.sz+off)=j-off by omega,Array.getElem?_toList] at hu
          exact c2 _ z u hz hu
        · rw [if_neg hc] at hz
          rw [if_neg (by omega)] at hu
          exact hb.hv i r j z u hr hz hu
      · rw [List.getElem?_set_ne (Ne.symm hi)] at hq
        have hj:j<ob.sz:=by have:=(List.getElem?_eq_some_iff.1 hz).1;rw [hb.hr i q hq] at this;exact this
        rw [if_neg (λhc=>hi (aCR hj (by omega) hc.1 hc.2))] at hu
        exact hb.hv i q j z u hq hz hu)
    (λk u hu=>by
      rw [r4] at hu
      split at hu
      · exact c3 _ u (by rw [<- hu,Array.getElem?_toList])
      · exact hb.h1 k u hu)
  refine IW (w':=s'.w) ?_ (hn s' undef (.sc undef) _ ⟨rfl,rfl⟩ (.sc _) g2 g3 (λk hk=>.inl (gu ▸ hk)))
  rw [g1]
  have hnz:¬ ((a.eval y).cells.size≠v.cells.length):=by rw [c1];simp
  simp only [execOp,ho,Instr.storeAt,Sem.run_bind,hp,Instr.sureAddr,Sem.run_pure,Result.andThen_ok,storeVar,lC hT,hnz,if_false,r1]
theorem EV {v:AV} {F U V:Nat->Prop} (id:Nat) (hp:aY9 F U V) (ho:o.op=.box T x) (hx:S.ev x=some v) (h1:fE v.cells=true) :
    bQ P o S F U (λy H'=>∃ aG,V aG/\y=.pt id aG 0 0/\H'=upd S.hp id (some ⟨T,v.cells.length,true,true,aG,[v.cells]⟩)):=by
  intro s a next Q hH hops hF hn
  obtain ⟨aG,hV,hU,hun⟩:=hp.get hH hF
  have hxv:=hops x (by simp [ho,Op.operands]) _ hx
  obtain ⟨c1,c2,c3⟩:=hxv.cells h1
  obtain ⟨s',g1,g2,g3,g4,g5⟩:=pZ hH id ⟨T,v.cells.length,true,true,aG,[v.cells]⟩ s.w.heap.size 1 (a.eval x).cells (s.w.alloc (.cells (a.eval x).cells T)) rfl rfl rfl (by simp)
    (λk hk _=>alloc_old s.w _ k hk) (aQQ s.w _) (.inl (Nat.le_refl _)) hun rfl (by simp [c1]) (by simp [maxLen]) (by simp)
    (λi r hr=>by cases i with | zero=>simp at hr;subst hr;simp | succ i=>simp at hr)
    (λi r j z u hr hz hu=>by
      cases i with
      | succ i=>simp at hr
      | zero=>simp at hr;subst hr;rw [Nat.zero_mul,Nat.zero_add] at hu;exact c2 j z u hz hu)
    (λk u hu=>c3 k u hu)
  refine gP (w':=s'.w) (v:=.pointer (some ⟨s.w.heap.size,0,none⟩)) ?_ (hn s' _ (.pt id aG 0 0) _ ⟨aG,hV,rfl,rfl⟩ ?_ g4 g5 ?_)
  · rw [g1]
    simp only [execOp,ho,Instr.box,Sem.run_bind,newVar,newRow,newObj,Sem.run,Sem.run_pure]
    rfl
  · refine .pt (by rw [g2];exact .inr rfl) rfl λm hm _ _=>?_
    rw [g3] at hm;cases hm;simp
  · intro k hk;rw [g2] at hk;rcases hk with h | h;exact .inl h;exact .inr (h ▸ hU)
end ops
end
end Go.Pv
