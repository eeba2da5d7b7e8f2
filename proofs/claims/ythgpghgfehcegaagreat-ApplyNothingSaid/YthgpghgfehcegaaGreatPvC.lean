import Derived.Test.YthgpghgfehcegaaGreatPvA
set_option linter.unusedVariables false
set_option linter.unusedSimpArgs false
namespace Go.Pv
section
variable {P:Program} {n:NT} {S:AS}
theorem Oper.aMP {o:Oper} {a:Act} {w:World} {K K':Act->World->Prop} {Q Q':Go.Exit->Act->World->Prop} (h:∀ a w,K a w->K' a w) (hq:∀ e a w,Q e a w->Q' e a w)
    (hh:o.wp P a w K Q):o.wp P a w K' Q':=by
  have hl:LetsOut Q->LetsOut Q':=λ⟨a,w,x⟩=>⟨a,w,hq _ _ _ x⟩
  unfold Oper.wp at *
  generalize (execOp a.eval o).run P w=r at *
  cases r with
  | ok n w' =>
    cases n <;> simp only [Oper.upon] at hh ⊢ <;>
      first
        | exact h _ _ hh
        | exact Calls.mono hh (λe w'' he=>by cases e <;> first | exact h _ _ he | exact hq _ _ _ he | exact hl he)
        | exact Rows.mono hh (λ_ _ he=>h _ _ he)
  | halt x w'=>cases x <;> simp only [Oper.upon] at hh ⊢ <;> first | exact hq _ _ _ hh | exact hh
theorem vZ {ops:Array Oper} {Q Q':Go.Exit->Act->World->Prop} (hq:∀ e a w,Q e a w->Q' e a w):∀ (l:List Nat) (a:Act) (w:World),wpOps P ops Q l a w->wpOps P ops Q' l a w
  | [],a,w,h=>hq _ _ _ h
  | i :: rest,a,w,h=>by
    simp only [wpOps] at h ⊢
    split
    · rename_i ho;simp only [ho] at h;exact vZ hq rest a w h
    · rename_i o ho
      simp only [ho] at h
      split
      · rename_i hw
        simp only [hw,if_true] at h
        exact h.imp (Oper.aMP (vZ hq rest) hq) (λ⟨h1,a,w,h2⟩=>⟨h1,a,w,hq _ _ _ h2⟩)
      · rename_i hw
        simp only [hw] at h
        exact vZ hq rest _ w h
def bQ (P:Program) (o:Oper) (S:AS) (F U:Nat->Prop) (Out:AV->AH->Prop):Prop :=
  ∀ (s:Sit) (a:Act) (next:Act->World->Prop) (Q:Go.Exit->Act->World->Prop),HR s S.hp->(∀ x∈o.op.operands,∀ av,S.ev x=some av->VR s av (a.eval x))->(∀ k,F k->¬ s.used k) ->
    (∀ s' v x H',Out x H'->VR s' x v->HR s' H'->Fr s S.hp s' H'->(∀ k,s'.used k->s.used k\/U k)->next (a.put o.dst v) s'.w)->o.wp P a s.w next Q
def no:Nat->Prop:=λ_=>False
def any:Nat->Prop:=λ_=>True
theorem bQ.dM {o:Oper} {F U F' U':Nat->Prop} {Out:AV->AH->Prop} (h:bQ P o S F U Out) (hF:∀ k,F k->F' k) (hU:∀ k,U k->U' k):bQ P o S F' U' Out :=
  λs a next Q h1 h2 h3 h4=>h s a next Q h1 h2 (λk hk=>h3 k (hF k hk)) λs' v x H' a b c d e=>h4 s' v x H' a b c d λk hk=>(e k hk).imp id (hU k)
def bJ (P:Program) (o:Oper) (S:AS) (x:AV):Prop:=bQ P o S no no (λy H=>y=x/\H=S.hp)
theorem gP {o:Oper} {a:Act} {w w':World} {next:Act->World->Prop} {Q:Go.Exit->Act->World->Prop} {v:Value}
    (h:(execOp a.eval o).run P w=.ok (.value v) w') (hn:next (a.put o.dst v) w'):o.wp P a w next Q:=by
  unfold Oper.wp;rw [h];exact hn
theorem IW {o:Oper} {a:Act} {w w':World} {next:Act->World->Prop} {Q:Go.Exit->Act->World->Prop}
    (h:(execOp a.eval o).run P w=.ok .skip w') (hn:next (a.put o.dst undef) w'):o.wp P a w next Q:=by
  unfold Oper.wp;rw [h];exact hn
theorem fV {o:Oper} {x:AV} (h:∀ (s:Sit) (ρ:Operand->Value),HR s S.hp->(∀ y∈o.op.operands,∀ av,S.ev y=some av->VR s av (ρ y)) ->
    ∃ v,VR s x v/\(execOp ρ o).run P s.w=.ok (.value v) s.w):bJ P o S x:=by
  intro s a next Q hH hops _ hn
  obtain ⟨v,hv,hr⟩:=h s a.eval hH hops
  exact gP hr (hn s v x S.hp ⟨rfl,rfl⟩ hv hH (Fr.refl _ _) λ_ h=>.inl h)
def Rg (P:Program) (n:NT) (ops todo:List Oper) (S:AS) (K:AS->Prop):Prop :=
  ∀ k,ops.drop k=todo->∀ s a,SR n s S a ->
    wpOps P ops.toArray (λe a' w'=>e=.normal/\∃ S' s',w'=s'.w/\K S'/\SR n s' S' a'/\Fr s S.hp s' S'.hp) (List.range' k todo.length) a s.w
theorem aJJ {id:Nat} {l:List Oper} {Q:Go.Exit->AS->Prop} (hd:l.all iD=true) (h:Rg P n l l S (Q .normal)):Tr P n (.region id l.toArray false) S Q:=by
  intro s a hs
  have:=h 0 rfl s a hs
  rw [<- List.range_eq_range'] at this
  refine iJ (FU (by simpa using hd) (by simpa using this)) ?_
  rintro e a' w' ⟨rfl,S',s',h1,h2,h3,h4⟩
  exact ⟨S',s',h1,h2,h3,h4⟩
variable {ops:List Oper} {K:AS->Prop}
theorem uX (h:K S):Rg P n ops [] S K:=λ_ _ s _ hs=>⟨rfl,S,s,rfl,h,hs,Fr.refl _ _⟩
def Wd (ops:List Oper) (S:AS) (o:Oper):Option Bool :=
  match o.guard with
  | none=>some true
  | some (j,want) =>
    match (ops[j]?).bind (·.dst) with
    | none=>some false
    | some t=>match S.sl t with
      | some (.sc (.bool b))=>some (b == want)
      | some (.sc (.tuple _))=>some false
      | _=>none
theorem jS {s:Sit} {a:Act} {o:Oper} {b:Bool} (hs:SR n s S a) (h:Wd ops S o=some b):Region.wanted o (yielded ops.toArray a.tmps)=b:=by
  unfold Wd at h
  unfold Region.wanted
  cases hg:o.guard with
  | none=>simp only [hg,Option.some.injEq] at h;simp [h]
  | some g =>
    obtain ⟨j,want⟩:=g
    rw [hg] at h
    simp only [yielded,List.getElem?_toArray] at h ⊢
    cases hd:(ops[j]?).bind (·.dst) with
    | none=>rw [hd] at h;simp at h;subst h;simp
    | some t =>
      rw [hd] at h
      simp only [Option.bind_some] at h ⊢
      cases hx:S.sl t with
      | none=>rw [hx] at h;simp at h
      | some x =>
        rw [hx] at h
        obtain ⟨v,h1,h2⟩:=hs.slot t x hx
        rw [h1]
        cases x with
        | sc u =>
          have:=h2.dP;subst this
          cases v <;> simp_all
        | _=>simp at h
theorem AS.AZ (S:AS) (t:Nat) (v:AV):(S.put (some t) v).sl=upd S.sl t (some v):=rfl
theorem AS.nG (S:AS) (d:Option Tmp) (v:AV):(S.put d v).hp=S.hp:=by cases d <;> rfl
def gX (n:NT):Option Tmp->Bool
  | none=>true
  | some t=>Nat.blt t n.n
theorem SR.put {s:Sit} {a:Act} {d:Option Tmp} {x:AV} {v:Value} (hs:SR n s S a) (hd:gX n d=true) (hv:VR s x v):SR n s (S.put d x) (a.put d v):=by
  cases d with
  | none=>exact hs
  | some t =>
    have hd':t<n.n:=by simpa [gX,Nat.blt_eq] using hd
    refine ⟨by simp [Act.put,hs.size],hs.defers,λi y hy=>?_,hs.heap⟩
    by_cases hi:i=t
    · subst hi
      rw [AS.AZ,upd_same] at hy
      cases hy
      exact ⟨v,by simp [Act.put,hs.size,hd'],hv⟩
    · rw [AS.AZ,upd_ne _ _ hi] at hy
      obtain ⟨u,h1,h2⟩:=hs.slot i y hy
      exact ⟨u,by simp only [Act.put];rw [Array.getElem?_setIfInBounds_ne (Ne.symm hi)];exact h1,h2⟩
theorem SR.fr {s s':Sit} {H':AH} {a:Act} (hs:SR n s S a) (hH:HR s' H') (hf:Fr s S.hp s' H'):SR n s' { S with hp:=H' } a :=
  ⟨hs.size,hs.defers,λt x hx=>let ⟨v,h1,h2⟩:=hs.slot t x hx;⟨v,h1,hf.vals _ _ h2⟩,hH⟩
theorem SR.opers {s:Sit} {a:Act} (hs:SR n s S a) (o:Oper):∀ x∈o.op.operands,∀ av,S.ev x=some av->VR s av (a.eval x):=λ_ _ _ h=>lG hs h
theorem drop_cons {α:Type} {l r:List α} {x:α} {k:Nat} (h:l.drop k=x :: r):l[k]?=some x/\l.drop (k+1)=r:=by
  constructor
  · have:=List.getElem?_drop (xs:=l) (i:=k) (j:=0)
    rw [h] at this;simpa using this.symm
  · have:l.drop (k+1)=(l.drop k).drop 1:=by rw [List.drop_drop]
    rw [this,h];rfl
theorem yL {o:Oper} {rest:List Oper} {Out:AV->AH->Prop} (hw:Wd ops S o=some true) (hd:gX n o.dst=true) (hy:bQ P o S no any Out)
    (h:∀ x H',Out x H'->Rg P n ops rest (({ S with hp:=H' }:AS).put o.dst x) K):Rg P n ops (o :: rest) S K:=by
  intro k hk s a hs
  obtain ⟨h0,h1⟩:=drop_cons hk
  rw [List.length_cons,List.range'_succ]
  simp only [wpOps,List.getElem?_toArray,h0,jS hs hw,if_true]
  refine .inl (hy s a _ _ hs.heap (hs.opers o) (λ_ h=>h.elim) ?_)
  intro s' v x H' hO hv hH hf _
  have hs':=(hs.fr hH hf).put hd hv
  have hgo:=h x H' hO (k+1) h1 s' _ hs'
  refine vZ ?_ _ _ _ hgo
  rintro e a' w' ⟨rfl,S2,s2,g1,g2,g3,g4⟩
  rw [AS.nG] at g4
  exact ⟨rfl,S2,s2,g1,g2,g3,hf.trans g4⟩
theorem Q7 {o:Oper} {rest:List Oper} (hw:Wd ops S o=some false) (hd:gX n o.dst=true)
    (h:Rg P n ops rest (S.put o.dst (.sc undef)) K):Rg P n ops (o :: rest) S K:=by
  intro k hk s a hs
  obtain ⟨h0,h1⟩:=drop_cons hk
  rw [List.length_cons,List.range'_succ]
  simp only [wpOps,List.getElem?_toArray,h0,jS hs hw,Bool.false_eq_true,if_false]
  have:=h (k+1) h1 s _ (hs.put hd (.sc undef))
  rw [AS.nG] at this
  exact this
theorem QM {o:Oper} {rest:List Oper} {x:AV} (hw:Wd ops S o=some true) (hd:gX n o.dst=true) (hy:bJ P o S x)
    (h:Rg P n ops rest (S.put o.dst x) K):Rg P n ops (o :: rest) S K :=
  yL hw hd (hy.dM (λ_ h=>h) λ_ h=>h.elim) λ_ _ ⟨h1,h2⟩=>by subst h1 h2;exact h
section ops
variable {o:Oper}
theorem kV {x:Operand} {v:AV} (ho:o.op=.move x) (hx:S.ev x=some v):bJ P o S v :=
  fV λs ρ _ h=>⟨ρ x,h x (by simp [ho,Op.operands]) v hx,by simp [execOp,ho]⟩
theorem sD {x:Operand} {v:AV} (ho:o.op=.assign x) (hx:S.ev x=some v):bJ P o S v :=
  fV λs ρ _ h=>⟨ρ x,h x (by simp [ho,Op.operands]) v hx,by simp [execOp,ho]⟩
theorem zU {x:Operand} {u r:Value} (hx:S.ev x=some (.sc u)) (hm:x∈o.op.operands)
    (hr:∀ (ρ:Operand->Value) (w:World),ρ x=u->(execOp ρ o).run P w=.ok (.value r) w):bJ P o S (.sc r) :=
  fV λs ρ _ h=>⟨r,.sc r,hr ρ s.w (h x hm _ hx).dP⟩
theorem zW {x y:Operand} {u v r:Value} (hx:S.ev x=some (.sc u)) (hy:S.ev y=some (.sc v)) (hm:x∈o.op.operands) (hm':y∈o.op.operands)
    (hr:∀ (ρ:Operand->Value) (w:World),ρ x=u->ρ y=v->(execOp ρ o).run P w=.ok (.value r) w):bJ P o S (.sc r) :=
  fV λs ρ _ h=>⟨r,.sc r,hr ρ s.w (h x hm _ hx).dP (h y hm' _ hy).dP⟩
section bin
variable {T Ty:TypeId} {x y:Operand} {k:IntKind} {a b:Int}
theorem jM {op:BinOp} {u v r:Value} (ho:o.op=.binOp op T x y Ty) (hx:S.ev x=some (.sc u)) (hy:S.ev y=some (.sc v))
    (hr:∀ w,(do eqGuard op T x y u v;binOp op T u v:Sem Value).run P w=.ok r w):bJ P o S (.sc r) :=
  zW hx hy (by simp [ho,Op.operands]) (by simp [ho,Op.operands]) fun ρ w h1 h2=>by
    have:=hr w
    simp only [execOp,ho,h1,h2]
    simp only [Sem.run_bind] at this ⊢
    rw [this];rfl
theorem aL0 {r:Int} (ho:o.op=.binOp .add T x y Ty) (hx:S.ev x=some (.sc (.int k a))) (hy:S.ev y=some (.sc (.int k b))) (hr:k.wrap (a+b)=r):bJ P o S (.sc (.int k r)) :=
  jM ho hx hy λw=>by simp [eqGuard,binOp,Op.intArith,hr]
theorem aJA {r:Int} (ho:o.op=.binOp .sub T x y Ty) (hx:S.ev x=some (.sc (.int k a))) (hy:S.ev y=some (.sc (.int k b))) (hr:k.wrap (a-b)=r):bJ P o S (.sc (.int k r)) :=
  jM ho hx hy λw=>by simp [eqGuard,binOp,Op.intArith,hr]
theorem aWY {r:Int} (ho:o.op=.binOp .mul T x y Ty) (hx:S.ev x=some (.sc (.int k a))) (hy:S.ev y=some (.sc (.int k b))) (hr:k.wrap (a*b)=r):bJ P o S (.sc (.int k r)) :=
  jM ho hx hy λw=>by simp [eqGuard,binOp,Op.intArith,hr]
theorem yI {r:Int} (ho:o.op=.binOp .quo T x y Ty) (hx:S.ev x=some (.sc (.int k a))) (hy:S.ev y=some (.sc (.int k b))) (hb:b≠0) (hr:k.wrap (a.tdiv b)=r):bJ P o S (.sc (.int k r)) :=
  jM ho hx hy λw=>by simp [eqGuard,binOp,Op.intDiv,hb,hr]
theorem oC {r:Int} (ho:o.op=.binOp .rem T x y Ty) (hx:S.ev x=some (.sc (.int k a))) (hy:S.ev y=some (.sc (.int k b))) (hb:b≠0) (hr:a.tmod b=r):bJ P o S (.sc (.int k r)) :=
  jM ho hx hy λw=>by simp [eqGuard,binOp,Op.intDiv,hb,hr]
theorem qT (ho:o.op=.binOp .lss T x y Ty) (hx:S.ev x=some (.sc (.int k a))) (hy:S.ev y=some (.sc (.int k b))):bJ P o S (.sc (.bool (decide (a<b)))) :=
  jM ho hx hy λw=>by simp [eqGuard,binOp,Op.intCmp]
theorem pP (ho:o.op=.binOp .leq T x y Ty) (hx:S.ev x=some (.sc (.int k a))) (hy:S.ev y=some (.sc (.int k b))):bJ P o S (.sc (.bool (decide (a<=b)))) :=
  jM ho hx hy λw=>by simp [eqGuard,binOp,Op.intCmp]
theorem X0 (ho:o.op=.binOp .gtr T x y Ty) (hx:S.ev x=some (.sc (.int k a))) (hy:S.ev y=some (.sc (.int k b))):bJ P o S (.sc (.bool (decide (b<a)))) :=
  jM ho hx hy λw=>by simp [eqGuard,binOp,Op.intCmp]
theorem XN (ho:o.op=.binOp .geq T x y Ty) (hx:S.ev x=some (.sc (.int k a))) (hy:S.ev y=some (.sc (.int k b))):bJ P o S (.sc (.bool (decide (b<=a)))) :=
  jM ho hx hy λw=>by simp [eqGuard,binOp,Op.intCmp]
theorem gB (ho:o.op=.binOp .eql T x y Ty) (hx:S.ev x=some (.sc (.int k a))) (hy:S.ev y=some (.sc (.int k b))):bJ P o S (.sc (.bool (decide (a=b)))) :=
  jM ho hx hy λw=>by
    have:(a == b)=decide (a=b):=by by_cases h:a=b <;> simp [h]
    simp [eqGuard,binOp,Op.intCmp,this]
theorem aCP (ho:o.op=.binOp .neq T x y Ty) (hx:S.ev x=some (.sc (.int k a))) (hy:S.ev y=some (.sc (.int k b))):bJ P o S (.sc (.bool (decide (a≠b)))) :=
  jM ho hx hy λw=>by
    have:(a != b)=decide (a≠b):=by by_cases h:a=b <;> simp [h]
    simp [eqGuard,binOp,Op.intCmp,this]
theorem yY {k':IntKind} {r:Int} (ho:o.op=.binOp .shl T x y Ty) (hx:S.ev x=some (.sc (.int k a))) (hy:S.ev y=some (.sc (.int k' b))) (hb:0<=b) (hr:k.wrap (a*2 ^ (min b.toNat k.bits))=r):bJ P o S (.sc (.int k r)) :=
  jM ho hx hy λw=>by simp [eqGuard,binOp,Op.shift,show ¬ b<0 by omega,hr]
theorem xM {k':IntKind} {r:Int} (ho:o.op=.binOp .shr T x y Ty) (hx:S.ev x=some (.sc (.int k a))) (hy:S.ev y=some (.sc (.int k' b))) (hb:0<=b) (hr:a.fdiv (2 ^ (min b.toNat k.bits))=r):bJ P o S (.sc (.int k r)) :=
  jM ho hx hy λw=>by simp [eqGuard,binOp,Op.shift,show ¬ b<0 by omega,hr]
theorem zF {r:Int} (ho:o.op=.binOp .and T x y Ty) (hx:S.ev x=some (.sc (.int k a))) (hy:S.ev y=some (.sc (.int k b))) (hr:k.wrap (BitVec.ofInt k.bits a &&& BitVec.ofInt k.bits b).toNat=r):bJ P o S (.sc (.int k r)) :=
  jM ho hx hy λw=>by simp only [eqGuard,binOp,Op.intBits];simp [<- hr]
theorem BZ {r:Int} (ho:o.op=.binOp .or T x y Ty) (hx:S.ev x=some (.sc (.int k a))) (hy:S.ev y=some (.sc (.int k b))) (hr:k.wrap (BitVec.ofInt k.bits a ||| BitVec.ofInt k.bits b).toNat=r):bJ P o S (.sc (.int k r)) :=
  jM ho hx hy λw=>by simp only [eqGuard,binOp,Op.intBits];simp [<- hr]
end bin
abbrev bs (l:List UInt8):ByteArray:=⟨l.toArray⟩
section str
variable {T Ty:TypeId} {x y:Operand} {l m:List UInt8}
theorem CY (ho:o.op=.binOp .neq T x y Ty) (hx:S.ev x=some (.sc (.string (bs l)))) (hy:S.ev y=some (.sc (.string (bs m)))):bJ P o S (.sc (.bool (decide (l≠m)))) :=
  jM ho hx hy λw=>by
    have:(!(l == m))=decide (l≠m):=by by_cases h:l=m <;> simp [h]
    simp [eqGuard,binOp,Op.stringOp,this]
end str
end ops
end
section
variable {P:Program} {n:NT} {S:AS}
theorem addr_add (b o k:Nat):(⟨b,o,none⟩:Addr).add k=⟨b,o+k,none⟩:=by
  unfold Addr.add;split
  · subst_vars;rfl
  · rfl
def Rd (s:Sit) (b o:Nat) (cs:List AV):Prop:=∀ (j:Nat) (x:AV),cs[j]?=some x->∃ v,s.w.cell? ⟨b,o+j,none⟩=some v/\VR s x v
theorem Rd.drop {s:Sit} {b o:Nat} {cs:List AV} (h:Rd s b o cs) (k:Nat):Rd s b (o+k) (cs.drop k):=by
  intro j x hx
  rw [List.getElem?_drop] at hx
  obtain ⟨v,h1,h2⟩:=h _ _ hx
  exact ⟨v,by rw [<- h1];congr 2;omega,h2⟩
theorem VR.VB {s:Sit} {cs:List AV} {v:Value} (h:VR s (.pp cs) v):∃ b o,v=.pointer (some ⟨b,o,none⟩)/\s.Im b/\Rd s b o cs:=by
  cases h with
  | pp f hI hf hv=>exact ⟨_,_,rfl,hI,λj x hx=>⟨_,hf j x hx,hv j x hx⟩⟩
theorem Rd.pp {s:Sit} {b o:Nat} {cs:List AV} (hI:s.Im b) (h:Rd s b o cs):VR s (.pp cs) (.pointer (some ⟨b,o,none⟩)):=by
  refine .pp (λj=>(s.w.cell? ⟨b,o+j,none⟩).getD undef) hI (λj x hx=>?_) (λj x hx=>?_)
  · obtain ⟨v,h1,_⟩:=h j x hx;simp [h1]
  · obtain ⟨v,h1,h2⟩:=h j x hx;simp [h1,h2]
theorem xH {w:World} {b o:Nat} {cur:Array Value} {e:TypeId} {fr:Nat×Nat} (h:w.heap[b]?=some (.cells cur e fr)):w.cell? ⟨b,o,none⟩=cur[o]?:=by
  simp [World.cell?,h]
theorem oZ.rd {s:Sit} {o:bC} {m:Mu} {cur:Array Value} {fr:Nat×Nat} (h:oZ s o m cur fr) {i:Nat} {r:List AV} (hi:o.rows[i]?=some r):Rd s m.b (i*o.sz) r:=by
  intro j x hx
  have hi':i<o.rows.length:=(List.getElem?_eq_some_iff.1 hi).1
  have hj:j<o.sz:=by have:=(List.getElem?_eq_some_iff.1 hx).1;rw [h.hr i r hi] at this;exact this
  have hlt:i*o.sz+j<cur.size:=by
    rw [h.hcs]
    have:(i+1)*o.sz<=m.ct*o.sz:=Nat.mul_le_mul_right _ (by have:=h.hlen;omega)
    rw [Nat.add_mul] at this;omega
  refine ⟨cur[i*o.sz+j],?_,h.hv i r j x _ hi hx (by simp [hlt])⟩
  rw [xH h.hb];simp [hlt]
theorem CP {s:Sit} {id aG row off:Nat} {v:Value} {o:bC} (hH:HR s S.hp) (ho:S.hp id=some o) (hv:o.aG=aG) (hne:o.rows≠[]) (h:VR s (.pt id aG row off) v) :
    ∃ m cur fr,s.mu id=some m/\oZ s o m cur fr/\v=.pointer (some ⟨m.b,row*o.sz+off,none⟩):=by
  obtain ⟨m,hm⟩:=hH.obj id o ho
  rcases hm.body with ⟨_,h2⟩ | ⟨cur,fr,hb⟩
  · exact absurd h2 hne
  · cases h with
    | pt hk h1 h=>exact ⟨m,cur,fr,hm.hm,hb,by rw [h m hm.hm (hm.bL.trans hv) hb.hnil,hm.hsz]⟩
inductive qQ (S:AS):AV->List AV->Prop
  | pp (cs:List AV):qQ S (.pp cs) cs
  | pt {id aG row off:Nat} {o:bC} {r:List AV} (ho:S.hp id=some o) (hv:o.aG=aG) (hr:o.rows[row]?=some r):qQ S (.pt id aG row off) (r.drop off)
theorem qQ.rd {s:Sit} {x:AV} {cs:List AV} {v:Value} (h:qQ S x cs) (hH:HR s S.hp) (hv:VR s x v):∃ b o,v=.pointer (some ⟨b,o,none⟩)/\Rd s b o cs:=by
  cases h with
  | pp cs=>obtain ⟨b,o,h1,_,h2⟩:=hv.VB;exact ⟨b,o,h1,h2⟩
  | pt ho bL hr =>
    obtain ⟨m,cur,fr,_,hb,h1⟩:=CP hH ho bL (λe=>by rw [e] at hr;simp at hr) hv
    exact ⟨_,_,h1,(hb.rd hr).drop _⟩
def dL (P:Program) (T:TypeId):Option (Nat×Bool) :=
  match P.info? T,P.underlying T with
  | some i,some (.struct _)=>some (i.size,true)
  | some i,some (.array _ _)=>some (i.size,true)
  | some i,some _=>some (i.size,false)
  | _,_=>none
theorem RX {T:TypeId} {k:Nat} {b:Bool} (h:dL P T=some (k,b)) (w:World):(isAgg T).run P w=.ok b w:=by
  unfold dL at h
  unfold isAgg underlying
  cases hi:P.info? T with
  | none=>rw [hi] at h;simp at h
  | some i =>
    cases hu:P.underlying T with
    | none=>rw [hi,hu] at h;simp at h
    | some d=>rw [hi,hu] at h;cases d <;> simp at h <;> simp [program,hu,Sem.run,h]
theorem lC {T:TypeId} {k:Nat} {b:Bool} (h:dL P T=some (k,b)) (w:World):(sizeOf T).run P w=.ok k w:=by
  unfold dL at h
  unfold sizeOf typeInfo
  cases hi:P.info? T with
  | none=>rw [hi] at h;simp at h
  | some i =>
    cases hu:P.underlying T with
    | none=>rw [hi,hu] at h;simp at h
    | some d=>rw [hi,hu] at h;cases d <;> simp at h <;> simp [program,hi,Sem.run,h]
def gD (k:Nat) (agg:Bool) (cs:List AV):Option AV :=
  if agg then (if k<=cs.length then some (.agg (cs.take k)) else none) else cs.head?
theorem MH {T:TypeId} {k:Nat} {b:Bool} (h:dL P T=some (k,b)) {s:Sit} {bl o:Nat} {cs:List AV} {x:AV} (hr:Rd s bl o cs) (hx:gD k b cs=some x) :
    ∃ v,VR s x v/\(loadVar T ⟨bl,o,none⟩).run P s.w=.ok v s.w:=by
  unfold loadVar
  rw [Sem.run_bind,RX h]
  simp only [Result.andThen_ok]
  cases b with
  | false =>
    cases cs with
    | nil=>simp [gD] at hx
    | cons c cs =>
      simp only [gD,Bool.false_eq_true,if_false,List.head?_cons,Option.some.injEq] at hx
      subst hx
      obtain ⟨v,h1,h2⟩:=hr 0 c rfl
      refine ⟨v,h2,?_⟩
      simp only [Bool.false_eq_true,if_false,run_load]
      rw [Nat.add_zero] at h1
      rw [h1]
  | true =>
    simp only [gD,if_true] at hx
    split at hx
    · rename_i hk
      cases hx
      have hc:∀ j,j<k->∃ v,s.w.cell? ⟨bl,o+j,none⟩=some v/\∀ x,cs[j]?=some x->VR s x v:=λj hj=>by
        obtain ⟨v,h1,h2⟩:=hr j cs[j] (by simp [show j<cs.length by omega])
        exact ⟨v,h1,λx hx=>by rw [List.getElem?_eq_getElem (by omega)] at hx;cases hx;exact h2⟩
      let f:Nat->Value:=λj=>(s.w.cell? ⟨bl,o+j,none⟩).getD undef
      have hrun:=run_loadCells (P:=P) s.w ⟨bl,o,none⟩ k f (λj hj=>by
        obtain ⟨v,h1,_⟩:=hc j hj
        rw [addr_add,h1];simp [f,h1])
      refine ⟨.agg ((List.range k).map f).toArray,?_,by simp only [if_true,Sem.run_bind,lC h,Result.andThen_ok,hrun,Sem.run_pure]⟩
      refine .agg (by simp;omega) λi x v h1 h2=>?_
      have hi:i<k:=by have:=(List.getElem?_eq_some_iff.1 h1).1;simp at this;omega
      obtain ⟨u,g1,g2⟩:=hc i hi
      rw [List.getElem?_take_of_lt hi] at h1
      have:v=f i:=by simpa [hi] using h2.symm
      rw [this]
      simp only [f,g1,Option.getD_some]
      exact g2 x h1
    · simp at hx
section ops
variable {o:Oper} {T:TypeId} {x y:Operand}
theorem dV {k:Nat} {b:Bool} {p:AV} {cs:List AV} {v:AV} (ho:o.op=.load T x) (hT:dL P T=some (k,b)) (hx:S.ev x=some p) (hp:qQ S p cs) (hv:gD k b cs=some v):bJ P o S v :=
  fV λs ρ hH h=>by
    obtain ⟨bl,off,h1,h2⟩:=hp.rd hH (h x (by simp [ho,Op.operands]) _ hx)
    obtain ⟨u,g1,g2⟩:=MH hT h2 hv
    exact ⟨u,g1,by simp [execOp,ho,Instr.loadAt,h1,Instr.sureAddr,g2]⟩
theorem iH {p:AV} {cs:List AV} (ho:o.op=.nilCheck x) (hx:S.ev x=some p) (hp:qQ S p cs):bJ P o S p :=
  fV λs ρ hH h=>by
    have hv:=h x (by simp [ho,Op.operands]) _ hx
    obtain ⟨bl,off,h1,h2⟩:=hp.rd hH hv
    rw [h1] at hv
    exact ⟨_,hv,by simp [execOp,ho,h1]⟩
def iF (P:Program) (T:TypeId) (f:Nat):Option Nat :=
  match P.underlying T with
  | some (.struct fs)=>match fs[f]? with
    | some fl=>match P.info? fl.type with
      | some i=>if i.size=0 then none else some fl.offset
      | none=>none
    | none=>none
  | _=>none
theorem SX {f k:Nat} (h:iF P T f=some k) (b o:Nat) (w:World):(Instr.fieldAt T (.pointer (some ⟨b,o,none⟩)) f).run P w=.ok (.pointer (some ⟨b,o+k,none⟩)) w:=by
  unfold iF at h
  cases hu:P.underlying T with
  | none=>rw [hu] at h;simp at h
  | some d =>
    rw [hu] at h
    cases d with
    | struct fs =>
      simp only at h
      cases hf:fs[f]? with
      | none=>rw [hf] at h;simp at h
      | some fl =>
        rw [hf] at h;simp only at h
        cases hi:P.info? fl.type with
        | none=>rw [hi] at h;simp at h
        | some i =>
          rw [hi] at h;simp only at h
          split at h
          · simp at h
          · rename_i hz
            cases h
            simp [Instr.fieldAt,underlying,program,hu,Sem.run,hf,Instr.sureAddr,fieldPlace,sizeOf,typeInfo,hi,hz,addr_add]
    | _=>simp at h
inductive EO:AV->Nat->AV->Prop
  | pp (cs:List AV) (k:Nat):EO (.pp cs) k (.pp (cs.drop k))
  | pt (id aG row off k:Nat):EO (.pt id aG row off) k (.pt id aG row (off+k))
theorem dK {f k:Nat} {p q:AV} {cs:List AV} (ho:o.op=.fieldAddr T x f) (hT:iF P T f=some k) (hx:S.ev x=some p) (hp:qQ S p cs) (hq:EO p k q):bJ P o S q :=
  fV λs ρ hH h=>by
    have hv:=h x (by simp [ho,Op.operands]) _ hx
    cases hq with
    | pp cs' k =>
      obtain ⟨b,off,h1,hI,h2⟩:=hv.VB
      exact ⟨_,(h2.drop k).pp hI,by simp [execOp,ho,h1,SX hT]⟩
    | pt id aG row off k =>
      cases hp with
      | pt hob bL hr =>
        obtain ⟨m,cur,fr,hm,hb,h1⟩:=CP hH hob bL (λe=>by rw [e] at hr;simp at hr) hv
        refine ⟨.pointer (some ⟨m.b,row*_+off+k,none⟩),?_,by simp only [execOp,ho,h1,Sem.run_bind,SX hT];rfl⟩
        cases hv with
        | pt hk hone hh =>
          refine .pt hk rfl λm' hm' hver' hnil=>?_
          rw [hm] at hm';cases hm'
          obtain ⟨m2,hm2⟩:=hH.obj _ _ hob
          have:=hm2.hm;rw [hm] at this;cases this
          rw [hm2.hsz,Nat.add_assoc]
theorem U7 {c:Operand} {b:Bool} {u v r:AV} (ho:o.op=.pick c x y) (hc:S.ev c=some (.sc (.bool b))) (hx:b=true->S.ev x=some u) (hy:b=false->S.ev y=some v)
    (hr:(bif b then u else v)=r):bJ P o S r :=
  fV λs ρ hH h=>by
    have hcv:=(h c (by simp [ho,Op.operands]) _ hc).dP
    refine ⟨if b then ρ x else ρ y,?_,by simp [execOp,ho,hcv,asBool]⟩
    cases b with
    | true=>simp only [cond_true] at hr;subst hr;exact h x (by simp [ho,Op.operands]) _ (hx rfl)
    | false=>simp only [cond_false] at hr;subst hr;exact h y (by simp [ho,Op.operands]) _ (hy rfl)
theorem pX {src:TypeId} {k k':IntKind} {a r:Int} {d:TypeDesc} (ho:o.op=.convert src T x) (hs:P.underlying src=some d) (hT:P.underlying T=some (.int k)) (hx:S.ev x=some (.sc (.int k' a)))
    (hr:k.wrap a=r):bJ P o S (.sc (.int k r)) :=
  zU hx (by simp [ho,Op.operands]) fun ρ w h1=>by
    simp [execOp,ho,h1,convert,run_underlying hs,run_underlying hT,Conv.intToInt,hr]
theorem aGT {k:IntKind} {a r:Int} (ho:o.op=.unOp .neg T x) (hx:S.ev x=some (.sc (.int k a))) (hr:k.wrap (0-a)=r):bJ P o S (.sc (.int k r)) :=
  zU hx (by simp [ho,Op.operands]) fun ρ w h1=>by subst hr;simp [execOp,ho,h1,Op.unary,Op.intArith]
theorem FL {b r:Bool} (ho:o.op=.unOp .not T x) (hx:S.ev x=some (.sc (.bool b))) (hr:(!b)=r):bJ P o S (.sc (.bool r)) :=
  zU hx (by simp [ho,Op.operands]) fun ρ w h1=>by subst hr;simp [execOp,ho,h1,Op.unary]
theorem zJ {Ty:TypeId} {a b:Bool} (ho:o.op=.binOp .neq T x y Ty) (hT:P.underlying T=some .bool) (hx:S.ev x=some (.sc (.bool a))) (hy:S.ev y=some (.sc (.bool b))):bJ P o S (.sc (.bool (decide (a≠b)))) :=
  jM ho hx hy λw=>by
    have:(!(a == b))=decide (a≠b):=by cases a <;> cases b <;> rfl
    simp only [eqGuard,Sem.run_bind]
    simp [run_neq_bool _ _ _ _ hT,<- this]
theorem zZ {Ty:TypeId} {a b:Bool} (ho:o.op=.binOp .eql T x y Ty) (hT:P.underlying T=some .bool) (hx:S.ev x=some (.sc (.bool a))) (hy:S.ev y=some (.sc (.bool b))):bJ P o S (.sc (.bool (decide (a=b)))) :=
  jM ho hx hy λw=>by
    have:(a == b)=decide (a=b):=by cases a <;> cases b <;> rfl
    simp only [eqGuard,Sem.run_bind]
    simp [run_eql_bool _ _ _ _ hT,<- this]
theorem uN (l:List UInt8):(bs l).size=l.length:=rfl
theorem DR {l:List UInt8} (ho:o.op=.call { callee:=.builtin .len,args:=#[x],argTypes:=#[T] }) (hT:P.underlying T=some .string) (hx:S.ev x=some (.sc (.string (bs l)))) :
    bJ P o S (.sc (.int .i64 l.length)) :=
  zU hx (by simp [ho,Op.operands,Call.operands]) fun ρ w h1=>by
    simp [execOp,ho,h1,resolve,invoke,builtin,Builtin.len_,run_underlying hT,goInt,uN]
inductive pW (S:AS):AV->Nat->Prop
  | list (sz:Nat) (xs:List (List AV)):pW S (.list sz xs) xs.length
  | sl {id aG off len:Nat} {ob:bC} (ho:S.hp id=some ob) (hv:ob.aG=aG):pW S (.sl id aG off len) len
  | nil (c:Nat) (a:Option Addr) (k:Nat):pW S (.sc (.slice a k c)) k
theorem pW.val {s:Sit} {p:AV} {k:Nat} {v:Value} (h:pW S p k) (hH:HR s S.hp) (hv:VR s p v):∃ a c,v=.slice a k c:=by
  cases h with
  | list sz xs=>cases hv with
    | nil=>exact ⟨_,_,rfl⟩
    | emp=>exact ⟨_,_,rfl⟩
    | list=>exact ⟨_,_,rfl⟩
  | nil c a k=>cases hv;exact ⟨_,_,rfl⟩
  | sl ho bL=>cases hv with
    | sl hk h1 h =>
      obtain ⟨m,hm⟩:=hH.obj _ _ ho
      have:=h m hm.hm (hm.bL.trans bL)
      cases hn:m.nil with
      | true=>obtain ⟨g1,g2⟩:=this.1 hn;subst g2;exact ⟨_,_,g1⟩
      | false=>obtain ⟨c,g1,_⟩:=this.2 hn;exact ⟨_,_,g1⟩
theorem oU {e:TypeId} {p:AV} {k:Nat} (ho:o.op=.call { callee:=.builtin .len,args:=#[x],argTypes:=#[T] }) (hT:P.underlying T=some (.slice e)) (hx:S.ev x=some p) (hp:pW S p k) :
    bJ P o S (.sc (.int .i64 k)) :=
  fV λs ρ hH h=>by
    obtain ⟨a,c,h1⟩:=hp.val hH (h x (by simp [ho,Op.operands,Call.operands]) _ hx)
    exact ⟨_,.sc _,by simp [execOp,ho,h1,resolve,invoke,builtin,Builtin.len_,run_underlying hT,goInt]⟩
inductive wZ (S:AS) (sz:Nat):AV->Nat->AV->Prop
  | list {xs:List (List AV)} {i:Nat} {r:List AV} (h:xs[i]?=some r):wZ S sz (.list sz xs) i (.pp r)
  | sl {id aG off len i:Nat} {ob:bC} (ho:S.hp id=some ob) (hv:ob.aG=aG) (hs:ob.sz=sz) (hi:i<len) (hr:off+i<ob.rows.length):wZ S sz (.sl id aG off len) i (.pt id aG (off+i) 0)
theorem iM {e:TypeId} {sz:Nat} {b:Bool} {p q:AV} {k:IntKind} {i:Int} {j:Nat} (ho:o.op=.indexAddr T x y) (hT:P.underlying T=some (.slice e)) (he:dL P e=some (sz,b)) (hx:S.ev x=some p) (hy:S.ev y=some (.sc (.int k i)))
    (hi:i=(j:Int)) (hq:wZ S sz p j q):bJ P o S q :=
  fV λs ρ hH h=>by
    have hv:=h x (by simp [ho,Op.operands]) _ hx
    have hyv:=(h y (by simp [ho,Op.operands]) _ hy).dP
    generalize hu:ρ x=u at hv
    have run:∀ (bl of len cap:Nat),j<len->(Instr.indexAt T (.slice (some ⟨bl,of,none⟩) len cap) (.int k i)).run P s.w=.ok (.pointer (some ⟨bl,of+j*sz,none⟩)) s.w:=λbl of len cap hlt=>by
      subst hi
      have h0:(0:Int)<=(j:Int):=by omega
      have h1:(j:Int)<(len:Int):=by omega
      simp only [Instr.indexAt,asIntOf,run_underlying hT,Sem.run_bind,Sem.run_pure,Result.andThen_ok,h0,h1,and_self,if_true,lC he,addr_add,Int.toNat_natCast]
    cases hq with
    | list hr =>
      cases hv with
      | nil=>simp at hr
      | emp=>simp at hr
      | list f hI hc hm hl hf hv =>
        have hlt:j<_:=(List.getElem?_eq_some_iff.1 hr).1
        refine ⟨_,?_,by simp only [execOp,ho,hyv,hu,Sem.run_bind,run _ _ _ _ hlt];rfl⟩
        exact Rd.pp hI λjj z hz=>⟨_,hf _ _ _ _ hr hz,hv _ _ _ _ hr hz⟩
    | sl hob bL hsz hlen hr =>
      cases hv with
      | sl hk h1 hh =>
        obtain ⟨m,hm⟩:=hH.obj _ _ hob
        rcases hm.body with ⟨_,h2⟩ | ⟨cur,fr,hb⟩
        · rw [h2] at hr;simp at hr
        · obtain ⟨cap,g1,g2,g3⟩:=(hh m hm.hm (hm.bL.trans bL)).2 hb.hnil
          refine ⟨_,?_,by simp only [execOp,ho,hyv,hu,g1,Sem.run_bind,run _ _ _ _ hlen];rfl⟩
          refine .pt hk rfl λm' hm' _ _=>?_
          rw [hm.hm] at hm';cases hm'
          rw [hm.hsz,hsz,Nat.add_mul,Nat.add_zero]
theorem CK {k:IntKind} {i:Int} {j:Nat} {l:List UInt8} {c:UInt8} (ho:o.op=.index T x y) (hT:P.underlying T=some .string) (hx:S.ev x=some (.sc (.string (bs l)))) (hy:S.ev y=some (.sc (.int k i)))
    (hi:i=(j:Int)) (hc:l[j]?=some c):bJ P o S (.sc (.int .u8 c.toNat)) :=
  zW hx hy (by simp [ho,Op.operands]) (by simp [ho,Op.operands]) fun ρ w h1 h2=>by
    subst hi
    have hlt:j<l.length:=(List.getElem?_eq_some_iff.1 hc).1
    have hget:(bs l)[j]?=some c:=by
      have:j<(bs l).size:=by rw [uN];exact hlt
      rw [getElem?_pos (bs l) j this]
      have h3:=(List.getElem?_eq_some_iff.1 hc).2
      rw [<- h3];rfl
    simp [execOp,ho,h1,h2,Instr.index,asIntOf,run_underlying hT,hget]
theorem K4 (isS:Bool) (len cap:Nat) (lo hi:Option Value) (i j:Nat) (w:World) (hlo:(lo=none/\i=0)\/∃ k,lo=some (.int k (i:Int))) (hhi:(hi=none/\j=len)\/∃ k,hi=some (.int k (j:Int)))
    (hij:i<=j) (hj:j<=cap):(Instr.sliceBounds isS len cap lo hi none).run P w=.ok (i,j,cap) w:=by
  have a1:(0:Int)<=(i:Int):=by omega
  have a2:(0:Int)<=(j:Int):=by omega
  have a3:(i:Int)<=(j:Int):=by omega
  have a4:(j:Int)<=(cap:Int):=by omega
  rcases hlo with ⟨rfl,rfl⟩ | ⟨k,rfl⟩ <;> rcases hhi with ⟨rfl,rfl⟩ | ⟨k',rfl⟩ <;>
    simp only [Instr.sliceBounds,Sem.run_bind,Sem.run_pure,Result.andThen_ok,Option.isSome_none,Bool.false_eq_true,if_false,run_sliceBound,a1,a2,a3,a4,Int.toNat_natCast]
inductive mY (S:AS) (d:Nat):Option Operand->Nat->Prop
  | no:mY S d none d
  | yes {p:Operand} {k:IntKind} {a:Int} {i:Nat} (h:S.ev p=some (.sc (.int k a))) (e:a=(i:Int)):mY S d (some p) i
theorem mY.val {s:Sit} {ρ:Operand->Value} {d i:Nat} {p:Option Operand} (h:mY S d p i) (hv:∀ q,p=some q->∀ av,S.ev q=some av->VR s av (ρ q)):(p.map ρ=none/\i=d)\/∃ k,p.map ρ=some (.int k (i:Int)):=by
  cases h with
  | no=>exact .inl ⟨rfl,rfl⟩
  | yes h e=>exact .inr ⟨_,by rw [Option.map_some,(hv _ rfl _ h).dP,e]⟩
theorem qR {d:TypeDesc} {v:AV} (ho:o.op=.makeInterface T x) (hT:P.underlying T=some d) (hd:∀ ms,d≠.interface ms) (hx:S.ev x=some v):bJ P o S (.dW T v) :=
  fV λs ρ hH h=>⟨_,.dW (h x (by simp [ho,Op.operands]) _ hx),by
    simp only [execOp,ho,Instr.makeInterface,Sem.run_bind,run_underlying hT,Result.andThen_ok]
    cases d <;> first | rfl | exact absurd rfl (hd _)⟩
inductive EvL (S:AS):List Operand->List AV->Prop
  | nil:EvL S [] []
  | cons {x:Operand} {v:AV} {xs:List Operand} {vs:List AV} (h:S.ev x=some v) (t:EvL S xs vs):EvL S (x :: xs) (v :: vs)
theorem EvL.val {s:Sit} {ρ:Operand->Value} {xs:List Operand} {vs:List AV} (h:EvL S xs vs) (hv:∀ q∈xs,∀ av,S.ev q=some av->VR s av (ρ q)) :
    vs.length=xs.length/\∀ (i:Nat) (x:AV) (v:Value),vs[i]?=some x->(xs.map ρ)[i]?=some v->VR s x v:=by
  induction h with
  | nil=>simp
  | cons h t ih =>
    obtain ⟨i1,i2⟩:=ih λq hq=>hv q (List.mem_cons_of_mem _ hq)
    refine ⟨by simp [i1],λi x v h1 h2=>?_⟩
    cases i with
    | zero=>simp at h1 h2;subst h1 h2;exact hv _ (List.mem_cons_self ..) _ h
    | succ i=>exact i2 i x v (by simpa using h1) (by simpa using h2)
theorem aEC {f:Fn} {as cs:List Operand} {vs ws:List AV} (ho:o.op=.makeFunc f as.toArray cs.toArray) (h1:EvL S as vs) (h2:EvL S cs ws):bJ P o S (.fn f vs ws) :=
  fV λs ρ hH h=>by
    obtain ⟨a1,a2⟩:=h1.val (s:=s) (ρ:=ρ) λq hq=>h q (by simp [ho,Op.operands,hq])
    obtain ⟨b1,b2⟩:=h2.val (s:=s) (ρ:=ρ) λq hq=>h q (by simp [ho,Op.operands,hq])
    refine ⟨.func f (as.map ρ).toArray (cs.map ρ).toArray,.fn (by simp [a1]) (by simp [b1]) (by simpa using a2) (by simpa using b2),?_⟩
    simp [execOp,ho,Instr.makeFunc]
theorem Q4 {i:Nat} {vs:List AV} {v:AV} (ho:o.op=.extract x i) (hx:S.ev x=some (.aU vs)) (hv:vs[i]?=some v):bJ P o S v :=
  fV λs ρ hH h=>by
    have hxv:=h x (by simp [ho,Op.operands]) _ hx
    generalize hu:ρ x=u at hxv
    cases hxv with
    | aU hl hh =>
      rename_i us
      have hi:i<us.size:=by rw [<- hl];exact (List.getElem?_eq_some_iff.1 hv).1
      exact ⟨us[i],hh i v _ hv (by simp [hi]),by simp [execOp,ho,hu,Instr.extract,hi]⟩
end ops
end
end Go.Pv
