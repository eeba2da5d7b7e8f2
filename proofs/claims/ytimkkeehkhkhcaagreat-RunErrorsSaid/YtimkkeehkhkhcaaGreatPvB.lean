/- The abstract layer, part 2: operations that touch no memory, or only read; regions in the text's order; calls. -/
import Derived.Test.YtimkkeehkhkhcaaGreatPvA
set_option linter.unusedVariables false
set_option linter.unusedSimpArgs false
namespace Go.Pv
section
variable {P:Program} {n:NT} {S:AS}
theorem Oper.YW {o:Oper} {a:Act} {w:World} {K K':Act->World->Prop} {Q Q':Go.Exit->Act->World->Prop} (h:∀ a w,K a w->K' a w) (hq:∀ e a w,Q e a w->Q' e a w)
    (hh:o.wp P a w K Q):o.wp P a w K' Q':=by
  have hl:LetsOut Q->LetsOut Q':=λ⟨a,w,x⟩=>⟨a,w,hq _ _ _ x⟩
  unfold Oper.wp at *
  generalize (execOp a.eval o).run P w=r at *
  cases r with
  | ok n w' =>
    cases n <;> simp only [Oper.upon] at hh ⊢ <;>
      first
        | exact h _ _ hh
        | exact Calls.mono hh (λe w'' he=>by cases e <;> first | exact h _ _ he | exact hq _ _ _ he | exact hl he)
        | exact Rows.mono hh (λ_ _ he=>h _ _ he)
  | halt x w'=>cases x <;> simp only [Oper.upon] at hh ⊢ <;> first | exact hq _ _ _ hh | exact hh
theorem xB {ops:Array Oper} {Q Q':Go.Exit->Act->World->Prop} (hq:∀ e a w,Q e a w->Q' e a w):∀ (l:List Nat) (a:Act) (w:World),wpOps P ops Q l a w->wpOps P ops Q' l a w
  | [],a,w,h=>hq _ _ _ h
  | i :: rest,a,w,h=>by
    simp only [wpOps] at h ⊢
    split
    · rename_i ho;simp only [ho] at h;exact xB hq rest a w h
    · rename_i o ho
      simp only [ho] at h
      split
      · rename_i hw
        simp only [hw,if_true] at h
        exact h.imp (Oper.YW (xB hq rest) hq) (λ⟨h1,a,w,h2⟩=>⟨h1,a,w,hq _ _ _ h2⟩)
      · rename_i hw
        simp only [hw] at h
        exact xB hq rest _ w h
def bW (P:Program) (o:Oper) (S:AS) (F U:Nat->Prop) (Out:AV->AH->Prop):Prop :=
  ∀ (s:Sit) (a:Act) (next:Act->World->Prop) (Q:Go.Exit->Act->World->Prop),HR s S.hp->(∀ x∈o.op.operands,∀ av,S.ev x=some av->VR s av (a.eval x))->(∀ k,F k->¬ s.used k) ->
    (∀ s' v x H',Out x H'->VR s' x v->HR s' H'->Fr s S.hp s' H'->(∀ k,s'.used k->s.used k\/U k)->next (a.put o.dst v) s'.w)->o.wp P a s.w next Q
def no:Nat->Prop:=λ_=>False
def any:Nat->Prop:=λ_=>True
theorem bW.d9 {o:Oper} {F U F' U':Nat->Prop} {Out:AV->AH->Prop} (h:bW P o S F U Out) (hF:∀ k,F k->F' k) (hU:∀ k,U k->U' k):bW P o S F' U' Out :=
  λs a next Q h1 h2 h3 h4=>h s a next Q h1 h2 (λk hk=>h3 k (hF k hk)) λs' v x H' a b c d e=>h4 s' v x H' a b c d λk hk=>(e k hk).imp id (hU k)
def bS (P:Program) (o:Oper) (S:AS) (x:AV):Prop:=bW P o S no no (λy H=>y=x/\H=S.hp)
theorem jM {o:Oper} {a:Act} {w w':World} {next:Act->World->Prop} {Q:Go.Exit->Act->World->Prop} {v:Value}
    (h:(execOp a.eval o).run P w=.ok (.value v) w') (hn:next (a.put o.dst v) w'):o.wp P a w next Q:=by
  unfold Oper.wp;rw [h];exact hn
theorem aHQ {o:Oper} {a:Act} {w w':World} {next:Act->World->Prop} {Q:Go.Exit->Act->World->Prop}
    (h:(execOp a.eval o).run P w=.ok .skip w') (hn:next (a.put o.dst undef) w'):o.wp P a w next Q:=by
  unfold Oper.wp;rw [h];exact hn
theorem iK {o:Oper} {x:AV} (h:∀ (s:Sit) (ρ:Operand->Value),HR s S.hp->(∀ y∈o.op.operands,∀ av,S.ev y=some av->VR s av (ρ y)) ->
    ∃ v,VR s x v/\(execOp ρ o).run P s.w=.ok (.value v) s.w):bS P o S x:=by
  intro s a next Q hH hops _ hn
  obtain ⟨v,hv,hr⟩:=h s a.eval hH hops
  exact jM hr (hn s v x S.hp ⟨rfl,rfl⟩ hv hH (Fr.refl _ _) λ_ h=>.inl h)
def Rg (P:Program) (n:NT) (ops todo:List Oper) (S:AS) (K:AS->Prop):Prop :=
  ∀ k,ops.drop k=todo->∀ s a,SR n s S a ->
    wpOps P ops.toArray (λe a' w'=>e=.normal/\∃ S' s',w'=s'.w/\K S'/\SR n s' S' a'/\Fr s S.hp s' S'.hp) (List.range' k todo.length) a s.w
theorem aD0 {id:Nat} {l:List Oper} {Q:Go.Exit->AS->Prop} (hd:l.all kN=true) (h:Rg P n l l S (Q .normal)):Tr P n (.region id l.toArray false) S Q:=by
  intro s a hs
  have:=h 0 rfl s a hs
  rw [<- List.range_eq_range'] at this
  refine kJ (EM (by simpa using hd) (by simpa using this)) ?_
  rintro e a' w' ⟨rfl,S',s',h1,h2,h3,h4⟩
  exact ⟨S',s',h1,h2,h3,h4⟩
variable {ops:List Oper} {K:AS->Prop}
theorem bT (h:K S):Rg P n ops [] S K:=λ_ _ s _ hs=>⟨rfl,S,s,rfl,h,hs,Fr.refl _ _⟩
def Wd (ops:List Oper) (S:AS) (o:Oper):Option Bool :=
  match o.guard with
  | none=>some true
  | some (j,want) =>
    match (ops[j]?).bind (·.dst) with
    | none=>some false
    | some t=>match S.sl t with
      | some (.sc (.bool b))=>some (b == want)
      | some (.sc (.tuple _))=>some false
      | _=>none
theorem nE {s:Sit} {a:Act} {o:Oper} {b:Bool} (hs:SR n s S a) (h:Wd ops S o=some b):Region.wanted o (yielded ops.toArray a.tmps)=b:=by
  unfold Wd at h
  unfold Region.wanted
  cases hg:o.guard with
  | none=>simp only [hg,Option.some.injEq] at h;simp [h]
  | some g =>
    obtain ⟨j,want⟩:=g
    rw [hg] at h
    simp only [yielded,List.getElem?_toArray] at h ⊢
    cases hd:(ops[j]?).bind (·.dst) with
    | none=>rw [hd] at h;simp at h;subst h;simp
    | some t =>
      rw [hd] at h
      simp only [Option.bind_some] at h ⊢
      cases hx:S.sl t with
      | none=>rw [hx] at h;simp at h
      | some x =>
        rw [hx] at h
        obtain ⟨v,h1,h2⟩:=hs.slot t x hx
        rw [h1]
        cases x with
        | sc u =>
          have:=h2.gJ;subst this
          cases v <;> simp_all
        | _=>simp at h
theorem AS.vQ (S:AS) (t:Nat) (v:AV):(S.put (some t) v).sl=upd S.sl t (some v):=rfl
theorem AS.pJ (S:AS) (d:Option Tmp) (v:AV):(S.put d v).hp=S.hp:=by cases d <;> rfl
def kP (n:NT):Option Tmp->Bool
  | none=>true
  | some t=>Nat.blt t n.n
theorem SR.put {s:Sit} {a:Act} {d:Option Tmp} {x:AV} {v:Value} (hs:SR n s S a) (hd:kP n d=true) (hv:VR s x v):SR n s (S.put d x) (a.put d v):=by
  cases d with
  | none=>exact hs
  | some t =>
    have hd':t<n.n:=by simpa [kP,Nat.blt_eq] using hd
    refine ⟨by simp [Act.put,hs.size],hs.defers,λi y hy=>?_,hs.heap⟩
    by_cases hi:i=t
    · subst hi
      rw [AS.vQ,upd_same] at hy
      cases hy
      exact ⟨v,by simp [Act.put,hs.size,hd'],hv⟩
    · rw [AS.vQ,upd_ne _ _ hi] at hy
      obtain ⟨u,h1,h2⟩:=hs.slot i y hy
      exact ⟨u,by simp only [Act.put];rw [Array.getElem?_setIfInBounds_ne (Ne.symm hi)];exact h1,h2⟩
theorem SR.fr {s s':Sit} {H':AH} {a:Act} (hs:SR n s S a) (hH:HR s' H') (hf:Fr s S.hp s' H'):SR n s' { S with hp:=H' } a :=
  ⟨hs.size,hs.defers,λt x hx=>let ⟨v,h1,h2⟩:=hs.slot t x hx;⟨v,h1,hf.vals _ _ h2⟩,hH⟩
theorem SR.opers {s:Sit} {a:Act} (hs:SR n s S a) (o:Oper):∀ x∈o.op.operands,∀ av,S.ev x=some av->VR s av (a.eval x):=λ_ _ _ h=>tC hs h
theorem drop_cons {α:Type} {l r:List α} {x:α} {k:Nat} (h:l.drop k=x :: r):l[k]?=some x/\l.drop (k+1)=r:=by
  constructor
  · have:=List.getElem?_drop (xs:=l) (i:=k) (j:=0)
    rw [h] at this;simpa using this.symm
  · have:l.drop (k+1)=(l.drop k).drop 1:=by rw [List.drop_drop]
    rw [this,h];rfl
theorem yR {o:Oper} {rest:List Oper} {Out:AV->AH->Prop} (hw:Wd ops S o=some true) (hd:kP n o.dst=true) (hy:bW P o S no any Out)
    (h:∀ x H',Out x H'->Rg P n ops rest (({ S with hp:=H' }:AS).put o.dst x) K):Rg P n ops (o :: rest) S K:=by
  intro k hk s a hs
  obtain ⟨h0,h1⟩:=drop_cons hk
  rw [List.length_cons,List.range'_succ]
  simp only [wpOps,List.getElem?_toArray,h0,nE hs hw,if_true]
  refine .inl (hy s a _ _ hs.heap (hs.opers o) (λ_ h=>h.elim) ?_)
  intro s' v x H' hO hv hH hf _
  have hs':=(hs.fr hH hf).put hd hv
  have hgo:=h x H' hO (k+1) h1 s' _ hs'
  refine xB ?_ _ _ _ hgo
  rintro e a' w' ⟨rfl,S2,s2,g1,g2,g3,g4⟩
  rw [AS.pJ] at g4
  exact ⟨rfl,S2,s2,g1,g2,g3,hf.trans g4⟩
theorem V6 {o:Oper} {rest:List Oper} (hw:Wd ops S o=some false) (hd:kP n o.dst=true)
    (h:Rg P n ops rest (S.put o.dst (.sc undef)) K):Rg P n ops (o :: rest) S K:=by
  intro k hk s a hs
  obtain ⟨h0,h1⟩:=drop_cons hk
  rw [List.length_cons,List.range'_succ]
  simp only [wpOps,List.getElem?_toArray,h0,nE hs hw,Bool.false_eq_true,if_false]
  have:=h (k+1) h1 s _ (hs.put hd (.sc undef))
  rw [AS.pJ] at this
  exact this
theorem TH {o:Oper} {rest:List Oper} {x:AV} (hw:Wd ops S o=some true) (hd:kP n o.dst=true) (hy:bS P o S x)
    (h:Rg P n ops rest (S.put o.dst x) K):Rg P n ops (o :: rest) S K :=
  yR hw hd (hy.d9 (λ_ h=>h) λ_ h=>h.elim) λ_ _ ⟨h1,h2⟩=>by subst h1 h2;exact h
theorem SR.sets {s:Sit} {a:Act} {t:Nat} {x y:AV} (hs:SR n s S a) (h:S.sl t=some x) (e:x=y):SR n s (S.put (some t) y) a:=by
  refine ⟨hs.size,hs.defers,λi z hz=>?_,hs.heap⟩
  by_cases hi:i=t
  · subst hi;rw [AS.vQ,upd_same] at hz;cases hz;subst e;exact hs.slot i _ h
  · rw [AS.vQ,upd_ne _ _ hi] at hz;exact hs.slot i z hz
theorem XH {todo:List Oper} {b:Bool} (t:Nat) (h:S.sl t=some (.sc (.bool b)))
    (h1:b=true->Rg P n ops todo (S.put (some t) (.sc (.bool true))) K) (h2:b=false->Rg P n ops todo (S.put (some t) (.sc (.bool false))) K):Rg P n ops todo S K:=by
  intro k hk s a hs
  cases hb:b
  · exact h2 hb k hk s a (hs.sets h (by rw [hb]))
  · exact h1 hb k hk s a (hs.sets h (by rw [hb]))
theorem aI0 {todo:List Oper} {p:Prop} [Decidable p] (t:Nat) (h:S.sl t=some (.sc (.bool (decide p))))
    (h1:p->Rg P n ops todo (S.put (some t) (.sc (.bool true))) K) (h2:¬ p->Rg P n ops todo (S.put (some t) (.sc (.bool false))) K):Rg P n ops todo S K :=
  XH t h (λe=>h1 (of_decide_eq_true e)) (λe=>h2 (of_decide_eq_false e))
theorem UK {todo:List Oper} {x:AV} (y:AV) (t:Nat) (h:S.sl t=some x) (e:x=y) (h1:Rg P n ops todo (S.put (some t) y) K):Rg P n ops todo S K :=
  λk hk s a hs=>h1 k hk s a (hs.sets h e)
section ops
variable {o:Oper}
theorem bM {x:Operand} {v:AV} (ho:o.op=.move x) (hx:S.ev x=some v):bS P o S v :=
  iK λs ρ _ h=>⟨ρ x,h x (by simp [ho,Op.operands]) v hx,by simp [execOp,ho]⟩
theorem eO {x:Operand} {v:AV} (ho:o.op=.assign x) (hx:S.ev x=some v):bS P o S v :=
  iK λs ρ _ h=>⟨ρ x,h x (by simp [ho,Op.operands]) v hx,by simp [execOp,ho]⟩
theorem vU {x:Operand} {u r:Value} (hx:S.ev x=some (.sc u)) (hm:x∈o.op.operands)
    (hr:∀ (ρ:Operand->Value) (w:World),ρ x=u->(execOp ρ o).run P w=.ok (.value r) w):bS P o S (.sc r) :=
  iK λs ρ _ h=>⟨r,.sc r,hr ρ s.w (h x hm _ hx).gJ⟩
theorem zX {x y:Operand} {u v r:Value} (hx:S.ev x=some (.sc u)) (hy:S.ev y=some (.sc v)) (hm:x∈o.op.operands) (hm':y∈o.op.operands)
    (hr:∀ (ρ:Operand->Value) (w:World),ρ x=u->ρ y=v->(execOp ρ o).run P w=.ok (.value r) w):bS P o S (.sc r) :=
  iK λs ρ _ h=>⟨r,.sc r,hr ρ s.w (h x hm _ hx).gJ (h y hm' _ hy).gJ⟩
section bin
variable {T Ty:TypeId} {x y:Operand} {k:IntKind} {a b:Int}
theorem kK {op:BinOp} {u v r:Value} (ho:o.op=.binOp op T x y Ty) (hx:S.ev x=some (.sc u)) (hy:S.ev y=some (.sc v))
    (hr:∀ w,(do eqGuard op T x y u v;binOp op T u v:Sem Value).run P w=.ok r w):bS P o S (.sc r) :=
  zX hx hy (by simp [ho,Op.operands]) (by simp [ho,Op.operands]) fun ρ w h1 h2=>by
    have:=hr w
    simp only [execOp,ho,h1,h2]
    simp only [Sem.run_bind] at this ⊢
    rw [this];rfl
theorem rD {r:Int} (ho:o.op=.binOp .add T x y Ty) (hx:S.ev x=some (.sc (.int k a))) (hy:S.ev y=some (.sc (.int k b))) (hr:k.wrap (a+b)=r):bS P o S (.sc (.int k r)) :=
  kK ho hx hy λw=>by simp [eqGuard,binOp,Op.intArith,hr]
theorem IN {r:Int} (ho:o.op=.binOp .sub T x y Ty) (hx:S.ev x=some (.sc (.int k a))) (hy:S.ev y=some (.sc (.int k b))) (hr:k.wrap (a-b)=r):bS P o S (.sc (.int k r)) :=
  kK ho hx hy λw=>by simp [eqGuard,binOp,Op.intArith,hr]
theorem JQ {r:Int} (ho:o.op=.binOp .mul T x y Ty) (hx:S.ev x=some (.sc (.int k a))) (hy:S.ev y=some (.sc (.int k b))) (hr:k.wrap (a*b)=r):bS P o S (.sc (.int k r)) :=
  kK ho hx hy λw=>by simp [eqGuard,binOp,Op.intArith,hr]
theorem LB {r:Int} (ho:o.op=.binOp .quo T x y Ty) (hx:S.ev x=some (.sc (.int k a))) (hy:S.ev y=some (.sc (.int k b))) (hb:b≠0) (hr:k.wrap (a.tdiv b)=r):bS P o S (.sc (.int k r)) :=
  kK ho hx hy λw=>by simp [eqGuard,binOp,Op.intDiv,hb,hr]
theorem uT {r:Int} (ho:o.op=.binOp .rem T x y Ty) (hx:S.ev x=some (.sc (.int k a))) (hy:S.ev y=some (.sc (.int k b))) (hb:b≠0) (hr:a.tmod b=r):bS P o S (.sc (.int k r)) :=
  kK ho hx hy λw=>by simp [eqGuard,binOp,Op.intDiv,hb,hr]
theorem oC (ho:o.op=.binOp .lss T x y Ty) (hx:S.ev x=some (.sc (.int k a))) (hy:S.ev y=some (.sc (.int k b))):bS P o S (.sc (.bool (decide (a<b)))) :=
  kK ho hx hy λw=>by simp [eqGuard,binOp,Op.intCmp]
theorem tN (ho:o.op=.binOp .leq T x y Ty) (hx:S.ev x=some (.sc (.int k a))) (hy:S.ev y=some (.sc (.int k b))):bS P o S (.sc (.bool (decide (a<=b)))) :=
  kK ho hx hy λw=>by simp [eqGuard,binOp,Op.intCmp]
theorem uX (ho:o.op=.binOp .gtr T x y Ty) (hx:S.ev x=some (.sc (.int k a))) (hy:S.ev y=some (.sc (.int k b))):bS P o S (.sc (.bool (decide (b<a)))) :=
  kK ho hx hy λw=>by simp [eqGuard,binOp,Op.intCmp]
theorem xH (ho:o.op=.binOp .geq T x y Ty) (hx:S.ev x=some (.sc (.int k a))) (hy:S.ev y=some (.sc (.int k b))):bS P o S (.sc (.bool (decide (b<=a)))) :=
  kK ho hx hy λw=>by simp [eqGuard,binOp,Op.intCmp]
theorem aS (ho:o.op=.binOp .eql T x y Ty) (hx:S.ev x=some (.sc (.int k a))) (hy:S.ev y=some (.sc (.int k b))):bS P o S (.sc (.bool (decide (a=b)))) :=
  kK ho hx hy λw=>by
    have:(a == b)=decide (a=b):=by by_cases h:a=b <;> simp [h]
    simp [eqGuard,binOp,Op.intCmp,this]
theorem aB0 (ho:o.op=.binOp .neq T x y Ty) (hx:S.ev x=some (.sc (.int k a))) (hy:S.ev y=some (.sc (.int k b))):bS P o S (.sc (.bool (decide (a≠b)))) :=
  kK ho hx hy λw=>by
    have:(a != b)=decide (a≠b):=by by_cases h:a=b <;> simp [h]
    simp [eqGuard,binOp,Op.intCmp,this]
theorem vD {k':IntKind} {r:Int} (ho:o.op=.binOp .shl T x y Ty) (hx:S.ev x=some (.sc (.int k a))) (hy:S.ev y=some (.sc (.int k' b))) (hb:0<=b) (hr:k.wrap (a*2 ^ (min b.toNat k.bits))=r):bS P o S (.sc (.int k r)) :=
  kK ho hx hy λw=>by simp [eqGuard,binOp,Op.shift,show ¬ b<0 by omega,hr]
theorem qA {k':IntKind} {r:Int} (ho:o.op=.binOp .shr T x y Ty) (hx:S.ev x=some (.sc (.int k a))) (hy:S.ev y=some (.sc (.int k' b))) (hb:0<=b) (hr:a.fdiv (2 ^ (min b.toNat k.bits))=r):bS P o S (.sc (.int k r)) :=
  kK ho hx hy λw=>by simp [eqGuard,binOp,Op.shift,show ¬ b<0 by omega,hr]
theorem wU {r:Int} (ho:o.op=.binOp .and T x y Ty) (hx:S.ev x=some (.sc (.int k a))) (hy:S.ev y=some (.sc (.int k b))) (hr:k.wrap (BitVec.ofInt k.bits a &&& BitVec.ofInt k.bits b).toNat=r):bS P o S (.sc (.int k r)) :=
  kK ho hx hy λw=>by simp only [eqGuard,binOp,Op.intBits];simp [<- hr]
theorem wX {r:Int} (ho:o.op=.binOp .or T x y Ty) (hx:S.ev x=some (.sc (.int k a))) (hy:S.ev y=some (.sc (.int k b))) (hr:k.wrap (BitVec.ofInt k.bits a ||| BitVec.ofInt k.bits b).toNat=r):bS P o S (.sc (.int k r)) :=
  kK ho hx hy λw=>by simp only [eqGuard,binOp,Op.intBits];simp [<- hr]
theorem yN {r:Int} (ho:o.op=.binOp .xor T x y Ty) (hx:S.ev x=some (.sc (.int k a))) (hy:S.ev y=some (.sc (.int k b))) (hr:k.wrap (BitVec.ofInt k.bits a ^^^ BitVec.ofInt k.bits b).toNat=r):bS P o S (.sc (.int k r)) :=
  kK ho hx hy λw=>by simp only [eqGuard,binOp,Op.intBits];simp [<- hr]
end bin
abbrev bs (l:List UInt8):ByteArray:=⟨l.toArray⟩
section str
variable {T Ty:TypeId} {x y:Operand} {l m:List UInt8}
theorem qJ (ho:o.op=.binOp .add T x y Ty) (hx:S.ev x=some (.sc (.string (bs l)))) (hy:S.ev y=some (.sc (.string (bs m)))) (hb:l.length+m.length<=9223372036854775807):bS P o S (.sc (.string (bs (l++m)))) :=
  kK ho hx hy λw=>by
    have h1:bs l++bs m=bs (l++m):=by apply ByteArray.ext;simp [bs]
    have h2:¬ (IntKind.i64.max:Int)<((l.length:Int)+(m.length:Int)):=by
      have:(IntKind.i64.max:Int)=9223372036854775807:=by decide
      omega
    have h3:¬ (IntKind.i64.max:Int)<(((bs l).size+(bs m).size:Nat):Int):=by simpa [bs,ByteArray.size] using h2
    simp only [eqGuard,binOp,Op.stringOp,h1,h3,if_false]
    rfl
theorem OX (ho:o.op=.binOp .eql T x y Ty) (hx:S.ev x=some (.sc (.string (bs l)))) (hy:S.ev y=some (.sc (.string (bs m)))):bS P o S (.sc (.bool (decide (l=m)))) :=
  kK ho hx hy λw=>by
    have:(l == m)=decide (l=m):=by by_cases h:l=m <;> simp [h]
    simp [eqGuard,binOp,Op.stringOp,this]
theorem RP (ho:o.op=.binOp .neq T x y Ty) (hx:S.ev x=some (.sc (.string (bs l)))) (hy:S.ev y=some (.sc (.string (bs m)))):bS P o S (.sc (.bool (decide (l≠m)))) :=
  kK ho hx hy λw=>by
    have:(!(l == m))=decide (l≠m):=by by_cases h:l=m <;> simp [h]
    simp [eqGuard,binOp,Op.stringOp,this]
end str
end ops
end
end Go.Pv
