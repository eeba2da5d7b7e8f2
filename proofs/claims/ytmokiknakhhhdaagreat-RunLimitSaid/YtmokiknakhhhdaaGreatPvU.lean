import Derived.Test.YtmokiknakhhhdaaGreatPvO
import Derived.WalkKit
import Derived.ProofKit
import Derived.OpenShut
import Derived.ShutString
import Derived.ChangeOld
import Derived.Below
import Derived.Lib.ConvBytes
set_option linter.unusedVariables false
set_option linter.unusedSimpArgs false
namespace Go.Pv
inductive Has:AV->Nat->Prop
  | pt {id aD row off:Nat}:Has (.pt id aD row off) aD
  | sl {id aD off len:Nat}:Has (.sl id aD off len) aD
  | list {sz k:Nat} {xs:List (List AV)} {i j:Nat} {r:List AV} {x:AV} (h1:xs[i]?=some r) (h2:r[j]?=some x) (h:Has x k):Has (.list sz xs) k
  | pp {cs:List AV} {i k:Nat} {x:AV} (h1:cs[i]?=some x) (h:Has x k):Has (.pp cs) k
  | agg {cs:List AV} {i k:Nat} {x:AV} (h1:cs[i]?=some x) (h:Has x k):Has (.agg cs) k
  | KH {f:Fn} {a c:List AV} {i k:Nat} {x:AV} (h1:a[i]?=some x) (h:Has x k):Has (.fn f a c) k
  | MH {f:Fn} {a c:List AV} {i k:Nat} {x:AV} (h1:c[i]?=some x) (h:Has x k):Has (.fn f a c) k
  | gQ {t:TypeId} {k:Nat} {x:AV} (h:Has x k):Has (.gQ t x) k
  | aS {cs:List AV} {i k:Nat} {x:AV} (h1:cs[i]?=some x) (h:Has x k):Has (.aS cs) k
  | mp {ks:List Int} {cs:List AV} {i k:Nat} {x:AV} (h1:cs[i]?=some x) (h:Has x k):Has (.mp ks cs) k
theorem CZ {α:Type} {l:Array α} {n i:Nat} (h:n=l.size) (hi:i<n):∃ v,l[i]?=some v:=⟨l[i]'(by omega),Array.getElem?_eq_getElem (by omega)⟩
theorem AF {α:Type} {l:List α} {i:Nat} {x:α} (h:l[i]?=some x):i<l.length:=(List.getElem?_eq_some_iff.1 h).1
theorem VR.has {s:Sit} {x:AV} {v:Value} (h:VR s x v):∀ k,Has x k->s.used k:=by
  induction h with
  | sc v=>intro k h;cases h
  | nil sz=>intro k h;cases h with | list h1 _ _=>simp at h1
  | emp sz a=>intro k h;cases h with | list h1 _ _=>simp at h1
  | list f hI hc hm hr hf _ ih=>intro k h;cases h with | list h1 h2 h=>exact ih _ _ _ _ h1 h2 k h
  | pp f hI hf _ ih=>intro k h;cases h with | pp h1 h=>exact ih _ _ h1 k h
  | pt hk h1 h=>intro k h;cases h;exact hk
  | sl hk h1 h=>intro k h;cases h;exact hk
  | agg hl _ ih=>intro k h;cases h with | agg h1 h=>obtain ⟨v,hv⟩:=CZ hl (AF h1);exact ih _ _ v h1 hv k h
  | fn hl hl' _ _ ih ih' =>
    intro k h
    cases h with
    | KH h1 h=>obtain ⟨v,hv⟩:=CZ hl (AF h1);exact ih _ _ v h1 hv k h
    | MH h1 h=>obtain ⟨v,hv⟩:=CZ hl' (AF h1);exact ih' _ _ v h1 hv k h
  | gQ _ ih=>intro k h;cases h with | gQ h=>exact ih k h
  | aS hl _ ih=>intro k h;cases h with | aS h1 h=>obtain ⟨v,hv⟩:=CZ hl (AF h1);exact ih _ _ v h1 hv k h
  | mp hI' hb hk hl _ ih=>intro k h;cases h with | mp h1 h=>exact ih _ _ _ h1 (List.getElem?_eq_getElem (by have:=AF h1;omega)) k h
theorem VR.less {s s2:Sit} (hw:s2.w=s.w) (hI:s2.Im=s.Im) (hm:s2.mu=s.mu) {x:AV} {v:Value} (h:VR s x v):(∀ k,Has x k->s2.used k)->VR s2 x v:=by
  induction h with
  | sc v=>intro _;exact .sc v
  | nil sz=>intro _;exact .nil sz
  | emp sz a=>intro _;exact .emp sz a
  | list f hI' hc hm' hr hf _ ih=>intro hk;exact .list f (by rw [hI];exact hI') hc hm' hr (λi r j x a b=>by rw [hw];exact hf i r j x a b) (λi r j x a b=>ih i r j x a b λk hh=>hk k (.list a b hh))
  | pp f hI' hf _ ih=>intro hk;exact .pp f (by rw [hI];exact hI') (λj x a=>by rw [hw];exact hf j x a) (λj x a=>ih j x a λk hh=>hk k (.pp a hh))
  | pt hk' h1 h=>intro hk;exact .pt (hk _ .pt) h1 (λm a=>h m (hm ▸ a))
  | sl hk' h1 h=>intro hk;exact .sl (hk _ .sl) h1 (λm a=>h m (hm ▸ a))
  | agg hl _ ih=>intro hk;exact .agg hl λi x v a b=>ih i x v a b λk hh=>hk k (.agg a hh)
  | fn hl hl' _ _ ih ih'=>intro hk;exact .fn hl hl' (λi x v a b=>ih i x v a b λk hh=>hk k (.KH a hh)) (λi x v a b=>ih' i x v a b λk hh=>hk k (.MH a hh))
  | gQ _ ih=>intro hk;exact .gQ (ih λk hh=>hk k (.gQ hh))
  | aS hl _ ih=>intro hk;exact .aS hl λi x v a b=>ih i x v a b λk hh=>hk k (.aS a hh)
  | mp hI' hb hk0 hl _ ih=>intro hk;exact .mp (by rw [hI];exact hI') (by rw [hw];exact hb) hk0 hl λi x v a b=>ih i x v a b λk hh=>hk k (.mp a hh)
theorem PV.has {x:AV} (h:PV x):∀ k,¬ Has x k:=by
  induction h with
  | sc v=>intro k h;cases h
  | list _ ih=>intro k h;cases h with | list h1 h2 h=>exact ih _ (List.mem_of_getElem? h1) _ (List.mem_of_getElem? h2) k h
  | pp _ ih=>intro k h;cases h with | pp h1 h=>exact ih _ (List.mem_of_getElem? h1) k h
  | agg _ ih=>intro k h;cases h with | agg h1 h=>exact ih _ (List.mem_of_getElem? h1) k h
  | fn _ _ ih ih' =>
    intro k h
    cases h with
    | KH h1 h=>exact ih _ (List.mem_of_getElem? h1) k h
    | MH h1 h=>exact ih' _ (List.mem_of_getElem? h1) k h
  | gQ _ ih=>intro k h;cases h with | gQ h=>exact ih k h
  | aS _ ih=>intro k h;cases h with | aS h1 h=>exact ih _ (List.mem_of_getElem? h1) k h
  | mp _ ih=>intro k h;cases h with | mp h1 h=>exact ih _ (List.mem_of_getElem? h1) k h
theorem lV {P:Program} {S:AS} {o:Oper} {fo:Operand} {as:List Operand} {ts:Array TypeId} {k:FuncId} {first cap vs:List AV} {y0:AV} (ho:o.op=.call { callee:=.value fo,args:=as.toArray,argTypes:=ts })
    (hf:S.ev fo=some (.fn (.func k) first cap)) (ha:EvL S as vs) (hc:aU P k=true) (hp:PC P k (first++vs++cap) S.hp (λy H'=>y=y0/\H'=S.hp)) (hy:PV y0):bP P o S y0:=by
  intro s a next Q hH hops _ hn
  obtain ⟨us,h1,h2⟩:=B4 (P:=P) ho hf ha hc hops
  unfold Oper.wp
  rw [h2]
  refine (hp s us hH h1).mono ?_
  rintro e w' ⟨y,H',s',v,⟨rfl,rfl⟩,rfl,rfl,q4,q5,q6⟩
  let s2:Sit:={ w:=s'.w,Im:=s'.Im,mu:=s'.mu,used:=s.used }
  have hless:∀ x u,VR s' x u->(∀ k,Has x k->s.used k)->VR s2 x u:=λx u h hk=>VR.less (s:=s') (s2:=s2) rfl rfl rfl h hk
  refine hn s2 v _ S.hp ⟨rfl,rfl⟩ (hless _ _ q4 λk h=>absurd h (hy.has k)) ⟨λid ob hob=>?_,q5.jB,q5.im,hH.fin⟩
    ⟨q6.os,q6.tape,q6.output,q6.size,q6.keep,q6.jV,q6.jD,q6.own,λx u h=>hless x u (q6.vals x u h) h.has,λ_ h=>h⟩ (λ_ h=>.inl h)
  obtain ⟨m0,hm0⟩:=hH.obj id ob hob
  obtain ⟨m,hm⟩:=q5.obj id ob hob
  refine ⟨m,⟨hm.hm,hm.bK,hm.hsz,hm0.hk,?_⟩⟩
  rcases hm.body with hb | ⟨cur,fr,hb⟩
  · exact .inl hb
  · refine .inr ⟨cur,fr,⟨hb.hnil,hb.hb,hb.hfr,hb.happ,hb.hcs,hb.hct,hb.hlen,hb.hr,λi r j x u a b c=>hless x u (hb.hv i r j x u a b c) ?_,hb.h1,hb.him,hb.iW⟩⟩
    rcases hm0.body with hb0 | ⟨cur0,fr0,hb0⟩
    · rw [hb0.2] at a;simp at a
    · obtain ⟨u0,_,g2⟩:=hb0.rd a j x b
      exact g2.has
theorem IZ {P:Program} {S:AS} {o:Oper} {fo:Operand} {as:List Operand} {ts:Array TypeId} {k:FuncId} {first cap vs:List AV} {y0:AV} {id:Nat} {ob ob':bA} (ho:o.op=.call { callee:=.value fo,args:=as.toArray,argTypes:=ts })
    (hf:S.ev fo=some (.fn (.func k) first cap)) (ha:EvL S as vs) (hc:aU P k=true) (hp:PC P k (first++vs++cap) S.hp (λy H'=>y=y0/\H'=upd S.hp id (some ob'))) (hy:PV y0)
    (hob:S.hp id=some ob) (bK:ob'.aD=ob.aD) (hpv:∀ (i:Nat) (r:List AV) (j:Nat) (x:AV),ob'.rows[i]?=some r->r[j]?=some x->PV x):bZ P o S no no (λy H'=>y=y0/\H'=upd S.hp id (some ob')):=by
  intro s a next Q hH hops _ hn
  obtain ⟨us,h1,h2⟩:=B4 (P:=P) ho hf ha hc hops
  unfold Oper.wp
  rw [h2]
  refine (hp s us hH h1).mono ?_
  rintro e w' ⟨y,H',s',v,⟨rfl,rfl⟩,rfl,rfl,q4,q5,q6⟩
  let s2:Sit:={ w:=s'.w,Im:=s'.Im,mu:=s'.mu,used:=s.used }
  have hless:∀ x u,VR s' x u->(∀ k,Has x k->s.used k)->VR s2 x u:=λx u h hk=>VR.less (s:=s') (s2:=s2) rfl rfl rfl h hk
  refine hn s2 v _ _ ⟨rfl,rfl⟩ (hless _ _ q4 λk h=>absurd h (hy.has k)) ⟨λi oi hoi=>?_,q5.jB,q5.im,hH.fin⟩
    ⟨q6.os,q6.tape,q6.output,q6.size,q6.keep,q6.jV,q6.jD,q6.own,λx u h=>hless x u (q6.vals x u h) h.has,λ_ h=>h⟩ (λ_ h=>.inl h)
  obtain ⟨m,hm⟩:=q5.obj i oi hoi
  by_cases hi:i=id
  · subst hi
    rw [upd_same] at hoi;cases hoi
    obtain ⟨m0,hm0⟩:=hH.obj i ob hob
    refine ⟨m,⟨hm.hm,hm.bK,hm.hsz,by rw [bK];exact hm0.hk,?_⟩⟩
    rcases hm.body with hb | ⟨cur,fr,hb⟩
    · exact .inl hb
    · exact .inr ⟨cur,fr,⟨hb.hnil,hb.hb,hb.hfr,hb.happ,hb.hcs,hb.hct,hb.hlen,hb.hr,λi r j x u a b c=>hless x u (hb.hv i r j x u a b c) λk h=>absurd h ((hpv i r j x a b).has k),hb.h1,hb.him,hb.iW⟩⟩
  · rw [upd_ne _ _ hi] at hoi
    obtain ⟨m0,hm0⟩:=hH.obj i oi hoi
    refine ⟨m,⟨hm.hm,hm.bK,hm.hsz,hm0.hk,?_⟩⟩
    rcases hm.body with hb | ⟨cur,fr,hb⟩
    · exact .inl hb
    · refine .inr ⟨cur,fr,⟨hb.hnil,hb.hb,hb.hfr,hb.happ,hb.hcs,hb.hct,hb.hlen,hb.hr,λi r j x u a b c=>hless x u (hb.hv i r j x u a b c) ?_,hb.h1,hb.him,hb.iW⟩⟩
      rcases hm0.body with hb0 | ⟨cur0,fr0,hb0⟩
      · rw [hb0.2] at a;simp at a
      · obtain ⟨u0,_,g2⟩:=hb0.rd a j x b
        exact g2.has
theorem KB {T aD:Nat} {s:RS}:∀ (i:Nat) (r:List AV) (j:Nat) (x:AV),(dI T aD s).rows[i]?=some r->r[j]?=some x->PV x:=by
  intro i r j x h1 h2
  rcases i with _ | i
  · simp at h1;subst h1
    rcases j with _ | j
    · simp at h2;subst h2;exact .sc _
    · rcases j with _ | j
      · simp at h2;subst h2;exact .sc _
      · simp at h2
  · simp at h1
theorem aH {P:Program} {S:AS} {o:Oper} {x y:AV} (h:bP P o S x) (e:x=y):bP P o S y:=e ▸ h
theorem aD8 {P:Program} {S:AS} {o:Oper} {T:TypeId} {x:Operand} {k:IntKind} {a r:Int} (ho:o.op=.unOp .xor T x) (hx:S.ev x=some (.sc (.int k a)))
    (hr:k.wrap ((BitVec.ofInt k.bits (if k.signed then -1 else k.max) ^^^ BitVec.ofInt k.bits a).toNat:Int)=r):bP P o S (.sc (.int k r)) :=
  zD hx (by simp [ho,Op.operands]) fun ρ w h1=>by subst hr;simp [execOp,ho,h1,Op.unary,Op.intBits]
theorem aLE {v:Int} (h:gT v) (hv:v<0):IntKind.u64.wrap ((BitVec.ofInt IntKind.u64.bits (if IntKind.u64.signed then -1 else IntKind.u64.max) ^^^ BitVec.ofInt IntKind.u64.bits (tw v:Nat)).toNat:Int)=(zz v:Nat):=by
  have:=TY h
  rw [BitVec.xor_comm] at this
  have e:(pE v:Int)=if IntKind.u64.signed then -1 else IntKind.u64.max:=by unfold pE;rw [if_pos hv];decide
  rw [e] at this;exact this
theorem aK4 {v:Int} (hv:¬ v<0):tw v=zz v:=by unfold tw zz;rw [if_neg hv,if_neg hv]
theorem aJ7:∀ c:Nat,c<256->c ||| 128=c % 128+128:=by decide +kernel
theorem SA (u:Nat):IntKind.u8.wrap ((BitVec.ofInt IntKind.u8.bits ((UInt8.ofNat u).toNat:Nat) ||| BitVec.ofInt IntKind.u8.bits 128).toNat:Int)=((UInt8.ofNat (u % 128+128)).toNat:Nat):=by
  have h1:(UInt8.ofNat u).toNat=u % 256:=by simp
  have h2:(UInt8.ofNat (u % 128+128)).toNat=u % 128+128:=by simp;omega
  rw [h1,h2]
  have e:(BitVec.ofInt IntKind.u8.bits ((u % 256:Nat):Int) ||| BitVec.ofInt IntKind.u8.bits 128).toNat=u % 128+128:=by
    show (BitVec.ofInt 8 ((u % 256:Nat):Int) ||| BitVec.ofInt 8 128).toNat=_
    rw [BitVec.toNat_or,BitVec.toNat_ofInt,BitVec.toNat_ofInt]
    have h3:(((u % 256:Nat):Int) % ((2 ^ 8:Nat):Int)).toNat=u % 256:=by omega
    have h4:((128:Int) % ((2 ^ 8:Nat):Int)).toNat=128:=by decide
    rw [h3,h4,aJ7 _ (by omega)];omega
  rw [e];exact aKE (by omega)
open Go.ChangeShapes Go.WideShapes Go.ChangeAt Go.RowKit
def s0 (w:World):Sit:=⟨w,λb=>b<w.heap.size,λ_=>none,λ_=>False⟩
inductive VL (s:Sit):List AV->List Value->Prop
  | nil:VL s [] []
  | cons {x:AV} {v:Value} {xs:List AV} {vs:List Value} (h:VR s x v) (hs:VL s xs vs):VL s (x :: xs) (v :: vs)
theorem VL.len {s:Sit} {xs:List AV} {vs:List Value} (h:VL s xs vs):xs.length=vs.length:=by
  induction h with
  | nil=>rfl
  | cons _ _ ih=>simp [ih]
theorem VL.get {s:Sit} {xs:List AV} {vs:List Value} (h:VL s xs vs):∀ (i:Nat) (x:AV) (v:Value),xs[i]?=some x->vs[i]?=some v->VR s x v:=by
  induction h with
  | nil=>intro i x v h1 _;simp at h1
  | cons ha _ ih =>
    intro i x v h1 h2
    cases i with
    | zero=>simp at h1 h2;subst h1 h2;exact ha
    | succ i=>exact ih i x v (by simpa using h1) (by simpa using h2)
theorem ZV {s:Sit} {xs:List AV} {vs:List Value} (h:VL s xs vs):mD s xs vs.toArray :=
  ⟨by simp [h.len],λi x v h1 h2=>h.get i x v h1 (by simpa using h2)⟩
theorem V8 {n:Nat} (h:n<256):(UInt8.ofNat n).toNat=n:=by simp;omega
theorem aC5 (i:Nat):2 ^ (7*(i+1))=128*2 ^ (7*i):=by rw [Nat.mul_add,Nat.pow_add,Nat.mul_comm]
theorem Y8:∀ (f u i acc:Nat) (rest:List UInt8),i+f=10->(i=0\/0<u)->u*2 ^ (7*i)<2 ^ 64->rd (lN f u++rest) i acc=some (acc+u*2 ^ (7*i),rest)
  | 0,u,i,acc,rest,hi,hu,hb=>by
    have:i=10:=by omega
    subst this
    have:0<u:=by omega
    have:1*2 ^ (7*10)<=u*2 ^ (7*10):=Nat.mul_le_mul_right _ (by omega)
    omega
  | f+1,u,i,acc,rest,hi,hu,hb=>by
    have hu9:i=9->u<=1:=by
      intro h;subst h
      rcases Nat.lt_or_ge 1 u with h2 | h2
      · have:2*2 ^ (7*9)<=u*2 ^ (7*9):=Nat.mul_le_mul_right _ (by omega)
        omega
      · exact h2
    by_cases h:u<128
    · rw [GQ _ h]
      have hc:(UInt8.ofNat u).toNat=u:=V8 (by omega)
      simp only [List.singleton_append,rd,hc]
      rw [if_neg (by omega),if_neg (by omega),if_neg (by omega),Nat.mod_eq_of_lt h]
    · rw [GX _ (by omega)]
      have hc:(UInt8.ofNat (u % 128+128)).toNat=u % 128+128:=V8 (by omega)
      simp only [List.cons_append,rd,hc]
      rw [if_neg (by omega),if_pos (by omega)]
      have h7:=aC5 i
      have hsplit:u*2 ^ (7*i)=u % 128*2 ^ (7*i)+u / 128*2 ^ (7*(i+1)):=by
        rw [h7,<- Nat.mul_assoc,<- Nat.add_mul];congr 1;omega
      have hmod:(u % 128+128) % 128=u % 128:=by omega
      rw [Y8 f (u / 128) (i+1) _ rest (by omega) (by omega) (by omega),hmod,hsplit]
      congr 2;omega
theorem aF7 (v:Int):uS (zz v)=v:=by
  rw [AN];unfold zz;split <;> split <;> omega
theorem aKP {v:Int} (h:gT v) (rest:List UInt8):rd (enc v++rest) 0 0=some (zz v,rest):=by
  have:=Y8 10 (zz v) 0 0 rest rfl (.inl rfl) (by have:=EF h;omega)
  simp only [Nat.mul_zero,Nat.pow_zero,Nat.mul_one,Nat.zero_add] at this
  exact this
theorem rM {v:Int} (h:gT v) (rest:List UInt8) (b:Bool):dA (enc v++rest,b)=v/\dF (enc v++rest,b)=(rest,b):=by
  have:=nI (s:=(enc v++rest,b)) (aKP h rest)
  rw [aF7] at this;exact this
theorem RH {m:List Int} (hm:∀ v∈m,gT v) (rest:List UInt8) (b:Bool):∀ k,k<=m.length->nums k (m.flatMap enc++rest,b)=(m.take k,((m.drop k).flatMap enc++rest,b))
  | 0,_=>rfl
  | k+1,hk=>by
    have hk:k<m.length:=hk
    simp only [nums]
    rw [RH hm rest b k (by omega)]
    rw [JH hk,List.append_assoc]
    obtain ⟨h1,h2⟩:=rM (hm _ (List.getElem_mem hk)) ((m.drop (k+1)).flatMap enc++rest) b
    simp only [h1,h2]
    rw [List.take_succ_eq_append_getElem hk]
theorem aLI {m:List Int} (hm:∀ v∈m,gT v) {most:Int} (hl:(m.length:Int)<=most) (hlm:m.length<=9223372036854775807) (rest:List UInt8):nV (lG m++rest,false) most=m/\oQ (lG m++rest,false) most=(rest,false):=by
  have e:lG m++rest=enc m.length++(m.flatMap enc++rest):=by unfold lG;rw [List.append_assoc]
  obtain ⟨h1,h2⟩:=rM (BC hlm) (m.flatMap enc++rest) false
  have hc:dU (lG m++rest,false) most=m.length:=by unfold dU;rw [e,h1,if_neg (by omega)]
  have hr:dW (lG m++rest,false) most=(m.flatMap enc++rest,false):=by unfold dW;rw [e,h1,h2,if_neg (by omega)]
  have hn:=RH hm rest false m.length (Nat.le_refl _)
  rw [List.take_length,List.drop_length] at hn
  constructor
  · unfold nV;rw [hc,hr,Int.toNat_natCast,hn];rfl
  · unfold oQ;rw [hc,hr,Int.toNat_natCast,hn];rfl
end Go.Pv
namespace Go.Pv
section plain
variable {α β γ δ:Type}
def bnd (x:α) (f:α->Option β):Option β:=f x
theorem aP {x:α} {f:α->Option β} {r:β} (h:bnd x f=some r):∃ t,x=t/\f t=some r:=⟨x,rfl,h⟩
theorem bJ {x:Option α} {f:α->Option β} {r:β} (h:x.bind f=some r):∃ t,x=some t/\f t=some r:=by
  cases x with
  | none=>cases h
  | some t=>exact ⟨t,rfl,h⟩
def bU (p:Prop) [Decidable p] (k:Option β):Option β:=if p then k else none
theorem cO {p:Prop} [Decidable p] {k:Option β} {r:β} (h:bU p k=some r):p/\k=some r:=by
  unfold bU at h;by_cases hp:p
  · rw [if_pos hp] at h;exact ⟨hp,h⟩
  · rw [if_neg hp] at h;cases h
theorem ct {A B:Option β} {r:Option β} (h:cond true A B=r):A=r:=h
theorem cf {A B:Option β} {r:Option β} (h:cond false A B=r):B=r:=h
def esc (x:Option β):Option (α⊕β):=x.map .inr
theorem gD {x:Option β} {j:α⊕β} (h:esc x=some j):∃ c,x=some c/\j=.inr c:=by
  unfold esc at h
  cases x with
  | none=>cases h
  | some c=>simp at h;exact ⟨c,rfl,h.symm⟩
def brk (a:α):Option (α⊕β):=some (.inl a)
theorem OW {a:α} {j:α⊕β} (h:(brk a:Option (α⊕β))=some j):j=.inl a:=by unfold brk at h;simpa using h.symm
theorem bE {a j:α} (h:some a=some j):a=j:=by simpa using h
def sel (f:α->Option β):α⊕β->Option β
  | .inl a=>f a
  | .inr c=>some c
theorem fZ {f:α->Option β} {c:β} {r:β} (h:sel f (.inr c)=some r):some c=some r:=h
def p2 (f:α->β->γ) (p:α×β):γ:=f p.1 p.2
theorem pG {f:α->β->γ} {a:α} {b:β} {r:γ} (h:p2 f (a,b)=r):f a b=r:=h
def ix (l:List α) (i:Int):Option α:=if i<0 then none else l[i.toNat]?
theorem mY {l:List α} {i:Int} {v:α} (h:ix l i=some v):i=(i.toNat:Int)/\l[i.toNat]?=some v:=by
  unfold ix at h
  by_cases hi:i<0
  · rw [if_pos hi] at h;cases h
  · rw [if_neg hi] at h;exact ⟨by omega,h⟩
theorem kK {l:List α} {i:Int} {v:α} {f:α->β} (h:ix l i=some v):(l.map f)[i.toNat]?=some (f v):=by rw [List.getElem?_map,(mY h).2];rfl
theorem wW {l:List α} {i:Int} {v:α} (h:ix l i=some v):i.toNat<l.length:=(List.getElem?_eq_some_iff.1 (mY h).2).1
end plain
abbrev bM (a:Int):Int:=IntKind.i64.wrap a
def AS.lD (S S':AS):Prop:=∀ s,HR s S.hp->(∀ t x,S'.sl t=some x->∃ y,S.sl t=some y/\∀ v,VR s y v->VR s x v)/\HR s S'.hp/\(∀ b,jX s S'.hp b->jX s S.hp b)
section
variable {P:Program} {n:NT} {S:AS} {Q:Go.Exit->AS->Prop} {f:Nat->Option AV} {H:AH}
theorem SR.lD {s:Sit} {S':AS} {a:Act} (h:SR n s S a) (hl:S.lD S'):SR n s S' a :=
  ⟨h.size,h.defers,λt x hx=>let ⟨_,h1,h2⟩:=(hl s h.heap).1 t x hx;let ⟨v,h3,h4⟩:=h.slot t _ h1;⟨v,h3,h2 v h4⟩,(hl s h.heap).2.1⟩
theorem Fr.SQ {s s1:Sit} {H H' H1:AH} (ho:∀ b,jX s H' b->jX s H b) (hf:Fr s H' s1 H1):Fr s H s1 H1 :=
  ⟨hf.os,hf.tape,hf.output,hf.size,λb hb h=>hf.keep b hb (λh'=>h (ho b h')),hf.jV,λb hb h hi=>hf.jD b hb (λh'=>h (ho b h')) hi,λb hb h=>ho b (hf.own b hb h),hf.vals,hf.lT⟩
theorem aIY {c:Code} {S':AS} (hl:S.lD S') (h:Tr P n c S' Q):Tr P n c S Q:=by
  intro s a hs
  refine kL (h s a (hs.lD hl)) ?_
  rintro e a1 w1 ⟨S1,s1,rfl,hq,hs1,hf1⟩
  exact ⟨S1,s1,rfl,hq,hs1,hf1.SQ (hl s hs.heap).2.2⟩
def y9 (H:AH) (f:Nat->Option AV):List (Nat×AV)->Prop
  | []=>True
  | (t,v) :: r=>(∃ u,f t=some u/\Cv H u v)/\y9 H f r
def uH (H:AH) (ob ob':bA):Prop:=ob'={ ob with rows:=ob'.rows }/\fV H ob.rows ob'.rows
def yA (H:AH):List (Nat×bA)->Prop
  | []=>True
  | (t,v) :: r=>(∃ u,H t=some u/\uH H u v)/\yA H r
theorem uH.refl (ob:bA):uH H ob ob:=⟨rfl,.refl _⟩
theorem y9.le {l:List (Nat×AV)} (h:y9 H f l):∀ t v,kn l t=some v->∃ u,f t=some u/\Cv H u v:=by
  induction l with
  | nil=>intro t v h;cases h
  | cons p r ih =>
    intro t v hv
    obtain ⟨q,u⟩:=p
    simp only [kn] at hv
    by_cases ht:t=q
    · subst ht;rw [upd_same] at hv;cases hv;exact h.1
    · rw [upd_ne _ _ ht] at hv;exact ih h.2 t v hv
theorem yA.le {l:List (Nat×bA)} (h:yA H l):∀ t v,hk l t=some v->∃ u,H t=some u/\uH H u v:=by
  induction l with
  | nil=>intro t v h;cases h
  | cons p r ih =>
    intro t v hv
    obtain ⟨q,u⟩:=p
    simp only [hk] at hv
    by_cases ht:t=q
    · subst ht;rw [upd_same] at hv;cases hv;exact h.1
    · rw [upd_ne _ _ ht] at hv;exact ih h.2 t v hv
theorem uH.len {ob ob':bA} (h:uH H ob ob'):ob.rows.length=ob'.rows.length:=h.2.get.1
theorem uH.body {s:Sit} {ob ob':bA} {m:Mu} (hs:HR s H) (h:uH H ob ob') (hb:(m.nil=true/\ob.rows=[])\/∃ cur fr,sZ s ob m cur fr):(m.nil=true/\ob'.rows=[])\/∃ cur fr,sZ s ob' m cur fr:=by
  obtain ⟨he,hc⟩:=h
  obtain ⟨c1,c2⟩:=hc.get
  rcases hb with ⟨h1,h2⟩ | ⟨cur,fr,hb⟩
  · rw [h2] at c1;exact .inl ⟨h1,List.eq_nil_of_length_eq_zero (by simpa using c1.symm)⟩
  · have e1:ob'.elem=ob.elem:=by rw [he]
    have e2:ob'.sz=ob.sz:=by rw [he]
    have e3:ob'.mt=ob.mt:=by rw [he]
    have e4:ob'.app=ob.app:=by rw [he]
    refine .inr ⟨cur,fr,⟨hb.hnil,by rw [e1];exact hb.hb,hb.hfr,by rw [e4];exact hb.happ,by rw [e2];exact hb.hcs,hb.hct,by rw [<- c1];exact hb.hlen,λi r hi=>?_,λi r j x v hi hj hv=>?_,hb.h1,by rw [e3];exact hb.him,by rw [e3];exact hb.iW⟩⟩
    · obtain ⟨r0,g1,g2⟩:=c2 i r hi
      rw [e2,<- g2.get.1];exact hb.hr i r0 g1
    · obtain ⟨r0,g1,g2⟩:=c2 i r hi
      obtain ⟨x0,g3,g4⟩:=g2.get.2 j x hj
      rw [e2] at hv
      exact g4 s hs v (hb.hv i r0 j x0 v g1 g3 hv)
theorem aHO {g:Nat->Option AV} {H':AH} (h1:∀ t v,g t=some v->∃ u,f t=some u/\Cv H u v) (h2:∀ t v,H' t=some v->∃ u,H t=some u/\uH H u v):AS.lD ⟨f,H⟩ ⟨g,H'⟩:=λs hs =>
  ⟨λt x hx=>let ⟨u,a,b⟩:=h1 t x hx;⟨u,a,b s hs⟩,
   ⟨λid o ho=>by
      obtain ⟨u,a,b⟩:=h2 id o ho
      obtain ⟨m,hm⟩:=hs.obj id u a
      have e1:o.aD=u.aD:=by rw [b.1]
      have e2:o.sz=u.sz:=by rw [b.1]
      exact ⟨m,⟨hm.hm,by rw [e1];exact hm.bK,by rw [e2];exact hm.hsz,by rw [e1];exact hm.hk,b.body hs hm.body⟩⟩,
    λi i' o o' m m' a b=>by
      obtain ⟨u,a1,_⟩:=h2 _ _ a
      obtain ⟨u',b1,_⟩:=h2 _ _ b
      exact hs.jB i i' u u' m m' a1 b1,hs.im,hs.fin⟩,
   λb ⟨id,o,m,h,r⟩=>by
      obtain ⟨u,a1,a2⟩:=h2 _ _ h
      exact ⟨id, u, m, a1, by have : o.mt = u.mt := by rw [a2.1]
                              rw [<- this];exact r.1,r.2⟩⟩
theorem zC {l:List (Nat×AV)} {k:List (Nat×bA)} (h1:y9 H f l) (h2:yA H k):AS.lD ⟨f,H⟩ ⟨kn l,hk k⟩:=aHO h1.le h2.le
theorem VC {c:Code} {ι:Type} (St:ι->AS) (μ:ι->Nat) (i₀:ι) (h₀:S.lD (St i₀))
    (round:∀ i,Tr P n c (St i) (Exit.thn (λS'=>∃ j,μ j<μ i/\S'.lD (St j)) Q)):Tr P n (.loop c) S Q:=by
  refine aIY h₀ ?_
  intro s a hs F hF b kk cs hro hb hr
  have key:∀ k i,μ i=k->∀ s a,SR n s (St i) a->∃ e a' w',(∃ S' s',w'=s'.w/\Q e S'/\SR n s' S' a'/\Fr s (St i).hp s' S'.hp) /\
      ArrivesIn (Machine.fenced P F) P (lone (b.atR a (.code c :: .inLoop c :: kk)) cs s.w) b kk cs e a' w':=by
    intro k
    induction k using Nat.strongRecOn with
    | _ k ih =>
      intro i hi s a hs
      obtain ⟨e,a1,w1,⟨S1,s1,rfl,hq,hs1,hf1⟩,harr⟩:=round i s a hs F hF b (.inLoop c :: kk) cs hro hb hr
      cases e with
      | normal =>
        obtain ⟨j,hj,hle⟩:=hq
        obtain ⟨e2,a2,w2,⟨S2,s2,rfl,hq2,hs2,hf2⟩,harr2⟩:=ih (μ j) (by omega) j rfl s1 a1 (hs1.lD hle)
        exact ⟨e2,a2,s2.w,⟨S2,s2,rfl,hq2,hs2,hf1.trans (hf2.SQ (hle s1 hs1.heap).2.2)⟩,.of_steps (StepsIn.trans harr (.one (hF.fenced _) stepR_inLoop)) harr2⟩
      | exit id=>exact ⟨_,a1,_,⟨S1,s1,rfl,hq,hs1,hf1⟩,.pass (x:=.inLoop c) rfl (λ_ _=>.inl (by simp)) harr⟩
      | goto l=>exact ⟨_,a1,_,⟨S1,s1,rfl,hq,hs1,hf1⟩,.pass (x:=.inLoop c) rfl (λ_ _=>.inl (by simp)) harr⟩
      | ret=>exact ⟨_,a1,_,⟨S1,s1,rfl,hq,hs1,hf1⟩,.pass (x:=.inLoop c) rfl (λ_ _=>.inl (by simp)) harr⟩
      | panic ch=>exact ⟨_,a1,_,⟨S1,s1,rfl,hq,hs1,hf1⟩,.pass (x:=.inLoop c) rfl (λ_ _=>.inl (by simp)) harr⟩
      | outgrown=>exact ⟨_,a1,_,⟨S1,s1,rfl,hq,hs1,hf1⟩,.pass (x:=.inLoop c) rfl (λ_ _=>.inl (by simp)) harr⟩
  obtain ⟨e,a',w',hq,harr⟩:=key _ i₀ rfl s a hs
  exact ⟨e,a',w',hq,.of_steps (.one (hF.fenced _) stepR_loop) harr⟩
theorem Tr.EP {c:Code} {Q':Go.Exit->AS->Prop} (h:Tr P n c S Q') (hq:∀ e S',Q' e S'->∃ S'',S'.lD S''/\Q e S''):Tr P n c S Q:=by
  intro s a hs
  refine kL (h s a hs) ?_
  rintro e a1 w1 ⟨S1,s1,rfl,hq1,hs1,hf1⟩
  obtain ⟨S2,hl,hq2⟩:=hq e S1 hq1
  have h2:=(hl s1 hs1.heap).2.2
  exact ⟨S2,s1,rfl,hq2,hs1.lD hl,⟨hf1.os,hf1.tape,hf1.output,hf1.size,hf1.keep,hf1.jV,hf1.jD,λb hb ho=>hf1.own b hb (h2 b ho),hf1.vals,hf1.lT⟩⟩
variable {o:Oper} {T:TypeId} {x y:Operand} {α:Type}
theorem oG {e:TypeId} {sz:Nat} {b:Bool} {g:α->List AV} {l:List α} {k:IntKind} {i:Int} {v:α} (ho:o.op=.indexAddr T x y) (hT:P.underlying T=some (.slice e)) (he:dY P e=some (sz,b))
    (hx:S.ev x=some (aG sz g l)) (hy:S.ev y=some (.sc (.int k i))) (h:ix l i=some v):bP P o S (.pp (g v)) :=
  dV ho hT he hx hy (mY h).1 (.list (kK h))
end
@[reducible] def fI (n:Int):List AV:=[int n]
@[reducible] def fB (b:Bool):List AV:=[aB b]
@[reducible] def fS (s:List UInt8):List AV:=[str s]
@[reducible] def fK (k:IntKind) (n:Int):List AV:=[.sc (.int k n)]
@[reducible] def fL {α:Type} (sz:Nat) (g:α->List AV) (l:List α):List AV:=[aG sz g l]
theorem CF {a:AV} (h:PV a):∀ x∈[a],PV x:=by intro x hx;simp at hx;subst hx;exact h
theorem qI (n:Int):PV (int n):=.sc _
theorem qD (b:Bool):PV (aB b):=.sc _
theorem yI (s:List UInt8):PV (str s):=.sc _
theorem M4 (k:IntKind) (n:Int):PV (.sc (.int k n)):=.sc _
theorem rG {α:Type} {sz:Nat} {g:α->List AV} (h:∀ a,∀ x∈g a,PV x) (l:List α):PV (aG sz g l):=WA l λa _=>h a
theorem yD (n:Int):∀ x∈fI n,PV x:=CF (qI n)
theorem UF (b:Bool):∀ x∈fB b,PV x:=CF (qD b)
theorem XI (s:List UInt8):∀ x∈fS s,PV x:=CF (yI s)
theorem XY (k:IntKind) (n:Int):∀ x∈fK k n,PV x:=CF (M4 k n)
theorem XV {α:Type} {sz:Nat} {g:α->List AV} (h:∀ a,∀ x∈g a,PV x) (l:List α):∀ x∈fL sz g l,PV x:=CF (rG h l)
theorem nQ {α:Type} {l:List α} {i:Int} {v:α} {f:α->List AV} {c:List AV} (h:ix l i=some v) (e:f v=c):(l.map f)[i.toNat]?=some c:=by rw [kK h,e]
theorem BH {a b:AV} (ha:PV a) (hb:PV b):∀ x∈[a,b],PV x:=by intro x hx;simp at hx;rcases hx with rfl | rfl <;> assumption
theorem WN:∀ x∈([]:List AV),PV x:=by intro x hx;cases hx
inductive Flat:AV->Prop
  | sc (v:Value):Flat (.sc v)
  | agg {cs:List AV} (h:∀ x∈cs,Flat x):Flat (.agg cs)
  | aS {cs:List AV} (h:∀ x∈cs,Flat x):Flat (.aS cs)
def oK:AV->Bool
  | .sc _=>true
  | .agg cs=>flatL cs
  | .aS cs=>flatL cs
  | _=>false
where flatL:List AV->Bool
  | []=>true
  | x :: r=>oK x && flatL r
mutual
theorem O0:∀ (x:AV),oK x=true->Flat x
  | .sc v,_=>.sc v
  | .agg cs,h=>.agg (JR cs (by unfold oK at h;exact h))
  | .aS cs,h=>.aS (JR cs (by unfold oK at h;exact h))
  | .list _ _,h=>by unfold oK at h;cases h
  | .pp _,h=>by unfold oK at h;cases h
  | .pt _ _ _ _,h=>by unfold oK at h;cases h
  | .sl _ _ _ _,h=>by unfold oK at h;cases h
  | .fn _ _ _,h=>by unfold oK at h;cases h
  | .gQ _ _,h=>by unfold oK at h;cases h
  | .mp _ _,h=>by unfold oK at h;cases h
theorem JR:∀ (l:List AV),oK.flatL l=true->∀ x∈l,Flat x
  | [],_,x,hx=>by cases hx
  | y :: r,h,x,hx=>by
    unfold oK.flatL at h
    simp only [Bool.and_eq_true] at h
    rcases List.mem_cons.1 hx with e | hx
    · rw [e];exact O0 y h.1
    · exact JR r h.2 x hx
end
theorem Flat.vr {s s':Sit} {x:AV} {v:Value} (h:VR s x v) (hf:Flat x):VR s' x v:=by
  induction h with
  | sc v=>exact .sc v
  | agg hl _ ih=>cases hf with | agg hf=>exact .agg hl λi x v h1 h2=>ih i x v h1 h2 (hf x (List.mem_of_getElem? h1))
  | aS hl _ ih=>cases hf with | aS hf=>exact .aS hl λi x v h1 h2=>ih i x v h1 h2 (hf x (List.mem_of_getElem? h1))
  | _=>cases hf
section
variable {P:Program} {n:NT} {S:AS} {o:Oper} {T:TypeId} {x y:Operand}
theorem VF {fo:Operand} {as:List Operand} {ts:Array TypeId} {k:FuncId} {first cap vs args:List AV} {v:AV} (ho:o.op=.call { callee:=.value fo,args:=as.toArray,argTypes:=ts })
    (hf:S.ev fo=some (.fn (.func k) first cap)) (ha:EvL S as vs) (hc:aU P k=true) (hcv:bO (iN S.hp) (first++vs++cap) args) (hp:PP P k args (λy=>y=v)) (hfl:oK v=true):bP P o S v:=by
  intro s a next Q hH hops _ hn
  obtain ⟨us,h1,h2⟩:=B4 (P:=P) ho hf ha hc hops
  unfold Oper.wp
  rw [h2]
  have hz:=KU hH
  have h1':mD (wL s S.hp) (first++vs++cap) us:=⟨h1.1,λi x v a b=>G5 (h1.2 i x v a b)⟩
  have hp':=hp (wL s S.hp) us hz.im hz.fin (hcv.all hz h1')
  refine hp'.mono ?_
  rintro e w' ⟨y,s',v',rfl,q2,rfl,rfl,q4,q5,q6⟩
  let s2:Sit:={ w:=s'.w,Im:=s.Im,mu:=s.mu,used:=s.used }
  have hno:∀ b,¬ jX (wL s S.hp) H0 b:=λb ⟨_,_,_,h,_⟩=>(by cases h)
  have hold:∀ b,b<s.w.heap.size->s'.w.heap[b]?=s.w.heap[b]?:=λb hb=>q6.keep b hb (hno b)
  have hmono:∀ x v,VR s x v->VR s2 x v:=λx v h=>VR.mono (s:=s) (s':=s2) (λb hi=>⟨hi,hold b (hH.im b hi)⟩) (λ_ _ h=>.inl h) (λ_ h=>h) h
  have hsize:s.w.heap.size<=s'.w.heap.size:=q6.size
  refine hn s2 v' _ S.hp ⟨rfl,rfl⟩ (Flat.vr q4 (O0 _ hfl)) ⟨λid ob hob=>?_,hH.jB,λb hb=>Nat.lt_of_lt_of_le (hH.im b hb) hsize,hH.fin⟩
    ⟨q6.os,q6.tape,q6.output,hsize,λb hb _=>hold b hb,λ_ h=>h,λb hb _ hi=>hi,λb _ h=>h,hmono,λ_ h=>h⟩ (λ_ h=>.inl h)
  obtain ⟨m,hm⟩:=hH.obj id ob hob
  refine ⟨m,⟨hm.hm,hm.bK,hm.hsz,hm.hk,?_⟩⟩
  rcases hm.body with hb | ⟨cur,fr,hb⟩
  · exact .inl hb
  · have hlt:m.b<s.w.heap.size:=(Array.getElem?_eq_some_iff.1 hb.hb).1
    exact .inr ⟨cur,fr,⟨hb.hnil,(hold m.b hlt).trans hb.hb,hb.hfr,hb.happ,hb.hcs,hb.hct,hb.hlen,hb.hr,λi r j x v a b c=>hmono _ _ (hb.hv i r j x v a b c),hb.h1,hb.him,hb.iW⟩⟩
theorem gM {F U:Nat->Prop} {id:Nat} {z0:AV} {ob ob':bA} (h:bZ P o S F U (λz H'=>z=z0/\H'=upd S.hp id (some ob))) (e:ob=ob'):bZ P o S F U (λz H'=>z=z0/\H'=upd S.hp id (some ob')):=e ▸ h
def GC (P:Program) (T:TypeId) (f:Nat):Option (Nat×Nat) :=
  match P.underlying T with
  | some (.struct fs)=>(fs[f]?).map λfl=>(fl.offset,fl.type)
  | _=>none
end
end Go.Pv
