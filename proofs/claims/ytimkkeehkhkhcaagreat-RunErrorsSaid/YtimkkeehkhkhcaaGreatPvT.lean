import Derived.Test.YtimkkeehkhkhcaaGreatPvN
import Derived.WalkKit
import Derived.ProofKit
import Derived.OpenShut
import Derived.ShutString
import Derived.ChangeOld
import Derived.Below
import Derived.Lib.ConvBytes
set_option linter.unusedVariables false
set_option linter.unusedSimpArgs false
namespace Go.Pv
theorem AB {P:Program} {t:TypeId} {k:Nat} (h:((P.info? t).map (·.size))=some k):∃ j,P.info? t=some j/\j.size=k:=by
  cases hj:P.info? t with
  | none=>rw [hj] at h;cases h
  | some j=>rw [hj] at h;exact ⟨j,rfl,by simpa using h⟩
section
variable {P:Program} {n:NT} {S:AS} {o:Oper} {T:TypeId} {x y:Operand}
theorem LZ {src t:TypeId} {k:Nat} {id aD:Nat} {ob:aW} {r:List AV} (ho:o.op=.convert src T x) (hs:P.underlying src=some (.pointer t)) (hT:P.underlying T=some .unsafePointer) (hj:((P.info? t).map (·.size))=some (k+1))
    (hx:S.ev x=some (.pt id aD 0 0)) (hob:S.hp id=some ob) (bP:ob.aD=aD) (hr:ob.rows=[r]) (hsz:0<ob.sz):bS P o S (.pt id aD 0 0):=by
  obtain ⟨j,h1,h2⟩:=AB hj
  exact aKW ho hs hT h1 (by omega) hx hob bP hr hsz
theorem O5 {Ty e:TypeId} {k:Nat} {id aD row off:Nat} {ob:aW} (ho:o.op=.binOp .neq T x y Ty) (hT:P.underlying T=some (.pointer e)) (hj:((P.info? e).map (·.size))=some k) (hx:S.ev x=some (.pt id aD row off)) (hy:S.ev y=some (.pt id aD row off))
    (hob:S.hp id=some ob) (bP:ob.aD=aD) (hne:ob.rows≠[]):bS P o S (.sc (.bool false)):=by
  obtain ⟨j,h1,h2⟩:=AB hj
  exact aME ho hT h1 hx hy hob bP hne
theorem TX {src u e:TypeId} {k:Nat} {id aD:Nat} {ob:aW} {r:List AV} (ho:o.op=.convert src T x) (hs:P.underlying src=some .unsafePointer) (hT:P.underlying T=some (.pointer u)) (hj:((P.info? u).map (·.size))=some k)
    (hx:S.ev x=some (.pt id aD 0 0)) (hob:S.hp id=some ob) (bP:ob.aD=aD) (hr:ob.rows=[r]) (hel:ob.elem=e) (hlies:∀ c,liesAt P P.depth e c 0 u 1=true\/c=0) (hc:P.cellsOf e=ob.sz) (hsz:0<ob.sz):bS P o S (.pt id aD 0 0):=by
  obtain ⟨j,h1,h2⟩:=AB hj
  exact aBG ho hs hT h1 hx hob bP hr hel hlies hc hsz
end
theorem aC6 {P:Program} {e:TypeId} {k:Nat} (hc:P.cellsOf e=k+1):∀ c,liesAt P P.depth e c 0 e 1=true\/c=0:=by
  intro c
  by_cases h:c=0
  · exact .inr h
  · refine .inl ?_
    have hd:P.depth=(2*(P.types.size+Made.depth)+1)+1:=rfl
    rw [hd]
    simp only [liesAt,Bool.or_eq_true]
    left
    rw [hd]
    have h1:1<=c:=by omega
    simp [rowAt,hc,h1,sameLayout]
@[reducible] def lZ (T id aD:Nat) (ib:Nat):Option (Nat×List UInt8)->aW
  | none=>⟨T,2,true,true,aD,[[.sc (.pointer none),.sc (.slice none 0 0)]]⟩
  | some (vb,l)=>⟨T,2,true,true,aD,[[.pt id aD 0 0,.sl ib vb 0 l.length]]⟩
@[reducible] def dV (u8 vb:Nat) (l:List UInt8):aW:=⟨u8,1,true,true,vb,bN l⟩
theorem MV (a b:List UInt8):bN (a++b)=bN a++bN b:=by simp [bN]
theorem yV (a:List UInt8):(bN a).length=a.length:=by simp [bN]
theorem qT {α:Type} (f:Nat->Option α) (t i:Nat) (v:Option α):upd f t v i=if i=t then v else f i:=by
  by_cases h:i=t
  · subst h;rw [upd_same,if_pos rfl]
  · rw [upd_ne _ _ h,if_neg h]
def held:Option (Nat×List UInt8)->List UInt8 | none=>[] | some (_,l)=>l
@[reducible] def bH (T u8:Nat) (H:AH) (id aD ib:Nat):Option (Nat×List UInt8)->AH
  | none=>upd H id (some (lZ T id aD ib none))
  | some (vb,l)=>upd (upd H ib (some (dV u8 vb l))) id (some (lZ T id aD ib (some (vb,l))))
def lC:Nat->Nat->List UInt8
  | 0,u=>[UInt8.ofNat u]
  | f+1,u=>if u<128 then [UInt8.ofNat u] else UInt8.ofNat (u % 128+128) :: lC f (u / 128)
def enc (v:Int):List UInt8:=lC 10 (zz v)
theorem FR (f:Nat) {u:Nat} (h:u<128):lC f u=[UInt8.ofNat u]:=by
  cases f with
  | zero=>rfl
  | succ f=>simp only [lC];rw [if_pos h]
theorem GN (f:Nat) {u:Nat} (h:128<=u):lC (f+1) u=UInt8.ofNat (u % 128+128) :: lC f (u / 128):=by
  simp only [lC];rw [if_neg (by omega)]
theorem wH:∀ (f u:Nat),(lC f u).length<=f+1
  | 0,_=>Nat.le_refl _
  | f+1,u=>by simp only [lC];split <;> simp;exact wH f (u / 128)
theorem PM:∀ (f u:Nat),lC f u≠[]
  | 0,_=>by simp [lC]
  | f+1,u=>by simp only [lC];split <;> simp
def kM (v:Int):Prop:=-9223372036854775808<=v/\v<=9223372036854775807
instance (v:Int):Decidable (kM v):=inferInstanceAs (Decidable (_/\_))
theorem I7 {v:Int} (h:kM v):zz v<18446744073709551616:=by unfold zz;unfold kM at h;split <;> omega
def tw (v:Int):Nat:=if v<0 then (2*v+18446744073709551616).toNat else (2*v).toNat
theorem aIX {v:Int} (h:kM v):tw v<18446744073709551616:=by unfold tw;unfold kM at h;split <;> omega
theorem xK (a:Int):IntKind.u64.wrap a=a % 18446744073709551616:=by
  simp only [IntKind.wrap,IntKind.bits,IntKind.signed];simp
theorem aH1 (a:Int):IntKind.u8.wrap a=a % 256:=by
  simp only [IntKind.wrap,IntKind.bits,IntKind.signed];simp
def vN (v:Int):Nat:=if v<0 then (v+18446744073709551616).toNat else v.toNat
theorem TY {v:Int} (h:kM v):IntKind.u64.wrap v=(vN v:Nat):=by
  rw [xK];unfold vN;unfold kM at h;split <;> omega
theorem OI {v:Int} (h:kM v):IntKind.u64.wrap ((vN v:Nat)*2 ^ (min (1:Int).toNat IntKind.u64.bits))=(tw v:Nat):=by
  show IntKind.u64.wrap ((vN v:Nat)*2)=_
  rw [xK];unfold vN tw;unfold kM at h;split <;> omega
def sg (v:Int):Int:=if v<0 then -1 else 0
theorem aCF {v:Int} (h:kM v):v.fdiv (2 ^ (min (63:Int).toNat IntKind.i64.bits))=sg v:=by
  show v.fdiv 9223372036854775808=_
  rw [Int.fdiv_eq_ediv_of_nonneg _ (by omega)];unfold sg;unfold kM at h;split <;> omega
def nT (v:Int):Nat:=if v<0 then 18446744073709551615 else 0
theorem ZB (v:Int):IntKind.u64.wrap (sg v)=(nT v:Nat):=by
  rw [xK];unfold sg nT;split <;> rfl
theorem UA {v:Int} (h:kM v):IntKind.u64.wrap ((BitVec.ofInt IntKind.u64.bits (tw v:Nat) ^^^ BitVec.ofInt IntKind.u64.bits (nT v:Nat)).toNat:Int)=(zz v:Nat):=by
  have ht:=aIX h
  by_cases hv:v<0
  · have e:(BitVec.ofInt IntKind.u64.bits (tw v:Nat) ^^^ BitVec.ofInt IntKind.u64.bits (nT v:Nat)).toNat=18446744073709551615-tw v:=by
      show (BitVec.ofInt 64 ((tw v:Nat):Int) ^^^ BitVec.ofInt 64 ((nT v:Nat):Int)).toNat=_
      have h1:BitVec.ofInt 64 ((nT v:Nat):Int)=BitVec.allOnes 64:=by unfold nT;rw [if_pos hv];rfl
      rw [h1,BitVec.xor_allOnes,BitVec.toNat_not,BitVec.toNat_ofInt]
      omega
    rw [e,xK];unfold tw zz;unfold kM at h;rw [if_pos hv,if_pos hv];omega
  · have e:(BitVec.ofInt IntKind.u64.bits (tw v:Nat) ^^^ BitVec.ofInt IntKind.u64.bits (nT v:Nat)).toNat=tw v:=by
      show (BitVec.ofInt 64 ((tw v:Nat):Int) ^^^ BitVec.ofInt 64 ((nT v:Nat):Int)).toNat=_
      have h1:BitVec.ofInt 64 ((nT v:Nat):Int)=0#64:=by unfold nT;rw [if_neg hv];rfl
      rw [h1,BitVec.xor_zero,BitVec.toNat_ofInt]
      omega
    rw [e,xK];unfold tw zz;unfold kM at h;rw [if_neg hv,if_neg hv];omega
theorem aDZ (n:Nat):((UInt8.ofNat n).toNat:Int)=((n:Nat):Int) % 256:=by
  simp
theorem wO (n:Nat):IntKind.u8.wrap ((n:Nat):Int)=((UInt8.ofNat n).toNat:Int):=by rw [aDZ,aH1]
theorem FF {u:Nat}:((u:Int)).fdiv (2 ^ (min (7:Int).toNat IntKind.u64.bits))=((u / 128:Nat):Int):=by
  show ((u:Int)).fdiv 128=_
  rw [Int.fdiv_eq_ediv_of_nonneg _ (by omega)];rfl
def sM (l:List Int):List UInt8:=enc l.length++l.flatMap enc
theorem AQ (v:Int):(enc v).length<=11:=wH 10 (zz v)
theorem aBI (v:Int):enc v≠[]:=PM 10 (zz v)
theorem L9:∀ l:List Int,(l.flatMap enc).length<=11*l.length
  | []=>Nat.le_refl _
  | v :: l=>by have h1:=L9 l;have h2:=AQ v;simp only [List.flatMap_cons,List.length_append,List.length_cons];omega
theorem aF3 (l:List Int):(sM l).length<=11*l.length+11:=by
  have h1:=L9 l;have h2:=AQ l.length;unfold sM;rw [List.length_append];omega
theorem U8 (l:List Int):sM l≠[]:=by unfold sM;intro h;exact aBI _ (List.append_eq_nil_iff.1 h).1
theorem aGO {n:Nat} (h:n<=9223372036854775807):kM n:=⟨by omega,by omega⟩
theorem aH2 {l:List Int} {k:Nat} (h:k<l.length):(l.drop k).flatMap enc=enc l[k]++(l.drop (k+1)).flatMap enc:=by
  rw [List.drop_eq_getElem_cons h,List.flatMap_cons]
inductive Has:AV->Nat->Prop
  | pt {id aD row off:Nat}:Has (.pt id aD row off) aD
  | sl {id aD off len:Nat}:Has (.sl id aD off len) aD
  | list {sz k:Nat} {xs:List (List AV)} {i j:Nat} {r:List AV} {x:AV} (h1:xs[i]?=some r) (h2:r[j]?=some x) (h:Has x k):Has (.list sz xs) k
  | pp {cs:List AV} {i k:Nat} {x:AV} (h1:cs[i]?=some x) (h:Has x k):Has (.pp cs) k
  | agg {cs:List AV} {i k:Nat} {x:AV} (h1:cs[i]?=some x) (h:Has x k):Has (.agg cs) k
  | GI {f:Fn} {a c:List AV} {i k:Nat} {x:AV} (h1:a[i]?=some x) (h:Has x k):Has (.fn f a c) k
  | H6 {f:Fn} {a c:List AV} {i k:Nat} {x:AV} (h1:c[i]?=some x) (h:Has x k):Has (.fn f a c) k
  | iG {t:TypeId} {k:Nat} {x:AV} (h:Has x k):Has (.iG t x) k
  | aM {cs:List AV} {i k:Nat} {x:AV} (h1:cs[i]?=some x) (h:Has x k):Has (.aM cs) k
  | mp {ks:List Int} {cs:List AV} {i k:Nat} {x:AV} (h1:cs[i]?=some x) (h:Has x k):Has (.mp ks cs) k
theorem AT {α:Type} {l:Array α} {n i:Nat} (h:n=l.size) (hi:i<n):∃ v,l[i]?=some v:=⟨l[i]'(by omega),Array.getElem?_eq_getElem (by omega)⟩
theorem xO {α:Type} {l:List α} {i:Nat} {x:α} (h:l[i]?=some x):i<l.length:=(List.getElem?_eq_some_iff.1 h).1
theorem VR.has {s:Sit} {x:AV} {v:Value} (h:VR s x v):∀ k,Has x k->s.used k:=by
  induction h with
  | sc v=>intro k h;cases h
  | nil sz=>intro k h;cases h with | list h1 _ _=>simp at h1
  | emp sz a=>intro k h;cases h with | list h1 _ _=>simp at h1
  | list f hI hc hm hr hf _ ih=>intro k h;cases h with | list h1 h2 h=>exact ih _ _ _ _ h1 h2 k h
  | pp f hI hf _ ih=>intro k h;cases h with | pp h1 h=>exact ih _ _ h1 k h
  | pt hk h1 h=>intro k h;cases h;exact hk
  | sl hk h1 h=>intro k h;cases h;exact hk
  | agg hl _ ih=>intro k h;cases h with | agg h1 h=>obtain ⟨v,hv⟩:=AT hl (xO h1);exact ih _ _ v h1 hv k h
  | fn hl hl' _ _ ih ih' =>
    intro k h
    cases h with
    | GI h1 h=>obtain ⟨v,hv⟩:=AT hl (xO h1);exact ih _ _ v h1 hv k h
    | H6 h1 h=>obtain ⟨v,hv⟩:=AT hl' (xO h1);exact ih' _ _ v h1 hv k h
  | iG _ ih=>intro k h;cases h with | iG h=>exact ih k h
  | aM hl _ ih=>intro k h;cases h with | aM h1 h=>obtain ⟨v,hv⟩:=AT hl (xO h1);exact ih _ _ v h1 hv k h
  | mp hI' hb hk hl _ ih=>intro k h;cases h with | mp h1 h=>exact ih _ _ _ h1 (List.getElem?_eq_getElem (by have:=xO h1;omega)) k h
theorem VR.less {s s2:Sit} (hw:s2.w=s.w) (hI:s2.Im=s.Im) (hm:s2.mu=s.mu) {x:AV} {v:Value} (h:VR s x v):(∀ k,Has x k->s2.used k)->VR s2 x v:=by
  induction h with
  | sc v=>intro _;exact .sc v
  | nil sz=>intro _;exact .nil sz
  | emp sz a=>intro _;exact .emp sz a
  | list f hI' hc hm' hr hf _ ih=>intro hk;exact .list f (by rw [hI];exact hI') hc hm' hr (λi r j x a b=>by rw [hw];exact hf i r j x a b) (λi r j x a b=>ih i r j x a b λk hh=>hk k (.list a b hh))
  | pp f hI' hf _ ih=>intro hk;exact .pp f (by rw [hI];exact hI') (λj x a=>by rw [hw];exact hf j x a) (λj x a=>ih j x a λk hh=>hk k (.pp a hh))
  | pt hk' h1 h=>intro hk;exact .pt (hk _ .pt) h1 (λm a=>h m (hm ▸ a))
  | sl hk' h1 h=>intro hk;exact .sl (hk _ .sl) h1 (λm a=>h m (hm ▸ a))
  | agg hl _ ih=>intro hk;exact .agg hl λi x v a b=>ih i x v a b λk hh=>hk k (.agg a hh)
  | fn hl hl' _ _ ih ih'=>intro hk;exact .fn hl hl' (λi x v a b=>ih i x v a b λk hh=>hk k (.GI a hh)) (λi x v a b=>ih' i x v a b λk hh=>hk k (.H6 a hh))
  | iG _ ih=>intro hk;exact .iG (ih λk hh=>hk k (.iG hh))
  | aM hl _ ih=>intro hk;exact .aM hl λi x v a b=>ih i x v a b λk hh=>hk k (.aM a hh)
  | mp hI' hb hk0 hl _ ih=>intro hk;exact .mp (by rw [hI];exact hI') (by rw [hw];exact hb) hk0 hl λi x v a b=>ih i x v a b λk hh=>hk k (.mp a hh)
theorem PV.has {x:AV} (h:PV x):∀ k,¬ Has x k:=by
  induction h with
  | sc v=>intro k h;cases h
  | list _ ih=>intro k h;cases h with | list h1 h2 h=>exact ih _ (List.mem_of_getElem? h1) _ (List.mem_of_getElem? h2) k h
  | pp _ ih=>intro k h;cases h with | pp h1 h=>exact ih _ (List.mem_of_getElem? h1) k h
  | agg _ ih=>intro k h;cases h with | agg h1 h=>exact ih _ (List.mem_of_getElem? h1) k h
  | fn _ _ ih ih' =>
    intro k h
    cases h with
    | GI h1 h=>exact ih _ (List.mem_of_getElem? h1) k h
    | H6 h1 h=>exact ih' _ (List.mem_of_getElem? h1) k h
  | iG _ ih=>intro k h;cases h with | iG h=>exact ih k h
  | aM _ ih=>intro k h;cases h with | aM h1 h=>exact ih _ (List.mem_of_getElem? h1) k h
  | mp _ ih=>intro k h;cases h with | mp h1 h=>exact ih _ (List.mem_of_getElem? h1) k h
theorem kL {P:Program} {S:AS} {o:Oper} {fo:Operand} {as:List Operand} {ts:Array TypeId} {k:FuncId} {first cap vs:List AV} {y0:AV} (ho:o.op=.call { callee:=.value fo,args:=as.toArray,argTypes:=ts })
    (hf:S.ev fo=some (.fn (.func k) first cap)) (ha:EvL S as vs) (hc:bD P k=true) (hp:PC P k (first++vs++cap) S.hp (λy H'=>y=y0/\H'=S.hp)) (hy:PV y0):bS P o S y0:=by
  intro s a next Q hH hops _ hn
  obtain ⟨us,h1,h2⟩:=y5 (P:=P) ho hf ha hc hops
  unfold Oper.wp
  rw [h2]
  refine (hp s us hH h1).mono ?_
  rintro e w' ⟨y,H',s',v,⟨rfl,rfl⟩,rfl,rfl,q4,q5,q6⟩
  let s2:Sit:={ w:=s'.w,Im:=s'.Im,mu:=s'.mu,used:=s.used }
  have hless:∀ x u,VR s' x u->(∀ k,Has x k->s.used k)->VR s2 x u:=λx u h hk=>VR.less (s:=s') (s2:=s2) rfl rfl rfl h hk
  refine hn s2 v _ S.hp ⟨rfl,rfl⟩ (hless _ _ q4 λk h=>absurd h (hy.has k)) ⟨λid ob hob=>?_,q5.jQ,q5.im,hH.fin⟩
    ⟨q6.os,q6.tape,q6.output,q6.size,q6.keep,q6.j5,q6.j4,q6.own,λx u h=>hless x u (q6.vals x u h) h.has,λ_ h=>h⟩ (λ_ h=>.inl h)
  obtain ⟨m0,hm0⟩:=hH.obj id ob hob
  obtain ⟨m,hm⟩:=q5.obj id ob hob
  refine ⟨m,⟨hm.hm,hm.bP,hm.hsz,hm0.hk,?_⟩⟩
  rcases hm.body with hb | ⟨cur,fr,hb⟩
  · exact .inl hb
  · refine .inr ⟨cur,fr,⟨hb.hnil,hb.hb,hb.hfr,hb.happ,hb.hcs,hb.hct,hb.hlen,hb.hr,λi r j x u a b c=>hless x u (hb.hv i r j x u a b c) ?_,hb.h1,hb.him,hb.jI⟩⟩
    rcases hm0.body with hb0 | ⟨cur0,fr0,hb0⟩
    · rw [hb0.2] at a;simp at a
    · obtain ⟨u0,_,g2⟩:=hb0.rd a j x b
      exact g2.has
theorem JN {P:Program} {S:AS} {o:Oper} {fo:Operand} {as:List Operand} {ts:Array TypeId} {k:FuncId} {first cap vs:List AV} {y0:AV} {id:Nat} {ob ob':aW} (ho:o.op=.call { callee:=.value fo,args:=as.toArray,argTypes:=ts })
    (hf:S.ev fo=some (.fn (.func k) first cap)) (ha:EvL S as vs) (hc:bD P k=true) (hp:PC P k (first++vs++cap) S.hp (λy H'=>y=y0/\H'=upd S.hp id (some ob'))) (hy:PV y0)
    (hob:S.hp id=some ob) (bP:ob'.aD=ob.aD) (hpv:∀ (i:Nat) (r:List AV) (j:Nat) (x:AV),ob'.rows[i]?=some r->r[j]?=some x->PV x):bW P o S no no (λy H'=>y=y0/\H'=upd S.hp id (some ob')):=by
  intro s a next Q hH hops _ hn
  obtain ⟨us,h1,h2⟩:=y5 (P:=P) ho hf ha hc hops
  unfold Oper.wp
  rw [h2]
  refine (hp s us hH h1).mono ?_
  rintro e w' ⟨y,H',s',v,⟨rfl,rfl⟩,rfl,rfl,q4,q5,q6⟩
  let s2:Sit:={ w:=s'.w,Im:=s'.Im,mu:=s'.mu,used:=s.used }
  have hless:∀ x u,VR s' x u->(∀ k,Has x k->s.used k)->VR s2 x u:=λx u h hk=>VR.less (s:=s') (s2:=s2) rfl rfl rfl h hk
  refine hn s2 v _ _ ⟨rfl,rfl⟩ (hless _ _ q4 λk h=>absurd h (hy.has k)) ⟨λi oi hoi=>?_,q5.jQ,q5.im,hH.fin⟩
    ⟨q6.os,q6.tape,q6.output,q6.size,q6.keep,q6.j5,q6.j4,q6.own,λx u h=>hless x u (q6.vals x u h) h.has,λ_ h=>h⟩ (λ_ h=>.inl h)
  obtain ⟨m,hm⟩:=q5.obj i oi hoi
  by_cases hi:i=id
  · subst hi
    rw [upd_same] at hoi;cases hoi
    obtain ⟨m0,hm0⟩:=hH.obj i ob hob
    refine ⟨m,⟨hm.hm,hm.bP,hm.hsz,by rw [bP];exact hm0.hk,?_⟩⟩
    rcases hm.body with hb | ⟨cur,fr,hb⟩
    · exact .inl hb
    · exact .inr ⟨cur,fr,⟨hb.hnil,hb.hb,hb.hfr,hb.happ,hb.hcs,hb.hct,hb.hlen,hb.hr,λi r j x u a b c=>hless x u (hb.hv i r j x u a b c) λk h=>absurd h ((hpv i r j x a b).has k),hb.h1,hb.him,hb.jI⟩⟩
  · rw [upd_ne _ _ hi] at hoi
    obtain ⟨m0,hm0⟩:=hH.obj i oi hoi
    refine ⟨m,⟨hm.hm,hm.bP,hm.hsz,hm0.hk,?_⟩⟩
    rcases hm.body with hb | ⟨cur,fr,hb⟩
    · exact .inl hb
    · refine .inr ⟨cur,fr,⟨hb.hnil,hb.hb,hb.hfr,hb.happ,hb.hcs,hb.hct,hb.hlen,hb.hr,λi r j x u a b c=>hless x u (hb.hv i r j x u a b c) ?_,hb.h1,hb.him,hb.jI⟩⟩
      rcases hm0.body with hb0 | ⟨cur0,fr0,hb0⟩
      · rw [hb0.2] at a;simp at a
      · obtain ⟨u0,_,g2⟩:=hb0.rd a j x b
        exact g2.has
theorem FV {T aD:Nat} {s:RS}:∀ (i:Nat) (r:List AV) (j:Nat) (x:AV),(cK T aD s).rows[i]?=some r->r[j]?=some x->PV x:=by
  intro i r j x h1 h2
  rcases i with _ | i
  · simp at h1;subst h1
    rcases j with _ | j
    · simp at h2;subst h2;exact .sc _
    · rcases j with _ | j
      · simp at h2;subst h2;exact .sc _
      · simp at h2
  · simp at h1
theorem aN {P:Program} {S:AS} {o:Oper} {x y:AV} (h:bS P o S x) (e:x=y):bS P o S y:=e ▸ h
theorem aF0 {P:Program} {S:AS} {o:Oper} {T:TypeId} {x:Operand} {k:IntKind} {a r:Int} (ho:o.op=.unOp .xor T x) (hx:S.ev x=some (.sc (.int k a)))
    (hr:k.wrap ((BitVec.ofInt k.bits (if k.signed then -1 else k.max) ^^^ BitVec.ofInt k.bits a).toNat:Int)=r):bS P o S (.sc (.int k r)) :=
  vU hx (by simp [ho,Op.operands]) fun ρ w h1=>by subst hr;simp [execOp,ho,h1,Op.unary,Op.intBits]
theorem aEX {v:Int} (h:kM v) (hv:v<0):IntKind.u64.wrap ((BitVec.ofInt IntKind.u64.bits (if IntKind.u64.signed then -1 else IntKind.u64.max) ^^^ BitVec.ofInt IntKind.u64.bits (tw v:Nat)).toNat:Int)=(zz v:Nat):=by
  have:=UA h
  rw [BitVec.xor_comm] at this
  have e:(nT v:Int)=if IntKind.u64.signed then -1 else IntKind.u64.max:=by unfold nT;rw [if_pos hv];decide
  rw [e] at this;exact this
theorem aJ7 {v:Int} (hv:¬ v<0):tw v=zz v:=by unfold tw zz;rw [if_neg hv,if_neg hv]
theorem aJD:∀ c:Nat,c<256->c ||| 128=c % 128+128:=by decide +kernel
theorem NC (u:Nat):IntKind.u8.wrap ((BitVec.ofInt IntKind.u8.bits ((UInt8.ofNat u).toNat:Nat) ||| BitVec.ofInt IntKind.u8.bits 128).toNat:Int)=((UInt8.ofNat (u % 128+128)).toNat:Nat):=by
  have h1:(UInt8.ofNat u).toNat=u % 256:=by simp
  have h2:(UInt8.ofNat (u % 128+128)).toNat=u % 128+128:=by simp;omega
  rw [h1,h2]
  have e:(BitVec.ofInt IntKind.u8.bits ((u % 256:Nat):Int) ||| BitVec.ofInt IntKind.u8.bits 128).toNat=u % 128+128:=by
    show (BitVec.ofInt 8 ((u % 256:Nat):Int) ||| BitVec.ofInt 8 128).toNat=_
    rw [BitVec.toNat_or,BitVec.toNat_ofInt,BitVec.toNat_ofInt]
    have h3:(((u % 256:Nat):Int) % ((2 ^ 8:Nat):Int)).toNat=u % 256:=by omega
    have h4:((128:Int) % ((2 ^ 8:Nat):Int)).toNat=128:=by decide
    rw [h3,h4,aJD _ (by omega)];omega
  rw [e];exact aET (by omega)
open Go.ChangeShapes Go.WideShapes Go.ChangeAt Go.RowKit
def s0 (w:World):Sit:=⟨w,λb=>b<w.heap.size,λ_=>none,λ_=>False⟩
inductive VL (s:Sit):List AV->List Value->Prop
  | nil:VL s [] []
  | cons {x:AV} {v:Value} {xs:List AV} {vs:List Value} (h:VR s x v) (hs:VL s xs vs):VL s (x :: xs) (v :: vs)
theorem VL.len {s:Sit} {xs:List AV} {vs:List Value} (h:VL s xs vs):xs.length=vs.length:=by
  induction h with
  | nil=>rfl
  | cons _ _ ih=>simp [ih]
theorem VL.get {s:Sit} {xs:List AV} {vs:List Value} (h:VL s xs vs):∀ (i:Nat) (x:AV) (v:Value),xs[i]?=some x->vs[i]?=some v->VR s x v:=by
  induction h with
  | nil=>intro i x v h1 _;simp at h1
  | cons ha _ ih =>
    intro i x v h1 h2
    cases i with
    | zero=>simp at h1 h2;subst h1 h2;exact ha
    | succ i=>exact ih i x v (by simpa using h1) (by simpa using h2)
theorem YH {s:Sit} {xs:List AV} {vs:List Value} (h:VL s xs vs):lX s xs vs.toArray :=
  ⟨by simp [h.len],λi x v h1 h2=>h.get i x v h1 (by simpa using h2)⟩
end Go.Pv
namespace Go.Pv
end Go.Pv
