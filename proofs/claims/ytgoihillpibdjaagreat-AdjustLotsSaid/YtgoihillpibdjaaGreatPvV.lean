import Derived.Test.YtgoihillpibdjaaGreatPvJ
import Derived.Lib.Builder
import Derived.Lib.UnsafeStr
import Derived.Lib.AppendStr
import Derived.WalkKit
import Derived.ProofKit
import Derived.OpenShut
import Derived.ShutString
import Derived.ChangeOld
import Derived.Below
import Derived.Lib.ConvBytes
set_option linter.unusedVariables false
set_option linter.unusedSimpArgs false
namespace Go.Pv
section
variable {P:Program} {n:NT} {S:AS} {o:Oper} {T:TypeId} {x y:Operand}
end
section
variable {P:Program} {n:NT} {S:AS} {o:Oper} {T:TypeId} {x y:Operand}
end
@[reducible] def aN {α:Type} (sz:Nat) (f:α->List AV) (l:List α):AV:=.list sz (l.map f)
theorem XY {α:Type} {S:AS} {sz:Nat} {f:α->List AV} (l:List α):wO S (aN sz f l) l.length:=by
  have:=wO.list (S:=S) sz (l.map f)
  rwa [List.length_map] at this
theorem gQ {α:Type} {H:AH} {id aU len sz:Nat} {ob:bZ} {f:α->List AV} {l:List α} (ho:H id=some ob) (dV:ob.aU=aU) (hmt:ob.mt=false) (hsz:ob.sz=sz) (hr:ob.rows=l.map f) (hl:len=l.length):Cv H (.sl id aU 0 len) (aN sz f l):=by
  have:=Cv.sl (rows:=l.map f) (off:=0) (len:=len) ho dV hmt (by rw [hr];exact jN.refl _) (by rw [List.length_map];omega)
  rw [hsz] at this
  have e:((l.map f).drop 0).take len=l.map f:=by rw [List.drop_zero,hl,List.take_of_length_le (by rw [List.length_map];exact Nat.le_refl _)]
  rw [e] at this;exact this
theorem aTY {α:Type} {sz:Nat} {f:α->List AV} (l:List α) (h:∀ a∈l,∀ x∈f a,PV x):PV (aN sz f l):=.list λr hr x hx=>by
  obtain ⟨a,ha,rfl⟩:=List.mem_map.1 hr
  exact h a ha x hx
@[reducible] def int (n:Int):AV:=.sc (.int .i64 n)
@[reducible] def bD (b:Bool):AV:=.sc (.bool b)
@[reducible] def str (l:List UInt8):AV:=.sc (.string (bs l))
@[reducible] def ints (l:List Int):AV:=aN 1 (λn=>[int n]) l
theorem iC {a:Int} (h:0<=a/\a<=18446744073709551615):IntKind.u64.wrap a=a:=by
  simp only [IntKind.wrap,IntKind.bits,IntKind.signed];simp;omega
theorem aUV {a:Int} (h:0<=a/\a<=255):IntKind.u8.wrap a=a:=IntWalk.u8_in a h
def rd:List UInt8->Nat->Nat->Option (Nat×List UInt8)
  | [],_,_=>none
  | c :: r,i,u =>
    if 9<i\/(i=9/\1<c.toNat) then none
    else if 128<=c.toNat then rd r (i+1) (u+c.toNat % 128*2 ^ (7*i))
    else if c.toNat=0/\0<i then none
    else some (u+c.toNat % 128*2 ^ (7*i),r)
def zz (v:Int):Nat:=if v<0 then (-(2*v)-1).toNat else (2*v).toNat
theorem a0M {P:Program} {t:TypeId} {k:Nat} (h:((P.info? t).map (·.size))=some k):∃ j,P.info? t=some j/\j.size=k:=by
  cases hj:P.info? t with
  | none=>rw [hj] at h;cases h
  | some j=>rw [hj] at h;exact ⟨j,rfl,by simpa using h⟩
section
variable {P:Program} {n:NT} {S:AS} {o:Oper} {T:TypeId} {x y:Operand}
end
def held:Option (Nat×List UInt8)->List UInt8 | none=>[] | some (_,l)=>l
def aAZ:Nat->Nat->List UInt8
  | 0,u=>[UInt8.ofNat u]
  | f+1,u=>if u<128 then [UInt8.ofNat u] else UInt8.ofNat (u % 128+128) :: aAZ f (u / 128)
def enc (v:Int):List UInt8:=aAZ 10 (zz v)
def isI (v:Int):Prop:=-9223372036854775808<=v/\v<=9223372036854775807
instance (v:Int):Decidable (isI v):=inferInstanceAs (Decidable (_/\_))
theorem aQ4 (a:Int):IntKind.u64.wrap a=a % 18446744073709551616:=by
  simp only [IntKind.wrap,IntKind.bits,IntKind.signed];simp
inductive Has:AV->Nat->Prop
  | pt {id aU row off:Nat}:Has (.pt id aU row off) aU
  | sl {id aU off len:Nat}:Has (.sl id aU off len) aU
  | list {sz k:Nat} {xs:List (List AV)} {i j:Nat} {r:List AV} {x:AV} (h1:xs[i]?=some r) (h2:r[j]?=some x) (h:Has x k):Has (.list sz xs) k
  | pp {cs:List AV} {i k:Nat} {x:AV} (h1:cs[i]?=some x) (h:Has x k):Has (.pp cs) k
  | agg {cs:List AV} {i k:Nat} {x:AV} (h1:cs[i]?=some x) (h:Has x k):Has (.agg cs) k
  | fn1 {f:Fn} {a c:List AV} {i k:Nat} {x:AV} (h1:a[i]?=some x) (h:Has x k):Has (.fn f a c) k
  | fn2 {f:Fn} {a c:List AV} {i k:Nat} {x:AV} (h1:c[i]?=some x) (h:Has x k):Has (.fn f a c) k
  | iK {t:TypeId} {k:Nat} {x:AV} (h:Has x k):Has (.iK t x) k
  | bT {cs:List AV} {i k:Nat} {x:AV} (h1:cs[i]?=some x) (h:Has x k):Has (.bT cs) k
  | mp {ks:List Int} {cs:List AV} {i k:Nat} {x:AV} (h1:cs[i]?=some x) (h:Has x k):Has (.mp ks cs) k
theorem KB {α:Type} {l:Array α} {n i:Nat} (h:n=l.size) (hi:i<n):∃ v,l[i]?=some v:=⟨l[i]'(by omega),Array.getElem?_eq_getElem (by omega)⟩
theorem BD {α:Type} {l:List α} {i:Nat} {x:α} (h:l[i]?=some x):i<l.length:=(List.getElem?_eq_some_iff.1 h).1
theorem VR.has {s:Sit} {x:AV} {v:Value} (h:VR s x v):∀ k,Has x k->s.used k:=by
  induction h with
  | sc v=>intro k h;cases h
  | nil sz=>intro k h;cases h with | list h1 _ _=>simp at h1
  | emp sz a=>intro k h;cases h with | list h1 _ _=>simp at h1
  | list f hI hc hm hr hf _ ih=>intro k h;cases h with | list h1 h2 h=>exact ih _ _ _ _ h1 h2 k h
  | pp f hI hf _ ih=>intro k h;cases h with | pp h1 h=>exact ih _ _ h1 k h
  | pt hk h1 h=>intro k h;cases h;exact hk
  | sl hk h1 h=>intro k h;cases h;exact hk
  | agg hl _ ih=>intro k h;cases h with | agg h1 h=>obtain ⟨v,hv⟩:=KB hl (BD h1);exact ih _ _ v h1 hv k h
  | fn hl hl' _ _ ih ih' =>
    intro k h
    cases h with
    | fn1 h1 h=>obtain ⟨v,hv⟩:=KB hl (BD h1);exact ih _ _ v h1 hv k h
    | fn2 h1 h=>obtain ⟨v,hv⟩:=KB hl' (BD h1);exact ih' _ _ v h1 hv k h
  | iK _ ih=>intro k h;cases h with | iK h=>exact ih k h
  | bT hl _ ih=>intro k h;cases h with | bT h1 h=>obtain ⟨v,hv⟩:=KB hl (BD h1);exact ih _ _ v h1 hv k h
  | mp hI' hb hk hl _ ih=>intro k h;cases h with | mp h1 h=>exact ih _ _ _ h1 (List.getElem?_eq_getElem (by have:=BD h1;omega)) k h
theorem PV.has {x:AV} (h:PV x):∀ k,¬ Has x k:=by
  induction h with
  | sc v=>intro k h;cases h
  | list _ ih=>intro k h;cases h with | list h1 h2 h=>exact ih _ (List.mem_of_getElem? h1) _ (List.mem_of_getElem? h2) k h
  | pp _ ih=>intro k h;cases h with | pp h1 h=>exact ih _ (List.mem_of_getElem? h1) k h
  | agg _ ih=>intro k h;cases h with | agg h1 h=>exact ih _ (List.mem_of_getElem? h1) k h
  | fn _ _ ih ih' =>
    intro k h
    cases h with
    | fn1 h1 h=>exact ih _ (List.mem_of_getElem? h1) k h
    | fn2 h1 h=>exact ih' _ (List.mem_of_getElem? h1) k h
  | iK _ ih=>intro k h;cases h with | iK h=>exact ih k h
  | bT _ ih=>intro k h;cases h with | bT h1 h=>exact ih _ (List.mem_of_getElem? h1) k h
  | mp _ ih=>intro k h;cases h with | mp h1 h=>exact ih _ (List.mem_of_getElem? h1) k h
theorem jY {P:Program} {S:AS} {o:Oper} {x y:AV} (h:dW P o S x) (e:x=y):dW P o S y:=e ▸ h
open Go.ChangeShapes Go.WideShapes Go.ChangeAt Go.RowKit
def TD (w:World) (a:Option Addr) (len cap:Nat) (zs:List Int):Prop :=
  (a=none/\len=0/\cap=0/\zs=[]) \/
  ∃ b off,a=some ⟨b,off,none⟩/\b<w.heap.size/\len<=cap/\cap<=maxLen/\zs.length=cap/\(∀ i,i<zs.length->w.cell? ((⟨b,off,none⟩:Addr).add i)=some (.int .i64 (zs.getD i 0)))/\∀ n∈zs,(Lit.int .i64 n).wf=true
theorem row_of {H:Type} {enc:TypeId×Value->H} {P:Program} {w:World} {base b0:Nat} {held:Bool} {t e:TypeId} {v:Value} {d:DataW H} {ps:List MemPlace} (ht:P.underlying t=some (.slice e)) (he:P.underlying e=some (.int .i64)) (hc:P.cellsOf e=1)
    (hval:Value.okWide P w .any b0 t v) (h:DataW.Trod enc P w base (λ_=>true) held t v d ps):∃ a len cap zs,v=.slice a len cap/\TD w a len cap zs:=by
  obtain ⟨a,len,cap,rfl⟩:=okWide_slice ht hval
  obtain ⟨fuel,hf⟩:=h
  rcases open_ints ht he hc hf with ⟨hcs,_⟩ | ⟨x,l,c,zs,hcs,_,hl,hm,hz,_,hcell,hwz⟩
  · simp [Value.cells] at hcs
    obtain ⟨rfl,rfl,rfl⟩:=hcs
    exact ⟨none,0,0,[],rfl,.inl ⟨rfl,rfl,rfl,rfl⟩⟩
  · simp [Value.cells] at hcs
    obtain ⟨rfl,rfl,rfl⟩:=hcs
    have hh:w.has P .any b0 x e cap:=by
      simp only [Value.okWide,ht,Cell.okWide,Cell.ok] at hval
      first | exact hval.2.2 | (split at hval <;> simp_all)
    obtain ⟨_,hsp,row,cells,hsh,_⟩:=hh
    have hb:x.block<w.heap.size:=by
      unfold World.shape? at hsh
      cases hg:w.heap[x.block]? with
      | none=>rw [hg] at hsh;cases hsh
      | some o=>exact (Array.getElem?_eq_some_iff.1 hg).1
    obtain ⟨b,off,spot⟩:=x
    have hsp:spot=none:=hsp
    subst hsp
    exact ⟨_,_,_,zs,rfl,.inr ⟨b,off,rfl,hb,hl,hm,by simpa using hz,hcell,hwz⟩⟩
def s0 (w:World):Sit:=⟨w,λb=>b<w.heap.size,λ_=>none,λ_=>False⟩
theorem aQE {w:World} {a:Option Addr} {len cap:Nat} {zs:List Int} (h:TD w a len cap zs):VR (s0 w) (ints (zs.take len)) (.slice a len cap):=by
  rcases h with ⟨rfl,rfl,rfl,rfl⟩ | ⟨b,off,rfl,hb,hl,hm,hz,hcell,hwz⟩
  · exact .nil 1
  · have hlen:((zs.take len).map λn=>[int n]).length=len:=by rw [List.length_map,List.length_take];omega
    have key:∀ (i:Nat) (r:List AV) (j:Nat) (x:AV),((zs.take len).map λn=>[int n])[i]?=some r->r[j]?=some x->j=0/\x=int (zs.getD i 0)/\i<zs.length:=by
      intro i r j x h1 h2
      rw [List.getElem?_map] at h1
      cases hg:(zs.take len)[i]? with
      | none=>rw [hg] at h1;cases h1
      | some n =>
        rw [hg] at h1;simp only [Option.map_some,Option.some.injEq] at h1
        subst h1
        have hi:=BD hg
        rw [List.length_take] at hi
        rw [List.getElem?_take] at hg
        have hn:zs.getD i 0=n:=by
          split at hg
          · simp [hg]
          · cases hg
        cases j with
        | zero=>simp at h2;exact ⟨rfl,by rw [<- h2,hn],by omega⟩
        | succ j=>simp at h2
    have:=VR.list (s:=s0 w) (sz:=1) (xs:=(zs.take len).map λn=>[int n]) (b:=b) (off:=off) (cap:=cap) (λi _=>.int .i64 (zs.getD i 0)) hb (by omega) hm
      (λi r h1=>by
        rw [List.getElem?_map] at h1
        cases hg:(zs.take len)[i]? with
        | none=>rw [hg] at h1;cases h1
        | some n=>rw [hg] at h1;simp only [Option.map_some,Option.some.injEq] at h1;subst h1;rfl)
      (λi r j x h1 h2=>by
        obtain ⟨rfl,rfl,hi⟩:=key i r j x h1 h2
        have:=hcell i hi
        rw [addr_add] at this
        show w.cell? _=_
        rw [Nat.mul_one,Nat.add_zero,this])
      (λi r j x h1 h2=>by obtain ⟨rfl,rfl,hi⟩:=key i r j x h1 h2;exact .sc _)
    rw [hlen] at this
    exact this
inductive VL (s:Sit):List AV->List Value->Prop
  | nil:VL s [] []
  | cons {x:AV} {v:Value} {xs:List AV} {vs:List Value} (h:VR s x v) (hs:VL s xs vs):VL s (x :: xs) (v :: vs)
theorem VL.len {s:Sit} {xs:List AV} {vs:List Value} (h:VL s xs vs):xs.length=vs.length:=by
  induction h with
  | nil=>rfl
  | cons _ _ ih=>simp [ih]
theorem VL.get {s:Sit} {xs:List AV} {vs:List Value} (h:VL s xs vs):∀ (i:Nat) (x:AV) (v:Value),xs[i]?=some x->vs[i]?=some v->VR s x v:=by
  induction h with
  | nil=>intro i x v h1 _;simp at h1
  | cons ha _ ih =>
    intro i x v h1 h2
    cases i with
    | zero=>simp at h1 h2;subst h1 h2;exact ha
    | succ i=>exact ih i x v (by simpa using h1) (by simpa using h2)
theorem aYV {s:Sit} {xs:List AV} {vs:List Value} (h:VL s xs vs):oD s xs vs.toArray :=
  ⟨by simp [h.len],λi x v h1 h2=>h.get i x v h1 (by simpa using h2)⟩
end Go.Pv
namespace Go.Pv
end Go.Pv
namespace Go.Pv
section plain
variable {α β γ δ:Type}
def bnd (x:α) (f:α->Option β):Option β:=f x
theorem xN {x:α} {f:α->Option β} {r:β} (h:bnd x f=some r):∃ t,x=t/\f t=some r:=⟨x,rfl,h⟩
theorem oM {x:Option α} {f:α->Option β} {r:β} (h:x.bind f=some r):∃ t,x=some t/\f t=some r:=by
  cases x with
  | none=>cases h
  | some t=>exact ⟨t,rfl,h⟩
def iQ (p:Prop) [Decidable p] (k:Option β):Option β:=if p then k else none
theorem uJ {p:Prop} [Decidable p] {k:Option β} {r:β} (h:iQ p k=some r):p/\k=some r:=by
  unfold iQ at h;by_cases hp:p
  · rw [if_pos hp] at h;exact ⟨hp,h⟩
  · rw [if_neg hp] at h;cases h
theorem ct {A B:Option β} {r:Option β} (h:cond true A B=r):A=r:=h
theorem cf {A B:Option β} {r:Option β} (h:cond false A B=r):B=r:=h
def esc (x:Option β):Option (α⊕β):=x.map .inr
theorem aC3 {x:Option β} {j:α⊕β} (h:esc x=some j):∃ c,x=some c/\j=.inr c:=by
  unfold esc at h
  cases x with
  | none=>cases h
  | some c=>simp at h;exact ⟨c,rfl,h.symm⟩
def brk (a:α):Option (α⊕β):=some (.inl a)
theorem aS8 {a:α} {j:α⊕β} (h:(brk a:Option (α⊕β))=some j):j=.inl a:=by unfold brk at h;simpa using h.symm
theorem Q9 {a j:α} (h:some a=some j):a=j:=by simpa using h
def sel (f:α->Option β):α⊕β->Option β
  | .inl a=>f a
  | .inr c=>some c
theorem ZB {f:α->Option β} {c:β} {r:β} (h:sel f (.inr c)=some r):some c=some r:=h
def p2 (f:α->β->γ) (p:α×β):γ:=f p.1 p.2
def ix (l:List α) (i:Int):Option α:=if i<0 then none else l[i.toNat]?
theorem qW {l:List α} {i:Int} {v:α} (h:ix l i=some v):i=(i.toNat:Int)/\l[i.toNat]?=some v:=by
  unfold ix at h
  by_cases hi:i<0
  · rw [if_pos hi] at h;cases h
  · rw [if_neg hi] at h;exact ⟨by omega,h⟩
theorem fV {l:List α} {i:Int} {v:α} {f:α->β} (h:ix l i=some v):(l.map f)[i.toNat]?=some (f v):=by rw [List.getElem?_map,(qW h).2];rfl
theorem yY {l:List α} {i:Int} {v:α} (h:ix l i=some v):i.toNat<l.length:=(List.getElem?_eq_some_iff.1 (qW h).2).1
end plain
abbrev aW (a:Int):Int:=IntKind.i64.wrap a
abbrev wu64 (a:Int):Int:=IntKind.u64.wrap a
abbrev G5 (a:Int):Int:=IntKind.u8.wrap a
def AS.lH (S S':AS):Prop:=∀ s,HR s S.hp->(∀ t x,S'.sl t=some x->∃ y,S.sl t=some y/\∀ v,VR s y v->VR s x v)/\HR s S'.hp/\(∀ b,kX s S'.hp b->kX s S.hp b)
section
variable {P:Program} {n:NT} {S:AS} {Q:Go.Exit->AS->Prop} {f:Nat->Option AV} {H:AH}
theorem SR.lH {s:Sit} {S':AS} {a:Act} (h:SR n s S a) (hl:S.lH S'):SR n s S' a :=
  ⟨h.size,h.defers,λt x hx=>let ⟨_,h1,h2⟩:=(hl s h.heap).1 t x hx;let ⟨v,h3,h4⟩:=h.slot t _ h1;⟨v,h3,h2 v h4⟩,(hl s h.heap).2.1⟩
theorem Fr.leL {s s1:Sit} {H H' H1:AH} (ho:∀ b,kX s H' b->kX s H b) (hf:Fr s H' s1 H1):Fr s H s1 H1 :=
  ⟨hf.os,hf.tape,hf.output,hf.size,λb hb h=>hf.keep b hb (λh'=>h (ho b h')),hf.nW,λb hb h hi=>hf.mR b hb (λh'=>h (ho b h')) hi,λb hb h=>ho b (hf.own b hb h),hf.vals,hf.p8⟩
theorem aOE {c:Code} {S':AS} (hl:S.lH S') (h:Tr P n c S' Q):Tr P n c S Q:=by
  intro s a hs
  refine nL (h s a (hs.lH hl)) ?_
  rintro e a1 w1 ⟨S1,s1,rfl,hq,hs1,hf1⟩
  exact ⟨S1,s1,rfl,hq,hs1,hf1.leL (hl s hs.heap).2.2⟩
def AO (H:AH) (f:Nat->Option AV):List (Nat×AV)->Prop
  | []=>True
  | (t,v) :: r=>(∃ u,f t=some u/\Cv H u v)/\AO H f r
def vG (H:AH) (ob ob':bZ):Prop:=ob'={ ob with rows:=ob'.rows }/\jN H ob.rows ob'.rows
def BN (H:AH):List (Nat×bZ)->Prop
  | []=>True
  | (t,v) :: r=>(∃ u,H t=some u/\vG H u v)/\BN H r
theorem vG.refl (ob:bZ):vG H ob ob:=⟨rfl,.refl _⟩
theorem AO.le {l:List (Nat×AV)} (h:AO H f l):∀ t v,kn l t=some v->∃ u,f t=some u/\Cv H u v:=by
  induction l with
  | nil=>intro t v h;cases h
  | cons p r ih =>
    intro t v hv
    obtain ⟨q,u⟩:=p
    simp only [kn] at hv
    by_cases ht:t=q
    · subst ht;rw [upd_same] at hv;cases hv;exact h.1
    · rw [upd_ne _ _ ht] at hv;exact ih h.2 t v hv
theorem BN.le {l:List (Nat×bZ)} (h:BN H l):∀ t v,hk l t=some v->∃ u,H t=some u/\vG H u v:=by
  induction l with
  | nil=>intro t v h;cases h
  | cons p r ih =>
    intro t v hv
    obtain ⟨q,u⟩:=p
    simp only [hk] at hv
    by_cases ht:t=q
    · subst ht;rw [upd_same] at hv;cases hv;exact h.1
    · rw [upd_ne _ _ ht] at hv;exact ih h.2 t v hv
theorem vG.len {ob ob':bZ} (h:vG H ob ob'):ob.rows.length=ob'.rows.length:=h.2.get.1
theorem vG.body {s:Sit} {ob ob':bZ} {m:Mu} (hs:HR s H) (h:vG H ob ob') (hb:(m.nil=true/\ob.rows=[])\/∃ cur fr,vE s ob m cur fr):(m.nil=true/\ob'.rows=[])\/∃ cur fr,vE s ob' m cur fr:=by
  obtain ⟨he,hc⟩:=h
  obtain ⟨c1,c2⟩:=hc.get
  rcases hb with ⟨h1,h2⟩ | ⟨cur,fr,hb⟩
  · rw [h2] at c1;exact .inl ⟨h1,List.eq_nil_of_length_eq_zero (by simpa using c1.symm)⟩
  · have e1:ob'.elem=ob.elem:=by rw [he]
    have e2:ob'.sz=ob.sz:=by rw [he]
    have e3:ob'.mt=ob.mt:=by rw [he]
    have e4:ob'.app=ob.app:=by rw [he]
    refine .inr ⟨cur,fr,⟨hb.hnil,by rw [e1];exact hb.hb,hb.hfr,by rw [e4];exact hb.happ,by rw [e2];exact hb.hcs,hb.hct,by rw [<- c1];exact hb.hlen,λi r hi=>?_,λi r j x v hi hj hv=>?_,hb.h1,by rw [e3];exact hb.him,by rw [e3];exact hb.kV⟩⟩
    · obtain ⟨r0,g1,g2⟩:=c2 i r hi
      rw [e2,<- g2.get.1];exact hb.hr i r0 g1
    · obtain ⟨r0,g1,g2⟩:=c2 i r hi
      obtain ⟨x0,g3,g4⟩:=g2.get.2 j x hj
      rw [e2] at hv
      exact g4 s hs v (hb.hv i r0 j x0 v g1 g3 hv)
theorem aJ4 {g:Nat->Option AV} {H':AH} (h1:∀ t v,g t=some v->∃ u,f t=some u/\Cv H u v) (h2:∀ t v,H' t=some v->∃ u,H t=some u/\vG H u v):AS.lH ⟨f,H⟩ ⟨g,H'⟩:=λs hs =>
  ⟨λt x hx=>let ⟨u,a,b⟩:=h1 t x hx;⟨u,a,b s hs⟩,
   ⟨λid o ho=>by
      obtain ⟨u,a,b⟩:=h2 id o ho
      obtain ⟨m,hm⟩:=hs.obj id u a
      have e1:o.aU=u.aU:=by rw [b.1]
      have e2:o.sz=u.sz:=by rw [b.1]
      exact ⟨m,⟨hm.hm,by rw [e1];exact hm.dV,by rw [e2];exact hm.hsz,by rw [e1];exact hm.hk,b.body hs hm.body⟩⟩,
    λi i' o o' m m' a b=>by
      obtain ⟨u,a1,_⟩:=h2 _ _ a
      obtain ⟨u',b1,_⟩:=h2 _ _ b
      exact hs.lN i i' u u' m m' a1 b1,hs.im,hs.fin⟩,
   λb ⟨id,o,m,h,r⟩=>by
      obtain ⟨u,a1,a2⟩:=h2 _ _ h
      exact ⟨id, u, m, a1, by have : o.mt = u.mt := by rw [a2.1]
                              rw [<- this];exact r.1,r.2⟩⟩
theorem NC {l:List (Nat×AV)} {k:List (Nat×bZ)} (h1:AO H f l) (h2:BN H k):AS.lH ⟨f,H⟩ ⟨kn l,hk k⟩:=aJ4 h1.le h2.le
theorem ZJ {c:Code} {ι:Type} (St:ι->AS) (μ:ι->Nat) (i₀:ι) (h₀:S.lH (St i₀))
    (round:∀ i,Tr P n c (St i) (Exit.thn (λS'=>∃ j,μ j<μ i/\S'.lH (St j)) Q)):Tr P n (.loop c) S Q:=by
  refine aOE h₀ ?_
  intro s a hs F hF b kk cs hro hb hr
  have key:∀ k i,μ i=k->∀ s a,SR n s (St i) a->∃ e a' w',(∃ S' s',w'=s'.w/\Q e S'/\SR n s' S' a'/\Fr s (St i).hp s' S'.hp) /\
      ArrivesIn (Machine.fenced P F) P (lone (b.atR a (.code c :: .inLoop c :: kk)) cs s.w) b kk cs e a' w':=by
    intro k
    induction k using Nat.strongRecOn with
    | _ k ih =>
      intro i hi s a hs
      obtain ⟨e,a1,w1,⟨S1,s1,rfl,hq,hs1,hf1⟩,harr⟩:=round i s a hs F hF b (.inLoop c :: kk) cs hro hb hr
      cases e with
      | normal =>
        obtain ⟨j,hj,hle⟩:=hq
        obtain ⟨e2,a2,w2,⟨S2,s2,rfl,hq2,hs2,hf2⟩,harr2⟩:=ih (μ j) (by omega) j rfl s1 a1 (hs1.lH hle)
        exact ⟨e2,a2,s2.w,⟨S2,s2,rfl,hq2,hs2,hf1.trans (hf2.leL (hle s1 hs1.heap).2.2)⟩,.of_steps (StepsIn.trans harr (.one (hF.fenced _) stepR_inLoop)) harr2⟩
      | exit id=>exact ⟨_,a1,_,⟨S1,s1,rfl,hq,hs1,hf1⟩,.pass (x:=.inLoop c) rfl (λ_ _=>.inl (by simp)) harr⟩
      | goto l=>exact ⟨_,a1,_,⟨S1,s1,rfl,hq,hs1,hf1⟩,.pass (x:=.inLoop c) rfl (λ_ _=>.inl (by simp)) harr⟩
      | ret=>exact ⟨_,a1,_,⟨S1,s1,rfl,hq,hs1,hf1⟩,.pass (x:=.inLoop c) rfl (λ_ _=>.inl (by simp)) harr⟩
      | panic ch=>exact ⟨_,a1,_,⟨S1,s1,rfl,hq,hs1,hf1⟩,.pass (x:=.inLoop c) rfl (λ_ _=>.inl (by simp)) harr⟩
      | outgrown=>exact ⟨_,a1,_,⟨S1,s1,rfl,hq,hs1,hf1⟩,.pass (x:=.inLoop c) rfl (λ_ _=>.inl (by simp)) harr⟩
  obtain ⟨e,a',w',hq,harr⟩:=key _ i₀ rfl s a hs
  exact ⟨e,a',w',hq,.of_steps (.one (hF.fenced _) stepR_loop) harr⟩
theorem Tr.RX {c:Code} {Q':Go.Exit->AS->Prop} (h:Tr P n c S Q') (hq:∀ e S',Q' e S'->∃ S'',S'.lH S''/\Q e S''):Tr P n c S Q:=by
  intro s a hs
  refine nL (h s a hs) ?_
  rintro e a1 w1 ⟨S1,s1,rfl,hq1,hs1,hf1⟩
  obtain ⟨S2,hl,hq2⟩:=hq e S1 hq1
  have h2:=(hl s1 hs1.heap).2.2
  exact ⟨S2,s1,rfl,hq2,hs1.lH hl,⟨hf1.os,hf1.tape,hf1.output,hf1.size,hf1.keep,hf1.nW,hf1.mR,λb hb ho=>hf1.own b hb (h2 b ho),hf1.vals,hf1.p8⟩⟩
variable {o:Oper} {T:TypeId} {x y:Operand} {α:Type}
theorem aEW {e:TypeId} {sz:Nat} {b:Bool} {g:α->List AV} {l:List α} {k:IntKind} {i:Int} {v:α} (ho:o.op=.indexAddr T x y) (hT:P.underlying T=some (.slice e)) (he:gW P e=some (sz,b))
    (hx:S.ev x=some (aN sz g l)) (hy:S.ev y=some (.sc (.int k i))) (h:ix l i=some v):dW P o S (.pp (g v)) :=
  mX ho hT he hx hy (qW h).1 (.list (fV h))
end
@[reducible] def fI (n:Int):List AV:=[int n]
@[reducible] def fB (b:Bool):List AV:=[bD b]
@[reducible] def fS (s:List UInt8):List AV:=[str s]
@[reducible] def fK (k:IntKind) (n:Int):List AV:=[.sc (.int k n)]
@[reducible] def fL {α:Type} (sz:Nat) (g:α->List AV) (l:List α):List AV:=[aN sz g l]
theorem GB {a:AV} (h:PV a):∀ x∈[a],PV x:=by intro x hx;simp at hx;subst hx;exact h
theorem fE (n:Int):PV (int n):=.sc _
theorem K9 (b:Bool):PV (bD b):=.sc _
theorem pvS (s:List UInt8):PV (str s):=.sc _
theorem Y4 (k:IntKind) (n:Int):PV (.sc (.int k n)):=.sc _
theorem l8 {α:Type} {sz:Nat} {g:α->List AV} (h:∀ a,∀ x∈g a,PV x) (l:List α):PV (aN sz g l):=aTY l λa _=>h a
theorem rR (n:Int):∀ x∈fI n,PV x:=GB (fE n)
theorem aSO (b:Bool):∀ x∈fB b,PV x:=GB (K9 b)
theorem aWJ (s:List UInt8):∀ x∈fS s,PV x:=GB (pvS s)
theorem aLF (k:IntKind) (n:Int):∀ x∈fK k n,PV x:=GB (Y4 k n)
theorem EH {α:Type} {sz:Nat} {g:α->List AV} (h:∀ a,∀ x∈g a,PV x) (l:List α):∀ x∈fL sz g l,PV x:=GB (l8 h l)
theorem iE {α:Type} {l:List α} {i:Int} {v:α} {f:α->List AV} {c:List AV} (h:ix l i=some v) (e:f v=c):(l.map f)[i.toNat]?=some c:=by rw [fV h,e]
theorem aLS {a b:AV} (ha:PV a) (hb:PV b):∀ x∈[a,b],PV x:=by intro x hx;simp at hx;rcases hx with rfl | rfl <;> assumption
theorem aUJ:∀ x∈([]:List AV),PV x:=by intro x hx;cases hx
inductive Flat:AV->Prop
  | sc (v:Value):Flat (.sc v)
  | agg {cs:List AV} (h:∀ x∈cs,Flat x):Flat (.agg cs)
  | bT {cs:List AV} (h:∀ x∈cs,Flat x):Flat (.bT cs)
def oG:AV->Bool
  | .sc _=>true
  | .agg cs=>flatL cs
  | .bT cs=>flatL cs
  | _=>false
where flatL:List AV->Bool
  | []=>true
  | x :: r=>oG x && flatL r
mutual
theorem YB:∀ (x:AV),oG x=true->Flat x
  | .sc v,_=>.sc v
  | .agg cs,h=>.agg (U9 cs (by unfold oG at h;exact h))
  | .bT cs,h=>.bT (U9 cs (by unfold oG at h;exact h))
  | .list _ _,h=>by unfold oG at h;cases h
  | .pp _,h=>by unfold oG at h;cases h
  | .pt _ _ _ _,h=>by unfold oG at h;cases h
  | .sl _ _ _ _,h=>by unfold oG at h;cases h
  | .fn _ _ _,h=>by unfold oG at h;cases h
  | .iK _ _,h=>by unfold oG at h;cases h
  | .mp _ _,h=>by unfold oG at h;cases h
theorem U9:∀ (l:List AV),oG.flatL l=true->∀ x∈l,Flat x
  | [],_,x,hx=>by cases hx
  | y :: r,h,x,hx=>by
    unfold oG.flatL at h
    simp only [Bool.and_eq_true] at h
    rcases List.mem_cons.1 hx with e | hx
    · rw [e];exact YB y h.1
    · exact U9 r h.2 x hx
end
theorem Flat.vr {s s':Sit} {x:AV} {v:Value} (h:VR s x v) (hf:Flat x):VR s' x v:=by
  induction h with
  | sc v=>exact .sc v
  | agg hl _ ih=>cases hf with | agg hf=>exact .agg hl λi x v h1 h2=>ih i x v h1 h2 (hf x (List.mem_of_getElem? h1))
  | bT hl _ ih=>cases hf with | bT hf=>exact .bT hl λi x v h1 h2=>ih i x v h1 h2 (hf x (List.mem_of_getElem? h1))
  | _=>cases hf
section
variable {P:Program} {n:NT} {S:AS} {o:Oper} {T:TypeId} {x y:Operand}
theorem aP8 {fo:Operand} {as:List Operand} {ts:Array TypeId} {k:FuncId} {first cap vs args:List AV} {v:AV} (ho:o.op=.call { callee:=.value fo,args:=as.toArray,argTypes:=ts })
    (hf:S.ev fo=some (.fn (.func k) first cap)) (ha:EvL S as vs) (hc:bP P k=true) (hcv:dX (qP S.hp) (first++vs++cap) args) (hp:PP P k args (λy=>y=v)) (hfl:oG v=true):dW P o S v:=by
  intro s a next Q hH hops _ hn
  obtain ⟨us,h1,h2⟩:=O4 (P:=P) ho hf ha hc hops
  unfold Oper.wp
  rw [h2]
  have hz:=VF hH
  have h1':oD (yM s S.hp) (first++vs++cap) us:=⟨h1.1,λi x v a b=>I6 (h1.2 i x v a b)⟩
  have hp':=hp (yM s S.hp) us hz.im hz.fin (hcv.all hz h1')
  refine hp'.mono ?_
  rintro e w' ⟨y,s',v',rfl,q2,rfl,rfl,q4,q5,q6⟩
  let s2:Sit:={ w:=s'.w,Im:=s.Im,mu:=s.mu,used:=s.used }
  have hno:∀ b,¬ kX (yM s S.hp) H0 b:=λb ⟨_,_,_,h,_⟩=>(by cases h)
  have hold:∀ b,b<s.w.heap.size->s'.w.heap[b]?=s.w.heap[b]?:=λb hb=>q6.keep b hb (hno b)
  have hmono:∀ x v,VR s x v->VR s2 x v:=λx v h=>VR.mono (s:=s) (s':=s2) (λb hi=>⟨hi,hold b (hH.im b hi)⟩) (λ_ _ h=>.inl h) (λ_ h=>h) h
  have hsize:s.w.heap.size<=s'.w.heap.size:=q6.size
  refine hn s2 v' _ S.hp ⟨rfl,rfl⟩ (Flat.vr q4 (YB _ hfl)) ⟨λid ob hob=>?_,hH.lN,λb hb=>Nat.lt_of_lt_of_le (hH.im b hb) hsize,hH.fin⟩
    ⟨q6.os,q6.tape,q6.output,hsize,λb hb _=>hold b hb,λ_ h=>h,λb hb _ hi=>hi,λb _ h=>h,hmono,λ_ h=>h⟩ (λ_ h=>.inl h)
  obtain ⟨m,hm⟩:=hH.obj id ob hob
  refine ⟨m,⟨hm.hm,hm.dV,hm.hsz,hm.hk,?_⟩⟩
  rcases hm.body with hb | ⟨cur,fr,hb⟩
  · exact .inl hb
  · have hlt:m.b<s.w.heap.size:=(Array.getElem?_eq_some_iff.1 hb.hb).1
    exact .inr ⟨cur,fr,⟨hb.hnil,(hold m.b hlt).trans hb.hb,hb.hfr,hb.happ,hb.hcs,hb.hct,hb.hlen,hb.hr,λi r j x v a b c=>hmono _ _ (hb.hv i r j x v a b c),hb.h1,hb.him,hb.kV⟩⟩
theorem iR {F U:Nat->Prop} {id:Nat} {z0:AV} {ob ob':bZ} (h:eG P o S F U (λz H'=>z=z0/\H'=upd S.hp id (some ob))) (e:ob=ob'):eG P o S F U (λz H'=>z=z0/\H'=upd S.hp id (some ob')):=e ▸ h
def LW (P:Program) (T:TypeId) (f:Nat):Option (Nat×Nat) :=
  match P.underlying T with
  | some (.struct fs)=>(fs[f]?).map λfl=>(fl.offset,fl.type)
  | _=>none
end
section
variable {P:Program} {n:NT} {S:AS} {o:Oper} {T:TypeId} {x y:Operand}
theorem aK0 {e:TypeId} {sz by' ver':Nat} {U:Nat->Prop} {zs:List Value} {id aU k:Nat} {ob:bZ} {news:List (List AV)} {s:Sit} {a:Act} {next:Act->World->Prop} {Q:Go.Exit->Act->World->Prop}
    (hH:HR s S.hp) (hxv:VR s (.sl id aU 0 k) (a.eval x)) (hyv:VR s (.list sz news) (a.eval y)) (hU:U ver') (hun:¬ s.used ver')
    (hn:∀ s' v z H',(z=.sl id ver' 0 (k+news.length)/\H'=upd S.hp id (some { ob with aU:=ver',rows:=ob.rows++news }))->VR s' z v->HR s' H'->Fr s S.hp s' H'->(∀ k,s'.used k->s.used k\/U k)->next (a.put o.dst v) s'.w)
    (ho:o.op=.call { callee:=.builtin .append,args:=#[x,y],argTypes:=#[T,T] }) (hT:P.underlying T=some (.slice e)) (hz:kG P e=some (sz,zs)) (hby:lD P e=some by')
    (hob:S.hp id=some ob) (dV:ob.aU=aU) (hmt:ob.mt=true) (happ:ob.app=true) (hel:ob.elem=e) (hosz:ob.sz=sz) (hk:ob.rows.length=k)
    (h1:∀ r∈news,jO r=true) (hfit:(k+news.length)*by'<=140737488355328) (hmax:k+news.length<=9223372036854775807):o.wp P a s.w next Q:=by
  obtain ⟨i,hi,hsz,hzo,hzl,hpos,hzone⟩:=BY hz
  have hiz:∃ z,i.zero=some z/\z.cells.toList=zs:=by
    unfold zeroOf at hzo;rw [hi] at hzo
    simp only [Option.bind_some] at hzo
    cases hz:i.zero with
    | none=>rw [hz] at hzo;cases hzo
    | some z=>rw [hz] at hzo;exact ⟨z,rfl,by simpa using hzo⟩
  obtain ⟨z,hz1,hz2⟩:=hiz
  have hzc:z.cells.size=sz:=by rw [<- Array.length_toList,hz2,hzl]
  have hib:i.bytes=by':=by unfold lD at hby;rw [hi] at hby;simpa using hby
  obtain ⟨m,hm⟩:=hH.obj id ob hob
  generalize hux:a.eval x=ux at hxv
  generalize huy:a.eval y=uy at hyv
  cases hxv with
  | sl hk0 hone hh =>
    have hh:=hh m hm.hm (hm.dV.trans dV)
    have run:∀ {w':World} {r:Value},(Builtin.append_ #[T,T] o.type #[ux,uy]).run P s.w=.ok r w'->(execOp a.eval o).run P s.w=.ok (.value r) w':=λh=>by
      simp only [execOp,ho,resolve,invoke,builtin,List.map_toArray,List.map_cons,List.map_nil,Sem.run_bind,Sem.run_pure,Result.andThen_ok,hux,huy,h]
    rcases aA3 hpos hyv h1 with ⟨hy0,hnil⟩ | ⟨ad,cap,nv,hy0,hnl,hnc,hn1,hrl,hnv⟩
    · -- nothing is appended
      subst hnil
      have hrun:(Builtin.append_ #[T,T] o.type #[ux,uy]).run P s.w=.ok ux s.w:=by
        rw [hy0]
        rcases hm.body with ⟨hn',_⟩ | ⟨cur,fr,hb⟩
        · obtain ⟨q1,q2⟩:=hh.1 hn'
          rw [q1];simp [Builtin.append_,run_underlying hT,sizeOf,typeInfo,hi,Builtin.lenOf,Builtin.firstCells]
        · obtain ⟨cap,q1,q2,q3⟩:=hh.2 hb.hnil
          rw [q1];simp [Builtin.append_,run_underlying hT,sizeOf,typeInfo,hi,Builtin.lenOf,Builtin.firstCells,q2,storeCells]
      have hrows:({ ob with aU:=ver',rows:=ob.rows++[] }:bZ)={ ob with aU:=ver' }:=by simp
      rcases hm.body with ⟨hn',hr0⟩ | ⟨cur,fr,hb⟩
      · obtain ⟨q1,q2⟩:=hh.1 hn'
        obtain ⟨s',g1,g2,g3,g4,g5⟩:=yC hH id { ob with aU:=ver' } hun hr0 (.inr ⟨m,hm.hm,hn'⟩)
        refine lM (w':=s'.w) (by rw [g1];exact run hrun) (hn s' _ (.sl id ver' 0 (k+0)) _ ⟨rfl,by rw [hrows]⟩ ?_ g4 g5 λj hj=>?_)
        · refine .sl (by rw [g2];exact .inr rfl) (by rw [q1];rfl) λm' hm' _=>?_
          rw [g3] at hm';cases hm'
          exact ⟨λ_=>⟨q1,by omega⟩,λh=>by cases h⟩
        · rw [g2] at hj;rcases hj with h | h;exact .inl h;exact .inr (h ▸ hU)
      · obtain ⟨cap,q1,q2,q3⟩:=hh.2 hb.hnil
        obtain ⟨s',g1,g2,g3,g4,g5⟩:=wD hH id { ob with aU:=ver' } m.b m.ct cur s.w rfl rfl rfl (Nat.le_refl _) (λ_ _ _=>rfl) (by rw [hb.hb,hb.happ happ]) (.inr ⟨ob,m,hob,hmt,hm.hm,hb.hnil,rfl⟩) hun hmt hb.hcs hb.hct hb.hlen hb.hr hb.hv hb.h1
        refine lM (w':=s'.w) (by rw [g1];exact run hrun) (hn s' _ (.sl id ver' 0 (k+0)) _ ⟨rfl,by rw [hrows]⟩ ?_ g4 g5 λj hj=>?_)
        · refine .sl (by rw [g2];exact .inr rfl) (by rw [q1];rfl) λm' hm' _=>?_
          rw [g3] at hm';cases hm'
          exact ⟨λh=>(by cases h),λ_=>⟨cap,by rw [q1,Nat.zero_mul,Nat.zero_mul];rfl,by simpa using q2,by simpa using q3⟩⟩
        · rw [g2] at hj;rcases hj with h | h;exact .inl h;exact .inr (h ▸ hU)
    · -- something is
      have hnl':nv.length=news.length*i.size:=by rw [hnl,hsz]
      have fin:∀ (g ct:Nat) (cur':Array Value) (w':World) (cap':Nat),w'.os=s.w.os->w'.tape=s.w.tape->w'.output=s.w.output->s.w.heap.size<=w'.heap.size ->
          (∀ j,j<s.w.heap.size->j≠g->w'.heap[j]?=s.w.heap[j]?)->w'.heap[g]?=some (.cells cur' e (0,0))->(s.w.heap.size<=g\/∃ o0 m0,S.hp id=some o0/\o0.mt=true/\s.mu id=some m0/\m0.nil=false/\m0.b=g) ->
          cur'.size=ct*sz->ct<=maxLen->k+news.length<=cap'->cap'<=ct ->
          (∀ (i:Nat) (r:List AV) (j:Nat) (x:AV) (v:Value),(ob.rows++news)[i]?=some r->r[j]?=some x->cur'[i*sz+j]?=some v->VR s x v) ->
          (∀ (j:Nat) (v:Value),cur'[j]?=some v->v.oneCell'=true) ->
          (Builtin.append_ #[T,T] o.type #[ux,uy]).run P s.w=.ok (.slice (some ⟨g,0,none⟩) (k+news.length) cap') w'->o.wp P a s.w next Q:=by
        intro g ct cur' w' cap' a1 a2 a3 a4 a5 a6 a7 a8 a9 mF a11 a12 a13 hrun
        have hrowl:∀ (i:Nat) (r:List AV),(ob.rows++news)[i]?=some r->r.length=sz:=λi r hr=>by
          rcases oV hr with ⟨_,h⟩ | ⟨_,h⟩
          · rcases hm.body with ⟨_,h0⟩ | ⟨_,_,hb⟩
            · rw [h0] at h;simp at h
            · rw [<- hosz];exact hb.hr i r h
          · exact hrl r (List.mem_of_getElem? h)
        obtain ⟨s',g1,g2,g3,g4,g5⟩:=wD hH id { ob with aU:=ver',rows:=ob.rows++news } g ct cur' w' a1 a2 a3 a4 a5 (by rw [a6];simp [hel]) a7 hun hmt (by simpa [hosz] using a8) a9 (by simp only [List.length_append];omega)
          (by simpa [hosz] using hrowl) (by simpa [hosz] using a12) a13
        refine lM (w':=s'.w) (by rw [g1];exact run hrun) (hn s' _ (.sl id ver' 0 (k+news.length)) _ ⟨rfl,rfl⟩ ?_ g4 g5 λj hj=>?_)
        · refine .sl (by rw [g2];exact .inr rfl) rfl λm' hm' _=>?_
          rw [g3] at hm';cases hm'
          exact ⟨λh=>(by cases h),λ_=>⟨cap',by rw [Nat.zero_mul],mF,by simpa using a11⟩⟩
        · rw [g2] at hj;rcases hj with h | h;exact .inl h;exact .inr (h ▸ hU)
      have hzcells:∀ (q:Nat) (j:Nat) (v:Value),(Builtin.zeroCells z.cells q)[j]?=some v->v.oneCell'=true:=λq j v hv=>by
        simp only [Builtin.zeroCells,Array.getElem?_map] at hv
        obtain ⟨jj,hjj,rfl⟩:=Option.map_eq_some_iff.1 hv
        have hm':jj % z.cells.size<z.cells.size:=Nat.mod_lt _ (by omega)
        rw [getElem!_pos z.cells _ hm']
        exact vI hzone (jj % z.cells.size) _ (by rw [<- hz2,Array.getElem?_toList];simp [hm'])
      have cells:∀ (olds tail:List Value),olds.length=k*sz->(∀ (i:Nat) (r:List AV) (j:Nat) (x:AV) (v:Value),ob.rows[i]?=some r->r[j]?=some x->olds[i*sz+j]?=some v->VR s x v) ->
          ∀ (i:Nat) (r:List AV) (j:Nat) (x:AV) (v:Value),(ob.rows++news)[i]?=some r->r[j]?=some x->(olds++nv++tail)[i*sz+j]?=some v->VR s x v:=by
        intro olds tail ho1 ho2 i r j x v hr hxx hv
        rcases oV hr with ⟨hi1,h⟩ | ⟨hi1,h⟩
        · have hj:j<sz:=by
            have:=(List.getElem?_eq_some_iff.1 hxx).1
            rcases hm.body with ⟨_,h0⟩ | ⟨_,_,hb⟩
            · rw [h0] at h;simp at h
            · rw [hb.hr i r h,hosz] at this;exact this
          have hlt:i*sz+j<k*sz:=by
            have:(i+1)*sz<=k*sz:=Nat.mul_le_mul_right _ (by omega)
            rw [Nat.add_mul] at this;omega
          rw [List.append_assoc,List.getElem?_append_left (by omega)] at hv
          exact ho2 i r j x v h hxx hv
        · have hj:j<sz:=by have:=(List.getElem?_eq_some_iff.1 hxx).1;rw [hrl r (List.mem_of_getElem? h)] at this;exact this
          have hi2:=(List.getElem?_eq_some_iff.1 h).1
          have hsub:i*sz+j-k*sz=(i-ob.rows.length)*sz+j:=by
            rw [hk,Nat.sub_mul]
            have:k*sz<=i*sz:=Nat.mul_le_mul_right _ (by omega)
            omega
          have hge:k*sz<=i*sz+j:=by
            have:k*sz<=i*sz:=Nat.mul_le_mul_right _ (by omega)
            omega
          have hlt:(i-ob.rows.length)*sz+j<nv.length:=by
            rw [hnl]
            have:(i-ob.rows.length+1)*sz<=news.length*sz:=Nat.mul_le_mul_right _ (by omega)
            rw [Nat.add_mul] at this;omega
          rw [List.append_assoc,List.getElem?_append_right (by omega),ho1,hsub,List.getElem?_append_left hlt] at hv
          exact hnv _ r j x v h hxx hv
      rcases hm.body with ⟨hn',hr0⟩ | ⟨cur,fr,hb⟩
      · -- the nil slice
        obtain ⟨q1,q2⟩:=hh.1 hn'
        subst q2
        by_cases hz0:news.length=0
        · have hnews:news=[]:=List.eq_nil_of_length_eq_zero hz0
          have hrun:(Builtin.append_ #[T,T] o.type #[ux,uy]).run P s.w=.ok ux s.w:=by
            rw [hy0,q1,hz0];simp [Builtin.append_,run_underlying hT,sizeOf,typeInfo,hi,Builtin.lenOf,Builtin.firstCells,loadCells,loadCellsFrom]
          obtain ⟨s',g1,g2,g3,g4,g5⟩:=yC hH id { ob with aU:=ver' } hun hr0 (.inr ⟨m,hm.hm,hn'⟩)
          refine lM (w':=s'.w) (by rw [g1];exact run hrun) (hn s' _ (.sl id ver' 0 (0+news.length)) _ ⟨rfl,by rw [hnews];simp⟩ ?_ g4 g5 λj hj=>?_)
          · refine .sl (by rw [g2];exact .inr rfl) (by rw [q1];rfl) λm' hm' _=>?_
            rw [g3] at hm';cases hm'
            exact ⟨λ_=>⟨q1,by omega⟩,λh=>by cases h⟩
          · rw [g2] at hj;rcases hj with h | h;exact .inl h;exact .inr (h ▸ hU)
        · have hrun:=run_append_nil (P:=P) s.w T o.type e i z hT hi hz1 ad news.length cap nv hnl' hnc (by omega) (by omega) (by rw [hib];simp at hfit;omega)
          have hge:=grownCap_ge s.w news.length 0 e
          refine fin s.w.heap.size (grownCap s.w news.length 0 e) _ (s.w.drew.alloc (.cells (nv.toArray++Builtin.zeroCells z.cells (grownCap s.w news.length 0 e-news.length)) e)) (grownCap s.w news.length 0 e) rfl rfl rfl (by simp) (λj hj _=>alloc_old s.w.drew _ j hj) (uF s.w.drew _) (.inl (Nat.le_refl _)) ?_ (grownCap_le_maxLen _ _ _ _ (by simp only [maxLen];omega)) (by omega) (Nat.le_refl _) ?_ ?_ (by rw [q1,hy0,hrun];simp)
          · rw [Array.size_append,List.size_toArray,size_zeroCells,hzc,hnl,<- Nat.add_mul];congr 1;omega
          · intro i r j x v hr hxx hv
            refine cells [] (Builtin.zeroCells z.cells (grownCap s.w news.length 0 e-news.length)).toList (by simp) (λi r j x v h=>by rw [hr0] at h;simp at h) i r j x v hr hxx ?_
            rw [<- hv,<- Array.getElem?_toList];simp
          · intro j v hv
            rw [<- Array.getElem?_toList,Array.toList_append] at hv
            rcases oV hv with ⟨_,h⟩ | ⟨_,h⟩
            · exact hn1 v (List.mem_of_getElem? h)
            · exact hzcells _ _ v (by rw [<- Array.getElem?_toList];exact h)
      · obtain ⟨cp,q1,q2,q3⟩:=hh.2 hb.hnil
        rw [Nat.zero_mul] at q1
        simp only [Nat.zero_add] at q3
        have hcur:cur.size=m.ct*sz:=by rw [hb.hcs,hosz]
        have hkc:k*sz<=cur.size:=by rw [hcur];exact Nat.mul_le_mul_right _ (by have:=hb.hlen;omega)
        have holdv:∀ (i:Nat) (r:List AV) (j:Nat) (x:AV) (v:Value),ob.rows[i]?=some r->r[j]?=some x->(cur.toList.take (k*sz))[i*sz+j]?=some v->VR s x v:=λi r j x v h1' h2 h3=>by
          have hlt:i*sz+j<k*sz:=by have:=(List.getElem?_eq_some_iff.1 h3).1;simp at this;omega
          rw [List.getElem?_take_of_lt hlt,Array.getElem?_toList] at h3
          exact hb.hv i r j x v h1' h2 (by rw [hosz];exact h3)
        have hheap:s.w.heap[m.b]?=some (.cells cur e (0,0)):=by rw [hb.hb,hb.happ happ,hel]
        by_cases hroom:k+news.length<=cp
        · have hfits:k*i.size+nv.length<=cur.size:=by
            rw [hsz,hnl,<- Nat.add_mul,hcur];exact Nat.mul_le_mul_right _ (by omega)
          have hrun:=run_append_room (P:=P) s.w T o.type e i hT hi m.b k cp cur hheap ad news.length cap nv hnl' hnc hn1 hroom hfits
          rw [hsz] at hrun hfits
          refine fin m.b m.ct _ (s.w.setRow m.b (cur.toList.take (k*sz)++nv++cur.toList.drop (k*sz+nv.length)).toArray) cp rfl rfl rfl (by simp) (λj hj hne=>setRow_other s.w m.b j _ hne) (setRow_heap s.w m.b cur _ e (0,0) hheap) (.inr ⟨ob,m,hob,hmt,hm.hm,hb.hnil,rfl⟩) ?_ hb.hct (by omega) (by omega) ?_ ?_ (by rw [q1,hy0,hrun])
          · rw [List.size_toArray,<- hcur];simp only [List.length_append,List.length_take,List.length_drop,Array.length_toList];omega
          · intro i r j x v hr hxx hv
            exact cells (cur.toList.take (k*sz)) _ (by simp;omega) holdv i r j x v hr hxx (by rw [<- hv,List.getElem?_toArray])
          · intro j v hv
            rw [List.getElem?_toArray] at hv
            rcases oV hv with ⟨_,h⟩ | ⟨_,h⟩
            · rcases oV h with ⟨_,h⟩ | ⟨_,h⟩
              · have hlt:j<k*sz:=by have:=(List.getElem?_eq_some_iff.1 h).1;simp at this;omega
                rw [List.getElem?_take_of_lt hlt,Array.getElem?_toList] at h
                exact hb.h1 _ v h
              · exact hn1 v (List.mem_of_getElem? h)
            · rw [List.getElem?_drop,Array.getElem?_toList] at h
              exact hb.h1 _ v h
        · have hrun := run_append_grow (P := P) s.w T o.type e i z hT hi hz1 ⟨m.b, 0, none⟩ k cp (cur.toList.take (k * sz)) (by rw [hsz]; simp; omega) (λj v hv => by
              rw [addr_add,DO hheap,Nat.zero_add]
              have hlt:j<k*sz:=by have:=(List.getElem?_eq_some_iff.1 hv).1;simp at this;omega
              rw [List.getElem?_take_of_lt hlt,Array.getElem?_toList] at hv;exact hv)
            ad news.length cap nv hnl' hnc (by omega) (by omega) (growslice_fits (by omega) (by rw [hib];exact hfit))
          have hge:=grownCap_ge s.w (k+news.length) cp e
          refine fin s.w.heap.size (grownCap s.w (k+news.length) cp e) _ (s.w.drew.alloc (.cells ((cur.toList.take (k*sz)).toArray++nv.toArray++Builtin.zeroCells z.cells (grownCap s.w (k+news.length) cp e-(k+news.length))) e)) (grownCap s.w (k+news.length) cp e) rfl rfl rfl (by simp) (λj hj _=>alloc_old s.w.drew _ j hj) (uF s.w.drew _) (.inl (Nat.le_refl _)) ?_ (grownCap_le_maxLen _ _ _ _ (by simp only [maxLen];omega)) (by omega) (Nat.le_refl _) ?_ ?_ (by rw [q1,hy0,hrun])
          · rw [Array.size_append,Array.size_append,List.size_toArray,List.size_toArray,size_zeroCells,hzc,hnl]
            have:(cur.toList.take (k*sz)).length=k*sz:=by simp;omega
            rw [this,<- Nat.add_mul,<- Nat.add_mul];congr 1;omega
          · intro i r j x v hr hxx hv
            refine cells (cur.toList.take (k*sz)) (Builtin.zeroCells z.cells (grownCap s.w (k+news.length) cp e-(k+news.length))).toList (by simp;omega) holdv i r j x v hr hxx ?_
            rw [<- hv,<- Array.getElem?_toList];simp
          · intro j v hv
            rw [<- Array.getElem?_toList,Array.toList_append,Array.toList_append] at hv
            rcases oV hv with ⟨_,h⟩ | ⟨_,h⟩
            · rcases oV h with ⟨_,h⟩ | ⟨_,h⟩
              · have hlt:j<k*sz:=by have:=(List.getElem?_eq_some_iff.1 h).1;simp at this;omega
                simp only at h
                rw [List.getElem?_take_of_lt hlt,Array.getElem?_toList] at h
                exact hb.h1 _ v h
              · exact hn1 v (List.mem_of_getElem? h)
            · exact hzcells _ _ v (by rw [<- Array.getElem?_toList];exact h)
theorem aAP {f:AH} {i:Nat} {v w:Option bZ}:upd (upd f i v) i w=upd f i w:=by
  funext k;by_cases h:k=i
  · subst h;rw [upd_same,upd_same]
  · rw [upd_ne _ _ h,upd_ne _ _ h,upd_ne _ _ h]
theorem a0G {e:TypeId} {sz by':Nat} {zs:List Value} (id:Nat) {p:AV} {news:List (List AV)}
    (ho:o.op=.call { callee:=.builtin .append,args:=#[x,y],argTypes:=#[T,T] }) (hT:P.underlying T=some (.slice e)) (hz:kG P e=some (sz,zs)) (hby:lD P e=some by')
    (hx:S.ev x=some (.sc (.slice none 0 0))) (hy:S.ev y=some p) (hid:S.hp id=none) (hcv:Cv S.hp p (.list sz news)) (h1:∀ r∈news,jO r=true) (hfit:news.length*by'<=140737488355328) (hmax:news.length<=9223372036854775807) :
    eG P o S no any (λz H'=>∃ ver',z=.sl id ver' 0 news.length/\H'=upd S.hp id (some ⟨e,sz,true,true,ver',news⟩)):=by
  intro s a next Q hH hops hF hn
  obtain ⟨C,hC⟩:=hH.fin
  have hxv:=(hops x (by simp [ho,Op.operands,Call.operands]) _ hx).iY
  have hyv:=hcv s hH _ (hops y (by simp [ho,Op.operands,Call.operands]) _ hy)
  obtain ⟨s1,g1,g2,g3,g4,g5⟩:=yC hH id ⟨e,sz,true,true,C,[]⟩ (hC C (Nat.le_refl _)) rfl (.inl hid)
  have hun:¬ s1.used (C+1):=by
    rw [g2];rintro (h | h)
    · exact hC _ (by omega) h
    · simp at h
  have hxv1:VR s1 (.sl id C 0 0) (a.eval x):=by
    rw [hxv]
    refine .sl (by rw [g2];exact .inr rfl) rfl λm hm _=>?_
    rw [g3] at hm;cases hm
    exact ⟨λ_=>⟨rfl,rfl⟩,λh=>by cases h⟩
  rw [<- g1]
  refine aK0 (S:={ S with hp:=upd S.hp id (some ⟨e,sz,true,true,C,[]⟩) }) (U:=any) (ver':=C+1) (aU:=C) (k:=0) (id:=id) (ob:=⟨e,sz,true,true,C,[]⟩) (news:=news) (o:=o) (x:=x) (y:=y) g4 hxv1 (g5.vals _ _ hyv) trivial hun ?_ ho hT hz hby (upd_same _ _ _) rfl rfl rfl rfl rfl rfl h1 (by simpa using hfit) (by simpa using hmax)
  rintro s2 v z H' ⟨rfl,rfl⟩ q1 q2 q3 q4
  have e1:upd (upd S.hp id (some (⟨e,sz,true,true,C,[]⟩:bZ))) id (some ⟨e,sz,true,true,C+1,[]++news⟩)=upd S.hp id (some ⟨e,sz,true,true,C+1,news⟩):=by rw [aAP];rfl
  have e2:0+news.length=news.length:=Nat.zero_add _
  simp only [e2] at q1
  have q2':HR s2 (upd S.hp id (some ⟨e,sz,true,true,C+1,news⟩)):=by rw [<- e1];exact q2
  have q3':Fr s S.hp s2 (upd S.hp id (some ⟨e,sz,true,true,C+1,news⟩)):=by rw [<- e1];exact g5.trans q3
  exact hn s2 v _ _ ⟨C+1,rfl,rfl⟩ q1 q2' q3' (λk _=>.inr trivial)
variable {α:Type}
theorem V5 {g:α->List AV} (h:∀ a,jO (g a)=true) (l:List α):∀ r∈l.map g,jO r=true:=λr hr=>by
  obtain ⟨a,_,rfl⟩:=List.mem_map.1 hr;exact h a
theorem oH {F U V:Nat->Prop} {e:TypeId} {sz by':Nat} {zs:List Value} {id aU k:Nat} {ob:bZ} {p:AV} {g:α->List AV} {l m l':List α} (hp:qK F U V)
    (ho:o.op=.call { callee:=.builtin .append,args:=#[x,y],argTypes:=#[T,T] }) (hT:P.underlying T=some (.slice e)) (hz:kG P e=some (sz,zs)) (hby:lD P e=some by') (hb:Nat.ble by' 2048=true)
    (hx:S.ev x=some (.sl id aU 0 k)) (hy:S.ev y=some p) (hob:S.hp id=some ob) (dV:ob.aU=aU) (hmt:ob.mt=true) (happ:ob.app=true) (hel:ob.elem=e) (hosz:ob.sz=sz) (hr:ob.rows=l.map g) (hk:k=l.length)
    (hcv:Cv S.hp p (aN sz g m)) (h1:∀ a,jO (g a)=true) (hl:l++m=l') (hfit:l'.length<=68719476736) :
    eG P o S F U (λz H'=>∃ ver',V ver'/\z=.sl id ver' 0 l'.length/\H'=upd S.hp id (some ⟨e,sz,true,true,ver',l'.map g⟩)):=by
  subst hl hk
  have hb':=Nat.le_of_ble_eq_true hb
  have e1:l.length+(m.map g).length=(l++m).length:=by rw [List.length_map,List.length_append]
  have hmul:(l++m).length*by'<=68719476736*2048:=Nat.mul_le_mul hfit hb'
  have:=aNV (news:=m.map g) hp ho hT hz hby hx hy hob dV hmt happ hel hosz (by rw [hr,List.length_map]) hcv (V5 h1 m) (by rw [e1];omega) (by rw [e1];omega)
  intro s a next Q q1 q2 q3 q4
  refine this s a next Q q1 q2 q3 ?_
  rintro s' v z H' ⟨ver',hV,rfl,rfl⟩
  refine q4 s' v _ _ ⟨ver',hV,by rw [e1],?_⟩
  rw [hr,List.map_append]
  obtain ⟨oe,os,om,oa,ov,orr⟩:=ob
  simp only at hmt happ hel hosz hr
  subst hmt happ hel hosz
  rfl
theorem tK {e:TypeId} {sz by':Nat} {zs:List Value} (id:Nat) {p:AV} {g:α->List AV} {m:List α}
    (ho:o.op=.call { callee:=.builtin .append,args:=#[x,y],argTypes:=#[T,T] }) (hT:P.underlying T=some (.slice e)) (hz:kG P e=some (sz,zs)) (hby:lD P e=some by') (hb:Nat.ble by' 2048=true)
    (hx:S.ev x=some (.sc (.slice none 0 0))) (hy:S.ev y=some p) (hid:S.hp id=none) (hcv:Cv S.hp p (aN sz g m)) (h1:∀ a,jO (g a)=true) (hfit:m.length<=68719476736) :
    eG P o S no any (λz H'=>∃ ver',z=.sl id ver' 0 m.length/\H'=upd S.hp id (some ⟨e,sz,true,true,ver',m.map g⟩)):=by
  have hb':=Nat.le_of_ble_eq_true hb
  have hmul:m.length*by'<=68719476736*2048:=Nat.mul_le_mul hfit hb'
  have:=a0G (news:=m.map g) id ho hT hz hby hx hy hid hcv (V5 h1 m) (by rw [List.length_map];omega) (by rw [List.length_map];omega)
  simpa only [List.length_map] using this
theorem iJ {e:TypeId} {sz k id aU:Nat} {b:Bool} {kk:IntKind} {i:Int} {ob:bZ} {l:List α} {v:α} (ho:o.op=.indexAddr T x y) (hT:P.underlying T=some (.slice e)) (he:gW P e=some (sz,b))
    (hx:S.ev x=some (.sl id aU 0 k)) (hy:S.ev y=some (.sc (.int kk i))) (hob:S.hp id=some ob) (dV:ob.aU=aU) (hsz:ob.sz=sz) (hk:k=l.length) (hrl:ob.rows.length=l.length) (h:ix l i=some v):dW P o S (.pt id aU i.toNat 0):=by
  have hlt:=yY h
  have:=GL.sl (S:=S) (sz:=sz) (id:=id) (aU:=aU) (off:=0) (len:=k) (i:=i.toNat) hob dV hsz (by omega) (by omega)
  rw [Nat.zero_add] at this
  exact mX ho hT he hx hy (qW h).1 this
theorem jW {β:Type} {l l':List β} {i:Int} {v v':β} (h:ix l i=some v) (e:l.set i.toNat v'=l'):ix l' i=some v':=by
  subst e
  have h1:=qW h
  have hlt:=yY h
  unfold ix
  rw [if_neg (by omega),List.getElem?_set_self hlt]
theorem iW {β:Type} {l:List β} {i:Int} {v:β} {g:β->List AV} {c:List AV} (h:ix l i=some v):((l.map g).set i.toNat c)[i.toNat]?=some c :=
  List.getElem?_set_self (by rw [List.length_map];exact yY h)
theorem jJ {T sz aU:Nat} {mt app:Bool} {r r':List (List AV)} (h:r=r'):(⟨T,sz,mt,app,aU,r⟩:bZ)=⟨T,sz,mt,app,aU,r'⟩:=by rw [h]
theorem kU {β:Type} {l l':List β} {i:Nat} {v':β} {g:β->List AV} (e:l.set i v'=l'):(l.map g).set i (g v')=l'.map g:=by subst e;rw [List.map_set]
theorem zH {r:List (List AV)} {i:Nat} {a b:List AV}:(r.set i a).set i b=r.set i b:=by simp
theorem jU {β:Type} {l l':List β} {i k:Nat} {v':β} (e:l.set i v'=l') (h:l.length=k):l'.length=k:=by subst e;rw [List.length_set];exact h
theorem AA {β:Type} {l:List β} {i:Nat} {g:β->List AV} {c:List AV}:((l.map g).set i c).length=l.length:=by rw [List.length_set,List.length_map]
theorem sM {H:AH} {id aU off a b:Nat} (h:a=b):Cv H (.sl id aU off a) (.sl id aU off b):=by subst h;exact .refl _
theorem jN.list {H:AH} {sz:Nat} {xs ys:List (List AV)} (h:jN H xs ys):Cv H (.list sz xs) (.list sz ys):=λs hs v hv=>by
  obtain ⟨h1,h2⟩:=h.get
  cases hv with
  | nil =>
    have:ys=[]:=List.eq_nil_of_length_eq_zero (by simpa using h1.symm)
    subst this;exact .nil sz
  | emp _ a =>
    have:ys=[]:=List.eq_nil_of_length_eq_zero (by simpa using h1.symm)
    subst this;exact .emp sz a
  | list f hI hc hm hr hf hv =>
    rw [h1]
    refine .list f hI (by omega) hm (λi r hi=>?_) (λi r j x hi hj=>?_) (λi r j x hi hj=>?_)
    · obtain ⟨r0,g1,g2⟩:=h2 i r hi;rw [<- g2.get.1];exact hr i r0 g1
    · obtain ⟨r0,g1,g2⟩:=h2 i r hi
      obtain ⟨x0,g3,_⟩:=g2.get.2 j x hj
      exact hf i r0 j x0 g1 g3
    · obtain ⟨r0,g1,g2⟩:=h2 i r hi
      obtain ⟨x0,g3,g4⟩:=g2.get.2 j x hj
      exact g4 s hs _ (hv i r0 j x0 g1 g3)
theorem pO {H:AH} {id aU len sz:Nat} {ob:bZ} {g:α->List AV} {l:List α} {i:Int} {v v':α} {cells:List AV} (ho:H id=some ob) (dV:ob.aU=aU) (hmt:ob.mt=false) (hsz:ob.sz=sz)
    (hr:ob.rows=(l.map g).set i.toNat cells) (hl:len=l.length) (hx:ix l i=some v) (hc:dX H cells (g v')):Cv H (.sl id aU 0 len) (aN sz g (l.set i.toNat v')):=by
  have hlt:=yY hx
  have hrr:jN H ob.rows ((l.set i.toNat v').map g):=by
    rw [hr,List.map_set]
    have:∀ (xs:List (List AV)) (k:Nat) (c c':List AV),dX H c c'->jN H (xs.set k c) (xs.set k c'):=by
      intro xs
      induction xs with
      | nil=>intro k c c' _;simp;exact .nil
      | cons a r ih =>
        intro k c c' h
        cases k with
        | zero=>exact .cons h (jN.refl _)
        | succ k=>exact .cons (dX.refl _) (ih k c c' h)
    exact this _ _ _ _ hc
  have:=Cv.sl (rows:=(l.set i.toNat v').map g) (off:=0) (len:=len) ho dV hmt hrr (by rw [List.length_map,List.length_set];omega)
  rw [hsz] at this
  have e:(((l.set i.toNat v').map g).drop 0).take len=(l.set i.toNat v').map g:=by rw [List.drop_zero,hl,List.take_of_length_le (by rw [List.length_map,List.length_set];exact Nat.le_refl _)]
  rw [e] at this;exact this
inductive ZC:AV->Value->Prop
  | sc (v:Value):ZC (.sc v) v
  | nil (sz:Nat):ZC (.list sz []) (.slice none 0 0)
inductive ZL:List AV->List Value->Prop
  | nil:ZL [] []
  | cons {x:AV} {v:Value} {xs:List AV} {vs:List Value} (h:ZC x v) (t:ZL xs vs):ZL (x :: xs) (v :: vs)
theorem ZL.get {xs:List AV} {vs:List Value} (h:ZL xs vs):xs.length=vs.length/\∀ (s:Sit) (j:Nat) (x:AV) (v:Value),xs[j]?=some x->vs[j]?=some v->VR s x v:=by
  induction h with
  | nil=>exact ⟨rfl,λs j x v h=>by simp at h⟩
  | cons h t ih =>
    refine ⟨by simp [ih.1],λs j x v h1 h2=>?_⟩
    cases j with
    | zero =>
      simp at h1 h2;subst h1 h2
      cases h with
      | sc=>exact .sc _
      | nil=>exact .nil _
    | succ j=>exact ih.2 s j x v (by simpa using h1) (by simpa using h2)
theorem BX {F U V:Nat->Prop} {e:TypeId} {sz by':Nat} {zs:List Value} (id:Nat) {g:α->List AV} {z0:α} {N:Int} {l:List α} (hp:qK F U V)
    (ho:o.op=.makeSlice T x y) (hT:P.underlying T=some (.slice e)) (hz:kG P e=some (sz,zs)) (hby:lD P e=some by') (hb:Nat.ble by' 2048=true)
    (hx:S.ev x=some (.sc (.int .i64 N))) (hy:S.ev y=some (.sc (.int .i64 N))) (hN:0<=N/\N<=1048576) (hg:ZL (g z0) zs) (hl:List.replicate N.toNat z0=l) :
    eG P o S F U (λz H'=>∃ ver',V ver'/\z=.sl id ver' 0 N.toNat/\H'=upd S.hp id (some ⟨e,sz,true,true,ver',l.map g⟩)):=by
  subst hl
  intro s a next Q hH hops hF hn
  obtain ⟨ver',hV,hU,hun⟩:=hp.get hH hF
  obtain ⟨i,hi,hsz,hzo,hzl,hpos,h1⟩:=BY hz
  obtain ⟨z,hz1,hz2⟩:=yT hzo s.w
  have hzc:z.cells.size=sz:=by rw [<- Array.length_toList,hz1,hzl]
  have hib:i.bytes=by':=by unfold lD at hby;rw [hi] at hby;simpa using hby
  have hb':=Nat.le_of_ble_eq_true hb
  have hxv:=(hops x (by simp [ho,Op.operands]) _ hx).iY
  have hyv:=(hops y (by simp [ho,Op.operands]) _ hy).iY
  obtain ⟨k,rfl⟩:∃ k:Nat,N=(k:Int):=⟨N.toNat,by omega⟩
  have hk:k<=1048576:=by omega
  obtain ⟨zl,zg⟩:=hg.get
  let z0':Array Value:=(Array.range (k*sz)).map (z.cells[· % z.cells.size]!)
  have hget:∀ j,j<k*sz->z0'[j]?=zs[j % sz]?:=λj hj=>by
    have hm:j % sz<sz:=Nat.mod_lt _ hpos
    simp only [z0',Array.getElem?_map,Array.getElem?_range,hj,if_true,Option.map_some,hzc]
    rw [<- hz1,Array.getElem?_toList]
    rw [getElem!_pos z.cells (j % sz) (by omega),Array.getElem?_eq_getElem (by omega)]
  have hsize:z0'.size=k*sz:=by simp [z0']
  obtain ⟨s',g1,g2,g3,g4,g5⟩:=wD hH id ⟨e,sz,true,true,ver',(List.replicate k z0).map g⟩ s.w.heap.size k z0' (s.w.alloc (.cells z0' e)) rfl rfl rfl (by simp)
    (λj hj _=>alloc_old s.w _ j hj) (uF s.w _) (.inl (Nat.le_refl _)) hun rfl (by simp [hsize]) (by simp [maxLen];omega) (by simp)
    (λi r hr=>by
      rw [List.getElem?_map] at hr
      obtain ⟨q,hq,rfl⟩:=Option.map_eq_some_iff.1 hr
      have:=List.mem_of_getElem? hq
      rw [(List.eq_of_mem_replicate this)]
      simp [zl,hzl])
    (λi r j x v hr hxx hv=>by
      rw [List.getElem?_map] at hr
      obtain ⟨q,hq,rfl⟩:=Option.map_eq_some_iff.1 hr
      have hik:i<k:=by have:=(List.getElem?_eq_some_iff.1 hq).1;simpa using this
      rw [List.eq_of_mem_replicate (List.mem_of_getElem? hq)] at hxx
      have hj:j<sz:=by have:=(List.getElem?_eq_some_iff.1 hxx).1;omega
      simp only at hv
      have hlt:i*sz+j<k*sz:=by
        have:(i+1)*sz<=k*sz:=Nat.mul_le_mul_right _ (by omega)
        rw [Nat.add_mul] at this;omega
      rw [hget _ hlt,Nat.mul_comm,Nat.mul_add_mod,Nat.mod_eq_of_lt hj] at hv
      exact zg s j x v hxx hv)
    (λj v hv=>by
      have hj:j<k*sz:=by have:=(Array.getElem?_eq_some_iff.1 hv).1;omega
      rw [hget j hj] at hv
      exact vI h1 _ v hv)
  refine lM (w':=s'.w) (v:=.slice (some ⟨s.w.heap.size,0,none⟩) k k) ?_ (hn s' _ (.sl id ver' 0 k) _ ⟨ver',hV,by simp,by simp⟩ ?_ g4 g5 λj hj=>?_)
  · rw [g1]
    have hty:(typeInfo e).run P s.w=.ok i s.w:=by simp [typeInfo,program,Sem.run,hi]
    have hsz':(sizeOf e).run P s.w=.ok sz s.w:=by simp [sizeOf,typeInfo,program,Sem.run,hi,hsz]
    have hwr:IntKind.i64.wrap (k:Int)=k:=IntWalk.i64_in _ (by omega)
    have hmul:i.bytes*k<=2048*1048576:=by rw [hib];exact Nat.mul_le_mul hb' hk
    have hmulI:((i.bytes:Int)*(k:Int))<=2147483648:=by
      have h:((i.bytes*k:Nat):Int)<=((2048*1048576:Nat):Int):=Int.ofNat_le.2 hmul
      rw [Int.natCast_mul] at h;omega
    have hroom:¬ (k*i.bytes>roomBytes):=by rw [Nat.mul_comm];simp only [roomBytes];omega
    have ht1:¬ ((k:Int)<0):=by omega
    have ht2:¬ ((i.bytes:Int)*(k:Int)>2 ^ 48):=by omega
    simp only [execOp,ho,hxv,hyv,Instr.makeSlice,Sem.run_bind,run_underlying hT,Result.andThen_ok,asInt,asIntOf,Sem.run_pure,hty,hwr]
    simp only [ht1,ht2,decide_false,Bool.or_self,Bool.false_or,Bool.false_eq_true,Int.lt_irrefl,if_false,gt_iff_lt,askRoom,Int.toNat_natCast,hroom,Sem.run_bind,Sem.run_pure,Result.andThen_ok,hsz']
    by_cases h0:k*sz=0
    · have hzz:(Array.range 0).map ((#[]:Array Value)[· % (#[]:Array Value).size]!)=z0':=by simp [z0',h0]
      simp only [h0,if_true,Sem.run_pure,Result.andThen_ok,hzz,newRow,newObj,Sem.run,Sem.run_bind]
      rfl
    · simp only [h0,if_false,Sem.run_bind,hz2,Result.andThen_ok,Sem.run_pure,newRow,newObj,Sem.run]
      rfl
  · refine .sl (by rw [g2];exact .inr rfl) rfl λm hm _=>?_
    rw [g3] at hm;cases hm
    exact ⟨λh=>(by cases h),λ_=>⟨k,by simp,Nat.le_refl _,by simp⟩⟩
  · rw [g2] at hj;rcases hj with h | h;exact .inl h;exact .inr (h ▸ hU)
end
end Go.Pv
