import Derived.Test.YtihfgehjjbnffaaGreatPvJ
import Derived.Lib.Builder
import Derived.Lib.UnsafeStr
import Derived.Lib.AppendStr
import Derived.WalkKit
import Derived.ProofKit
import Derived.OpenShut
import Derived.ShutString
import Derived.ChangeOld
import Derived.Below
import Derived.Lib.ConvBytes
set_option linter.unusedVariables false
set_option linter.unusedSimpArgs false
namespace Go.Pv
section
variable {P:Program} {n:NT} {S:AS} {o:Oper} {T:TypeId} {x y:Operand}
end
section
variable {P:Program} {n:NT} {S:AS} {o:Oper} {T:TypeId} {x y:Operand}
end
@[reducible] def aH {α:Type} (sz:Nat) (f:α->List AV) (l:List α):AV:=.list sz (l.map f)
theorem uY {α:Type} {S:AS} {sz:Nat} {f:α->List AV} (l:List α):xO S (aH sz f l) l.length:=by
  have:=xO.list (S:=S) sz (l.map f)
  rwa [List.length_map] at this
theorem dZ {α:Type} {H:AH} {id aN len sz:Nat} {ob:bH} {f:α->List AV} {l:List α} (ho:H id=some ob) (bX:ob.aN=aN) (hmt:ob.mt=false) (hsz:ob.sz=sz) (hr:ob.rows=l.map f) (hl:len=l.length):Cv H (.sl id aN 0 len) (aH sz f l):=by
  have:=Cv.sl (rows:=l.map f) (off:=0) (len:=len) ho bX hmt (by rw [hr];exact iT.refl _) (by rw [List.length_map];omega)
  rw [hsz] at this
  have e:((l.map f).drop 0).take len=l.map f:=by rw [List.drop_zero,hl,List.take_of_length_le (by rw [List.length_map];exact Nat.le_refl _)]
  rw [e] at this;exact this
theorem aU4 {α:Type} {sz:Nat} {f:α->List AV} (l:List α) (h:∀ a∈l,∀ x∈f a,PV x):PV (aH sz f l):=.list λr hr x hx=>by
  obtain ⟨a,ha,rfl⟩:=List.mem_map.1 hr
  exact h a ha x hx
@[reducible] def int (n:Int):AV:=.sc (.int .i64 n)
@[reducible] def aI (b:Bool):AV:=.sc (.bool b)
@[reducible] def str (l:List UInt8):AV:=.sc (.string (bs l))
@[reducible] def ints (l:List Int):AV:=aH 1 (λn=>[int n]) l
theorem mJ {a:Int} (h:0<=a/\a<=18446744073709551615):IntKind.u64.wrap a=a:=by
  simp only [IntKind.wrap,IntKind.bits,IntKind.signed];simp;omega
theorem aUY {a:Int} (h:0<=a/\a<=255):IntKind.u8.wrap a=a:=IntWalk.u8_in a h
def rd:List UInt8->Nat->Nat->Option (Nat×List UInt8)
  | [],_,_=>none
  | c :: r,i,u =>
    if 9<i\/(i=9/\1<c.toNat) then none
    else if 128<=c.toNat then rd r (i+1) (u+c.toNat % 128*2 ^ (7*i))
    else if c.toNat=0/\0<i then none
    else some (u+c.toNat % 128*2 ^ (7*i),r)
def zz (v:Int):Nat:=if v<0 then (-(2*v)-1).toNat else (2*v).toNat
theorem aJ8 {P:Program} {t:TypeId} {k:Nat} (h:((P.info? t).map (·.size))=some k):∃ j,P.info? t=some j/\j.size=k:=by
  cases hj:P.info? t with
  | none=>rw [hj] at h;cases h
  | some j=>rw [hj] at h;exact ⟨j,rfl,by simpa using h⟩
section
variable {P:Program} {n:NT} {S:AS} {o:Oper} {T:TypeId} {x y:Operand}
end
def held:Option (Nat×List UInt8)->List UInt8 | none=>[] | some (_,l)=>l
def ZR:Nat->Nat->List UInt8
  | 0,u=>[UInt8.ofNat u]
  | f+1,u=>if u<128 then [UInt8.ofNat u] else UInt8.ofNat (u % 128+128) :: ZR f (u / 128)
def enc (v:Int):List UInt8:=ZR 10 (zz v)
def isI (v:Int):Prop:=-9223372036854775808<=v/\v<=9223372036854775807
instance (v:Int):Decidable (isI v):=inferInstanceAs (Decidable (_/\_))
theorem aX1 (a:Int):IntKind.u64.wrap a=a % 18446744073709551616:=by
  simp only [IntKind.wrap,IntKind.bits,IntKind.signed];simp
inductive Has:AV->Nat->Prop
  | pt {id aN row off:Nat}:Has (.pt id aN row off) aN
  | sl {id aN off len:Nat}:Has (.sl id aN off len) aN
  | list {sz k:Nat} {xs:List (List AV)} {i j:Nat} {r:List AV} {x:AV} (h1:xs[i]?=some r) (h2:r[j]?=some x) (h:Has x k):Has (.list sz xs) k
  | pp {cs:List AV} {i k:Nat} {x:AV} (h1:cs[i]?=some x) (h:Has x k):Has (.pp cs) k
  | agg {cs:List AV} {i k:Nat} {x:AV} (h1:cs[i]?=some x) (h:Has x k):Has (.agg cs) k
  | fn1 {f:Fn} {a c:List AV} {i k:Nat} {x:AV} (h1:a[i]?=some x) (h:Has x k):Has (.fn f a c) k
  | fn2 {f:Fn} {a c:List AV} {i k:Nat} {x:AV} (h1:c[i]?=some x) (h:Has x k):Has (.fn f a c) k
  | gB {t:TypeId} {k:Nat} {x:AV} (h:Has x k):Has (.gB t x) k
  | bD {cs:List AV} {i k:Nat} {x:AV} (h1:cs[i]?=some x) (h:Has x k):Has (.bD cs) k
  | mp {ks:List Int} {cs:List AV} {i k:Nat} {x:AV} (h1:cs[i]?=some x) (h:Has x k):Has (.mp ks cs) k
theorem LA {α:Type} {l:Array α} {n i:Nat} (h:n=l.size) (hi:i<n):∃ v,l[i]?=some v:=⟨l[i]'(by omega),Array.getElem?_eq_getElem (by omega)⟩
theorem BH {α:Type} {l:List α} {i:Nat} {x:α} (h:l[i]?=some x):i<l.length:=(List.getElem?_eq_some_iff.1 h).1
theorem VR.has {s:Sit} {x:AV} {v:Value} (h:VR s x v):∀ k,Has x k->s.used k:=by
  induction h with
  | sc v=>intro k h;cases h
  | nil sz=>intro k h;cases h with | list h1 _ _=>simp at h1
  | emp sz a=>intro k h;cases h with | list h1 _ _=>simp at h1
  | list f hI hc hm hr hf _ ih=>intro k h;cases h with | list h1 h2 h=>exact ih _ _ _ _ h1 h2 k h
  | pp f hI hf _ ih=>intro k h;cases h with | pp h1 h=>exact ih _ _ h1 k h
  | pt hk h1 h=>intro k h;cases h;exact hk
  | sl hk h1 h=>intro k h;cases h;exact hk
  | agg hl _ ih=>intro k h;cases h with | agg h1 h=>obtain ⟨v,hv⟩:=LA hl (BH h1);exact ih _ _ v h1 hv k h
  | fn hl hl' _ _ ih ih' =>
    intro k h
    cases h with
    | fn1 h1 h=>obtain ⟨v,hv⟩:=LA hl (BH h1);exact ih _ _ v h1 hv k h
    | fn2 h1 h=>obtain ⟨v,hv⟩:=LA hl' (BH h1);exact ih' _ _ v h1 hv k h
  | gB _ ih=>intro k h;cases h with | gB h=>exact ih k h
  | bD hl _ ih=>intro k h;cases h with | bD h1 h=>obtain ⟨v,hv⟩:=LA hl (BH h1);exact ih _ _ v h1 hv k h
  | mp hI' hb hk hl _ ih=>intro k h;cases h with | mp h1 h=>exact ih _ _ _ h1 (List.getElem?_eq_getElem (by have:=BH h1;omega)) k h
theorem PV.has {x:AV} (h:PV x):∀ k,¬ Has x k:=by
  induction h with
  | sc v=>intro k h;cases h
  | list _ ih=>intro k h;cases h with | list h1 h2 h=>exact ih _ (List.mem_of_getElem? h1) _ (List.mem_of_getElem? h2) k h
  | pp _ ih=>intro k h;cases h with | pp h1 h=>exact ih _ (List.mem_of_getElem? h1) k h
  | agg _ ih=>intro k h;cases h with | agg h1 h=>exact ih _ (List.mem_of_getElem? h1) k h
  | fn _ _ ih ih' =>
    intro k h
    cases h with
    | fn1 h1 h=>exact ih _ (List.mem_of_getElem? h1) k h
    | fn2 h1 h=>exact ih' _ (List.mem_of_getElem? h1) k h
  | gB _ ih=>intro k h;cases h with | gB h=>exact ih k h
  | bD _ ih=>intro k h;cases h with | bD h1 h=>exact ih _ (List.mem_of_getElem? h1) k h
  | mp _ ih=>intro k h;cases h with | mp h1 h=>exact ih _ (List.mem_of_getElem? h1) k h
theorem dK {P:Program} {S:AS} {o:Oper} {x y:AV} (h:bW P o S x) (e:x=y):bW P o S y:=e ▸ h
open Go.ChangeShapes Go.WideShapes Go.ChangeAt Go.RowKit
def QH (w:World) (a:Option Addr) (len cap:Nat) (zs:List Int):Prop :=
  (a=none/\len=0/\cap=0/\zs=[]) \/
  ∃ b off,a=some ⟨b,off,none⟩/\b<w.heap.size/\len<=cap/\cap<=maxLen/\zs.length=cap/\(∀ i,i<zs.length->w.cell? ((⟨b,off,none⟩:Addr).add i)=some (.int .i64 (zs.getD i 0)))/\∀ n∈zs,(Lit.int .i64 n).wf=true
theorem row_of {H:Type} {enc:TypeId×Value->H} {P:Program} {w:World} {base b0:Nat} {held:Bool} {t e:TypeId} {v:Value} {d:DataW H} {ps:List MemPlace} (ht:P.underlying t=some (.slice e)) (he:P.underlying e=some (.int .i64)) (hc:P.cellsOf e=1)
    (hval:Value.okWide P w .any b0 t v) (h:DataW.Trod enc P w base (λ_=>true) held t v d ps):∃ a len cap zs,v=.slice a len cap/\QH w a len cap zs:=by
  obtain ⟨a,len,cap,rfl⟩:=okWide_slice ht hval
  obtain ⟨fuel,hf⟩:=h
  rcases open_ints ht he hc hf with ⟨hcs,_⟩ | ⟨x,l,c,zs,hcs,_,hl,hm,hz,_,hcell,hwz⟩
  · simp [Value.cells] at hcs
    obtain ⟨rfl,rfl,rfl⟩:=hcs
    exact ⟨none,0,0,[],rfl,.inl ⟨rfl,rfl,rfl,rfl⟩⟩
  · simp [Value.cells] at hcs
    obtain ⟨rfl,rfl,rfl⟩:=hcs
    have hh:w.has P .any b0 x e cap:=by
      simp only [Value.okWide,ht,Cell.okWide,Cell.ok] at hval
      first | exact hval.2.2 | (split at hval <;> simp_all)
    obtain ⟨_,hsp,row,cells,hsh,_⟩:=hh
    have hb:x.block<w.heap.size:=by
      unfold World.shape? at hsh
      cases hg:w.heap[x.block]? with
      | none=>rw [hg] at hsh;cases hsh
      | some o=>exact (Array.getElem?_eq_some_iff.1 hg).1
    obtain ⟨b,off,spot⟩:=x
    have hsp:spot=none:=hsp
    subst hsp
    exact ⟨_,_,_,zs,rfl,.inr ⟨b,off,rfl,hb,hl,hm,by simpa using hz,hcell,hwz⟩⟩
def s0 (w:World):Sit:=⟨w,λb=>b<w.heap.size,λ_=>none,λ_=>False⟩
theorem aKO {w:World} {a:Option Addr} {len cap:Nat} {zs:List Int} (h:QH w a len cap zs):VR (s0 w) (ints (zs.take len)) (.slice a len cap):=by
  rcases h with ⟨rfl,rfl,rfl,rfl⟩ | ⟨b,off,rfl,hb,hl,hm,hz,hcell,hwz⟩
  · exact .nil 1
  · have hlen:((zs.take len).map λn=>[int n]).length=len:=by rw [List.length_map,List.length_take];omega
    have key:∀ (i:Nat) (r:List AV) (j:Nat) (x:AV),((zs.take len).map λn=>[int n])[i]?=some r->r[j]?=some x->j=0/\x=int (zs.getD i 0)/\i<zs.length:=by
      intro i r j x h1 h2
      rw [List.getElem?_map] at h1
      cases hg:(zs.take len)[i]? with
      | none=>rw [hg] at h1;cases h1
      | some n =>
        rw [hg] at h1;simp only [Option.map_some,Option.some.injEq] at h1
        subst h1
        have hi:=BH hg
        rw [List.length_take] at hi
        rw [List.getElem?_take] at hg
        have hn:zs.getD i 0=n:=by
          split at hg
          · simp [hg]
          · cases hg
        cases j with
        | zero=>simp at h2;exact ⟨rfl,by rw [<- h2,hn],by omega⟩
        | succ j=>simp at h2
    have:=VR.list (s:=s0 w) (sz:=1) (xs:=(zs.take len).map λn=>[int n]) (b:=b) (off:=off) (cap:=cap) (λi _=>.int .i64 (zs.getD i 0)) hb (by omega) hm
      (λi r h1=>by
        rw [List.getElem?_map] at h1
        cases hg:(zs.take len)[i]? with
        | none=>rw [hg] at h1;cases h1
        | some n=>rw [hg] at h1;simp only [Option.map_some,Option.some.injEq] at h1;subst h1;rfl)
      (λi r j x h1 h2=>by
        obtain ⟨rfl,rfl,hi⟩:=key i r j x h1 h2
        have:=hcell i hi
        rw [addr_add] at this
        show w.cell? _=_
        rw [Nat.mul_one,Nat.add_zero,this])
      (λi r j x h1 h2=>by obtain ⟨rfl,rfl,hi⟩:=key i r j x h1 h2;exact .sc _)
    rw [hlen] at this
    exact this
inductive VL (s:Sit):List AV->List Value->Prop
  | nil:VL s [] []
  | cons {x:AV} {v:Value} {xs:List AV} {vs:List Value} (h:VR s x v) (hs:VL s xs vs):VL s (x :: xs) (v :: vs)
theorem VL.len {s:Sit} {xs:List AV} {vs:List Value} (h:VL s xs vs):xs.length=vs.length:=by
  induction h with
  | nil=>rfl
  | cons _ _ ih=>simp [ih]
theorem VL.get {s:Sit} {xs:List AV} {vs:List Value} (h:VL s xs vs):∀ (i:Nat) (x:AV) (v:Value),xs[i]?=some x->vs[i]?=some v->VR s x v:=by
  induction h with
  | nil=>intro i x v h1 _;simp at h1
  | cons ha _ ih =>
    intro i x v h1 h2
    cases i with
    | zero=>simp at h1 h2;subst h1 h2;exact ha
    | succ i=>exact ih i x v (by simpa using h1) (by simpa using h2)
theorem aQM {s:Sit} {xs:List AV} {vs:List Value} (h:VL s xs vs):mU s xs vs.toArray :=
  ⟨by simp [h.len],λi x v h1 h2=>h.get i x v h1 (by simpa using h2)⟩
end Go.Pv
namespace Go.Pv
end Go.Pv
namespace Go.Pv
section plain
variable {α β γ δ:Type}
def bnd (x:α) (f:α->Option β):Option β:=f x
theorem iZ {x:α} {f:α->Option β} {r:β} (h:bnd x f=some r):∃ t,x=t/\f t=some r:=⟨x,rfl,h⟩
theorem dJ {x:Option α} {f:α->Option β} {r:β} (h:x.bind f=some r):∃ t,x=some t/\f t=some r:=by
  cases x with
  | none=>cases h
  | some t=>exact ⟨t,rfl,h⟩
def gZ (p:Prop) [Decidable p] (k:Option β):Option β:=if p then k else none
theorem jQ {p:Prop} [Decidable p] {k:Option β} {r:β} (h:gZ p k=some r):p/\k=some r:=by
  unfold gZ at h;by_cases hp:p
  · rw [if_pos hp] at h;exact ⟨hp,h⟩
  · rw [if_neg hp] at h;cases h
theorem ct {A B:Option β} {r:Option β} (h:cond true A B=r):A=r:=h
theorem cf {A B:Option β} {r:Option β} (h:cond false A B=r):B=r:=h
def esc (x:Option β):Option (α⊕β):=x.map .inr
theorem IJ {x:Option β} {j:α⊕β} (h:esc x=some j):∃ c,x=some c/\j=.inr c:=by
  unfold esc at h
  cases x with
  | none=>cases h
  | some c=>simp at h;exact ⟨c,rfl,h.symm⟩
def brk (a:α):Option (α⊕β):=some (.inl a)
theorem aFR {a:α} {j:α⊕β} (h:(brk a:Option (α⊕β))=some j):j=.inl a:=by unfold brk at h;simpa using h.symm
theorem eU {a j:α} (h:some a=some j):a=j:=by simpa using h
def sel (f:α->Option β):α⊕β->Option β
  | .inl a=>f a
  | .inr c=>some c
theorem II {f:α->Option β} {c:β} {r:β} (h:sel f (.inr c)=some r):some c=some r:=h
def p2 (f:α->β->γ) (p:α×β):γ:=f p.1 p.2
theorem vP {f:α->β->γ} {a:α} {b:β} {r:γ} (h:p2 f (a,b)=r):f a b=r:=h
def ix (l:List α) (i:Int):Option α:=if i<0 then none else l[i.toNat]?
theorem pJ {l:List α} {i:Int} {v:α} (h:ix l i=some v):i=(i.toNat:Int)/\l[i.toNat]?=some v:=by
  unfold ix at h
  by_cases hi:i<0
  · rw [if_pos hi] at h;cases h
  · rw [if_neg hi] at h;exact ⟨by omega,h⟩
theorem dN {l:List α} {i:Int} {v:α} {f:α->β} (h:ix l i=some v):(l.map f)[i.toNat]?=some (f v):=by rw [List.getElem?_map,(pJ h).2];rfl
theorem xS {l:List α} {i:Int} {v:α} (h:ix l i=some v):i.toNat<l.length:=(List.getElem?_eq_some_iff.1 (pJ h).2).1
end plain
abbrev bA (a:Int):Int:=IntKind.i64.wrap a
abbrev wu64 (a:Int):Int:=IntKind.u64.wrap a
abbrev FV (a:Int):Int:=IntKind.u8.wrap a
def AS.kV (S S':AS):Prop:=∀ s,HR s S.hp->(∀ t x,S'.sl t=some x->∃ y,S.sl t=some y/\∀ v,VR s y v->VR s x v)/\HR s S'.hp/\(∀ b,kS s S'.hp b->kS s S.hp b)
section
variable {P:Program} {n:NT} {S:AS} {Q:Go.Exit->AS->Prop} {f:Nat->Option AV} {H:AH}
theorem SR.kV {s:Sit} {S':AS} {a:Act} (h:SR n s S a) (hl:S.kV S'):SR n s S' a :=
  ⟨h.size,h.defers,λt x hx=>let ⟨_,h1,h2⟩:=(hl s h.heap).1 t x hx;let ⟨v,h3,h4⟩:=h.slot t _ h1;⟨v,h3,h2 v h4⟩,(hl s h.heap).2.1⟩
theorem Fr.Z6 {s s1:Sit} {H H' H1:AH} (ho:∀ b,kS s H' b->kS s H b) (hf:Fr s H' s1 H1):Fr s H s1 H1 :=
  ⟨hf.os,hf.tape,hf.output,hf.size,λb hb h=>hf.keep b hb (λh'=>h (ho b h')),hf.jL,λb hb h hi=>hf.iY b hb (λh'=>h (ho b h')) hi,λb hb h=>ho b (hf.own b hb h),hf.vals,hf.kY⟩
theorem EU {c:Code} {S':AS} (hl:S.kV S') (h:Tr P n c S' Q):Tr P n c S Q:=by
  intro s a hs
  refine mV (h s a (hs.kV hl)) ?_
  rintro e a1 w1 ⟨S1,s1,rfl,hq,hs1,hf1⟩
  exact ⟨S1,s1,rfl,hq,hs1,hf1.Z6 (hl s hs.heap).2.2⟩
def kZ (H:AH) (f:Nat->Option AV):List (Nat×AV)->Prop
  | []=>True
  | (t,v) :: r=>(∃ u,f t=some u/\Cv H u v)/\kZ H f r
def uO (H:AH) (ob ob':bH):Prop:=ob'={ ob with rows:=ob'.rows }/\iT H ob.rows ob'.rows
def oK (H:AH):List (Nat×bH)->Prop
  | []=>True
  | (t,v) :: r=>(∃ u,H t=some u/\uO H u v)/\oK H r
theorem uO.refl (ob:bH):uO H ob ob:=⟨rfl,.refl _⟩
theorem kZ.le {l:List (Nat×AV)} (h:kZ H f l):∀ t v,kn l t=some v->∃ u,f t=some u/\Cv H u v:=by
  induction l with
  | nil=>intro t v h;cases h
  | cons p r ih =>
    intro t v hv
    obtain ⟨q,u⟩:=p
    simp only [kn] at hv
    by_cases ht:t=q
    · subst ht;rw [upd_same] at hv;cases hv;exact h.1
    · rw [upd_ne _ _ ht] at hv;exact ih h.2 t v hv
theorem oK.le {l:List (Nat×bH)} (h:oK H l):∀ t v,hk l t=some v->∃ u,H t=some u/\uO H u v:=by
  induction l with
  | nil=>intro t v h;cases h
  | cons p r ih =>
    intro t v hv
    obtain ⟨q,u⟩:=p
    simp only [hk] at hv
    by_cases ht:t=q
    · subst ht;rw [upd_same] at hv;cases hv;exact h.1
    · rw [upd_ne _ _ ht] at hv;exact ih h.2 t v hv
theorem uO.len {ob ob':bH} (h:uO H ob ob'):ob.rows.length=ob'.rows.length:=h.2.get.1
theorem uO.body {s:Sit} {ob ob':bH} {m:Mu} (hs:HR s H) (h:uO H ob ob') (hb:(m.nil=true/\ob.rows=[])\/∃ cur fr,wY s ob m cur fr):(m.nil=true/\ob'.rows=[])\/∃ cur fr,wY s ob' m cur fr:=by
  obtain ⟨he,hc⟩:=h
  obtain ⟨c1,c2⟩:=hc.get
  rcases hb with ⟨h1,h2⟩ | ⟨cur,fr,hb⟩
  · rw [h2] at c1;exact .inl ⟨h1,List.eq_nil_of_length_eq_zero (by simpa using c1.symm)⟩
  · have e1:ob'.elem=ob.elem:=by rw [he]
    have e2:ob'.sz=ob.sz:=by rw [he]
    have e3:ob'.mt=ob.mt:=by rw [he]
    have e4:ob'.app=ob.app:=by rw [he]
    refine .inr ⟨cur,fr,⟨hb.hnil,by rw [e1];exact hb.hb,hb.hfr,by rw [e4];exact hb.happ,by rw [e2];exact hb.hcs,hb.hct,by rw [<- c1];exact hb.hlen,λi r hi=>?_,λi r j x v hi hj hv=>?_,hb.h1,by rw [e3];exact hb.him,by rw [e3];exact hb.l7⟩⟩
    · obtain ⟨r0,g1,g2⟩:=c2 i r hi
      rw [e2,<- g2.get.1];exact hb.hr i r0 g1
    · obtain ⟨r0,g1,g2⟩:=c2 i r hi
      obtain ⟨x0,g3,g4⟩:=g2.get.2 j x hj
      rw [e2] at hv
      exact g4 s hs v (hb.hv i r0 j x0 v g1 g3 hv)
theorem aG0 {g:Nat->Option AV} {H':AH} (h1:∀ t v,g t=some v->∃ u,f t=some u/\Cv H u v) (h2:∀ t v,H' t=some v->∃ u,H t=some u/\uO H u v):AS.kV ⟨f,H⟩ ⟨g,H'⟩:=λs hs =>
  ⟨λt x hx=>let ⟨u,a,b⟩:=h1 t x hx;⟨u,a,b s hs⟩,
   ⟨λid o ho=>by
      obtain ⟨u,a,b⟩:=h2 id o ho
      obtain ⟨m,hm⟩:=hs.obj id u a
      have e1:o.aN=u.aN:=by rw [b.1]
      have e2:o.sz=u.sz:=by rw [b.1]
      exact ⟨m,⟨hm.hm,by rw [e1];exact hm.bX,by rw [e2];exact hm.hsz,by rw [e1];exact hm.hk,b.body hs hm.body⟩⟩,
    λi i' o o' m m' a b=>by
      obtain ⟨u,a1,_⟩:=h2 _ _ a
      obtain ⟨u',b1,_⟩:=h2 _ _ b
      exact hs.lH i i' u u' m m' a1 b1,hs.im,hs.fin⟩,
   λb ⟨id,o,m,h,r⟩=>by
      obtain ⟨u,a1,a2⟩:=h2 _ _ h
      exact ⟨id, u, m, a1, by have : o.mt = u.mt := by rw [a2.1]
                              rw [<- this];exact r.1,r.2⟩⟩
theorem jX {l:List (Nat×AV)} {k:List (Nat×bH)} (h1:kZ H f l) (h2:oK H k):AS.kV ⟨f,H⟩ ⟨kn l,hk k⟩:=aG0 h1.le h2.le
theorem aGS {c:Code} {ι:Type} (St:ι->AS) (μ:ι->Nat) (i₀:ι) (h₀:S.kV (St i₀))
    (round:∀ i,Tr P n c (St i) (Exit.thn (λS'=>∃ j,μ j<μ i/\S'.kV (St j)) Q)):Tr P n (.loop c) S Q:=by
  refine EU h₀ ?_
  intro s a hs F hF b kk cs hro hb hr
  have key:∀ k i,μ i=k->∀ s a,SR n s (St i) a->∃ e a' w',(∃ S' s',w'=s'.w/\Q e S'/\SR n s' S' a'/\Fr s (St i).hp s' S'.hp) /\
      ArrivesIn (Machine.fenced P F) P (lone (b.atR a (.code c :: .inLoop c :: kk)) cs s.w) b kk cs e a' w':=by
    intro k
    induction k using Nat.strongRecOn with
    | _ k ih =>
      intro i hi s a hs
      obtain ⟨e,a1,w1,⟨S1,s1,rfl,hq,hs1,hf1⟩,harr⟩:=round i s a hs F hF b (.inLoop c :: kk) cs hro hb hr
      cases e with
      | normal =>
        obtain ⟨j,hj,hle⟩:=hq
        obtain ⟨e2,a2,w2,⟨S2,s2,rfl,hq2,hs2,hf2⟩,harr2⟩:=ih (μ j) (by omega) j rfl s1 a1 (hs1.kV hle)
        exact ⟨e2,a2,s2.w,⟨S2,s2,rfl,hq2,hs2,hf1.trans (hf2.Z6 (hle s1 hs1.heap).2.2)⟩,.of_steps (StepsIn.trans harr (.one (hF.fenced _) stepR_inLoop)) harr2⟩
      | exit id=>exact ⟨_,a1,_,⟨S1,s1,rfl,hq,hs1,hf1⟩,.pass (x:=.inLoop c) rfl (λ_ _=>.inl (by simp)) harr⟩
      | goto l=>exact ⟨_,a1,_,⟨S1,s1,rfl,hq,hs1,hf1⟩,.pass (x:=.inLoop c) rfl (λ_ _=>.inl (by simp)) harr⟩
      | ret=>exact ⟨_,a1,_,⟨S1,s1,rfl,hq,hs1,hf1⟩,.pass (x:=.inLoop c) rfl (λ_ _=>.inl (by simp)) harr⟩
      | panic ch=>exact ⟨_,a1,_,⟨S1,s1,rfl,hq,hs1,hf1⟩,.pass (x:=.inLoop c) rfl (λ_ _=>.inl (by simp)) harr⟩
      | outgrown=>exact ⟨_,a1,_,⟨S1,s1,rfl,hq,hs1,hf1⟩,.pass (x:=.inLoop c) rfl (λ_ _=>.inl (by simp)) harr⟩
  obtain ⟨e,a',w',hq,harr⟩:=key _ i₀ rfl s a hs
  exact ⟨e,a',w',hq,.of_steps (.one (hF.fenced _) stepR_loop) harr⟩
theorem Tr.BJ {c:Code} {Q':Go.Exit->AS->Prop} (h:Tr P n c S Q') (hq:∀ e S',Q' e S'->∃ S'',S'.kV S''/\Q e S''):Tr P n c S Q:=by
  intro s a hs
  refine mV (h s a hs) ?_
  rintro e a1 w1 ⟨S1,s1,rfl,hq1,hs1,hf1⟩
  obtain ⟨S2,hl,hq2⟩:=hq e S1 hq1
  have h2:=(hl s1 hs1.heap).2.2
  exact ⟨S2,s1,rfl,hq2,hs1.kV hl,⟨hf1.os,hf1.tape,hf1.output,hf1.size,hf1.keep,hf1.jL,hf1.iY,λb hb ho=>hf1.own b hb (h2 b ho),hf1.vals,hf1.kY⟩⟩
variable {o:Oper} {T:TypeId} {x y:Operand} {α:Type}
theorem C8 {e:TypeId} {sz:Nat} {b:Bool} {g:α->List AV} {l:List α} {k:IntKind} {i:Int} {v:α} (ho:o.op=.indexAddr T x y) (hT:P.underlying T=some (.slice e)) (he:eG P e=some (sz,b))
    (hx:S.ev x=some (aH sz g l)) (hy:S.ev y=some (.sc (.int k i))) (h:ix l i=some v):bW P o S (.pp (g v)) :=
  lK ho hT he hx hy (pJ h).1 (.list (dN h))
end
@[reducible] def fI (n:Int):List AV:=[int n]
@[reducible] def fB (b:Bool):List AV:=[aI b]
@[reducible] def fS (s:List UInt8):List AV:=[str s]
@[reducible] def fK (k:IntKind) (n:Int):List AV:=[.sc (.int k n)]
@[reducible] def fL {α:Type} (sz:Nat) (g:α->List AV) (l:List α):List AV:=[aH sz g l]
theorem FH {a:AV} (h:PV a):∀ x∈[a],PV x:=by intro x hx;simp at hx;subst hx;exact h
theorem vO (n:Int):PV (int n):=.sc _
theorem HV (b:Bool):PV (aI b):=.sc _
theorem SO (s:List UInt8):PV (str s):=.sc _
theorem TB (k:IntKind) (n:Int):PV (.sc (.int k n)):=.sc _
theorem qL {α:Type} {sz:Nat} {g:α->List AV} (h:∀ a,∀ x∈g a,PV x) (l:List α):PV (aH sz g l):=aU4 l λa _=>h a
theorem wC (n:Int):∀ x∈fI n,PV x:=FH (vO n)
theorem ZT (b:Bool):∀ x∈fB b,PV x:=FH (HV b)
theorem aDU (s:List UInt8):∀ x∈fS s,PV x:=FH (SO s)
theorem aB2 (k:IntKind) (n:Int):∀ x∈fK k n,PV x:=FH (TB k n)
theorem aBZ {α:Type} {sz:Nat} {g:α->List AV} (h:∀ a,∀ x∈g a,PV x) (l:List α):∀ x∈fL sz g l,PV x:=FH (qL h l)
theorem gN {α:Type} {l:List α} {i:Int} {v:α} {f:α->List AV} {c:List AV} (h:ix l i=some v) (e:f v=c):(l.map f)[i.toNat]?=some c:=by rw [dN h,e]
theorem N6 {a b:AV} (ha:PV a) (hb:PV b):∀ x∈[a,b],PV x:=by intro x hx;simp at hx;rcases hx with rfl | rfl <;> assumption
theorem YM:∀ x∈([]:List AV),PV x:=by intro x hx;cases hx
inductive Flat:AV->Prop
  | sc (v:Value):Flat (.sc v)
  | agg {cs:List AV} (h:∀ x∈cs,Flat x):Flat (.agg cs)
  | bD {cs:List AV} (h:∀ x∈cs,Flat x):Flat (.bD cs)
def pW:AV->Bool
  | .sc _=>true
  | .agg cs=>flatL cs
  | .bD cs=>flatL cs
  | _=>false
where flatL:List AV->Bool
  | []=>true
  | x :: r=>pW x && flatL r
mutual
theorem YH:∀ (x:AV),pW x=true->Flat x
  | .sc v,_=>.sc v
  | .agg cs,h=>.agg (T7 cs (by unfold pW at h;exact h))
  | .bD cs,h=>.bD (T7 cs (by unfold pW at h;exact h))
  | .list _ _,h=>by unfold pW at h;cases h
  | .pp _,h=>by unfold pW at h;cases h
  | .pt _ _ _ _,h=>by unfold pW at h;cases h
  | .sl _ _ _ _,h=>by unfold pW at h;cases h
  | .fn _ _ _,h=>by unfold pW at h;cases h
  | .gB _ _,h=>by unfold pW at h;cases h
  | .mp _ _,h=>by unfold pW at h;cases h
theorem T7:∀ (l:List AV),pW.flatL l=true->∀ x∈l,Flat x
  | [],_,x,hx=>by cases hx
  | y :: r,h,x,hx=>by
    unfold pW.flatL at h
    simp only [Bool.and_eq_true] at h
    rcases List.mem_cons.1 hx with e | hx
    · rw [e];exact YH y h.1
    · exact T7 r h.2 x hx
end
theorem Flat.vr {s s':Sit} {x:AV} {v:Value} (h:VR s x v) (hf:Flat x):VR s' x v:=by
  induction h with
  | sc v=>exact .sc v
  | agg hl _ ih=>cases hf with | agg hf=>exact .agg hl λi x v h1 h2=>ih i x v h1 h2 (hf x (List.mem_of_getElem? h1))
  | bD hl _ ih=>cases hf with | bD hf=>exact .bD hl λi x v h1 h2=>ih i x v h1 h2 (hf x (List.mem_of_getElem? h1))
  | _=>cases hf
section
variable {P:Program} {n:NT} {S:AS} {o:Oper} {T:TypeId} {x y:Operand}
theorem aOP {fo:Operand} {as:List Operand} {ts:Array TypeId} {k:FuncId} {first cap vs args:List AV} {v:AV} (ho:o.op=.call { callee:=.value fo,args:=as.toArray,argTypes:=ts })
    (hf:S.ev fo=some (.fn (.func k) first cap)) (ha:EvL S as vs) (hc:bC P k=true) (hcv:bT (l6 S.hp) (first++vs++cap) args) (hp:PP P k args (λy=>y=v)) (hfl:pW v=true):bW P o S v:=by
  intro s a next Q hH hops _ hn
  obtain ⟨us,h1,h2⟩:=PN (P:=P) ho hf ha hc hops
  unfold Oper.wp
  rw [h2]
  have hz:=OO hH
  have h1':mU (zP s S.hp) (first++vs++cap) us:=⟨h1.1,λi x v a b=>I1 (h1.2 i x v a b)⟩
  have hp':=hp (zP s S.hp) us hz.im hz.fin (hcv.all hz h1')
  refine hp'.mono ?_
  rintro e w' ⟨y,s',v',rfl,q2,rfl,rfl,q4,q5,q6⟩
  let s2:Sit:={ w:=s'.w,Im:=s.Im,mu:=s.mu,used:=s.used }
  have hno:∀ b,¬ kS (zP s S.hp) H0 b:=λb ⟨_,_,_,h,_⟩=>(by cases h)
  have hold:∀ b,b<s.w.heap.size->s'.w.heap[b]?=s.w.heap[b]?:=λb hb=>q6.keep b hb (hno b)
  have hmono:∀ x v,VR s x v->VR s2 x v:=λx v h=>VR.mono (s:=s) (s':=s2) (λb hi=>⟨hi,hold b (hH.im b hi)⟩) (λ_ _ h=>.inl h) (λ_ h=>h) h
  have hsize:s.w.heap.size<=s'.w.heap.size:=q6.size
  refine hn s2 v' _ S.hp ⟨rfl,rfl⟩ (Flat.vr q4 (YH _ hfl)) ⟨λid ob hob=>?_,hH.lH,λb hb=>Nat.lt_of_lt_of_le (hH.im b hb) hsize,hH.fin⟩
    ⟨q6.os,q6.tape,q6.output,hsize,λb hb _=>hold b hb,λ_ h=>h,λb hb _ hi=>hi,λb _ h=>h,hmono,λ_ h=>h⟩ (λ_ h=>.inl h)
  obtain ⟨m,hm⟩:=hH.obj id ob hob
  refine ⟨m,⟨hm.hm,hm.bX,hm.hsz,hm.hk,?_⟩⟩
  rcases hm.body with hb | ⟨cur,fr,hb⟩
  · exact .inl hb
  · have hlt:m.b<s.w.heap.size:=(Array.getElem?_eq_some_iff.1 hb.hb).1
    exact .inr ⟨cur,fr,⟨hb.hnil,(hold m.b hlt).trans hb.hb,hb.hfr,hb.happ,hb.hcs,hb.hct,hb.hlen,hb.hr,λi r j x v a b c=>hmono _ _ (hb.hv i r j x v a b c),hb.h1,hb.him,hb.l7⟩⟩
theorem fH {F U:Nat->Prop} {id:Nat} {z0:AV} {ob ob':bH} (h:bY P o S F U (λz H'=>z=z0/\H'=upd S.hp id (some ob))) (e:ob=ob'):bY P o S F U (λz H'=>z=z0/\H'=upd S.hp id (some ob')):=e ▸ h
def MS (P:Program) (T:TypeId) (f:Nat):Option (Nat×Nat) :=
  match P.underlying T with
  | some (.struct fs)=>(fs[f]?).map λfl=>(fl.offset,fl.type)
  | _=>none
end
end Go.Pv
