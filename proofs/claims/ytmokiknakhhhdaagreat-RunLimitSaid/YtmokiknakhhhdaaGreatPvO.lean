import Derived.Test.YtmokiknakhhhdaaGreatPvL
set_option linter.unusedVariables false
set_option linter.unusedSimpArgs false
namespace Go.Pv
@[reducible] def aG {α:Type} (sz:Nat) (f:α->List AV) (l:List α):AV:=.list sz (l.map f)
theorem aAX {α:Type} {S:AS} {sz:Nat} {f:α->List AV} {l:List α} {j:Nat} (h:j<l.length):CE S sz (aG sz f l) j (.pp (f l[j])) :=
  .list (by rw [List.getElem?_map,List.getElem?_eq_getElem h];rfl)
theorem mK {α:Type} {S:AS} {sz:Nat} {f:α->List AV} (l:List α):vZ S (aG sz f l) l.length:=by
  have:=vZ.list (S:=S) sz (l.map f)
  rwa [List.length_map] at this
theorem aFM {α:Type} {P:Program} {S:AS} {o:Oper} {T e:TypeId} {x y:Operand} {sz:Nat} {b:Bool} {f:α->List AV} {l:List α} {k:IntKind} {i:Int} {j:Nat} (ho:o.op=.indexAddr T x y) (hT:P.underlying T=some (.slice e)) (he:dY P e=some (sz,b))
    (hx:S.ev x=some (aG sz f l)) (hy:S.ev y=some (.sc (.int k i))) (hi:i=(j:Int)) (h:j<l.length) {cs:List AV} (hc:f l[j]=cs):bP P o S (.pp cs):=by subst hc;exact dV ho hT he hx hy hi (aAX h)
theorem gJ {α:Type} {H:AH} {id aD len sz:Nat} {ob:bA} {f:α->List AV} {l:List α} (ho:H id=some ob) (bK:ob.aD=aD) (hmt:ob.mt=false) (hsz:ob.sz=sz) (hr:ob.rows=l.map f) (hl:len=l.length):Cv H (.sl id aD 0 len) (aG sz f l):=by
  have:=Cv.sl (rows:=l.map f) (off:=0) (len:=len) ho bK hmt (by rw [hr];exact fV.refl _) (by rw [List.length_map];omega)
  rw [hsz] at this
  have e:((l.map f).drop 0).take len=l.map f:=by rw [List.drop_zero,hl,List.take_of_length_le (by rw [List.length_map];exact Nat.le_refl _)]
  rw [e] at this;exact this
theorem WA {α:Type} {sz:Nat} {f:α->List AV} (l:List α) (h:∀ a∈l,∀ x∈f a,PV x):PV (aG sz f l):=.list λr hr x hx=>by
  obtain ⟨a,ha,rfl⟩:=List.mem_map.1 hr
  exact h a ha x hx
theorem bR {α:Type} {f:Nat->Option α} {i j:Nat} {v x:Option α} (h:j≠i) (e:f j=x):upd f i v j=x:=(upd_ne _ _ h).trans e
@[reducible] def int (n:Int):AV:=.sc (.int .i64 n)
@[reducible] def aB (b:Bool):AV:=.sc (.bool b)
@[reducible] def str (l:List UInt8):AV:=.sc (.string (bs l))
@[reducible] def ints (l:List Int):AV:=aG 1 (λn=>[int n]) l
theorem aFO (l:List Int):PV (ints l):=WA l λn _ x hx=>by simp at hx;subst hx;exact .sc _
theorem BK {a:Int} (h:0<=a/\a<=18446744073709551615):IntKind.u64.wrap a=a:=by
  simp only [IntKind.wrap,IntKind.bits,IntKind.signed];simp;omega
theorem aKE {a:Int} (h:0<=a/\a<=255):IntKind.u8.wrap a=a:=IntWalk.u8_in a h
def rd:List UInt8->Nat->Nat->Option (Nat×List UInt8)
  | [],_,_=>none
  | c :: r,i,u =>
    if 9<i\/(i=9/\1<c.toNat) then none
    else if 128<=c.toNat then rd r (i+1) (u+c.toNat % 128*2 ^ (7*i))
    else if c.toNat=0/\0<i then none
    else some (u+c.toNat % 128*2 ^ (7*i),r)
def uS (u:Nat):Int:=if u % 2=0 then ((u / 2:Nat):Int) else -((u / 2:Nat):Int)-1
def zz (v:Int):Nat:=if v<0 then (-(2*v)-1).toNat else (2*v).toNat
abbrev RS:=List UInt8×Bool
def dA (s:RS):Int:=match rd s.1 0 0 with | some (u,_)=>uS u | none=>0
def dF (s:RS):RS:=match rd s.1 0 0 with | some (_,r)=>(r,s.2) | none=>([],true)
def nA (s:RS):Prop:=s.2=true->s.1=[]
theorem GK {s:RS} (h:nA s):nA (dF s):=by
  unfold dF
  split
  · rename_i u r hr
    intro hb
    have:=h hb
    rw [this] at hr
    simp [rd] at hr
  · intro _;rfl
theorem I5:∀ (l:List UInt8) (i u:Nat) (v:Nat) (r:List UInt8),rd l i u=some (v,r)->r.length<l.length
  | [],_,_,_,_,h=>by simp [rd] at h
  | c :: l,i,u,v,r,h=>by
    simp only [rd] at h
    split at h
    · cases h
    · split at h
      · have:=I5 l _ _ v r h;simp;omega
      · split at h
        · cases h
        · cases h;simp
theorem GJ (s:RS):(dF s).1.length<=s.1.length:=by
  unfold dF
  split
  · rename_i u r hr;have:=I5 _ _ _ _ _ hr;simp;omega
  · simp
def dU (s:RS) (most:Int):Int:=if dA s<0\/most<dA s then 0 else dA s
def dW (s:RS) (most:Int):RS:=if dA s<0\/most<dA s then ([],true) else dF s
theorem z8 {s:RS} (h:nA s) (most:Int):nA (dW s most):=by
  unfold dW;split
  · intro _;rfl
  · exact GK h
theorem BU (s:RS) (most:Int):(dW s most).1.length<=s.1.length:=by
  unfold dW;split
  · simp
  · exact GJ s
theorem N7 (s:RS) (most:Int):0<=dU s most:=by unfold dU;split <;> omega
theorem MM (s:RS) (most:Int) (h:0<=most):dU s most<=most:=by unfold dU;split <;> omega
def nums:Nat->RS->List Int×RS
  | 0,s=>([],s)
  | n+1,s=>let (l,t):=nums n s;(l++[dA t],dF t)
theorem E7:∀ (n:Nat) (s:RS),(nums n s).1.length=n
  | 0,_=>rfl
  | n+1,s=>by simp only [nums,List.length_append,E7 n s];rfl
theorem EX {s:RS} (h:nA s):∀ n,nA (nums n s).2
  | 0=>h
  | n+1=>GK (EX h n)
theorem aFK {s:RS} (h:nA s) (hb:s.2=true):dF s=([],true)/\dA s=0:=by
  have:=h hb
  unfold dF dA
  rw [this];simp [rd]
theorem YM {s:RS} (h:nA s) {k:Nat} (hb:(nums k s).2.2=true):∀ n,k<=n->(nums n s).2.2=true:=by
  intro n hn
  induction n with
  | zero => have : k = 0 := by omega
            subst this;exact hb
  | succ n ih =>
    by_cases hk:k=n+1
    · subst hk;exact hb
    · have:=ih (by omega)
      show (dF (nums n s).2).2=true
      rw [(aFK (EX h n) this).1]
theorem U3:∀ (k:Nat) (s:RS),nA s->(nums k s).2.2=false->(nums k s).2.1.length+k<=s.1.length
  | 0,s,_,_=>Nat.le_refl _
  | k+1,s,hs,hb=>by
    have hk:(nums k s).2.2=false:=by
      cases h:(nums k s).2.2 with
      | false=>rfl
      | true=>rw [YM hs h (k+1) (by omega)] at hb;cases hb
    have ih:=U3 k s hs hk
    have hd:(dF (nums k s).2).1.length+1<=(nums k s).2.1.length:=by
      have hb':(dF (nums k s).2).2=false:=hb
      unfold dF at hb' ⊢
      cases hr:rd (nums k s).2.1 0 0 with
      | none=>rw [hr] at hb';cases hb'
      | some p=>have:=I5 _ _ _ _ _ hr;simp only;omega
    show (dF (nums k s).2).1.length+(k+1)<=_
    omega
theorem VB {s:RS} (h:nA s) {k n:Nat} (hb:(nums k s).2.2=true) (hn:k<=n):(nums n s).2=([],true):=by
  have h1:=YM h hb n hn
  have h2:=EX h n h1
  cases hx:(nums n s).2 with
  | mk a b=>rw [hx] at h1 h2;simp at h1 h2;rw [h1,h2]
def nV (s:RS) (most:Int):List Int:=if (nums (dU s most).toNat (dW s most)).2.2 then [] else (nums (dU s most).toNat (dW s most)).1
def oQ (s:RS) (most:Int):RS:=(nums (dU s most).toNat (dW s most)).2
theorem aFR {s:RS} (h:nA s) (most:Int):nA (oQ s most):=EX (z8 h most) _
theorem JX:∀ (n:Nat) (s:RS),(nums n s).2.1.length<=s.1.length
  | 0,_=>Nat.le_refl _
  | n+1,s=>Nat.le_trans (GJ _) (JX n s)
theorem ZR (s:RS) (most:Int):(oQ s most).1.length<=s.1.length:=Nat.le_trans (JX _ _) (BU _ _)
theorem UJ {a b:Nat} (ha:a<2 ^ 64) (hb:b<2 ^ 64):IntKind.u64.wrap ((BitVec.ofInt IntKind.u64.bits (a:Int) ||| BitVec.ofInt IntKind.u64.bits (b:Int)).toNat:Int)=((a ||| b:Nat):Int):=by
  have e:(BitVec.ofInt IntKind.u64.bits (a:Int) ||| BitVec.ofInt IntKind.u64.bits (b:Int)).toNat=a ||| b:=by
    show (BitVec.ofInt 64 (a:Int) ||| BitVec.ofInt 64 (b:Int)).toNat=_
    rw [BitVec.toNat_or,BitVec.toNat_ofInt,BitVec.toNat_ofInt]
    congr 1 <;> omega
  rw [e]
  have:=Nat.or_lt_two_pow ha hb
  exact BK (by omega)
theorem TL {u a k:Nat} (h:u<2 ^ k):u ||| (a*2 ^ k)=u+a*2 ^ k:=by
  have:=Nat.shiftLeft_add_eq_or_of_lt h a
  rw [Nat.shiftLeft_eq] at this
  rw [Nat.or_comm,<- this];omega
theorem aIS {a b:Nat} (ha:a<2 ^ 64) (hb:b<2 ^ 64):IntKind.u64.wrap ((BitVec.ofInt IntKind.u64.bits (a:Int) &&& BitVec.ofInt IntKind.u64.bits (b:Int)).toNat:Int)=((a &&& b:Nat):Int):=by
  have e:(BitVec.ofInt IntKind.u64.bits (a:Int) &&& BitVec.ofInt IntKind.u64.bits (b:Int)).toNat=a &&& b:=by
    show (BitVec.ofInt 64 (a:Int) &&& BitVec.ofInt 64 (b:Int)).toNat=_
    rw [BitVec.toNat_and,BitVec.toNat_ofInt,BitVec.toNat_ofInt]
    congr 1 <;> omega
  rw [e]
  have:a &&& b<=a:=Nat.and_le_left
  exact BK (by omega)
theorem FR {u:Nat} (h:u<2 ^ 64):IntKind.u64.wrap ((BitVec.ofInt IntKind.u64.bits (u:Int) &&& BitVec.ofInt IntKind.u64.bits 1).toNat:Int)=((u % 2:Nat):Int):=by
  have:=aIS h (show 1<2 ^ 64 by omega)
  rw [Nat.and_one_is_mod] at this
  exact this
theorem FK {a b:Nat} (ha:a<2 ^ 63) (hb:b=0\/b=1):IntKind.i64.wrap ((BitVec.ofInt IntKind.i64.bits (a:Int) ^^^ BitVec.ofInt IntKind.i64.bits (-(b:Int))).toNat:Int)=if b=0 then (a:Int) else -(a:Int)-1:=by
  rcases hb with rfl | rfl
  · have e:(BitVec.ofInt IntKind.i64.bits (a:Int) ^^^ BitVec.ofInt IntKind.i64.bits (-((0:Nat):Int))).toNat=a:=by
      show (BitVec.ofInt 64 (a:Int) ^^^ BitVec.ofInt 64 (-((0:Nat):Int))).toNat=_
      rw [BitVec.toNat_xor,BitVec.toNat_ofInt,BitVec.toNat_ofInt]
      have h1:((a:Int) % ((2 ^ 64:Nat):Int)).toNat=a:=by omega
      have h2:((-((0:Nat):Int)) % ((2 ^ 64:Nat):Int)).toNat=0:=by decide
      rw [h1,h2,Nat.xor_zero]
    rw [e];simp;exact wrap64 (by omega)
  · have e:(BitVec.ofInt IntKind.i64.bits (a:Int) ^^^ BitVec.ofInt IntKind.i64.bits (-((1:Nat):Int))).toNat=2 ^ 64-1-a:=by
      show (BitVec.ofInt 64 (a:Int) ^^^ BitVec.ofInt 64 (-((1:Nat):Int))).toNat=_
      have h1:BitVec.ofInt 64 (-((1:Nat):Int))=BitVec.allOnes 64:=by rfl
      rw [h1,BitVec.xor_allOnes,BitVec.toNat_not,BitVec.toNat_ofInt]
      have h1:((a:Int) % ((2 ^ 64:Nat):Int)).toNat=a:=by omega
      rw [h1]
    rw [e,IntKind.wrap_i64]
    simp;omega
@[reducible] def dI (T aD:Nat) (s:RS):bA:=⟨T,2,true,true,aD,[[str s.1,aB s.2]]⟩
theorem F5 {α:Type} (f:Nat->Option α) (i:Nat) (a b:Option α):upd (upd f i a) i b=upd f i b:=by
  funext k
  by_cases h:k=i
  · subst h;rw [upd_same,upd_same]
  · rw [upd_ne _ _ h,upd_ne _ _ h,upd_ne _ _ h]
def pre (l:List UInt8):Nat->Nat
  | 0=>0
  | k+1=>pre l k+(l.getD k 0).toNat % 128*2 ^ (7*k)
theorem SL (l:List UInt8) {k:Nat} (h:pre l k<2 ^ (7*k)):pre l (k+1)<2 ^ (7*(k+1)):=by
  simp only [pre]
  have h1:(l.getD k 0).toNat % 128<=127:=by omega
  have h2:(l.getD k 0).toNat % 128*2 ^ (7*k)<=127*2 ^ (7*k):=Nat.mul_le_mul_right _ h1
  have h3:2 ^ (7*(k+1))=128*2 ^ (7*k):=by rw [Nat.mul_add,Nat.pow_add,Nat.mul_comm]
  omega
theorem FN {l:List UInt8} {k:Nat} {c:UInt8} (h:l[k]?=some c):l.drop k=c :: l.drop (k+1):=by
  have hk:=(List.getElem?_eq_some_iff.1 h).1
  rw [List.drop_eq_getElem_cons hk]
  have:=(List.getElem?_eq_some_iff.1 h).2
  rw [this]
theorem QY {l:List UInt8} {k u:Nat} {c:UInt8} (h:l[k]?=some c) (h1:¬ (9<k\/(k=9/\1<c.toNat))) (h2:128<=c.toNat):rd (l.drop k) k u=rd (l.drop (k+1)) (k+1) (u+c.toNat % 128*2 ^ (7*k)):=by
  rw [FN h];simp only [rd];rw [if_neg h1,if_pos h2]
theorem aJP {l:List UInt8} {k u:Nat} {c:UInt8} (h:l[k]?=some c) (h1:9<k\/(k=9/\1<c.toNat)):rd (l.drop k) k u=none:=by
  rw [FN h];simp only [rd];rw [if_pos h1]
theorem WY {l:List UInt8} {k u:Nat} {c:UInt8} (h:l[k]?=some c) (h2:c.toNat=0) (h3:0<k):rd (l.drop k) k u=none:=by
  rw [FN h];simp only [rd]
  split
  · rfl
  · rw [if_neg (by omega),if_pos ⟨h2,h3⟩]
theorem E6 {l:List UInt8} {k u:Nat} {c:UInt8} (h:l[k]?=some c) (h1:¬ (9<k\/(k=9/\1<c.toNat))) (h2:¬ 128<=c.toNat) (h3:¬ (c.toNat=0/\0<k)):rd (l.drop k) k u=some (u+c.toNat % 128*2 ^ (7*k),l.drop (k+1)):=by
  rw [FN h];simp only [rd];rw [if_neg h1,if_neg h2,if_neg h3]
theorem aDT {l:List UInt8} {k u:Nat} (h:l.length<=k):rd (l.drop k) k u=none:=by
  rw [List.drop_of_length_le h];rfl
theorem vW {s:RS} (h:rd s.1 0 0=none):dA s=0/\dF s=([],true):=by unfold dA dF;rw [h];exact ⟨rfl,rfl⟩
theorem nI {s:RS} {u:Nat} {r:List UInt8} (h:rd s.1 0 0=some (u,r)):dA s=uS u/\dF s=(r,s.2):=by unfold dA dF;rw [h];exact ⟨rfl,rfl⟩
theorem ES {l:List UInt8} {k:Nat} {c:UInt8} (h:l[k]?=some c):l.getD k 0=c:=by simp [h]
theorem aKV {k:Nat} (h:k<=9):2 ^ (7*k)<=2 ^ 63:=Nat.pow_le_pow_right (by omega) (by omega)
theorem OP {c k:Nat} (hk:k<=9) (hc:k=9->c<=1) (hc':c<=127):c*2 ^ (7*k)<2 ^ 64:=by
  by_cases h9:k=9
  · subst h9;have:=hc rfl
    have:c*2 ^ (7*9)<=1*2 ^ (7*9):=Nat.mul_le_mul_right _ this
    omega
  · have h1:2 ^ (7*k)<=2 ^ 56:=Nat.pow_le_pow_right (by omega) (by omega)
    have h2:c*2 ^ (7*k)<=127*2 ^ 56:=Nat.mul_le_mul hc' h1
    omega
theorem X7 {c k:Nat} (hk:k<=9) (h:c*2 ^ (7*k)<2 ^ 64):IntKind.u64.wrap ((c:Int)*2 ^ (min ((7*(k:Int)).toNat) IntKind.u64.bits))=((c*2 ^ (7*k):Nat):Int):=by
  have h1:min ((7*(k:Int)).toNat) IntKind.u64.bits=7*k:=by simp only [IntKind.bits];omega
  rw [h1]
  have h2:((c:Int)*2 ^ (7*k))=((c*2 ^ (7*k):Nat):Int):=by simp
  rw [h2]
  exact BK (by omega)
theorem FC {u:Nat}:((u:Int)).fdiv (2 ^ (min (1:Int).toNat IntKind.u64.bits))=((u / 2:Nat):Int):=by
  show ((u:Int)).fdiv 2=_
  rw [Int.fdiv_eq_ediv_of_nonneg _ (by omega)];rfl
theorem AN (u:Nat):uS u=if u % 2=0 then ((u / 2:Nat):Int) else -((u / 2:Nat):Int)-1:=rfl
theorem GR {P:Program} {t:TypeId} {k:Nat} (h:((P.info? t).map (·.size))=some k):∃ j,P.info? t=some j/\j.size=k:=by
  cases hj:P.info? t with
  | none=>rw [hj] at h;cases h
  | some j=>rw [hj] at h;exact ⟨j,rfl,by simpa using h⟩
section
variable {P:Program} {n:NT} {S:AS} {o:Oper} {T:TypeId} {x y:Operand}
theorem VT {src t:TypeId} {k:Nat} {id aD:Nat} {ob:bA} {r:List AV} (ho:o.op=.convert src T x) (hs:P.underlying src=some (.pointer t)) (hT:P.underlying T=some .unsafePointer) (hj:((P.info? t).map (·.size))=some (k+1))
    (hx:S.ev x=some (.pt id aD 0 0)) (hob:S.hp id=some ob) (bK:ob.aD=aD) (hr:ob.rows=[r]) (hsz:0<ob.sz):bP P o S (.pt id aD 0 0):=by
  obtain ⟨j,h1,h2⟩:=GR hj
  exact aLU ho hs hT h1 (by omega) hx hob bK hr hsz
theorem TR {Ty e:TypeId} {k:Nat} {id aD row off:Nat} {ob:bA} (ho:o.op=.binOp .neq T x y Ty) (hT:P.underlying T=some (.pointer e)) (hj:((P.info? e).map (·.size))=some k) (hx:S.ev x=some (.pt id aD row off)) (hy:S.ev y=some (.pt id aD row off))
    (hob:S.hp id=some ob) (bK:ob.aD=aD) (hne:ob.rows≠[]):bP P o S (.sc (.bool false)):=by
  obtain ⟨j,h1,h2⟩:=GR hj
  exact aLG ho hT h1 hx hy hob bK hne
theorem Q6 {src u e:TypeId} {k:Nat} {id aD:Nat} {ob:bA} {r:List AV} (ho:o.op=.convert src T x) (hs:P.underlying src=some .unsafePointer) (hT:P.underlying T=some (.pointer u)) (hj:((P.info? u).map (·.size))=some k)
    (hx:S.ev x=some (.pt id aD 0 0)) (hob:S.hp id=some ob) (bK:ob.aD=aD) (hr:ob.rows=[r]) (hel:ob.elem=e) (hlies:∀ c,liesAt P P.depth e c 0 u 1=true\/c=0) (hc:P.cellsOf e=ob.sz) (hsz:0<ob.sz):bP P o S (.pt id aD 0 0):=by
  obtain ⟨j,h1,h2⟩:=GR hj
  exact aEB ho hs hT h1 hx hob bK hr hel hlies hc hsz
end
theorem aH9 {P:Program} {e:TypeId} {k:Nat} (hc:P.cellsOf e=k+1):∀ c,liesAt P P.depth e c 0 e 1=true\/c=0:=by
  intro c
  by_cases h:c=0
  · exact .inr h
  · refine .inl ?_
    have hd:P.depth=(2*(P.types.size+Made.depth)+1)+1:=rfl
    rw [hd]
    simp only [liesAt,Bool.or_eq_true]
    left
    rw [hd]
    have h1:1<=c:=by omega
    simp [rowAt,hc,h1,sameLayout]
@[reducible] def mV (T id aD:Nat) (ib:Nat):Option (Nat×List UInt8)->bA
  | none=>⟨T,2,true,true,aD,[[.sc (.pointer none),.sc (.slice none 0 0)]]⟩
  | some (vb,l)=>⟨T,2,true,true,aD,[[.pt id aD 0 0,.sl ib vb 0 l.length]]⟩
@[reducible] def jY (u8 vb:Nat) (l:List UInt8):bA:=⟨u8,1,true,true,vb,cB l⟩
theorem OV (a b:List UInt8):cB (a++b)=cB a++cB b:=by simp [cB]
theorem AL (a:List UInt8):(cB a).length=a.length:=by simp [cB]
theorem sI {α:Type} (f:Nat->Option α) (t i:Nat) (v:Option α):upd f t v i=if i=t then v else f i:=by
  by_cases h:i=t
  · subst h;rw [upd_same,if_pos rfl]
  · rw [upd_ne _ _ h,if_neg h]
def held:Option (Nat×List UInt8)->List UInt8 | none=>[] | some (_,l)=>l
@[reducible] def bH (T u8:Nat) (H:AH) (id aD ib:Nat):Option (Nat×List UInt8)->AH
  | none=>upd H id (some (mV T id aD ib none))
  | some (vb,l)=>upd (upd H ib (some (jY u8 vb l))) id (some (mV T id aD ib (some (vb,l))))
def lN:Nat->Nat->List UInt8
  | 0,u=>[UInt8.ofNat u]
  | f+1,u=>if u<128 then [UInt8.ofNat u] else UInt8.ofNat (u % 128+128) :: lN f (u / 128)
def enc (v:Int):List UInt8:=lN 10 (zz v)
theorem GQ (f:Nat) {u:Nat} (h:u<128):lN f u=[UInt8.ofNat u]:=by
  cases f with
  | zero=>rfl
  | succ f=>simp only [lN];rw [if_pos h]
theorem GX (f:Nat) {u:Nat} (h:128<=u):lN (f+1) u=UInt8.ofNat (u % 128+128) :: lN f (u / 128):=by
  simp only [lN];rw [if_neg (by omega)]
theorem xR:∀ (f u:Nat),(lN f u).length<=f+1
  | 0,_=>Nat.le_refl _
  | f+1,u=>by simp only [lN];split <;> simp;exact xR f (u / 128)
theorem P9:∀ (f u:Nat),lN f u≠[]
  | 0,_=>by simp [lN]
  | f+1,u=>by simp only [lN];split <;> simp
def gT (v:Int):Prop:=-9223372036854775808<=v/\v<=9223372036854775807
instance (v:Int):Decidable (gT v):=inferInstanceAs (Decidable (_/\_))
theorem EF {v:Int} (h:gT v):zz v<18446744073709551616:=by unfold zz;unfold gT at h;split <;> omega
def tw (v:Int):Nat:=if v<0 then (2*v+18446744073709551616).toNat else (2*v).toNat
theorem aGQ {v:Int} (h:gT v):tw v<18446744073709551616:=by unfold tw;unfold gT at h;split <;> omega
theorem BI (a:Int):IntKind.u64.wrap a=a % 18446744073709551616:=by
  simp only [IntKind.wrap,IntKind.bits,IntKind.signed];simp
theorem aEW (a:Int):IntKind.u8.wrap a=a % 256:=by
  simp only [IntKind.wrap,IntKind.bits,IntKind.signed];simp
def wY (v:Int):Nat:=if v<0 then (v+18446744073709551616).toNat else v.toNat
theorem Q9 {v:Int} (h:gT v):IntKind.u64.wrap v=(wY v:Nat):=by
  rw [BI];unfold wY;unfold gT at h;split <;> omega
theorem SK {v:Int} (h:gT v):IntKind.u64.wrap ((wY v:Nat)*2 ^ (min (1:Int).toNat IntKind.u64.bits))=(tw v:Nat):=by
  show IntKind.u64.wrap ((wY v:Nat)*2)=_
  rw [BI];unfold wY tw;unfold gT at h;split <;> omega
def sg (v:Int):Int:=if v<0 then -1 else 0
theorem aHP {v:Int} (h:gT v):v.fdiv (2 ^ (min (63:Int).toNat IntKind.i64.bits))=sg v:=by
  show v.fdiv 9223372036854775808=_
  rw [Int.fdiv_eq_ediv_of_nonneg _ (by omega)];unfold sg;unfold gT at h;split <;> omega
def pE (v:Int):Nat:=if v<0 then 18446744073709551615 else 0
theorem aOL (v:Int):IntKind.u64.wrap (sg v)=(pE v:Nat):=by
  rw [BI];unfold sg pE;split <;> rfl
theorem TY {v:Int} (h:gT v):IntKind.u64.wrap ((BitVec.ofInt IntKind.u64.bits (tw v:Nat) ^^^ BitVec.ofInt IntKind.u64.bits (pE v:Nat)).toNat:Int)=(zz v:Nat):=by
  have ht:=aGQ h
  by_cases hv:v<0
  · have e:(BitVec.ofInt IntKind.u64.bits (tw v:Nat) ^^^ BitVec.ofInt IntKind.u64.bits (pE v:Nat)).toNat=18446744073709551615-tw v:=by
      show (BitVec.ofInt 64 ((tw v:Nat):Int) ^^^ BitVec.ofInt 64 ((pE v:Nat):Int)).toNat=_
      have h1:BitVec.ofInt 64 ((pE v:Nat):Int)=BitVec.allOnes 64:=by unfold pE;rw [if_pos hv];rfl
      rw [h1,BitVec.xor_allOnes,BitVec.toNat_not,BitVec.toNat_ofInt]
      omega
    rw [e,BI];unfold tw zz;unfold gT at h;rw [if_pos hv,if_pos hv];omega
  · have e:(BitVec.ofInt IntKind.u64.bits (tw v:Nat) ^^^ BitVec.ofInt IntKind.u64.bits (pE v:Nat)).toNat=tw v:=by
      show (BitVec.ofInt 64 ((tw v:Nat):Int) ^^^ BitVec.ofInt 64 ((pE v:Nat):Int)).toNat=_
      have h1:BitVec.ofInt 64 ((pE v:Nat):Int)=0#64:=by unfold pE;rw [if_neg hv];rfl
      rw [h1,BitVec.xor_zero,BitVec.toNat_ofInt]
      omega
    rw [e,BI];unfold tw zz;unfold gT at h;rw [if_neg hv,if_neg hv];omega
theorem aNN (n:Nat):((UInt8.ofNat n).toNat:Int)=((n:Nat):Int) % 256:=by
  simp
theorem zJ (n:Nat):IntKind.u8.wrap ((n:Nat):Int)=((UInt8.ofNat n).toNat:Int):=by rw [aNN,aEW]
theorem J3 {u:Nat}:((u:Int)).fdiv (2 ^ (min (7:Int).toNat IntKind.u64.bits))=((u / 128:Nat):Int):=by
  show ((u:Int)).fdiv 128=_
  rw [Int.fdiv_eq_ediv_of_nonneg _ (by omega)];rfl
def lG (l:List Int):List UInt8:=enc l.length++l.flatMap enc
theorem pV (v:Int):(enc v).length<=11:=xR 10 (zz v)
theorem UL (v:Int):enc v≠[]:=P9 10 (zz v)
theorem XZ:∀ l:List Int,(l.flatMap enc).length<=11*l.length
  | []=>Nat.le_refl _
  | v :: l=>by have h1:=XZ l;have h2:=pV v;simp only [List.flatMap_cons,List.length_append,List.length_cons];omega
theorem NZ (l:List Int):(lG l).length<=11*l.length+11:=by
  have h1:=XZ l;have h2:=pV l.length;unfold lG;rw [List.length_append];omega
theorem RY (l:List Int):lG l≠[]:=by unfold lG;intro h;exact UL _ (List.append_eq_nil_iff.1 h).1
theorem BC {n:Nat} (h:n<=9223372036854775807):gT n:=⟨by omega,by omega⟩
theorem JH {l:List Int} {k:Nat} (h:k<l.length):(l.drop k).flatMap enc=enc l[k]++(l.drop (k+1)).flatMap enc:=by
  rw [List.drop_eq_getElem_cons h,List.flatMap_cons]
end Go.Pv
