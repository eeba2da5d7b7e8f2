import Derived.Test.YtimkkeehkhkhcaaGreatPvL
set_option linter.unusedVariables false
set_option linter.unusedSimpArgs false
namespace Go.Pv
@[reducible] def aG {α:Type} (sz:Nat) (f:α->List AV) (l:List α):AV:=.list sz (l.map f)
theorem aGU {α:Type} {S:AS} {sz:Nat} {f:α->List AV} {l:List α} {j:Nat} (h:j<l.length):zI S sz (aG sz f l) j (.pp (f l[j])) :=
  .list (by rw [List.getElem?_map,List.getElem?_eq_getElem h];rfl)
theorem wB {α:Type} {S:AS} {sz:Nat} {f:α->List AV} (l:List α):tY S (aG sz f l) l.length:=by
  have:=tY.list (S:=S) sz (l.map f)
  rwa [List.length_map] at this
theorem aGG {α:Type} {P:Program} {S:AS} {o:Oper} {T e:TypeId} {x y:Operand} {sz:Nat} {b:Bool} {f:α->List AV} {l:List α} {k:IntKind} {i:Int} {j:Nat} (ho:o.op=.indexAddr T x y) (hT:P.underlying T=some (.slice e)) (he:gF P e=some (sz,b))
    (hx:S.ev x=some (aG sz f l)) (hy:S.ev y=some (.sc (.int k i))) (hi:i=(j:Int)) (h:j<l.length) {cs:List AV} (hc:f l[j]=cs):bS P o S (.pp cs):=by subst hc;exact dA ho hT he hx hy hi (aGU h)
theorem gB {α:Type} {H:AH} {id aD len sz:Nat} {ob:aW} {f:α->List AV} {l:List α} (ho:H id=some ob) (bP:ob.aD=aD) (hmt:ob.mt=false) (hsz:ob.sz=sz) (hr:ob.rows=l.map f) (hl:len=l.length):Cv H (.sl id aD 0 len) (aG sz f l):=by
  have:=Cv.sl (rows:=l.map f) (off:=0) (len:=len) ho bP hmt (by rw [hr];exact gN.refl _) (by rw [List.length_map];omega)
  rw [hsz] at this
  have e:((l.map f).drop 0).take len=l.map f:=by rw [List.drop_zero,hl,List.take_of_length_le (by rw [List.length_map];exact Nat.le_refl _)]
  rw [e] at this;exact this
theorem VI {α:Type} {sz:Nat} {f:α->List AV} (l:List α) (h:∀ a∈l,∀ x∈f a,PV x):PV (aG sz f l):=.list λr hr x hx=>by
  obtain ⟨a,ha,rfl⟩:=List.mem_map.1 hr
  exact h a ha x hx
theorem bU {α:Type} {f:Nat->Option α} {i j:Nat} {v x:Option α} (h:j≠i) (e:f j=x):upd f i v j=x:=(upd_ne _ _ h).trans e
@[reducible] def int (n:Int):AV:=.sc (.int .i64 n)
@[reducible] def aA (b:Bool):AV:=.sc (.bool b)
@[reducible] def str (l:List UInt8):AV:=.sc (.string (bs l))
@[reducible] def ints (l:List Int):AV:=aG 1 (λn=>[int n]) l
theorem aE4 (l:List Int):PV (ints l):=VI l λn _ x hx=>by simp at hx;subst hx;exact .sc _
theorem zW {a:Int} (h:0<=a/\a<=18446744073709551615):IntKind.u64.wrap a=a:=by
  simp only [IntKind.wrap,IntKind.bits,IntKind.signed];simp;omega
theorem aET {a:Int} (h:0<=a/\a<=255):IntKind.u8.wrap a=a:=IntWalk.u8_in a h
def rd:List UInt8->Nat->Nat->Option (Nat×List UInt8)
  | [],_,_=>none
  | c :: r,i,u =>
    if 9<i\/(i=9/\1<c.toNat) then none
    else if 128<=c.toNat then rd r (i+1) (u+c.toNat % 128*2 ^ (7*i))
    else if c.toNat=0/\0<i then none
    else some (u+c.toNat % 128*2 ^ (7*i),r)
def tL (u:Nat):Int:=if u % 2=0 then ((u / 2:Nat):Int) else -((u / 2:Nat):Int)-1
def zz (v:Int):Nat:=if v<0 then (-(2*v)-1).toNat else (2*v).toNat
abbrev RS:=List UInt8×Bool
def dG (s:RS):Int:=match rd s.1 0 0 with | some (u,_)=>tL u | none=>0
def dL (s:RS):RS:=match rd s.1 0 0 with | some (_,r)=>(r,s.2) | none=>([],true)
def pZ (s:RS):Prop:=s.2=true->s.1=[]
theorem NG {s:RS} (h:pZ s):pZ (dL s):=by
  unfold dL
  split
  · rename_i u r hr
    intro hb
    have:=h hb
    rw [this] at hr
    simp [rd] at hr
  · intro _;rfl
theorem KB:∀ (l:List UInt8) (i u:Nat) (v:Nat) (r:List UInt8),rd l i u=some (v,r)->r.length<l.length
  | [],_,_,_,_,h=>by simp [rd] at h
  | c :: l,i,u,v,r,h=>by
    simp only [rd] at h
    split at h
    · cases h
    · split at h
      · have:=KB l _ _ v r h;simp;omega
      · split at h
        · cases h
        · cases h;simp
theorem NF (s:RS):(dL s).1.length<=s.1.length:=by
  unfold dL
  split
  · rename_i u r hr;have:=KB _ _ _ _ _ hr;simp;omega
  · simp
def iA (s:RS) (most:Int):Int:=if dG s<0\/most<dG s then 0 else dG s
def gK (s:RS) (most:Int):RS:=if dG s<0\/most<dG s then ([],true) else dL s
theorem XO {s:RS} (h:pZ s) (most:Int):pZ (gK s most):=by
  unfold gK;split
  · intro _;rfl
  · exact NG h
theorem aL6 (s:RS) (most:Int):(gK s most).1.length<=s.1.length:=by
  unfold gK;split
  · simp
  · exact NF s
theorem XG (s:RS) (most:Int):0<=iA s most:=by unfold iA;split <;> omega
def nums:Nat->RS->List Int×RS
  | 0,s=>([],s)
  | n+1,s=>let (l,t):=nums n s;(l++[dG t],dL t)
theorem G8:∀ (n:Nat) (s:RS),(nums n s).1.length=n
  | 0,_=>rfl
  | n+1,s=>by simp only [nums,List.length_append,G8 n s];rfl
theorem FY {s:RS} (h:pZ s):∀ n,pZ (nums n s).2
  | 0=>h
  | n+1=>NG (FY h n)
theorem XB {s:RS} (h:pZ s) (hb:s.2=true):dL s=([],true)/\dG s=0:=by
  have:=h hb
  unfold dL dG
  rw [this];simp [rd]
theorem L5 {s:RS} (h:pZ s) {k:Nat} (hb:(nums k s).2.2=true):∀ n,k<=n->(nums n s).2.2=true:=by
  intro n hn
  induction n with
  | zero => have : k = 0 := by omega
            subst this;exact hb
  | succ n ih =>
    by_cases hk:k=n+1
    · subst hk;exact hb
    · have:=ih (by omega)
      show (dL (nums n s).2).2=true
      rw [(XB (FY h n) this).1]
theorem SF:∀ (k:Nat) (s:RS),pZ s->(nums k s).2.2=false->(nums k s).2.1.length+k<=s.1.length
  | 0,s,_,_=>Nat.le_refl _
  | k+1,s,hs,hb=>by
    have hk:(nums k s).2.2=false:=by
      cases h:(nums k s).2.2 with
      | false=>rfl
      | true=>rw [L5 hs h (k+1) (by omega)] at hb;cases hb
    have ih:=SF k s hs hk
    have hd:(dL (nums k s).2).1.length+1<=(nums k s).2.1.length:=by
      have hb':(dL (nums k s).2).2=false:=hb
      unfold dL at hb' ⊢
      cases hr:rd (nums k s).2.1 0 0 with
      | none=>rw [hr] at hb';cases hb'
      | some p=>have:=KB _ _ _ _ _ hr;simp only;omega
    show (dL (nums k s).2).1.length+(k+1)<=_
    omega
theorem VO {s:RS} (h:pZ s) {k n:Nat} (hb:(nums k s).2.2=true) (hn:k<=n):(nums n s).2=([],true):=by
  have h1:=L5 h hb n hn
  have h2:=FY h n h1
  cases hx:(nums n s).2 with
  | mk a b=>rw [hx] at h1 h2;simp at h1 h2;rw [h1,h2]
def pN (s:RS) (most:Int):List Int:=if (nums (iA s most).toNat (gK s most)).2.2 then [] else (nums (iA s most).toNat (gK s most)).1
def qD (s:RS) (most:Int):RS:=(nums (iA s most).toNat (gK s most)).2
theorem R9:∀ (n:Nat) (s:RS),(nums n s).2.1.length<=s.1.length
  | 0,_=>Nat.le_refl _
  | n+1,s=>Nat.le_trans (NF _) (R9 n s)
theorem PR {a b:Nat} (ha:a<2 ^ 64) (hb:b<2 ^ 64):IntKind.u64.wrap ((BitVec.ofInt IntKind.u64.bits (a:Int) ||| BitVec.ofInt IntKind.u64.bits (b:Int)).toNat:Int)=((a ||| b:Nat):Int):=by
  have e:(BitVec.ofInt IntKind.u64.bits (a:Int) ||| BitVec.ofInt IntKind.u64.bits (b:Int)).toNat=a ||| b:=by
    show (BitVec.ofInt 64 (a:Int) ||| BitVec.ofInt 64 (b:Int)).toNat=_
    rw [BitVec.toNat_or,BitVec.toNat_ofInt,BitVec.toNat_ofInt]
    congr 1 <;> omega
  rw [e]
  have:=Nat.or_lt_two_pow ha hb
  exact zW (by omega)
theorem ML {u a k:Nat} (h:u<2 ^ k):u ||| (a*2 ^ k)=u+a*2 ^ k:=by
  have:=Nat.shiftLeft_add_eq_or_of_lt h a
  rw [Nat.shiftLeft_eq] at this
  rw [Nat.or_comm,<- this];omega
theorem aHK {a b:Nat} (ha:a<2 ^ 64) (hb:b<2 ^ 64):IntKind.u64.wrap ((BitVec.ofInt IntKind.u64.bits (a:Int) &&& BitVec.ofInt IntKind.u64.bits (b:Int)).toNat:Int)=((a &&& b:Nat):Int):=by
  have e:(BitVec.ofInt IntKind.u64.bits (a:Int) &&& BitVec.ofInt IntKind.u64.bits (b:Int)).toNat=a &&& b:=by
    show (BitVec.ofInt 64 (a:Int) &&& BitVec.ofInt 64 (b:Int)).toNat=_
    rw [BitVec.toNat_and,BitVec.toNat_ofInt,BitVec.toNat_ofInt]
    congr 1 <;> omega
  rw [e]
  have:a &&& b<=a:=Nat.and_le_left
  exact zW (by omega)
theorem AR {u:Nat} (h:u<2 ^ 64):IntKind.u64.wrap ((BitVec.ofInt IntKind.u64.bits (u:Int) &&& BitVec.ofInt IntKind.u64.bits 1).toNat:Int)=((u % 2:Nat):Int):=by
  have:=aHK h (show 1<2 ^ 64 by omega)
  rw [Nat.and_one_is_mod] at this
  exact this
theorem B6 {a b:Nat} (ha:a<2 ^ 63) (hb:b=0\/b=1):IntKind.i64.wrap ((BitVec.ofInt IntKind.i64.bits (a:Int) ^^^ BitVec.ofInt IntKind.i64.bits (-(b:Int))).toNat:Int)=if b=0 then (a:Int) else -(a:Int)-1:=by
  rcases hb with rfl | rfl
  · have e:(BitVec.ofInt IntKind.i64.bits (a:Int) ^^^ BitVec.ofInt IntKind.i64.bits (-((0:Nat):Int))).toNat=a:=by
      show (BitVec.ofInt 64 (a:Int) ^^^ BitVec.ofInt 64 (-((0:Nat):Int))).toNat=_
      rw [BitVec.toNat_xor,BitVec.toNat_ofInt,BitVec.toNat_ofInt]
      have h1:((a:Int) % ((2 ^ 64:Nat):Int)).toNat=a:=by omega
      have h2:((-((0:Nat):Int)) % ((2 ^ 64:Nat):Int)).toNat=0:=by decide
      rw [h1,h2,Nat.xor_zero]
    rw [e];simp;exact wrap64 (by omega)
  · have e:(BitVec.ofInt IntKind.i64.bits (a:Int) ^^^ BitVec.ofInt IntKind.i64.bits (-((1:Nat):Int))).toNat=2 ^ 64-1-a:=by
      show (BitVec.ofInt 64 (a:Int) ^^^ BitVec.ofInt 64 (-((1:Nat):Int))).toNat=_
      have h1:BitVec.ofInt 64 (-((1:Nat):Int))=BitVec.allOnes 64:=by rfl
      rw [h1,BitVec.xor_allOnes,BitVec.toNat_not,BitVec.toNat_ofInt]
      have h1:((a:Int) % ((2 ^ 64:Nat):Int)).toNat=a:=by omega
      rw [h1]
    rw [e,IntKind.wrap_i64]
    simp;omega
@[reducible] def cK (T aD:Nat) (s:RS):aW:=⟨T,2,true,true,aD,[[str s.1,aA s.2]]⟩
theorem CU {α:Type} (f:Nat->Option α) (i:Nat) (a b:Option α):upd (upd f i a) i b=upd f i b:=by
  funext k
  by_cases h:k=i
  · subst h;rw [upd_same,upd_same]
  · rw [upd_ne _ _ h,upd_ne _ _ h,upd_ne _ _ h]
def pre (l:List UInt8):Nat->Nat
  | 0=>0
  | k+1=>pre l k+(l.getD k 0).toNat % 128*2 ^ (7*k)
theorem OC (l:List UInt8) {k:Nat} (h:pre l k<2 ^ (7*k)):pre l (k+1)<2 ^ (7*(k+1)):=by
  simp only [pre]
  have h1:(l.getD k 0).toNat % 128<=127:=by omega
  have h2:(l.getD k 0).toNat % 128*2 ^ (7*k)<=127*2 ^ (7*k):=Nat.mul_le_mul_right _ h1
  have h3:2 ^ (7*(k+1))=128*2 ^ (7*k):=by rw [Nat.mul_add,Nat.pow_add,Nat.mul_comm]
  omega
theorem C9 {l:List UInt8} {k:Nat} {c:UInt8} (h:l[k]?=some c):l.drop k=c :: l.drop (k+1):=by
  have hk:=(List.getElem?_eq_some_iff.1 h).1
  rw [List.drop_eq_getElem_cons hk]
  have:=(List.getElem?_eq_some_iff.1 h).2
  rw [this]
theorem UX {l:List UInt8} {k u:Nat} {c:UInt8} (h:l[k]?=some c) (h1:¬ (9<k\/(k=9/\1<c.toNat))) (h2:128<=c.toNat):rd (l.drop k) k u=rd (l.drop (k+1)) (k+1) (u+c.toNat % 128*2 ^ (7*k)):=by
  rw [C9 h];simp only [rd];rw [if_neg h1,if_pos h2]
theorem aFE {l:List UInt8} {k u:Nat} {c:UInt8} (h:l[k]?=some c) (h1:9<k\/(k=9/\1<c.toNat)):rd (l.drop k) k u=none:=by
  rw [C9 h];simp only [rd];rw [if_pos h1]
theorem NR {l:List UInt8} {k u:Nat} {c:UInt8} (h:l[k]?=some c) (h2:c.toNat=0) (h3:0<k):rd (l.drop k) k u=none:=by
  rw [C9 h];simp only [rd]
  split
  · rfl
  · rw [if_neg (by omega),if_pos ⟨h2,h3⟩]
theorem D7 {l:List UInt8} {k u:Nat} {c:UInt8} (h:l[k]?=some c) (h1:¬ (9<k\/(k=9/\1<c.toNat))) (h2:¬ 128<=c.toNat) (h3:¬ (c.toNat=0/\0<k)):rd (l.drop k) k u=some (u+c.toNat % 128*2 ^ (7*k),l.drop (k+1)):=by
  rw [C9 h];simp only [rd];rw [if_neg h1,if_neg h2,if_neg h3]
theorem aKZ {l:List UInt8} {k u:Nat} (h:l.length<=k):rd (l.drop k) k u=none:=by
  rw [List.drop_of_length_le h];rfl
theorem tQ {s:RS} (h:rd s.1 0 0=none):dG s=0/\dL s=([],true):=by unfold dG dL;rw [h];exact ⟨rfl,rfl⟩
theorem nJ {s:RS} {u:Nat} {r:List UInt8} (h:rd s.1 0 0=some (u,r)):dG s=tL u/\dL s=(r,s.2):=by unfold dG dL;rw [h];exact ⟨rfl,rfl⟩
theorem B4 {l:List UInt8} {k:Nat} {c:UInt8} (h:l[k]?=some c):l.getD k 0=c:=by simp [h]
theorem aDL {k:Nat} (h:k<=9):2 ^ (7*k)<=2 ^ 63:=Nat.pow_le_pow_right (by omega) (by omega)
theorem UE {c k:Nat} (hk:k<=9) (hc:k=9->c<=1) (hc':c<=127):c*2 ^ (7*k)<2 ^ 64:=by
  by_cases h9:k=9
  · subst h9;have:=hc rfl
    have:c*2 ^ (7*9)<=1*2 ^ (7*9):=Nat.mul_le_mul_right _ this
    omega
  · have h1:2 ^ (7*k)<=2 ^ 56:=Nat.pow_le_pow_right (by omega) (by omega)
    have h2:c*2 ^ (7*k)<=127*2 ^ 56:=Nat.mul_le_mul hc' h1
    omega
theorem PO {c k:Nat} (hk:k<=9) (h:c*2 ^ (7*k)<2 ^ 64):IntKind.u64.wrap ((c:Int)*2 ^ (min ((7*(k:Int)).toNat) IntKind.u64.bits))=((c*2 ^ (7*k):Nat):Int):=by
  have h1:min ((7*(k:Int)).toNat) IntKind.u64.bits=7*k:=by simp only [IntKind.bits];omega
  rw [h1]
  have h2:((c:Int)*2 ^ (7*k))=((c*2 ^ (7*k):Nat):Int):=by simp
  rw [h2]
  exact zW (by omega)
theorem AA {u:Nat}:((u:Int)).fdiv (2 ^ (min (1:Int).toNat IntKind.u64.bits))=((u / 2:Nat):Int):=by
  show ((u:Int)).fdiv 2=_
  rw [Int.fdiv_eq_ediv_of_nonneg _ (by omega)];rfl
theorem CO (u:Nat):tL u=if u % 2=0 then ((u / 2:Nat):Int) else -((u / 2:Nat):Int)-1:=rfl
end Go.Pv
