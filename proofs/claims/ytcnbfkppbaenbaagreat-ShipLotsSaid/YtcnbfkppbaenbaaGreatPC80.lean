import Derived.Test.YtcnbfkppbaenbaaGreatB70
import Derived.Test.YtcnbfkppbaenbaaGreatH70
import Derived.Test.YtcnbfkppbaenbaaGreatQB80
set_option linter.unusedVariables false
set_option linter.unusedSimpArgs false
namespace Go.Pv
open Go.Proofs
set_option maxRecDepth 100000
set_option maxHeartbeats 4000000
theorem aLI {a b:Int} (ha:0<=a/\a<=9223372036854775807) (hb:0<=b/\b<=9223372036854775807):G7 a b=some (a*b / 18446744073709551616,a*b % 18446744073709551616):=by
  obtain ⟨p,q,r,s,hp,hq,hr,hs,bp,bq,br,bs,e⟩:=UA ha hb
  have wa:wu64 a=a:=iB (by omega)
  have wb:wu64 b=b:=iB (by omega)
  have t1:a.tmod 4294967296=a % 4294967296:=Int.tmod_eq_emod_of_nonneg ha.1
  have t2:b.tmod 4294967296=b % 4294967296:=Int.tmod_eq_emod_of_nonneg hb.1
  have t3:a.tdiv 4294967296=a / 4294967296:=Int.tdiv_eq_ediv_of_nonneg ha.1
  have t4:b.tdiv 4294967296=b / 4294967296:=Int.tdiv_eq_ediv_of_nonneg hb.1
  have w3:wu64 (a / 4294967296)=a / 4294967296:=iB (by omega)
  have w4:wu64 (b / 4294967296)=b / 4294967296:=iB (by omega)
  have wp:wu64 (a % 4294967296*(b % 4294967296))=p:=by rw [<- hp];exact iB (by omega)
  have wq:wu64 (a / 4294967296*(b % 4294967296))=q:=by rw [<- hq];exact iB (by omega)
  have wr:wu64 (a % 4294967296*(b / 4294967296))=r:=by rw [<- hr];exact iB (by omega)
  have ws:wu64 (a / 4294967296*(b / 4294967296))=s:=by rw [<- hs];exact iB (by omega)
  have d1:p.tdiv 4294967296=p / 4294967296:=Int.tdiv_eq_ediv_of_nonneg bp.1
  have d2:q.tdiv 4294967296=q / 4294967296:=Int.tdiv_eq_ediv_of_nonneg bq.1
  have d3:r.tdiv 4294967296=r / 4294967296:=Int.tdiv_eq_ediv_of_nonneg br.1
  have m2:q.tmod 4294967296=q % 4294967296:=Int.tmod_eq_emod_of_nonneg bq.1
  have m3:r.tmod 4294967296=r % 4294967296:=Int.tmod_eq_emod_of_nonneg br.1
  have wd:wu64 (p / 4294967296)=p / 4294967296:=iB (by omega)
  have we:wu64 (p / 4294967296+q % 4294967296)=p / 4294967296+q % 4294967296:=iB (by omega)
  have wf:wu64 (p / 4294967296+q % 4294967296+r % 4294967296)=p / 4294967296+q % 4294967296+r % 4294967296:=iB (by omega)
  have dm:(p / 4294967296+q % 4294967296+r % 4294967296).tdiv 4294967296=(p / 4294967296+q % 4294967296+r % 4294967296) / 4294967296:=Int.tdiv_eq_ediv_of_nonneg (by omega)
  simp only [G7,aD1,WT.run,bS,bnd,wa,wb,t1,t2,t3,t4,w3,w4,wp,wq,wr,ws,d1,d2,d3,m2,m3,wd,we,wf,dm]
  obtain ⟨k1,k2,k3,k4,k5⟩:=aFT bp bq br bs e
  rw [qI (a*b),qI,qI,qI]
  have z1:wu64 (q / 4294967296)=q / 4294967296:=iB (by omega)
  have z2:wu64 (r / 4294967296)=r / 4294967296:=iB (by omega)
  have z3:wu64 ((p / 4294967296+q % 4294967296+r % 4294967296) / 4294967296)=(p / 4294967296+q % 4294967296+r % 4294967296) / 4294967296:=iB (by omega)
  rw [z1,z2,z3,k1,k2,Int.emod_eq_of_lt k3 k4]
theorem aTA:∀ k:Nat,k<256->∃ c:UInt8,([0,1,2,2,3,3,3,3,4,4,4,4,4,4,4,4,5,5,5,5,5,5,5,5,5,5,5,5,5,5,5,5,6,6,6,6,6,6,6,6,6,6,6,6,6,6,6,6,6,6,6,6,6,6,6,6,6,6,6,6,6,6,6,6,7,7,7,7,7,7,7,7,7,7,7,7,7,7,7,7,7,7,7,7,7,7,7,7,7,7,7,7,7,7,7,7,7,7,7,7,7,7,7,7,7,7,7,7,7,7,7,7,7,7,7,7,7,7,7,7,7,7,7,7,7,7,7,7,8,8,8,8,8,8,8,8,8,8,8,8,8,8,8,8,8,8,8,8,8,8,8,8,8,8,8,8,8,8,8,8,8,8,8,8,8,8,8,8,8,8,8,8,8,8,8,8,8,8,8,8,8,8,8,8,8,8,8,8,8,8,8,8,8,8,8,8,8,8,8,8,8,8,8,8,8,8,8,8,8,8,8,8,8,8,8,8,8,8,8,8,8,8,8,8,8,8,8,8,8,8,8,8,8,8,8,8,8,8,8,8,8,8,8,8,8,8,8,8,8,8,8,8,8,8,8,8]:List UInt8)[k]?=some c/\c.toNat<=8/\k<2 ^ c.toNat/\2 ^ c.toNat<=2*k+(if k=0 then 1 else 0):=by decide +kernel
variable {β:Type}
theorem aDM {x:Int} {f:Int->Option β} {r:Option β} (h:f (x / 4294967296)=r):bnd (x.fdiv (2 ^ (min (32:Int).toNat IntKind.u64.bits))) f=r:=by
  show f (x.fdiv 4294967296)=r
  rw [Int.fdiv_eq_ediv_of_nonneg x (by decide)];exact h
theorem aVO {x:Int} {f:Int->Option β} {r:Option β} (hx:0<=x/\x<=255) (h:f x=r):bnd (DL x) f=r:=by
  show f (DL x)=r
  rw [show DL x=x from aRG hx];exact h
theorem aUD {P:β->Prop} {a b:Option β} (h:Ex P b):Ex P (cond false a b):=h
theorem aXY (x:Int):x.fdiv (2 ^ (min (32:Int).toNat IntKind.u64.bits))=x / 4294967296:=Int.fdiv_eq_ediv_of_nonneg x (by decide)
theorem aKY (x:Int):x.fdiv (2 ^ (min (16:Int).toNat IntKind.u64.bits))=x / 65536:=Int.fdiv_eq_ediv_of_nonneg x (by decide)
theorem fd8 (x:Int):x.fdiv (2 ^ (min (8:Int).toNat IntKind.u64.bits))=x / 256:=Int.fdiv_eq_ediv_of_nonneg x (by decide)
theorem C8 {x:Int} {P:β->Prop} {f:Int->Option β} (hx:0<=x/\x<=18446744073709551615) (h:Ex P (f x)):Ex P (bnd (wu64 x) f):=by
  obtain ⟨r,e,p⟩:=h;exact ⟨r,uM hx e,p⟩
theorem aU7 {k:Nat} {c:UInt8} (h8:c.toNat<=8) (h1:k<2 ^ c.toNat) (h2:2 ^ c.toNat<=2*k+(if k=0 then 1 else 0)) (hk:1<=k) :
    ∃ m:Nat,c.toNat=m+1/\m<=7/\2 ^ m<=k/\k<2 ^ (m+1):=by
  rw [if_neg (by omega)] at h2
  cases hc:c.toNat with
  | zero=>rw [hc] at h1;simp at h1;omega
  | succ m=>rw [hc] at h1 h2 h8;exact ⟨m,rfl,by omega,by rw [Nat.pow_succ] at h2;omega,h1⟩
theorem aJN {m off:Nat} {z x:Int} (hm:m<=7) (hz:(2:Int) ^ m<=z) (hz2:z<2 ^ (m+1)) (hx:z*2 ^ off<=x) (hx2:x<(z+1)*2 ^ off):(2:Int) ^ (m+off)<=x/\x<2 ^ (m+1+off):=by
  have p:(0:Int)<=2 ^ off:=Int.pow_nonneg (by decide)
  constructor
  · rw [Int.pow_add];exact Int.le_trans (Int.mul_le_mul_of_nonneg_right hz p) hx
  · rw [Int.pow_add];exact Int.lt_of_lt_of_le hx2 (Int.mul_le_mul_of_nonneg_right (by omega) p)
@[reducible] def aC3:List UInt8:=([0,1,2,2,3,3,3,3,4,4,4,4,4,4,4,4,5,5,5,5,5,5,5,5,5,5,5,5,5,5,5,5,6,6,6,6,6,6,6,6,6,6,6,6,6,6,6,6,6,6,6,6,6,6,6,6,6,6,6,6,6,6,6,6,7,7,7,7,7,7,7,7,7,7,7,7,7,7,7,7,7,7,7,7,7,7,7,7,7,7,7,7,7,7,7,7,7,7,7,7,7,7,7,7,7,7,7,7,7,7,7,7,7,7,7,7,7,7,7,7,7,7,7,7,7,7,7,7,8,8,8,8,8,8,8,8,8,8,8,8,8,8,8,8,8,8,8,8,8,8,8,8,8,8,8,8,8,8,8,8,8,8,8,8,8,8,8,8,8,8,8,8,8,8,8,8,8,8,8,8,8,8,8,8,8,8,8,8,8,8,8,8,8,8,8,8,8,8,8,8,8,8,8,8,8,8,8,8,8,8,8,8,8,8,8,8,8,8,8,8,8,8,8,8,8,8,8,8,8,8,8,8,8,8,8,8,8,8,8,8,8,8,8,8,8,8,8,8,8,8,8,8,8,8,8,8]:List UInt8)
theorem aPN {x:Int} (h:1<=x/\x<=18446744073709551615):Ex (λr=>∃ L:Nat,r=(L:Int)+1/\L<=63/\(2:Int) ^ L<=x/\x<2 ^ (L+1)) (FX x):=by
  have fin:∀ (off:Nat) (z:Int),(z*2 ^ off<=x/\x<(z+1)*2 ^ off)->1<=z->z<=255->off<=56 ->
      ∃ (m:Nat) (c:UInt8),(aC3)[z.toNat]?=some c/\(c.toNat:Int)=(m:Int)+1/\m<=7/\(2:Int) ^ (m+off)<=x/\x<2 ^ (m+off+1):=by
    intro off z hz z1 z2 ho
    obtain ⟨c,hc,h8,h1,h2⟩:=aTA z.toNat (by omega)
    obtain ⟨m,e,hm,g1,g2⟩:=aU7 h8 h1 h2 (by omega)
    have k1:(2:Int) ^ m<=z:=by
      have:((2 ^ m:Nat):Int)<=(z.toNat:Int):=by exact_mod_cast g1
      rw [Int.toNat_of_nonneg (by omega)] at this;simpa using this
    have k2:z<(2:Int) ^ (m+1):=by
      have:(z.toNat:Int)<((2 ^ (m+1):Nat):Int):=by exact_mod_cast g2
      rw [Int.toNat_of_nonneg (by omega)] at this;simpa using this
    have:=aJN hm k1 k2 hz.1 hz.2
    exact ⟨m,c,hc,by omega,hm,this.1,by rw [show m+off+1=m+1+off from by omega];exact this.2⟩
  have tl:∀ (o:Nat) (w off z:Int),(2:Int) ^ o=w->off=(o:Int)->z*w<=x/\x<(z+1)*w->1<=z/\z<=255->o<=56->Ex (λr=>∃ L:Nat,r=(L:Int)+1/\L<=63/\(2:Int) ^ L<=x/\x<2 ^ (L+1))
      (bnd (DL z) λi=>(ix aC3 i).bind λc=>bnd (bA (c.toNat:Int)) λk=>bnd (bA (off+k)) λr=>some r):=by
    intro o w off z hw ho hz hz1 ho2
    subst hw;subst ho
    obtain ⟨m,c,hc,e,hm,g1,g2⟩:=fin o z hz hz1.1 hz1.2 ho2
    exact ⟨_,aVO (by omega) (iV (by omega) hc (iE (by omega) (iE (by omega) rfl))),m+o,by omega,by omega,g1,g2⟩
  unfold FX aAY
  simp only [WT.run,bS,aXY,aKY,fd8]
  repeat' with_reducible first
    | refine bE ?_ | refine dU ?_ | apply aF | apply bF | apply dY | apply dN | apply dV | apply dZ | apply d9 | apply dO | apply dW | apply dS | refine aI (λ_=>?_) λ_=>?_ | apply dB | apply bW | apply cZ | apply bJ
  all_goals simp only at *
  all_goals first
    | exact tl 56 72057594037927936 _ _ (by decide) (by decide) (by omega) (by omega) (by decide)
    | exact tl 48 281474976710656 _ _ (by decide) (by decide) (by omega) (by omega) (by decide)
    | exact tl 40 1099511627776 _ _ (by decide) (by decide) (by omega) (by omega) (by decide)
    | exact tl 32 4294967296 _ _ (by decide) (by decide) (by omega) (by omega) (by decide)
    | exact tl 24 16777216 _ _ (by decide) (by decide) (by omega) (by omega) (by decide)
    | exact tl 16 65536 _ _ (by decide) (by decide) (by omega) (by omega) (by decide)
    | exact tl 8 256 _ _ (by decide) (by decide) (by omega) (by omega) (by decide)
    | exact tl 0 1 _ _ (by decide) (by decide) (by omega) (by omega) (by decide)
def QW (y1 y0 d:Int) (v:Int×Int):Option ((Int×Int)⊕Int) :=
  p2 (λq r=>(bnd (decide (q>=4294967296)) λx=>cond x (some true) (bnd (wu64 (q*y0)) λa=>bnd (wu64 (4294967296*r)) λb=>bnd (wu64 (b+d)) λc=>bnd (decide (a>c)) λx=>some x)).bind λy =>
    cond y (bnd (wu64 (q-1)) λq1=>bnd (wu64 (r+y1)) λr1=>bnd (decide (r1>=4294967296)) λx=>cond x (esc (some q1)) (brk (q1,r1))) (esc (some q))) v
theorem dL0 {u y y1 y0 d:Int} {n:Nat} (hn:5<n) (hy:y=y1*4294967296+y0) (h0:0<=y0/\y0<4294967296) (h1:2147483648<=y1/\y1<4294967296) (hu:0<=u/\u<y) (hd:0<=d/\d<4294967296)
    {q r:Int} (e:u=q*y1+r) (hq:(u*4294967296+d) / y<=q) (hr0:0<=r) (hr:r<4294967296) (hqm:q<=18446744073709551615):iter (QW y1 y0 d) n (q,r)=some ((u*4294967296+d) / y):=by
  have hQ:0<=(u*4294967296+d) / y:=Int.ediv_nonneg (by omega) (by omega)
  refine fH (fJ (λ(v:Int×Int)=>u=v.1*y1+v.2/\(u*4294967296+d) / y<=v.1/\0<=v.2/\v.2<4294967296/\v.1<=18446744073709551615) (λv=>(4-v.2 / 2147483648).toNat) ?_ (v:=(q,r)) ⟨e,hq,hr0,hr,hqm⟩ (by simp only;omega))
  rintro ⟨q,r⟩ ⟨e,hq,hr0,hr,hqm⟩
  simp only at e hq hr0 hr hqm
  refine bF (aU (λ(b:Bool)=>(b=true->(u*4294967296+d) / y<=q-1)/\(b=false->(u*4294967296+d) / y=q)) ?_ λb hb=>fB (λk=>?_) λk=>bJ (aD (hb.2 k).symm))
  rotate_left
  · have hh:=hb.1 k
    have e':u=(q-1)*y1+(r+y1):=by rw [e,Int.sub_mul];omega
    simp only
    refine C8 (by omega) (C8 (by omega) (aF (aI (λc3=>bJ (aD ?_)) λc3=>cK ⟨⟨e',hh,by first | omega | (simp only;omega),by first | omega | (simp only;omega),by first | omega | (simp only;omega)⟩,by first | omega | (simp only;omega)⟩)))
    exact VZ hy h0 h1 hu hd e' hh (.inr c3)
  by_cases c1:q>=4294967296
  · exact ⟨_,fQ c1 (fK rfl),λ_=>XG hy h0 h1 hu hd e hq (.inl c1),λk=>nomatch k⟩
  · have b1:=AX (X:=4294967295) (Y:=4294967295) (x:=q) (y:=y0) ⟨by omega,by omega⟩ ⟨h0.1,by omega⟩
    refine aF ?_
    rw [decide_eq_false c1]
    refine aUD ?_
    simp only
    refine C8 (by omega) ?_
    refine C8 (by omega) ?_
    refine C8 (by omega) ?_
    exact aF (aD ⟨λk=>XG hy h0 h1 hu hd e hq (.inr (of_decide_eq_true k)),λk=>(VZ hy h0 h1 hu hd e hq (.inl ⟨by omega,by have:=of_decide_eq_false k;omega⟩)).symm⟩)
def dgC (y1 y0 d:Int) (v:Int×Int):Option ((Int×Int)⊕Int) :=
  p2 (λr q=>(bnd (decide (q>=4294967296)) λx=>cond x (some true) (bnd (wu64 (q*y0)) λa=>bnd (wu64 (4294967296*r)) λb=>bnd (wu64 (b+d)) λc=>bnd (decide (a>c)) λx=>some x)).bind λy =>
    cond y (bnd (wu64 (q-1)) λq1=>bnd (wu64 (r+y1)) λr1=>bnd (decide (r1>=4294967296)) λx=>cond x (esc (some q1)) (brk (r1,q1))) (esc (some q))) v
theorem XA {J:Type} {f g:Int×Int->Option ((Int×Int)⊕J)} (h:∀ a b,g (b,a)=(f (a,b)).map λz=>match z with | .inl w=>.inl (w.2,w.1) | .inr j=>.inr j):∀ n a b,iter g n (b,a)=iter f n (a,b)
  | 0,_,_=>rfl
  | n+1,a,b=>by
    show (g (b,a)).bind (sel (iter g n))=(f (a,b)).bind (sel (iter f n))
    rw [h]
    cases f (a,b) with
    | none=>rfl
    | some z =>
      cases z with
      | inl w=>exact XA h n w.1 w.2
      | inr j=>rfl
theorem aHI (y1 y0 d:Int) (n:Nat) (a b:Int):iter (dgC y1 y0 d) n (b,a)=iter (QW y1 y0 d) n (a,b):=by
  refine XA (λq r=>?_) n a b
  simp only [QW,dgC,p2,bnd]
  cases decide (q>=4294967296)
  · simp only [cond_false,Option.bind_some]
    cases decide (wu64 (q*y0)>wu64 (wu64 (4294967296*r)+d))
    · rfl
    · simp only [cond_true]
      cases decide (wu64 (r+y1)>=4294967296) <;> rfl
  · simp only [cond_true,Option.bind_some]
    cases decide (wu64 (r+y1)>=4294967296) <;> rfl
variable {β:Type}
theorem aNT {n:Nat} {a b:Int} (ha:0<=a/\a<=18446744073709551615) (hb:1<=b/\b<=9223372036854775807):A7 n 0 a b=some (a / b,a % b):=by
  have h1:0<=a / b/\a / b<=a:=⟨Int.ediv_nonneg ha.1 (by omega),Int.ediv_le_self _ ha.1⟩
  unfold A7 RV
  simp only [WT.run,bS]
  refine eU (by omega) (dF (eU (by omega) (dF (fQ (by trivial) (fK (qB (by omega) (l8 (v:=a / b) ?_ (qB (by omega) (l8 (v:=a % b) ?_ rfl)))))))))
  · rw [Int.tdiv_eq_ediv_of_nonneg ha.1];exact iB (by omega)
  · exact Int.tmod_eq_emod_of_nonneg ha.1
theorem aSD {hi lo c P R y u w:Int} (hc:1<=c) (hh:0<=hi/\hi<c) (hl:0<=lo/\lo<=18446744073709551615) (hP:1<=P) (hR:1<=R) (hPR:P*R=18446744073709551616) (hy:y=c*P) (hu:u=hi*P+lo / R) (hw:w=(lo % R)*P) :
    (hi*18446744073709551616+lo)*P=u*18446744073709551616+w/\0<=u/\u<y/\0<=w/\w<18446744073709551616/\0<=hi*P/\hi*P<y/\0<=lo / R/\lo / R<P/\lo*P=lo / R*18446744073709551616+w:=by
  have h1:0<=lo % R/\lo % R<R:=⟨Int.emod_nonneg _ (by omega),Int.emod_lt_of_pos _ (by omega)⟩
  have h2:lo=R*(lo / R)+lo % R:=(Int.mul_ediv_add_emod lo R).symm
  have h3:0<=lo / R:=Int.ediv_nonneg hl.1 (by omega)
  have h4:lo / R<P:=Int.ediv_lt_of_lt_mul (by omega) (by omega)
  have h5:0<=hi*P:=Int.mul_nonneg hh.1 (by omega)
  have h6:hi*P<=(c-1)*P:=Int.mul_le_mul_of_nonneg_right (by omega) (by omega)
  have h7:(c-1)*P=y-P:=by rw [hy];grind
  have h8:0<=w:=by rw [hw];exact Int.mul_nonneg h1.1 (by omega)
  have h9:w<=(R-1)*P:=by rw [hw];exact Int.mul_le_mul_of_nonneg_right (by omega) (by omega)
  have h10:(R-1)*P=18446744073709551616-P:=by rw [<- hPR];grind
  have h11:lo*P=lo / R*18446744073709551616+w:=by
    rw [hw,<- hPR]
    generalize lo / R=t at *
    generalize lo % R=v at *
    rw [h2];grind
  refine ⟨?_,by omega,by omega,h8,by omega,h5,by omega,h3,h4,h11⟩
  have:(hi*18446744073709551616+lo)*P=hi*P*18446744073709551616+lo*P:=by grind
  rw [this,h11,hu];grind
theorem aWR {N c P y q1 q0 u d1 d0 u2 r0 w:Int} (hc:1<=c) (hP:1<=P) (hy:y=c*P) (hN:N*P=u*18446744073709551616+w) (hw:w=d1*4294967296+d0) (h1:u*4294967296+d1=q1*y+u2) (h2:u2*4294967296+d0=q0*y+r0) (hr:0<=r0/\r0<y) :
    q1*4294967296+q0=N / c/\r0 / P=N % c:=by
  have e1:N*P=(q1*4294967296+q0)*y+r0:=by rw [hN,hw];grind
  have e2:r0=(N-(q1*4294967296+q0)*c)*P:=by
    have:(N-(q1*4294967296+q0)*c)*P=N*P-(q1*4294967296+q0)*(c*P):=by grind
    rw [this,<- hy];omega
  generalize hM:N-(q1*4294967296+q0)*c=M at *
  have m0:0<=M:=by
    rcases Int.lt_or_le M 0 with h | h
    · have:M*P<0:=Int.mul_neg_of_neg_of_pos h (by omega)
      omega
    · exact h
  have m1:M<c:=by
    apply Int.lt_of_mul_lt_mul_right (a:=P) _ (by omega)
    rw [<- e2,<- hy];exact hr.2
  have e3:N=M+(q1*4294967296+q0)*c:=by omega
  constructor
  · rw [e3,Int.add_mul_ediv_right _ _ (by omega),Int.ediv_eq_zero_of_lt m0 m1];omega
  · rw [e3,Int.add_mul_emod_self_right,Int.emod_eq_of_lt m0 m1,e2,Int.mul_ediv_cancel _ (by omega)]
theorem aO0 {c:Int} (hc:1<=c/\c<=9223372036854775807):∃ s:Nat,KS c=some (s:Int)/\1<=s/\s<=63/\9223372036854775808<=c*2 ^ s/\c*2 ^ s<18446744073709551616:=by
  obtain ⟨_,hL,L,rfl,L63,g1,g2⟩:=aPN (x:=c) ⟨hc.1,by omega⟩
  have L62:L<=62:=by
    rcases Nat.lt_or_ge L 63 with h | h
    · omega
    · have:L=63:=by omega
      subst this
      have:(2:Int) ^ 63=9223372036854775808:=by decide
      omega
  have p:(0:Int)<=2 ^ (63-L):=Int.pow_nonneg (by decide)
  have p':(0:Int)<2 ^ (63-L):=Int.pow_pos (by decide)
  have e1:(2:Int) ^ L*2 ^ (63-L)=9223372036854775808:=by rw [<- Int.pow_add,show L+(63-L)=63 from by omega];decide
  have e2:(2:Int) ^ (L+1)*2 ^ (63-L)=18446744073709551616:=by rw [<- Int.pow_add,show L+1+(63-L)=64 from by omega];decide
  refine ⟨63-L,?_,by omega,by omega,?_,?_⟩
  · unfold KS XJ
    simp only [WT.run,bS]
    refine dK hL (l8 (v:=((63-L:Nat):Int)) ?_ rfl)
    rw [show (64:Int)-((L:Int)+1)=((63-L:Nat):Int) from by omega]
    exact wrap64 (by omega)
  · rw [<- e1];exact Int.mul_le_mul_of_nonneg_right g1 p
  · rw [<- e2];exact Int.mul_lt_mul_of_pos_right g2 p'
theorem aWX {n:Nat} {hi lo c:Int} (hn:5<n) (hc:1<=c/\c<=9223372036854775807) (hh:0<=hi/\hi<c) (hl:0<=lo/\lo<=18446744073709551615):A7 n hi lo c=some ((hi*18446744073709551616+lo) / c,(hi*18446744073709551616+lo) % c):=by
  by_cases h0:hi=0
  · rw [h0,aNT hl hc,Int.zero_mul,Int.zero_add]
  · obtain ⟨s,hs,s1,s63,y1,y2⟩:=aO0 hc
    generalize hP:(2:Int) ^ s=P at *
    generalize hR:(2:Int) ^ (64-s)=R
    have hP1:1<=P:=by rw [<- hP];have:(0:Int)<2 ^ s:=Int.pow_pos (by decide);omega
    have hR1:1<=R:=by rw [<- hR];have:(0:Int)<2 ^ (64-s):=Int.pow_pos (by decide);omega
    have hPR:P*R=18446744073709551616:=by rw [<- hP,<- hR,<- Int.pow_add,show s+(64-s)=64 from by omega];decide
    generalize hy:c*P=y at *
    generalize hu:hi*P+lo / R=u
    generalize hw:(lo % R)*P=w
    obtain ⟨k1,k2,k3,k4,k5,k6,k7,k8,k9,k10⟩:=aSD hc.1 hh hl hP1 hR1 hPR hy.symm hu.symm hw.symm
    have ww:wu64 (lo*P)=w:=by rw [qI,k10];omega
    have hor:((BitVec.ofInt IntKind.u64.bits (hi*P) ||| BitVec.ofInt IntKind.u64.bits (lo / R)).toNat:Int)=u:=by
      rw [MZ (k:=s) (t:=hi) (by rw [hP];exact Int.mul_comm _ _) hh.1 (by omega) (by rw [hP];omega) (by omega),hu]
    have hyy:y=y / 4294967296*4294967296+y % 4294967296:=by omega
    generalize hy1:y / 4294967296=b1 at *
    generalize hy0:y % 4294967296=b0 at *
    have B1:2147483648<=b1/\b1<4294967296:=by omega
    have B0:0<=b0/\b0<4294967296:=by omega
    have hww:w=w / 4294967296*4294967296+w % 4294967296:=by omega
    generalize hd1:w / 4294967296=d1 at *
    generalize hd0:w % 4294967296=d0 at *
    have D1:0<=d1/\d1<4294967296:=by omega
    have D0:0<=d0/\d0<4294967296:=by omega
    have digit:∀ u d:Int,0<=u->u<y->0<=d->d<4294967296->∃ q r Q v:Int,wu64 (u.tdiv b1)=q/\wu64 (q*b1)=q*b1/\wu64 (u-q*b1)=r/\u=q*b1+r/\(u*4294967296+d) / y<=q/\0<=r/\r<4294967296/\q<=18446744073709551615 /\
        (u*4294967296+d) / y=Q/\u*4294967296+d=Q*y+v/\0<=v/\v<y/\0<=Q/\Q<4294967296/\wu64 (wu64 (wu64 (u*4294967296)+d)-wu64 (Q*y))=v:=by
      intro u d u0 u1 d0 d1
      have q0:0<=u / b1:=Int.ediv_nonneg u0 (by omega)
      have q1:u / b1<=u:=Int.ediv_le_self _ u0
      have r0:0<=u % b1:=Int.emod_nonneg _ (by omega)
      have r1:u % b1<b1:=Int.emod_lt_of_pos _ (by omega)
      have e:b1*(u / b1)+u % b1=u:=Int.mul_ediv_add_emod u b1
      have ec:b1*(u / b1)=u / b1*b1:=Int.mul_comm _ _
      have qb:0<=u / b1*b1:=Int.mul_nonneg q0 (by omega)
      have Q0:0<=(u*4294967296+d) / y:=Int.ediv_nonneg (by omega) (by omega)
      have QB:(u*4294967296+d) / y<4294967296:=by
        apply Int.ediv_lt_of_lt_mul (by omega)
        have:4294967296*y=y*4294967296:=Int.mul_comm _ _
        omega
      have v0:0<=(u*4294967296+d) % y:=Int.emod_nonneg _ (by omega)
      have v1:(u*4294967296+d) % y<y:=Int.emod_lt_of_pos _ (by omega)
      have ev:y*((u*4294967296+d) / y)+(u*4294967296+d) % y=u*4294967296+d:=Int.mul_ediv_add_emod _ _
      have evc:y*((u*4294967296+d) / y)=(u*4294967296+d) / y*y:=Int.mul_comm _ _
      have hq:(u*4294967296+d) / y<=u / b1:=by
        generalize hQ:(u*4294967296+d) / y=Q at *
        apply Int.le_ediv_of_mul_le (by omega)
        have e3:Q*y=Q*b1*4294967296+Q*b0:=by
          have:y=b1*4294967296+b0:=hyy
          rw [this];grind
        have e4:0<=Q*b0:=Int.mul_nonneg Q0 B0.1
        have e5:Q*y<=u*4294967296+d:=by rw [<- evc,<- ev];exact Int.le_add_of_nonneg_right v0
        clear ev evc
        generalize Q*b1=X at *
        generalize Q*b0=Z at *
        generalize Q*y=W at *
        clear q0 q1 r0 r1 e ec v0 v1 QB k1 k10 hww
        omega
      refine ⟨u / b1,u % b1,_,_,?_,?_,?_,by omega,hq,r0,by omega,by omega,rfl,by rw [<- evc];exact ev.symm,v0,v1,Q0,QB,?_⟩
      · rw [Int.tdiv_eq_ediv_of_nonneg u0];exact iB (by omega)
      · exact iB (by omega)
      · rw [show u-u / b1*b1=u % b1 from by omega];exact iB (by omega)
      · generalize (u*4294967296+d) / y*y=X at *
        generalize (u*4294967296+d) % y=v at *
        simp only [qI];omega
    obtain ⟨qa,ra,Q1,u2,a1,a2,a3,a4,a5,a6,a7,a8,a9,l6,a11,a12,a13,a14,a15⟩:=digit u d1 k2 k3 D1.1 D1.2
    obtain ⟨qb,rb,Q2,r0,c1,c2,c3,c4,c5,c6,c7,c8,c9,c10,c11,c12,c13,c14,c15⟩:=digit u2 d0 a11 a12 D0.1 D0.2
    have l0:=dL0 hn hyy B0 B1 ⟨k2,k3⟩ D1 a4 a5 a6 a7 a8
    have l1:=dL0 hn hyy B0 B1 ⟨a11,a12⟩ D0 c4 c5 c6 c7 c8
    rw [a9] at l0
    rw [c9] at l1
    rw [<- aHI] at l1
    obtain ⟨z1,z2⟩:=aWR hc.1 hP1 hy.symm k1 hww l6 c10 ⟨c11,c12⟩
    unfold A7 RV
    simp only [WT.run,bS]
    refine eU (by omega) (dF (eU (by omega) (dF (eU h0 (dF (dK hs ?_))))))
    refine uM (by omega) (qB (by omega) (yO (t:=s) (y:=y) (by omega) (by omega) hP (by rw [hy];exact iB (by omega)) ?_))
    refine aDM (aEG (by omega) (qB (by omega) (yO (t:=s) (y:=hi*P) (by omega) (by omega) hP (iB (by omega)) ?_)))
    refine uM (by omega) (qB (by omega) (JX (t:=64-s) (by omega) (by omega) hR (by omega) ?_))
    refine FZ hor (by omega) (qB (by omega) (yO (t:=s) (by omega) (by omega) hP ww ?_))
    refine aDM (aEG (by omega) ?_)
    rw [hy1,hy0,hd1,hd0]
    refine qB (by omega) (l8 a1 (l8 a2 (l8 a3 (dK l0 ?_))))
    refine iA (iA (iA (l8 a15 ?_)))
    refine qB (by omega) (l8 c1 (l8 c2 (l8 c3 (dK l1 ?_))))
    refine uM (by omega) (uM (by omega) (iA (iA (iA (l8 c15 (qB (by omega) (JX (t:=s) (by omega) (by omega) hP (by omega) ?_)))))))
    rw [z1,z2]
theorem Q6 {n:Nat} {a b c:Int} (hn:66<n) (ha:-9223372036854775808<=a/\a<=9223372036854775807) (hb:-9223372036854775808<=b/\b<=9223372036854775807) (hc:-9223372036854775808<=c/\c<=9223372036854775807):BQ n a b c=some (md a b c):=by
  unfold BQ aAC md
  simp only [WT.run,bS]
  by_cases k:a<0\/b<0\/c<1
  · rw [if_pos k]
    refine dK (a:=true) ?_ (fK rfl)
    by_cases k1:a<0
    · exact fQ k1 (fK rfl)
    · refine eU k1 (dF ?_)
      by_cases k2:b<0
      · exact fQ k2 (fK rfl)
      · exact eU k2 (dF (fQ (by omega) rfl))
  · rw [if_neg k]
    have ha':0<=a/\a<=9223372036854775807:=by omega
    have hb':0<=b/\b<=9223372036854775807:=by omega
    have hc':1<=c/\c<=9223372036854775807:=by omega
    refine dK (a:=false) ?_ (dF (dK (aLI ha' hb') ?_))
    · exact eU (by omega) (dF (eU (by omega) (dF (eU (by omega) rfl))))
    have h0:0<=a*b:=Int.mul_nonneg ha'.1 hb'.1
    have hN:a*b / 18446744073709551616*18446744073709551616+a*b % 18446744073709551616=a*b:=by omega
    have hr:0<=a*b % c/\a*b % c<c:=⟨Int.emod_nonneg _ (by omega),Int.emod_lt_of_pos _ (by omega)⟩
    have hq0:0<=a*b / c:=Int.ediv_nonneg h0 (by omega)
    have hd:c*(a*b / c)+a*b % c=a*b:=Int.mul_ediv_add_emod _ _
    refine uM (by omega) ?_
    by_cases h1:a*b / 18446744073709551616>=c
    · refine fQ h1 (fK ?_)
      have:¬ a*b / c<=288230376151711744:=by
        intro hq
        have h5:c*(a*b / c)<=c*288230376151711744:=Int.mul_le_mul_of_nonneg_left hq (by omega)
        generalize a*b=N at *
        generalize c*(N / c)=X at *
        omega
      rw [if_pos (by omega)]
    · refine eU h1 (dF (uM (by omega) ?_))
      have hd:=aWX (n:=n) (by omega) (hi:=a*b / 18446744073709551616) hc' ⟨by omega,by omega⟩ (show 0<=a*b % 18446744073709551616/\a*b % 18446744073709551616<=18446744073709551615 by omega)
      rw [hN] at hd
      refine dK hd ?_
      by_cases h2:a*b / c>288230376151711744
      · rw [if_pos h2];exact fQ h2 (fK rfl)
      · rw [if_neg h2];exact eU h2 (dF (iE (by omega) (iE (by omega) rfl)))
set_option maxHeartbeats 1000000
theorem FV {n:Nat} {v q k:Int} (hn:66<n) (hq:-9223372036854775808<=q/\q<=9223372036854775807) (hk:-9223372036854775808<=k/\k<=9223372036854775807):qK n v q k=some (pt v q k):=by
  refine fH ?_
  unfold qK aGG pt
  simp only [WT.run,bS,pIn,Option.bind_some]
  refine aU (λb=>b=true↔(k<1\/q<0\/q>k\/¬ bQ v)) ?_ λb hb=>?_
  · repeat' with_reducible first | refine bE ?_ | refine dU ?_ | apply aF | apply bF | apply dY | apply dN | apply dV | apply dZ | apply d9 | apply dO | apply dW | apply dS | refine aI (λ_=>?_) λ_=>?_ | refine dJ (λ_=>?_) λ_=>?_ | apply dB | apply bW | apply cZ | apply bJ | apply aD
    all_goals first | (simp only [true_iff];omega) | skip
    rename_i h1 h2 h3
    simp only [Bool.not_eq_true',decide_eq_false_iff_not]
    exact ⟨λh=>.inr (.inr (.inr h)),λh=>by rcases h with h | h | h | h <;> first | omega | exact h⟩
  · refine fB (λk1=>aD (by rw [if_pos (hb.1 k1)])) λk1=>?_
    have hc:¬ (k<1\/q<0\/q>k\/¬ bQ v):=λh=>by rw [hb.2 h] at k1;cases k1
    rw [if_neg hc]
    have hv:bQ v:=Classical.not_not.1 λh=>hc (.inr (.inr (.inr h)))
    have h1:1<=k/\0<=q/\q<=k:=by omega
    unfold bQ at hv
    have mm:∀ w:Int,0<=w->w<=288230376151711744->md w q k=(w*q / k,w*q % k,0)/\0<=w*q / k/\w*q / k<=w:=λw w0 w1=>by
      obtain ⟨g1,g2⟩:=rM (v:=w) (q:=q) (n:=k) w0 (by omega) (by omega)
      exact ⟨by unfold md;rw [if_neg (by omega),if_neg (by omega)],g1,g2⟩
    refine aF (aI (λe=>aD ?_) λe=>aF (aI (λh5=>?_) λh5=>?_))
    · subst e
      rw [Int.mul_ediv_cancel _ (by omega),Int.mul_ediv_cancel _ (by omega)]
      split <;> omega
    · obtain ⟨e1,g1,g2⟩:=mm (-v) (by omega) (by omega)
      rw [if_pos h5,show (0:Int)-v=-v by omega]
      refine bE (x_eq (Q6 hn (by omega) hq hk) ?_)
      rw [e1]
      exact bE (aD (by simp only;omega))
    · obtain ⟨e1,g1,g2⟩:=mm v (by omega) (by omega)
      rw [if_neg h5]
      refine x_eq (Q6 hn (by omega) hq hk) (aD ?_)
      rw [e1]
theorem aEY {l:List aB} {q:Int} {n:Nat} (hn:66<n) (hl:LR l) (hq:1<=q/\q<=9223372036854775807):FE n l q=some (decide (q<=tQ l)):=by
  have hb:=gV hl
  refine fH ?_
  unfold FE aDR
  simp only [WT.run,bS]
  refine aU (λ(r:Unit⊕Bool)=>match r with | .inl _=>¬ q<=tQ l | .inr b=>b=true/\q<=tQ l) (fJ (λ(v:Int×Int)=>0<=v.2/\v.2<=(l.length:Int)/\1<=v.1/\v.1<=q/\v.1+tQ l=q+tQ (l.drop v.2.toNat)) (λv=>l.length-v.2.toNat) ?_ (v:=(q,0)) ⟨by simp,by simp,hq.1,Int.le_refl _,by simp⟩ (by simp only;omega)) λr hr=>iZ (λa e=>?_) λb e=>?_
  · rintro ⟨c,i⟩ ⟨h0,h1,h2,h4,h3⟩
    simp only at h0 h1 h2 h3 h4
    refine bF (aF (aI (λhi=>?_) λhi=>bJ (cK ?_)))
    · have hi:i<(l.length:Int):=hi
      refine eT h0 hi λx hx=>?_
      have hx:l[i.toNat]?=some x:=hx
      obtain ⟨d1,d2,d3,d4⟩:=BV hx
      obtain ⟨g1,g2,g3⟩:=hl.1 x (fE hx)
      have hr:=l9 (l:=l.drop (i.toNat+1)) λy hy=>hl.1 y (List.mem_of_mem_drop hy)
      have e2:(i+1).toNat=i.toNat+1:=by omega
      rw [if_neg (show ¬ (0:Int)>x.aG by omega)]
      refine aF (aF ?_)
      by_cases k:c<x.aG
      · rw [if_pos k]
        exact bE (aF (aI (λ_=>bJ (bJ (aD ⟨rfl,by omega⟩))) λz=>absurd (show c-c=0 by omega) z))
      · rw [if_neg k]
        refine bE (aF (aI (λz=>bJ (bJ (aD ⟨rfl,by omega⟩))) λz=>bE (cK ⟨⟨by first | omega | (simp only;omega),by first | omega | (simp only;omega),by first | omega | (simp only;omega),by first | omega | (simp only;omega),by simp only;rw [e2];omega⟩,by first | omega | (simp only;omega)⟩)))
    · have hd:l.drop i.toNat=[]:=List.drop_eq_nil_of_le (by first | omega | (simp only;omega))
      rw [hd] at h3
      simp only [tQ] at h3
      show ¬ q<=tQ l
      omega
  · subst e;exact aD (decide_eq_false hr).symm
  · subst e;rw [decide_eq_true hr.2];exact hr.1
def win (a b:Nat) (L:List aB):List aB:=(L.drop a).take b
theorem Q4 {a b:Nat} {L:List aB} {x:aB} (h:L[a]?=some x):win a (b+1) L=x :: win (a+1) b L:=by
  unfold win;rw [(drop_at h).2];rfl
theorem QJ {a b:Nat} {L:List aB} {y:aB} (h:a<L.length):win a (b+1) (L.set a y)=y :: win (a+1) b L:=by
  rw [Q4 (x:=y) (by simp [h])]
  unfold win
  rw [List.drop_set_of_lt (by omega)]
theorem aE8 {a b:Nat} {L:List aB} (h:a+b<=L.length):(win a b L).length=b:=by unfold win;simp;omega
noncomputable def aS7 (n:Nat) (v:Nat×Nat×Int×List aB×aB):Option ((Nat×Nat×Int×List aB×aB)⊕(Nat×Nat×List aB×aB)) :=
  p2 (λ(a:Nat) q0=>p2 (λ(b:Nat) q1=>p2 (λ(c:Int) q2=>p2 (λ(L:List aB) (o:aB) =>
    (bnd (decide ((b:Int)>0)) λx=>cond x (bnd (decide (c>0)) λx=>some x) (some false)).bind λy =>
    cond y (iO ((0:Int)<=0/\0<(b:Int)) ((ix L ((a:Int)+0)).bind λx=>bnd (decide (x.aG>c)) λz =>
      (cond z ((qK n x.Value c x.aG).bind λs=>(qK n x.bO c x.aG).bind λt =>
          iO ((0:Int)<=0/\0<(b:Int)) (bnd (bA (x.aG-c)) λu=>iO ((0:Int)<=0/\0<(b:Int)) (bnd (bA (x.Value-s)) λw=>iO ((0:Int)<=0/\0<(b:Int)) (bnd (bA (x.bO-t)) λz =>
          iO ((0:Int)<=0/\0<(b:Int)) (bnd (L.set (Int.toNat ((a:Int)+0)) ⟨u,x.Value,x.bO⟩) λL1=>iO ((0:Int)<=0/\0<(b:Int)) (bnd (L1.set (Int.toNat ((a:Int)+0)) ⟨u,w,x.bO⟩) λL2=>iO ((0:Int)<=0/\0<(b:Int)) (bnd (L2.set (Int.toNat ((a:Int)+0)) ⟨u,w,z⟩) λL3=>some (a,b,L3,(⟨c,s,t⟩:aB)))))))))
        (iO ((0:Int)<=1/\1<=(b:Int)/\(b:Int)<=(b:Int)/\1<((b:Int)+1)) (bnd (if Int.toNat (b:Int)=1 then a else a+1) λa1=>some (a1,Int.toNat (b:Int)-1,L,x)))).bind λy =>
      p2 (λ(a1:Nat) q0=>p2 (λ(b1:Nat) q1=>p2 (λ(L1:List aB) (g:aB)=>bnd (bA (o.aG+g.aG)) λe=>bnd (bA (o.Value+g.Value)) λf=>bnd (bA (o.bO+g.bO)) λh=>bnd (bA (c-g.aG)) λk=>brk (a1,b1,k,L1,(⟨e,f,h⟩:aB))) q1) q0) y))
      (esc (some (a,b,L,o)))) q2) q1) q0) v
theorem Y2 {l:List aB} {q:Int} {n:Nat} (hn:66<n) (hl:LR l) (hq:1<=q/\q<=tQ l) :
    Ex (λ(r:Nat×Nat×List aB×aB)=>r.1+r.2.1<=r.2.2.1.length/\win r.1 r.2.1 r.2.2.1=(tk l q).1/\r.2.2.2=(tk l q).2) (iter (aS7 n) n (0,l.length,q,l,⟨0,0,0⟩)):=by
  have hb:=gV hl
  refine fJ (λ(v:Nat×Nat×Int×List aB×aB)=>v.1+v.2.1<=v.2.2.2.1.length/\TI l (win v.1 v.2.1 v.2.2.2.1) v.2.2.2.2/\v.2.2.1+v.2.2.2.2.aG=q/\0<=v.2.2.1/\tk l q=((tk (win v.1 v.2.1 v.2.2.2.1) v.2.2.1).1,jM v.2.2.2.2 (tk (win v.1 v.2.1 v.2.2.2.1) v.2.2.1).2)) (λv=>2*v.2.1+(if v.2.2.1>0 then 1 else 0)) ?_ ⟨by simp,by simpa [win] using TI.init hl,by simp,by simp only;omega,by simp [win,jM]⟩ (by simp only;split <;> omega)
  rintro ⟨a,b,c,L,o⟩ ⟨h1,ti,hc,hc0,e⟩
  simp only at h1 ti hc hc0 e
  have tb:=ti.b hl
  have wl:=aE8 h1
  refine bF (bF (bF (bF (aU (λy=>y=true↔0<b/\0<c) (aF (aI (λk1=>aF (aD ?_)) λk1=>aD ?_)) λy hy=>fB (λky=>?_) λky=>bJ (aD ?_)))))
  · have k1:(b:Int)>0:=k1
    simp only [decide_eq_true_eq];exact ⟨λk=>⟨by omega,k⟩,λk=>k.2⟩
  · have k1:¬ (b:Int)>0:=k1
    exact ⟨(λk=>nomatch k),λk=>absurd k.1 (by omega)⟩
  · obtain ⟨b0,c0⟩:=hy.1 ky
    obtain ⟨k,rfl⟩:∃ k,b=k+1:=⟨b-1,by omega⟩
    refine dM (eT (by omega) (by simp only;omega) λx hx=>?_)
    have ea:((a:Int)+0).toNat=a:=by omega
    have hx:L[((a:Int)+0).toNat]?=some x:=hx
    rw [ea] at hx
    rw [Q4 hx] at ti e
    obtain ⟨g1,g2,g3⟩:=ti.ok x (List.mem_cons_self ..)
    refine aF (aU (λ(r:Nat×Nat×List aB×aB)=>(x.aG>c/\r=(a,k+1,L.set a (lq x c),jY x c))\/(¬ x.aG>c/\∃ a1,r=(a1,k,L,x)/\a1+k<=L.length/\win a1 k L=win (a+1) k L)) (aI (λk2=>?_) λk2=>?_) λr hr=>?_)
    · have k2:x.aG>c:=k2
      obtain ⟨p1,p2,p3,p4⟩:=OT (w:=c) ⟨g1,g2,g3⟩ ⟨by omega,by omega⟩
      refine x_eq (FV hn (by simp only;omega) (by omega)) (x_eq (FV hn (by simp only;omega) (by omega)) ?_)
      refine dM (gU (by simp only;omega) (dM (gU (by simp only;omega) (dM (gU (by simp only;omega) (dM (aF (dM (aF (dM (aF (aD (.inl ⟨k2,?_⟩)))))))))))))
      simp only [ea,List.set_set];rfl
    · have k2:¬ x.aG>c:=k2
      refine dM (aF (aD (.inr ⟨k2,_,rfl,?_,?_⟩)))
      · split <;> omega
      · by_cases k0:k=0
        · subst k0;simp [win]
        · rw [if_neg (show ¬ Int.toNat ((k+1:Nat):Int)=1 by omega)]
    · rcases hr with ⟨k2,rfl⟩ | ⟨k2,a1,rfl,w1,w2⟩
      · have t2:=ti.part (w:=c) ⟨by omega,by omega⟩
        have b2:=t2.b hl
        simp only [jM,jY] at b2
        have al:a<L.length:=by omega
        refine bF (bF (bF (gU (by simp only [jY];omega) (gU (by simp only [jY];omega) (gU (by simp only [jY];omega) (gU (by simp only [jY];omega) (cK ⟨⟨by simp only [List.length_set];omega,?_,by simp only [jY];omega,by simp only [jY];omega,?_⟩,?_⟩)))))))
        · simp only [QJ al];exact t2
        · rw [aD8 (by omega) k2] at e
          simp only [QJ al,jY,show c-c=0 by omega]
          rw [E5 (Int.le_refl 0),NA];exact e
        · simp only [jY,show c-c=0 by omega]
          rw [if_pos c0,if_neg (by decide)];omega
      · have t2:=ti.whole
        have b2:=t2.b hl
        simp only [jM] at b2
        refine bF (bF (bF (gU (by simp only;omega) (gU (by simp only;omega) (gU (by simp only;omega) (gU (by simp only;omega) (cK ⟨⟨w1,?_,by simp only;omega,by simp only;omega,?_⟩,?_⟩)))))))
        · simp only [w2];exact t2
        · rw [aB8 (by omega) k2] at e
          simp only [w2]
          rw [e,<- ZV];rfl
        · simp only;rw [if_pos c0];split <;> omega
  · have hz:¬ (0<b/\0<c):=λk=>by rw [hy.2 k] at ky;cases ky
    by_cases k:b=0
    · subst k
      have w0:win a 0 L=[]:=by unfold win;simp
      rw [w0] at e
      have hq2:=ti.q
      rw [w0] at hq2
      simp only [tk,NA] at e
      refine ⟨h1,by simp only [w0];rw [e],by rw [e]⟩
    · have c0:c<=0:=by omega
      rw [E5 c0,NA] at e
      exact ⟨h1,by rw [e],by rw [e]⟩
theorem p9o {l:List aB} {q:Int} {n:Nat} (hn:66<n) (hl:LR l) (hq:-9223372036854775808<=q/\q<=9223372036854775807):DW n l q=some (o9 l q):=by
  have hb:=gV hl
  refine fH ?_
  unfold DW YS o9
  simp only [WT.run,bS]
  refine dM (aF (aI (λk1=>aD (by rw [if_pos k1])) λk1=>x_eq (aEY hn hl (by omega)) ?_))
  rw [if_neg k1]
  by_cases k2:q<=tQ l
  · rw [if_neg (by omega),decide_eq_true k2]
    refine aF (bW (aU _ (Y2 hn hl (by omega)) λr hr=>bF (bF (bF (iR hr.1 (aD ?_))))))
    rw [<- hr.2.1,<- hr.2.2];rfl
  · rw [if_pos (by omega),decide_eq_false k2]
    exact aF (dB (aD rfl))
theorem aC5 {l:List aB} {q:Int} {n:Nat} (hn:66<n) (hl:LR l) (hq:-9223372036854775808<=q/\q<=9223372036854775807):CL n l q=some (o9 l q):=by
  refine fH ?_
  unfold CL VF
  simp only [WT.run,bS,p9o hn hl hq,Option.bind_some]
  exact aD rfl
theorem NP {l:List aB} {q:Int} {n:Nat} (hn:66<n) (hl:LR l) (hq:-9223372036854775808<=q/\q<=9223372036854775807):pO n l q=some (o9 l q):=by
  refine fH ?_
  unfold pO TE
  simp only [WT.run,bS,SG hn hl hq,Option.bind_some]
  exact aD rfl
set_option maxRecDepth 1000000
theorem YR {c:Int} (hc:0<=c/\c<=1073741824):EA c=some true:=by
  unfold EA aBC
  simp only [WT.run,bS]
  exact dK (a:=true) (fQ hc.1 (fK (fQ hc.2 rfl))) rfl
theorem UN {n:Nat} {c q:Int} (hn:66<n) (hc:0<=c/\c<=1073741824) (h1:1<=q) (h2:q<=9223372036854775807):DC n c q=some ((md q c 1).1,(md q c 1).2.2):=by
  unfold DC aBE
  simp only [WT.run,bS]
  have e:(if 0>q then 0 else q)=q:=if_neg (by omega)
  rw [e]
  exact dK (Q6 hn (by omega) (by omega) (by omega)) rfl
noncomputable def f12 (l:List aB) (x:aB) (c:Int):List aB×Int×Int :=
  if x.aG<1\/x.Value<0 then (l,0,1) else if (md x.aG c 1).2.2≠0\/x.Value>288230376151711744 then (l,0,2)
  else if (f10 l ⟨x.aG,(md x.aG c 1).1,x.bO⟩).2≠0 then (l,0,(f10 l ⟨x.aG,(md x.aG c 1).1,x.bO⟩).2) else ((f10 l ⟨x.aG,(md x.aG c 1).1,x.bO⟩).1,x.Value-(md x.aG c 1).1,0)
theorem a0I {a v:Int}:Ex (λb=>b=true↔(a≠0\/v>288230376151711744)) (bnd (!decide (a=0)) λx=>cond x (some true) (bnd (decide (v>288230376151711744)) λy=>some y)):=by
  refine aF (fB (λk=>aD ⟨λ_=>.inl (by simpa using k),λ_=>rfl⟩) λk=>aF (aD ⟨λq=>.inr (of_decide_eq_true q),λq=>?_⟩))
  have k:a=0:=by simpa using k
  exact decide_eq_true (q.resolve_left λz=>z k)
theorem r12 {l:List aB} {x:aB} {c:Int} {n:Nat} (hn:66<n) (hl:LR l) (hc:0<=c/\c<=1073741824) (hx:x.aG<=9223372036854775807):L9 n l x c=some (f12 l x c):=by
  have hm:=yN x.aG c 1
  refine fH ?_
  unfold L9 aAB f12
  simp only [WT.run,bS]
  repeat' with_reducible first | refine bE ?_ | refine dU ?_ | apply aF | apply bF | apply dY | apply dN | apply dV | apply dZ | apply d9 | apply dO | apply dW | apply dS | refine aI (λ_=>?_) λ_=>?_ | refine dJ (λ_=>?_) λ_=>?_ | apply dB | apply bW | apply cZ | apply bJ | apply aD
  all_goals try (exfalso;omega)
  all_goals try (rw [if_pos (by omega)])
  rw [if_neg (by omega)]
  refine x_eq (M6 hn (by omega) (by omega)) (aU _ a0I λb hb=>fB (λk=>aD (by rw [if_pos (hb.1 k)])) λk=>?_)
  have hb:¬ ((md x.aG c 1).2.2≠0\/x.Value>288230376151711744):=λq=>by rw [hb.2 q] at k;cases k
  rw [if_neg hb]
  refine x_eq (G5 hn hl) (aF (aI (λk=>aD ?_) λk=>gU (by simp only;omega) (aD ?_)))
  · rw [if_pos k]
  · rw [if_neg k]
theorem rR {l:List aB} {x:aB} {c:Int} {n:Nat} (hn:66<n) (hl:LR l) (h1:l.length<=1) (hc:0<=c/\c<=1073741824) (hx:x.aG<=9223372036854775807):MO n l x c=some (f12 l x c):=by
  have hm:=yN x.aG c 1
  refine fH ?_
  unfold MO aES f12
  simp only [WT.run,bS]
  refine dM ?_
  refine aU (λb=>b=true↔(x.aG<1\/x.Value<0)) (x_eq (YR hc) (aF (bW (aF (aI (λk=>aD ⟨λ_=>.inl k,λ_=>rfl⟩) λk=>aF (aD ⟨λq=>.inr (of_decide_eq_true q),λq=>decide_eq_true (q.resolve_left k)⟩)))))) λb hb=>fB (λk=>aD (by rw [if_pos (hb.1 k)])) λk=>?_
  have hb:¬ (x.aG<1\/x.Value<0):=λq=>by rw [hb.2 q] at k;cases k
  rw [if_neg hb]
  refine x_eq (UN hn hc (by omega) hx) ?_
  refine aU (λb=>b=true↔((md x.aG c 1).2.2≠0\/x.Value>288230376151711744)) (aF (aI (λk=>aD ⟨λ_=>.inl k,λ_=>rfl⟩) λk=>aF (aD ⟨λq=>.inr (of_decide_eq_true q),λq=>decide_eq_true (q.resolve_left k)⟩))) λb hb2=>fB (λk=>aD (by rw [if_pos (hb2.1 k)])) λk=>?_
  have hb2:¬ ((md x.aG c 1).2.2≠0\/x.Value>288230376151711744):=λq=>by rw [hb2.2 q] at k;cases k
  rw [if_neg hb2]
  refine bE ?_
  refine x_eq (uS hn hl (by omega)) (aF (aI (λk=>aD ?_) λk=>aD ?_))
  · rw [if_pos k]
  · rw [if_neg k]
theorem a0Q {l:List aB} {x:aB} (h:(f10 l x).2≠0):(f10 l x).1=l:=by
  unfold f10 at h ⊢
  split
  · rfl
  · split
    · rename_i a b;rw [if_neg a,if_pos b] at h;exact absurd rfl h
    · rfl
noncomputable def g13 (m c:Int) (p:aH) (x:aB):aH×Int×Int :=
  if m=1 then (⟨(f9 p.aW x).1,p.bN⟩,0,(f9 p.aW x).2) else if m=4 then (⟨(f12 p.aW x c).1,p.bN⟩,(f12 p.aW x c).2.1,(f12 p.aW x c).2.2) else (⟨(f10 p.aW x).1,p.bN⟩,0,(f10 p.aW x).2)
noncomputable def f13 (m c:Int) (p:aH) (x:aB):aH×Int×Int:=if (g13 m c p x).2.2≠0 then (p,0,(g13 m c p x).2.2) else ((g13 m c p x).1,(g13 m c p x).2.1,0)
theorem r11 {p:aH} {x:aB} {n:Nat} (hn:66<n) (hl:LR p.aW):KQ n p x=some (⟨(f10 p.aW x).1,p.bN⟩,(f10 p.aW x).2):=by
  refine fH ?_
  unfold KQ WY
  simp only [WT.run,bS]
  refine x_eq (G5 hn hl) (aF (aI (λk=>aD ?_) λk=>aD ?_))
  · rw [a0Q k]
  · rw [Classical.not_not.1 k]
theorem p11 {p:aH} {x:aB} {n:Nat} (hn:66<n) (hl:LR p.aW) (h1:p.aW.length<=1):JG n p x=some (⟨(f10 p.aW x).1,p.bN⟩,(f10 p.aW x).2):=by
  refine fH ?_
  unfold JG aGH
  simp only [WT.run,bS]
  have h2:(f10 p.aW x).1.length<=1:=by
    unfold f10
    split
    · exact h1
    · split
      · exact Nat.le_refl _
      · exact h1
  refine x_eq (uS hn hl (by omega)) (aU (λr=>r=⟨(f10 p.aW x).1,p.bN⟩) ?_ λr hr=>aD (by rw [hr]))
  unfold uN OA
  simp only [WT.run,bS]
  exact dM (aD rfl)
theorem NE {m:Int} {p:aH} (h:PR m p):m=1\/m=2\/m=3\/m=4:=by have:=h.mt;omega
theorem r13 {m c:Int} {p:aH} {x:aB} {n:Nat} (hn:66<n) (h:PR m p) (hc:0<=c/\c<=1073741824) (hx:x.aG<=9223372036854775807):HY n m c p x=some (f13 m c p x):=by
  refine fH ?_
  unfold HY aDA f13
  simp only [WT.run,bS]
  refine aU (λ(r:Int×Int×aH)=>r=((g13 m c p x).2.1,(g13 m c p x).2.2,(g13 m c p x).1)) ?_ λr hr=>?_
  · unfold g13
    rcases NE h with rfl | rfl | rfl | rfl
    · exact aF (aI (λ_=>x_eq (r9 hn h.ly) (aD rfl)) λk=>absurd rfl k)
    · exact aF (aI (λk=>absurd k (by decide)) λ_=>aF (aI (λ_=>x_eq (G5 hn h.ly) (aD rfl)) λk=>absurd rfl k))
    · exact aF (aI (λk=>absurd k (by decide)) λ_=>aF (aI (λk=>absurd k (by decide)) λ_=>aF (aI (λ_=>x_eq (r11 hn h.ly) (aD rfl)) λk=>absurd rfl k)))
    · exact aF (aI (λk=>absurd k (by decide)) λ_=>aF (aI (λk=>absurd k (by decide)) λ_=>aF (aI (λk=>absurd k (by decide)) λ_=>aF (aI (λ_=>x_eq (r12 hn h.ly hc hx) (aD rfl)) λk=>absurd rfl k))))
  · subst hr
    refine bF (bF (aF (aI (λk=>aD ?_) λk=>aD ?_)))
    · rw [if_pos k]
    · rw [if_neg k]
theorem aCC {p:aH} (h:p.aW.length<=1000):nD p=some p:=by
  refine fH ?_
  unfold nD aDN
  simp only [WT.run,bS]
  exact dM (aU (λ_=>True) (aD trivial) λ_ _=>aD rfl)
theorem vZ (p:aH) (l:List aB):wL p l=some ⟨l,p.bN⟩:=rfl
theorem ZY {m c:Int} {p:aH} {x:aB} {n:Nat} (hn:66<n) (h:PR m p) (hc:0<=c/\c<=1073741824) (hx:x.aG<=9223372036854775807):aDJ n m c p x=some (f13 m c p x):=by
  have hl:=tC h.ly
  refine fH ?_
  unfold aDJ aGB f13 g13
  have ho:=aCC (p:=p) (by omega)
  rcases NE h with rfl | rfl | rfl | rfl
  · simp only [WT.run,bS,p9 hn h.ly,vZ,ho,Option.bind_some,bnd,decide_true,cond_true,wM,Sum.elim_inl,Sum.elim_inr,p2,if_true]
    refine aI (λk=>aD ?_) λk=>aD ?_
    · rw [if_pos k]
    · rw [if_neg k]
  · have h1:=h.one (by decide)
    simp only [WT.run,bS,uS hn h.ly (by omega),vZ,ho,Option.bind_some,bnd,decide_true,cond_true,cond_false,wM,p2,if_true,if_false,Sum.elim_inl,Sum.elim_inr,show decide ((2:Int)=1)=false from rfl,show ((2:Int)=1)=False from by simp,show ((2:Int)=4)=False from by simp]
    refine aI (λk=>aD ?_) λk=>aD ?_
    · rw [if_pos k]
    · rw [if_neg k]
  · have h1:=h.one (by decide)
    simp only [WT.run,bS,p11 hn h.ly h1,vZ,ho,Option.bind_some,bnd,decide_true,cond_true,cond_false,wM,p2,if_true,if_false,Sum.elim_inl,Sum.elim_inr,show decide ((3:Int)=1)=false from rfl,show decide ((3:Int)=2)=false from rfl,show ((3:Int)=1)=False from by simp,show ((3:Int)=4)=False from by simp]
    refine aI (λk=>aD ?_) λk=>aD ?_
    · rw [if_pos k]
    · rw [if_neg k]
  · have h1:=h.one (by decide)
    simp only [WT.run,bS,rR hn h.ly h1 hc hx,vZ,ho,Option.bind_some,bnd,decide_true,cond_true,cond_false,wM,p2,if_true,if_false,Sum.elim_inl,Sum.elim_inr,show decide ((4:Int)=1)=false from rfl,show decide ((4:Int)=2)=false from rfl,show decide ((4:Int)=3)=false from rfl,show ((4:Int)=1)=False from by simp]
    refine aI (λk=>aD ?_) λk=>aD ?_
    · rw [if_pos k]
    · rw [if_neg k]
end Go.Pv
