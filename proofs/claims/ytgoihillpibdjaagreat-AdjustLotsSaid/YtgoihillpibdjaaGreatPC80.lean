import Derived.Test.YtgoihillpibdjaaGreatB70
import Derived.Test.YtgoihillpibdjaaGreatQB80
import Derived.Test.YtgoihillpibdjaaGreatH70
set_option linter.unusedVariables false
set_option linter.unusedSimpArgs false
namespace Go.Pv
open Go.Proofs
set_option maxRecDepth 100000
set_option maxHeartbeats 4000000
theorem aRP {a b:Int} (ha:0<=a/\a<=9223372036854775807) (hb:0<=b/\b<=9223372036854775807):IT a b=some (a*b / 18446744073709551616,a*b % 18446744073709551616):=by
  obtain ⟨p,q,r,s,hp,hq,hr,hs,bp,bq,br,bs,e⟩:=Z4 ha hb
  have wa:wu64 a=a:=iC (by omega)
  have wb:wu64 b=b:=iC (by omega)
  have t1:a.tmod 4294967296=a % 4294967296:=Int.tmod_eq_emod_of_nonneg ha.1
  have t2:b.tmod 4294967296=b % 4294967296:=Int.tmod_eq_emod_of_nonneg hb.1
  have t3:a.tdiv 4294967296=a / 4294967296:=Int.tdiv_eq_ediv_of_nonneg ha.1
  have t4:b.tdiv 4294967296=b / 4294967296:=Int.tdiv_eq_ediv_of_nonneg hb.1
  have w3:wu64 (a / 4294967296)=a / 4294967296:=iC (by omega)
  have w4:wu64 (b / 4294967296)=b / 4294967296:=iC (by omega)
  have wp:wu64 (a % 4294967296*(b % 4294967296))=p:=by rw [<- hp];exact iC (by omega)
  have wq:wu64 (a / 4294967296*(b % 4294967296))=q:=by rw [<- hq];exact iC (by omega)
  have wr:wu64 (a % 4294967296*(b / 4294967296))=r:=by rw [<- hr];exact iC (by omega)
  have ws:wu64 (a / 4294967296*(b / 4294967296))=s:=by rw [<- hs];exact iC (by omega)
  have d1:p.tdiv 4294967296=p / 4294967296:=Int.tdiv_eq_ediv_of_nonneg bp.1
  have d2:q.tdiv 4294967296=q / 4294967296:=Int.tdiv_eq_ediv_of_nonneg bq.1
  have d3:r.tdiv 4294967296=r / 4294967296:=Int.tdiv_eq_ediv_of_nonneg br.1
  have m2:q.tmod 4294967296=q % 4294967296:=Int.tmod_eq_emod_of_nonneg bq.1
  have m3:r.tmod 4294967296=r % 4294967296:=Int.tmod_eq_emod_of_nonneg br.1
  have wd:wu64 (p / 4294967296)=p / 4294967296:=iC (by omega)
  have we:wu64 (p / 4294967296+q % 4294967296)=p / 4294967296+q % 4294967296:=iC (by omega)
  have wf:wu64 (p / 4294967296+q % 4294967296+r % 4294967296)=p / 4294967296+q % 4294967296+r % 4294967296:=iC (by omega)
  have dm:(p / 4294967296+q % 4294967296+r % 4294967296).tdiv 4294967296=(p / 4294967296+q % 4294967296+r % 4294967296) / 4294967296:=Int.tdiv_eq_ediv_of_nonneg (by omega)
  simp only [IT,XG,WT.run,bR,bnd,wa,wb,t1,t2,t3,t4,w3,w4,wp,wq,wr,ws,d1,d2,d3,m2,m3,wd,we,wf,dm]
  obtain ⟨k1,k2,k3,k4,k5⟩:=aHQ bp bq br bs e
  rw [rE (a*b),rE,rE,rE]
  have z1:wu64 (q / 4294967296)=q / 4294967296:=iC (by omega)
  have z2:wu64 (r / 4294967296)=r / 4294967296:=iC (by omega)
  have z3:wu64 ((p / 4294967296+q % 4294967296+r % 4294967296) / 4294967296)=(p / 4294967296+q % 4294967296+r % 4294967296) / 4294967296:=iC (by omega)
  rw [z1,z2,z3,k1,k2,Int.emod_eq_of_lt k3 k4]
theorem aP4:∀ k:Nat,k<256->∃ c:UInt8,([0,1,2,2,3,3,3,3,4,4,4,4,4,4,4,4,5,5,5,5,5,5,5,5,5,5,5,5,5,5,5,5,6,6,6,6,6,6,6,6,6,6,6,6,6,6,6,6,6,6,6,6,6,6,6,6,6,6,6,6,6,6,6,6,7,7,7,7,7,7,7,7,7,7,7,7,7,7,7,7,7,7,7,7,7,7,7,7,7,7,7,7,7,7,7,7,7,7,7,7,7,7,7,7,7,7,7,7,7,7,7,7,7,7,7,7,7,7,7,7,7,7,7,7,7,7,7,7,8,8,8,8,8,8,8,8,8,8,8,8,8,8,8,8,8,8,8,8,8,8,8,8,8,8,8,8,8,8,8,8,8,8,8,8,8,8,8,8,8,8,8,8,8,8,8,8,8,8,8,8,8,8,8,8,8,8,8,8,8,8,8,8,8,8,8,8,8,8,8,8,8,8,8,8,8,8,8,8,8,8,8,8,8,8,8,8,8,8,8,8,8,8,8,8,8,8,8,8,8,8,8,8,8,8,8,8,8,8,8,8,8,8,8,8,8,8,8,8,8,8,8,8,8,8,8,8]:List UInt8)[k]?=some c/\c.toNat<=8/\k<2 ^ c.toNat/\2 ^ c.toNat<=2*k+(if k=0 then 1 else 0):=by decide +kernel
variable {β:Type}
theorem WC {x:Int} {f:Int->Option β} {r:Option β} (h:f (x / 4294967296)=r):bnd (x.fdiv (2 ^ (min (32:Int).toNat IntKind.u64.bits))) f=r:=by
  show f (x.fdiv 4294967296)=r
  rw [Int.fdiv_eq_ediv_of_nonneg x (by decide)];exact h
theorem aZX {x:Int} {f:Int->Option β} {r:Option β} (hx:0<=x/\x<=255) (h:f x=r):bnd (G5 x) f=r:=by
  show f (G5 x)=r
  rw [show G5 x=x from aUV hx];exact h
theorem aW6 {P:β->Prop} {a b:Option β} (h:Ex P b):Ex P (cond false a b):=h
theorem aTV (x:Int):x.fdiv (2 ^ (min (32:Int).toNat IntKind.u64.bits))=x / 4294967296:=Int.fdiv_eq_ediv_of_nonneg x (by decide)
theorem aZB (x:Int):x.fdiv (2 ^ (min (16:Int).toNat IntKind.u64.bits))=x / 65536:=Int.fdiv_eq_ediv_of_nonneg x (by decide)
theorem fd8 (x:Int):x.fdiv (2 ^ (min (8:Int).toNat IntKind.u64.bits))=x / 256:=Int.fdiv_eq_ediv_of_nonneg x (by decide)
theorem EZ {x:Int} {P:β->Prop} {f:Int->Option β} (hx:0<=x/\x<=18446744073709551615) (h:Ex P (f x)):Ex P (bnd (wu64 x) f):=by
  obtain ⟨r,e,p⟩:=h;exact ⟨r,uX hx e,p⟩
theorem aT8 {k:Nat} {c:UInt8} (h8:c.toNat<=8) (h1:k<2 ^ c.toNat) (h2:2 ^ c.toNat<=2*k+(if k=0 then 1 else 0)) (hk:1<=k) :
    ∃ m:Nat,c.toNat=m+1/\m<=7/\2 ^ m<=k/\k<2 ^ (m+1):=by
  rw [if_neg (by omega)] at h2
  cases hc:c.toNat with
  | zero=>rw [hc] at h1;simp at h1;omega
  | succ m=>rw [hc] at h1 h2 h8;exact ⟨m,rfl,by omega,by rw [Nat.pow_succ] at h2;omega,h1⟩
theorem aMX {m off:Nat} {z x:Int} (hm:m<=7) (hz:(2:Int) ^ m<=z) (hz2:z<2 ^ (m+1)) (hx:z*2 ^ off<=x) (hx2:x<(z+1)*2 ^ off):(2:Int) ^ (m+off)<=x/\x<2 ^ (m+1+off):=by
  have p:(0:Int)<=2 ^ off:=Int.pow_nonneg (by decide)
  constructor
  · rw [Int.pow_add];exact Int.le_trans (Int.mul_le_mul_of_nonneg_right hz p) hx
  · rw [Int.pow_add];exact Int.lt_of_lt_of_le hx2 (Int.mul_le_mul_of_nonneg_right (by omega) p)
@[reducible] def ZN:List UInt8:=([0,1,2,2,3,3,3,3,4,4,4,4,4,4,4,4,5,5,5,5,5,5,5,5,5,5,5,5,5,5,5,5,6,6,6,6,6,6,6,6,6,6,6,6,6,6,6,6,6,6,6,6,6,6,6,6,6,6,6,6,6,6,6,6,7,7,7,7,7,7,7,7,7,7,7,7,7,7,7,7,7,7,7,7,7,7,7,7,7,7,7,7,7,7,7,7,7,7,7,7,7,7,7,7,7,7,7,7,7,7,7,7,7,7,7,7,7,7,7,7,7,7,7,7,7,7,7,7,8,8,8,8,8,8,8,8,8,8,8,8,8,8,8,8,8,8,8,8,8,8,8,8,8,8,8,8,8,8,8,8,8,8,8,8,8,8,8,8,8,8,8,8,8,8,8,8,8,8,8,8,8,8,8,8,8,8,8,8,8,8,8,8,8,8,8,8,8,8,8,8,8,8,8,8,8,8,8,8,8,8,8,8,8,8,8,8,8,8,8,8,8,8,8,8,8,8,8,8,8,8,8,8,8,8,8,8,8,8,8,8,8,8,8,8,8,8,8,8,8,8,8,8,8,8,8,8]:List UInt8)
theorem aLL {x:Int} (h:1<=x/\x<=18446744073709551615):Ex (λr=>∃ L:Nat,r=(L:Int)+1/\L<=63/\(2:Int) ^ L<=x/\x<2 ^ (L+1)) (OH x):=by
  have fin:∀ (off:Nat) (z:Int),(z*2 ^ off<=x/\x<(z+1)*2 ^ off)->1<=z->z<=255->off<=56 ->
      ∃ (m:Nat) (c:UInt8),(ZN)[z.toNat]?=some c/\(c.toNat:Int)=(m:Int)+1/\m<=7/\(2:Int) ^ (m+off)<=x/\x<2 ^ (m+off+1):=by
    intro off z hz z1 z2 ho
    obtain ⟨c,hc,h8,h1,h2⟩:=aP4 z.toNat (by omega)
    obtain ⟨m,e,hm,g1,g2⟩:=aT8 h8 h1 h2 (by omega)
    have k1:(2:Int) ^ m<=z:=by
      have:((2 ^ m:Nat):Int)<=(z.toNat:Int):=by exact_mod_cast g1
      rw [Int.toNat_of_nonneg (by omega)] at this;simpa using this
    have k2:z<(2:Int) ^ (m+1):=by
      have:(z.toNat:Int)<((2 ^ (m+1):Nat):Int):=by exact_mod_cast g2
      rw [Int.toNat_of_nonneg (by omega)] at this;simpa using this
    have:=aMX hm k1 k2 hz.1 hz.2
    exact ⟨m,c,hc,by omega,hm,this.1,by rw [show m+off+1=m+1+off from by omega];exact this.2⟩
  have tl:∀ (o:Nat) (w off z:Int),(2:Int) ^ o=w->off=(o:Int)->z*w<=x/\x<(z+1)*w->1<=z/\z<=255->o<=56->Ex (λr=>∃ L:Nat,r=(L:Int)+1/\L<=63/\(2:Int) ^ L<=x/\x<2 ^ (L+1))
      (bnd (G5 z) λi=>(ix ZN i).bind λc=>bnd (aW (c.toNat:Int)) λk=>bnd (aW (off+k)) λr=>some r):=by
    intro o w off z hw ho hz hz1 ho2
    subst hw;subst ho
    obtain ⟨m,c,hc,e,hm,g1,g2⟩:=fin o z hz hz1.1 hz1.2 ho2
    exact ⟨_,aZX (by omega) (iA (by omega) hc (iO (by omega) (iO (by omega) rfl))),m+o,by omega,by omega,g1,g2⟩
  unfold OH aE0
  simp only [WT.run,bR,aTV,aZB,fd8]
  repeat' with_reducible first
    | refine bF ?_ | refine dP ?_ | apply aD | apply bE | apply dS | apply dI | apply dN | apply dR | apply dO | apply dL | apply dU | apply dQ | refine aH (λ_=>?_) λ_=>?_ | apply cO | apply bU | apply bY | apply bK
  all_goals simp only at *
  all_goals first
    | exact tl 56 72057594037927936 _ _ (by decide) (by decide) (by omega) (by omega) (by decide)
    | exact tl 48 281474976710656 _ _ (by decide) (by decide) (by omega) (by omega) (by decide)
    | exact tl 40 1099511627776 _ _ (by decide) (by decide) (by omega) (by omega) (by decide)
    | exact tl 32 4294967296 _ _ (by decide) (by decide) (by omega) (by omega) (by decide)
    | exact tl 24 16777216 _ _ (by decide) (by decide) (by omega) (by omega) (by decide)
    | exact tl 16 65536 _ _ (by decide) (by decide) (by omega) (by omega) (by decide)
    | exact tl 8 256 _ _ (by decide) (by decide) (by omega) (by omega) (by decide)
    | exact tl 0 1 _ _ (by decide) (by decide) (by omega) (by omega) (by decide)
def TY (y1 y0 d:Int) (v:Int×Int):Option ((Int×Int)⊕Int) :=
  p2 (λq r=>(bnd (decide (q>=4294967296)) λx=>cond x (some true) (bnd (wu64 (q*y0)) λa=>bnd (wu64 (4294967296*r)) λb=>bnd (wu64 (b+d)) λc=>bnd (decide (a>c)) λx=>some x)).bind λy =>
    cond y (bnd (wu64 (q-1)) λq1=>bnd (wu64 (r+y1)) λr1=>bnd (decide (r1>=4294967296)) λx=>cond x (esc (some q1)) (brk (q1,r1))) (esc (some q))) v
theorem dL0 {u y y1 y0 d:Int} {n:Nat} (hn:5<n) (hy:y=y1*4294967296+y0) (h0:0<=y0/\y0<4294967296) (h1:2147483648<=y1/\y1<4294967296) (hu:0<=u/\u<y) (hd:0<=d/\d<4294967296)
    {q r:Int} (e:u=q*y1+r) (hq:(u*4294967296+d) / y<=q) (hr0:0<=r) (hr:r<4294967296) (hqm:q<=18446744073709551615):iter (TY y1 y0 d) n (q,r)=some ((u*4294967296+d) / y):=by
  have hQ:0<=(u*4294967296+d) / y:=Int.ediv_nonneg (by omega) (by omega)
  refine eT (fM (λ(v:Int×Int)=>u=v.1*y1+v.2/\(u*4294967296+d) / y<=v.1/\0<=v.2/\v.2<4294967296/\v.1<=18446744073709551615) (λv=>(4-v.2 / 2147483648).toNat) ?_ (v:=(q,r)) ⟨e,hq,hr0,hr,hqm⟩ (by simp only;omega))
  rintro ⟨q,r⟩ ⟨e,hq,hr0,hr,hqm⟩
  simp only at e hq hr0 hr hqm
  refine bE (aT (λ(b:Bool)=>(b=true->(u*4294967296+d) / y<=q-1)/\(b=false->(u*4294967296+d) / y=q)) ?_ λb hb=>eX (λk=>?_) λk=>bK (aF (hb.2 k).symm))
  rotate_left
  · have hh:=hb.1 k
    have e':u=(q-1)*y1+(r+y1):=by rw [e,Int.sub_mul];omega
    simp only
    refine EZ (by omega) (EZ (by omega) (aD (aH (λc3=>bK (aF ?_)) λc3=>bX ⟨⟨e',hh,by first | omega | (simp only;omega),by first | omega | (simp only;omega),by first | omega | (simp only;omega)⟩,by first | omega | (simp only;omega)⟩)))
    exact aEO hy h0 h1 hu hd e' hh (.inr c3)
  by_cases c1:q>=4294967296
  · exact ⟨_,fJ c1 (fC rfl),λ_=>aAD hy h0 h1 hu hd e hq (.inl c1),λk=>nomatch k⟩
  · have b1:=AZ (X:=4294967295) (Y:=4294967295) (x:=q) (y:=y0) ⟨by omega,by omega⟩ ⟨h0.1,by omega⟩
    refine aD ?_
    rw [decide_eq_false c1]
    refine aW6 ?_
    simp only
    refine EZ (by omega) ?_
    refine EZ (by omega) ?_
    refine EZ (by omega) ?_
    exact aD (aF ⟨λk=>aAD hy h0 h1 hu hd e hq (.inr (of_decide_eq_true k)),λk=>(aEO hy h0 h1 hu hd e hq (.inl ⟨by omega,by have:=of_decide_eq_false k;omega⟩)).symm⟩)
def ZE (y1 y0 d:Int) (v:Int×Int):Option ((Int×Int)⊕Int) :=
  p2 (λr q=>(bnd (decide (q>=4294967296)) λx=>cond x (some true) (bnd (wu64 (q*y0)) λa=>bnd (wu64 (4294967296*r)) λb=>bnd (wu64 (b+d)) λc=>bnd (decide (a>c)) λx=>some x)).bind λy =>
    cond y (bnd (wu64 (q-1)) λq1=>bnd (wu64 (r+y1)) λr1=>bnd (decide (r1>=4294967296)) λx=>cond x (esc (some q1)) (brk (r1,q1))) (esc (some q))) v
theorem aGE {J:Type} {f g:Int×Int->Option ((Int×Int)⊕J)} (h:∀ a b,g (b,a)=(f (a,b)).map λz=>match z with | .inl w=>.inl (w.2,w.1) | .inr j=>.inr j):∀ n a b,iter g n (b,a)=iter f n (a,b)
  | 0,_,_=>rfl
  | n+1,a,b=>by
    show (g (b,a)).bind (sel (iter g n))=(f (a,b)).bind (sel (iter f n))
    rw [h]
    cases f (a,b) with
    | none=>rfl
    | some z =>
      cases z with
      | inl w=>exact aGE h n w.1 w.2
      | inr j=>rfl
theorem aL4 (y1 y0 d:Int) (n:Nat) (a b:Int):iter (ZE y1 y0 d) n (b,a)=iter (TY y1 y0 d) n (a,b):=by
  refine aGE (λq r=>?_) n a b
  simp only [TY,ZE,p2,bnd]
  cases decide (q>=4294967296)
  · simp only [cond_false,Option.bind_some]
    cases decide (wu64 (q*y0)>wu64 (wu64 (4294967296*r)+d))
    · rfl
    · simp only [cond_true]
      cases decide (wu64 (r+y1)>=4294967296) <;> rfl
  · simp only [cond_true,Option.bind_some]
    cases decide (wu64 (r+y1)>=4294967296) <;> rfl
variable {β:Type}
theorem aSJ {n:Nat} {a b:Int} (ha:0<=a/\a<=18446744073709551615) (hb:1<=b/\b<=9223372036854775807):BS n 0 a b=some (a / b,a % b):=by
  have h1:0<=a / b/\a / b<=a:=⟨Int.ediv_nonneg ha.1 (by omega),Int.ediv_le_self _ ha.1⟩
  unfold BS U8
  simp only [WT.run,bR]
  refine eB (by omega) (dB (eB (by omega) (dB (fJ (by trivial) (fC (oZ (by omega) (lY (v:=a / b) ?_ (oZ (by omega) (lY (v:=a % b) ?_ rfl)))))))))
  · rw [Int.tdiv_eq_ediv_of_nonneg ha.1];exact iC (by omega)
  · exact Int.tmod_eq_emod_of_nonneg ha.1
theorem aQA {hi lo c P R y u w:Int} (hc:1<=c) (hh:0<=hi/\hi<c) (hl:0<=lo/\lo<=18446744073709551615) (hP:1<=P) (hR:1<=R) (hPR:P*R=18446744073709551616) (hy:y=c*P) (hu:u=hi*P+lo / R) (hw:w=(lo % R)*P) :
    (hi*18446744073709551616+lo)*P=u*18446744073709551616+w/\0<=u/\u<y/\0<=w/\w<18446744073709551616/\0<=hi*P/\hi*P<y/\0<=lo / R/\lo / R<P/\lo*P=lo / R*18446744073709551616+w:=by
  have h1:0<=lo % R/\lo % R<R:=⟨Int.emod_nonneg _ (by omega),Int.emod_lt_of_pos _ (by omega)⟩
  have h2:lo=R*(lo / R)+lo % R:=(Int.mul_ediv_add_emod lo R).symm
  have h3:0<=lo / R:=Int.ediv_nonneg hl.1 (by omega)
  have h4:lo / R<P:=Int.ediv_lt_of_lt_mul (by omega) (by omega)
  have h5:0<=hi*P:=Int.mul_nonneg hh.1 (by omega)
  have h6:hi*P<=(c-1)*P:=Int.mul_le_mul_of_nonneg_right (by omega) (by omega)
  have h7:(c-1)*P=y-P:=by rw [hy];grind
  have h8:0<=w:=by rw [hw];exact Int.mul_nonneg h1.1 (by omega)
  have h9:w<=(R-1)*P:=by rw [hw];exact Int.mul_le_mul_of_nonneg_right (by omega) (by omega)
  have h10:(R-1)*P=18446744073709551616-P:=by rw [<- hPR];grind
  have h11:lo*P=lo / R*18446744073709551616+w:=by
    rw [hw,<- hPR]
    generalize lo / R=t at *
    generalize lo % R=v at *
    rw [h2];grind
  refine ⟨?_,by omega,by omega,h8,by omega,h5,by omega,h3,h4,h11⟩
  have:(hi*18446744073709551616+lo)*P=hi*P*18446744073709551616+lo*P:=by grind
  rw [this,h11,hu];grind
theorem aJX {N c P y q1 q0 u d1 d0 u2 r0 w:Int} (hc:1<=c) (hP:1<=P) (hy:y=c*P) (hN:N*P=u*18446744073709551616+w) (hw:w=d1*4294967296+d0) (h1:u*4294967296+d1=q1*y+u2) (h2:u2*4294967296+d0=q0*y+r0) (hr:0<=r0/\r0<y) :
    q1*4294967296+q0=N / c/\r0 / P=N % c:=by
  have e1:N*P=(q1*4294967296+q0)*y+r0:=by rw [hN,hw];grind
  have e2:r0=(N-(q1*4294967296+q0)*c)*P:=by
    have:(N-(q1*4294967296+q0)*c)*P=N*P-(q1*4294967296+q0)*(c*P):=by grind
    rw [this,<- hy];omega
  generalize hM:N-(q1*4294967296+q0)*c=M at *
  have m0:0<=M:=by
    rcases Int.lt_or_le M 0 with h | h
    · have:M*P<0:=Int.mul_neg_of_neg_of_pos h (by omega)
      omega
    · exact h
  have m1:M<c:=by
    apply Int.lt_of_mul_lt_mul_right (a:=P) _ (by omega)
    rw [<- e2,<- hy];exact hr.2
  have e3:N=M+(q1*4294967296+q0)*c:=by omega
  constructor
  · rw [e3,Int.add_mul_ediv_right _ _ (by omega),Int.ediv_eq_zero_of_lt m0 m1];omega
  · rw [e3,Int.add_mul_emod_self_right,Int.emod_eq_of_lt m0 m1,e2,Int.mul_ediv_cancel _ (by omega)]
theorem aJZ {c:Int} (hc:1<=c/\c<=9223372036854775807):∃ s:Nat,LP c=some (s:Int)/\1<=s/\s<=63/\9223372036854775808<=c*2 ^ s/\c*2 ^ s<18446744073709551616:=by
  obtain ⟨_,hL,L,rfl,L63,g1,g2⟩:=aLL (x:=c) ⟨hc.1,by omega⟩
  have L62:L<=62:=by
    rcases Nat.lt_or_ge L 63 with h | h
    · omega
    · have:L=63:=by omega
      subst this
      have:(2:Int) ^ 63=9223372036854775808:=by decide
      omega
  have p:(0:Int)<=2 ^ (63-L):=Int.pow_nonneg (by decide)
  have p':(0:Int)<2 ^ (63-L):=Int.pow_pos (by decide)
  have e1:(2:Int) ^ L*2 ^ (63-L)=9223372036854775808:=by rw [<- Int.pow_add,show L+(63-L)=63 from by omega];decide
  have e2:(2:Int) ^ (L+1)*2 ^ (63-L)=18446744073709551616:=by rw [<- Int.pow_add,show L+1+(63-L)=64 from by omega];decide
  refine ⟨63-L,?_,by omega,by omega,?_,?_⟩
  · unfold LP aEF
    simp only [WT.run,bR]
    refine dA hL (lY (v:=((63-L:Nat):Int)) ?_ rfl)
    rw [show (64:Int)-((L:Int)+1)=((63-L:Nat):Int) from by omega]
    exact wrap64 (by omega)
  · rw [<- e1];exact Int.mul_le_mul_of_nonneg_right g1 p
  · rw [<- e2];exact Int.mul_lt_mul_of_pos_right g2 p'
theorem aKW {n:Nat} {hi lo c:Int} (hn:5<n) (hc:1<=c/\c<=9223372036854775807) (hh:0<=hi/\hi<c) (hl:0<=lo/\lo<=18446744073709551615):BS n hi lo c=some ((hi*18446744073709551616+lo) / c,(hi*18446744073709551616+lo) % c):=by
  by_cases h0:hi=0
  · rw [h0,aSJ hl hc,Int.zero_mul,Int.zero_add]
  · obtain ⟨s,hs,s1,s63,y1,y2⟩:=aJZ hc
    generalize hP:(2:Int) ^ s=P at *
    generalize hR:(2:Int) ^ (64-s)=R
    have hP1:1<=P:=by rw [<- hP];have:(0:Int)<2 ^ s:=Int.pow_pos (by decide);omega
    have hR1:1<=R:=by rw [<- hR];have:(0:Int)<2 ^ (64-s):=Int.pow_pos (by decide);omega
    have hPR:P*R=18446744073709551616:=by rw [<- hP,<- hR,<- Int.pow_add,show s+(64-s)=64 from by omega];decide
    generalize hy:c*P=y at *
    generalize hu:hi*P+lo / R=u
    generalize hw:(lo % R)*P=w
    obtain ⟨k1,k2,k3,k4,k5,k6,k7,k8,k9,k10⟩:=aQA hc.1 hh hl hP1 hR1 hPR hy.symm hu.symm hw.symm
    have ww:wu64 (lo*P)=w:=by rw [rE,k10];omega
    have hor:((BitVec.ofInt IntKind.u64.bits (hi*P) ||| BitVec.ofInt IntKind.u64.bits (lo / R)).toNat:Int)=u:=by
      rw [IS (k:=s) (t:=hi) (by rw [hP];exact Int.mul_comm _ _) hh.1 (by omega) (by rw [hP];omega) (by omega),hu]
    have hyy:y=y / 4294967296*4294967296+y % 4294967296:=by omega
    generalize hy1:y / 4294967296=b1 at *
    generalize hy0:y % 4294967296=b0 at *
    have B1:2147483648<=b1/\b1<4294967296:=by omega
    have B0:0<=b0/\b0<4294967296:=by omega
    have hww:w=w / 4294967296*4294967296+w % 4294967296:=by omega
    generalize hd1:w / 4294967296=d1 at *
    generalize hd0:w % 4294967296=d0 at *
    have D1:0<=d1/\d1<4294967296:=by omega
    have D0:0<=d0/\d0<4294967296:=by omega
    have digit:∀ u d:Int,0<=u->u<y->0<=d->d<4294967296->∃ q r Q v:Int,wu64 (u.tdiv b1)=q/\wu64 (q*b1)=q*b1/\wu64 (u-q*b1)=r/\u=q*b1+r/\(u*4294967296+d) / y<=q/\0<=r/\r<4294967296/\q<=18446744073709551615 /\
        (u*4294967296+d) / y=Q/\u*4294967296+d=Q*y+v/\0<=v/\v<y/\0<=Q/\Q<4294967296/\wu64 (wu64 (wu64 (u*4294967296)+d)-wu64 (Q*y))=v:=by
      intro u d u0 u1 d0 d1
      have q0:0<=u / b1:=Int.ediv_nonneg u0 (by omega)
      have q1:u / b1<=u:=Int.ediv_le_self _ u0
      have r0:0<=u % b1:=Int.emod_nonneg _ (by omega)
      have r1:u % b1<b1:=Int.emod_lt_of_pos _ (by omega)
      have e:b1*(u / b1)+u % b1=u:=Int.mul_ediv_add_emod u b1
      have ec:b1*(u / b1)=u / b1*b1:=Int.mul_comm _ _
      have qb:0<=u / b1*b1:=Int.mul_nonneg q0 (by omega)
      have Q0:0<=(u*4294967296+d) / y:=Int.ediv_nonneg (by omega) (by omega)
      have QB:(u*4294967296+d) / y<4294967296:=by
        apply Int.ediv_lt_of_lt_mul (by omega)
        have:4294967296*y=y*4294967296:=Int.mul_comm _ _
        omega
      have v0:0<=(u*4294967296+d) % y:=Int.emod_nonneg _ (by omega)
      have v1:(u*4294967296+d) % y<y:=Int.emod_lt_of_pos _ (by omega)
      have ev:y*((u*4294967296+d) / y)+(u*4294967296+d) % y=u*4294967296+d:=Int.mul_ediv_add_emod _ _
      have evc:y*((u*4294967296+d) / y)=(u*4294967296+d) / y*y:=Int.mul_comm _ _
      have hq:(u*4294967296+d) / y<=u / b1:=by
        generalize hQ:(u*4294967296+d) / y=Q at *
        apply Int.le_ediv_of_mul_le (by omega)
        have e3:Q*y=Q*b1*4294967296+Q*b0:=by
          have:y=b1*4294967296+b0:=hyy
          rw [this];grind
        have e4:0<=Q*b0:=Int.mul_nonneg Q0 B0.1
        have e5:Q*y<=u*4294967296+d:=by rw [<- evc,<- ev];exact Int.le_add_of_nonneg_right v0
        clear ev evc
        generalize Q*b1=X at *
        generalize Q*b0=Z at *
        generalize Q*y=W at *
        clear q0 q1 r0 r1 e ec v0 v1 QB k1 k10 hww
        omega
      refine ⟨u / b1,u % b1,_,_,?_,?_,?_,by omega,hq,r0,by omega,by omega,rfl,by rw [<- evc];exact ev.symm,v0,v1,Q0,QB,?_⟩
      · rw [Int.tdiv_eq_ediv_of_nonneg u0];exact iC (by omega)
      · exact iC (by omega)
      · rw [show u-u / b1*b1=u % b1 from by omega];exact iC (by omega)
      · generalize (u*4294967296+d) / y*y=X at *
        generalize (u*4294967296+d) % y=v at *
        simp only [rE];omega
    obtain ⟨qa,ra,Q1,u2,a1,a2,a3,a4,a5,a6,a7,a8,a9,mF,a11,a12,a13,a14,a15⟩:=digit u d1 k2 k3 D1.1 D1.2
    obtain ⟨qb,rb,Q2,r0,c1,c2,c3,c4,c5,c6,c7,c8,c9,c10,c11,c12,c13,c14,c15⟩:=digit u2 d0 a11 a12 D0.1 D0.2
    have l0:=dL0 hn hyy B0 B1 ⟨k2,k3⟩ D1 a4 a5 a6 a7 a8
    have l1:=dL0 hn hyy B0 B1 ⟨a11,a12⟩ D0 c4 c5 c6 c7 c8
    rw [a9] at l0
    rw [c9] at l1
    rw [<- aL4] at l1
    obtain ⟨z1,z2⟩:=aJX hc.1 hP1 hy.symm k1 hww mF c10 ⟨c11,c12⟩
    unfold BS U8
    simp only [WT.run,bR]
    refine eB (by omega) (dB (eB (by omega) (dB (eB h0 (dB (dA hs ?_))))))
    refine uX (by omega) (oZ (by omega) (yN (t:=s) (y:=y) (by omega) (by omega) hP (by rw [hy];exact iC (by omega)) ?_))
    refine WC (aEN (by omega) (oZ (by omega) (yN (t:=s) (y:=hi*P) (by omega) (by omega) hP (iC (by omega)) ?_)))
    refine uX (by omega) (oZ (by omega) (NM (t:=64-s) (by omega) (by omega) hR (by omega) ?_))
    refine MI hor (by omega) (oZ (by omega) (yN (t:=s) (by omega) (by omega) hP ww ?_))
    refine WC (aEN (by omega) ?_)
    rw [hy1,hy0,hd1,hd0]
    refine oZ (by omega) (lY a1 (lY a2 (lY a3 (dA l0 ?_))))
    refine gZ (gZ (gZ (lY a15 ?_)))
    refine oZ (by omega) (lY c1 (lY c2 (lY c3 (dA l1 ?_))))
    refine uX (by omega) (uX (by omega) (gZ (gZ (gZ (lY c15 (oZ (by omega) (NM (t:=s) (by omega) (by omega) hP (by omega) ?_)))))))
    rw [z1,z2]
theorem EW {n:Nat} {a b c:Int} (hn:66<n) (ha:-9223372036854775808<=a/\a<=9223372036854775807) (hb:-9223372036854775808<=b/\b<=9223372036854775807) (hc:-9223372036854775808<=c/\c<=9223372036854775807):tF n a b c=some (md a b c):=by
  unfold tF aD9 md
  simp only [WT.run,bR]
  by_cases k:a<0\/b<0\/c<1
  · rw [if_pos k]
    refine dA (a:=true) ?_ (fC rfl)
    by_cases k1:a<0
    · exact fJ k1 (fC rfl)
    · refine eB k1 (dB ?_)
      by_cases k2:b<0
      · exact fJ k2 (fC rfl)
      · exact eB k2 (dB (fJ (by omega) rfl))
  · rw [if_neg k]
    have ha':0<=a/\a<=9223372036854775807:=by omega
    have hb':0<=b/\b<=9223372036854775807:=by omega
    have hc':1<=c/\c<=9223372036854775807:=by omega
    refine dA (a:=false) ?_ (dB (dA (aRP ha' hb') ?_))
    · exact eB (by omega) (dB (eB (by omega) (dB (eB (by omega) rfl))))
    have h0:0<=a*b:=Int.mul_nonneg ha'.1 hb'.1
    have hN:a*b / 18446744073709551616*18446744073709551616+a*b % 18446744073709551616=a*b:=by omega
    have hr:0<=a*b % c/\a*b % c<c:=⟨Int.emod_nonneg _ (by omega),Int.emod_lt_of_pos _ (by omega)⟩
    have hq0:0<=a*b / c:=Int.ediv_nonneg h0 (by omega)
    have hd:c*(a*b / c)+a*b % c=a*b:=Int.mul_ediv_add_emod _ _
    refine uX (by omega) ?_
    by_cases h1:a*b / 18446744073709551616>=c
    · refine fJ h1 (fC ?_)
      have:¬ a*b / c<=288230376151711744:=by
        intro hq
        have h5:c*(a*b / c)<=c*288230376151711744:=Int.mul_le_mul_of_nonneg_left hq (by omega)
        generalize a*b=N at *
        generalize c*(N / c)=X at *
        omega
      rw [if_pos (by omega)]
    · refine eB h1 (dB (uX (by omega) ?_))
      have hd:=aKW (n:=n) (by omega) (hi:=a*b / 18446744073709551616) hc' ⟨by omega,by omega⟩ (show 0<=a*b % 18446744073709551616/\a*b % 18446744073709551616<=18446744073709551615 by omega)
      rw [hN] at hd
      refine dA hd ?_
      by_cases h2:a*b / c>288230376151711744
      · rw [if_pos h2];exact fJ h2 (fC rfl)
      · rw [if_neg h2];exact eB h2 (dB (iO (by omega) (iO (by omega) rfl)))
set_option maxHeartbeats 1000000
theorem aD7 {n:Nat} {v q k:Int} (hn:66<n) (hq:-9223372036854775808<=q/\q<=9223372036854775807) (hk:-9223372036854775808<=k/\k<=9223372036854775807):vK n v q k=some (pt v q k):=by
  refine eT ?_
  unfold vK aAQ pt
  simp only [WT.run,bR,pIn,Option.bind_some]
  refine aT (λb=>b=true↔(k<1\/q<0\/q>k\/¬ bQ v)) ?_ λb hb=>?_
  · repeat' with_reducible first | refine bF ?_ | refine dP ?_ | apply aD | apply bE | apply dS | apply dI | apply dN | apply dR | apply dO | apply dL | apply dU | apply dQ | refine aH (λ_=>?_) λ_=>?_ | refine dG (λ_=>?_) λ_=>?_ | apply cO | apply bU | apply bY | apply bK | apply aF
    all_goals first | (simp only [true_iff];omega) | skip
    rename_i h1 h2 h3
    simp only [Bool.not_eq_true',decide_eq_false_iff_not]
    exact ⟨λh=>.inr (.inr (.inr h)),λh=>by rcases h with h | h | h | h <;> first | omega | exact h⟩
  · refine eX (λk1=>aF (by rw [if_pos (hb.1 k1)])) λk1=>?_
    have hc:¬ (k<1\/q<0\/q>k\/¬ bQ v):=λh=>by rw [hb.2 h] at k1;cases k1
    rw [if_neg hc]
    have hv:bQ v:=Classical.not_not.1 λh=>hc (.inr (.inr (.inr h)))
    have h1:1<=k/\0<=q/\q<=k:=by omega
    unfold bQ at hv
    have mm:∀ w:Int,0<=w->w<=288230376151711744->md w q k=(w*q / k,w*q % k,0)/\0<=w*q / k/\w*q / k<=w:=λw w0 w1=>by
      obtain ⟨g1,g2⟩:=qZ (v:=w) (q:=q) (n:=k) w0 (by omega) (by omega)
      exact ⟨by unfold md;rw [if_neg (by omega),if_neg (by omega)],g1,g2⟩
    refine aD (aH (λe=>aF ?_) λe=>aD (aH (λh5=>?_) λh5=>?_))
    · subst e
      rw [Int.mul_ediv_cancel _ (by omega),Int.mul_ediv_cancel _ (by omega)]
      split <;> omega
    · obtain ⟨e1,g1,g2⟩:=mm (-v) (by omega) (by omega)
      rw [if_pos h5,show (0:Int)-v=-v by omega]
      refine bF (x_eq (EW hn (by omega) hq hk) ?_)
      rw [e1]
      exact bF (aF (by simp only;omega))
    · obtain ⟨e1,g1,g2⟩:=mm v (by omega) (by omega)
      rw [if_neg h5]
      refine x_eq (EW hn (by omega) hq hk) (aF ?_)
      rw [e1]
theorem aFU {l:List aB} {q:Int} {n:Nat} (hn:66<n) (hl:LR l) (hq:1<=q/\q<=9223372036854775807):H9 n l q=some (decide (q<=tQ l)):=by
  have hb:=gN hl
  refine eT ?_
  unfold H9 YS
  simp only [WT.run,bR]
  refine aT (λ(r:Unit⊕Bool)=>match r with | .inl _=>¬ q<=tQ l | .inr b=>b=true/\q<=tQ l) (fM (λ(v:Int×Int)=>0<=v.2/\v.2<=(l.length:Int)/\1<=v.1/\v.1<=q/\v.1+tQ l=q+tQ (l.drop v.2.toNat)) (λv=>l.length-v.2.toNat) ?_ (v:=(q,0)) ⟨by simp,by simp,hq.1,Int.le_refl _,by simp⟩ (by simp only;omega)) λr hr=>jI (λa e=>?_) λb e=>?_
  · rintro ⟨c,i⟩ ⟨h0,h1,h2,h4,h3⟩
    simp only at h0 h1 h2 h3 h4
    refine bE (aD (aH (λhi=>?_) λhi=>bK (bX ?_)))
    · have hi:i<(l.length:Int):=hi
      refine eF h0 hi λx hx=>?_
      have hx:l[i.toNat]?=some x:=hx
      obtain ⟨d1,d2,d3,d4⟩:=EN hx
      obtain ⟨g1,g2,g3⟩:=hl.1 x (fF hx)
      have hr:=lX (l:=l.drop (i.toNat+1)) λy hy=>hl.1 y (List.mem_of_mem_drop hy)
      have e2:(i+1).toNat=i.toNat+1:=by omega
      rw [if_neg (show ¬ (0:Int)>x.aI by omega)]
      refine aD (aD ?_)
      by_cases k:c<x.aI
      · rw [if_pos k]
        exact bF (aD (aH (λ_=>bK (bK (aF ⟨rfl,by omega⟩))) λz=>absurd (show c-c=0 by omega) z))
      · rw [if_neg k]
        refine bF (aD (aH (λz=>bK (bK (aF ⟨rfl,by omega⟩))) λz=>bF (bX ⟨⟨by first | omega | (simp only;omega),by first | omega | (simp only;omega),by first | omega | (simp only;omega),by first | omega | (simp only;omega),by simp only;rw [e2];omega⟩,by first | omega | (simp only;omega)⟩)))
    · have hd:l.drop i.toNat=[]:=List.drop_eq_nil_of_le (by first | omega | (simp only;omega))
      rw [hd] at h3
      simp only [tQ] at h3
      show ¬ q<=tQ l
      omega
  · subst e;exact aF (decide_eq_false hr).symm
  · subst e;rw [decide_eq_true hr.2];exact hr.1
def win (a b:Nat) (L:List aB):List aB:=(L.drop a).take b
theorem UU {a b:Nat} {L:List aB} {x:aB} (h:L[a]?=some x):win a (b+1) L=x :: win (a+1) b L:=by
  unfold win;rw [(drop_at h).2];rfl
theorem UZ {a b:Nat} {L:List aB} {y:aB} (h:a<L.length):win a (b+1) (L.set a y)=y :: win (a+1) b L:=by
  rw [UU (x:=y) (by simp [h])]
  unfold win
  rw [List.drop_set_of_lt (by omega)]
theorem aFK {a b:Nat} {L:List aB} (h:a+b<=L.length):(win a b L).length=b:=by unfold win;simp;omega
noncomputable def aR2 (n:Nat) (v:Nat×Nat×Int×List aB×aB):Option ((Nat×Nat×Int×List aB×aB)⊕(Nat×Nat×List aB×aB)) :=
  p2 (λ(a:Nat) q0=>p2 (λ(b:Nat) q1=>p2 (λ(c:Int) q2=>p2 (λ(L:List aB) (o:aB) =>
    (bnd (decide ((b:Int)>0)) λx=>cond x (bnd (decide (c>0)) λx=>some x) (some false)).bind λy =>
    cond y (iQ ((0:Int)<=0/\0<(b:Int)) ((ix L ((a:Int)+0)).bind λx=>bnd (decide (x.aI>c)) λz =>
      (cond z ((vK n x.Value c x.aI).bind λs=>(vK n x.bN c x.aI).bind λt =>
          iQ ((0:Int)<=0/\0<(b:Int)) (bnd (aW (x.aI-c)) λu=>iQ ((0:Int)<=0/\0<(b:Int)) (bnd (aW (x.Value-s)) λw=>iQ ((0:Int)<=0/\0<(b:Int)) (bnd (aW (x.bN-t)) λz =>
          iQ ((0:Int)<=0/\0<(b:Int)) (bnd (L.set (Int.toNat ((a:Int)+0)) ⟨u,x.Value,x.bN⟩) λL1=>iQ ((0:Int)<=0/\0<(b:Int)) (bnd (L1.set (Int.toNat ((a:Int)+0)) ⟨u,w,x.bN⟩) λL2=>iQ ((0:Int)<=0/\0<(b:Int)) (bnd (L2.set (Int.toNat ((a:Int)+0)) ⟨u,w,z⟩) λL3=>some (a,b,L3,(⟨c,s,t⟩:aB)))))))))
        (iQ ((0:Int)<=1/\1<=(b:Int)/\(b:Int)<=(b:Int)/\1<((b:Int)+1)) (bnd (if Int.toNat (b:Int)=1 then a else a+1) λa1=>some (a1,Int.toNat (b:Int)-1,L,x)))).bind λy =>
      p2 (λ(a1:Nat) q0=>p2 (λ(b1:Nat) q1=>p2 (λ(L1:List aB) (g:aB)=>bnd (aW (o.aI+g.aI)) λe=>bnd (aW (o.Value+g.Value)) λf=>bnd (aW (o.bN+g.bN)) λh=>bnd (aW (c-g.aI)) λk=>brk (a1,b1,k,L1,(⟨e,f,h⟩:aB))) q1) q0) y))
      (esc (some (a,b,L,o)))) q2) q1) q0) v
theorem aBY {l:List aB} {q:Int} {n:Nat} (hn:66<n) (hl:LR l) (hq:1<=q/\q<=tQ l) :
    Ex (λ(r:Nat×Nat×List aB×aB)=>r.1+r.2.1<=r.2.2.1.length/\win r.1 r.2.1 r.2.2.1=(tk l q).1/\r.2.2.2=(tk l q).2) (iter (aR2 n) n (0,l.length,q,l,⟨0,0,0⟩)):=by
  have hb:=gN hl
  refine fM (λ(v:Nat×Nat×Int×List aB×aB)=>v.1+v.2.1<=v.2.2.2.1.length/\TI l (win v.1 v.2.1 v.2.2.2.1) v.2.2.2.2/\v.2.2.1+v.2.2.2.2.aI=q/\0<=v.2.2.1/\tk l q=((tk (win v.1 v.2.1 v.2.2.2.1) v.2.2.1).1,jL v.2.2.2.2 (tk (win v.1 v.2.1 v.2.2.2.1) v.2.2.1).2)) (λv=>2*v.2.1+(if v.2.2.1>0 then 1 else 0)) ?_ ⟨by simp,by simpa [win] using TI.init hl,by simp,by simp only;omega,by simp [win,jL]⟩ (by simp only;split <;> omega)
  rintro ⟨a,b,c,L,o⟩ ⟨h1,ti,hc,hc0,e⟩
  simp only at h1 ti hc hc0 e
  have tb:=ti.b hl
  have wl:=aFK h1
  refine bE (bE (bE (bE (aT (λy=>y=true↔0<b/\0<c) (aD (aH (λk1=>aD (aF ?_)) λk1=>aF ?_)) λy hy=>eX (λky=>?_) λky=>bK (aF ?_)))))
  · have k1:(b:Int)>0:=k1
    simp only [decide_eq_true_eq];exact ⟨λk=>⟨by omega,k⟩,λk=>k.2⟩
  · have k1:¬ (b:Int)>0:=k1
    exact ⟨(λk=>nomatch k),λk=>absurd k.1 (by omega)⟩
  · obtain ⟨b0,c0⟩:=hy.1 ky
    obtain ⟨k,rfl⟩:∃ k,b=k+1:=⟨b-1,by omega⟩
    refine dF (eF (by omega) (by simp only;omega) λx hx=>?_)
    have ea:((a:Int)+0).toNat=a:=by omega
    have hx:L[((a:Int)+0).toNat]?=some x:=hx
    rw [ea] at hx
    rw [UU hx] at ti e
    obtain ⟨g1,g2,g3⟩:=ti.ok x (List.mem_cons_self ..)
    refine aD (aT (λ(r:Nat×Nat×List aB×aB)=>(x.aI>c/\r=(a,k+1,L.set a (lq x c),jZ x c))\/(¬ x.aI>c/\∃ a1,r=(a1,k,L,x)/\a1+k<=L.length/\win a1 k L=win (a+1) k L)) (aH (λk2=>?_) λk2=>?_) λr hr=>?_)
    · have k2:x.aI>c:=k2
      obtain ⟨p1,p2,p3,p4⟩:=RD (w:=c) ⟨g1,g2,g3⟩ ⟨by omega,by omega⟩
      refine x_eq (aD7 hn (by simp only;omega) (by omega)) (x_eq (aD7 hn (by simp only;omega) (by omega)) ?_)
      refine dF (gL (by simp only;omega) (dF (gL (by simp only;omega) (dF (gL (by simp only;omega) (dF (aD (dF (aD (dF (aD (aF (.inl ⟨k2,?_⟩)))))))))))))
      simp only [ea,List.set_set];rfl
    · have k2:¬ x.aI>c:=k2
      refine dF (aD (aF (.inr ⟨k2,_,rfl,?_,?_⟩)))
      · split <;> omega
      · by_cases k0:k=0
        · subst k0;simp [win]
        · rw [if_neg (show ¬ Int.toNat ((k+1:Nat):Int)=1 by omega)]
    · rcases hr with ⟨k2,rfl⟩ | ⟨k2,a1,rfl,w1,w2⟩
      · have t2:=ti.part (w:=c) ⟨by omega,by omega⟩
        have b2:=t2.b hl
        simp only [jL,jZ] at b2
        have al:a<L.length:=by omega
        refine bE (bE (bE (gL (by simp only [jZ];omega) (gL (by simp only [jZ];omega) (gL (by simp only [jZ];omega) (gL (by simp only [jZ];omega) (bX ⟨⟨by simp only [List.length_set];omega,?_,by simp only [jZ];omega,by simp only [jZ];omega,?_⟩,?_⟩)))))))
        · simp only [UZ al];exact t2
        · rw [aD5 (by omega) k2] at e
          simp only [UZ al,jZ,show c-c=0 by omega]
          rw [GV (Int.le_refl 0),MG];exact e
        · simp only [jZ,show c-c=0 by omega]
          rw [if_pos c0,if_neg (by decide)];omega
      · have t2:=ti.whole
        have b2:=t2.b hl
        simp only [jL] at b2
        refine bE (bE (bE (gL (by simp only;omega) (gL (by simp only;omega) (gL (by simp only;omega) (gL (by simp only;omega) (bX ⟨⟨w1,?_,by simp only;omega,by simp only;omega,?_⟩,?_⟩)))))))
        · simp only [w2];exact t2
        · rw [XX (by omega) k2] at e
          simp only [w2]
          rw [e,<- WI];rfl
        · simp only;rw [if_pos c0];split <;> omega
  · have hz:¬ (0<b/\0<c):=λk=>by rw [hy.2 k] at ky;cases ky
    by_cases k:b=0
    · subst k
      have w0:win a 0 L=[]:=by unfold win;simp
      rw [w0] at e
      have hq2:=ti.q
      rw [w0] at hq2
      simp only [tk,MG] at e
      refine ⟨h1,by simp only [w0];rw [e],by rw [e]⟩
    · have c0:c<=0:=by omega
      rw [GV c0,MG] at e
      exact ⟨h1,by rw [e],by rw [e]⟩
theorem p9o {l:List aB} {q:Int} {n:Nat} (hn:66<n) (hl:LR l) (hq:-9223372036854775808<=q/\q<=9223372036854775807):DZ n l q=some (o9 l q):=by
  have hb:=gN hl
  refine eT ?_
  unfold DZ aIQ o9
  simp only [WT.run,bR]
  refine dF (aD (aH (λk1=>aF (by rw [if_pos k1])) λk1=>x_eq (aFU hn hl (by omega)) ?_))
  rw [if_neg k1]
  by_cases k2:q<=tQ l
  · rw [if_neg (by omega),decide_eq_true k2]
    refine aD (bU (aT _ (aBY hn hl (by omega)) λr hr=>bE (bE (bE (iF hr.1 (aF ?_))))))
    rw [<- hr.2.1,<- hr.2.2];rfl
  · rw [if_pos (by omega),decide_eq_false k2]
    exact aD (cO (aF rfl))
theorem aBF {l:List aB} {q:Int} {n:Nat} (hn:66<n) (hl:LR l) (hq:-9223372036854775808<=q/\q<=9223372036854775807):F3 n l q=some (o9 l q):=by
  refine eT ?_
  unfold F3 XQ
  simp only [WT.run,bR,p9o hn hl hq,Option.bind_some]
  exact aF rfl
theorem UH {l:List aB} {q:Int} {n:Nat} (hn:66<n) (hl:LR l) (hq:-9223372036854775808<=q/\q<=9223372036854775807):qE n l q=some (o9 l q):=by
  refine eT ?_
  unfold qE T4
  simp only [WT.run,bR,Q6 hn hl hq,Option.bind_some]
  exact aF rfl
set_option maxRecDepth 1000000
theorem US {c:Int} (hc:0<=c/\c<=1073741824):BC c=some true:=by
  unfold BC aB1
  simp only [WT.run,bR]
  exact dA (a:=true) (fJ hc.1 (fC (fJ hc.2 rfl))) rfl
theorem TX {n:Nat} {c q:Int} (hn:66<n) (hc:0<=c/\c<=1073741824) (h1:1<=q) (h2:q<=9223372036854775807):AB n c q=some ((md q c 1).1,(md q c 1).2.2):=by
  unfold AB aGX
  simp only [WT.run,bR]
  have e:(if 0>q then 0 else q)=q:=if_neg (by omega)
  rw [e]
  exact dA (EW hn (by omega) (by omega) (by omega)) rfl
noncomputable def f12 (l:List aB) (x:aB) (c:Int):List aB×Int×Int :=
  if x.aI<1\/x.Value<0 then (l,0,1) else if (md x.aI c 1).2.2≠0\/x.Value>288230376151711744 then (l,0,2)
  else if (f10 l ⟨x.aI,(md x.aI c 1).1,x.bN⟩).2≠0 then (l,0,(f10 l ⟨x.aI,(md x.aI c 1).1,x.bN⟩).2) else ((f10 l ⟨x.aI,(md x.aI c 1).1,x.bN⟩).1,x.Value-(md x.aI c 1).1,0)
theorem aT5 {a v:Int}:Ex (λb=>b=true↔(a≠0\/v>288230376151711744)) (bnd (!decide (a=0)) λx=>cond x (some true) (bnd (decide (v>288230376151711744)) λy=>some y)):=by
  refine aD (eX (λk=>aF ⟨λ_=>.inl (by simpa using k),λ_=>rfl⟩) λk=>aD (aF ⟨λq=>.inr (of_decide_eq_true q),λq=>?_⟩))
  have k:a=0:=by simpa using k
  exact decide_eq_true (q.resolve_left λz=>z k)
theorem r12 {l:List aB} {x:aB} {c:Int} {n:Nat} (hn:66<n) (hl:LR l) (hc:0<=c/\c<=1073741824) (hx:x.aI<=9223372036854775807):AU n l x c=some (f12 l x c):=by
  have hm:=pF x.aI c 1
  refine eT ?_
  unfold AU PM f12
  simp only [WT.run,bR]
  repeat' with_reducible first | refine bF ?_ | refine dP ?_ | apply aD | apply bE | apply dS | apply dI | apply dN | apply dR | apply dO | apply dL | apply dU | apply dQ | refine aH (λ_=>?_) λ_=>?_ | refine dG (λ_=>?_) λ_=>?_ | apply cO | apply bU | apply bY | apply bK | apply aF
  all_goals try (exfalso;omega)
  all_goals try (rw [if_pos (by omega)])
  rw [if_neg (by omega)]
  refine x_eq (BZ hn (by omega) (by omega)) (aT _ aT5 λb hb=>eX (λk=>aF (by rw [if_pos (hb.1 k)])) λk=>?_)
  have hb:¬ ((md x.aI c 1).2.2≠0\/x.Value>288230376151711744):=λq=>by rw [hb.2 q] at k;cases k
  rw [if_neg hb]
  refine x_eq (xP hn hl) (aD (aH (λk=>aF ?_) λk=>gL (by simp only;omega) (aF ?_)))
  · rw [if_pos k]
  · rw [if_neg k]
theorem pW {l:List aB} {x:aB} {c:Int} {n:Nat} (hn:66<n) (hl:LR l) (h1:l.length<=1) (hc:0<=c/\c<=1073741824) (hx:x.aI<=9223372036854775807):LA n l x c=some (f12 l x c):=by
  have hm:=pF x.aI c 1
  refine eT ?_
  unfold LA VX f12
  simp only [WT.run,bR]
  refine dF ?_
  refine aT (λb=>b=true↔(x.aI<1\/x.Value<0)) (x_eq (US hc) (aD (bU (aD (aH (λk=>aF ⟨λ_=>.inl k,λ_=>rfl⟩) λk=>aD (aF ⟨λq=>.inr (of_decide_eq_true q),λq=>decide_eq_true (q.resolve_left k)⟩)))))) λb hb=>eX (λk=>aF (by rw [if_pos (hb.1 k)])) λk=>?_
  have hb:¬ (x.aI<1\/x.Value<0):=λq=>by rw [hb.2 q] at k;cases k
  rw [if_neg hb]
  refine x_eq (TX hn hc (by omega) hx) ?_
  refine aT (λb=>b=true↔((md x.aI c 1).2.2≠0\/x.Value>288230376151711744)) (aD (aH (λk=>aF ⟨λ_=>.inl k,λ_=>rfl⟩) λk=>aD (aF ⟨λq=>.inr (of_decide_eq_true q),λq=>decide_eq_true (q.resolve_left k)⟩))) λb hb2=>eX (λk=>aF (by rw [if_pos (hb2.1 k)])) λk=>?_
  have hb2:¬ ((md x.aI c 1).2.2≠0\/x.Value>288230376151711744):=λq=>by rw [hb2.2 q] at k;cases k
  rw [if_neg hb2]
  refine bF ?_
  refine x_eq (xS hn hl (by omega)) (aD (aH (λk=>aF ?_) λk=>aF ?_))
  · rw [if_pos k]
  · rw [if_neg k]
theorem aJY {l:List aB} {x:aB} (h:(f10 l x).2≠0):(f10 l x).1=l:=by
  unfold f10 at h ⊢
  split
  · rfl
  · split
    · rename_i a b;rw [if_neg a,if_pos b] at h;exact absurd rfl h
    · rfl
noncomputable def g13 (m c:Int) (p:aQ) (x:aB):aQ×Int×Int :=
  if m=1 then (⟨(f9 p.aG x).1,p.bH⟩,0,(f9 p.aG x).2) else if m=4 then (⟨(f12 p.aG x c).1,p.bH⟩,(f12 p.aG x c).2.1,(f12 p.aG x c).2.2) else (⟨(f10 p.aG x).1,p.bH⟩,0,(f10 p.aG x).2)
noncomputable def f13 (m c:Int) (p:aQ) (x:aB):aQ×Int×Int:=if (g13 m c p x).2.2≠0 then (p,0,(g13 m c p x).2.2) else ((g13 m c p x).1,(g13 m c p x).2.1,0)
theorem r11 {p:aQ} {x:aB} {n:Nat} (hn:66<n) (hl:LR p.aG):zP n p x=some (⟨(f10 p.aG x).1,p.bH⟩,(f10 p.aG x).2):=by
  refine eT ?_
  unfold zP TN
  simp only [WT.run,bR]
  refine x_eq (xP hn hl) (aD (aH (λk=>aF ?_) λk=>aF ?_))
  · rw [aJY k]
  · rw [Classical.not_not.1 k]
theorem p11 {p:aQ} {x:aB} {n:Nat} (hn:66<n) (hl:LR p.aG) (h1:p.aG.length<=1):IJ n p x=some (⟨(f10 p.aG x).1,p.bH⟩,(f10 p.aG x).2):=by
  refine eT ?_
  unfold IJ XC
  simp only [WT.run,bR]
  have h2:(f10 p.aG x).1.length<=1:=by
    unfold f10
    split
    · exact h1
    · split
      · exact Nat.le_refl _
      · exact h1
  refine x_eq (xS hn hl (by omega)) (aT (λr=>r=⟨(f10 p.aG x).1,p.bH⟩) ?_ λr hr=>aF (by rw [hr]))
  unfold uK UL
  simp only [WT.run,bR]
  exact dF (aF rfl)
theorem MQ {m:Int} {p:aQ} (h:PR m p):m=1\/m=2\/m=3\/m=4:=by have:=h.mt;omega
theorem r13 {m c:Int} {p:aQ} {x:aB} {n:Nat} (hn:66<n) (h:PR m p) (hc:0<=c/\c<=1073741824) (hx:x.aI<=9223372036854775807):A9 n m c p x=some (f13 m c p x):=by
  refine eT ?_
  unfold A9 UR f13
  simp only [WT.run,bR]
  refine aT (λ(r:Int×Int×aQ)=>r=((g13 m c p x).2.1,(g13 m c p x).2.2,(g13 m c p x).1)) ?_ λr hr=>?_
  · unfold g13
    rcases MQ h with rfl | rfl | rfl | rfl
    · exact aD (aH (λ_=>x_eq (r9 hn h.ly) (aF rfl)) λk=>absurd rfl k)
    · exact aD (aH (λk=>absurd k (by decide)) λ_=>aD (aH (λ_=>x_eq (xP hn h.ly) (aF rfl)) λk=>absurd rfl k))
    · exact aD (aH (λk=>absurd k (by decide)) λ_=>aD (aH (λk=>absurd k (by decide)) λ_=>aD (aH (λ_=>x_eq (r11 hn h.ly) (aF rfl)) λk=>absurd rfl k)))
    · exact aD (aH (λk=>absurd k (by decide)) λ_=>aD (aH (λk=>absurd k (by decide)) λ_=>aD (aH (λk=>absurd k (by decide)) λ_=>aD (aH (λ_=>x_eq (r12 hn h.ly hc hx) (aF rfl)) λk=>absurd rfl k))))
  · subst hr
    refine bE (bE (aD (aH (λk=>aF ?_) λk=>aF ?_)))
    · rw [if_pos k]
    · rw [if_neg k]
theorem aH3 {p:aQ} (h:p.aG.length<=1000):mY p=some p:=by
  refine eT ?_
  unfold mY aD4
  simp only [WT.run,bR]
  exact dF (aT (λ_=>True) (aF trivial) λ_ _=>aF rfl)
theorem wB (p:aQ) (l:List aB):wL p l=some ⟨l,p.bH⟩:=rfl
theorem RE {m c:Int} {p:aQ} {x:aB} {n:Nat} (hn:66<n) (h:PR m p) (hc:0<=c/\c<=1073741824) (hx:x.aI<=9223372036854775807):JX n m c p x=some (f13 m c p x):=by
  have hl:=lQ h.ly
  refine eT ?_
  unfold JX XB f13 g13
  have ho:=aH3 (p:=p) (by omega)
  rcases MQ h with rfl | rfl | rfl | rfl
  · simp only [WT.run,bR,p9 hn h.ly,wB,ho,Option.bind_some,bnd,decide_true,cond_true,wK,Sum.elim_inl,Sum.elim_inr,p2,if_true]
    refine aH (λk=>aF ?_) λk=>aF ?_
    · rw [if_pos k]
    · rw [if_neg k]
  · have h1:=h.one (by decide)
    simp only [WT.run,bR,xS hn h.ly (by omega),wB,ho,Option.bind_some,bnd,decide_true,cond_true,cond_false,wK,p2,if_true,if_false,Sum.elim_inl,Sum.elim_inr,show decide ((2:Int)=1)=false from rfl,show ((2:Int)=1)=False from by simp,show ((2:Int)=4)=False from by simp]
    refine aH (λk=>aF ?_) λk=>aF ?_
    · rw [if_pos k]
    · rw [if_neg k]
  · have h1:=h.one (by decide)
    simp only [WT.run,bR,p11 hn h.ly h1,wB,ho,Option.bind_some,bnd,decide_true,cond_true,cond_false,wK,p2,if_true,if_false,Sum.elim_inl,Sum.elim_inr,show decide ((3:Int)=1)=false from rfl,show decide ((3:Int)=2)=false from rfl,show ((3:Int)=1)=False from by simp,show ((3:Int)=4)=False from by simp]
    refine aH (λk=>aF ?_) λk=>aF ?_
    · rw [if_pos k]
    · rw [if_neg k]
  · have h1:=h.one (by decide)
    simp only [WT.run,bR,pW hn h.ly h1 hc hx,wB,ho,Option.bind_some,bnd,decide_true,cond_true,cond_false,wK,p2,if_true,if_false,Sum.elim_inl,Sum.elim_inr,show decide ((4:Int)=1)=false from rfl,show decide ((4:Int)=2)=false from rfl,show decide ((4:Int)=3)=false from rfl,show ((4:Int)=1)=False from by simp]
    refine aH (λk=>aF ?_) λk=>aF ?_
    · rw [if_pos k]
    · rw [if_neg k]
end Go.Pv
