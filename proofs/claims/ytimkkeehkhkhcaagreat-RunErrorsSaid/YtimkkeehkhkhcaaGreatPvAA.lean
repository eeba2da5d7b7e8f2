import Derived.Test.YtimkkeehkhkhcaaGreatNT90
import Derived.Test.YtimkkeehkhkhcaaGreatPvT
set_option linter.unusedVariables false
set_option linter.unusedSimpArgs false
namespace Go.Pv
open Go.Proofs
set_option maxRecDepth 100000
set_option maxHeartbeats 4000000
def VJ (r:List UInt8) (j:Nat) (v:Int):Prop:=∀ c,r[j]?=some c->val c=v
structure EN (r:List UInt8) (j:Nat):Prop where
  c:∃ v,0<=v/\v<=1/\VJ r (j+1) v
  p:∀ i,i<6->VJ r (j+2+4*i) 0
  r1:VJ r (j+76) 3
  d:VJ r (j+80) 3
theorem XM {n:Nat} {x21:dB×Int} {x252:Int} {y14_1:Int} {y14_3:List aH} {y15_2:Int} {y16_2:Bool} {y20_2:List Int} {y21_1:aI} {y21_2:List Int} {r:List UInt8} {j:Nat} (hn:100<n) (hr:SB r) (h:dF r j y21_1) (hv:VJ r j 0):Ex (λv=>dF r (j+1) v.1) (KZ n x21 x252 y14_1 y14_3 y15_2 y16_2 y20_2 y21_1 y21_2).run:=by
  obtain ⟨h1,h2⟩:=oI (most:=0) hr h hv (by omega)
  have e:iA (y21_1.s,y21_1.bad) 0=0:=by rcases h2 with h2 | h2 <;> exact h2.1
  obtain ⟨n,rfl⟩:∃ m,n=m+1:=⟨n-1,by omega⟩
  unfold KZ;simp only [WT.run,gX]
  refine dP (h.len hr) (bE (bE ?_))
  rw [e]
  exact dP (by omega) (bE (dQ (λ_=>True) ⟨(),rfl,trivial⟩ λ_ _=>bE (dQ (λ_=>True) (qI (λ_=>dR trivial) λ_=>dR trivial) λ_ _=>dR h1)))
theorem Z5 {n:Nat} {a1:List UInt8} {x21:dB×Int} {y14_1:Int} {y14_2:aI} {y14_3:List aH} {r:List UInt8} {j:Nat} (hn:100<n) (hr:SB r) (h:dF r j y14_2) (hm:x21=(m3,0)) (he:EN r j) (ha:VJ r (j+84) 0):Ex (λv=>dF r (j+85) v.1) (KW n a1 x21 y14_1 y14_2 y14_3).run:=by
  subst hm
  obtain ⟨cv,hc0,hc1,hcv⟩:=he.c
  have a1:=iM hr h
  unfold KW;simp only [WT.run,gX]
  refine nP (dP (by decide) (bE (dP (by decide) (bE (dP (by decide) (bE (dQ (λv=>dF r (j+1) v.1) (dQ (λv=>dF r (j+1) v.1) (dP (h.len hr) (bE (bE (dR a1.1)))) λv hv=>dR hv) λv hv=>?_))))))) (by decide)
  refine iV (dQ (λw=>dF r (j+2) w.1) (dP (hv.len hr) (bE (bE (bE (dR (oI hr hv hcv ⟨hc0,hc1⟩).1))))) λw hw=>iV ?_)
  refine dQ _ (aJM hn hr hw (c:=6) rfl rfl (by omega) he.p) λu hu=>iV (dP hu.2 ?_)
  refine dQ _ (aFH hn hr hu.1 (c:=17) rfl (by simp) (by omega)) λb hb=>iV (dP hb.2 ?_)
  refine dQ _ (aG8 hn hr hb.1 (c:=3) rfl rfl (by omega)) λo ho=>iV (dP ho.2 ?_)
  refine dQ _ (aIZ hn hr ho.1 he.r1) λp hp=>iV (dQ _ (aJJ hn hr hp he.d) λd hd=>iV (dQ (λ_=>True) (dR trivial) λ_ _=>?_))
  exact dQ _ (XM hn hr hd ha) λz hz=>iV (dR hz)
theorem N5 {n:Nat} {a1:List UInt8} {x21:dB×Int} {x244:Int} {x245:RS} {x247:List aH} {x33:Int} {y11_2:List Int} {y12_2:List Int} {y5_1:Int} {y5_3:List aH} {y6_2:Int} {y7_2:Bool} {r:List UInt8} {j:Nat} (hn:100<n) (hr:SB r) (h:At r j x245) (hm:x21=(m3,0)) {c:Nat} (hc:((x244.toNat:Nat):Int)=(c:Int)) (hl:x247.length=c) (h1:c<=1) (he:c=1->EN r j/\VJ r (j+84) 0):Ex (λv=>dF r (j+85*c) v.1/\v.2.length=c) (IP n a1 x21 x244 x245 x247 x33 y11_2 y12_2 y5_1 y5_3 y6_2 y7_2).run:=by
  unfold IP;simp only [WT.run,gX]
  refine dQ (λv=>dF r (j+85*c) v.1/\v.2.length=c) (pQ (m:=c) (λv=>v.1) (λv=>dF r (j+85*v.1.toNat) v.2.1/\v.2.2.length=c) ⟨by simp,by simp,by simpa using h,hl⟩ (by omega) λv h2 h3 h4=>?_) λv hv=>dR hv
  obtain ⟨i,y,l⟩:=v
  simp only at h2 h3 h4
  simp only [p2]
  refine bE (mX (λhk=>pR h2 (by omega) λx hx=>?_) λhk=>oZ (dR ⟨?_,h4.2⟩))
  · obtain rfl:i=0:=by omega
    obtain rfl:c=1:=by omega
    exact dQ _ (Z5 hn hr h4.1 hm (he rfl).1 (he rfl).2) λw hw=>nP (pK ⟨by omega,rfl,hw,by simpa using h4.2⟩)
  · rw [show j+85*c=j+85*i.toNat by omega];exact h4.1
theorem aLF {n:Nat} {a1:List UInt8} {x21:dB×Int} {x33:Int} {y11_2:List Int} {y12_1:aI} {y12_2:List Int} {y5_1:Int} {y5_3:List aH} {y6_2:Int} {y7_2:Bool} {r:List UInt8} {j:Nat} (hn:100<n) (hr:SB r) (h:dF r j y12_1) (hm:x21=(m3,0)) {c:Nat} (h1:c<=1) (hv:VJ r j c) (he:c=1->EN r (j+1)/\VJ r (j+85) 0):Ex (λv=>dF r (j+1+85*c) v.1) (F6 n a1 x21 x33 y11_2 y12_1 y12_2 y5_1 y5_3 y6_2 y7_2).run:=by
  obtain ⟨a1,a2⟩:=oI (most:=1) hr h hv (by omega)
  unfold F6;simp only [WT.run,gX]
  refine dP (h.len hr) (bE (bE ?_))
  rcases a2 with ⟨e,g⟩ | ⟨e,b⟩
  · rw [e]
    refine dP (by omega) (bE (dQ _ (N5 hn hr (.inl g) hm (c:=c) (by simp) (by simp) h1 he) λv hv=>iV (dP (by simpa using hv.2) (bE (dQ (λ_=>True) (qI (λ_=>dR trivial) λ_=>dR trivial) λ_ _=>dR hv.1)))))
  · rw [e]
    refine dP (by omega) (bE (dQ _ (N5 (j:=j+1+85*c) hn hr b.at hm (c:=0) rfl (by simp) (by omega) (λh=>by omega)) λv hv=>iV (dP hv.2 (bE (dQ (λ_=>True) (qI (λ_=>dR trivial) λ_=>dR trivial) λ_ _=>dR (by simpa using hv.1))))))
theorem aH9 {n:Nat} {a1:List UInt8} {x21:dB×Int} {y5_1:Int} {y5_2:aI} {y5_3:List aH} {r:List UInt8} {j:Nat} (hn:100<n) (hr:SB r) (h:dF r j y5_2) (hm:x21=(m3,0)) (he:EN r j) {c:Nat} (h1:c<=1) (ha:VJ r (j+84) c) (hb2:c=1->EN r (j+85)/\VJ r (j+169) 0):Ex (λv=>dF r (j+85+85*c) v.1) (J9 n a1 x21 y5_1 y5_2 y5_3).run:=by
  subst hm
  obtain ⟨cv,hc0,hc1,hcv⟩:=he.c
  have a1:=iM hr h
  unfold J9;simp only [WT.run,gX]
  refine nP (dP (by decide) (bE (dP (by decide) (bE (dP (by decide) (bE (dQ (λv=>dF r (j+1) v.1) (dQ (λv=>dF r (j+1) v.1) (dP (h.len hr) (bE (bE (dR a1.1)))) λv hv=>dR hv) λv hv=>?_))))))) (by decide)
  refine iV (dQ (λw=>dF r (j+2) w.1) (dP (hv.len hr) (bE (bE (bE (dR (oI hr hv hcv ⟨hc0,hc1⟩).1))))) λw hw=>iV ?_)
  refine dQ _ (aJB hn hr hw (c:=6) rfl rfl (by omega) he.p) λu hu=>iV (dP hu.2 ?_)
  refine dQ _ (aCI hn hr hu.1 (c:=17) rfl (by simp) (by omega)) λb hb=>iV (dP hb.2 ?_)
  refine dQ _ (aEN hn hr hb.1 (c:=3) rfl rfl (by omega)) λo ho=>iV (dP ho.2 ?_)
  refine dQ _ (aDX hn hr ho.1 he.r1) λp hp=>iV (dQ _ (aDS hn hr hp he.d) λd hd=>iV (dQ (λ_=>True) (dR trivial) λ_ _=>?_))
  exact dQ _ (aLF hn hr hd rfl h1 ha hb2) λz hz=>iV (dR hz)
def pos (i:Nat):Nat:=if i=0 then 0 else 85+85*i
structure E3 (r:List UInt8):Prop where
  e:∀ i,i<3->EN r (pos i)
  a:∀ i,i<3->VJ r (pos i+84) (if i=0 then (1:Nat) else (0:Nat):Nat)
  z:EN r 85/\VJ r 169 0
theorem aDD {n:Nat} {a1:List UInt8} {x21:dB×Int} {x25:List aH} {x9:RS} {r:List UInt8} (hn:100<n) (hr:SB r) (h:At r 0 x9) (hm:x21=(m3,0)) (hl:x25.length=3) (he:E3 r):Ex (λv=>dF r 340 v.1/\v.2.length=3) (KD n a1 x21 x25 x9).run:=by
  subst hm
  unfold KD;simp only [WT.run,gX]
  refine dQ (λv=>dF r 340 v.1/\v.2.length=3) (pQ (m:=3) (λv=>v.1) (λv=>dF r (pos v.1.toNat) v.2.1/\v.2.2.length=3) ⟨by simp,by simp,h,hl⟩ (by omega) λv h2 h3 h4=>?_) λv hv=>dR hv
  obtain ⟨i,y,l⟩:=v
  simp only at h2 h3 h4
  simp only [p2]
  refine bE (mX (λhk=>pR h2 (by simp only [h4.2];exact hk) λx hx=>?_) λhk=>oZ (dR ⟨?_,h4.2⟩))
  · have hk:i<3:=hk
    obtain ⟨k,rfl⟩:∃ k:Nat,i=k:=⟨i.toNat,by omega⟩
    have hk:k<3:=by omega
    simp only [Int.toNat_natCast] at h4
    refine dQ _ (aH9 hn hr h4.1 rfl (he.e k hk) (c:=if k=0 then 1 else 0) (by split <;> omega) (he.a k hk) (λh0=>?_)) λw hw=>nP (pK ⟨by omega,rfl,?_,by simpa using h4.2⟩) (by omega)
    · have:k=0:=by
        by_cases h:k=0
        · exact h
        · rw [if_neg h] at h0;cases h0
      subst this
      exact he.z
    · rw [show pos ((k:Int)+1).toNat=pos k+85+85*(if k=0 then 1 else 0) by unfold pos;split <;> (split <;> omega)]
      exact hw
  · have hk:¬ i<3:=hk
    have:i=3:=by omega
    subst this
    exact h4.1
theorem aJ6 {n:Nat} {x21:dB×Int} {y35_1:aI} {r:List UInt8} {j:Nat} (hn:100<n) (hr:SB r) (h:dF r j y35_1) (hv:VJ r j 0):Ex (λv=>dF r (j+1) v.1) (EC n x21 y35_1).run:=by
  obtain ⟨h1,h2⟩:=oI (most:=40) hr h hv (by omega)
  have e:iA (y35_1.s,y35_1.bad) 40=0:=by rcases h2 with h2 | h2 <;> exact h2.1
  obtain ⟨n,rfl⟩:∃ m,n=m+1:=⟨n-1,by omega⟩
  unfold EC;simp only [WT.run,gX]
  refine dP (h.len hr) (bE (bE ?_))
  rw [e]
  exact dP (by omega) (bE (dQ (λv=>v=(⟨(gK (y35_1.s,y35_1.bad) 40).1,(gK (y35_1.s,y35_1.bad) 40).2⟩,[])) ⟨_,rfl,rfl⟩ λv hv=>by subst hv;exact ⟨_,rfl,h1⟩))
theorem WV {n:Nat} {x21:dB×Int} {y36_1:aI} {y36_2:List fP} {r:List UInt8} {j:Nat} (hn:100<n) (hr:SB r) (h:dF r j y36_1) (hv:VJ r j 0):Ex (λv=>dF r (j+1) v.1) (JR n x21 y36_1 y36_2).run:=by
  obtain ⟨h1,h2⟩:=oI (most:=40) hr h hv (by omega)
  have e:iA (y36_1.s,y36_1.bad) 40=0:=by rcases h2 with h2 | h2 <;> exact h2.1
  obtain ⟨n,rfl⟩:∃ m,n=m+1:=⟨n-1,by omega⟩
  unfold JR;simp only [WT.run,gX]
  refine dP (h.len hr) (bE (bE ?_))
  rw [e]
  exact dP (by omega) (bE (dQ (λv=>v=(⟨(gK (y36_1.s,y36_1.bad) 40).1,(gK (y36_1.s,y36_1.bad) 40).2⟩,[])) ⟨_,rfl,rfl⟩ λv hv=>by subst hv;exact ⟨_,rfl,h1⟩))
theorem aG4 {n:Nat} {x21:dB×Int} {y36_2:List fP} {y37_1:aI} {y37_2:List gV} {r:List UInt8} {j:Nat} (hn:100<n) (hr:SB r) (h:dF r j y37_1) (hv:VJ r j 0):Ex (λv=>dF r (j+1) v.1) (K8 n x21 y36_2 y37_1 y37_2).run:=by
  obtain ⟨h1,h2⟩:=oI (most:=40) hr h hv (by omega)
  have e:iA (y37_1.s,y37_1.bad) 40=0:=by rcases h2 with h2 | h2 <;> exact h2.1
  obtain ⟨n,rfl⟩:∃ m,n=m+1:=⟨n-1,by omega⟩
  unfold K8;simp only [WT.run,gX]
  refine dP (h.len hr) (bE (bE ?_))
  rw [e]
  exact dP (by omega) (bE (dQ (λv=>v=(⟨(gK (y37_1.s,y37_1.bad) 40).1,(gK (y37_1.s,y37_1.bad) 40).2⟩,[])) ⟨_,rfl,rfl⟩ λv hv=>by subst hv;exact ⟨_,rfl,h1⟩))
theorem aFG {n:Nat} {a1:List UInt8} {x21:dB×Int} {x25:List aH} {x9:RS} {r:List UInt8} (hn:100<n) (hr:SB r) (h:At r 0 x9) (hm:x21=(m3,0)) (hl:x25.length=3) (he:E3 r) (h340:VJ r 340 0) (h341:VJ r 341 0) (h342:VJ r 342 0) (hs:r.length<344):Ex (λv=>v.1.bad=true/\v.2.1.length=3) (KG n a1 x21 x25 x9).run:=by
  unfold KG;simp only [WT.run,gX]
  refine dQ (λ_=>True) (dR trivial) λ_ _=>dQ _ (aDD hn hr h hm hl he) λv hv=>iV (dP (by subst hm;exact hv.2) ?_)
  refine dQ _ (aJ6 hn hr hv.1 h340) λa ha=>iV (dQ _ (WV hn hr ha h341) λb hb=>iV (dQ _ (aG4 hn hr hb h342) λc hc=>iV ?_))
  have a1:=iM hr hc
  refine dQ (λv=>v.1.bad=true) (dQ (λv=>v.1.bad=true) (dP (hc.len hr) (bE (bE (dR ?_)))) λv hv=>dR hv) λw hw=>iV (dR ⟨hw,hv.2⟩)
  rcases a1.1 with ⟨_,_,g⟩ | g
  · omega
  · exact g.1
def rr:List UInt8:=bb.drop 31
def mv:List Int:=[6,2,6,0,2,4,6,2,4,6,6,2,4,6,6,2,4,6,6,0,14,28,6,2,16,30,6,4,18,32]
theorem aGK:∀ k:Fin 375,pN (bb.take k,false) ((bb.take k.val).length:Int)=(if 31<=k.val then mv else [])/\(31<=k.val->qD (bb.take k,false) ((bb.take k.val).length:Int)=(rr.take (k-31),false)):=by decide +kernel
theorem aBC:sI 1500 (mv.map λv=>UInt8.ofNat v.toNat)=some (m3,0):=by decide +kernel
theorem aFO:(sI 1500 []).map (λr=>r.2)=some 3:=by decide +kernel
theorem aCD:∃ m,sI 1500 []=some (m,3):=by
  have h:=aFO
  cases e:sI 1500 [] with
  | none=>rw [e] at h;cases h
  | some r=>obtain ⟨a,b⟩:=r;rw [e] at h;have h:b=3:=Option.some.inj h;subst h;exact ⟨a,rfl⟩
theorem aDI:SB rr:=⟨by decide +kernel,by decide +kernel⟩
theorem take_at {r:List UInt8} {m j:Nat} {c:UInt8} (h:(r.take m)[j]?=some c):r[j]?=some c:=by
  rw [List.getElem?_take] at h
  split at h
  · exact h
  · cases h
theorem VJ.take {r:List UInt8} {j m:Nat} {v:Int} (h:VJ r j v):VJ (r.take m) j v:=λc hc=>h c (take_at hc)
theorem EN.take {r:List UInt8} {j m:Nat} (h:EN r j):EN (r.take m) j:=⟨by obtain ⟨v,a,b,c⟩:=h.c;exact ⟨v,a,b,c.take⟩,λi hi=>(h.p i hi).take,h.r1.take,h.d.take⟩
theorem SB.take {r:List UInt8} {m:Nat} (h:SB r):SB (r.take m):=⟨λc hc=>h.1 c (List.mem_of_mem_take hc),by have:=h.2;rw [List.length_take];omega⟩
def vj (r:List UInt8) (j:Nat) (v:Int):Bool:=match r[j]? with | some c=>decide (val c=v) | none=>true
theorem mM {r:List UInt8} {j:Nat} {v:Int} (h:vj r j v=true):VJ r j v:=λc hc=>by
  unfold vj at h;rw [hc] at h;exact of_decide_eq_true h
theorem DJ {r:List UInt8} {j:Nat} (h:((vj r (j+1) 0 || vj r (j+1) 1) && (vj r (j+2) 0 && vj r (j+6) 0 && vj r (j+10) 0 && vj r (j+14) 0 && vj r (j+18) 0 && vj r (j+22) 0) && vj r (j+76) 3 && vj r (j+80) 3)=true):EN r j:=by
  simp only [Bool.and_eq_true,Bool.or_eq_true] at h
  obtain ⟨⟨⟨h1,h2⟩,h3⟩,h4⟩:=h
  refine ⟨?_,λi hi=>?_,mM h3,mM h4⟩
  · rcases h1 with h1 | h1
    · exact ⟨0,by omega,by omega,mM h1⟩
    · exact ⟨1,by omega,by omega,mM h1⟩
  · obtain ⟨⟨⟨⟨⟨a,b⟩,c⟩,d⟩,e⟩,f⟩:=h2
    match i,hi with
    | 0,_=>exact mM a
    | 1,_=>exact mM b
    | 2,_=>exact mM c
    | 3,_=>exact mM d
    | 4,_=>exact mM e
    | 5,_=>exact mM f
theorem aC1:E3 rr:=by
  refine ⟨λi hi=>?_,λi hi=>?_,DJ (by decide +kernel),mM (by decide +kernel)⟩
  · match i,hi with
    | 0,_=>exact DJ (by decide +kernel)
    | 1,_=>exact DJ (by decide +kernel)
    | 2,_=>exact DJ (by decide +kernel)
  · match i,hi with
    | 0,_=>exact mM (by decide +kernel)
    | 1,_=>exact mM (by decide +kernel)
    | 2,_=>exact mM (by decide +kernel)
theorem E3.take {r:List UInt8} {m:Nat} (h:E3 r):E3 (r.take m):=⟨λi hi=>(h.e i hi).take,λi hi=>(h.a i hi).take,h.z.1.take,h.z.2.take⟩
theorem aLA (k:Nat) (hk:k<375):Ex (λr=>r.2=3) (oD 1500 (bb.take k)):=by
  have hl:(bb.take k).length<=375:=by rw [List.length_take];omega
  obtain ⟨e1,e2⟩:=aGK ⟨k,hk⟩
  simp only at e1 e2
  unfold oD JG;simp only [WT.run,gX]
  refine bE (mX (λh=>by omega) λ_=>dQ (λ_=>True) (dR trivial) λ_ _=>dP (by show (bb.take k).length<=_;omega) (dP (λh=>by cases h) (bE (bE ?_))))
  rw [e1]
  by_cases h31:31<=k
  · rw [if_pos h31,e2 h31]
    refine dQ (λv=>v=mv) ⟨_,by kernel_rfl,rfl⟩ λv hv=>?_
    subst hv
    refine dP (by decide) (x_eq aBC (bE (mX (λh=>absurd rfl h) λ_=>dP (by decide) (bE ?_))))
    have hr:=aDI.take (m:=k-31)
    have hs:(rr.take (k-31)).length<344:=by rw [List.length_take];omega
    refine dQ _ (aFG (by omega) hr (.inl ⟨rfl,rfl,by omega⟩) rfl rfl aC1.take (VJ.take (mM (by decide +kernel))) (VJ.take (mM (by decide +kernel))) (VJ.take (mM (by decide +kernel))) hs) λv hv=>iV ?_
    exact dP hv.2 (dQ (λy=>y=true) (by rw [hv.1];exact dR rfl) λy hy=>dP hy (dR rfl))
  · rw [if_neg h31]
    refine dQ (λv=>v=[]) ⟨_,by kernel_rfl,rfl⟩ λv hv=>?_
    subst hv
    obtain ⟨m,hm⟩:=aCD
    exact dP (by decide) (x_eq hm (bE (mX (λ_=>dR rfl) λh=>absurd (show (3:Int)≠0 by decide) h)))
theorem QJ {v k:Int} (hk:0<k/\k<=4611686018427387904):Ex (λr=>0<=r/\r<k) (wW v k):=by
  have h1:=Int.tmod_lt_of_pos v hk.1
  have h2:=Int.lt_tmod_of_pos v hk.1
  unfold wW VZ
  simp only [WT.run,gX]
  refine x_a ?_
  repeat' with_reducible first | refine nP ?_ | refine aB1 ?_ | apply bE | apply iV | apply YT | apply aLI | apply ZW | apply aLM | apply aL3 | apply ZF | apply aGR | apply XR | refine mX (λ_=>?_) λ_=>?_ | refine aFP (λ_=>?_) λ_=>?_ | apply x_cT | apply x_cF | apply YK | apply oZ | apply dR
  all_goals omega
theorem QC:bb.length=375:=by decide +kernel
theorem aAI {l:List UInt8} (h:131072<l.length):∃ s,oD 1500 l=some (s,2):=by
  unfold oD JG;simp only [WT.run,gX]
  exact ⟨_,qP (by omega) rfl⟩
theorem aD9 {l:List UInt8} (h:131072<l.length):xQ 1500 l=some ([],2):=by
  unfold xQ
  exact qP (by omega) rfl
theorem aCB:sI 1500 mb=some (m3,0):=by decide +kernel
theorem c2 {l:List UInt8} (h:131072<l.length):oH 1500 mb l=some ([],[],2):=by
  unfold oH VQ;simp only [WT.run,gX]
  exact mJ aCB (nC (by simp) (nH (mJ (aD9 h) (qP (by simp) rfl))))
theorem res {l:List UInt8} {e:Int} (he:e≠0) (h:∃ s,oD 1500 l=some (s,e)) (o:List UInt8):vF 1500 l o=some ([],[],e):=by
  obtain ⟨s,h⟩:=h
  unfold vF U1;simp only [WT.run,gX]
  exact mJ h (qP (by simpa using he) (rE rfl rfl))
theorem aCL {l:List UInt8} {e:Int} (he:e≠0) (h:∃ s,oD 1500 l=some (s,e)):∃ g,B9 1500 l=some (g,e):=by
  obtain ⟨s,h⟩:=h
  unfold B9 VT;simp only [WT.run,gX]
  exact ⟨_,mJ h (qP (by simpa using he) (rE rfl rfl))⟩
theorem of_map {l:List UInt8} (h:(oD 1500 l).map (λr=>r.2)=some 3):∃ s,oD 1500 l=some (s,3):=by
  cases e:oD 1500 l with
  | none=>rw [e] at h;cases h
  | some r=>obtain ⟨a,b⟩:=r;rw [e] at h;have h:b=3:=Option.some.inj h;subst h;exact ⟨a,rfl⟩
theorem aEL {D:Option (Int×Int×List UInt8)} {F:Int×Int×List UInt8->Option Bool} (h:∃ e,D=some (e,e,[])) (hF:∀ e,F (e,e,[])=some true):D.bind F=some true:=by
  obtain ⟨e,rfl⟩:=h;exact hF e
theorem aG0 (k:Nat) (hk:k<375):vF 1500 (bb.take k) ob=some ([],[],3):=by
  obtain ⟨r,e,h⟩:=aLA k hk
  obtain ⟨a,b⟩:=r
  have h:b=3:=h
  subst h
  exact res (by decide) ⟨a,e⟩ ob
theorem WR (a1 a2:Int):LC 1500 a1 a2=some true:=by
  obtain ⟨x,hx,h0,h1⟩:=QJ (v:=a2) (k:=1000) (by omega)
  obtain ⟨y,hy,h2,h3⟩:=QJ (v:=a1) (k:=6) (by omega)
  have hl:131072<((List.replicate (Int.toNat (bL (131073+x))) (0:Int)).map λv=>UInt8.ofNat v.toNat).length:=by
    rw [List.length_map,List.length_replicate,show bL (131073+x)=131073+x from wrap64 (by omega)];omega
  have hw:bL (131073+x)=131073+x:=wrap64 (by omega)
  unfold LC O0;simp only [WT.run,gX]
  refine mJ aAY (mJ aBJ (mJ aKM (mJ aA9 (mJ (a:=false) rfl (rE rfl (mJ hx (uL (rE (by omega) (uL (rE (λv hv=>by rw [(List.mem_replicate.1 hv).2];omega) (mJ hy ?_)))))))))))
  refine aEL ?_ λe=>?_
  · have hy:y=0\/y=1\/y=2\/y=3\/y=4\/y=5:=by omega
    have eb:(bb.length:Int)=375:=by rw [QC];rfl
    rcases hy with rfl | rfl | rfl | rfl | rfl | rfl
    · exact ⟨3,qP rfl (zD (rE (by decide +kernel) (uL (mJ (show oH 1500 (List.drop 1 (List.take mb.length mb)) ob=some ([],[],3) by rw [List.take_length];exact aF9) rfl))))⟩
    · exact ⟨3,nC (by decide) (nH (qP rfl (zD (rE (by decide +kernel) (uL (mJ W9 rfl))))))⟩
    · exact ⟨2,nC (by decide) (nH (nC (by decide) (nH (qP rfl (zD (mJ (c2 hl) rfl))))))⟩
    · refine ⟨3,nC (by decide) (nH (nC (by decide) (nH (nC (by decide) (nH (qP rfl (zD (rE ?_ (uL (rE ?_ (uL (mJ (a:=([],[],3)) ?_ rfl))))))))))))⟩
      · show (bb.length:Int)≠0;omega
      · have h1:=Int.tmod_lt_of_pos x (show (0:Int)<375 by omega)
        have h2:=Int.tmod_nonneg (375:Int) h0
        refine ⟨by omega,?_,?_⟩
        · show 0<=x.tmod (bb.length:Int);rw [eb];exact h2
        · show x.tmod (bb.length:Int)<=(bb.length:Int);rw [eb];omega
      · have h1:=Int.tmod_lt_of_pos x (show (0:Int)<375 by omega)
        have h2:=Int.tmod_nonneg (375:Int) h0
        rw [List.drop_zero]
        show vF 1500 (bb.take (x.tmod (bb.length:Int)).toNat) ob=_
        rw [eb]
        exact aG0 _ (by omega)
    · exact ⟨2,nC (by decide) (nH (nC (by decide) (nH (nC (by decide) (nH (nC (by decide) (nH (qP rfl (zD (mJ (res (by decide) (aAI hl) ob) rfl))))))))))⟩
    · obtain ⟨g,hg⟩:=aCL (by decide) (of_map aL1)
      exact ⟨3,nC (by decide) (nH (nC (by decide) (nH (nC (by decide) (nH (nC (by decide) (nH (nC (by decide) (nH (rE (by show bb.length+1<=_;rw [QC];decide) (uL (mJ hg rfl))))))))))))⟩
  · show (((bnd (decide (e=e)) λx=>bif x then (bnd (decide (([]:List UInt8)=[])) λx=>bif x then (AO 1500).bind λx=>some x else some false) else some false)).bind λy=>some y)=some true
    rw [decide_eq_true rfl,aJI];rfl
open Go.ChangeShapes Go.WideShapes Go.ChangeAt Go.RowKit
theorem XJ {P:Program} {f:FuncId} {args:List AV} {vs:Array Value} {w:World} (h:PP P f args (λy=>y=aA true)) (ha:lX (s0 w) args vs) :
    Calls P f vs w λe w'=>e=.returned (.bool true)/\Below w.heap.size w w':=by
  refine (h (s0 w) vs (λ_ h=>h) ⟨0,λ_ _ h=>h⟩ ha).mono ?_
  rintro e w' ⟨y,s',v,rfl,_,rfl,rfl,h4,_,h6⟩
  have hv:=h4.gJ
  subst hv
  exact ⟨rfl,⟨h6.os,h6.tape,h6.output,h6.size,λk hk=>h6.keep k hk λ⟨_,_,_,h,_⟩=>by cases h⟩⟩
end Go.Pv
