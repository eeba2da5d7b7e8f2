/- RunErrors: a report that is cut is bad in the end. -/
import Derived.Test.YtimkkeehkhkhcaaGreatPlY
set_option linter.unusedVariables false
set_option linter.unusedSimpArgs false
namespace Go.Pv
open Go.Proofs
set_option maxRecDepth 100000
set_option maxHeartbeats 4000000
def Gd (r:List UInt8) (j:Nat) (y:RS):Prop:=y.2=false/\y.1=r.drop j/\j<=r.length
def Bd (y:RS):Prop:=y.2=true/\y.1=[]
def At (r:List UInt8) (j:Nat) (y:RS):Prop:=Gd r j y\/Bd y
def val (c:UInt8):Int:=tL c.toNat
def SB (r:List UInt8):Prop:=(∀ c∈r,c.toNat<128)/\r.length<=400
theorem At.len {r:List UInt8} {j:Nat} {y:RS} (h:At r j y) (hr:SB r):y.1.length<=9223372036854775806:=by
  have:=hr.2
  rcases h with h | h
  · rw [h.2.1,List.length_drop];omega
  · rw [h.2];simp
theorem Bd.at {r:List UInt8} {j:Nat} {y:RS} (h:Bd y):At r j y:=.inr h
theorem Bd.num {y:RS} (h:Bd y):dG y=0/\Bd (dL y):=by
  obtain ⟨s,b⟩:=y
  obtain ⟨h1,h2⟩:=h
  simp only at h1 h2
  subst h1 h2
  exact ⟨rfl,rfl,rfl⟩
theorem iM {r:List UInt8} {j:Nat} {y:RS} (hr:SB r) (h:At r j y):At r (j+1) (dL y)/\((∃ c,r[j]?=some c/\dG y=val c/\Gd r (j+1) (dL y))\/(dG y=0/\Bd (dL y))):=by
  rcases h with ⟨h1,h2,h3⟩ | h
  · obtain ⟨s,b⟩:=y
    simp only at h1 h2
    subst h1 h2
    by_cases hj:j<r.length
    · have e:=List.drop_eq_getElem_cons hj
      have hc:(r[j]).toNat<128:=hr.1 _ (List.getElem_mem hj)
      have e2:rd (r.drop j) 0 0=some ((r[j]).toNat,r.drop (j+1)):=by
        rw [e];unfold rd
        rw [if_neg (by omega),if_neg (by omega),if_neg (by omega)]
        simp;omega
      have g:Gd r (j+1) (dL (r.drop j,false)):=by
        unfold dL;simp only [e2];exact ⟨rfl,rfl,hj⟩
      refine ⟨.inl g,.inl ⟨r[j],List.getElem?_eq_getElem hj,?_,g⟩⟩
      unfold dG;simp only [e2];rfl
    · have e:r.drop j=[]:=List.drop_eq_nil_of_le (by omega)
      rw [e]
      exact ⟨.inr ⟨rfl,rfl⟩,.inr ⟨rfl,rfl,rfl⟩⟩
  · exact ⟨.inr h.num.2,.inr h.num⟩
theorem oI {r:List UInt8} {j:Nat} {y:RS} (hr:SB r) (h:At r j y) {v most:Int} (hv:∀ c,r[j]?=some c->val c=v) (h0:0<=v/\v<=most):At r (j+1) (gK y most)/\((iA y most=v/\Gd r (j+1) (gK y most))\/(iA y most=0/\Bd (gK y most))):=by
  obtain ⟨h1,h2⟩:=iM hr h
  rcases h2 with ⟨c,hc,e,g⟩ | ⟨e,b⟩
  · rw [hv c hc] at e
    have k:¬ (dG y<0\/most<dG y):=by omega
    unfold gK iA;rw [if_neg k,if_neg k]
    exact ⟨.inl g,.inl ⟨e,g⟩⟩
  · have k:¬ (dG y<0\/most<dG y):=by omega
    unfold gK iA;rw [if_neg k,if_neg k]
    exact ⟨.inr b,.inr ⟨e,b⟩⟩
theorem pQ {V J:Type} {P:J->Prop} {f:V->Option (V⊕J)} {v0:V} {n m:Nat} (at':V->Int) (I:V->Prop) (h0:0<=at' v0/\at' v0<=m/\I v0) (hn:m<n)
    (hs:∀ v,0<=at' v->at' v<=m->I v->Ex (λr=>match r with | .inl v'=>at' v<m/\at' v'=at' v+1/\I v' | .inr j=>P j) (f v)):Ex P (iter f n v0):=by
  refine UF (λv=>0<=at' v/\at' v<=m/\I v) (λv=>(m-at' v).toNat) (λv hv=>?_) h0 (by omega)
  refine aJQ (hs v hv.1 hv.2.1 hv.2.2) λr hr=>?_
  cases r with
  | inl v'=>obtain ⟨h1,h2,h3⟩:=hr;exact ⟨⟨by omega,by omega,h3⟩,by omega⟩
  | inr j=>exact hr
abbrev dF (r:List UInt8) (j:Nat) (y:aI):Prop:=At r j (y.s,y.bad)
theorem aGC {n:Nat} {a1:List UInt8} {x58:aT} {y43_1:Int} {y43_2:aI} {y43_3:List aT} {r:List UInt8} {j:Nat} (hn:100<n) (hr:SB r) (h:dF r j y43_2) (hv:∀ c,r[j]?=some c->val c=0):Ex (λv=>dF r (j+1) v.1) (FB n a1 x58 y43_1 y43_2 y43_3).run:=by
  obtain ⟨h1,h2⟩:=oI (most:=30) hr h hv (by omega)
  have e:iA (y43_2.s,y43_2.bad) 30=0:=by rcases h2 with h2 | h2 <;> exact h2.1
  obtain ⟨n,rfl⟩:∃ m,n=m+1:=⟨n-1,by omega⟩
  unfold FB;simp only [WT.run,gX]
  refine dP (h.len hr) (bE (bE ?_))
  rw [e]
  exact dP (by omega) (bE (dQ (λv=>v=(⟨(gK (y43_2.s,y43_2.bad) 30).1,(gK (y43_2.s,y43_2.bad) 30).2⟩,[])) ⟨_,rfl,rfl⟩ λv hv=>by subst hv;exact ⟨_,rfl,h1⟩))
theorem aLZ {a1:List UInt8} {x21:dB×Int} {x58:aT} {y43_1:Int} {y43_3:List aT} {y46_1:aI} {y46_2:List bQ} {y5_1:Int} {y5_3:List aH} {y6_2:Int} {y7_2:Bool} {r:List UInt8} {j:Nat} (hr:SB r) (h:dF r j y46_1):Ex (λv=>dF r (j+3) v.1/\v.2.length=y43_3.length) (KE a1 x21 x58 y43_1 y43_3 y46_1 y46_2 y5_1 y5_3 y6_2 y7_2).run:=by
  have a1:=iM hr h
  have a2:=iM hr a1.1
  have a3:=iM hr a2.1
  unfold KE;simp only [WT.run,gX]
  exact dQ (λv=>dF r (j+3) v.1/\v.2.length=y43_3.length) (dP (h.len hr) (bE (bE (bE (dP (a1.1.len hr) (bE (bE (bE (dP (a2.1.len hr) (bE (bE (bE (dR ⟨a3.1,by simp⟩))))))))))))) λv hv=>dR hv
theorem aHF {n:Nat} {a1:List UInt8} {x21:dB×Int} {x58:aT} {y43_1:Int} {y43_2:aI} {y43_3:List aT} {y5_1:Int} {y5_3:List aH} {y6_2:Int} {y7_2:Bool} {r:List UInt8} {j:Nat} (hn:100<n) (hr:SB r) (h:dF r j y43_2) (hv:∀ c,r[j]?=some c->val c=0):Ex (λv=>dF r (j+4) v.1/\v.2.length=y43_3.length) (H8 n a1 x21 x58 y43_1 y43_2 y43_3 y5_1 y5_3 y6_2 y7_2).run:=by
  unfold H8;simp only [WT.run,gX]
  exact dQ _ (aGC hn hr h hv) λv h1=>iV (dQ _ (aLZ hr h1) λw hw=>dR hw)
theorem aJB {n:Nat} {a1:List UInt8} {x21:dB×Int} {x33:Int} {x35:List aT} {y5_1:Int} {y5_3:List aH} {y6_2:Int} {y7_1:aI} {y7_2:Bool} {r:List UInt8} {j:Nat} (hn:100<n) (hr:SB r) (h:dF r j y7_1) {c:Nat} (hc:((x33.toNat:Nat):Int)=(c:Int)) (hl:x35.length=c) (hs:c<=60) (hv:∀ i,i<c->∀ d,r[j+4*i]?=some d->val d=0):Ex (λv=>dF r (j+4*c) v.1/\v.2.length=c) (JV n a1 x21 x33 x35 y5_1 y5_3 y6_2 y7_1 y7_2).run:=by
  unfold JV;simp only [WT.run,gX]
  refine dQ (λv=>dF r (j+4*c) v.1/\v.2.length=c) (pQ (m:=c) (λv=>v.1) (λv=>dF r (j+4*v.1.toNat) v.2.1/\v.2.2.length=c) ⟨by simp,by simp,by simpa using h,hl⟩ (by omega) λv h1 h2 h3=>?_) λv hv=>dR hv
  obtain ⟨i,y,l⟩:=v
  simp only at h1 h2 h3
  simp only [p2]
  refine bE (mX (λhk=>pR h1 (by omega) λx hx=>dQ _ (aHF hn hr h3.1 (hv i.toNat (by omega))) λw hw=>dP hw.2 (nP (pK ⟨by omega,rfl,?_,hw.2.trans h3.2⟩))) λhk=>oZ (dR ⟨?_,h3.2⟩))
  · rw [show j+4*(i+1).toNat=j+4*i.toNat+4 by omega];exact hw.1
  · rw [show j+4*c=j+4*i.toNat by omega];exact h3.1
theorem aIK {x21:dB×Int} {x33:Int} {y54_1:Int} {y54_2:aI} {y54_3:List Int} {y5_1:Int} {y5_3:List aH} {y6_2:Int} {y7_2:Bool} {r:List UInt8} {j:Nat} (hr:SB r) (h:dF r j y54_2):Ex (λv=>dF r (j+1) v.1/\v.2.length=y54_3.length) (JL x21 x33 y54_1 y54_2 y54_3 y5_1 y5_3 y6_2 y7_2).run:=by
  have a1:=iM hr h
  unfold JL;simp only [WT.run,gX]
  exact dQ (λv=>dF r (j+1) v.1/\v.2.length=y54_3.length) (dQ (λv=>dF r (j+1) v.1/\v.2.length=y54_3.length) (dP (h.len hr) (bE (bE (bE (dR ⟨a1.1,by simp⟩))))) λv hv=>dR hv) λv hv=>dR hv
theorem aCI {n:Nat} {x21:dB×Int} {x33:Int} {x38:List Int} {y5_1:Int} {y5_3:List aH} {y6_2:Int} {y7_2:Bool} {y8_1:aI} {r:List UInt8} {j:Nat} (hn:100<n) (hr:SB r) (h:dF r j y8_1) {c:Nat} (hc:((Int.toNat 17:Nat):Int)=(c:Int)) (hl:x38.length=c) (hs:c<=60):Ex (λv=>dF r (j+1*c) v.1/\v.2.length=c) (IC n x21 x33 x38 y5_1 y5_3 y6_2 y7_2 y8_1).run:=by
  unfold IC;simp only [WT.run,gX]
  refine dQ (λv=>dF r (j+1*c) v.1/\v.2.length=c) (pQ (m:=c) (λv=>v.1) (λv=>dF r (j+1*v.1.toNat) v.2.1/\v.2.2.length=c) ⟨by simp,by simp,by simpa using h,hl⟩ (by omega) λv h1 h2 h3=>?_) λv hv=>dR hv
  obtain ⟨i,y,l⟩:=v
  simp only at h1 h2 h3
  simp only [p2]
  refine bE (mX (λhk=>pR h1 (by omega) λx hx=>dQ _ (aIK hr h3.1) λw hw=>dP hw.2 (nP (pK ⟨by omega,rfl,?_,hw.2.trans h3.2⟩))) λhk=>oZ (dR ⟨?_,h3.2⟩))
  · rw [show j+1*(i+1).toNat=j+1*i.toNat+1 by omega];exact hw.1
  · rw [show j+1*c=j+1*i.toNat by omega];exact h3.1
theorem aJF {x120:bA} {x33:Int} {y5_1:Int} {y5_3:List aH} {y60_1:Int} {y60_2:aI} {y60_3:List bA} {y6_2:Int} {y7_2:Bool} {r:List UInt8} {j:Nat} (hr:SB r) (h:dF r j y60_2):Ex (λv=>dF r (j+11) v.1/\v.2.length=y60_3.length) (FW x120 x33 y5_1 y5_3 y60_1 y60_2 y60_3 y6_2 y7_2).run:=by
  have a1:=iM hr h
  have a2:=iM hr a1.1
  have a3:=iM hr a2.1
  have a4:=iM hr a3.1
  have a5:=iM hr a4.1
  have a6:=iM hr a5.1
  have a7:=iM hr a6.1
  have a8:=iM hr a7.1
  have a9:=iM hr a8.1
  have nQ:=iM hr a9.1
  have oK:=iM hr nQ.1
  unfold FW;simp only [WT.run,gX]
  exact dQ (λv=>dF r (j+11) v.1/\v.2.length=y60_3.length) (dP (h.len hr) (bE (bE (bE (dP (a1.1.len hr) (bE (bE (bE (dP (a2.1.len hr) (bE (bE (bE (dP (a3.1.len hr) (bE (bE (bE (dP (a4.1.len hr) (bE (bE (bE (dP (a5.1.len hr) (bE (bE (bE (dP (a6.1.len hr) (bE (bE (bE (dP (a7.1.len hr) (bE (bE (bE (dP (a8.1.len hr) (bE (bE (bE (dP (a9.1.len hr) (bE (bE (bE (dP (nQ.1.len hr) (bE (bE (bE (dR ⟨oK.1,by simp⟩))))))))))))))))))))))))))))))))))))))))))))) λv hv=>dR hv
theorem aE6 {x120:bA} {x33:Int} {y5_1:Int} {y5_3:List aH} {y60_1:Int} {y60_2:aI} {y60_3:List bA} {y6_2:Int} {y7_2:Bool} {r:List UInt8} {j:Nat} (hr:SB r) (h:dF r j y60_2):Ex (λv=>dF r (j+11) v.1/\v.2.length=y60_3.length) (ED x120 x33 y5_1 y5_3 y60_1 y60_2 y60_3 y6_2 y7_2).run:=by
  unfold ED;simp only [WT.run,gX]
  exact dQ _ (aJF hr h) λw hw=>dR hw
theorem aEN {n:Nat} {x21:dB×Int} {x33:Int} {x41:List bA} {y5_1:Int} {y5_3:List aH} {y6_2:Int} {y7_2:Bool} {y9_1:aI} {r:List UInt8} {j:Nat} (hn:100<n) (hr:SB r) (h:dF r j y9_1) {c:Nat} (hc:((Int.toNat (x21.1.bC.length:Int):Nat):Int)=(c:Int)) (hl:x41.length=c) (hs:c<=60):Ex (λv=>dF r (j+11*c) v.1/\v.2.length=c) (IU n x21 x33 x41 y5_1 y5_3 y6_2 y7_2 y9_1).run:=by
  unfold IU;simp only [WT.run,gX]
  refine dQ (λv=>dF r (j+11*c) v.1/\v.2.length=c) (pQ (m:=c) (λv=>v.1) (λv=>dF r (j+11*v.1.toNat) v.2.1/\v.2.2.length=c) ⟨by simp,by simp,by simpa using h,hl⟩ (by omega) λv h1 h2 h3=>?_) λv hv=>dR hv
  obtain ⟨i,y,l⟩:=v
  simp only at h1 h2 h3
  simp only [p2]
  refine bE (mX (λhk=>pR h1 (by omega) λx hx=>dQ _ (aE6 hr h3.1) λw hw=>dP hw.2 (nP (pK ⟨by omega,rfl,?_,hw.2.trans h3.2⟩))) λhk=>oZ (dR ⟨?_,h3.2⟩))
  · rw [show j+11*(i+1).toNat=j+11*i.toNat+11 by omega];exact hw.1
  · rw [show j+11*c=j+11*i.toNat by omega];exact h3.1
theorem YZ {x21:dB×Int} {x33:Int} {y5_1:Int} {y5_3:List aH} {y67_1:Int} {y67_2:aI} {y67_3:List Int} {y6_2:Int} {y7_2:Bool} {r:List UInt8} {j:Nat} (hr:SB r) (h:dF r j y67_2):Ex (λv=>dF r (j+1) v.1/\v.2.length=y67_3.length) (GX x21 x33 y5_1 y5_3 y67_1 y67_2 y67_3 y6_2 y7_2).run:=by
  have a1:=iM hr h
  unfold GX;simp only [WT.run,gX]
  exact dQ (λv=>dF r (j+1) v.1/\v.2.length=y67_3.length) (dQ (λv=>dF r (j+1) v.1/\v.2.length=y67_3.length) (dP (h.len hr) (bE (bE (bE (dR ⟨a1.1,by simp⟩))))) λv hv=>dR hv) λv hv=>dR hv
theorem O6 {n:Nat} {x188:Int} {x189:RS} {x191:List Int} {x21:dB×Int} {x33:Int} {y5_1:Int} {y5_3:List aH} {y6_2:Int} {y7_2:Bool} {r:List UInt8} {j:Nat} (hn:100<n) (hr:SB r) (h:At r j x189) {c:Nat} (hc:((x188.toNat:Nat):Int)=(c:Int)) (hl:x191.length=c) (hs:c<=60):Ex (λv=>dF r (j+1*c) v.1/\v.2.length=c) (KM n x188 x189 x191 x21 x33 y5_1 y5_3 y6_2 y7_2).run:=by
  unfold KM;simp only [WT.run,gX]
  refine dQ (λv=>dF r (j+1*c) v.1/\v.2.length=c) (pQ (m:=c) (λv=>v.1) (λv=>dF r (j+1*v.1.toNat) v.2.1/\v.2.2.length=c) ⟨by simp,by simp,by simpa using h,hl⟩ (by omega) λv h1 h2 h3=>?_) λv hv=>dR hv
  obtain ⟨i,y,l⟩:=v
  simp only at h1 h2 h3
  simp only [p2]
  refine bE (mX (λhk=>pR h1 (by omega) λx hx=>dQ _ (YZ hr h3.1) λw hw=>dP hw.2 (nP (pK ⟨by omega,rfl,?_,hw.2.trans h3.2⟩))) λhk=>oZ (dR ⟨?_,h3.2⟩))
  · rw [show j+1*(i+1).toNat=j+1*i.toNat+1 by omega];exact hw.1
  · rw [show j+1*c=j+1*i.toNat by omega];exact h3.1
theorem aDX {n:Nat} {x21:dB×Int} {x33:Int} {y10_1:aI} {y5_1:Int} {y5_3:List aH} {y6_2:Int} {y7_2:Bool} {r:List UInt8} {j:Nat} (hn:100<n) (hr:SB r) (h:dF r j y10_1) (hv:∀ c,r[j]?=some c->val c=3):Ex (λv=>dF r (j+4) v.1) (EX n x21 x33 y10_1 y5_1 y5_3 y6_2 y7_2).run:=by
  obtain ⟨h1,h2⟩:=oI (most:=5) hr h hv (by omega)
  unfold EX;simp only [WT.run,gX]
  refine dP (h.len hr) (bE (bE ?_))
  rcases h2 with ⟨e,g⟩ | ⟨e,b⟩
  · rw [e]
    refine dP (by omega) (bE (dQ _ (O6 hn hr (.inl g) (c:=3) rfl (by simp) (by omega)) λv hv=>iV (dP hv.2 (bE (dQ (λ_=>True) (qI (λ_=>dR trivial) λ_=>dR trivial) λ_ _=>dR hv.1)))))
  · rw [e]
    refine dP (by omega) (bE (dQ _ (O6 (j:=j+4) hn hr b.at (c:=0) rfl (by simp) (by omega)) λv hv=>iV (dP hv.2 (bE (dQ (λ_=>True) (qI (λ_=>dR trivial) λ_=>dR trivial) λ_ _=>dR (by simpa using hv.1))))))
theorem aDY {x21:dB×Int} {x33:Int} {y11_2:List Int} {y5_1:Int} {y5_3:List aH} {y6_2:Int} {y75_1:Int} {y75_2:aI} {y75_3:List Int} {y7_2:Bool} {r:List UInt8} {j:Nat} (hr:SB r) (h:dF r j y75_2):Ex (λv=>dF r (j+1) v.1/\v.2.length=y75_3.length) (GR x21 x33 y11_2 y5_1 y5_3 y6_2 y75_1 y75_2 y75_3 y7_2).run:=by
  have a1:=iM hr h
  unfold GR;simp only [WT.run,gX]
  exact dQ (λv=>dF r (j+1) v.1/\v.2.length=y75_3.length) (dQ (λv=>dF r (j+1) v.1/\v.2.length=y75_3.length) (dP (h.len hr) (bE (bE (bE (dR ⟨a1.1,by simp⟩))))) λv hv=>dR hv) λv hv=>dR hv
theorem Q6 {n:Nat} {x21:dB×Int} {x216:Int} {x217:RS} {x219:List Int} {x33:Int} {y11_2:List Int} {y5_1:Int} {y5_3:List aH} {y6_2:Int} {y7_2:Bool} {r:List UInt8} {j:Nat} (hn:100<n) (hr:SB r) (h:At r j x217) {c:Nat} (hc:((x216.toNat:Nat):Int)=(c:Int)) (hl:x219.length=c) (hs:c<=60):Ex (λv=>dF r (j+1*c) v.1/\v.2.length=c) (K3 n x21 x216 x217 x219 x33 y11_2 y5_1 y5_3 y6_2 y7_2).run:=by
  unfold K3;simp only [WT.run,gX]
  refine dQ (λv=>dF r (j+1*c) v.1/\v.2.length=c) (pQ (m:=c) (λv=>v.1) (λv=>dF r (j+1*v.1.toNat) v.2.1/\v.2.2.length=c) ⟨by simp,by simp,by simpa using h,hl⟩ (by omega) λv h1 h2 h3=>?_) λv hv=>dR hv
  obtain ⟨i,y,l⟩:=v
  simp only at h1 h2 h3
  simp only [p2]
  refine bE (mX (λhk=>pR h1 (by omega) λx hx=>dQ _ (aDY hr h3.1) λw hw=>dP hw.2 (nP (pK ⟨by omega,rfl,?_,hw.2.trans h3.2⟩))) λhk=>oZ (dR ⟨?_,h3.2⟩))
  · rw [show j+1*(i+1).toNat=j+1*i.toNat+1 by omega];exact hw.1
  · rw [show j+1*c=j+1*i.toNat by omega];exact h3.1
theorem aDS {n:Nat} {x21:dB×Int} {x33:Int} {y11_1:aI} {y11_2:List Int} {y5_1:Int} {y5_3:List aH} {y6_2:Int} {y7_2:Bool} {r:List UInt8} {j:Nat} (hn:100<n) (hr:SB r) (h:dF r j y11_1) (hv:∀ c,r[j]?=some c->val c=3):Ex (λv=>dF r (j+4) v.1) (JP n x21 x33 y11_1 y11_2 y5_1 y5_3 y6_2 y7_2).run:=by
  obtain ⟨h1,h2⟩:=oI (most:=5) hr h hv (by omega)
  unfold JP;simp only [WT.run,gX]
  refine dP (h.len hr) (bE (bE ?_))
  rcases h2 with ⟨e,g⟩ | ⟨e,b⟩
  · rw [e]
    refine dP (by omega) (bE (dQ _ (Q6 hn hr (.inl g) (c:=3) rfl (by simp) (by omega)) λv hv=>iV (dP hv.2 (bE (dQ (λ_=>True) (qI (λ_=>dR trivial) λ_=>dR trivial) λ_ _=>dR hv.1)))))
  · rw [e]
    refine dP (by omega) (bE (dQ _ (Q6 (j:=j+4) hn hr b.at (c:=0) rfl (by simp) (by omega)) λv hv=>iV (dP hv.2 (bE (dQ (λ_=>True) (qI (λ_=>dR trivial) λ_=>dR trivial) λ_ _=>dR (by simpa using hv.1))))))
theorem aI5 {n:Nat} {a1:List UInt8} {x277:aT} {y84_1:Int} {y84_2:aI} {y84_3:List aT} {r:List UInt8} {j:Nat} (hn:100<n) (hr:SB r) (h:dF r j y84_2) (hv:∀ c,r[j]?=some c->val c=0):Ex (λv=>dF r (j+1) v.1) (F7 n a1 x277 y84_1 y84_2 y84_3).run:=by
  obtain ⟨h1,h2⟩:=oI (most:=30) hr h hv (by omega)
  have e:iA (y84_2.s,y84_2.bad) 30=0:=by rcases h2 with h2 | h2 <;> exact h2.1
  obtain ⟨n,rfl⟩:∃ m,n=m+1:=⟨n-1,by omega⟩
  unfold F7;simp only [WT.run,gX]
  refine dP (h.len hr) (bE (bE ?_))
  rw [e]
  exact dP (by omega) (bE (dQ (λv=>v=(⟨(gK (y84_2.s,y84_2.bad) 30).1,(gK (y84_2.s,y84_2.bad) 30).2⟩,[])) ⟨_,rfl,rfl⟩ λv hv=>by subst hv;exact ⟨_,rfl,h1⟩))
theorem aLN {a1:List UInt8} {x21:dB×Int} {x277:aT} {y14_1:Int} {y14_3:List aH} {y15_2:Int} {y16_2:Bool} {y84_1:Int} {y84_3:List aT} {y87_1:aI} {y87_2:List bQ} {r:List UInt8} {j:Nat} (hr:SB r) (h:dF r j y87_1):Ex (λv=>dF r (j+3) v.1/\v.2.length=y84_3.length) (JE a1 x21 x277 y14_1 y14_3 y15_2 y16_2 y84_1 y84_3 y87_1 y87_2).run:=by
  have a1:=iM hr h
  have a2:=iM hr a1.1
  have a3:=iM hr a2.1
  unfold JE;simp only [WT.run,gX]
  exact dQ (λv=>dF r (j+3) v.1/\v.2.length=y84_3.length) (dP (h.len hr) (bE (bE (bE (dP (a1.1.len hr) (bE (bE (bE (dP (a2.1.len hr) (bE (bE (bE (dR ⟨a3.1,by simp⟩))))))))))))) λv hv=>dR hv
theorem Z8 {n:Nat} {a1:List UInt8} {x21:dB×Int} {x277:aT} {y14_1:Int} {y14_3:List aH} {y15_2:Int} {y16_2:Bool} {y84_1:Int} {y84_2:aI} {y84_3:List aT} {r:List UInt8} {j:Nat} (hn:100<n) (hr:SB r) (h:dF r j y84_2) (hv:∀ c,r[j]?=some c->val c=0):Ex (λv=>dF r (j+4) v.1/\v.2.length=y84_3.length) (EP n a1 x21 x277 y14_1 y14_3 y15_2 y16_2 y84_1 y84_2 y84_3).run:=by
  unfold EP;simp only [WT.run,gX]
  exact dQ _ (aI5 hn hr h hv) λv h1=>iV (dQ _ (aLN hr h1) λw hw=>dR hw)
theorem aJM {n:Nat} {a1:List UInt8} {x21:dB×Int} {x252:Int} {x254:List aT} {y14_1:Int} {y14_3:List aH} {y15_2:Int} {y16_1:aI} {y16_2:Bool} {r:List UInt8} {j:Nat} (hn:100<n) (hr:SB r) (h:dF r j y16_1) {c:Nat} (hc:((x252.toNat:Nat):Int)=(c:Int)) (hl:x254.length=c) (hs:c<=60) (hv:∀ i,i<c->∀ d,r[j+4*i]?=some d->val d=0):Ex (λv=>dF r (j+4*c) v.1/\v.2.length=c) (KV n a1 x21 x252 x254 y14_1 y14_3 y15_2 y16_1 y16_2).run:=by
  unfold KV;simp only [WT.run,gX]
  refine dQ (λv=>dF r (j+4*c) v.1/\v.2.length=c) (pQ (m:=c) (λv=>v.1) (λv=>dF r (j+4*v.1.toNat) v.2.1/\v.2.2.length=c) ⟨by simp,by simp,by simpa using h,hl⟩ (by omega) λv h1 h2 h3=>?_) λv hv=>dR hv
  obtain ⟨i,y,l⟩:=v
  simp only at h1 h2 h3
  simp only [p2]
  refine bE (mX (λhk=>pR h1 (by omega) λx hx=>dQ _ (Z8 hn hr h3.1 (hv i.toNat (by omega))) λw hw=>dP hw.2 (nP (pK ⟨by omega,rfl,?_,hw.2.trans h3.2⟩))) λhk=>oZ (dR ⟨?_,h3.2⟩))
  · rw [show j+4*(i+1).toNat=j+4*i.toNat+4 by omega];exact hw.1
  · rw [show j+4*c=j+4*i.toNat by omega];exact h3.1
theorem aBR {x21:dB×Int} {x252:Int} {y14_1:Int} {y14_3:List aH} {y15_2:Int} {y16_2:Bool} {y95_1:Int} {y95_2:aI} {y95_3:List Int} {r:List UInt8} {j:Nat} (hr:SB r) (h:dF r j y95_2):Ex (λv=>dF r (j+1) v.1/\v.2.length=y95_3.length) (F5 x21 x252 y14_1 y14_3 y15_2 y16_2 y95_1 y95_2 y95_3).run:=by
  have a1:=iM hr h
  unfold F5;simp only [WT.run,gX]
  exact dQ (λv=>dF r (j+1) v.1/\v.2.length=y95_3.length) (dQ (λv=>dF r (j+1) v.1/\v.2.length=y95_3.length) (dP (h.len hr) (bE (bE (bE (dR ⟨a1.1,by simp⟩))))) λv hv=>dR hv) λv hv=>dR hv
theorem aFH {n:Nat} {x21:dB×Int} {x252:Int} {x257:List Int} {y14_1:Int} {y14_3:List aH} {y15_2:Int} {y16_2:Bool} {y17_1:aI} {r:List UInt8} {j:Nat} (hn:100<n) (hr:SB r) (h:dF r j y17_1) {c:Nat} (hc:((Int.toNat 17:Nat):Int)=(c:Int)) (hl:x257.length=c) (hs:c<=60):Ex (λv=>dF r (j+1*c) v.1/\v.2.length=c) (KF n x21 x252 x257 y14_1 y14_3 y15_2 y16_2 y17_1).run:=by
  unfold KF;simp only [WT.run,gX]
  refine dQ (λv=>dF r (j+1*c) v.1/\v.2.length=c) (pQ (m:=c) (λv=>v.1) (λv=>dF r (j+1*v.1.toNat) v.2.1/\v.2.2.length=c) ⟨by simp,by simp,by simpa using h,hl⟩ (by omega) λv h1 h2 h3=>?_) λv hv=>dR hv
  obtain ⟨i,y,l⟩:=v
  simp only at h1 h2 h3
  simp only [p2]
  refine bE (mX (λhk=>pR h1 (by omega) λx hx=>dQ _ (aBR hr h3.1) λw hw=>dP hw.2 (nP (pK ⟨by omega,rfl,?_,hw.2.trans h3.2⟩))) λhk=>oZ (dR ⟨?_,h3.2⟩))
  · rw [show j+1*(i+1).toNat=j+1*i.toNat+1 by omega];exact hw.1
  · rw [show j+1*c=j+1*i.toNat by omega];exact h3.1
theorem aDB {x252:Int} {x339:bA} {y101_1:Int} {y101_2:aI} {y101_3:List bA} {y14_1:Int} {y14_3:List aH} {y15_2:Int} {y16_2:Bool} {r:List UInt8} {j:Nat} (hr:SB r) (h:dF r j y101_2):Ex (λv=>dF r (j+11) v.1/\v.2.length=y101_3.length) (J6 x252 x339 y101_1 y101_2 y101_3 y14_1 y14_3 y15_2 y16_2).run:=by
  have a1:=iM hr h
  have a2:=iM hr a1.1
  have a3:=iM hr a2.1
  have a4:=iM hr a3.1
  have a5:=iM hr a4.1
  have a6:=iM hr a5.1
  have a7:=iM hr a6.1
  have a8:=iM hr a7.1
  have a9:=iM hr a8.1
  have nQ:=iM hr a9.1
  have oK:=iM hr nQ.1
  unfold J6;simp only [WT.run,gX]
  exact dQ (λv=>dF r (j+11) v.1/\v.2.length=y101_3.length) (dP (h.len hr) (bE (bE (bE (dP (a1.1.len hr) (bE (bE (bE (dP (a2.1.len hr) (bE (bE (bE (dP (a3.1.len hr) (bE (bE (bE (dP (a4.1.len hr) (bE (bE (bE (dP (a5.1.len hr) (bE (bE (bE (dP (a6.1.len hr) (bE (bE (bE (dP (a7.1.len hr) (bE (bE (bE (dP (a8.1.len hr) (bE (bE (bE (dP (a9.1.len hr) (bE (bE (bE (dP (nQ.1.len hr) (bE (bE (bE (dR ⟨oK.1,by simp⟩))))))))))))))))))))))))))))))))))))))))))))) λv hv=>dR hv
theorem aHS {x252:Int} {x339:bA} {y101_1:Int} {y101_2:aI} {y101_3:List bA} {y14_1:Int} {y14_3:List aH} {y15_2:Int} {y16_2:Bool} {r:List UInt8} {j:Nat} (hr:SB r) (h:dF r j y101_2):Ex (λv=>dF r (j+11) v.1/\v.2.length=y101_3.length) (ID x252 x339 y101_1 y101_2 y101_3 y14_1 y14_3 y15_2 y16_2).run:=by
  unfold ID;simp only [WT.run,gX]
  exact dQ _ (aDB hr h) λw hw=>dR hw
theorem aG8 {n:Nat} {x21:dB×Int} {x252:Int} {x260:List bA} {y14_1:Int} {y14_3:List aH} {y15_2:Int} {y16_2:Bool} {y18_1:aI} {r:List UInt8} {j:Nat} (hn:100<n) (hr:SB r) (h:dF r j y18_1) {c:Nat} (hc:((Int.toNat (x21.1.bC.length:Int):Nat):Int)=(c:Int)) (hl:x260.length=c) (hs:c<=60):Ex (λv=>dF r (j+11*c) v.1/\v.2.length=c) (HY n x21 x252 x260 y14_1 y14_3 y15_2 y16_2 y18_1).run:=by
  unfold HY;simp only [WT.run,gX]
  refine dQ (λv=>dF r (j+11*c) v.1/\v.2.length=c) (pQ (m:=c) (λv=>v.1) (λv=>dF r (j+11*v.1.toNat) v.2.1/\v.2.2.length=c) ⟨by simp,by simp,by simpa using h,hl⟩ (by omega) λv h1 h2 h3=>?_) λv hv=>dR hv
  obtain ⟨i,y,l⟩:=v
  simp only at h1 h2 h3
  simp only [p2]
  refine bE (mX (λhk=>pR h1 (by omega) λx hx=>dQ _ (aHS hr h3.1) λw hw=>dP hw.2 (nP (pK ⟨by omega,rfl,?_,hw.2.trans h3.2⟩))) λhk=>oZ (dR ⟨?_,h3.2⟩))
  · rw [show j+11*(i+1).toNat=j+11*i.toNat+11 by omega];exact hw.1
  · rw [show j+11*c=j+11*i.toNat by omega];exact h3.1
theorem aDN {x21:dB×Int} {x252:Int} {y108_1:Int} {y108_2:aI} {y108_3:List Int} {y14_1:Int} {y14_3:List aH} {y15_2:Int} {y16_2:Bool} {r:List UInt8} {j:Nat} (hr:SB r) (h:dF r j y108_2):Ex (λv=>dF r (j+1) v.1/\v.2.length=y108_3.length) (GJ x21 x252 y108_1 y108_2 y108_3 y14_1 y14_3 y15_2 y16_2).run:=by
  have a1:=iM hr h
  unfold GJ;simp only [WT.run,gX]
  exact dQ (λv=>dF r (j+1) v.1/\v.2.length=y108_3.length) (dQ (λv=>dF r (j+1) v.1/\v.2.length=y108_3.length) (dP (h.len hr) (bE (bE (bE (dR ⟨a1.1,by simp⟩))))) λv hv=>dR hv) λv hv=>dR hv
theorem UW {n:Nat} {x21:dB×Int} {x252:Int} {x407:Int} {x408:RS} {x410:List Int} {y14_1:Int} {y14_3:List aH} {y15_2:Int} {y16_2:Bool} {r:List UInt8} {j:Nat} (hn:100<n) (hr:SB r) (h:At r j x408) {c:Nat} (hc:((x407.toNat:Nat):Int)=(c:Int)) (hl:x410.length=c) (hs:c<=60):Ex (λv=>dF r (j+1*c) v.1/\v.2.length=c) (IZ n x21 x252 x407 x408 x410 y14_1 y14_3 y15_2 y16_2).run:=by
  unfold IZ;simp only [WT.run,gX]
  refine dQ (λv=>dF r (j+1*c) v.1/\v.2.length=c) (pQ (m:=c) (λv=>v.1) (λv=>dF r (j+1*v.1.toNat) v.2.1/\v.2.2.length=c) ⟨by simp,by simp,by simpa using h,hl⟩ (by omega) λv h1 h2 h3=>?_) λv hv=>dR hv
  obtain ⟨i,y,l⟩:=v
  simp only at h1 h2 h3
  simp only [p2]
  refine bE (mX (λhk=>pR h1 (by omega) λx hx=>dQ _ (aDN hr h3.1) λw hw=>dP hw.2 (nP (pK ⟨by omega,rfl,?_,hw.2.trans h3.2⟩))) λhk=>oZ (dR ⟨?_,h3.2⟩))
  · rw [show j+1*(i+1).toNat=j+1*i.toNat+1 by omega];exact hw.1
  · rw [show j+1*c=j+1*i.toNat by omega];exact h3.1
theorem aIZ {n:Nat} {x21:dB×Int} {x252:Int} {y14_1:Int} {y14_3:List aH} {y15_2:Int} {y16_2:Bool} {y19_1:aI} {r:List UInt8} {j:Nat} (hn:100<n) (hr:SB r) (h:dF r j y19_1) (hv:∀ c,r[j]?=some c->val c=3):Ex (λv=>dF r (j+4) v.1) (ET n x21 x252 y14_1 y14_3 y15_2 y16_2 y19_1).run:=by
  obtain ⟨h1,h2⟩:=oI (most:=5) hr h hv (by omega)
  unfold ET;simp only [WT.run,gX]
  refine dP (h.len hr) (bE (bE ?_))
  rcases h2 with ⟨e,g⟩ | ⟨e,b⟩
  · rw [e]
    refine dP (by omega) (bE (dQ _ (UW hn hr (.inl g) (c:=3) rfl (by simp) (by omega)) λv hv=>iV (dP hv.2 (bE (dQ (λ_=>True) (qI (λ_=>dR trivial) λ_=>dR trivial) λ_ _=>dR hv.1)))))
  · rw [e]
    refine dP (by omega) (bE (dQ _ (UW (j:=j+4) hn hr b.at (c:=0) rfl (by simp) (by omega)) λv hv=>iV (dP hv.2 (bE (dQ (λ_=>True) (qI (λ_=>dR trivial) λ_=>dR trivial) λ_ _=>dR (by simpa using hv.1))))))
theorem aHA {x21:dB×Int} {x252:Int} {y116_1:Int} {y116_2:aI} {y116_3:List Int} {y14_1:Int} {y14_3:List aH} {y15_2:Int} {y16_2:Bool} {y20_2:List Int} {r:List UInt8} {j:Nat} (hr:SB r) (h:dF r j y116_2):Ex (λv=>dF r (j+1) v.1/\v.2.length=y116_3.length) (FM x21 x252 y116_1 y116_2 y116_3 y14_1 y14_3 y15_2 y16_2 y20_2).run:=by
  have a1:=iM hr h
  unfold FM;simp only [WT.run,gX]
  exact dQ (λv=>dF r (j+1) v.1/\v.2.length=y116_3.length) (dQ (λv=>dF r (j+1) v.1/\v.2.length=y116_3.length) (dP (h.len hr) (bE (bE (bE (dR ⟨a1.1,by simp⟩))))) λv hv=>dR hv) λv hv=>dR hv
theorem UR {n:Nat} {x21:dB×Int} {x252:Int} {x435:Int} {x436:RS} {x438:List Int} {y14_1:Int} {y14_3:List aH} {y15_2:Int} {y16_2:Bool} {y20_2:List Int} {r:List UInt8} {j:Nat} (hn:100<n) (hr:SB r) (h:At r j x436) {c:Nat} (hc:((x435.toNat:Nat):Int)=(c:Int)) (hl:x438.length=c) (hs:c<=60):Ex (λv=>dF r (j+1*c) v.1/\v.2.length=c) (K6 n x21 x252 x435 x436 x438 y14_1 y14_3 y15_2 y16_2 y20_2).run:=by
  unfold K6;simp only [WT.run,gX]
  refine dQ (λv=>dF r (j+1*c) v.1/\v.2.length=c) (pQ (m:=c) (λv=>v.1) (λv=>dF r (j+1*v.1.toNat) v.2.1/\v.2.2.length=c) ⟨by simp,by simp,by simpa using h,hl⟩ (by omega) λv h1 h2 h3=>?_) λv hv=>dR hv
  obtain ⟨i,y,l⟩:=v
  simp only at h1 h2 h3
  simp only [p2]
  refine bE (mX (λhk=>pR h1 (by omega) λx hx=>dQ _ (aHA hr h3.1) λw hw=>dP hw.2 (nP (pK ⟨by omega,rfl,?_,hw.2.trans h3.2⟩))) λhk=>oZ (dR ⟨?_,h3.2⟩))
  · rw [show j+1*(i+1).toNat=j+1*i.toNat+1 by omega];exact hw.1
  · rw [show j+1*c=j+1*i.toNat by omega];exact h3.1
theorem aJJ {n:Nat} {x21:dB×Int} {x252:Int} {y14_1:Int} {y14_3:List aH} {y15_2:Int} {y16_2:Bool} {y20_1:aI} {y20_2:List Int} {r:List UInt8} {j:Nat} (hn:100<n) (hr:SB r) (h:dF r j y20_1) (hv:∀ c,r[j]?=some c->val c=3):Ex (λv=>dF r (j+4) v.1) (I4 n x21 x252 y14_1 y14_3 y15_2 y16_2 y20_1 y20_2).run:=by
  obtain ⟨h1,h2⟩:=oI (most:=5) hr h hv (by omega)
  unfold I4;simp only [WT.run,gX]
  refine dP (h.len hr) (bE (bE ?_))
  rcases h2 with ⟨e,g⟩ | ⟨e,b⟩
  · rw [e]
    refine dP (by omega) (bE (dQ _ (UR hn hr (.inl g) (c:=3) rfl (by simp) (by omega)) λv hv=>iV (dP hv.2 (bE (dQ (λ_=>True) (qI (λ_=>dR trivial) λ_=>dR trivial) λ_ _=>dR hv.1)))))
  · rw [e]
    refine dP (by omega) (bE (dQ _ (UR (j:=j+4) hn hr b.at (c:=0) rfl (by simp) (by omega)) λv hv=>iV (dP hv.2 (bE (dQ (λ_=>True) (qI (λ_=>dR trivial) λ_=>dR trivial) λ_ _=>dR (by simpa using hv.1))))))
end Go.Pv
