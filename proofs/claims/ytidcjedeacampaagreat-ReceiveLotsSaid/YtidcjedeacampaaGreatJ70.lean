import Derived.Test.YtidcjedeacampaaGreatPB80
import Derived.Test.YtidcjedeacampaaGreatQA80
import Derived.Test.YtidcjedeacampaaGreatE70
set_option linter.unusedVariables false
set_option linter.unusedSimpArgs false
namespace Go.Pv
open Go.Proofs
set_option maxRecDepth 1000000
set_option maxHeartbeats 1000000
theorem aFX {c:Int} (hc:0<=c/\c<=1073741824):M7 c=some true:=by
  unfold M7 VK
  simp only [WT.run,bT]
  exact bZ (a:=true) (fD hc.1 (eY (fD hc.2 rfl))) rfl
theorem pOf {n:Nat} {c q:Int} (hn:66<n) (hc:0<=c/\c<=1073741824) (h1:1<=q) (h2:q<=9223372036854775807):MM n c q=some ((md q c 1).1,(md q c 1).2.2):=by
  unfold MM aA9
  simp only [WT.run,bT]
  have e:(if 0>q then 0 else q)=q:=if_neg (by omega)
  rw [e]
  exact bZ (aQH hn (by omega) (by omega) (by omega)) rfl
noncomputable def f12 (l:List aF) (x:aF) (c:Int):List aF×Int×Int :=
  if x.aT<1\/x.Value<0 then (l,0,1) else if (md x.aT c 1).2.2≠0\/x.Value>288230376151711744 then (l,0,2)
  else if (f10 l ⟨x.aT,(md x.aT c 1).1,x.bO⟩).2≠0 then (l,0,(f10 l ⟨x.aT,(md x.aT c 1).1,x.bO⟩).2) else ((f10 l ⟨x.aT,(md x.aT c 1).1,x.bO⟩).1,x.Value-(md x.aT c 1).1,0)
theorem aHL {a v:Int}:Ex (λb=>b=true↔(a≠0\/v>288230376151711744)) (bnd (!decide (a=0)) λx=>cond x (some true) (bnd (decide (v>288230376151711744)) λy=>some y)):=by
  refine aD (fJ (λk=>aG ⟨λ_=>.inl (by simpa using k),λ_=>rfl⟩) λk=>aD (aG ⟨λq=>.inr (of_decide_eq_true q),λq=>?_⟩))
  have k:a=0:=by simpa using k
  exact decide_eq_true (q.resolve_left λz=>z k)
theorem r12 {l:List aF} {x:aF} {c:Int} {n:Nat} (hn:66<n) (hl:LR l) (hc:0<=c/\c<=1073741824) (hx:x.aT<=9223372036854775807):AP n l x c=some (f12 l x c):=by
  have hm:=zW x.aT c 1
  refine gF ?_
  unfold AP P8 f12
  simp only [WT.run,bT]
  repeat' with_reducible first | refine bG ?_ | refine dZ ?_ | apply aD | apply bK | apply dY | apply dN | apply eB | apply d9 | apply dV | apply dQ | apply dW | apply dU | refine aQ (λ_=>?_) λ_=>?_ | refine dK (λ_=>?_) λ_=>?_ | apply dF | apply bU | apply dA | apply bL | apply aG
  all_goals try (exfalso;omega)
  all_goals try (rw [if_pos (by omega)])
  rw [if_neg (by omega)]
  refine x_eq (L9 hn (by omega) (by omega)) (aW _ aHL λb hb=>fJ (λk=>aG (by rw [if_pos (hb.1 k)])) λk=>?_)
  have hb:¬ ((md x.aT c 1).2.2≠0\/x.Value>288230376151711744):=λq=>by rw [hb.2 q] at k;cases k
  rw [if_neg hb]
  refine x_eq (zP hn hl) (aD (aQ (λk=>aG ?_) λk=>lI (by simp only;omega) (aG ?_)))
  · rw [if_pos k]
  · rw [if_neg k]
theorem wN {l:List aF} {x:aF} {c:Int} {n:Nat} (hn:66<n) (hl:LR l) (h1:l.length<=1) (hc:0<=c/\c<=1073741824) (hx:x.aT<=9223372036854775807):MR n l x c=some (f12 l x c):=by
  have hm:=zW x.aT c 1
  refine gF ?_
  unfold MR YH f12
  simp only [WT.run,bT]
  refine dO ?_
  refine aW (λb=>b=true↔(x.aT<1\/x.Value<0)) (x_eq (aFX hc) (aD (bU (aD (aQ (λk=>aG ⟨λ_=>.inl k,λ_=>rfl⟩) λk=>aD (aG ⟨λq=>.inr (of_decide_eq_true q),λq=>decide_eq_true (q.resolve_left k)⟩)))))) λb hb=>fJ (λk=>aG (by rw [if_pos (hb.1 k)])) λk=>?_
  have hb:¬ (x.aT<1\/x.Value<0):=λq=>by rw [hb.2 q] at k;cases k
  rw [if_neg hb]
  refine x_eq (pOf hn hc (by omega) hx) ?_
  refine aW (λb=>b=true↔((md x.aT c 1).2.2≠0\/x.Value>288230376151711744)) (aD (aQ (λk=>aG ⟨λ_=>.inl k,λ_=>rfl⟩) λk=>aD (aG ⟨λq=>.inr (of_decide_eq_true q),λq=>decide_eq_true (q.resolve_left k)⟩))) λb hb2=>fJ (λk=>aG (by rw [if_pos (hb2.1 k)])) λk=>?_
  have hb2:¬ ((md x.aT c 1).2.2≠0\/x.Value>288230376151711744):=λq=>by rw [hb2.2 q] at k;cases k
  rw [if_neg hb2]
  refine bG ?_
  refine x_eq (wB hn hl (by omega)) (aD (aQ (λk=>aG ?_) λk=>aG ?_))
  · rw [if_pos k]
  · rw [if_neg k]
theorem aJG {l:List aF} {x:aF} (h:(f10 l x).2≠0):(f10 l x).1=l:=by
  unfold f10 at h ⊢
  split
  · rfl
  · split
    · rename_i a b;rw [if_neg a,if_pos b] at h;exact absurd rfl h
    · rfl
noncomputable def g13 (m c:Int) (p:aS) (x:aF):aS×Int×Int :=
  if m=1 then (⟨(f9 p.aI x).1,p.bC⟩,0,(f9 p.aI x).2) else if m=4 then (⟨(f12 p.aI x c).1,p.bC⟩,(f12 p.aI x c).2.1,(f12 p.aI x c).2.2) else (⟨(f10 p.aI x).1,p.bC⟩,0,(f10 p.aI x).2)
noncomputable def f13 (m c:Int) (p:aS) (x:aF):aS×Int×Int:=if (g13 m c p x).2.2≠0 then (p,0,(g13 m c p x).2.2) else ((g13 m c p x).1,(g13 m c p x).2.1,0)
theorem r11 {p:aS} {x:aF} {n:Nat} (hn:66<n) (hl:LR p.aI):CK n p x=some (⟨(f10 p.aI x).1,p.bC⟩,(f10 p.aI x).2):=by
  refine gF ?_
  unfold CK SQ
  simp only [WT.run,bT]
  refine x_eq (zP hn hl) (aD (aQ (λk=>aG ?_) λk=>aG ?_))
  · rw [aJG k]
  · rw [Classical.not_not.1 k]
theorem p11 {p:aS} {x:aF} {n:Nat} (hn:66<n) (hl:LR p.aI) (h1:p.aI.length<=1):IM n p x=some (⟨(f10 p.aI x).1,p.bC⟩,(f10 p.aI x).2):=by
  refine gF ?_
  unfold IM aCF
  simp only [WT.run,bT]
  have h2:(f10 p.aI x).1.length<=1:=by
    unfold f10
    split
    · exact h1
    · split
      · exact Nat.le_refl _
      · exact h1
  refine x_eq (wB hn hl (by omega)) (aW (λr=>r=⟨(f10 p.aI x).1,p.bC⟩) ?_ λr hr=>aG (by rw [hr]))
  unfold QU UK
  simp only [WT.run,bT]
  exact dO (aG rfl)
theorem aAU {m:Int} {p:aS} (h:PR m p):m=1\/m=2\/m=3\/m=4:=by have:=h.mt;omega
theorem r13 {m c:Int} {p:aS} {x:aF} {n:Nat} (hn:66<n) (h:PR m p) (hc:0<=c/\c<=1073741824) (hx:x.aT<=9223372036854775807):C9 n m c p x=some (f13 m c p x):=by
  refine gF ?_
  unfold C9 SF f13
  simp only [WT.run,bT]
  refine aW (λ(r:Int×Int×aS)=>r=((g13 m c p x).2.1,(g13 m c p x).2.2,(g13 m c p x).1)) ?_ λr hr=>?_
  · unfold g13
    rcases aAU h with rfl | rfl | rfl | rfl
    · exact aD (aQ (λ_=>x_eq (r9 hn h.ly) (aG rfl)) λk=>absurd rfl k)
    · exact aD (aQ (λk=>absurd k (by decide)) λ_=>aD (aQ (λ_=>x_eq (zP hn h.ly) (aG rfl)) λk=>absurd rfl k))
    · exact aD (aQ (λk=>absurd k (by decide)) λ_=>aD (aQ (λk=>absurd k (by decide)) λ_=>aD (aQ (λ_=>x_eq (r11 hn h.ly) (aG rfl)) λk=>absurd rfl k)))
    · exact aD (aQ (λk=>absurd k (by decide)) λ_=>aD (aQ (λk=>absurd k (by decide)) λ_=>aD (aQ (λk=>absurd k (by decide)) λ_=>aD (aQ (λ_=>x_eq (r12 hn h.ly hc hx) (aG rfl)) λk=>absurd rfl k))))
  · subst hr
    refine bK (bK (aD (aQ (λk=>aG ?_) λk=>aG ?_)))
    · rw [if_pos k]
    · rw [if_neg k]
theorem aS8 {p:aS} (h:p.aI.length<=1000):yC p=some p:=by
  refine gF ?_
  unfold yC XD
  simp only [WT.run,bT]
  exact dO (aW (λ_=>True) (aG trivial) λ_ _=>aG rfl)
theorem IJ (p:aS) (l:List aF):GB p l=some ⟨l,p.bC⟩:=rfl
theorem AA {m c:Int} {p:aS} {x:aF} {n:Nat} (hn:66<n) (h:PR m p) (hc:0<=c/\c<=1073741824) (hx:x.aT<=9223372036854775807):D5 n m c p x=some (f13 m c p x):=by
  have hl:=nI h.ly
  refine gF ?_
  unfold D5 f13 g13
  have ho:=aS8 (p:=p) (by omega)
  rcases aAU h with rfl | rfl | rfl | rfl
  · simp only [p9 hn h.ly,IJ,ho,Option.bind_some,bnd,decide_true,cond_true,qG,Sum.elim_inl,Sum.elim_inr,p2,if_true]
    refine aQ (λk=>aG ?_) λk=>aG ?_
    · rw [if_pos k]
    · rw [if_neg k]
  · have h1:=h.one (by decide)
    simp only [wB hn h.ly (by omega),IJ,ho,Option.bind_some,bnd,decide_true,cond_true,cond_false,qG,p2,if_true,if_false,Sum.elim_inl,Sum.elim_inr,show decide ((2:Int)=1)=false from rfl,show ((2:Int)=1)=False from by simp,show ((2:Int)=4)=False from by simp]
    refine aQ (λk=>aG ?_) λk=>aG ?_
    · rw [if_pos k]
    · rw [if_neg k]
  · have h1:=h.one (by decide)
    simp only [p11 hn h.ly h1,IJ,ho,Option.bind_some,bnd,decide_true,cond_true,cond_false,qG,p2,if_true,if_false,Sum.elim_inl,Sum.elim_inr,show decide ((3:Int)=1)=false from rfl,show decide ((3:Int)=2)=false from rfl,show ((3:Int)=1)=False from by simp,show ((3:Int)=4)=False from by simp]
    refine aQ (λk=>aG ?_) λk=>aG ?_
    · rw [if_pos k]
    · rw [if_neg k]
  · have h1:=h.one (by decide)
    simp only [wN hn h.ly h1 hc hx,IJ,ho,Option.bind_some,bnd,decide_true,cond_true,cond_false,qG,p2,if_true,if_false,Sum.elim_inl,Sum.elim_inr,show decide ((4:Int)=1)=false from rfl,show decide ((4:Int)=2)=false from rfl,show decide ((4:Int)=3)=false from rfl,show ((4:Int)=1)=False from by simp]
    refine aQ (λk=>aG ?_) λk=>aG ?_
    · rw [if_pos k]
    · rw [if_neg k]
theorem mE {α:Type} {l:List α} {k j:Nat} {b:α} (hk:k<l.length):(l.set k b)[j]?=if k=j then some b else l[j]?:=by
  rw [List.getElem?_set];by_cases h:k=j
  · rw [if_pos h,if_pos hk,if_pos h]
  · rw [if_neg h,if_neg h]
theorem PR.io {m:Int} {p q:aS} (h:IO m p q):PR m p/\PR m q:=⟨h.pp,h.qq⟩
theorem IO.symm {m:Int} {p q:aS} (h:IO m p q):IO m q p:=⟨h.qq,h.pp,by have:=h.sq;omega,by have:=h.ss;omega⟩
theorem ES.at {n:Nat} {bH:List Int} {iZ:Int} {x:aP} (h:ES n bH iZ x) {i c:Nat} (hi:i<n) (hc:c<2):∃ m p q,bH[i]?=some m/\x.bR[2*i+c]?=some p/\x.bR[2*i+(1-c)]?=some q/\IO m p q:=by
  have h1:i<bH.length:=by rw [h.lm];exact hi
  have h2:2*i<x.bR.length:=by rw [h.lp];omega
  have h3:2*i+1<x.bR.length:=by rw [h.lp];omega
  have e1:=List.getElem?_eq_getElem h1
  have e2:=List.getElem?_eq_getElem h2
  have e3:=List.getElem?_eq_getElem h3
  have hio:=h.BV i _ _ _ e1 e2 e3
  rcases (by omega:c=0\/c=1) with rfl | rfl
  · exact ⟨_,_,_,e1,e2,e3,hio⟩
  · exact ⟨_,_,_,e1,e3,e2,hio.symm⟩
theorem ES.put {n:Nat} {bH:List Int} {iZ:Int} {x:aP} (h:ES n bH iZ x) {i c:Nat} (hi:i<n) (hc:c<2) {m:Int} {q p':aS} (hm:bH[i]?=some m) (hq:x.bR[2*i+(1-c)]?=some q) (hio:IO m p' q):ES n bH iZ { x with bR:=x.bR.set (2*i+c) p' }:=by
  have hk:2*i+c<x.bR.length:=by rw [h.lp];omega
  refine { h with lp:=by rw [List.length_set];exact h.lp,BV:=?_ }
  intro j m' a b hm' ha hb
  rw [mE hk] at ha hb
  by_cases hj:j=i
  · subst hj
    rw [hm] at hm';cases hm'
    rcases (by omega:c=0\/c=1) with rfl | rfl
    · rw [if_pos (by omega)] at ha;rw [if_neg (by omega)] at hb
      cases ha;rw [show 2*j+1=2*j+(1-0) by omega,hq] at hb;cases hb;exact hio
    · rw [if_neg (by omega)] at ha;rw [if_pos (by omega)] at hb
      cases hb;rw [show 2*j=2*j+(1-1) by omega,hq] at ha;cases ha;exact hio.symm
  · rw [if_neg (by omega)] at ha hb
    exact h.BV j m' a b hm' ha hb
theorem ES.JN {n:Nat} {bH:List Int} {iZ:Int} {x:aP} (h:ES n bH iZ x) {b:List Int} (h1:b.length=17) (h2:∀ y∈b,bN y):ES n bH iZ { x with dI:=b }:={ h with lb:=h1,gW:=h2 }
theorem ES.TN {n:Nat} {bH:List Int} {iZ:Int} {x:aP} (h:ES n bH iZ x) {i:Nat} {r:cB} (hr:y9 r):ES n bH iZ { x with dJ:=x.dJ.set i r }:={ h with lr:=by rw [List.length_set];exact h.lr,roll:=λy hy=>by rcases mem_set hy with rfl | hy;exact hr;exact h.roll y hy }
theorem ES.aNS {n:Nat} {bH:List Int} {iZ:Int} {x:aP} (h:ES n bH iZ x) {i:Nat} {r:Int} (hr:-1<=r/\r<=288230376151711744):ES n bH iZ { x with gJ:=x.gJ.set i r }:={ h with lc:=by rw [List.length_set];exact h.lc,pri:=λy hy=>by rcases mem_set hy with rfl | hy;exact hr;exact h.pri y hy }
theorem IB {l:List aS} {k:Nat} {a b:aS} (h:l[k]?=some a):sV (l.set k b)=sV l-tV a.aI+tV b.aI:=tT _ h
theorem Inv.bH {K:Int} {s:aB} (h:Inv K s) {e:Nat} (he:e<s.bA.length):∃ bH,s.bF.Methods[e]?=some bH/\bH.length=s.bF.bW.length/\∀ x∈bH,1<=x/\x<=4:=by
  have h1:=h.len;have h2:=h.kF.lm
  have h3:e<s.bF.Methods.length:=by omega
  have e1:=List.getElem?_eq_getElem h3
  exact ⟨_,e1,h.kF.met _ (fO e1)⟩
theorem Inv.cst {K:Int} {s:aB} (h:Inv K s) {e:Nat} (he:e<s.bA.length):∃ cs,s.bF.gX[e]?=some cs/\cs.length=s.bF.bW.length/\∀ x∈cs,0<=x/\x<=1073741824:=by
  have h1:=h.len;have h2:=h.kF.lc
  have h3:e<s.bF.gX.length:=by omega
  have e1:=List.getElem?_eq_getElem h3
  exact ⟨_,e1,h.kF.cos _ (fO e1)⟩
theorem Inv.up {K:Int} {s:aB} (h:Inv K s) {e:Nat} {x x':aP} {bH:List Int} (hx:s.bA[e]?=some x) (hm:s.bF.Methods[e]?=some bH) (ho:EI s.bF bH x') {R:List dX} {S:List fA} {T:List fP}
    (hR:∀ r∈R,zD s.bF r) (hS:∀ r∈S,qJ s.bF r) (hT:∀ r∈T,CE s.bF r) (l1:R.length<=40) (l2:S.length<=40) (l3:T.length<=40)
    (ha:eD (jO e) R-eD (jO e) s.bX=bl x 1-bl x' 1) (ha':∀ f,f≠e->eD (jO f) R=eD (jO f) s.bX)
    (hw:eD (iV e) T-eD (iV e) s.dH=bl x' 12-bl x 12) (hw':∀ f,f≠e->eD (iV f) T=eD (iV f) s.dH)
    (hg:lC x'=lC x):Inv K { s with bA:=s.bA.set e x',bX:=R,dS:=S,dH:=T }:=by
  have hk:e<s.bA.length:=(List.getElem?_eq_some_iff.1 hx).1
  refine { h with len:=by show ((s.bA.set e x').length:Int)=_;rw [List.length_set];exact h.len,nO:=hR,oD:=hS,oO:=hT,l1:=l1,l2:=l2,l3:=l3,ent:=?_,acc:=?_,way:=?_,zF:=?_ }
  · intro f y ms hy hms
    have hy:(s.bA.set e x')[f]?=some y:=hy
    rw [mE hk] at hy
    by_cases hf:e=f
    · subst hf;rw [if_pos rfl] at hy;cases hy
      have hms:s.bF.Methods[e]?=some ms:=hms
      rw [hm] at hms;cases hms;exact ho
    · rw [if_neg hf] at hy;exact h.ent f y ms hy hms
  · intro f y hy
    have hy:(s.bA.set e x')[f]?=some y:=hy
    show eD (jO f) R=_
    rw [mE hk] at hy
    by_cases hf:e=f
    · subst hf;rw [if_pos rfl] at hy;cases hy
      have:=h.acc e x hx;omega
    · rw [if_neg hf] at hy;rw [ha' f (Ne.symm hf)];exact h.acc f y hy
  · intro f y hy
    have hy:(s.bA.set e x')[f]?=some y:=hy
    show eD (iV f) T=_
    rw [mE hk] at hy
    by_cases hf:e=f
    · subst hf;rw [if_pos rfl] at hy;cases hy
      have:=h.way e x hx;omega
    · rw [if_neg hf] at hy;rw [hw' f (Ne.symm hf)];exact h.way f y hy
  · show eD lC (s.bA.set e x')=0
    rw [tT _ hx,hg];have:=h.zF;omega
theorem Inv.up2 {K:Int} {s:aB} (h:Inv K s) {e g:Nat} {x x' y y':aP} {bH mtg:List Int} (hne:e≠g) (hx:s.bA[e]?=some x) (hm:s.bF.Methods[e]?=some bH) (ho:EI s.bF bH x') (hy:s.bA[g]?=some y) (hmg:s.bF.Methods[g]?=some mtg) (hog:EI s.bF mtg y') {T:List fP}
    (hT:∀ r∈T,CE s.bF r) (l3:T.length<=40) (ha:bl x' 1=bl x 1) (hag:bl y' 1=bl y 1) (hw:bl x' 12=bl x 12) (hwg:eD (iV g) T-eD (iV g) s.dH=bl y' 12-bl y 12) (hw':∀ f,f≠g->eD (iV f) T=eD (iV f) s.dH)
    (hg:lC x'+lC y'=lC x+lC y):Inv K { s with bA:=(s.bA.set e x').set g y',dH:=T }:=by
  have hk:e<s.bA.length:=(List.getElem?_eq_some_iff.1 hx).1
  have hk2:g<(s.bA.set e x').length:=by rw [List.length_set];exact (List.getElem?_eq_some_iff.1 hy).1
  have hy2:(s.bA.set e x')[g]?=some y:=by rw [mE hk,if_neg hne];exact hy
  have cas:∀ {f:Nat} {z:aP},((s.bA.set e x').set g y')[f]?=some z->(f=g/\z=y')\/(f=e/\z=x')\/(f≠g/\f≠e/\s.bA[f]?=some z):=by
    intro f z hz
    rw [mE hk2] at hz
    by_cases h1:g=f
    · rw [if_pos h1] at hz;cases hz;exact .inl ⟨h1.symm,rfl⟩
    · rw [if_neg h1,mE hk] at hz
      by_cases h2:e=f
      · rw [if_pos h2] at hz;cases hz;exact .inr (.inl ⟨h2.symm,rfl⟩)
      · rw [if_neg h2] at hz;exact .inr (.inr ⟨Ne.symm h1,Ne.symm h2,hz⟩)
  refine { h with len:=by show (((s.bA.set e x').set g y').length:Int)=_;rw [List.length_set,List.length_set];exact h.len,oO:=hT,l3:=l3,ent:=?_,acc:=?_,way:=?_,zF:=?_ }
  · intro f z ms hz hms
    have hms:s.bF.Methods[f]?=some ms:=hms
    rcases cas hz with ⟨rfl,rfl⟩ | ⟨rfl,rfl⟩ | ⟨_,_,hz⟩
    · rw [hmg] at hms;cases hms;exact hog
    · rw [hm] at hms;cases hms;exact ho
    · exact h.ent f z ms hz hms
  · intro f z hz
    show eD (jO f) s.bX=_
    rcases cas hz with ⟨rfl,rfl⟩ | ⟨rfl,rfl⟩ | ⟨_,_,hz⟩
    · rw [hag];exact h.acc _ y hy
    · rw [ha];exact h.acc _ x hx
    · exact h.acc f z hz
  · intro f z hz
    show eD (iV f) T=_
    rcases cas hz with ⟨rfl,rfl⟩ | ⟨rfl,rfl⟩ | ⟨h1,_,hz⟩
    · have:=h.way _ y hy;omega
    · rw [hw,hw' f hne];exact h.way _ x hx
    · rw [hw' f h1];exact h.way f z hz
  · show eD lC ((s.bA.set e x').set g y')=0
    rw [tT _ hy2,tT _ hx];have:=h.zF;omega
set_option maxRecDepth 100000
theorem KE {l:List aF} {q:Int} {n:Nat} (hn:66<n) (hl:LR l) (hq:-9223372036854775808<=q/\q<=9223372036854775807) :
    Ex (λr=>(r.2.2=0/\1<=q/\r.2.1.aT=q/\uK l r.1 r.2.1)\/(r.2.2≠0/\r.1=l/\r.2.1=⟨0,0,0⟩/\(1<=q->tQ l<q))) (uX n l q):=by
  unfold uX ZD
  simp only [WT.run,bT]
  refine aW _ (Z6 hn hl hq) λr hr=>?_
  repeat' with_reducible first | refine bG ?_ | refine dZ ?_ | apply aD | apply bK | apply dY | apply dN | apply eB | apply d9 | apply dV | apply dQ | apply dW | apply dU | refine aQ (λ_=>?_) λ_=>?_ | refine dK (λ_=>?_) λ_=>?_ | apply dF | apply bU | apply dA | apply bL | apply aG
  exact hr
theorem CL {l m:List aF} {g:aF} (hl:LR l) (h:uK l m g):(0<=g.Value/\g.Value<=288230376151711744)/\(-288230376151711744<=g.bO/\g.bO<=288230376151711744)/\LR m/\tQ m+g.aT=tQ l/\tV m+g.Value=tV l/\tP m+g.bO=tP l/\tS m+ab g.bO<=tS l/\m.length<=l.length:=by
  obtain ⟨h1,h2,h3,h4,h5,h6,h7⟩:=h
  have a:=jA hl
  have b:=jA h1
  obtain ⟨c1,c2,c3⟩:=nY g.bO
  refine ⟨by omega,by omega,h1,h3,h4,h5,h6,h2⟩
theorem aS4 {l:List aF} {q c:Int} {n:Nat} (hn:66<n) (hl:LR l) (h1:l.length<=1) (hc:0<=c/\c<=1073741824) (hq:-9223372036854775808<=q/\q<=9223372036854775807) :
    Ex (λr=>(r.2.2=0/\1<=q/\r.2.1.aT=q/\uK l r.1 r.2.1)\/r.2.2≠0) (M6 n l q c):=by
  unfold M6 aCQ
  simp only [WT.run,bT]
  repeat' with_reducible first | refine bG ?_ | refine dZ ?_ | apply aD | apply bK | apply dY | apply dN | apply eB | apply d9 | apply dV | apply dQ | apply dW | apply dU | refine aQ (λ_=>?_) λ_=>?_ | refine dK (λ_=>?_) λ_=>?_ | apply dF | apply bU | apply dA | apply bL | apply aG
  all_goals try exact .inr (λk=>nomatch k)
  all_goals try (exfalso;omega)
  refine aW _ (KE hn hl hq) λr hr=>?_
  rcases hr with ⟨e1,e2,e3,e4⟩ | ⟨e1,e2⟩
  · repeat' with_reducible first | refine bG ?_ | refine dZ ?_ | apply aD | apply bK | apply dY | apply dN | apply eB | apply d9 | apply dV | apply dQ | apply dW | apply dU | refine aQ (λ_=>?_) λ_=>?_ | refine dK (λ_=>?_) λ_=>?_ | apply dF | apply bU | apply dA | apply bL | apply aG
    · omega
    · exact .inl ⟨e1,e2,e3,e4⟩
    · rename_i k1 k2 k3
      obtain ⟨t1,t2,t3,t4,t5,t6,t7,t8⟩:=CL hl e4
      have hb:=jA hl
      have hbm:=jA t3
      refine x_eq (CF hn hl) (x_eq (L9 hn (by omega) (by omega)) ?_)
      have hm:=zW q c 1
      refine aW (λ(b:Bool)=>b=false->(md q c 1).1<=tV l) ?_ λb hb2=>aW (λ(v:Int)=>0<=v/\v<=tV l) (fJ (λ_=>aG (by simp only;omega)) λk=>aG ⟨hm.1,hb2 k⟩) λv hv=>?_
      · repeat' with_reducible first | refine bG ?_ | refine dZ ?_ | apply aD | apply bK | apply dY | apply dN | apply eB | apply d9 | apply dV | apply dQ | apply dW | apply dU | refine aQ (λ_=>?_) λ_=>?_ | refine dK (λ_=>?_) λ_=>?_ | apply dF | apply bU | apply dA | apply bL | apply aG
        · exact λk=>nomatch k
        · rename_i k;intro k2
          have k2:=of_decide_eq_false k2
          (try simp only at *);omega
      · repeat' with_reducible first | refine bG ?_ | refine dZ ?_ | apply aD | apply bK | apply dY | apply dN | apply eB | apply d9 | apply dV | apply dQ | apply dW | apply dU | refine aQ (λ_=>?_) λ_=>?_ | refine dK (λ_=>?_) λ_=>?_ | apply dF | apply bU | apply dA | apply bL | apply aG
        refine Or.inl ⟨rfl,e2,e3,?_⟩
        show uK l [⟨tQ l-q,tV l-v,tP l-r.2.1.bO⟩] ⟨r.2.1.aT,v,r.2.1.bO⟩
        rw [e3] at t4
        have e5:tQ l-q=tQ r.1:=by omega
        have e6:tP l-r.2.1.bO=tP r.1:=by omega
        rw [e5,e6,e3]
        have k4:1<=r.1.length:=by omega
        refine ⟨WU (by omega) (by omega) (by unfold bN;omega),by simp;omega,by simp [tQ];omega,by simp [tV],by simp [tP];omega,?_,by simp only;omega⟩
        have:ab (tP r.1)<=tS r.1:=by unfold ab;split <;> omega
        simp only [tS];omega
  · repeat' with_reducible first | refine bG ?_ | refine dZ ?_ | apply aD | apply bK | apply dY | apply dN | apply eB | apply d9 | apply dV | apply dQ | apply dW | apply dU | refine aQ (λ_=>?_) λ_=>?_ | refine dK (λ_=>?_) λ_=>?_ | apply dF | apply bU | apply dA | apply bL | apply aG
    · exact .inr e1
    · omega
    · omega
theorem aNE {m q:Int} {p:aS} {n:Nat} (hn:66<n) (h:PR m p) (hq:-9223372036854775808<=q/\q<=9223372036854775807) :
    Ex (λr=>(r.2.2=0/\1<=q/\q<=tQ p.aI-p.bC.a0-p.bC.a1-p.bC.a2/\r.2.1.aT=q/\uK p.aI r.1.aI r.2.1/\r.1.bC=p.bC)\/r.2.2≠0) (IT n p q):=by
  unfold IT aBX
  simp only [WT.run,bT,R4 hn h,Option.bind_some]
  repeat' with_reducible first | refine bG ?_ | refine dZ ?_ | apply aD | apply bK | apply dY | apply dN | apply eB | apply d9 | apply dV | apply dQ | apply dW | apply dU | refine aQ (λ_=>?_) λ_=>?_ | refine dK (λ_=>?_) λ_=>?_ | apply dF | apply bU | apply dA | apply bL | apply aG
  all_goals try exact .inr (λk=>nomatch k)
  refine aW _ (KE hn h.ly hq) λr hr=>aG ?_
  rcases hr with ⟨e1,e2,e3,e4⟩ | ⟨e1,e2⟩
  · exact .inl ⟨e1,e2,by omega,e3,e4,rfl⟩
  · exact .inr e1
theorem aNJ {m k q:Int} {p:aS} {n:Nat} (hn:66<n) (h:PR m p) (hm:m=3) (hq:-9223372036854775808<=q/\q<=9223372036854775807) :
    Ex (λr=>(r.2=0/\PR m r.1/\r.1.aI=p.aI/\1<=q/\r.1.bC.a0+r.1.bC.a1+r.1.bC.a2=p.bC.a0+p.bC.a1+p.bC.a2+q)\/(r.2≠0/\r.1=p)) (EQ n p k q):=by
  have hl:=jA h.ly
  have h0:=h.p0;have h1:=h.p1;have h2:=h.p2;have h3:=h.sum
  unfold EQ
  simp only [R4 hn h,Option.bind_some]
  repeat' with_reducible first | refine bG ?_ | refine dZ ?_ | apply aD | apply bK | apply dY | apply dN | apply eB | apply d9 | apply dV | apply dQ | apply dW | apply dU | refine aQ (λ_=>?_) λ_=>?_ | refine dK (λ_=>?_) λ_=>?_ | apply dF | apply bU | apply dA | apply bL | apply aG | refine dO ?_
  all_goals try exact .inr ⟨(λk=>nomatch k),rfl⟩
  all_goals try (exfalso;omega)
  all_goals (refine .inl ⟨rfl,⟨h.mt,h.ly,h.one,by first | omega | (simp only;omega),by first | omega | (simp only;omega),by first | omega | (simp only;omega),by first | omega | (simp only;omega),λk=>absurd hm k⟩,rfl,by omega,by first | omega | (simp only;omega)⟩)
def Gone (m:Int) (p r:aS) (x:aF):Prop:=PR m r/\tQ r.aI+x.aT=tQ p.aI/\tV r.aI+x.Value=tV p.aI/\tP r.aI+x.bO=tP p.aI/\tS r.aI+ab x.bO<=tS p.aI/\(0<=x.Value/\x.Value<=288230376151711744)/\(-288230376151711744<=x.bO/\x.bO<=288230376151711744)
theorem IZ {m:Int} {p:aS} {l:List aF} {x:aF} (h:PR m p) (ht:uK p.aI l x) (hs:p.bC.a0+p.bC.a1+p.bC.a2+x.aT<=tQ p.aI):Gone m p ⟨l,p.bC⟩ x:=by
  obtain ⟨t1,t2,t3,t4,t5,t6,t7,t8⟩:=CL h.ly ht
  refine ⟨{ h with ly:=t3,one:=λk=>by have:=h.one k;show l.length<=1;omega,sum:=by show _<=tQ l;simp only;omega },t4,t5,t6,t7,t1,t2⟩
theorem aU2 {m c k q:Int} {p:aS} {n:Nat} (hn:66<n) (h:PR m p) (hc:0<=c/\c<=1073741824) (hq:-9223372036854775808<=q/\q<=9223372036854775807) :
    Ex (λr=>(r.2.2.2=0/\1<=q/\Gone m p r.1 r.2.1/\(r.2.2.1=false->r.2.1.aT=q)/\(r.2.2.1=true->r.2.1=⟨0,0,0⟩/\m=3/\k≠3))\/r.2.2.2≠0) (M8 n m c p k q):=by
  have hl:=jA h.ly
  have h0:=h.p0;have h1:=h.p1;have h2:=h.p2;have h3:=h.sum
  unfold M8 TV
  simp only [WT.run,bT]
  refine aW (λ_=>True) ?_ λb _=>fJ (λ_=>aG (.inr (λk=>nomatch k))) λ_=>?_
  · repeat' with_reducible first | refine bG ?_ | refine dZ ?_ | apply aD | apply bK | apply dY | apply dN | apply eB | apply d9 | apply dV | apply dQ | apply dW | apply dU | refine aQ (λ_=>?_) λ_=>?_ | refine dK (λ_=>?_) λ_=>?_ | apply dF | apply bU | apply dA | apply bL | apply aG
    all_goals trivial
  refine aW (λ(r:(Int×aS×aF)⊕(aS×aF×Bool×Int))=>match r with
    | .inl r=>r.1=0->1<=q/\Gone m p r.2.1 r.2.2/\r.2.2.aT=q
    | .inr r=>(r.2.2.2=0/\1<=q/\Gone m p r.1 r.2.1/\(r.2.2.1=false->r.2.1.aT=q)/\(r.2.2.1=true->r.2.1=⟨0,0,0⟩/\m=3/\k≠3))\/r.2.2.2≠0) ?_ λr hr=>?_
  · refine aD (aQ (λk1=>?_) λk1=>aD (aQ (λk2=>?_) λk2=>aD (aQ (λk3=>?_) λk3=>aD (aQ (λk4=>?_) λk4=>dD (λk=>nomatch k)))))
    · refine aW _ (Z6 hn h.ly hq) λr hr=>dD ?_
      rcases hr with ⟨e1,e2,e3,e4⟩ | ⟨e1,e2⟩
      · obtain ⟨o1,o2,o3⟩:=h.vX (by omega)
        have:=CL h.ly e4
        have:=jA this.2.2.1
        intro _;exact ⟨e2,IZ h e4 (by first | omega | (simp only;omega)),e3⟩
      · intro k;exact absurd k e1
    · refine aW _ (KE hn h.ly hq) λr hr=>dD ?_
      rcases hr with ⟨e1,e2,e3,e4⟩ | ⟨e1,e2⟩
      · obtain ⟨o1,o2,o3⟩:=h.vX (by omega)
        have:=CL h.ly e4
        have:=jA this.2.2.1
        intro _;exact ⟨e2,IZ h e4 (by first | omega | (simp only;omega)),e3⟩
      · intro k;exact absurd k e1
    · refine aD (aQ (λk4=>?_) λk4=>?_)
      · refine aW _ (aNJ hn h k3 hq) λr hr=>aD (bL (aG ?_))
        rcases hr with ⟨e1,e2,e3,e4,e5⟩ | ⟨e1,e2⟩
        · refine .inl ⟨e1,e4,⟨e2,by simp only [e3];omega,by simp only [e3];omega,by simp only [e3];omega,by simp only [e3];show tS p.aI+0<=_;omega,(by first | omega | (simp only;omega)),(by first | omega | (simp only;omega))⟩,λk=>?_,λ_=>⟨rfl,k3,k4⟩⟩
          have k:decide (r.2=0)=false:=k
          exact absurd e1 (of_decide_eq_false k)
        · exact .inr e1
      · refine aW _ (aNE hn h hq) λr hr=>dD ?_
        rcases hr with ⟨e1,e2,e3,e4,e5,e6⟩ | e1
        · intro _
          have:=IZ h e5 (by first | omega | (simp only;omega))
          rw [<- e6] at this
          exact ⟨e2,this,e4⟩
        · intro k;exact absurd k e1
    · refine aW _ (aS4 hn h.ly (h.one (by omega)) hc hq) λr hr=>dD ?_
      rcases hr with ⟨e1,e2,e3,e4⟩ | e1
      · obtain ⟨o1,o2,o3⟩:=h.vX (by omega)
        have:=CL h.ly e4
        have:=jA this.2.2.1
        intro _;exact ⟨e2,IZ h e4 (by first | omega | (simp only;omega)),e3⟩
      · intro k;exact absurd k e1
  · refine jQ (λa e=>?_) λa e=>?_
    · subst e
      repeat' with_reducible first | refine bG ?_ | refine dZ ?_ | apply aD | apply bK | apply dY | apply dN | apply eB | apply d9 | apply dV | apply dQ | apply dW | apply dU | refine aQ (λ_=>?_) λ_=>?_ | refine dK (λ_=>?_) λ_=>?_ | apply dF | apply bU | apply dA | apply bL | apply aG
      · rename_i k;exact .inr k
      · rename_i k
        have k:a.1=0:=by simpa using k
        obtain ⟨g1,g2,g3⟩:=hr k
        exact .inl ⟨rfl,g1,g2,λ_=>g3,λk=>nomatch k⟩
    · subst e;exact hr
def iW (x:aN):Prop:=(0<=x.dL/\x.dL<17)/\bN x.bM
theorem L4 (x:aN):Ex (λr=>r=true↔iW x) (FU x):=by
  unfold FU aBO iW
  simp only [WT.run,bT,BX,Option.bind_some]
  repeat' with_reducible first | refine bG ?_ | refine dZ ?_ | apply aD | apply bK | apply dY | apply dN | apply eB | apply d9 | apply dV | apply dQ | apply dW | apply dU | refine aQ (λ_=>?_) λ_=>?_ | refine dK (λ_=>?_) λ_=>?_ | apply dF | apply bU | apply dA | apply bL | apply aG
  · simp only [decide_eq_true_eq];exact ⟨λh=>⟨⟨by omega,by omega⟩,h⟩,λh=>h.2⟩
  · exact ⟨(λk=>nomatch k),λk=>by omega⟩
  · exact ⟨(λk=>nomatch k),λk=>by omega⟩
def eU (l:List aN) (a:Int):Int:=eD (λx=>if x.dL=a then x.bM else 0) l
def wU (l:List aN):Int:=eD (λx=>x.bM) l
theorem yG {l:List Int} {k a:Nat} {v:Int} (hk:k<l.length):(l.set k v).getD a 0=if k=a then v else l.getD a 0:=by
  rw [List.getD_eq_getElem?_getD,List.getD_eq_getElem?_getD,mE hk]
  by_cases h:k=a
  · rw [if_pos h,if_pos h];rfl
  · rw [if_neg h,if_neg h]
theorem getD_at {l:List Int} {k:Nat} {x:Int} (h:l[k]?=some x):l.getD k 0=x:=by rw [List.getD_eq_getElem?_getD,h];rfl
theorem aBT {l:List aN} {n:Nat} (hn:66<n) (hl:l.length<=60):Ex (λr=>r.2=0->(∀ x∈r.1,iW x)/\r.1.length<=17/\∀ a:Nat,a<17->eU r.1 a=eU l a) (tK n l):=by
  unfold tK OL
  simp only [WT.run,bT,wH,Option.bind_some]
  refine aW (λ(r:Unit⊕(List aN×Int))=>match r with | .inl _=>∀ x∈l,iW x | .inr r=>r.2≠0)
    (gB (λ(v:Int)=>0<=v/\v<=(l.length:Int)/\((∀ x∈l.drop v.toNat,iW x)->∀ x∈l,iW x)) (λ(v:Int)=>l.length-v.toNat) ?_ (v:=0) (by simp) (by simp;omega)) λr hr=>jQ (λu e=>?_) λb e=>?_
  · rintro i ⟨h0,h1,h2⟩
    refine aD (aQ (λh=>?_) λh=>?_)
    · refine eZ h0 h λx hx=>aW _ (L4 x) λb hb=>?_
      repeat' with_reducible first | refine bG ?_ | refine dZ ?_ | apply aD | apply bK | apply dY | apply dN | apply eB | apply d9 | apply dV | apply dQ | apply dW | apply dU | refine aQ (λ_=>?_) λ_=>?_ | refine dK (λ_=>?_) λ_=>?_ | apply dF | apply bU | apply dA | apply bL | apply aG
      · exact λk=>nomatch k
      · rename_i k
        refine dD ⟨⟨by omega,by omega,λhh=>h2 λy hy=>?_⟩,by omega⟩
        rw [(drop_at hx).2] at hy
        rcases List.mem_cons.1 hy with rfl | hy
        · exact hb.1 k
        · exact hh y (by rw [show (i+1).toNat=i.toNat+1 by omega];exact hy)
    · refine bL (dD (h2 λx hx=>?_))
      rw [List.drop_eq_nil_of_le (by omega)] at hx;cases hx
  · subst e
    have hk:∀ x∈l,iW x:=hr
    refine aW (λ(r:List Int⊕(List aN×Int))=>match r with | .inl h=>h.length=17/\(∀ y∈h,bN y)/\∀ a:Nat,a<17->h.getD a 0=eU l a | .inr r=>r.2≠0)
      (gB (λ(v:Int×List Int)=>0<=v.1/\v.1<=(l.length:Int)/\v.2.length=17/\(∀ y∈v.2,bN y)/\∀ a:Nat,a<17->v.2.getD a 0+eU (l.drop v.1.toNat) a=eU l a) (λ(v:Int×List Int)=>l.length-v.1.toNat) ?_ (v:=(0,List.replicate 17 0)) ?_ (by simp;omega)) λr hr=>jQ (λh e=>?_) λb e=>?_
    · rintro ⟨i,hv⟩ ⟨h0,h1,h2,h3,h4⟩
      simp only at h0 h1 h2 h3 h4
      refine bK (aD (aQ (λh=>?_) λh=>?_))
      · refine eZ h0 h λx hx=>?_
        have hx:l[i.toNat]?=some x:=hx
        obtain ⟨g1,g2⟩:=hk x (fO hx)
        refine jX g1 (eZ g1.1 (by rw [h2];exact g1.2) λc hc=>eZ h0 h λx' hx'=>?_)
        have hx':l[i.toNat]?=some x':=hx'
        rw [hx] at hx';cases hx'
        repeat' with_reducible first | refine bG ?_ | refine dZ ?_ | apply aD | apply bK | apply dY | apply dN | apply eB | apply d9 | apply dV | apply dQ | apply dW | apply dU | refine aQ (λ_=>?_) λ_=>?_ | refine dK (λ_=>?_) λ_=>?_ | apply dF | apply bU | apply dA | apply bL | apply aG
        · rename_i k;exact k
        · rename_i k
          refine eZ h0 h λx' hx'=>?_
          have hx':l[i.toNat]?=some x':=hx'
          rw [hx] at hx';cases hx'
          refine jX g1 (eZ g1.1 (by rw [h2];exact g1.2) λc' hc'=>aD (bG (dD ⟨⟨by simp only;omega,by simp only;omega,by simp only [List.length_set];exact h2,?_,?_⟩,by simp only;omega⟩)))
          · have hin:bN c/\bN x.bM/\bN (c+x.bM):=by
              by_cases hh:bN c/\bN x.bM/\bN (c+x.bM)
              · exact hh
              · rw [wC hh] at k;exact absurd k (by decide)
            rw [pZ hin]
            intro y hy
            rcases mem_set hy with rfl | hy
            · exact hin.2.2
            · exact h3 y hy
          · have hin:bN c/\bN x.bM/\bN (c+x.bM):=by
              by_cases hh:bN c/\bN x.bM/\bN (c+x.bM)
              · exact hh
              · rw [wC hh] at k;exact absurd k (by decide)
            rw [pZ hin]
            intro a ha
            have h5:=h4 a ha
            have e1:eU (l.drop i.toNat) a=(if x.dL=(a:Int) then x.bM else 0)+eU (l.drop (i.toNat+1)) a:=wS _ hx
            show (hv.set x.dL.toNat (c+x.bM)).getD a 0+eU (l.drop (i+1).toNat) a=eU l a
            rw [yG (by omega),show (i+1).toNat=i.toNat+1 by omega]
            by_cases hA:x.dL.toNat=a
            · rw [if_pos hA];rw [if_pos (by omega)] at e1
              have:hv.getD a 0=c:=getD_at (by rw [<- hA];exact hc)
              omega
            · rw [if_neg hA];rw [if_neg (by omega)] at e1;omega
      · refine bL (dD ⟨h2,h3,λa ha=>?_⟩)
        have h5:=h4 a ha
        rw [List.drop_eq_nil_of_le (by omega)] at h5
        simp only [eU,eD,Int.add_zero] at h5;exact h5
    · refine ⟨by simp,by simp,by simp,?_,?_⟩
      · intro y hy;rw [List.eq_of_mem_replicate hy];decide
      · intro a ha
        show (List.replicate 17 (0:Int)).getD a 0+eU (l.drop 0) a=eU l a
        have:(List.replicate 17 (0:Int)).getD a 0=0:=by
          rw [List.getD_eq_getElem?_getD,List.getElem?_replicate];split <;> rfl
        rw [this,Int.zero_add];rfl
    · subst e
      obtain ⟨q1,q2,q3⟩:=hr
      refine aW (λ(m:List aN)=>(∀ x∈m,iW x)/\m.length<=17/\∀ a:Nat,a<17->eU m a=h.getD a 0)
        (gB (λ(v:Int×List aN)=>0<=v.1/\v.1<=17/\(∀ x∈v.2,iW x)/\(v.2.length:Int)<=v.1/\∀ a:Nat,eU v.2 a=if (a:Int)<v.1 then h.getD a 0 else 0) (λ(v:Int×List aN)=>17-v.1.toNat) ?_ (v:=(0,[])) ?_ (by simp;omega)) λm hm=>aG λ_=>?_
      · rintro ⟨i,m⟩ ⟨h0,h1,h2,h3,h4⟩
        simp only at h0 h1 h2 h3 h4
        refine bK (aD (aQ (λk=>?_) λk=>?_))
        · refine aW (λ(m':List aN)=>(∀ x∈m',iW x)/\(m'.length:Int)<=i+1/\∀ a:Nat,eU m' a=if (a:Int)<i+1 then h.getD a 0 else 0) ?_ λm' hm'=>bG (dD ⟨⟨by simp only;omega,by simp only;omega,hm'.1,hm'.2.1,hm'.2.2⟩,by simp only;omega⟩)
          refine jX ⟨h0,k⟩ (eZ h0 (by rw [q1];exact k) λc hc=>?_)
          have hc:h[i.toNat]?=some c:=hc
          refine aD (aQ (λk2=>jX ⟨h0,k⟩ (aD (dO (aG ?_)))) λk2=>aG ?_)
          · refine ⟨λx hx=>?_,by simp;omega,λa=>?_⟩
            · rcases List.mem_append.1 hx with hx | hx
              · exact h2 x hx
              · rw [List.mem_singleton] at hx;subst hx;exact ⟨⟨h0,k⟩,q2 c (fO hc)⟩
            · have e1:eU (m++[⟨i,c⟩]) a=eU m a+eU [⟨i,c⟩] a:=yN _ _ _
              rw [e1,h4 a]
              simp only [eU,eD,Int.add_zero]
              by_cases hA:i=(a:Int)
              · rw [if_pos hA,if_neg (by omega),if_pos (by omega),Int.zero_add]
                exact (getD_at (by rw [<- hc];congr 1;omega)).symm
              · rw [if_neg hA,Int.add_zero]
                by_cases hB:(a:Int)<i
                · rw [if_pos hB,if_pos (by omega)]
                · rw [if_neg hB,if_neg (by omega)]
          · refine ⟨h2,by (try simp only at *);omega,λa=>?_⟩
            rw [h4 a]
            by_cases hA:i=(a:Int)
            · rw [if_neg (by omega),if_pos (by omega)]
              have:h.getD a 0=c:=getD_at (by rw [<- hc];congr 1;omega)
              rw [this];have:c=0:=by simpa using k2
              exact this.symm
            · by_cases hB:(a:Int)<i
              · rw [if_pos hB,if_pos (by omega)]
              · rw [if_neg hB,if_neg (by omega)]
        · refine bL (aG ⟨h2,by (try simp only at *);omega,λa ha=>?_⟩)
          rw [h4 a,if_pos (by omega)]
      · refine ⟨by simp,by simp,(λx hx=>nomatch hx),by simp,λa=>?_⟩
        show (0:Int)=_
        rw [if_neg (by simp)]
      · exact ⟨hm.1,hm.2.1,λa ha=>by rw [hm.2.2 a ha,q3 a ha]⟩
    · subst e;exact λk=>absurd k hr
  · subst e;exact λk=>absurd k hr
theorem aFQ {l:List aN} {n:Nat} (hn:66<n) (hl:l.length<=60):Ex (λr=>r=true->wU l=0) (BI n l):=by
  unfold BI Q3
  simp only [WT.run,bT]
  refine aW (λ(r:List Int⊕Bool)=>match r with | .inl m=>m=l.map (λx=>x.bM) | .inr b=>b=false)
    (gB (λ(v:Int×List Int)=>0<=v.1/\v.1<=(l.length:Int)/\(v.2.length:Int)<=v.1/\v.2++(l.drop v.1.toNat).map (λx=>x.bM)=l.map (λx=>x.bM)) (λ(v:Int×List Int)=>l.length-v.1.toNat) ?_ (v:=(0,[])) (by simp) (by simp;omega)) λr hr=>jQ (λm e=>?_) λb e=>?_
  · rintro ⟨i,m⟩ ⟨h0,h1,h2,h3⟩
    simp only at h0 h1 h2 h3
    refine bK (aD (aQ (λh=>?_) λh=>?_))
    · refine aW (λ_=>True) (eZ h0 h λx hx=>aW _ (L4 x) λb hb=>?_) λb _=>fJ (λ_=>bL (bL (aG rfl))) λ_=>?_
      · repeat' with_reducible first | refine bG ?_ | refine dZ ?_ | apply aD | apply bK | apply dY | apply dN | apply eB | apply d9 | apply dV | apply dQ | apply dW | apply dU | refine aQ (λ_=>?_) λ_=>?_ | refine dK (λ_=>?_) λ_=>?_ | apply dF | apply bU | apply dA | apply bL | apply aG
        · trivial
        · exact eZ h0 h λx hx=>aD (aG trivial)
      · refine eZ h0 h λx hx=>aD (dO (bG (dD ⟨⟨by simp only;omega,by simp only;omega,by simp;omega,?_⟩,by simp only;omega⟩)))
        show (m++[x.bM])++(l.drop (i+1).toNat).map (λx=>x.bM)=_
        rw [<- h3,(drop_at hx).2,show (i+1).toNat=i.toNat+1 by omega]
        simp
    · refine bL (dD ?_)
      rw [List.drop_eq_nil_of_le (by omega)] at h3
      simpa using h3
  · subst e
    have hm:m=l.map (λx=>x.bM):=hr
    subst hm
    refine x_eq (uM (by simp;omega) (by simp;omega)) ?_
    repeat' with_reducible first | refine bG ?_ | refine dZ ?_ | apply aD | apply bK | apply dY | apply dN | apply eB | apply d9 | apply dV | apply dQ | apply dW | apply dU | refine aQ (λ_=>?_) λ_=>?_ | refine dK (λ_=>?_) λ_=>?_ | apply dF | apply bU | apply dA | apply bL | apply aG
    all_goals try (intro k;cases k;done)
    rename_i k1 k2 k3
    intro k4
    have k4:=of_decide_eq_true k4
    have hs:=WA k3
    rw [hs.1] at k4
    have e:cZ (l.map (λx=>x.bM))=wU l:=aJB _ _ _
    rw [<- e];exact k4
  · subst e
    have hb:b=false:=hr
    subst hb;exact λk=>nomatch k
def KC (gW:List Int) (l:List aN) (b:List Int):Prop:=b.length=17/\(∀ y∈b,bN y)/\(∀ a:Nat,a<17->b.getD a 0=gW.getD a 0+eU l a)/\cZ b=cZ gW
theorem aR4 {gW:List Int} {l:List aN} {n:Nat} (hn:66<n) (hl:l.length<=60) (hb:gW.length=17) (hm:∀ y∈gW,bN y):Ex (λr=>r.2=0->KC gW l r.1) (AZ n gW l):=by
  unfold AZ RP
  simp only [WT.run,bT,wH,Option.bind_some]
  refine aD (aQ (λk=>absurd (show (gW.length:Int)=17 by omega) k) λ_=>dO (aW _ (aBT hn hl) λm hP=>?_))
  refine aW (λ(b:Bool)=>b=false->m.2=0/\wU m.1=0) ?_ λb hb2=>fJ (λ_=>aG (λk=>nomatch k)) λkb=>?_
  · refine aD (aQ (λ_=>aG (λk=>nomatch k)) λk1=>?_)
    have k1:m.2=0:=by simpa using k1
    obtain ⟨p1,p2,p3⟩:=hP k1
    refine aD (aQ (λk2=>aW _ (aFQ hn (by omega)) λb hb=>aD (aG λk=>⟨k1,hb (by simpa using k)⟩)) λk2=>aG λ_=>⟨k1,?_⟩)
    have:m.1=[]:=List.eq_nil_of_length_eq_zero (by omega)
    rw [this];rfl
  · obtain ⟨z1,z2⟩:=hb2 kb
    obtain ⟨p1,p2,p3⟩:=hP z1
    refine dO (aW (λ(r:List Int⊕(List Int×Int))=>match r with | .inl c=>KC gW l c | .inr r=>r.2≠0)
      (gB (λ(v:Int×List Int)=>0<=v.1/\v.1<=(m.1.length:Int)/\v.2.length=17/\(∀ y∈v.2,bN y)/\(∀ a:Nat,a<17->v.2.getD a 0+eU (m.1.drop v.1.toNat) a=gW.getD a 0+eU m.1 a)/\cZ v.2+wU (m.1.drop v.1.toNat)=cZ gW+wU m.1) (λ(v:Int×List Int)=>m.1.length-v.1.toNat) ?_ (v:=(0,gW)) ⟨by simp,by simp,hb,hm,λa ha=>rfl,rfl⟩ (by simp;omega)) λr hr=>jQ (λc e=>aG λ_=>?_) λb e=>?_)
    · rintro ⟨i,c⟩ ⟨h0,h1,h2,h3,h4,h5⟩
      simp only at h0 h1 h2 h3 h4 h5
      refine bK (aD (aQ (λh=>?_) λh=>?_))
      · refine eZ h0 h λx hx=>?_
        have hx:m.1[i.toNat]?=some x:=hx
        obtain ⟨g1,g2⟩:=p1 x (fO hx)
        refine eZ g1.1 (by rw [h2];exact g1.2) λv hv=>eZ h0 h λx' hx'=>?_
        have hx':m.1[i.toNat]?=some x':=hx'
        rw [hx] at hx';cases hx'
        repeat' with_reducible first | refine bG ?_ | refine dZ ?_ | apply aD | apply bK | apply dY | apply dN | apply eB | apply d9 | apply dV | apply dQ | apply dW | apply dU | refine aQ (λ_=>?_) λ_=>?_ | refine dK (λ_=>?_) λ_=>?_ | apply dF | apply bU | apply dA | apply bL | apply aG
        · rename_i k;exact k
        · rename_i k
          refine eZ h0 h λx' hx'=>?_
          have hx':m.1[i.toNat]?=some x':=hx'
          rw [hx] at hx';cases hx'
          have hin:bN v/\bN x.bM/\bN (v+x.bM):=by
            by_cases hh:bN v/\bN x.bM/\bN (v+x.bM)
            · exact hh
            · rw [wC hh] at k;exact absurd k (by decide)
          rw [pZ hin]
          have hv:c[x.dL.toNat]?=some v:=hv
          have e2:(i+1).toNat=i.toNat+1:=by omega
          refine eZ g1.1 (by rw [h2];exact g1.2) λv' hv'=>aD (bG (dD ⟨⟨by simp only;omega,by simp only;omega,by simp only [List.length_set];exact h2,?_,?_,?_⟩,by simp only;omega⟩))
          · intro y hy
            rcases mem_set hy with rfl | hy
            · exact hin.2.2
            · exact h3 y hy
          · intro a ha
            have h6:=h4 a ha
            have e1:eU (m.1.drop i.toNat) a=(if x.dL=(a:Int) then x.bM else 0)+eU (m.1.drop (i.toNat+1)) a:=wS _ hx
            show (c.set x.dL.toNat (v+x.bM)).getD a 0+eU (m.1.drop (i+1).toNat) a=_
            rw [yG (by omega),e2]
            by_cases hA:x.dL.toNat=a
            · rw [if_pos hA];rw [if_pos (by omega)] at e1
              have:c.getD a 0=v:=getD_at (by rw [<- hA];exact hv)
              omega
            · rw [if_neg hA];rw [if_neg (by omega)] at e1;omega
          · have e1:wU (m.1.drop i.toNat)=x.bM+wU (m.1.drop (i.toNat+1)):=wS _ hx
            have e3:cZ (c.set x.dL.toNat (v+x.bM))=cZ c-v+(v+x.bM):=tT _ hv
            show cZ (c.set x.dL.toNat (v+x.bM))+wU (m.1.drop (i+1).toNat)=_
            rw [e3,e2];omega
      · refine bL (dD ⟨h2,h3,λa ha=>?_,?_⟩)
        · have h6:=h4 a ha
          rw [List.drop_eq_nil_of_le (by omega)] at h6
          have:eU [] (a:Int)=0:=rfl
          have:=p3 a ha
          (try simp only at *);omega
        · rw [List.drop_eq_nil_of_le (by omega)] at h5
          have:wU []=0:=rfl
          (try simp only at *);omega
    · subst e;exact hr
    · subst e;exact λk=>absurd k hr
end Go.Pv
