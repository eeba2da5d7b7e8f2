import Derived.Test.YtidcjedeacampaaGreatPL80
set_option linter.unusedVariables false
set_option linter.unusedSimpArgs false
namespace Go.Pv
open Go.Proofs
set_option maxRecDepth 1000000
set_option maxHeartbeats 1000000
theorem aL4 {K:Int} {s:aB} {o:bJ} {n:Nat} (hn:66<n) (h:Inv K s) (hq:o.aT<=9223372036854775807) (ha:0<=o.bM/\o.bM<=288230376151711744):zV n s o=qM n s o:=by
  have hl1:=h.l1
  have key:Ex (λr=>qM n s o=some r) (zV n s o):=by
    unfold zV aCE qM BF
    simp only [WT.run,bT,aPP h.ss.toS0 h.ss.ln]
    refine aD (aQ (λk=>aG (fD k (eY rfl))) λhk=>?_)
    obtain ⟨a,ea,hr⟩:=tZ h o.E o.Item
    refine aW (λ(r:aB×Int)=>(r.2≠0/\qM n s o=some (s,r.2))\/(r.2=0/\r.1.bX.length<=40/\qM n s o=some (⟨r.1.bF,r.1.bA,r.1.bX++[⟨o.E,o.Item,o.Loc,o.aT,o.bM,o.aT,o.bM,0⟩],r.1.dS,r.1.dH,r.1.Done⟩,0))) ?_ λr hr=>?_
    rotate_left
    · refine bK (aD (aQ (λk=>aG ?_) λk=>?_))
      · rcases hr with ⟨_,h2⟩ | ⟨h1,_⟩
        · unfold qM BF at h2
          simp only [WT.run,bT] at h2;exact h2
        · exact absurd h1 k
      · rcases hr with ⟨h1,_⟩ | ⟨_,h2,h3⟩
        · exact absurd h1 k
        · refine dO (aD (dO (aG ?_)))
          unfold qM BF at h3
          simp only [WT.run,bT] at h3;exact h3
    unfold qM BF
    simp only [WT.run,bT]
    refine aW (λz=>z=a) (x_eq ea (aG rfl)) λz hz=>?_
    subst hz
    refine aD (aQ (λk2=>aG (.inl ⟨k2,cK hk (bS (bZ ea (fD k2 (eY rfl))))⟩)) λk2=>?_)
    have z0:z=0:=Classical.not_not.1 k2
    obtain ⟨ht,x,bH,hx,hm,ho⟩:=hr z0
    by_cases k3:(s.bX.length:Int)>=40
    · refine aW (λy=>y=6) (aD (aQ (λ_=>aG rfl) λq=>absurd k3 q)) λy hy=>?_
      subst hy
      exact aD (aQ (λk4=>aG (.inl ⟨k4,cK hk (bS (bZ ea (cK k2 (bS (fD k3 (eY rfl))))))⟩)) λq=>absurd (by decide) q)
    refine aW (λy=>y=z) (aD (aQ (λq=>absurd q k3) λ_=>aG rfl)) λy hy=>?_
    subst hy
    refine aD (aQ (λq=>absurd q k2) λ_=>?_)
    have o0:=On.start hx hm ho
    obtain ⟨b,eb,hb⟩:=CP (n:=n) (s:=s) (e:=o.E) (i:=o.Item) (c:=o.Loc) (l:=⟨o.aT,o.bM,0⟩) hn h.ss hq
    have eb':yO n s o.E o.Item o.Loc ⟨o.aT,o.bM,0⟩=some b:=by rw [aIT hn h.ss hq];exact eb
    refine aW (λr=>r=b) (x_eq eb' (aG rfl)) λr hr2=>?_
    subst hr2
    refine bK (bK (bK (aD (aQ (λk4=>aG (.inl ⟨k4,cK hk (bS (bZ ea (cK k2 (bS (cK k3 (bS (bZ eb (fD k4 (eY rfl)))))))))⟩)) λk4=>?_))))
    rcases hb with ⟨_,hb⟩ | ⟨q,_⟩
    rotate_left
    · exact absurd q k4
    obtain ⟨x1,o1,p1,p2,p3⟩:=o0.brought hb
    have s1:=o1.ss h.ss
    obtain ⟨c,ec,hc⟩:=qA (n:=n) (e:=o.E) (l:=[⟨0,r.2.1⟩,⟨6,r.2.2.1⟩,⟨1,0-o.bM⟩]) hn s1 (by simp)
    have ec':uU n r.1 o.E [⟨0,r.2.1⟩,⟨6,r.2.2.1⟩,⟨1,0-o.bM⟩]=some c:=by rw [post_eq hn s1 (by simp) (by simp)];exact ec
    refine aW (λr=>r=c) (bG (x_eq ec' (aG rfl))) λr2 hr2=>?_
    subst hr2
    refine bK (aD (aQ (λk5=>aG (.inl ⟨k5,cK hk (bS (bZ ea (cK k2 (bS (cK k3 (bS (bZ eb (cK k4 (bS (iB (by omega) (bZ ec (fD k5 (eY rfl)))))))))))))⟩)) λk5=>?_))
    rcases hc with ⟨_,hc⟩ | ⟨q,_⟩
    rotate_left
    · exact absurd q k5
    obtain ⟨x2,o2,q1,q2,q3⟩:=o1.rR hc (by simp [gM,gI])
    have s2:=o2.ss h.ss
    obtain ⟨d,ed,hd⟩:=sK (n:=n) (e:=o.E) (i:=o.Item) (r:=⟨0,r.2.1,0,0,0,0,0,0,0,0,0⟩) hn s2
    have ed':xG r2.1 o.E o.Item ⟨0,r.2.1,0,0,0,0,0,0,0,0,0⟩=some d:=by rw [aUJ hn s2];exact ed
    refine aW (λr=>r=d) (x_eq ed' (aG rfl)) λr3 hr3=>?_
    subst hr3
    refine bK (aD (aQ (λk6=>aG (.inl ⟨k6,cK hk (bS (bZ ea (cK k2 (bS (cK k3 (bS (bZ eb (cK k4 (bS (iB (by omega) (bZ ec (cK k5 (bS (bZ ed (fD k6 (eY rfl))))))))))))))))⟩)) λk6=>aG ?_))
    rcases hd with ⟨d0,hd⟩ | ⟨q,_⟩
    rotate_left
    · exact absurd q k6
    obtain ⟨x3,o3,w1,w2⟩:=o2.wP hd
    obtain ⟨g1,g2,g3,g4,g5⟩:=o3.rc
    refine .inr ⟨d0,by rw [g1];omega,cK hk (bS (bZ ea (cK k2 (bS (cK k3 (bS (bZ eb (cK k4 (bS (iB (by omega) (bZ ec (cK k5 (bS (bZ ed (cK k6 (bS ?_))))))))))))))))⟩
    exact jR (by rw [g1];omega) (jR (by rw [g1];simp;omega) rfl)
  obtain ⟨r,er,e2⟩:=key
  rw [er,e2]
theorem aIA {o:bJ} {v:Int} (h:o.fG.length<=3):Ex (λr=>r.fG.length<=4) (JO o v):=by
  unfold JO U6
  simp only [WT.run,bT]
  refine aW _ (LX (by decide)) λk hk=>?_
  have f1:=td (a:=k) (b:=16) hk.1 (by decide)
  have f2:=tm (a:=k.tdiv 16) (b:=12) f1.1 (by decide)
  refine bG (aD (eZ f2.1 (by simpa using f2.2) λx hx=>aD ?_))
  repeat' with_reducible first | refine bG ?_ | refine dZ ?_ | apply aD | apply bK | apply dY | apply dN | apply eB | apply d9 | apply dV | apply dQ | apply dW | apply dU | refine aQ (λ_=>?_) λ_=>?_ | refine dK (λ_=>?_) λ_=>?_ | apply dF | apply bU | apply dA | apply bL | apply aG | refine dO ?_
  all_goals try (show o.fG.length<=4;omega)
  all_goals (show (o.fG++[x]).length<=4;simp;omega)
theorem aIQ {m:fM} {v odd:Int} {n:Nat} (hn:200<n) (h:MN m):Ex (λr=>r.fG.length<=4) (J9 n m v odd):=by
  unfold J9 aBN
  simp only [WT.run,bT]
  refine aW _ (LX (by decide)) λk hk=>aW _ (QL h) λo ho=>?_
  have f1:=td (a:=k) (b:=32) hk.1 (by decide)
  refine aW (λ(r:bJ⊕bJ)=>match r with | .inl o=>o.fG.length<=4 | .inr o=>o.fG.length<=4)
    (gB (λ(u:Int×bJ)=>0<=u.1/\u.1<=64/\u.2.fG.length<=3) (λu=>64-u.1.toNat) ?_ (v:=(0,o)) ⟨by simp,by simp,ho⟩ (by simp;omega)) λr hr=>jQ (λa e=>by subst e;exact aG hr) λb e=>by subst e;exact hr
  rintro ⟨i,x⟩ ⟨h0,h1,h2⟩
  simp only at h0 h1 h2
  refine bK (aD (aQ (λq=>?_) λq=>bL (dD (by show x.fG.length<=4;omega))))
  have q:i<64:=q
  have f3:=tm (a:=k.tdiv 32) (b:=1) f1.1 (by decide)
  have f4:=tm (a:=k+i+1) (b:=32) (by omega) (by decide)
  refine aW (λ(r:bJ⊕((Int×bJ)⊕(bJ⊕bJ)))=>match r with | .inl y=>y.fG.length<=3 | .inr (.inl _)=>False | .inr (.inr (.inl _))=>False | .inr (.inr (.inr o))=>o.fG.length<=4) ?_ λr hr=>?_
  · refine aW (λ(r:Unit⊕(bJ⊕((Int×bJ)⊕(bJ⊕bJ))))=>match r with | .inl _=>True | .inr (.inl _)=>False | .inr (.inr (.inl _))=>False | .inr (.inr (.inr (.inl _)))=>False | .inr (.inr (.inr (.inr o)))=>o.fG.length<=4)
      (gB (λ(y:Int)=>0<=y/\y<=1) (λy=>1-y.toNat) ?_ (v:=0) (by simp) (by simp;omega)) λr hr=>?_
    · rintro y ⟨y0,y1⟩
      refine aD (aQ (λq1=>?_) λq1=>bL (dD trivial))
      refine aW (λ_=>True) ?_ λb _=>fJ (λ_=>aW _ (aIA (o:=x) (v:=odd) h2) λo2 ho2=>bL (bL (bL (bL (bL (aG ho2)))))) λ_=>bG (dD ⟨⟨by omega,by omega⟩,by omega⟩)
      refine jX ⟨y0,q1⟩ (eZ y0 (by simpa using q1) λz hz=>aD (aQ (λ_=>aD (aQ (λ_=>aG trivial) λ_=>jX ⟨y0,q1⟩ (bG (aD (jX f3 (eZ f3.1 (by simp) λw hw=>aD (aG trivial))))))) λ_=>aG trivial))
    · match r,hr with
      | .inl _,_ =>
        refine dA (bG (bG (bG (bG (aD (bG (aW _ (QL h) λo2 h2=>dD h2)))))))
      | .inr (.inr (.inr (.inr o))),hr=>exact vH hr
  · match r,hr with
    | .inl y,hr=>exact dA (bG (dD ⟨⟨by first | omega | (simp only;omega),by first | omega | (simp only;omega),hr⟩,by first | omega | (simp only;omega)⟩))
    | .inr (.inr (.inr o)),hr=>exact vH hr
theorem sD {α:Type} {l:List α} {n:Nat} (hl:l.length<=60) (hn:66<n) {f:Int->Option (Int⊕(Unit⊕Bool))} (h1:∀ i x,0<=i->i<(l.length:Int)->l[i.toNat]?=some x->f i=some (.inl (i+1))) (h2:∀ i,¬ i<(l.length:Int)->f i=some (.inr (.inl ()))):iter f n 0=some (.inl ()):=by
  refine gF (gB (λi=>0<=i/\i<=(l.length:Int)) (λi=>l.length-i.toNat) ?_ (v:=(0:Int)) (by simp) (by simp;omega))
  rintro i ⟨h0,h3⟩
  by_cases k:i<(l.length:Int)
  · have hx:=List.getElem?_eq_getElem (l:=l) (i:=i.toNat) (by omega)
    exact ⟨_,h1 i _ h0 k hx,⟨by omega,by omega⟩,by omega⟩
  · exact ⟨_,h2 i k,rfl⟩
theorem DX {l:List Int} {n:Nat} (hl:l.length<=60) (hn:66<n):sM n l l=some true:=by
  unfold sM PS
  simp only [WT.run,bT]
  refine cK (by simp) (bS (bZ (sD hl hn (λi x h0 h hx=>?_) λi h=>?_) rfl))
  · exact fD h (eY (gU h0 hx (gU h0 hx (cK (by simp) (bS (iB (by omega) rfl))))))
  · exact cK h (bS rfl)
theorem U9 {l:List (List Int)} {n:Nat} (hl:l.length<=60) (hn:66<n) (hk:∀ x∈l,x.length<=60):FD n l l=some true:=by
  unfold FD aCT
  simp only [WT.run,bT]
  refine cK (by simp) (bS (bZ (sD hl hn (λi x h0 h hx=>?_) λi h=>?_) rfl))
  · exact fD h (eY (gU h0 hx (gU h0 hx (bZ (DX (hk x (fO hx)) hn) (gN (bS (iB (by omega) rfl)))))))
  · exact cK h (bS rfl)
theorem aGC {m:fM} {n:Nat} (h:qL m) (hn:66<n):IS n m m=some true:=by
  have h1:=h.n1;have h2:=h.xE;have h3:=h.lm;have h4:=h.lc
  unfold IS TS
  simp only [WT.run,bT]
  refine bZ (a:=true) (fD (by first | trivial | rfl) (eY (fD (by first | trivial | rfl) (eY (bZ (DX (by omega) hn) (eY (bZ (U9 (by omega) hn λx hx=>by have:=(h.met x hx).1;omega) (eY (bZ (U9 (by omega) hn λx hx=>by have:=(h.cos x hx).1;omega) rfl))))))))) rfl
theorem aII (x:aF):KD x x=some true:=by
  unfold KD U2
  simp only [WT.run,bT]
  exact bZ (a:=true) (fD (by first | trivial | rfl) (eY (fD (by first | trivial | rfl) (eY (fD (by first | trivial | rfl) rfl))))) rfl
theorem aMO {l:List aF} {n:Nat} (hl:l.length<=60) (hn:66<n):LG n l l=some true:=by
  unfold LG WJ
  simp only [WT.run,bT]
  refine cK (by simp) (bS (bZ (sD hl hn (λi x h0 h hx=>?_) λi h=>?_) rfl))
  · exact fD h (eY (gU h0 hx (gU h0 hx (bZ (aII x) (gN (bS (iB (by omega) rfl)))))))
  · exact cK h (bS rfl)
theorem aOW {p:aS} {n:Nat} (hl:p.aI.length<=60) (hn:66<n):KO n p p=some true:=by
  unfold KO YN
  simp only [WT.run,bT]
  exact bZ (a:=true) (bZ (aMO hl hn) (eY (fD (by first | trivial | rfl) (eY (fD (by first | trivial | rfl) (eY (fD (by first | trivial | rfl) rfl))))))) rfl
theorem aP3 {s:aB} {n:Nat} (h1:s.bX.length<=60) (h2:s.dS.length<=60) (h3:s.dH.length<=60) (hn:66<n):KS n s s=some true:=by
  unfold KS UJ
  simp only [WT.run,bT]
  refine bZ (a:=false) (cK (by simp) (bS (cK (by simp) (bS (cK (by simp) rfl))))) (bS (bZ (sD h1 hn (λi x h0 h hx=>?_) λi h=>?_) ?_))
  · exact fD h (eY (gU h0 hx (gU h0 hx (gN (by rw [decide_eq_true (rfl:x=x)];exact bS (iB (by omega) rfl))))))
  · exact cK h (bS rfl)
  show Option.bind _ _=_
  refine bZ (sD h2 hn (λi x h0 h hx=>?_) λi h=>?_) ?_
  · exact fD h (eY (gU h0 hx (gU h0 hx (gN (by rw [decide_eq_true (rfl:x=x)];exact bS (iB (by omega) rfl))))))
  · exact cK h (bS rfl)
  show Option.bind _ _=_
  refine bZ (sD h3 hn (λi x h0 h hx=>?_) λi h=>?_) rfl
  · exact fD h (eY (gU h0 hx (gU h0 hx (gN (by rw [decide_eq_true (rfl:x=x)];exact bS (iB (by omega) rfl))))))
  · exact cK h (bS rfl)
def Sz (x:aP):Prop:=x.bR.length<=10/\x.dJ.length<=10/\x.dI.length<=60/\x.gJ.length<=60/\x.Down.length<=60/\∀ p∈x.bR,p.aI.length<=60
theorem O9 {α:Type} {l:List α} {f:Nat->Int->Option (Unit⊕Bool)} (h1:∀ n i x,0<=i->i<(l.length:Int)->l[i.toNat]?=some x->66<n->f (n+1) i=f n (i+1)) (h2:∀ n i,¬ i<(l.length:Int)->f (n+1) i=some (.inl ())) :
    ∀ (k:Nat) {n:Nat} {i:Int},0<=i->(l.length:Int)-i<=k->67+k<n->f n i=some (.inl ())
  | k,0,i,_,_,hn=>absurd hn (Nat.not_lt_zero _)
  | 0,n+1,i,h0,hk,hn=>h2 n i (by omega)
  | k+1,n+1,i,h0,hk,hn=>by
    by_cases h:i<(l.length:Int)
    · have hx:=List.getElem?_eq_getElem (l:=l) (i:=i.toNat) (by omega)
      rw [h1 n i _ h0 h hx (by omega)]
      exact O9 h1 h2 k (by omega) (by omega) (by omega)
    · exact h2 n i h
theorem aAJ {x:aP} {n:Nat} (h:Sz x) (ha:x.fZ.length<=1) (hn:90<n) (hy:∀ y∈x.fZ,∀ m,n<m+3->vO m y y=some true):vO (n+1) x x=some true:=by
  obtain ⟨a1,a2,a3,a4,a5,a6⟩:=h
  unfold vO
  refine bZ (a:=false) (cK (by simp) (bS (cK (by simp) (bS (cK (by simp) (bS (cK (by simp) (bS (cK (by simp) rfl))))))))) (bS ?_)
  refine bZ (a:=.inl ()) (O9 (l:=x.bR) (f:=BM x x) ?_ ?_ x.bR.length (Int.le_refl 0) (by omega) (by omega)) ?_
  · intro m i p h0 h hx hm
    show bnd _ _=_
    rw [show decide (i<(x.bR.length:Int))=true from decide_eq_true h]
    exact gN (eY (gU h0 hx (gU h0 hx (bZ (aOW (a6 p (fO hx)) hm) (gN (bS (iB (by omega) rfl)))))))
  · intro m i h;exact cK h (bS rfl)
  show Option.bind _ _=_
  refine bZ (a:=.inl ()) (O9 (l:=x.dJ) (f:=C5 x x) ?_ ?_ x.dJ.length (Int.le_refl 0) (by omega) (by omega)) ?_
  · intro m i p h0 h hx hm
    refine fD h (eY (gU h0 hx (bZ rfl (gU h0 hx (bZ rfl (gN ?_))))))
    rw [show (!decide ((_:iX)=_))=false from by simp]
    exact bS (iB (by omega) rfl)
  · intro m i h;exact cK h (bS rfl)
  show Option.bind _ _=_
  refine bZ (a:=.inl ()) ?_ ?_
  · obtain ⟨m,rfl⟩:∃ m,n=m+2:=⟨n-2,by omega⟩
    match e:x.fZ,ha with
    | [],_ =>
      unfold yB
      exact cK (by rw [e];simp) (bS rfl)
    | [y],_ =>
      unfold yB
      have hx:x.fZ[(0:Int).toNat]?=some y:=by rw [e];rfl
      refine fD (by rw [e];simp) (eY (gU (Int.le_refl 0) hx (gU (Int.le_refl 0) hx (bZ (hy y (by rw [e];simp) (m+1) (by omega)) (gN (bS (iB (by omega) ?_)))))))
      unfold yB
      exact cK (by rw [e];simp) (bS rfl)
    | _ :: _ :: _,h=>simp at h
  · exact bZ (a:=true) (bZ (DX (by omega) (by omega)) (eY (bZ (DX (by omega) (by omega)) (eY (bZ (DX (by omega) (by omega)) rfl))))) rfl
theorem aD2 {x:aP} {n:Nat} (h:Sz x) (ha:x.fZ.length<=1) (hy:∀ y∈x.fZ,Sz y/\y.fZ=[]) (hn:100<n):vO n x x=some true:=by
  obtain ⟨m,rfl⟩:∃ m,n=m+1:=⟨n-1,by omega⟩
  refine aAJ h ha (by omega) λy hy2 k hk=>?_
  obtain ⟨k',rfl⟩:∃ k',k=k'+1:=⟨k-1,by omega⟩
  obtain ⟨g1,g2⟩:=hy y hy2
  exact aAJ g1 (by rw [g2];simp) (by omega) λz hz=>by rw [g2] at hz;cases hz
theorem ES.sz {n:Nat} {bH:List Int} {iZ:Int} {x:aP} (h:ES n bH iZ x) (hn:n<=5):Sz x:=by
  have hf:=h.iK hn
  exact ⟨hf.1,by omega,by omega,by omega,by omega,λp hp=>by have:=nI (h.pr p hp);omega⟩
theorem VG {K:Int} {s:aB} {n:Nat} (h:Inv K s) (hn:100<n):B5 n s s=some true:=by
  have hf:=h.ss.toS0.iK
  have h1:=h.l1;have h2:=h.l2;have h3:=h.l3
  unfold B5 TM
  simp only [WT.run,bT]
  refine bZ (a:=false) (bZ (aGC h.kF (by omega)) (gN (bS (cK (by simp) (bS (cK (by simp) (bS (bZ (aP3 (by omega) (by omega) (by omega) (by omega)) rfl)))))))) (bS (bZ (sD (l:=s.bA) (by omega) (by omega) (λi x h0 hi hx=>?_) λi h=>?_) rfl))
  · obtain ⟨bH,hm,_,_,hes⟩:=h.ss.bH hx
    have hei:=h.ent _ _ _ hx hm
    have hs:vO n x x=some true:=by
      rcases hei with o | ⟨y,c⟩
      · exact aD2 (hes.sz hf.2.2) (by rw [o.mH];simp) (λy hy=>by rw [o.mH] at hy;cases hy) hn
      · refine aD2 (hes.sz hf.2.2) (by rw [c.mH];simp) (λz hz=>?_) hn
        rw [c.mH,List.mem_singleton] at hz;subst hz
        exact ⟨c.eo.es.sz hf.2.2,c.eo.mH⟩
    exact fD hi (eY (gU h0 hx (gU h0 hx (bZ hs (gN (bS (iB (by omega) rfl)))))))
  · exact cK h (bS rfl)
theorem mJ {a b:Int} (h:0<=a/\a<=b):jV a b=some true:=by rw [qX,decide_eq_true h]
theorem KR {a:Int} (h:bN a):pI a=some true:=by rw [BX,decide_eq_true h]
theorem aJ6 {K:Int} {s:aB} {n:Nat} (h:Inv K s) (hn:66<n):IP n s=some true:=by
  have hf:=h.ss.toS0.iK
  have h1:=h.l1;have h2:=h.l2;have h3:=h.l3;have hE:=h.len
  unfold IP YS
  simp only [WT.run,bT]
  refine iB (by omega) (iB (by omega) (bZ (sD (l:=s.bX) (by omega) hn (λi x h0 hi hx=>?_) λi hi=>cK hi (bS rfl)) ?_))
  · have hk:=h.nO x (fO hx)
    unfold zD at hk
    obtain ⟨a1,a2,a3,a4,a5,a6,a7,a8⟩:=hk
    exact fD hi (eY (gU h0 hx (bZ (a:=false) (bZ (mJ (by omega)) (gN (bS (bZ (mJ (by omega)) (gN (bS (bZ (mJ (by omega)) (gN (bS (bZ (mJ (by omega)) (gN (bS (bZ (mJ (by omega)) (gN (bS (bZ (mJ (by omega)) (gN (bS (bZ (mJ (by omega)) (gN (bS (bZ (mJ (by omega)) (gN rfl))))))))))))))))))))))) (bS (iB (by omega) rfl)))))
  show Option.bind _ _=_
  refine bZ (sD (l:=s.dS) (by omega) hn (λi x h0 hi hx=>?_) λi hi=>cK hi (bS rfl)) ?_
  · have hk:=h.oD x (fO hx)
    unfold qJ at hk
    obtain ⟨a1,a2,a3,a4,a5,a6,a7,a8⟩:=hk
    exact fD hi (eY (gU h0 hx (bZ (a:=false) (bZ (mJ (by omega)) (gN (bS (bZ (mJ (by omega)) (gN (bS (bZ (mJ (by omega)) (gN (bS (bZ (mJ (by omega)) (gN (bS (bZ (mJ (by omega)) (gN (bS (bZ (mJ (by omega)) (gN (bS (bZ (KR a7) (gN (bS (iB (by omega) (bZ (mJ (by omega)) (gN rfl)))))))))))))))))))))))) (bS (iB (by omega) rfl)))))
  show Option.bind _ _=_
  refine bZ (sD (l:=s.dH) (by omega) hn (λi x h0 hi hx=>?_) λi hi=>cK hi (bS rfl)) ?_
  · have hk:=h.oO x (fO hx)
    unfold CE at hk
    obtain ⟨a1,a2,a3,a4,a5,a6⟩:=hk
    exact fD hi (eY (gU h0 hx (bZ (a:=false) (bZ (mJ (by omega)) (gN (bS (bZ (mJ (by omega)) (gN (bS (bZ (mJ (by omega)) (gN (bS (bZ (mJ (by omega)) (gN (bS (bZ (mJ (by omega)) (gN (bS (bZ (KR a6) (gN rfl))))))))))))))))) (bS (iB (by omega) rfl)))))
  exact bZ (a:=true) (fD (by omega) (eY (fD (by omega) (eY (fD (by omega) rfl))))) rfl
theorem OY {l:List Int} {k:Nat} {lo:Int} {n:Nat} (hk:l.length=k) (hl:l.length<=60) (hn:66<n) (h:∀ y∈l,lo<=y/\y<=288230376151711744):C8 n l k lo=some true:=by
  unfold C8 aEI
  simp only [WT.run,bT]
  refine cK (by omega) (bS (bZ (sD (l:=l) hl hn (λi x h0 hi hx=>?_) λi hi=>cK (by omega) (bS rfl)) rfl))
  have:=h x (fO hx)
  exact fD (by omega) (eY (bZ (a:=false) (gU h0 hx (cK (by omega) (bS (gU h0 hx (cK (by omega) rfl))))) (bS (iB (by omega) rfl))))
theorem q_in {s:aB} {e:Int} (he:0<=e/\e<(s.bA.length:Int)):wD s e=some true:=by
  unfold wD aBY
  simp only [WT.run,bT]
  exact bZ (a:=true) (fD he.1 (eY (fD he.2 rfl))) rfl
theorem aFP {m q:Int} {p:aS} {n:Nat} {r} (h1:0<=p.bC.a0/\p.bC.a0<=q) (h2:m≠3->p.bC.a0=0) (hq:q<=288230376151711744) (h:pF m p n (q-p.bC.a0) 1=r):pF m p (n+1) q 0=r:=by
  rw [pF]
  refine fD (by decide) (eY (bZ (a:=(Sum.inl (q-p.bC.a0):Int⊕(Unit⊕Bool))) (bZ (a:=false) (fD rfl (eY (cK (by omega) (bS (cK (by omega) (bS ?_)))))) (bS (fD rfl (eY (iB (by omega) rfl))))) (lW (iB (by decide) h))))
  by_cases k:m=3
  · exact cK (by omega) (bS rfl)
  · exact fD k (eY (cK (by have:=h2 k;omega) rfl))
theorem aOT {m q:Int} {p:aS} {n:Nat} {r} (h1:0<=p.bC.a1/\p.bC.a1<=q) (h2:m≠3->p.bC.a1=0) (hq:q<=288230376151711744) (h:pF m p n (q-p.bC.a1) 2=r):pF m p (n+1) q 1=r:=by
  rw [pF]
  refine fD (by decide) (eY (bZ (a:=(Sum.inl (q-p.bC.a1):Int⊕(Unit⊕Bool))) (bZ (a:=false) (cK (by decide) (bS (fD rfl (eY (cK (by omega) (bS (cK (by omega) (bS ?_)))))))) (bS (cK (by decide) (bS (fD rfl (eY (iB (by omega) rfl))))))) (lW (iB (by decide) h))))
  by_cases k:m=3
  · exact cK (by omega) (bS rfl)
  · exact fD k (eY (cK (by have:=h2 k;omega) rfl))
theorem aPR {m q:Int} {p:aS} {n:Nat} {r} (h1:0<=p.bC.a2/\p.bC.a2<=q) (h2:m≠3->p.bC.a2=0) (hq:q<=288230376151711744) (h:pF m p n (q-p.bC.a2) 3=r):pF m p (n+1) q 2=r:=by
  rw [pF]
  refine fD (by decide) (eY (bZ (a:=(Sum.inl (q-p.bC.a2):Int⊕(Unit⊕Bool))) (bZ (a:=false) (cK (by decide) (bS (cK (by decide) (bS (jR rfl (cK (by omega) (bS (cK (by omega) (bS ?_))))))))) (bS (cK (by decide) (bS (cK (by decide) (bS (jR rfl (iB (by omega) rfl)))))))) (lW (iB (by decide) h))))
  by_cases k:m=3
  · exact cK (by omega) (bS rfl)
  · exact fD k (eY (cK (by have:=h2 k;omega) rfl))
theorem SG {m:Int} {p:aS} {n:Nat} (hn:70<n) (h:PR m p):GQ n m p=some true:=by
  have hm:=h.mt;have h30:=nI h.ly
  have a0:=h.p0;have a1:=h.p1;have a2:=h.p2;have hs:=h.sum;have ho:=h.vX;have hQ:=h.ly.2.2.1
  obtain ⟨k,rfl⟩:∃ k,n=k+4:=⟨n-4,by omega⟩
  unfold GQ
  refine bZ (a:=false) (cK (by omega) (bS (cK (by omega) (bS ?_)))) (bS (bZ (y8 (by omega) h.ly) (bZ (a:=.inl ()) ?_ rfl)))
  · obtain ⟨b,hb,hc⟩:=BY (l:=p.aI) (n:=k+4) (by omega) (by omega)
    have:b=true:=hc.2 h.ly
    subst this
    refine bZ hb (gN (bS ?_))
    by_cases k1:m=1
    · exact cK (by omega) (bS rfl)
    · exact fD k1 (eY (cK (by have:=h.one k1;omega) rfl))
  · refine aFP (by simp only;omega) (λk=>(ho k).1) (by simp only;omega) (aOT (by simp only;omega) (λk=>(ho k).2.1) (by simp only;omega) (aPR (by simp only;omega) (λk=>(ho k).2.2) (by simp only;omega) ?_))
    rw [pF]
    exact cK (by decide) (bS rfl)
theorem aPL {m:fM} {bH:List Int} {x:aP} (hs:ES m.bW.length bH m.gZ x) {i:Int} (h0:0<=i) (hi:i<(x.bR.length:Int)):∃ t p,bH[(i.tdiv 2).toNat]?=some t/\x.bR[i.toNat]?=some p/\PR t p:=by
  have hl:=hs.lp;have hm:=hs.lm
  have e1:i.tdiv 2=i / 2:=Int.tdiv_eq_ediv_of_nonneg h0
  have hj:(i.tdiv 2).toNat<m.bW.length:=by omega
  have g1:=List.getElem?_eq_getElem (l:=bH) (i:=(i.tdiv 2).toNat) (by omega)
  have g2:=List.getElem?_eq_getElem (l:=x.bR) (i:=2*(i.tdiv 2).toNat) (by omega)
  have g3:=List.getElem?_eq_getElem (l:=x.bR) (i:=2*(i.tdiv 2).toNat+1) (by omega)
  have hp:=hs.BV _ _ _ _ g1 g2 g3
  rcases (show i.toNat=2*(i.tdiv 2).toNat\/i.toNat=2*(i.tdiv 2).toNat+1 by omega) with k | k
  · exact ⟨_,_,g1,(congrArg (x.bR[·]?) k).trans g2,hp.pp⟩
  · exact ⟨_,_,g1,(congrArg (x.bR[·]?) k).trans g3,hp.qq⟩
theorem aQC {m:fM} {bH:List Int} {x:aP} {e:Int} (h0:0<=e) (hm:m.Methods[e.toNat]?=some bH) (hs:ES m.bW.length bH m.gZ x) (hl:m.bW.length<=5):∀ (k n:Nat) (i:Int),0<=i->(x.bR.length:Int)<=i+k->k+71<n->yT m e x n i=some (.inl ()):=by
  have hlp:=hs.lp
  intro k
  induction k with
  | zero =>
    intro n i hi hk hn
    obtain ⟨n,rfl⟩:∃ j,n=j+1:=⟨n-1,by omega⟩
    rw [yT]
    exact cK (by omega) (bS rfl)
  | succ k ih =>
    intro n i hi hk hn
    obtain ⟨n,rfl⟩:∃ j,n=j+1:=⟨n-1,by omega⟩
    rw [yT]
    by_cases hc:i<(x.bR.length:Int)
    · obtain ⟨t,p,w1,w2,w3⟩:=aPL hs hi hc
      have e1:i.tdiv 2=i / 2:=Int.tdiv_eq_ediv_of_nonneg hi
      exact fD hc (eY (gU h0 hm (iB (by omega) (gU (by omega) w1 (gU hi w2 (bZ (SG (by omega) w3) (gN (bS (iB (by omega) (ih n (i+1) (by omega) (by omega) (by omega)))))))))))
    · exact cK hc (bS rfl)
theorem aTT {m:fM} {x:aP} {e:Int} {b:Bool} {v:iX} (hv:∀ y∈([v.a0,v.a1,v.a2,v.a3,v.a4,v.a5,v.a6,v.a7,v.a8,v.a9,v.jU]:List Int),bN y):∀ (k n:Nat) (i:Int),0<=i->(11:Int)<=i+k->k<n->xW m e x b v n i=some (.inl ()):=by
  intro k
  induction k with
  | zero =>
    intro n i hi hk hn
    obtain ⟨n,rfl⟩:∃ j,n=j+1:=⟨n-1,by omega⟩
    rw [xW]
    exact cK (by omega) (bS rfl)
  | succ k ih =>
    intro n i hi hk hn
    obtain ⟨n,rfl⟩:∃ j,n=j+1:=⟨n-1,by omega⟩
    rw [xW]
    by_cases hc:i<11
    · have g:=List.getElem?_eq_getElem (l:=([v.a0,v.a1,v.a2,v.a3,v.a4,v.a5,v.a6,v.a7,v.a8,v.a9,v.jU]:List Int)) (i:=i.toNat) (by simp;omega)
      exact fD hc (eY (jR ⟨hi,hc⟩ (gU hi g (bZ (KR (hv _ (fO g))) (gN (bS (iB (by omega) (ih n (i+1) (by omega) (by omega) (by omega)))))))))
    · exact cK hc (bS rfl)
theorem aTB (r:cB):xC r=some ⟨r.Open,r.jH,r.jL,r.jJ,r.jK,r.jG,r.jN,r.jE,r.jF,r.jM,r.jI⟩:=by
  unfold xC aC9
  simp only [WT.run,bT]
theorem aI2 {m:fM} {bH:List Int} {x:aP} {e:Int} {b:Bool} (hs:ES m.bW.length bH m.gZ x) (hl:m.bW.length<=5):∀ (k n:Nat) (i:Int),0<=i->(m.bW.length:Int)<=i+k->k+71<n->w9 m e x b n i=some (.inl ()):=by
  have hlr:=hs.lr
  intro k
  induction k with
  | zero =>
    intro n i hi hk hn
    obtain ⟨n,rfl⟩:∃ j,n=j+1:=⟨n-1,by omega⟩
    rw [w9]
    exact cK (by omega) (bS rfl)
  | succ k ih =>
    intro n i hi hk hn
    obtain ⟨n,rfl⟩:∃ j,n=j+1:=⟨n-1,by omega⟩
    rw [w9]
    by_cases hc:i<(m.bW.length:Int)
    · have g:=List.getElem?_eq_getElem (l:=x.dJ) (i:=i.toNat) (by omega)
      obtain ⟨c0,c1,c2,c3,c4,c5,c6,c7,c8,c9,c10⟩:=hs.roll _ (fO g)
      refine fD hc (eY (bZ (a:=(Sum.inl ():Unit⊕(Unit⊕Bool))) (gU hi g (bZ (aTB _) (bZ (aTT (λy hy=>?_) 11 n 0 (by omega) (by omega) (by omega)) rfl))) (lW (iB (by omega) (ih n (i+1) (by omega) (by omega) (by omega))))))
      simp only [List.mem_cons,List.not_mem_nil,or_false] at hy
      rcases hy with rfl | rfl | rfl | rfl | rfl | rfl | rfl | rfl | rfl | rfl | rfl <;> assumption
    · exact cK hc (bS rfl)
theorem TH {m:fM} {bH:List Int} {x:aP} {e:Int} {b:Bool} {n:Nat} (hM:qL m) (h0:0<=e) (hm:m.Methods[e.toNat]?=some bH) (hs:ES m.bW.length bH m.gZ x) (hn:90<n) :
    wL (n+1) m e x b=bnd (decide ((x.fZ.length:Int)=0)) λ(x46:Bool) =>
    cond x46 (bnd (!x.Closed) λ(x52:Bool) =>
    some ((x52:Bool))) ((show Option (Bool) from
    cond b (bnd x.Closed λ(x48:Bool) =>
    cond x48 (bnd (decide ((x.fZ.length:Int)=1)) λ(x49:Bool) =>
    cond x49 ((ix x.fZ 0).bind λ(x50:aP) =>
    (wL n m e x50 false).bind λ(x51:Bool) =>
    some (x51:Bool)) (some (false:Bool))) (some (false:Bool))) (some (false:Bool))).bind <| λ(y8_1:Bool) =>
    some ((y8_1:Bool))):=by
  have h1:=hs.now;have h2:=hs.lp;have h3:=hs.lr;have h4:=hs.lb;have h5:=hs.lc;have h6:=hs.ld;have hw:=hM.n1
  rw [wL]
  refine bZ (a:=false) (cK (by omega) (bS (cK (by omega) (bS (iB (by omega) (cK (by omega) (bS (cK (by omega) (bS (bZ (OY (k:=17) h4 (by omega) (by omega) λy hy=>hs.gW y hy) (gN (bS (bZ (OY (k:=m.bW.length) h5 (by omega) (by omega) hs.pri) (gN (bS (bZ (OY (k:=m.bW.length) h6 (by omega) (by omega) hs.DR) rfl)))))))))))))))) (bS ?_)
  exact bZ (aQC h0 hm hs hw.2 10 n 0 (by omega) (by omega) (by omega)) (bZ (aI2 hs hw.2 5 n 0 (by omega) (by omega) (by omega)) rfl)
theorem aEV {m:fM} {bH:List Int} {x:aP} {e:Int} {n:Nat} (hM:qL m) (h0:0<=e) (hm:m.Methods[e.toNat]?=some bH) (hs:EI m bH x) (hn:100<n):wL n m e x true=some true:=by
  obtain ⟨n,rfl⟩:∃ j,n=j+2:=⟨n-2,by omega⟩
  rcases hs with h | ⟨y,h⟩
  · rw [TH hM h0 hm h.es (by omega)]
    have:=h.mH;have:=h.opn
    refine fD (by simp [*]) (eY ?_)
    rw [h.opn];rfl
  · rw [TH hM h0 hm h.es (by omega)]
    refine cK (by rw [h.mH];simp) (bS (bZ (a:=true) (eY ?_) rfl))
    rw [h.MW,h.mH]
    refine gN (eY (fD rfl (eY (gU (by decide) rfl (bZ (a:=true) ?_ rfl)))))
    rw [TH hM h0 hm h.eo.es (by omega)]
    refine fD (by rw [h.eo.mH];rfl) (eY ?_)
    rw [h.eo.opn];rfl
end Go.Pv
