import Derived.Test.YtfamehgkphejnaaGreatTO80
set_option linter.unusedVariables false
set_option linter.unusedSimpArgs false
namespace Go.Pv
open Go.Proofs
set_option maxRecDepth 100000
set_option maxHeartbeats 1000000
theorem aZR {a b:Int}:Ex (λr=>XE r.1/\(r.2=0->r.1=aI (a+b))) (kG a b):=by
  unfold kG aNE;simp only [WT.run,O9]
  refine tF (λ_=>True) ?_ λ_ _=>aFQ (λ_=>aEV ⟨aP0,λh=>absurd h (show ¬ (2:Int)=0 by decide)⟩) λ_=>aL2 (aEV ⟨aG1 _,λ_=>rfl⟩)
  repeat' with_reducible first | exact aEV trivial | refine x_v ?_ | refine aP8 ?_ | apply aL2 | refine ON (by omega) (by omega) λ_ _=>?_ | exact XC trivial | exact XC ⟨by omega,by (first | rfl | omega | (simp only;omega)),trivial⟩ | refine x_a ?_ | refine aP5 (λ_ _=>?_) λ_ _=>trivial | apply aI5 | apply aCE | apply aAR | apply Y4 | apply aOY | apply aIH | apply aKG | apply aMX | apply aDS | refine aEY (λ_=>?_) λ_=>?_ | refine aEW (λ_=>?_) λ_=>?_ | refine aFQ (λ_=>?_) λ_=>?_ | apply x_cT | apply x_cF | apply aK3 | apply aGQ | refine tF _ aPX λ_ _=>?_ | refine tF _ aLP λ_ _=>?_ | refine tF _ aGO λ_ _=>?_ | refine tF _ aPW λ_ _=>?_ | refine tF _ aOB λ_ _=>?_ | refine tF _ aPY λ_ _=>?_ | refine tF _ aPV λ_ _=>?_ | refine tF _ (aPX (by assumption)) λ_ _=>?_ | refine tF _ (aLP (by assumption)) λ_ _=>?_ | refine tF _ (aGO (by assumption)) λ_ _=>?_ | refine tF _ (aPW (by assumption)) λ_ _=>?_ | refine tF _ (aOB (by assumption)) λ_ _=>?_ | refine tF _ (aPY (by assumption)) λ_ _=>?_ | refine tF _ (aPV (by assumption)) λ_ _=>?_
def Wk (x:Int):Prop:=0<=x/\x<=288230376151711744
def sI:List Int->Int
  | []=>0
  | x :: l=>x+sI l
theorem aV8 (a b:List Int):sI (a++b)=sI a+sI b:=by
  induction a with
  | nil=>simp [sI]
  | cons x a ih=>simp only [List.cons_append,sI,ih];omega
theorem aR5:∀ {l:List Int},(∀ x∈l,Wk x)->0<=sI l/\sI l<=(l.length:Int)*288230376151711744
  | [],_=>by simp [sI]
  | x :: l,h=>by
    have h1:=aR5 (l:=l) λy hy=>h y (List.mem_cons_of_mem _ hy)
    have h2:=h x (List.mem_cons_self ..)
    unfold Wk at h2
    simp only [sI,List.length_cons];omega
theorem aV5 {l:List Int} {k:Int} {x:Int} (h0:0<=k) (hx:l[k.toNat]?=some x):sI (l.take (k+1).toNat)=sI (l.take k.toNat)+x:=by
  rw [show (k+1).toNat=k.toNat+1 by omega,List.take_add_one,hx,aV8]
  simp [sI]
theorem aX2 (l:List Int) (i:Nat):sI l=sI (l.take i)+sI (l.drop i):=by rw [<- aV8,List.take_append_drop]
theorem aU5 {l:List Int} (h:∀ x∈l,Wk x) (i:Nat):∀ x∈l.take i,Wk x:=λx hx=>h x (List.mem_of_mem_take hx)
theorem aYR {l:List Int} (h:∀ x∈l,Wk x) (i:Nat):∀ x∈l.drop i,Wk x:=λx hx=>h x (List.mem_of_mem_drop hx)
theorem aYW {n:Nat} {l:List Int} (hl:l.length<20) (hn:250<=n) (hw:∀ x∈l,Wk x):Ex (λr=>r.2=0->r.1=sI l) (nV n l):=by
  unfold nV aMW;simp only [WT.run,O9]
  refine tF (λr=>match r with | .inl a=>a=sI l | .inr b=>b.2≠0) (aQB (m:=l.length) (λv=>v.2) (λv=>v.1=sI (l.take v.2.toNat)) ⟨by simp,by simp,rfl⟩ (by omega) λv h1 h2 h3=>?_) λr hr=>?_
  · simp only [p2]
    refine aL2 (aEY (λhk=>ON h1 (by omega) λx hx=>tF _ aZR λy hy=>aL2 (aEY (λhe=>aGQ (aGQ (aEV he))) λhe=>x_v (XC ⟨by omega,rfl,?_⟩))) λhk=>aGQ (XC ?_))
    · have b1:=aR5 (aU5 hw v.2.toNat)
      have b2:((l.take v.2.toNat).length:Int)<=19:=by simp only [List.length_take];omega
      have b3:=hw x (List.mem_of_getElem? hx)
      unfold Wk at b3
      show y.1=sI (l.take (v.2+1).toNat)
      rw [hy.2 (Classical.not_not.1 he),aV5 h1 hx,h3]
      exact wrap64 (by omega)
    · rw [h3,List.take_of_length_le (by omega)]
  · cases r with
    | inl a=>exact aEV λ_=>hr
    | inr b=>exact ⟨_,rfl,λh=>absurd h hr⟩
theorem aVP {a b c:Int} (ha:0<=a) (hb:0<=b):0<=(md a b c).1/\(c<=0->(md a b c).1=0)/\(0<c->(md a b c).1*c<=a*b):=by
  have h0:0<=a*b:=Int.mul_nonneg ha hb
  unfold md
  split
  · exact ⟨Int.le_refl 0,λ_=>rfl,λ_=>by simp only [Int.zero_mul];exact h0⟩
  · rename_i k
    split
    · exact ⟨Int.le_refl 0,λ_=>rfl,λ_=>by simp only [Int.zero_mul];exact h0⟩
    · exact ⟨Int.ediv_nonneg h0 (by omega),λh=>by omega,λh=>Int.ediv_mul_le _ (by omega)⟩
theorem a6U {a b c:Int} (ha:0<=a) (hb:0<=b) (hc:b<=c):0<=(md a b c).1/\(md a b c).1<=a:=by
  have h0:0<=a*b:=Int.mul_nonneg ha hb
  unfold md
  split
  · exact ⟨Int.le_refl 0,ha⟩
  · rename_i k
    split
    · exact ⟨Int.le_refl 0,ha⟩
    · refine ⟨Int.ediv_nonneg h0 (by omega),?_⟩
      have h1:a*b<=a*c:=Int.mul_le_mul_of_nonneg_left hc ha
      have h2:a*b / c*c<=a*b:=Int.ediv_mul_le _ (by omega)
      exact Int.le_of_mul_le_mul_right (Int.le_trans h2 h1) (by omega)
theorem aVH {x:Int}:Ex (λb=>b=false->Wk x) (aSJ x):=by
  unfold aSJ aW3;simp only [WT.run,O9]
  refine tF (λb=>b=false->Wk x) (aL2 (aEY (λ_=>aEV λh=>by cases h) λh1=>aL2 (aEV λh2=>⟨by omega,by have:=of_decide_eq_false h2;omega⟩))) λb hb=>aEV hb
theorem aZZ {x:Int}:Tot (aS5 x):=by
  unfold aS5 aUY;simp only [WT.run,O9]
  repeat' with_reducible first | exact aEV trivial | refine x_v ?_ | refine aP8 ?_ | apply aL2 | refine ON (by omega) (by omega) λ_ _=>?_ | exact XC trivial | exact XC ⟨by omega,by (first | rfl | omega | (simp only;omega)),trivial⟩ | refine x_a ?_ | refine aP5 (λ_ _=>?_) λ_ _=>trivial | apply aI5 | apply aCE | apply aAR | apply Y4 | apply aOY | apply aIH | apply aKG | apply aMX | apply aDS | refine aEY (λ_=>?_) λ_=>?_ | refine aEW (λ_=>?_) λ_=>?_ | refine aFQ (λ_=>?_) λ_=>?_ | apply x_cT | apply x_cF | apply aK3 | apply aGQ | refine tF _ aPX λ_ _=>?_ | refine tF _ aLP λ_ _=>?_ | refine tF _ aGO λ_ _=>?_ | refine tF _ aPW λ_ _=>?_ | refine tF _ aOB λ_ _=>?_ | refine tF _ aPY λ_ _=>?_ | refine tF _ aPV λ_ _=>?_ | refine tF _ (aPX (by assumption)) λ_ _=>?_ | refine tF _ (aLP (by assumption)) λ_ _=>?_ | refine tF _ (aGO (by assumption)) λ_ _=>?_ | refine tF _ (aPW (by assumption)) λ_ _=>?_ | refine tF _ (aOB (by assumption)) λ_ _=>?_ | refine tF _ (aPY (by assumption)) λ_ _=>?_ | refine tF _ (aPV (by assumption)) λ_ _=>?_
theorem aW7 {x:Int}:Tot (aSD x):=by
  unfold aSD aU8;simp only [WT.run,O9]
  repeat' with_reducible first | exact aEV trivial | refine x_v ?_ | refine aP8 ?_ | apply aL2 | refine ON (by omega) (by omega) λ_ _=>?_ | exact XC trivial | exact XC ⟨by omega,by (first | rfl | omega | (simp only;omega)),trivial⟩ | refine x_a ?_ | refine aP5 (λ_ _=>?_) λ_ _=>trivial | apply aI5 | apply aCE | apply aAR | apply Y4 | apply aOY | apply aIH | apply aKG | apply aMX | apply aDS | refine aEY (λ_=>?_) λ_=>?_ | refine aEW (λ_=>?_) λ_=>?_ | refine aFQ (λ_=>?_) λ_=>?_ | apply x_cT | apply x_cF | apply aK3 | apply aGQ | refine tF _ aPX λ_ _=>?_ | refine tF _ aLP λ_ _=>?_ | refine tF _ aGO λ_ _=>?_ | refine tF _ aPW λ_ _=>?_ | refine tF _ aOB λ_ _=>?_ | refine tF _ aPY λ_ _=>?_ | refine tF _ aPV λ_ _=>?_ | refine tF _ (aPX (by assumption)) λ_ _=>?_ | refine tF _ (aLP (by assumption)) λ_ _=>?_ | refine tF _ (aGO (by assumption)) λ_ _=>?_ | refine tF _ (aPW (by assumption)) λ_ _=>?_ | refine tF _ (aOB (by assumption)) λ_ _=>?_ | refine tF _ (aPY (by assumption)) λ_ _=>?_ | refine tF _ (aPV (by assumption)) λ_ _=>?_
theorem aVZ {w:List Int} (hl:w.length<20):∀ (n:Nat) (k:Int),0<=k->k<=w.length->w.length<n+k->(∀ x∈w.take k.toNat,Wk x)->Ex (λr=>match r with | .inl _=>∀ x∈w,Wk x | .inr j=>0<=j) (aRT w n k)
  | 0,_,_,h2,h3,_=>by omega
  | n+1,k,h1,h2,h3,h4=>by
    rw [aRT]
    refine aL2 (aEY (λhk=>ON h1 hk λx hx=>tF _ aVH λb hb=>aFQ (λ_=>aGQ (aEV h1)) λhb'=>x_v (aVZ hl n (k+1) (by omega) (by omega) (by omega) λy hy=>?_)) λhk=>XC ?_)
    · rw [show (k+1).toNat=k.toNat+1 by omega,List.take_add_one,hx] at hy
      rcases List.mem_append.1 hy with hy | hy
      · exact h4 y hy
      · simp at hy;rw [hy];exact hb hb'
    · rw [List.take_of_length_le (by omega)] at h4;exact h4
theorem aV7 {w:List Int} (hl:w.length<20):∀ (n:Nat) (k:Int),0<=k->k<=w.length->w.length<n+k->Tot (aRI w n k)
  | 0,_,_,h2,h3=>by omega
  | n+1,k,h1,h2,h3=>by
    rw [aRI]
    exact aL2 (aEY (λhk=>ON h1 hk λx hx=>tF _ aZZ λb hb=>aFQ (λ_=>aGQ (aEV trivial)) λhb'=>x_v (aV7 hl n (k+1) (by omega) (by omega) (by omega))) λhk=>XC trivial)
theorem aWL {a:Int} {w:List Int} {e:Int×Int} (ha:Wk a) (hl:w.length<20) (hw:∀ x∈w,Wk x) (hs:e.1=sI w):∀ (n:Nat) (y k:Int) (p q:List Int),w.length+100<=n+k->0<=k->k<=w.length->p.length=w.length->q.length=w.length->(∀ x∈p,0<=x/\x<=a)->0<=y->y<=a->a*(sI w-sI (w.take k.toNat))<=y*sI w ->
    Ex (λr=>0<=r.1/\r.1<=a/\r.2.1.length=w.length/\r.2.2.length=w.length/\∀ x∈r.2.1,0<=x/\x<=a) (aRL a w e n y k p q)
  | 0,_,_,_,_,h1,h2,h3,_,_,_,_,_,_=>by omega
  | n+1,y,k,p,q,h1,h2,h3,h4,h5,h6,h7,h8,h9=>by
    rw [aRL]
    refine aL2 (aEY (λhk=>ON h2 hk λx hx=>?_) λ_=>aEV ⟨h7,h8,h4,h5,h6⟩)
    have hxw:=hw x (List.mem_of_getElem? hx)
    have hS:=aR5 hw
    have hT:=aV5 h2 hx
    have hD:=aX2 w (k+1).toNat
    have hD0:=(aR5 (aYR hw (k+1).toNat)).1
    unfold Wk at ha hxw
    have hm:=aVP (c:=sI w) ha.1 hxw.1
    have hT0:=(aR5 (aU5 hw k.toNat)).1
    have hR:=a6U (a:=a) (b:=x) (c:=sI w) (by omega) (by omega) (by omega)
    refine x_eq (aXB (n:=n) (a:=a) (b:=x) (c:=e.1) (by omega) (by omega) (by omega) (by rw [hs];omega)) ?_
    rw [hs]
    generalize hmd:md a x (sI w)=m at *
    have hle:m.1<=y/\a*(sI w-sI (w.take (k+1).toNat))<=(y-m.1)*sI w:=by
      rcases Int.lt_or_le 0 (sI w) with hp | hp
      · have e1:=hm.2.2 hp
        have e2:a*x<=a*(sI w-sI (w.take k.toNat)):=Int.mul_le_mul_of_nonneg_left (by omega) ha.1
        have e3:m.1*sI w<=y*sI w:=Int.le_trans e1 (Int.le_trans e2 h9)
        refine ⟨Int.le_of_mul_le_mul_right e3 hp,?_⟩
        rw [hT,show sI w-(sI (w.take k.toNat)+x)=(sI w-sI (w.take k.toNat))-x by omega,Int.mul_sub,Int.sub_mul]
        omega
      · have e0:=hm.2.1 hp
        have eS:sI w=0:=by omega
        rw [e0,eS] at *
        refine ⟨h7,?_⟩
        have:sI (w.take (k+1).toNat)=0:=by have:=(aR5 (aU5 hw (k+1).toNat)).1;omega
        rw [this];simp
    refine ON h2 (by omega) λ_ _=>aL2 (ON h2 (by omega) λ_ _=>aL2 (x_v (x_v (aWL ha hl hw hs n (y-m.1) (k+1) _ _ (by omega) (by omega) (by omega) (by simp;exact h4) (by simp;exact h5) (λz hz=>?_) (by omega) (by omega) hle.2))))
    rcases List.mem_or_eq_of_mem_set hz with hz | rfl
    · exact h6 z hz
    · exact hR
def IL (N:Nat) (l:List Int):Prop:=l.length=N/\∀ x∈l,0<=x/\x<(N:Int)
theorem IL.set {N:Nat} {l:List Int} {i:Nat} {x:Int} (h:IL N l) (hx:0<=x/\x<(N:Int)):IL N (l.set i x):=⟨by simp;exact h.1,λy hy=>by
  rcases List.mem_or_eq_of_mem_set hy with hy | rfl
  · exact h.2 y hy
  · exact hx⟩
theorem IL.at {N:Nat} {l:List Int} {i:Nat} {x:Int} (h:IL N l) (hx:l[i]?=some x):0<=x/\x<(N:Int):=h.2 x (List.mem_of_getElem? hx)
theorem aW0 {r:List Int} (hr:r.length<20):∀ (n:Nat) (k:Int) (l:List Int),0<=k->k<=r.length->r.length<n+k->IL r.length l->Ex (IL r.length) (aRH r n k l)
  | 0,_,_,_,h2,h3,_=>by omega
  | n+1,k,l,h1,h2,h3,h4=>by
    have:=h4.1
    rw [aRH]
    exact aL2 (aEY (λhk=>ON h1 (by omega) λ_ _=>aL2 (x_v (aW0 hr n (k+1) _ (by omega) (by omega) (by omega) (h4.set ⟨h1,hk⟩)))) λ_=>aEV h4)
theorem aVJ {r:List Int} (hr:r.length<20):∀ (n:Nat) (k:Int) (l:List Int),0<=k->k<r.length->k<n->IL r.length l->Ex (IL r.length) (aRP r n k l)
  | 0,_,_,h1,_,h3,_=>by omega
  | n+1,k,l,h1,h2,h3,h4=>by
    have hl:=h4.1
    rw [aRP]
    refine tF (λb=>b=true->0<k) (aL2 (aEY (λhk=>ON h1 (by omega) λx hx=>x_v (ON (by omega) (by omega) λy hy=>?_)) λ_=>aEV λh=>by cases h)) λb hb=>aFQ (λhb'=>?_) λ_=>aEV h4
    · have hx2:=h4.at hx;have hy2:=h4.at hy
      exact tF (λ_=>True) (ON hy2.1 (by omega) λ_ _=>tF _ aW7 λ_ _=>ON hx2.1 (by omega) λ_ _=>tF _ aW7 λ_ _=>tF _ aWT λ_ _=>aEV trivial) λ_ _=>aL2 (aEV λ_=>hk)
    · have hk:=hb hb'
      refine x_v (x_v (ON (by omega) (by omega) λx hx=>ON (by omega) (by omega) λy hy=>aL2 (ON (by omega) (by simp;omega) λ_ _=>aL2 (x_v (aVJ hr n (k-1) _ (by omega) (by omega) (by omega) ((h4.set (h4.at hx)).set (h4.at hy)))))))
theorem aVT {r y:List Int} (hr:r.length<20) (hy:y.length=r.length):∀ (n:Nat) (k:Int) (l:List Int),1<=k->k<=r.length+1->r.length+50<=n+k->IL r.length l->Ex (IL r.length) (aRM r y n k l)
  | 0,_,_,h1,_,h3,_=>by omega
  | n+1,k,l,h1,h2,h3,h4=>by
    rw [aRM]
    exact aL2 (aEY (λhk=>tF (IL r.length) (tF (IL r.length) (aVJ hr n k l (by omega) (by omega) (by omega) h4) λz hz=>aEV hz) λz hz=>x_v (aVT hr hy n (k+1) z (by omega) (by omega) (by omega) hz)) λ_=>aEV h4)
theorem aU9 {a:Int} (ha:Wk a) {s:List Int} {x:Int} {N:Nat} (hN:N<20) (hs:IL N s) (hx:x<=N):∀ (n:Nat) (k:Int) (l:List Int),0<=k->N+50<=n+k->k<=N->l.length=N->(∀ z∈l,0<=z/\z<=a+k)->Ex (λr=>r.length=N/\∀ z∈r,0<=z/\z<=a+20) (aRJ s x n k l)
  | 0,_,_,h1,h2,h3,_,_=>by omega
  | n+1,k,l,h1,h2,h3,h4,h5=>by
    have hsl:=hs.1
    rw [aRJ]
    refine aL2 (aEY (λhk=>aL4 ⟨h1,hk⟩ (ON (by omega) (by omega) λy hy=>?_)) λ_=>aEV ⟨h4,λz hz=>by have:=h5 z hz;omega⟩)
    have hy2:=hs.at hy
    refine ON hy2.1 (by omega) λz hz=>aL2 (aL2 (x_v (aU9 ha hN hs hx n (k+1) _ (by omega) (by omega) (by omega) (by simp;exact h4) λu hu=>?_)))
    rcases List.mem_or_eq_of_mem_set hu with hu | rfl
    · have:=h5 u hu;omega
    · have hz2:=h5 z (List.mem_of_getElem? hz)
      unfold Wk at ha
      have e:aI (z+1)=z+1:=wrap64 (by omega)
      rw [e];omega
theorem aXQ {n:Nat} {a:Int} {w:List Int} (hn:250<=n) (hl:w.length<20):Ex (λr=>r.2=0->r.1.length=w.length/\∀ x∈r.1,XE x/\0<=x/\x<=a+20) (aRY n a w):=by
  unfold aRY
  refine tF (λb=>b=false->Wk a/\∀ x∈w,Wk x) ?_ λb hb=>aFQ (λ_=>aEV λh=>absurd h (show ¬ (1:Int)=0 by decide)) λhb'=>?_
  · refine tF _ aVH λb hb=>aFQ (λ_=>aEV λh=>by cases h) λhb'=>tF (λb=>b=false->∀ x∈w,Wk x) (tF (λj=>j<0->∀ x∈w,Wk x) (tF _ (aVZ hl n 0 (by omega) (by omega) (by omega) (by simp)) λr hr=>?_) λj hj=>aL2 (aEV λh=>hj (by have:=of_decide_eq_false h;omega))) λc hc=>aFQ (λ_=>aEV λh=>by cases h) λhc'=>?_
    · cases r with
      | inl u=>exact aK3 (aEV λ_=>hr)
      | inr j=>exact a0A λh=>absurd hr (by omega)
    · refine tF (λ_=>True) (tF (λ_=>True) (tF _ (aV7 hl n 0 (by omega) (by omega) (by omega)) λr hr=>aP5 (λ_ _=>aEV trivial) λ_ _=>trivial) λ_ _=>aL2 (aEV trivial)) λ_ _=>aL2 (aEV λ_=>⟨hb hb',hc hc'⟩)
  obtain ⟨ha,hw⟩:=hb hb'
  have hS:=aR5 hw
  refine tF _ (aYW hl hn hw) λe he=>aL2 (aEY (λh=>aEV λh'=>absurd h' h) λhe'=>?_)
  have hs:=he (Classical.not_not.1 he')
  refine x_a (aL2 (x_a (aL2 (tF _ (aWL ha hl hw hs n a 0 _ _ (by omega) (by omega) (by omega) (by simp) (by simp) (λx hx=>by rw [List.eq_of_mem_replicate hx];exact ⟨Int.le_refl 0,ha.1⟩) ha.1 (Int.le_refl a) (by simp [sI])) λt ht=>?_))))
  obtain ⟨y,p,q⟩:=t
  obtain ⟨h1,h2,h3,h4,h5⟩:=ht
  simp only at h1 h2 h3 h4 h5
  simp only [p2]
  refine tF (IL q.length) (x_a (aL2 (tF _ (aW0 (by omega) n 0 _ (by omega) (by omega) (by omega) ⟨by simp,λx hx=>?_⟩) λu hu=>tF (IL q.length) (tF (IL q.length) (tF (λ_=>True) ?_ λ_ _=>tF (IL q.length) (tF _ (aVT (y:=u) (by omega) hu.1 n 1 u (by omega) (by omega) (by omega) hu) λv hv=>aEV hv) λv hv=>aL4 (by rw [hv.1,hu.1]) (tF (λ_=>True) ?_ λ_ _=>aEV hv)) λv hv=>aEV hv) λv hv=>aL4 (by rw [hv.1,hu.1]) (aEV hv)))) λv hv=>?_
  · have:=List.eq_of_mem_replicate hx
    have:=List.length_pos_of_mem hx
    simp at this
    omega
  · obtain ⟨m,rfl⟩:∃ m,n=m+1:=⟨n-1,by omega⟩
    rw [aSE]
    exact aL2 (aL4 (decide_eq_false (by have:=hu.1;omega)) (aEV trivial))
  · obtain ⟨m,rfl⟩:∃ m,n=m+1:=⟨n-1,by omega⟩
    rw [aSH]
    exact aL2 (aL4 (decide_eq_false (by have:=hu.1;omega)) (aEV trivial))
  · have hvl:=hv.1
    refine aL2 (aL4 ⟨by split <;> omega,by split <;> omega⟩ (tF _ (aU9 (N:=q.length) ha (by omega) hv (by split <;> omega) n 0 p (by omega) (by omega) (by omega) (by omega) (λz hz=>by have:=h5 z hz;omega)) λz hz=>aEV λ_=>⟨by simp only;omega,λx hx=>by have h1:=hz.2 x hx;unfold Wk at ha;exact ⟨by unfold XE;omega,h1⟩⟩))
theorem aSM {A R:Type} {P:R->Prop} {f:A->Option R} {r:A⊕R} (h1:∀ a,r=.inl a->Ex P (f a)) (h2:∀ b,r=.inr b->P b):Ex P (aR4 f r):=by
  cases r with
  | inl a=>exact h1 a rfl
  | inr b=>exact ⟨b,rfl,h2 b rfl⟩
theorem aU2 {s:aA} (h:SQ s) (k:Int):RcQ (kT s k):=by
  unfold kT
  cases e:ix s.bP k with
  | none=>exact ⟨aP0,aP0,aP0,aP0,aP0,by decide,by decide⟩
  | some r=>exact h.rq r (by
      unfold ix at e
      split at e
      · cases e
      · exact List.mem_of_getElem? e)
theorem aX5 {s:aA} {k:Int} (hi:¬ (kT s k).Item<0):0<=k/\k<s.bP.length:=by
  by_cases h:0<=k/\k<(s.bP.length:Int)
  · exact h
  · exfalso
    apply hi
    unfold kT ix
    split
    · decide
    · rename_i h0
      have:s.bP[k.toNat]?=none:=List.getElem?_eq_none (by omega)
      rw [this];decide
theorem aUE {a b:Int}:Tot (aR9 a b):=by
  unfold aR9 aXD;simp only [WT.run,O9]
  exact aEV trivial
theorem aXH {n:Nat} {s:aA} {r:bH} {v:Int} (hn:250<=n) (h:SQ s) (hr:RcQ r) (hv:XE v):Ex (λx=>SK s x.1) (aSS n s r v):=by
  have hel:=h.el;have hwl:=h.wl
  unfold aSS aVQ;simp only [WT.run,O9]
  refine tF _ (aGE h) λy hy=>aL2 (aEY (λ_=>aEV h.rf) λhy'=>?_)
  have hi:=hy (Classical.not_not.1 hy')
  have i0:=hi.i0;have i1:=hi.i1
  refine ON hi.e0 hi.m1 λmt hmt=>ON hi.i0 (by have:=hi.m _ hmt;omega) λm hm=>tF _ (aIU h) λp hp=>aL2 (aEY (λ_=>?_) λ_=>tF _ (aQ4 h) λt ht=>aEV ht)
  refine aL2 (tF _ (aIR hn hp) λt ht=>aL2 (tF _ (aF5 hn hv (by split;exact ht.1;exact aG1 _) hr.1) λc hc=>aL2 (aEY (λ_=>?_) λ_=>tF _ (aQ4 h) λt ht=>aEV ht)))
  refine tF _ (aPK hn hp hc) λq hq=>aL2 (aEY (λ_=>aEV h.rf) λ_=>x_a (ON hi.e0 hi.e1 λz hz=>?_))
  have hzq:=h.at hz
  have hzl:=hzq.pl
  have hpl:=(hi.x z hz).1
  have hl0:=hr.2.2.2.2.2
  refine x_a (x_v (x_v (ON (by omega) (by omega) λ_ _=>aL2 ?_)))
  have hk:=h.aSC (i:=r.dG.toNat) (x:=⟨z.Now,z.Closed,z.dD.set (r.Item*2+r.Loc).toNat q.1,z.dU,z.dI,z.dO,z.Down,z.eT⟩) ⟨by simp;exact hzl,hzq.aSA hq,hzq.bl,hzq.rl,hzq.pr,hzq.dn,hzq.ah⟩ hz
  exact tF _ (aQ4 hk.q) λt ht=>aEV (hk.trans ht)
theorem aVL {s:aA} {b:Int} (h:SQ s):∀ (refs:List Int) (i:Nat) (l:List Int),i+refs.length=l.length->l.length<=20->(∀ x∈l,XE x)->Ex (λw=>w.length=l.length/\∀ x∈w,XE x) (aRW s b refs i l)
  | [],_,_,_,_,h3=>aEV ⟨rfl,h3⟩
  | k :: ks,i,l,h1,h2,h3=>by
    simp only [List.length_cons] at h1
    have hr:=aU2 h k
    have hset:∀ {x:Int},XE x->∀ y∈l.set (i:Int).toNat x,XE y:=λ{x} hx y hy=>by
      rcases List.mem_or_eq_of_mem_set hy with hy | rfl
      · exact h3 y hy
      · exact hx
    rw [aRW]
    refine tF (λr=>match r with | .inl l'=>l'.length=l.length/\∀ x∈l',XE x | .inr _=>False) ?_ λr hr=>?_
    · unfold tW;simp only [WT.run,O9]
      refine aL2 (aEY (λ_=>ON (by omega) (by omega) λ_ _=>aL2 (XC ⟨by simp,hset hr.1⟩)) λ_=>aL2 (aEY (λ_=>ON (by omega) (by omega) λ_ _=>aL2 (XC ⟨by simp,hset hr.2.1⟩)) λ_=>tF (λb=>b=true->0<=(kT s k).Item/\(kT s k).Item<s.bA.cB.length) (aL2 (aEY (λ_=>aL2 (aEY (λh1=>aL2 (aEV λh2=>⟨h1,of_decide_eq_true h2⟩)) λ_=>aEV λh=>by cases h)) λ_=>aEV λh=>by cases h)) λc hc=>aFQ (λhc'=>?_) λ_=>XC ⟨rfl,h3⟩))
      exact ON (hc hc').1 (hc hc').2 λ_ _=>aL2 (ON (by omega) (by omega) λ_ _=>aL2 (XC ⟨by simp,hset (aG1 _)⟩))
    · cases r with
      | inr u=>exact absurd hr id
      | inl l'=>exact aS9 (aVL h ks (i+1) l' (by rw [hr.1];omega) (by rw [hr.1];exact h2) hr.2) λw hw=>⟨hw.1.trans hr.1,hw.2⟩
theorem a1F {s:aA} {b:Int} {refs:List Int} (h:SQ s) (hl:refs.length<20):Ex (λw=>w.length=refs.length/\∀ x∈w,XE x) (aSB s refs b):=by
  unfold aSB
  exact x_a (aS9 (aVL h refs 0 _ (by simp) (by simp;omega) λx hx=>by rw [List.eq_of_mem_replicate hx];exact aP0) λw hw=>⟨by rw [hw.1];simp,hw.2⟩)
theorem aV4 {n:Nat} {s:aA} {sh:List Int} (hn:250<=n) (h:SQ s) (hs:∀ x∈sh,XE x):∀ (refs:List Int) (i:Nat) (t:aA) (a:Int),i+refs.length=sh.length->SK s t->Ex (λz=>match z with | .inl p=>SK s p.1 | .inr r=>r.1=s) (aRX n s sh refs i t a)
  | [],_,_,_,_,h2=>aEV h2
  | k :: ks,i,t,a,h1,h2=>by
    simp only [List.length_cons] at h1
    rw [aRX]
    refine tF (λz=>match z with | .inl p=>SK s p.1 | .inr r=>r.1=s) ?_ λz hz=>?_
    · unfold t3;simp only [WT.run,O9]
      refine ON (by omega) (by omega) λq hq=>tF _ (aXH hn h2.q (aU2 h k) (hs q (List.mem_of_getElem? hq))) λx hx=>aL2 (aEY (λ_=>aGQ (aEV rfl)) λ_=>aL2 (XC (h2.trans hx)))
    · cases z with
      | inl p=>exact aV4 hn h hs ks (i+1) p.1 p.2.1 (by omega) hz
      | inr r=>exact aEV hz
theorem aY8 {n:Nat} {s:aA} {o:aS} (hn:250<=n) (h:SQ s) (hr:o.bT.length<20):Ex (Kp s) (JP n s o):=by
  unfold JP
  refine tF (λz=>match z with | .inl _=>o.bT.length≠0 | .inr r=>Kp s r) ?_ λz hz=>aSM (λu e=>?_) λr e=>by subst e;exact hz
  · unfold tB';simp only [WT.run,O9]
    exact tF (λb=>b=false->o.bT.length≠0) (aL2 (aEY (λ_=>aEV λh=>by cases h) λ_=>aL2 (aEV λh=>by have:=of_decide_eq_false h;omega))) λb hb=>aFQ (λ_=>aGQ (aEV ⟨h,rfl⟩)) λhb'=>XC (hb hb')
  subst e
  have hz:o.bT.length≠0:=hz
  refine x_a (aFQ (λhV=>?_) λ_=>aEV ⟨h,rfl⟩)
  refine ON (by omega) (by omega) λk hk=>?_
  have hin:=aX5 (s:=s) (k:=k) (by have:=List.all_eq_true.1 hV k (List.mem_of_getElem? hk);simpa using this)
  refine ON hin.1 hin.2 λf hf=>aFQ (λhE=>?_) λ_=>aEV ⟨h,rfl⟩
  refine tF (λz=>match z with | .inl _=>True | .inr r=>Kp s r) ?_ λz hz=>aSM (λu e=>?_) λr e=>by subst e;exact hz
  · unfold tF';simp only [WT.run,O9]
    exact tF _ (aGE h) λy hy=>aL2 (aEY (λ_=>aGQ (aEV ⟨h,rfl⟩)) λ_=>XC trivial)
  refine tF _ (a1F h hr) λw hw=>tF _ (aXQ hn (by rw [hw.1];exact hr)) λsh hsh=>?_
  refine tF (λz=>match z with | .inl _=>sh.2=0 | .inr r=>Kp s r) ?_ λz hz=>aSM (λu e=>?_) λr e=>by subst e;exact hz
  · unfold tH;simp only [WT.run,O9]
    exact aL2 (aEY (λ_=>aGQ (aEV ⟨h,rfl⟩)) λhe=>XC (Classical.not_not.1 he))
  subst e
  have hs:=hsh hz
  refine tF _ (aV4 hn h (λx hx=>(hs.2 x hx).1) o.bT 0 s 0 (by rw [hs.1,hw.1];omega) h.rf) λz hz=>aSM (λp e=>?_) λr e=>by subst e;have hz:r.1=s:=hz;exact ⟨by rw [hz];exact h,by rw [hz]⟩
  subst e
  have hp:SK s p.1:=hz
  refine tF (λz=>match z with | .inl _=>False | .inr r=>Kp s r) ?_ λz hz=>aSM (λu e=>by subst e;exact absurd hz id) λr e=>by subst e;exact hz
  unfold tL;simp only [WT.run,O9]
  exact tF _ aUE λ_ _=>aL2 (tF _ aUE λ_ _=>aL2 (tF _ aUE λ_ _=>tF _ (aQ9 hn hp.q (by simp)) λu hu=>aL2 (aEY (λ_=>aGQ (aEV ⟨h,rfl⟩)) λ_=>aGQ (aEV ⟨hu.q,(hp.trans hu).dn⟩))))
theorem a9H (a:Int):xE a=some (decide (InM a)):=by
  unfold xE aN8 InM
  simp only [WT.run,O9]
  by_cases h1:a>=-288230376151711744
  · by_cases h2:a<=288230376151711744
    · simp [bnd,h1,h2,cond]
    · simp [bnd,h1,h2,cond]
  · simp [bnd,h1,cond]
theorem a7S (a b:Int):kG a b=some (aZD a b):=by
  unfold kG aNE aZD
  simp only [WT.run,O9,a9H,Option.bind_some]
  by_cases h1:InM a
  · by_cases h2:InM b
    · have e:aI (a+b)=a+b:=by unfold InM at h1 h2;exact wrap64 (by omega)
      by_cases h3:InM (a+b)
      · simp [bnd,h1,h2,h3,cond,e]
      · simp [bnd,h1,h2,h3,cond,e]
    · simp [bnd,h1,h2,cond]
  · simp [bnd,h1,cond]
theorem a95:∀ {l:List Int} {n v:Int},aT1 n l=some v->v=n+sI l
  | [],n,v,h=>by simp only [aT1,Option.some.injEq] at h;simp only [sI];omega
  | x :: l,n,v,h=>by
    simp only [aT1] at h
    split at h
    · have:=a95 h;simp only [sI];omega
    · cases h
def sAb:List Int->Int
  | []=>0
  | x :: l=>(x.natAbs:Int)+sAb l
theorem a5Q:∀ l:List Int,0<=sAb l
  | []=>by simp [sAb]
  | x :: l=>by have:=a5Q l;simp only [sAb];omega
theorem a7D (a b:List Int):sAb (a++b)=sAb a+sAb b:=by
  induction a with
  | nil=>simp [sAb]
  | cons x a ih=>simp only [List.cons_append,sAb,ih];omega
theorem a7O:∀ l:List Int,((sI l).natAbs:Int)<=sAb l
  | []=>by simp [sAb,sI]
  | x :: l=>by have:=a7O l;simp only [sAb,sI];omega
theorem a8E:∀ {l:List Int} {n:Int},(n.natAbs:Int)+sAb l<=288230376151711744->aT1 n l=some (n+sI l)
  | [],n,h=>by simp [aT1,sI]
  | x :: l,n,h=>by
    have:=a5Q l
    simp only [sAb] at h
    have hc:InM n/\InM x/\InM (n+x):=by unfold InM;omega
    simp only [aT1,if_pos hc,sI]
    rw [a8E (by omega)];congr 1;omega
theorem a2B {l:List Int} (h:sAb l<=288230376151711744):aSF l=(sI l,0):=by
  unfold aSF;rw [a8E (by simpa using h)];simp
theorem a5O {l:List Int} (h:(aSF l).2=0):(aSF l).1=sI l:=by
  unfold aSF at h ⊢
  cases e:aT1 0 l with
  | none=>rw [e] at h;exact absurd h (show ¬ (2:Int)=0 by decide)
  | some v=>have:=a95 e;simp only;omega
theorem a6L {α:Type} {l:List α} {i:Nat} {x:α} (h:l[i]?=some x):i<l.length/\l.drop i=x :: l.drop (i+1):=by
  obtain ⟨hi,e⟩:=List.getElem?_eq_some_iff.1 h
  subst e;exact ⟨hi,List.drop_eq_getElem_cons hi⟩
theorem aZ4 {l:List Int} {n:Nat} (hn:l.length<250/\250<=n):nV n l=some (aSF l):=by
  have key:Ex (λr=>r=aSF l) (nV n l):=by
    unfold nV aMW
    simp only [WT.run,O9,a7S,Option.bind_some]
    refine tF (λ(r:Int⊕(Int×Int))=>match r with | .inl a=>aT1 0 l=some a | .inr q=>q=aSF l) (aQB (m:=l.length) (λv=>v.2) (λv=>aT1 0 l=aT1 v.1 (l.drop v.2.toNat)) ⟨by simp,by simp,by simp⟩ (by omega) λv h0 h1 h2=>?_) ?_
    · obtain ⟨s,i⟩:=v
      simp only at h0 h1 h2
      simp only [p2]
      refine aL2 (aEY (λh=>ON h0 h λx hx=>?_) λh=>?_)
      · refine aL2 (aEY (λh3=>aGQ (aGQ (aEV ?_))) λh3=>?_)
        · have e2:aT1 0 l=none:=by
            rw [h2,(a6L hx).2];unfold aZD at h3;unfold aT1
            by_cases h4:InM s/\InM x/\InM (s+x)
            · rw [if_pos h4] at h3;exact absurd rfl h3
            · rw [if_neg h4]
          have e3:(aZD s x).2=2:=by
            unfold aZD at h3 ⊢
            by_cases h4:InM s/\InM x/\InM (s+x)
            · rw [if_pos h4] at h3;exact absurd rfl h3
            · rw [if_neg h4]
          show ((0:Int),(aZD s x).2)=aSF l
          unfold aSF;rw [e2,e3]
        · have h4:InM s/\InM x/\InM (s+x):=by
            by_cases h4:InM s/\InM x/\InM (s+x)
            · exact h4
            · unfold aZD at h3;rw [if_neg h4] at h3;exact absurd (show ((0:Int),(2:Int)).snd≠0 by decide) h3
          refine x_v (XC ⟨h,rfl,?_⟩)
          have e:(i+1).toNat=i.toNat+1:=by omega
          show aT1 0 l=aT1 (aZD s x).1 (l.drop (i+1).toNat)
          rw [h2,(a6L hx).2,e];unfold aZD;rw [if_pos h4,aT1,if_pos h4]
      · refine aGQ (XC ?_)
        have e:l.drop i.toNat=[]:=List.drop_eq_nil_of_le (by omega)
        show aT1 0 l=some s
        rw [h2,e];rfl
    · intro r hr
      refine aP5 (λa e=>aEV ?_) λq e=>?_
      · subst e;show (a,(0:Int))=aSF l;unfold aSF;rw [show aT1 0 l=some a from hr]
      · subst e;exact hr
  obtain ⟨r,e,rfl⟩:=key;exact e
def lQ (l:List aB):Int:=sI (l.map aB.aQ)
def lV (l:List aB):Int:=sI (l.map aB.Value)
def lP (l:List aB):Int:=sI (l.map aB.bO)
def lA (l:List aB):Int:=sAb (l.map aB.bO)
def tot (l:List aB):aB:=⟨lQ l,lV l,lP l⟩
theorem map_take {α β:Type} (f:α->β) {l:List α} {i:Int} {x:α} (h0:0<=i) (hx:l[i.toNat]?=some x):(l.take (i+1).toNat).map f=(l.take i.toNat).map f++[f x]:=by
  rw [show (i+1).toNat=i.toNat+1 by omega,List.take_add_one,hx]
  simp
theorem a6M {n:Nat} {l:List aB} (hl:l.length<250/\250<=n):Ex (λr=>(r.2=0->r.1=tot l/\(aSF (l.map aB.aQ)).2=0/\(aSF (l.map aB.Value)).2=0/\(aSF (l.map aB.bO)).2=0)/\((aSF (l.map aB.aQ)).2=0/\(aSF (l.map aB.Value)).2=0/\(aSF (l.map aB.bO)).2=0->r.2=0)) (y8 n l):=by
  unfold y8 Z5;simp only [WT.run,O9]
  refine tF (λa=>a=(l.map aB.aQ,l.map aB.Value,l.map aB.bO)) (aQB (m:=l.length) (λv=>v.1) (λv=>v.2.1=(l.take v.1.toNat).map aB.aQ/\v.2.2.1=(l.take v.1.toNat).map aB.Value/\v.2.2.2=(l.take v.1.toNat).map aB.bO) ⟨by simp,by simp,by simp⟩ (by omega) λv h1 h2 h3=>?_) λa ha=>?_
  · obtain ⟨i,p,q,w⟩:=v
    simp only at h1 h2 h3
    obtain ⟨rfl,rfl,rfl⟩:=h3
    simp only [p2]
    have hL:(l.take i.toNat).length<=250:=by simp only [List.length_take];omega
    refine aL2 (aEY (λhk=>ON h1 hk λx hx=>aL2 (aL4 (by simp only [List.length_append,List.length_map,List.length_singleton];omega) (aL2 (aL4 (by simp only [List.length_append,List.length_map,List.length_singleton];omega) (aL2 (aL4 (by simp only [List.length_append,List.length_map,List.length_singleton];omega) (x_v (XC ⟨hk,rfl,(map_take _ h1 hx).symm,(map_take _ h1 hx).symm,(map_take _ h1 hx).symm⟩)))))))) λhk=>aGQ (aEV ?_))
    rw [List.take_of_length_le (by omega)]
  · subst ha
    simp only [p2]
    have e1:=aZ4 (n:=n) (l:=l.map aB.aQ) ⟨by simp;omega,hl.2⟩
    have e2:=aZ4 (n:=n) (l:=l.map aB.Value) ⟨by simp;omega,hl.2⟩
    have e3:=aZ4 (n:=n) (l:=l.map aB.bO) ⟨by simp;omega,hl.2⟩
    refine tF (λr=>match r with | .inl a=>(a=tot l/\(aSF (l.map aB.aQ)).2=0/\(aSF (l.map aB.Value)).2=0/\(aSF (l.map aB.bO)).2=0) | .inr b=>b.2≠0/\¬ ((aSF (l.map aB.aQ)).2=0/\(aSF (l.map aB.Value)).2=0/\(aSF (l.map aB.bO)).2=0)) (x_eq e1 (aL2 (aEY (λk=>aGQ (aEV ⟨k,λh=>k h.1⟩)) λk1=>x_eq e2 (aL2 (aEY (λk=>aGQ (aEV ⟨k,λh=>k h.2.1⟩)) λk2=>x_eq e3 (aL2 (aEY (λk=>aGQ (aEV ⟨k,λh=>k h.2.2⟩)) λk3=>XC ?_))))))) λr hr=>?_
    · have k1:=Classical.not_not.1 k1;have k2:=Classical.not_not.1 k2;have k3:=Classical.not_not.1 k3
      refine ⟨?_,k1,k2,k3⟩
      unfold tot lQ lV lP
      rw [a5O k1,a5O k2,a5O k3]
    · cases r with
      | inl a=>exact aEV ⟨λ_=>hr,λ_=>rfl⟩
      | inr b=>exact ⟨_,rfl,λh=>absurd h hr.1,λh=>absurd h hr.2⟩
structure LB (l:List aB):Prop where
  len:l.length<=30
  ok:∀ x∈l,1<=x.aQ/\0<=x.Value
  q:lQ l<=288230376151711744
  v:lV l<=288230376151711744
  a:lA l<=288230376151711744
theorem LB.nil:LB []:=⟨by simp,(λ_ h=>by cases h),by decide,by decide,by decide⟩
theorem a4I {l:List aB} {f:aB->Int} (h:∀ x∈l,0<=f x):∀ y∈l.map f,0<=y:=λy hy=>by
  obtain ⟨x,hx,rfl⟩:=List.mem_map.1 hy
  exact h x hx
theorem a9M:∀ l:List Int,sI (l.map λx=>(x.natAbs:Int))=sAb l
  | []=>rfl
  | x :: l=>by simp only [List.map_cons,sI,sAb,a9M l]
theorem bCI {n:Nat} {l:List aB} {q:Int} (hl:l.length<250/\250<=n) (hq:1<=q/\q<=9223372036854775807) (hp:∀ x∈l,1<=x.aQ/\0<=x.Value):Ex (λr=>r=true->q<=lQ l) (GX n l q):=by
  unfold GX aA4;simp only [WT.run,O9]
  refine tF (λr=>match r with | .inl _=>True | .inr b=>b=true->q<=lQ l) (aQB (m:=l.length) (λv=>v.2) (λv=>1<=v.1/\v.1<=q/\q-v.1<=sI ((l.take v.2.toNat).map aB.aQ)) ⟨by simp,by simp,hq.1,by simp,by simp [sI]⟩ (by omega) λv h1 h2 h3=>?_) λr hr=>?_
  · obtain ⟨a,i⟩:=v
    simp only at h1 h2 h3
    simp only [p2]
    refine aL2 (aEY (λhk=>ON h1 hk λx hx=>aL2 (aL2 (aL2 (aL2 (aEY (λk0=>aGQ (aGQ (aEV λ_=>?_))) λk0=>x_v (XC ⟨hk,rfl,?_⟩)))))) λhk=>aGQ (XC trivial))
    all_goals
      have hx2:=(hp x (List.mem_of_getElem? hx)).1
      have e:aI (a-(if a<(if 0>x.aQ then 0 else x.aQ) then a else (if 0>x.aQ then 0 else x.aQ)))=a-(if a<x.aQ then a else x.aQ):=by
        rw [if_neg (show ¬ 0>x.aQ by omega)]
        exact wrap64 (by split <;> omega)
      have em:=map_take aB.aQ h1 hx
      have es:sI ((l.take (i+1).toNat).map aB.aQ)=sI ((l.take i.toNat).map aB.aQ)+x.aQ:=by rw [em,aV8];simp [sI]
    · rw [e] at k0
      have eD:lQ l=sI ((l.take (i+1).toNat).map aB.aQ)+sI ((l.drop (i+1).toNat).map aB.aQ):=by
        unfold lQ;rw [<- aV8,<- List.map_append,List.take_append_drop]
      have nn:∀ {m:List Int},(∀ y∈m,0<=y)->0<=sI m:=by
        intro m;induction m with
        | nil=>intro _;simp [sI]
        | cons y m ih=>intro h;have:=ih λz hz=>h z (List.mem_cons_of_mem _ hz);have:=h y (List.mem_cons_self ..);simp only [sI];omega
      have:=nn (m:=(l.drop (i+1).toNat).map aB.aQ) (a4I λy hy=>by have:=hp y (List.mem_of_mem_drop hy);omega)
      split at k0 <;> omega
    · simp only [e] at k0 ⊢
      rw [es]
      split at k0 <;> (rename_i k1;simp only [k1,if_true,if_false];omega)
  · cases r with
    | inl u=>exact aK3 (aEV λh=>by cases h)
    | inr b=>exact ⟨_,rfl,hr⟩
end Go.Pv
