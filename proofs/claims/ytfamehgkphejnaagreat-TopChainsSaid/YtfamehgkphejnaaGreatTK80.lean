import Derived.Test.YtfamehgkphejnaaGreatTH80
set_option linter.unusedVariables false
set_option linter.unusedSimpArgs false
namespace Go.Pv
open Go.Proofs
set_option maxRecDepth 100000
set_option maxHeartbeats 1000000
def VA (x:aH):Prop:=0<=x.fM/\x.fM<17
theorem aUS {a:Int}:Ex (λb=>b=true->0<=a/\a<17) (DW a):=by
  unfold DW aNX;simp only [WT.run,O9]
  refine tF (λb=>b=true->0<=a/\a<17) (aL2 (aEY (λh=>aL2 (aEV λh'=>⟨h,of_decide_eq_true h'⟩)) λ_=>aEV λh=>by cases h)) λb hb=>aEV hb
theorem aW5 {a:Int}:Tot (JQ a):=by
  unfold JQ aFB;simp only [WT.run,O9]
  repeat' with_reducible first | exact aEV trivial | refine x_v ?_ | refine aP8 ?_ | apply aL2 | refine ON (by omega) (by omega) λ_ _=>?_ | exact XC trivial | exact XC ⟨by omega,by (first | rfl | omega | (simp only;omega)),trivial⟩ | refine x_a ?_ | refine aP5 (λ_ _=>?_) λ_ _=>trivial | apply aI5 | apply aCE | apply aAR | apply Y4 | apply aOY | apply aIH | apply aKG | apply aMX | apply aDS | refine aEY (λ_=>?_) λ_=>?_ | refine aEW (λ_=>?_) λ_=>?_ | refine aFQ (λ_=>?_) λ_=>?_ | apply x_cT | apply x_cF | apply aK3 | apply aGQ | refine tF _ aPX λ_ _=>?_ | refine tF _ aLP λ_ _=>?_ | refine tF _ aGO λ_ _=>?_ | refine tF _ aPW λ_ _=>?_ | refine tF _ aOB λ_ _=>?_ | refine tF _ aPY λ_ _=>?_ | refine tF _ aPV λ_ _=>?_ | refine tF _ (aPX (by assumption)) λ_ _=>?_ | refine tF _ (aLP (by assumption)) λ_ _=>?_ | refine tF _ (aGO (by assumption)) λ_ _=>?_ | refine tF _ (aPW (by assumption)) λ_ _=>?_ | refine tF _ (aOB (by assumption)) λ_ _=>?_ | refine tF _ (aPY (by assumption)) λ_ _=>?_ | refine tF _ (aPV (by assumption)) λ_ _=>?_
theorem a3N {x:aH}:Ex (λb=>b=false->VA x) (U2 x):=by
  unfold U2 aIL;simp only [WT.run,O9]
  exact tF (λb=>b=false->VA x) (tF _ aUS λb hb=>aL2 (aEW (λ_=>aEV λh=>by cases h) λhb'=>tF _ aW5 λc _=>aL2 (aEV λ_=>hb hb'))) λb hb=>aEV hb
theorem aVU {x:aH}:Tot (GI x):=by
  unfold GI aGK;simp only [WT.run,O9]
  repeat' with_reducible first | exact aEV trivial | refine x_v ?_ | refine aP8 ?_ | apply aL2 | refine ON (by omega) (by omega) λ_ _=>?_ | exact XC trivial | exact XC ⟨by omega,by (first | rfl | omega | (simp only;omega)),trivial⟩ | refine x_a ?_ | refine aP5 (λ_ _=>?_) λ_ _=>trivial | apply aI5 | apply aCE | apply aAR | apply Y4 | apply aOY | apply aIH | apply aKG | apply aMX | apply aDS | refine aEY (λ_=>?_) λ_=>?_ | refine aEW (λ_=>?_) λ_=>?_ | refine aFQ (λ_=>?_) λ_=>?_ | apply x_cT | apply x_cF | apply aK3 | apply aGQ | refine tF _ aPX λ_ _=>?_ | refine tF _ aLP λ_ _=>?_ | refine tF _ aGO λ_ _=>?_ | refine tF _ aPW λ_ _=>?_ | refine tF _ aOB λ_ _=>?_ | refine tF _ aPY λ_ _=>?_ | refine tF _ aPV λ_ _=>?_ | refine tF _ (aPX (by assumption)) λ_ _=>?_ | refine tF _ (aLP (by assumption)) λ_ _=>?_ | refine tF _ (aGO (by assumption)) λ_ _=>?_ | refine tF _ (aPW (by assumption)) λ_ _=>?_ | refine tF _ (aOB (by assumption)) λ_ _=>?_ | refine tF _ (aPY (by assumption)) λ_ _=>?_ | refine tF _ (aPV (by assumption)) λ_ _=>?_
theorem aVS {x:aH}:Tot (D5 x):=by
  unfold D5 Z9;simp only [WT.run,O9]
  repeat' with_reducible first | exact aEV trivial | refine x_v ?_ | refine aP8 ?_ | apply aL2 | refine ON (by omega) (by omega) λ_ _=>?_ | exact XC trivial | exact XC ⟨by omega,by (first | rfl | omega | (simp only;omega)),trivial⟩ | refine x_a ?_ | refine aP5 (λ_ _=>?_) λ_ _=>trivial | apply aI5 | apply aCE | apply aAR | apply Y4 | apply aOY | apply aIH | apply aKG | apply aMX | apply aDS | refine aEY (λ_=>?_) λ_=>?_ | refine aEW (λ_=>?_) λ_=>?_ | refine aFQ (λ_=>?_) λ_=>?_ | apply x_cT | apply x_cF | apply aK3 | apply aGQ | refine tF _ aPX λ_ _=>?_ | refine tF _ aLP λ_ _=>?_ | refine tF _ aGO λ_ _=>?_ | refine tF _ aPW λ_ _=>?_ | refine tF _ aOB λ_ _=>?_ | refine tF _ aPY λ_ _=>?_ | refine tF _ aPV λ_ _=>?_ | refine tF _ (aPX (by assumption)) λ_ _=>?_ | refine tF _ (aLP (by assumption)) λ_ _=>?_ | refine tF _ (aGO (by assumption)) λ_ _=>?_ | refine tF _ (aPW (by assumption)) λ_ _=>?_ | refine tF _ (aOB (by assumption)) λ_ _=>?_ | refine tF _ (aPY (by assumption)) λ_ _=>?_ | refine tF _ (aPV (by assumption)) λ_ _=>?_
theorem aV1 {a:Int}:Tot (G6 a):=by
  unfold G6 aBT;simp only [WT.run,O9]
  repeat' with_reducible first | exact aEV trivial | refine x_v ?_ | refine aP8 ?_ | apply aL2 | refine ON (by omega) (by omega) λ_ _=>?_ | exact XC trivial | exact XC ⟨by omega,by (first | rfl | omega | (simp only;omega)),trivial⟩ | refine x_a ?_ | refine aP5 (λ_ _=>?_) λ_ _=>trivial | apply aI5 | apply aCE | apply aAR | apply Y4 | apply aOY | apply aIH | apply aKG | apply aMX | apply aDS | refine aEY (λ_=>?_) λ_=>?_ | refine aEW (λ_=>?_) λ_=>?_ | refine aFQ (λ_=>?_) λ_=>?_ | apply x_cT | apply x_cF | apply aK3 | apply aGQ | refine tF _ aPX λ_ _=>?_ | refine tF _ aLP λ_ _=>?_ | refine tF _ aGO λ_ _=>?_ | refine tF _ aPW λ_ _=>?_ | refine tF _ aOB λ_ _=>?_ | refine tF _ aPY λ_ _=>?_ | refine tF _ aPV λ_ _=>?_ | refine tF _ (aPX (by assumption)) λ_ _=>?_ | refine tF _ (aLP (by assumption)) λ_ _=>?_ | refine tF _ (aGO (by assumption)) λ_ _=>?_ | refine tF _ (aPW (by assumption)) λ_ _=>?_ | refine tF _ (aOB (by assumption)) λ_ _=>?_ | refine tF _ (aPY (by assumption)) λ_ _=>?_ | refine tF _ (aPV (by assumption)) λ_ _=>?_
theorem aWT {a b:Int}:Tot (UB a b):=by
  unfold UB aV2;simp only [WT.run,O9]
  refine tF _ aV1 λ_ _=>tF _ aV1 λ_ _=>?_
  repeat' with_reducible first | exact aEV trivial | refine x_v ?_ | refine aP8 ?_ | apply aL2 | refine ON (by omega) (by omega) λ_ _=>?_ | exact XC trivial | exact XC ⟨by omega,by (first | rfl | omega | (simp only;omega)),trivial⟩ | refine x_a ?_ | refine aP5 (λ_ _=>?_) λ_ _=>trivial | apply aI5 | apply aCE | apply aAR | apply Y4 | apply aOY | apply aIH | apply aKG | apply aMX | apply aDS | refine aEY (λ_=>?_) λ_=>?_ | refine aEW (λ_=>?_) λ_=>?_ | refine aFQ (λ_=>?_) λ_=>?_ | apply x_cT | apply x_cF | apply aK3 | apply aGQ | refine tF _ aPX λ_ _=>?_ | refine tF _ aLP λ_ _=>?_ | refine tF _ aGO λ_ _=>?_ | refine tF _ aPW λ_ _=>?_ | refine tF _ aOB λ_ _=>?_ | refine tF _ aPY λ_ _=>?_ | refine tF _ aPV λ_ _=>?_ | refine tF _ (aPX (by assumption)) λ_ _=>?_ | refine tF _ (aLP (by assumption)) λ_ _=>?_ | refine tF _ (aGO (by assumption)) λ_ _=>?_ | refine tF _ (aPW (by assumption)) λ_ _=>?_ | refine tF _ (aOB (by assumption)) λ_ _=>?_ | refine tF _ (aPY (by assumption)) λ_ _=>?_ | refine tF _ (aPV (by assumption)) λ_ _=>?_
def VLs (l:List aH):Prop:=∀ x∈l,VA x
theorem VLs.at {l:List aH} (h:VLs l) {i:Nat} {x:aH} (hx:l[i]?=some x):VA x:=h x (List.mem_of_getElem? hx)
theorem VLs.set {l:List aH} (h:VLs l) {i:Nat} {x:aH} (hx:VA x):VLs (l.set i x):=λy hy=>by
  rcases List.mem_or_eq_of_mem_set hy with hy | rfl
  · exact h y hy
  · exact hx
theorem VLs.app {l:List aH} (h:VLs l) {x:aH} (hx:VA x):VLs (l++[x]):=λy hy=>by
  rcases List.mem_append.1 hy with hy | hy
  · exact h y hy
  · rw [List.mem_singleton.1 hy];exact hx
theorem aWQ {n:Nat} {l:List aH} (hn:250<=n) (hl:l.length<20):Ex (λr=>VLs r.1/\r.1.length<20) (GN n l):=by
  unfold GN aHW;simp only [WT.run,O9]
  refine tF (λb=>b=false->VLs l) (tF (λj=>j<0->VLs l) (tF (λr=>match r with | .inl _=>VLs l | .inr j=>0<=j) (aQB (m:=l.length) (λv=>v) (λv=>∀ (j:Nat) x,(j:Int)<v->l[j]?=some x->VA x) ⟨by simp,by simp,λj x h=>absurd h (by simp)⟩ (by omega) λv h1 h2 h3=>?_) λr hr=>?_) λj hj=>aL2 (aEV λh=>hj (Int.not_le.1 (of_decide_eq_false h)))) λb hb=>aFQ (λ_=>aEV ⟨(λx h=>by cases h),by simp⟩) λhb'=>?_
  · refine aL2 (aEY (λhv=>ON h1 hv λx hx=>tF _ a3N λb hb=>aFQ (λ_=>aGQ (aGQ (aEV h1))) λhb'=>x_v (XC ⟨hv,rfl,λj y hj hy=>?_⟩)) λhv=>aGQ (XC λx hx=>?_))
    · by_cases e:(j:Int)=v
      · rw [show v.toNat=j by omega,hy] at hx;cases hx;exact hb hb'
      · exact h3 j y (by omega) hy
    · obtain ⟨j,hj⟩:=List.getElem?_of_mem hx
      have hjl:=(List.getElem?_eq_some_iff.1 hj).1
      have hv':¬ v<(l.length:Int):=hv
      exact h3 j x (by omega) hj
  · cases r with
    | inl u=>exact aEV λ_=>hr
    | inr j=>exact ⟨_,rfl,λh=>absurd h (Int.not_lt.2 hr)⟩
  have hV:=hb hb'
  have once:∀ {p:Prop} [Decidable p],¬ p->Ex (λ_=>True) (iter (λ_:Unit=>bnd (decide p) λx=>fG (x=false) (esc (some ()):Option (Unit⊕Unit))) n ()):=λ{p} _ hp=>aQJ (λ_=>True) (λ_=>0) (λ_ _=>aL2 (aL4 (decide_eq_false hp) (aGQ (aEV trivial)))) trivial (by omega)
  have hid:∀ {β:Type} {P:β->Prop} {D:Option β},Ex P D->Ex P (D.bind λy=>some y):=λ{β P D} h=>tF P h λa ha=>aEV ha
  refine x_a (tF (λr=>VLs r/\r.length=l.length) (hid (hid (tF _ (once (by omega)) λ_ _=>tF (λr=>VLs r/\r.length=l.length) (hid ?_) λy hy=>aL4 hy.2 (tF _ (once (by omega)) λ_ _=>aEV hy)))) λy hy=>aL4 hy.2 ?_)
  · refine aQJ (λv=>1<=v.1/\VLs v.2/\v.2.length=l.length) (λv=>((l.length:Int)-v.1).toNat) (λv hv=>?_) ⟨by simp,hV,rfl⟩ (by simp only;omega)
    obtain ⟨k,q⟩:=v
    obtain ⟨h1,h2,h3⟩:=hv
    simp only at h1 h2 h3
    simp only [p2]
    refine aL2 (aEY (λhk=>tF (λr=>VLs r/\r.length=l.length) (hid ?_) λr hr=>x_v (XC ⟨⟨by omega,hr.1,hr.2⟩,by omega⟩)) λ_=>aGQ (aEV ⟨h2,h3⟩))
    refine aQJ (λw=>0<=w.1/\w.1<(l.length:Int)/\VLs w.2/\w.2.length=l.length) (λw=>w.1.toNat) (λw hw=>?_) ⟨by simp only;omega,hk,h2,h3⟩ (by simp only;omega)
    obtain ⟨j,q⟩:=w
    obtain ⟨g1,g2,g3,g4⟩:=hw
    simp only at g1 g2 g3 g4
    simp only [p2]
    refine tF (λb=>b=true->0<j) (aL2 (aEY (λhj=>ON g1 (by omega) λa ha=>x_v (ON (by omega) (by omega) λb hb=>tF (λ_=>True) (tF _ aVU λ_ _=>tF _ aVU λ_ _=>tF _ aWT λ_ _=>aEV trivial) λ_ _=>aL2 (aEV λ_=>hj))) λ_=>aEV λh=>by cases h)) λb hb=>aFQ (λhb'=>?_) λ_=>aGQ (aEV ⟨g3,g4⟩)
    have hj:=hb hb'
    refine x_v (x_v (ON (by omega) (by omega) λa ha=>ON g1 (by omega) λc hc=>aL2 (ON (by omega) (by simp;omega) λ_ _=>aL2 (x_v (XC ⟨⟨by omega,by omega,(g3.set (g3.at ha)).set (g3.at hc),by simp;exact g4⟩,by simp only;omega⟩)))))
  · obtain ⟨hy1,hy2⟩:=hy
    refine tF (λr=>match r with | .inl q=>VLs q/\q.length<=l.length | .inr r=>VLs r.1/\r.1.length<20) (aQB (m:=l.length) (λv=>v.1) (λv=>VLs v.2/\(v.2.length:Int)<=v.1) ⟨by simp,by simp,(λx h=>by cases h),by simp⟩ (by omega) λv h1 h2 h3=>?_) λr hr=>?_
    · obtain ⟨k,q⟩:=v
      simp only at h1 h2 h3
      simp only [p2]
      have h32:=h3.2
      refine aL2 (aEY (λhk=>tF (λr=>match r with | .inl q=>VLs q/\(q.length:Int)<=k+1 | .inr t=>match t with | .inl _=>False | .inr t=>match t with | .inl _=>False | .inr r=>VLs r.1/\r.1.length<20) (ON h1 (by omega) λa ha=>x_v (tF (λb=>b=true->(0:Int)<=q.length-1) (aL2 (aEY (λhp=>ON hp (by omega) λb hb=>aL2 (aEV λ_=>hp)) λ_=>aEV λh=>by cases h)) λb hb=>aFQ (λhb'=>?_) λ_=>aL2 (aL4 (by rw [List.length_append];simp;omega) (XC ⟨h3.1.app (hy1.at ha),by rw [List.length_append];simp;omega⟩)))) λr hr=>?_) λ_=>aGQ (XC ⟨h3.1,by omega⟩))
      · exact ON (hb hb') (by omega) λb hb=>tF _ aLP λc hc=>aL2 (aEY (λ_=>aGQ (aGQ (aGQ (aEV ⟨(λx h=>by cases h),by simp⟩)))) λ_=>aL2 (XC ⟨h3.1.set (show VA (⟨b.fM,c.1⟩:aH) from (h3.1.at hb:VA b)),by simp;omega⟩))
      · cases r with
        | inl r=>exact aK3 (x_v (XC ⟨hk,rfl,hr.1,by have:=hr.2;simp only;omega⟩))
        | inr r=>cases r with
          | inl r=>exact hr.elim
          | inr r=>cases r with
            | inl r=>exact hr.elim
            | inr r=>exact ⟨_,rfl,hr⟩
    · cases r with
      | inr r=>exact ⟨_,rfl,hr⟩
      | inl q =>
        obtain ⟨hq1,hq2⟩:=hr
        refine aK3 (tF (λr=>r.1+r.2.1<=r.2.2.length/\VLs r.2.2/\r.2.2.length<20) (tF (λj=>j=-1\/0<=j/\j<(q.length:Int)) (tF (λr=>match r with | .inl _=>True | .inr j=>0<=j/\j<(q.length:Int)) (aQB (m:=q.length) (λv=>v) (λ_=>True) ⟨by simp,by simp,trivial⟩ (by omega) λv h1 h2 _=>?_) λr hr=>?_) λj hj=>?_) λr hr=>?_)
        · exact aL2 (aEY (λhv=>ON h1 hv λx hx=>tF _ aVS λb _=>aFQ (λ_=>aGQ (aGQ (aEV ⟨h1,hv⟩))) λ_=>x_v (XC ⟨hv,rfl,trivial⟩)) λ_=>aGQ (XC trivial))
        · cases r with
          | inl _=>exact aK3 (aEV (.inl rfl))
          | inr j=>exact ⟨_,rfl,.inr hr⟩
        · refine aL2 (aEY (λ_=>aEV ⟨by simp,hq1,by simp only;omega⟩) λhne=>?_)
          obtain ⟨j0,j1⟩:0<=j/\j<(q.length:Int):=hj.resolve_left hne
          have w1:aI (j+1)=j+1:=wrap64 ⟨Int.le_trans (by decide) (Int.add_nonneg j0 (by decide)),Int.le_trans (Int.add_one_le_of_lt j1) (by omega)⟩
          rw [w1]
          refine aL2 (tF (λw=>0<=w.1/\w.1<(q.length:Int)/\VLs w.2/\w.2.length=q.length) (aQJ (λw=>0<=w.1/\w.1<w.2.1/\w.2.1<=(q.length:Int)/\VLs w.2.2/\w.2.2.length=q.length) (λw=>((q.length:Int)-w.2.1).toNat) (λw hw=>?_) ⟨j0,Int.lt_succ j,Int.add_one_le_of_lt j1,hq1,rfl⟩ (by simp only;omega)) λw hw=>?_)
          · obtain ⟨a,b,q'⟩:=w
            obtain ⟨g1,g2,g3,g4,g5⟩:=hw
            simp only at g1 g2 g3 g4 g5
            simp only [p2]
            refine aL2 (aEY (λhb=>tF (λt=>0<=t.1/\t.1<b+1/\VLs t.2/\t.2.length=q.length) (ON (by omega) hb λx hx=>tF _ aVS λc _=>aL2 (aEW (λ_=>ON g1 (by omega) λ_ _=>aL2 (x_v (aEV ⟨by simp only;omega,by simp only;omega,g4.set (g4.at hx),by simp;exact g5⟩))) (λ_=>aEV ⟨g1,by simp only;omega,g4,g5⟩))) λt ht=>x_v (XC ⟨⟨ht.1,ht.2.1,by simp only;omega,ht.2.2.1,ht.2.2.2⟩,by simp only;omega⟩)) λ_=>aGQ (aEV ⟨g1,by simp only;omega,g4,g5⟩))
          · obtain ⟨a,q'⟩:=w
            obtain ⟨g1,g2,g3,g4⟩:=hw
            simp only at g1 g2 g3 g4
            simp only [p2]
            exact x_a (aL2 (x_a (aEV ⟨by simp only [List.length_take];omega,λx hx=>g3 x (List.mem_of_mem_take hx),by simp only [List.length_take];omega⟩)))
        · obtain ⟨a,b,q'⟩:=r
          obtain ⟨g1,g2,g3⟩:=hr
          simp only at g1 g2 g3
          simp only [p2]
          exact aL4 g1 (aEV ⟨λx hx=>g2 x (List.mem_of_mem_drop (List.mem_of_mem_take hx)),by simp only [List.length_take,List.length_drop];omega⟩)
theorem a0H {n:Nat} {l:List aH} (hn:250<=n) (hl:l.length<20):Tot (aTD n l):=by
  unfold aTD YR;simp only [WT.run,O9]
  refine tF (λa=>a.length<250) (aQB (m:=l.length) (λv=>v.1) (λv=>(v.2.length:Int)=v.1) ⟨by simp,by simp,by simp⟩ (by omega) λv h1 h2 h3=>?_) λa ha=>?_
  · obtain ⟨i,p⟩:=v
    simp only at h1 h2 h3
    repeat' with_reducible first | exact aEV trivial | refine x_v ?_ | refine aP8 ?_ | apply aL2 | refine ON (by omega) (by omega) λ_ _=>?_ | exact XC trivial | exact XC ⟨by omega,by (first | rfl | omega | (simp only;omega)),trivial⟩ | refine x_a ?_ | refine aP5 (λ_ _=>?_) λ_ _=>trivial | apply aI5 | apply aCE | apply aAR | apply Y4 | apply aOY | apply aIH | apply aKG | apply aMX | apply aDS | refine aEY (λ_=>?_) λ_=>?_ | refine aEW (λ_=>?_) λ_=>?_ | refine aFQ (λ_=>?_) λ_=>?_ | apply x_cT | apply x_cF | apply aK3 | apply aGQ | refine tF _ aPX λ_ _=>?_ | refine tF _ aLP λ_ _=>?_ | refine tF _ aGO λ_ _=>?_ | refine tF _ aPW λ_ _=>?_ | refine tF _ aOB λ_ _=>?_ | refine tF _ aPY λ_ _=>?_ | refine tF _ aPV λ_ _=>?_ | refine tF _ (aPX (by assumption)) λ_ _=>?_ | refine tF _ (aLP (by assumption)) λ_ _=>?_ | refine tF _ (aGO (by assumption)) λ_ _=>?_ | refine tF _ (aPW (by assumption)) λ_ _=>?_ | refine tF _ (aOB (by assumption)) λ_ _=>?_ | refine tF _ (aPY (by assumption)) λ_ _=>?_ | refine tF _ (aPV (by assumption)) λ_ _=>?_
    all_goals (first | refine XC ?_ | refine aEV ?_) <;> (try simp only [List.length_append,List.length_cons,List.length_nil,List.length_set] at *) <;> (repeat' apply And.intro) <;> (first | trivial | omega)
  · exact tF _ (aGO ⟨ha,hn⟩) λ_ _=>aEV trivial
theorem a3E {x:aH}:Tot (J9 x):=by
  unfold J9 aAE;simp only [WT.run,O9]
  exact tF (λ_=>True) (tF _ aUS λ_ _=>aL2 (aFQ (λ_=>aEV trivial) λ_=>aL2 (aFQ (λ_=>aEV trivial) λ_=>tF _ aW5 λ_ _=>aL2 (aEV trivial)))) λ_ _=>aEV trivial
theorem a07 {n:Nat} {l:List aH} (hn:250<=n) (hl:l.length<20):Tot (RS n l):=by
  unfold RS YU;simp only [WT.run,O9]
  refine tF (λ_=>True) (aL2 (aFQ (λ_=>aEV trivial) λ_=>aL2 (aEV trivial))) λ_ _=>aFQ (λ_=>aEV trivial) λ_=>tF _ (a0H hn hl) λ_ _=>tF (λ_=>True) (tF (λ_=>True) (tF (λ_=>True) (tF (λ_=>True) (aQB (m:=l.length) (λv=>v) (λ_=>True) ⟨by simp,by simp,trivial⟩ (by omega) λv h1 h2 _=>?_) λr _=>?_) λ_ _=>aL2 (aEV trivial)) λ_ _=>aL2 (aFQ (λ_=>aL2 (aFQ (λ_=>aL2 (aEV trivial)) λ_=>aEV trivial)) λ_=>aEV trivial)) λ_ _=>aEV trivial
  · exact aL2 (aEY (λhv=>ON h1 hv λx hx=>tF _ a3E λb _=>aFQ (λ_=>aGQ (aGQ (aEV trivial))) λ_=>x_v (XC ⟨hv,rfl,trivial⟩)) λ_=>aGQ (XC trivial))
  · exact aP5 (λ_ _=>aEV trivial) λ_ _=>trivial
theorem a1A {n:Nat} {b:List Int} {l:List aH} (hn:250<=n) (hb:b.length<=40) (hl:l.length<20):Ex (λr=>r.1.length<=40) (ML n b l):=by
  unfold ML aFF;simp only [WT.run,O9]
  refine aL2 (aEY (λ_=>aEV (by simp)) λh17=>?_)
  have hb17:b.length=17:=by omega
  refine tF (λr=>match r with | .inl _=>True | .inr q=>q.length<=40) (x_a (tF (λr=>r.2.length=b.length) (tF _ (aWQ hn hl) λp hp=>tF (λ_=>True) (aL2 (aFQ (λ_=>aEV trivial) λ_=>aL2 (aFQ (λ_=>tF _ (a07 hn hp.2) λ_ _=>aL2 (aEV trivial)) λ_=>aEV trivial))) λ_ _=>aFQ (λ_=>aEV rfl) λ_=>tF (λr=>match r with | .inl q=>q.length=b.length | .inr t=>t.2.length=b.length) (aQB (m:=p.1.length) (λv=>v.1) (λv=>v.2.length=b.length) ⟨by simp,by simp,rfl⟩ (by have:=hp.2;omega) λv h1 h2 h3=>?_) λr hr=>?_) λr hr=>?_)) λy hy=>?_
  · obtain ⟨k,q⟩:=v
    simp only at h1 h2 h3
    simp only [p2]
    refine aL2 (aEY (λhk=>ON h1 hk λx hx=>?_) λ_=>aGQ (XC h3))
    have hv:=hp.1.at hx
    exact ON hv.1 (by have:=hv.2;omega) λz hz=>tF _ aLP λc hc=>aL2 (aL2 (aEY (λ_=>aGQ (aGQ (aEV (by simp;exact h3)))) λ_=>x_v (XC ⟨hk,rfl,by simp;exact h3⟩)))
  · cases r with
    | inl q=>exact aK3 (aEV hr)
    | inr t=>exact ⟨_,rfl,hr⟩
  · obtain ⟨a,c⟩:=r
    simp only at hr
    simp only [p2]
    exact aL2 (aEY (λ_=>x_a (aEV trivial)) λ_=>aL4 hr (aEV (by simp only;omega)))
  · cases y with
    | inl a=>exact aEV hb
    | inr q=>exact aEV hy
theorem aQ9 {n:Nat} {s:aA} {e:Int} {l:List aH} (hn:250<=n) (h:SQ s) (hl:l.length<20):Ex (λr=>SK s r.1) (oN n s e l):=by
  have hel:=h.el
  unfold oN aJN;simp only [WT.run,O9]
  refine tF (λb=>b=false->0<=e/\e<(s.aW.length:Int)) (aL2 (aEY (λ_=>aEV λh=>by cases h) λh1=>aL2 (aEV λh2=>by have:=of_decide_eq_false h2;omega))) λb hb=>aFQ (λ_=>aEV h.rf) λhb'=>?_
  obtain ⟨e0,e1⟩:=hb hb'
  refine tF _ (aWQ hn hl) λp hp=>aL2 (aEY (λ_=>aEV h.rf) λ_=>ON e0 e1 λx hx=>?_)
  have hxq:=h.at hx
  refine tF _ (a1A hn hxq.bl hp.2) λg hg=>aL2 (aEY (λ_=>aEV h.rf) λ_=>tF (λ_=>True) (x_a (ON e0 e1 λ_ _=>aEV trivial)) λ_ _=>aQZ e0 hx (aL2 (aEV (h.aSC ⟨hxq.pl,hxq.pq,hg,hxq.rl,hxq.pr,hxq.dn,hxq.ah⟩ hx))))
theorem SQ.aXS {t:aA} (h:SQ t) {r:bH} (hl:t.bP.length<40) (hr:RcQ r):SQ ⟨t.bA,t.aW,t.bP++[r],t.bU,t.bY,t.Done⟩:=⟨h.el,h.eq,h.wl,h.ml,h.mq,h.cl,h.cq,by simp;omega,λx hx=>by
  rcases List.mem_append.1 hx with hx | hx
  · exact h.rq x hx
  · rw [List.mem_singleton.1 hx];exact hr,h.sl,h.sq,h.tl,h.tq⟩
theorem SQ.a05 {t:aA} (h:SQ t) {r:bS} (hl:t.bU.length<40) (hr:SlQ r):SQ ⟨t.bA,t.aW,t.bP,t.bU++[r],t.bY,t.Done⟩:=⟨h.el,h.eq,h.wl,h.ml,h.mq,h.cl,h.cq,h.rl,h.rq,by simp;omega,λx hx=>by
  rcases List.mem_append.1 hx with hx | hx
  · exact h.sq x hx
  · rw [List.mem_singleton.1 hx];exact hr,h.tl,h.tq⟩
abbrev Kp (s:aA) (r:aA×Int):Prop:=SQ r.1/\r.1.Done=s.Done
theorem aXU {n:Nat} {s:aA} {o:aS} (hn:250<=n) (h:SQ s) (hq:XE o.aQ/\XE o.bD):Ex (Kp s) (VK n s o):=by
  unfold VK aFN;simp only [WT.run,O9]
  refine aL2 (aEY (λ_=>aEV ⟨h,rfl⟩) λ_=>tF (λr=>SK s r.1/\(¬ r.2≠0->s.bP.length<40/\0<=o.Loc/\o.Loc<=1)) ?_ λr hr=>?_)
  · refine tF (λ_=>True) (tF _ (aGE h) λ_ _=>aEV trivial) λy _=>aL2 (aEY (λhy=>aEV ⟨h.rf,λk=>absurd hy k⟩) λhy=>tF (λz=>¬ z≠0->s.bP.length<40) (aL2 (aEY (λ_=>aEV λk=>absurd (by decide) k) λh40=>aEV λ_=>by omega)) λz hz=>aL2 (aEY (λhz'=>aEV ⟨h.rf,λk=>absurd hz' k⟩) λhz'=>?_))
    have hlt:=hz hz'
    refine tF (λt=>SK s t.1/\(t.2.2.2=0->0<=o.Loc/\o.Loc<=1)) (tF _ (aSG hn h (x:=⟨_,_,_⟩) ⟨hq.1,hq.2,aP0⟩) λb hb=>aEV ⟨hb.1,hb.2.2.2⟩) λb hb=>?_
    obtain ⟨t,c,d,e⟩:=b
    obtain ⟨hb,hloc⟩:=hb
    simp only at hb hloc
    simp only [p2]
    refine aL2 (aEY (λhe=>aEV ⟨hb,λk=>absurd he k⟩) λhne=>tF (λt=>SK s t.1) (aL2 (tF _ (aQ9 hn hb.q (by simp)) λr hr=>aEV (hb.trans hr))) λr hr=>?_)
    refine aL2 (aEY (λhe=>aEV ⟨hr,λk=>absurd he k⟩) λ_=>tF (λt=>SK s t.1) (tF _ (aQ4 hr.q) λu hu=>aEV (hr.trans hu)) λu hu=>?_)
    exact aL2 (aEY (λhe=>aEV ⟨hu,λ_=>⟨hlt,hloc (Classical.not_not.1 hne)⟩⟩) λ_=>aEV ⟨hu,λ_=>⟨hlt,hloc (Classical.not_not.1 hne)⟩⟩)
  · obtain ⟨t,e⟩:=r
    obtain ⟨h1,h2⟩:=hr
    simp only at h1 h2
    simp only [p2]
    refine aL2 (aEY (λ_=>aEV ⟨h,rfl⟩) λhe=>?_)
    have hlt:t.bP.length<40:=by rw [h1.rc];exact (h2 he).1
    exact x_a (aL2 (x_a (aEV ⟨h1.q.aXS hlt ⟨hq.1,hq.2,hq.1,hq.2,aP0,(h2 he).2⟩,h1.dn⟩)))
theorem aQ0 {a b:Int}:Tot (lU a b):=by
  unfold lU aGP;simp only [WT.run,O9]
  exact aEV trivial
theorem aZA {n:Nat} {s:aA} {o:aS} (hn:250<=n) (h:SQ s) (hq:XE o.aQ/\XE o.bD) (hi:In' s o.E o.Item):Ex (Kp s) (OX n s o):=by
  unfold OX aFY;simp only [WT.run,O9]
  refine aL2 (aEY (λ_=>aEV ⟨h,rfl⟩) λh40=>tF _ (aR6 hn h hq.1) λf hf=>aL2 (aEY (λ_=>aEV ⟨h,rfl⟩) λhne=>tF _ aQ0 λ_ _=>aL2 (tF _ aQ0 λ_ _=>tF _ aQ0 λ_ _=>aL2 (tF _ aQ0 λ_ _=>tF _ (aQ9 hn hf.1.q (by simp)) λp hp=>aL2 (aEY (λ_=>aEV ⟨h,rfl⟩) λ_=>tF _ (aQ4 hp.q) λu hu=>aL2 (aEY (λ_=>aEV ⟨h,rfl⟩) λ_=>ON hi.e0 hi.e1 λx hx=>?_))))))
  have hk:=(hf.1.trans hp).trans hu
  have hlt:u.1.bU.length<40:=by rw [hk.sl];omega
  exact aL2 (x_a (aL2 (x_a (aEV ⟨hk.q.a05 hlt ⟨hq.1,aP0,hf.2.1.2.1,hf.2.1.2.2,hf.2.2 (Classical.not_not.1 hne)⟩,hk.dn⟩))))
theorem aYB {s:aA} {o:aS} (h:SQ s):Ex (Kp s) (LU s o):=by
  unfold LU aOR;simp only [WT.run,O9]
  refine aL2 (aEY (λ_=>aEV ⟨h,rfl⟩) λ_=>tF _ (aGE h) λy hy=>aL2 (aEY (λ_=>aEV ⟨h,rfl⟩) λhy'=>?_))
  have hi:=hy (Classical.not_not.1 hy')
  refine ON hi.e0 hi.e1 λx hx=>aL2 (aEY (λ_=>aEV ⟨h,rfl⟩) λhp=>?_)
  have hxq:=h.at hx
  have:=h.el;have:=hxq.pr;have:=hi.i0
  exact x_a (aQZ hi.e0 hx (x_a (ON hi.i0 (by omega) λ_ _=>aL2 (aEV ⟨h.set ⟨hxq.pl,hxq.pq,hxq.bl,hxq.rl,by simp;omega,hxq.dn,hxq.ah⟩,rfl⟩))))
end Go.Pv
