import Derived.Test.YtihfgehjjbnffaaGreatTH80
set_option linter.unusedVariables false
set_option linter.unusedSimpArgs false
namespace Go.Pv
open Go.Proofs
set_option maxRecDepth 100000
set_option maxHeartbeats 1000000
def VA (x:aQ):Prop:=0<=x.jH/\x.jH<17
theorem aBL {a:Int}:Ex (λb=>b=true->0<=a/\a<17) (zD a):=by
  unfold zD QJ;simp only [WT.run,bU]
  refine aB (λb=>b=true->0<=a/\a<17) (aD (aU (λh=>aD (aF λh'=>⟨h,of_decide_eq_true h'⟩)) λ_=>aF λh=>by cases h)) λb hb=>aF hb
theorem aG9 {a:Int}:mZ (zV a):=by
  unfold zV O1;simp only [WT.run,bU]
  repeat' with_reducible first | exact aF trivial | refine cO ?_ | refine jV ?_ | apply aD | refine bP (by omega) (by omega) λ_ _=>?_ | exact bM trivial | exact bM ⟨by omega,by (first | rfl | omega | (simp only;omega)),trivial⟩ | refine dI ?_ | refine jA (λ_ _=>?_) λ_ _=>trivial | apply jP | apply kL | apply jR | apply jS | apply kF | apply kH | apply jW | apply jZ | apply kC | refine aU (λ_=>?_) λ_=>?_ | refine iK (λ_=>?_) λ_=>?_ | refine cZ (λ_=>?_) λ_=>?_ | apply x_cT | apply x_cF | apply fJ | apply bZ | refine aB _ gF λ_ _=>?_ | refine aB _ fE λ_ _=>?_ | refine aB _ eZ λ_ _=>?_ | refine aB _ gG λ_ _=>?_ | refine aB _ fT λ_ _=>?_ | refine aB _ gH λ_ _=>?_ | refine aB _ gI λ_ _=>?_ | refine aB _ (gF (by assumption)) λ_ _=>?_ | refine aB _ (fE (by assumption)) λ_ _=>?_ | refine aB _ (eZ (by assumption)) λ_ _=>?_ | refine aB _ (gG (by assumption)) λ_ _=>?_ | refine aB _ (fT (by assumption)) λ_ _=>?_ | refine aB _ (gH (by assumption)) λ_ _=>?_ | refine aB _ (gI (by assumption)) λ_ _=>?_
theorem aMH {x:aQ}:Ex (λb=>b=false->VA x) (CE x):=by
  unfold CE PD;simp only [WT.run,bU]
  exact aB (λb=>b=false->VA x) (aB _ aBL λb hb=>aD (iK (λ_=>aF λh=>by cases h) λhb'=>aB _ aG9 λc _=>aD (aF λ_=>hb hb'))) λb hb=>aF hb
theorem ME {x:aQ}:mZ (GJ x):=by
  unfold GJ Z0;simp only [WT.run,bU]
  repeat' with_reducible first | exact aF trivial | refine cO ?_ | refine jV ?_ | apply aD | refine bP (by omega) (by omega) λ_ _=>?_ | exact bM trivial | exact bM ⟨by omega,by (first | rfl | omega | (simp only;omega)),trivial⟩ | refine dI ?_ | refine jA (λ_ _=>?_) λ_ _=>trivial | apply jP | apply kL | apply jR | apply jS | apply kF | apply kH | apply jW | apply jZ | apply kC | refine aU (λ_=>?_) λ_=>?_ | refine iK (λ_=>?_) λ_=>?_ | refine cZ (λ_=>?_) λ_=>?_ | apply x_cT | apply x_cF | apply fJ | apply bZ | refine aB _ gF λ_ _=>?_ | refine aB _ fE λ_ _=>?_ | refine aB _ eZ λ_ _=>?_ | refine aB _ gG λ_ _=>?_ | refine aB _ fT λ_ _=>?_ | refine aB _ gH λ_ _=>?_ | refine aB _ gI λ_ _=>?_ | refine aB _ (gF (by assumption)) λ_ _=>?_ | refine aB _ (fE (by assumption)) λ_ _=>?_ | refine aB _ (eZ (by assumption)) λ_ _=>?_ | refine aB _ (gG (by assumption)) λ_ _=>?_ | refine aB _ (fT (by assumption)) λ_ _=>?_ | refine aB _ (gH (by assumption)) λ_ _=>?_ | refine aB _ (gI (by assumption)) λ_ _=>?_
theorem YP {x:aQ}:mZ (zC x):=by
  unfold zC O3;simp only [WT.run,bU]
  repeat' with_reducible first | exact aF trivial | refine cO ?_ | refine jV ?_ | apply aD | refine bP (by omega) (by omega) λ_ _=>?_ | exact bM trivial | exact bM ⟨by omega,by (first | rfl | omega | (simp only;omega)),trivial⟩ | refine dI ?_ | refine jA (λ_ _=>?_) λ_ _=>trivial | apply jP | apply kL | apply jR | apply jS | apply kF | apply kH | apply jW | apply jZ | apply kC | refine aU (λ_=>?_) λ_=>?_ | refine iK (λ_=>?_) λ_=>?_ | refine cZ (λ_=>?_) λ_=>?_ | apply x_cT | apply x_cF | apply fJ | apply bZ | refine aB _ gF λ_ _=>?_ | refine aB _ fE λ_ _=>?_ | refine aB _ eZ λ_ _=>?_ | refine aB _ gG λ_ _=>?_ | refine aB _ fT λ_ _=>?_ | refine aB _ gH λ_ _=>?_ | refine aB _ gI λ_ _=>?_ | refine aB _ (gF (by assumption)) λ_ _=>?_ | refine aB _ (fE (by assumption)) λ_ _=>?_ | refine aB _ (eZ (by assumption)) λ_ _=>?_ | refine aB _ (gG (by assumption)) λ_ _=>?_ | refine aB _ (fT (by assumption)) λ_ _=>?_ | refine aB _ (gH (by assumption)) λ_ _=>?_ | refine aB _ (gI (by assumption)) λ_ _=>?_
theorem aFJ {a:Int}:mZ (G7 a):=by
  unfold G7 aEV;simp only [WT.run,bU]
  repeat' with_reducible first | exact aF trivial | refine cO ?_ | refine jV ?_ | apply aD | refine bP (by omega) (by omega) λ_ _=>?_ | exact bM trivial | exact bM ⟨by omega,by (first | rfl | omega | (simp only;omega)),trivial⟩ | refine dI ?_ | refine jA (λ_ _=>?_) λ_ _=>trivial | apply jP | apply kL | apply jR | apply jS | apply kF | apply kH | apply jW | apply jZ | apply kC | refine aU (λ_=>?_) λ_=>?_ | refine iK (λ_=>?_) λ_=>?_ | refine cZ (λ_=>?_) λ_=>?_ | apply x_cT | apply x_cF | apply fJ | apply bZ | refine aB _ gF λ_ _=>?_ | refine aB _ fE λ_ _=>?_ | refine aB _ eZ λ_ _=>?_ | refine aB _ gG λ_ _=>?_ | refine aB _ fT λ_ _=>?_ | refine aB _ gH λ_ _=>?_ | refine aB _ gI λ_ _=>?_ | refine aB _ (gF (by assumption)) λ_ _=>?_ | refine aB _ (fE (by assumption)) λ_ _=>?_ | refine aB _ (eZ (by assumption)) λ_ _=>?_ | refine aB _ (gG (by assumption)) λ_ _=>?_ | refine aB _ (fT (by assumption)) λ_ _=>?_ | refine aB _ (gH (by assumption)) λ_ _=>?_ | refine aB _ (gI (by assumption)) λ_ _=>?_
theorem aFG {a b:Int}:mZ (EY a b):=by
  unfold EY aGC;simp only [WT.run,bU]
  refine aB _ aFJ λ_ _=>aB _ aFJ λ_ _=>?_
  repeat' with_reducible first | exact aF trivial | refine cO ?_ | refine jV ?_ | apply aD | refine bP (by omega) (by omega) λ_ _=>?_ | exact bM trivial | exact bM ⟨by omega,by (first | rfl | omega | (simp only;omega)),trivial⟩ | refine dI ?_ | refine jA (λ_ _=>?_) λ_ _=>trivial | apply jP | apply kL | apply jR | apply jS | apply kF | apply kH | apply jW | apply jZ | apply kC | refine aU (λ_=>?_) λ_=>?_ | refine iK (λ_=>?_) λ_=>?_ | refine cZ (λ_=>?_) λ_=>?_ | apply x_cT | apply x_cF | apply fJ | apply bZ | refine aB _ gF λ_ _=>?_ | refine aB _ fE λ_ _=>?_ | refine aB _ eZ λ_ _=>?_ | refine aB _ gG λ_ _=>?_ | refine aB _ fT λ_ _=>?_ | refine aB _ gH λ_ _=>?_ | refine aB _ gI λ_ _=>?_ | refine aB _ (gF (by assumption)) λ_ _=>?_ | refine aB _ (fE (by assumption)) λ_ _=>?_ | refine aB _ (eZ (by assumption)) λ_ _=>?_ | refine aB _ (gG (by assumption)) λ_ _=>?_ | refine aB _ (fT (by assumption)) λ_ _=>?_ | refine aB _ (gH (by assumption)) λ_ _=>?_ | refine aB _ (gI (by assumption)) λ_ _=>?_
def iA (l:List aQ):Prop:=∀ x∈l,VA x
theorem iA.at {l:List aQ} (h:iA l) {i:Nat} {x:aQ} (hx:l[i]?=some x):VA x:=h x (List.mem_of_getElem? hx)
theorem iA.set {l:List aQ} (h:iA l) {i:Nat} {x:aQ} (hx:VA x):iA (l.set i x):=λy hy=>by
  rcases List.mem_or_eq_of_mem_set hy with hy | rfl
  · exact h y hy
  · exact hx
theorem iA.app {l:List aQ} (h:iA l) {x:aQ} (hx:VA x):iA (l++[x]):=λy hy=>by
  rcases List.mem_append.1 hy with hy | hy
  · exact h y hy
  · rw [List.mem_singleton.1 hy];exact hx
theorem aEB {n:Nat} {l:List aQ} (hn:250<=n) (hl:l.length<20):Ex (λr=>iA r.1/\r.1.length<20) (xC n l):=by
  unfold xC PU;simp only [WT.run,bU]
  refine aB (λb=>b=false->iA l) (aB (λj=>j<0->iA l) (aB (λr=>match r with | .inl _=>iA l | .inr j=>0<=j) (gJ (m:=l.length) (λv=>v) (λv=>∀ (j:Nat) x,(j:Int)<v->l[j]?=some x->VA x) ⟨by simp,by simp,λj x h=>absurd h (by simp)⟩ (by omega) λv h1 h2 h3=>?_) λr hr=>?_) λj hj=>aD (aF λh=>hj (Int.not_le.1 (of_decide_eq_false h)))) λb hb=>cZ (λ_=>aF ⟨(λx h=>by cases h),by simp⟩) λhb'=>?_
  · refine aD (aU (λhv=>bP h1 hv λx hx=>aB _ aMH λb hb=>cZ (λ_=>bZ (bZ (aF h1))) λhb'=>cO (bM ⟨hv,rfl,λj y hj hy=>?_⟩)) λhv=>bZ (bM λx hx=>?_))
    · by_cases e:(j:Int)=v
      · rw [show v.toNat=j by omega,hy] at hx;cases hx;exact hb hb'
      · exact h3 j y (by omega) hy
    · obtain ⟨j,hj⟩:=List.getElem?_of_mem hx
      have hjl:=(List.getElem?_eq_some_iff.1 hj).1
      have hv':¬ v<(l.length:Int):=hv
      exact h3 j x (by omega) hj
  · cases r with
    | inl u=>exact aF λ_=>hr
    | inr j=>exact ⟨_,rfl,λh=>absurd h (Int.not_lt.2 hr)⟩
  have hV:=hb hb'
  have once:∀ {p:Prop} [Decidable p],¬ p->Ex (λ_=>True) (iter (λ_:Unit=>bnd (decide p) λx=>gZ (x=false) (esc (some ()):Option (Unit⊕Unit))) n ()):=λ{p} _ hp=>qG (λ_=>True) (λ_=>0) (λ_ _=>aD (gU (decide_eq_false hp) (bZ (aF trivial)))) trivial (by omega)
  have hid:∀ {β:Type} {P:β->Prop} {D:Option β},Ex P D->Ex P (D.bind λy=>some y):=λ{β P D} h=>aB P h λa ha=>aF ha
  refine dI (aB (λr=>iA r/\r.length=l.length) (hid (hid (aB _ (once (by omega)) λ_ _=>aB (λr=>iA r/\r.length=l.length) (hid ?_) λy hy=>gU hy.2 (aB _ (once (by omega)) λ_ _=>aF hy)))) λy hy=>gU hy.2 ?_)
  · refine qG (λv=>1<=v.1/\iA v.2/\v.2.length=l.length) (λv=>((l.length:Int)-v.1).toNat) (λv hv=>?_) ⟨by simp,hV,rfl⟩ (by simp only;omega)
    obtain ⟨k,q⟩:=v
    obtain ⟨h1,h2,h3⟩:=hv
    simp only at h1 h2 h3
    simp only [p2]
    refine aD (aU (λhk=>aB (λr=>iA r/\r.length=l.length) (hid ?_) λr hr=>cO (bM ⟨⟨by omega,hr.1,hr.2⟩,by omega⟩)) λ_=>bZ (aF ⟨h2,h3⟩))
    refine qG (λw=>0<=w.1/\w.1<(l.length:Int)/\iA w.2/\w.2.length=l.length) (λw=>w.1.toNat) (λw hw=>?_) ⟨by simp only;omega,hk,h2,h3⟩ (by simp only;omega)
    obtain ⟨j,q⟩:=w
    obtain ⟨g1,g2,g3,g4⟩:=hw
    simp only at g1 g2 g3 g4
    simp only [p2]
    refine aB (λb=>b=true->0<j) (aD (aU (λhj=>bP g1 (by omega) λa ha=>cO (bP (by omega) (by omega) λb hb=>aB (λ_=>True) (aB _ ME λ_ _=>aB _ ME λ_ _=>aB _ aFG λ_ _=>aF trivial) λ_ _=>aD (aF λ_=>hj))) λ_=>aF λh=>by cases h)) λb hb=>cZ (λhb'=>?_) λ_=>bZ (aF ⟨g3,g4⟩)
    have hj:=hb hb'
    refine cO (cO (bP (by omega) (by omega) λa ha=>bP g1 (by omega) λc hc=>aD (bP (by omega) (by simp;omega) λ_ _=>aD (cO (bM ⟨⟨by omega,by omega,(g3.set (g3.at ha)).set (g3.at hc),by simp;exact g4⟩,by simp only;omega⟩)))))
  · obtain ⟨hy1,hy2⟩:=hy
    refine aB (λr=>match r with | .inl q=>iA q/\q.length<=l.length | .inr r=>iA r.1/\r.1.length<20) (gJ (m:=l.length) (λv=>v.1) (λv=>iA v.2/\(v.2.length:Int)<=v.1) ⟨by simp,by simp,(λx h=>by cases h),by simp⟩ (by omega) λv h1 h2 h3=>?_) λr hr=>?_
    · obtain ⟨k,q⟩:=v
      simp only at h1 h2 h3
      simp only [p2]
      have h32:=h3.2
      refine aD (aU (λhk=>aB (λr=>match r with | .inl q=>iA q/\(q.length:Int)<=k+1 | .inr t=>match t with | .inl _=>False | .inr t=>match t with | .inl _=>False | .inr r=>iA r.1/\r.1.length<20) (bP h1 (by omega) λa ha=>cO (aB (λb=>b=true->(0:Int)<=q.length-1) (aD (aU (λhp=>bP hp (by omega) λb hb=>aD (aF λ_=>hp)) λ_=>aF λh=>by cases h)) λb hb=>cZ (λhb'=>?_) λ_=>aD (gU (by rw [List.length_append];simp;omega) (bM ⟨h3.1.app (hy1.at ha),by rw [List.length_append];simp;omega⟩)))) λr hr=>?_) λ_=>bZ (bM ⟨h3.1,by omega⟩))
      · exact bP (hb hb') (by omega) λb hb=>aB _ fE λc hc=>aD (aU (λ_=>bZ (bZ (bZ (aF ⟨(λx h=>by cases h),by simp⟩)))) λ_=>aD (bM ⟨h3.1.set (show VA (⟨b.jH,c.1⟩:aQ) from (h3.1.at hb:VA b)),by simp;omega⟩))
      · cases r with
        | inl r=>exact fJ (cO (bM ⟨hk,rfl,hr.1,by have:=hr.2;simp only;omega⟩))
        | inr r=>cases r with
          | inl r=>exact hr.elim
          | inr r=>cases r with
            | inl r=>exact hr.elim
            | inr r=>exact ⟨_,rfl,hr⟩
    · cases r with
      | inr r=>exact ⟨_,rfl,hr⟩
      | inl q =>
        obtain ⟨hq1,hq2⟩:=hr
        refine fJ (aB (λr=>r.1+r.2.1<=r.2.2.length/\iA r.2.2/\r.2.2.length<20) (aB (λj=>j=-1\/0<=j/\j<(q.length:Int)) (aB (λr=>match r with | .inl _=>True | .inr j=>0<=j/\j<(q.length:Int)) (gJ (m:=q.length) (λv=>v) (λ_=>True) ⟨by simp,by simp,trivial⟩ (by omega) λv h1 h2 _=>?_) λr hr=>?_) λj hj=>?_) λr hr=>?_)
        · exact aD (aU (λhv=>bP h1 hv λx hx=>aB _ YP λb _=>cZ (λ_=>bZ (bZ (aF ⟨h1,hv⟩))) λ_=>cO (bM ⟨hv,rfl,trivial⟩)) λ_=>bZ (bM trivial))
        · cases r with
          | inl _=>exact fJ (aF (.inl rfl))
          | inr j=>exact ⟨_,rfl,.inr hr⟩
        · refine aD (aU (λ_=>aF ⟨by simp,hq1,by simp only;omega⟩) λhne=>?_)
          obtain ⟨j0,j1⟩:0<=j/\j<(q.length:Int):=hj.resolve_left hne
          have w1:bA (j+1)=j+1:=wrap64 ⟨Int.le_trans (by decide) (Int.add_nonneg j0 (by decide)),Int.le_trans (Int.add_one_le_of_lt j1) (by omega)⟩
          rw [w1]
          refine aD (aB (λw=>0<=w.1/\w.1<(q.length:Int)/\iA w.2/\w.2.length=q.length) (qG (λw=>0<=w.1/\w.1<w.2.1/\w.2.1<=(q.length:Int)/\iA w.2.2/\w.2.2.length=q.length) (λw=>((q.length:Int)-w.2.1).toNat) (λw hw=>?_) ⟨j0,Int.lt_succ j,Int.add_one_le_of_lt j1,hq1,rfl⟩ (by simp only;omega)) λw hw=>?_)
          · obtain ⟨a,b,q'⟩:=w
            obtain ⟨g1,g2,g3,g4,g5⟩:=hw
            simp only at g1 g2 g3 g4 g5
            simp only [p2]
            refine aD (aU (λhb=>aB (λt=>0<=t.1/\t.1<b+1/\iA t.2/\t.2.length=q.length) (bP (by omega) hb λx hx=>aB _ YP λc _=>aD (iK (λ_=>bP g1 (by omega) λ_ _=>aD (cO (aF ⟨by simp only;omega,by simp only;omega,g4.set (g4.at hx),by simp;exact g5⟩))) (λ_=>aF ⟨g1,by simp only;omega,g4,g5⟩))) λt ht=>cO (bM ⟨⟨ht.1,ht.2.1,by simp only;omega,ht.2.2.1,ht.2.2.2⟩,by simp only;omega⟩)) λ_=>bZ (aF ⟨g1,by simp only;omega,g4,g5⟩))
          · obtain ⟨a,q'⟩:=w
            obtain ⟨g1,g2,g3,g4⟩:=hw
            simp only at g1 g2 g3 g4
            simp only [p2]
            exact dI (aD (dI (aF ⟨by simp only [List.length_take];omega,λx hx=>g3 x (List.mem_of_mem_take hx),by simp only [List.length_take];omega⟩)))
        · obtain ⟨a,b,q'⟩:=r
          obtain ⟨g1,g2,g3⟩:=hr
          simp only at g1 g2 g3
          simp only [p2]
          exact gU g1 (aF ⟨λx hx=>g2 x (List.mem_of_mem_drop (List.mem_of_mem_take hx)),by simp only [List.length_take,List.length_drop];omega⟩)
theorem aUS {n:Nat} {l:List aQ} (hn:250<=n) (hl:l.length<20):mZ (BI n l):=by
  unfold BI RP;simp only [WT.run,bU]
  refine aB (λa=>a.length<250) (gJ (m:=l.length) (λv=>v.1) (λv=>(v.2.length:Int)=v.1) ⟨by simp,by simp,by simp⟩ (by omega) λv h1 h2 h3=>?_) λa ha=>?_
  · obtain ⟨i,p⟩:=v
    simp only at h1 h2 h3
    repeat' with_reducible first | exact aF trivial | refine cO ?_ | refine jV ?_ | apply aD | refine bP (by omega) (by omega) λ_ _=>?_ | exact bM trivial | exact bM ⟨by omega,by (first | rfl | omega | (simp only;omega)),trivial⟩ | refine dI ?_ | refine jA (λ_ _=>?_) λ_ _=>trivial | apply jP | apply kL | apply jR | apply jS | apply kF | apply kH | apply jW | apply jZ | apply kC | refine aU (λ_=>?_) λ_=>?_ | refine iK (λ_=>?_) λ_=>?_ | refine cZ (λ_=>?_) λ_=>?_ | apply x_cT | apply x_cF | apply fJ | apply bZ | refine aB _ gF λ_ _=>?_ | refine aB _ fE λ_ _=>?_ | refine aB _ eZ λ_ _=>?_ | refine aB _ gG λ_ _=>?_ | refine aB _ fT λ_ _=>?_ | refine aB _ gH λ_ _=>?_ | refine aB _ gI λ_ _=>?_ | refine aB _ (gF (by assumption)) λ_ _=>?_ | refine aB _ (fE (by assumption)) λ_ _=>?_ | refine aB _ (eZ (by assumption)) λ_ _=>?_ | refine aB _ (gG (by assumption)) λ_ _=>?_ | refine aB _ (fT (by assumption)) λ_ _=>?_ | refine aB _ (gH (by assumption)) λ_ _=>?_ | refine aB _ (gI (by assumption)) λ_ _=>?_
    all_goals (first | refine bM ?_ | refine aF ?_) <;> (try simp only [List.length_append,List.length_cons,List.length_nil,List.length_set] at *) <;> (repeat' apply And.intro) <;> (first | trivial | omega)
  · exact aB _ (eZ ⟨ha,hn⟩) λ_ _=>aF trivial
theorem aUO {x:aQ}:mZ (C9 x):=by
  unfold C9 QI;simp only [WT.run,bU]
  exact aB (λ_=>True) (aB _ aBL λ_ _=>aD (cZ (λ_=>aF trivial) λ_=>aD (cZ (λ_=>aF trivial) λ_=>aB _ aG9 λ_ _=>aD (aF trivial)))) λ_ _=>aF trivial
theorem aVS {n:Nat} {l:List aQ} (hn:250<=n) (hl:l.length<20):mZ (D5 n l):=by
  unfold D5 SG;simp only [WT.run,bU]
  refine aB (λ_=>True) (aD (cZ (λ_=>aF trivial) λ_=>aD (aF trivial))) λ_ _=>cZ (λ_=>aF trivial) λ_=>aB _ (aUS hn hl) λ_ _=>aB (λ_=>True) (aB (λ_=>True) (aB (λ_=>True) (aB (λ_=>True) (gJ (m:=l.length) (λv=>v) (λ_=>True) ⟨by simp,by simp,trivial⟩ (by omega) λv h1 h2 _=>?_) λr _=>?_) λ_ _=>aD (aF trivial)) λ_ _=>aD (cZ (λ_=>aD (cZ (λ_=>aD (aF trivial)) λ_=>aF trivial)) λ_=>aF trivial)) λ_ _=>aF trivial
  · exact aD (aU (λhv=>bP h1 hv λx hx=>aB _ aUO λb _=>cZ (λ_=>bZ (bZ (aF trivial))) λ_=>cO (bM ⟨hv,rfl,trivial⟩)) λ_=>bZ (bM trivial))
  · exact jA (λ_ _=>aF trivial) λ_ _=>trivial
theorem aO3 {n:Nat} {b:List Int} {l:List aQ} (hn:250<=n) (hb:b.length<=40) (hl:l.length<20):Ex (λr=>r.1.length<=40) (AX n b l):=by
  unfold AX VD;simp only [WT.run,bU]
  refine aD (aU (λ_=>aF (by simp)) λh17=>?_)
  have hb17:b.length=17:=by omega
  refine aB (λr=>match r with | .inl _=>True | .inr q=>q.length<=40) (dI (aB (λr=>r.2.length=b.length) (aB _ (aEB hn hl) λp hp=>aB (λ_=>True) (aD (cZ (λ_=>aF trivial) λ_=>aD (cZ (λ_=>aB _ (aVS hn hp.2) λ_ _=>aD (aF trivial)) λ_=>aF trivial))) λ_ _=>cZ (λ_=>aF rfl) λ_=>aB (λr=>match r with | .inl q=>q.length=b.length | .inr t=>t.2.length=b.length) (gJ (m:=p.1.length) (λv=>v.1) (λv=>v.2.length=b.length) ⟨by simp,by simp,rfl⟩ (by have:=hp.2;omega) λv h1 h2 h3=>?_) λr hr=>?_) λr hr=>?_)) λy hy=>?_
  · obtain ⟨k,q⟩:=v
    simp only at h1 h2 h3
    simp only [p2]
    refine aD (aU (λhk=>bP h1 hk λx hx=>?_) λ_=>bZ (bM h3))
    have hv:=hp.1.at hx
    exact bP hv.1 (by have:=hv.2;omega) λz hz=>aB _ fE λc hc=>aD (aD (aU (λ_=>bZ (bZ (aF (by simp;exact h3)))) λ_=>cO (bM ⟨hk,rfl,by simp;exact h3⟩)))
  · cases r with
    | inl q=>exact fJ (aF hr)
    | inr t=>exact ⟨_,rfl,hr⟩
  · obtain ⟨a,c⟩:=r
    simp only at hr
    simp only [p2]
    exact aD (aU (λ_=>dI (aF trivial)) λ_=>gU hr (aF (by simp only;omega)))
  · cases y with
    | inl a=>exact aF hb
    | inr q=>exact aF hy
theorem aKA {n:Nat} {s:aA} {e:Int} {l:List aQ} (hn:250<=n) (h:SQ s) (hl:l.length<20):Ex (λr=>SK s r.1) (nP n s e l):=by
  have hel:=h.el
  unfold nP KH;simp only [WT.run,bU]
  refine aB (λb=>b=false->0<=e/\e<(s.aW.length:Int)) (aD (aU (λ_=>aF λh=>by cases h) λh1=>aD (aF λh2=>by have:=of_decide_eq_false h2;omega))) λb hb=>cZ (λ_=>aF h.rf) λhb'=>?_
  obtain ⟨e0,e1⟩:=hb hb'
  refine aB _ (aEB hn hl) λp hp=>aD (aU (λ_=>aF h.rf) λ_=>bP e0 e1 λx hx=>?_)
  have hxq:=h.at hx
  refine aB _ (aO3 hn hxq.bl hp.2) λg hg=>aD (aU (λ_=>aF h.rf) λ_=>aB (λ_=>True) (dI (bP e0 e1 λ_ _=>aF trivial)) λ_ _=>iL e0 hx (aD (aF (h.EW ⟨hxq.pl,hxq.pq,hg,hxq.rl,hxq.pr,hxq.dn,hxq.ah⟩ hx))))
theorem SQ.aJE {t:aA} (h:SQ t) {r:dH} (hl:t.dG.length<40) (hr:V5 r):SQ ⟨t.bF,t.aW,t.dG++[r],t.dO,t.bL,t.Done⟩:=⟨h.el,h.eq,h.wl,h.ml,h.mq,h.cl,h.cq,by simp;omega,λx hx=>by
  rcases List.mem_append.1 hx with hx | hx
  · exact h.rq x hx
  · rw [List.mem_singleton.1 hx];exact hr,h.sl,h.sq,h.tl,h.tq⟩
theorem SQ.aKY {t:aA} (h:SQ t) {r:dV} (hl:t.dO.length<40) (hr:SlQ r):SQ ⟨t.bF,t.aW,t.dG,t.dO++[r],t.bL,t.Done⟩:=⟨h.el,h.eq,h.wl,h.ml,h.mq,h.cl,h.cq,h.rl,h.rq,by simp;omega,λx hx=>by
  rcases List.mem_append.1 hx with hx | hx
  · exact h.sq x hx
  · rw [List.mem_singleton.1 hx];exact hr,h.tl,h.tq⟩
abbrev Kp (s:aA) (r:aA×Int):Prop:=SQ r.1/\r.1.Done=s.Done
theorem SQ.atR {s:aA} (h:SQ s) {i:Nat} {x:dH} (hx:s.dG[i]?=some x):V5 x:=h.rq x (List.mem_of_getElem? hx)
theorem SQ.atT {s:aA} (h:SQ s) {i:Nat} {x:dD} (hx:s.bL[i]?=some x):RE x:=h.tq x (List.mem_of_getElem? hx)
theorem SQ.aT5 {t:aA} (h:SQ t) {j:Nat} {a b c d e f:Int} (h1:dB d) (h2:dB e) (h3:dB f):SQ ⟨t.bF,t.aW,t.dG,t.dO,t.bL.set j ⟨a,b,c,d,e,f⟩,t.Done⟩:=⟨h.el,h.eq,h.wl,h.ml,h.mq,h.cl,h.cq,h.rl,h.rq,h.sl,h.sq,by simp;exact h.tl,λx hx=>by
  rcases List.mem_or_eq_of_mem_set hx with hx | rfl
  · exact h.tq x hx
  · exact ⟨h1,h2,h3⟩⟩
theorem SQ.aIQ {t:aA} (h:SQ t) {r:dD} (hl:t.bL.length<40) (hr:RE r):SQ ⟨t.bF,t.aW,t.dG,t.dO,t.bL++[r],t.Done⟩:=⟨h.el,h.eq,h.wl,h.ml,h.mq,h.cl,h.cq,h.rl,h.rq,h.sl,h.sq,by simp;omega,λx hx=>by
  rcases List.mem_append.1 hx with hx | hx
  · exact h.tq x hx
  · rw [List.mem_singleton.1 hx];exact hr⟩
theorem Kp.of {s t:aA} (k:SK s t) {r:aA×Int} (h:Kp t r):Kp s (r.1,r.2):=⟨h.1,h.2.trans k.dn⟩
theorem SQ.cost {s:aA} (h:SQ s) {i:Nat} {l:List Int} (hl:l.length<=10) (hr:∀ c∈l,dB c):SQ ⟨⟨s.bF.fO,s.bF.iB,s.bF.bN,s.bF.Methods,s.bF.fM.set i l⟩,s.aW,s.dG,s.dO,s.bL,s.Done⟩:=⟨h.el,h.eq,h.wl,h.ml,h.mq,by simp;exact h.cl,λx hx=>by
  rcases List.mem_or_eq_of_mem_set hx with hx | rfl
  · exact h.cq x hx
  · exact ⟨hl,hr⟩,h.rl,h.rq,h.sl,h.sq,h.tl,h.tq⟩
def sI:List Int->Int
  | []=>0
  | x :: l=>x+sI l
theorem sD (a b:List Int):sI (a++b)=sI a+sI b:=by
  induction a with
  | nil=>simp [sI]
  | cons x a ih=>simp only [List.cons_append,sI,ih];omega
theorem XP {a b c:Int} (ha:0<=a) (hb:0<=b) (hc:b<=c):0<=(md a b c).1/\(md a b c).1<=a:=by
  have h0:0<=a*b:=Int.mul_nonneg ha hb
  unfold md
  split
  · exact ⟨Int.le_refl 0,ha⟩
  · rename_i k
    split
    · exact ⟨Int.le_refl 0,ha⟩
    · refine ⟨Int.ediv_nonneg h0 (by omega),?_⟩
      have h1:a*b<=a*c:=Int.mul_le_mul_of_nonneg_left hc ha
      have h2:a*b / c*c<=a*b:=Int.ediv_mul_le _ (by omega)
      exact Int.le_of_mul_le_mul_right (Int.le_trans h2 h1) (by omega)
theorem XK (a:Int):vN a=some (decide (gY a)):=by
  unfold vN P7 gY
  simp only [WT.run,bU]
  by_cases h1:a>=-288230376151711744
  · by_cases h2:a<=288230376151711744
    · simp [bnd,h1,h2,cond]
    · simp [bnd,h1,h2,cond]
  · simp [bnd,h1,cond]
theorem GL (a b:Int):mG a b=some (sN a b):=by
  unfold mG SI sN
  simp only [WT.run,bU,XK,Option.bind_some]
  by_cases h1:gY a
  · by_cases h2:gY b
    · have e:bA (a+b)=a+b:=by unfold gY at h1 h2;exact wrap64 (by omega)
      by_cases h3:gY (a+b)
      · simp [bnd,h1,h2,h3,cond,e]
      · simp [bnd,h1,h2,h3,cond,e]
    · simp [bnd,h1,h2,cond]
  · simp [bnd,h1,cond]
theorem aHO:∀ {l:List Int} {n v:Int},mI n l=some v->v=n+sI l
  | [],n,v,h=>by simp only [mI,Option.some.injEq] at h;simp only [sI];omega
  | x :: l,n,v,h=>by
    simp only [mI] at h
    split at h
    · have:=aHO h;simp only [sI];omega
    · cases h
def eT:List Int->Int
  | []=>0
  | x :: l=>(x.natAbs:Int)+eT l
theorem GM:∀ l:List Int,0<=eT l
  | []=>by simp [eT]
  | x :: l=>by have:=GM l;simp only [eT];omega
theorem E5 (a b:List Int):eT (a++b)=eT a+eT b:=by
  induction a with
  | nil=>simp [eT]
  | cons x a ih=>simp only [List.cons_append,eT,ih];omega
theorem NE:∀ l:List Int,((sI l).natAbs:Int)<=eT l
  | []=>by simp [eT,sI]
  | x :: l=>by have:=NE l;simp only [eT,sI];omega
theorem aD6:∀ {l:List Int} {n:Int},(n.natAbs:Int)+eT l<=288230376151711744->mI n l=some (n+sI l)
  | [],n,h=>by simp [mI,sI]
  | x :: l,n,h=>by
    have:=GM l
    simp only [eT] at h
    have hc:gY n/\gY x/\gY (n+x):=by unfold gY;omega
    simp only [mI,if_pos hc,sI]
    rw [aD6 (by omega)];congr 1;omega
theorem pY {l:List Int} (h:eT l<=288230376151711744):jC l=(sI l,0):=by
  unfold jC;rw [aD6 (by simpa using h)];simp
theorem JC {l:List Int} (h:(jC l).2=0):(jC l).1=sI l:=by
  unfold jC at h ⊢
  cases e:mI 0 l with
  | none=>rw [e] at h;exact absurd h (show ¬ (2:Int)=0 by decide)
  | some v=>have:=aHO e;simp only;omega
theorem aDW:∀ {l:List Int} {n v:Int},(∀ x∈l,0<=x)->mI n l=some v->gY n->gY v/\∀ x∈l,x<=288230376151711744
  | [],n,v,_,h,hn=>by simp only [mI,Option.some.injEq] at h;subst h;exact ⟨hn,λ_ h=>by cases h⟩
  | x :: l,n,v,hx,h,hn=>by
    simp only [mI] at h
    split at h
    · rename_i k
      obtain ⟨h1,h2⟩:=aDW (λy hy=>hx y (List.mem_cons_of_mem _ hy)) h k.2.2
      refine ⟨h1,λy hy=>?_⟩
      rcases List.mem_cons.1 hy with rfl | hy
      · exact k.2.1.2
      · exact h2 y hy
    · cases h
theorem UF {l:List Int} (hx:∀ x∈l,0<=x) (h:(jC l).2=0):sI l<=288230376151711744:=by
  have h1:=JC h
  unfold jC at h h1
  cases e:mI 0 l with
  | none=>rw [e] at h;exact absurd h (show ¬ (2:Int)=0 by decide)
  | some v =>
    have:=(aDW hx e (by unfold gY;omega)).1.2
    rw [e] at h1
    simp only at h1;omega
theorem U9 {α:Type} {l:List α} {i:Nat} {x:α} (h:l[i]?=some x):i<l.length/\l.drop i=x :: l.drop (i+1):=by
  obtain ⟨hi,e⟩:=List.getElem?_eq_some_iff.1 h
  subst e;exact ⟨hi,List.drop_eq_getElem_cons hi⟩
theorem pI {l:List Int} {n:Nat} (hn:l.length<250/\250<=n):kN n l=some (jC l):=by
  have key:Ex (λr=>r=jC l) (kN n l):=by
    unfold kN SH
    simp only [WT.run,bU,GL,Option.bind_some]
    refine aB (λ(r:Int⊕(Int×Int))=>match r with | .inl a=>mI 0 l=some a | .inr q=>q=jC l) (gJ (m:=l.length) (λv=>v.2) (λv=>mI 0 l=mI v.1 (l.drop v.2.toNat)) ⟨by simp,by simp,by simp⟩ (by omega) λv h0 h1 h2=>?_) ?_
    · obtain ⟨s,i⟩:=v
      simp only at h0 h1 h2
      simp only [p2]
      refine aD (aU (λh=>bP h0 h λx hx=>?_) λh=>?_)
      · refine aD (aU (λh3=>bZ (bZ (aF ?_))) λh3=>?_)
        · have e2:mI 0 l=none:=by
            rw [h2,(U9 hx).2];unfold sN at h3;unfold mI
            by_cases h4:gY s/\gY x/\gY (s+x)
            · rw [if_pos h4] at h3;exact absurd rfl h3
            · rw [if_neg h4]
          have e3:(sN s x).2=2:=by
            unfold sN at h3 ⊢
            by_cases h4:gY s/\gY x/\gY (s+x)
            · rw [if_pos h4] at h3;exact absurd rfl h3
            · rw [if_neg h4]
          show ((0:Int),(sN s x).2)=jC l
          unfold jC;rw [e2,e3]
        · have h4:gY s/\gY x/\gY (s+x):=by
            by_cases h4:gY s/\gY x/\gY (s+x)
            · exact h4
            · unfold sN at h3;rw [if_neg h4] at h3;exact absurd (show ((0:Int),(2:Int)).snd≠0 by decide) h3
          refine cO (bM ⟨h,rfl,?_⟩)
          have e:(i+1).toNat=i.toNat+1:=by omega
          show mI 0 l=mI (sN s x).1 (l.drop (i+1).toNat)
          rw [h2,(U9 hx).2,e];unfold sN;rw [if_pos h4,mI,if_pos h4]
      · refine bZ (bM ?_)
        have e:l.drop i.toNat=[]:=List.drop_eq_nil_of_le (by omega)
        show mI 0 l=some s
        rw [h2,e];rfl
    · intro r hr
      refine jA (λa e=>aF ?_) λq e=>?_
      · subst e;show (a,(0:Int))=jC l;unfold jC;rw [show mI 0 l=some a from hr]
      · subst e;exact hr
  obtain ⟨r,e,rfl⟩:=key;exact e
def lQ (l:List aM):Int:=sI (l.map aM.aS)
def lV (l:List aM):Int:=sI (l.map aM.Value)
def lP (l:List aM):Int:=sI (l.map aM.bE)
def lA (l:List aM):Int:=eT (l.map aM.bE)
def tot (l:List aM):aM:=⟨lQ l,lV l,lP l⟩
theorem map_take {α β:Type} (f:α->β) {l:List α} {i:Int} {x:α} (h0:0<=i) (hx:l[i.toNat]?=some x):(l.take (i+1).toNat).map f=(l.take i.toNat).map f++[f x]:=by
  rw [show (i+1).toNat=i.toNat+1 by omega,List.take_add_one,hx]
  simp
theorem VK {n:Nat} {l:List aM} (hl:l.length<250/\250<=n):Ex (λr=>(r.2=0->r.1=tot l/\(jC (l.map aM.aS)).2=0/\(jC (l.map aM.Value)).2=0/\(jC (l.map aM.bE)).2=0)/\((jC (l.map aM.aS)).2=0/\(jC (l.map aM.Value)).2=0/\(jC (l.map aM.bE)).2=0->r.2=0)) (uR n l):=by
  unfold uR UZ;simp only [WT.run,bU]
  refine aB (λa=>a=(l.map aM.aS,l.map aM.Value,l.map aM.bE)) (gJ (m:=l.length) (λv=>v.1) (λv=>v.2.1=(l.take v.1.toNat).map aM.aS/\v.2.2.1=(l.take v.1.toNat).map aM.Value/\v.2.2.2=(l.take v.1.toNat).map aM.bE) ⟨by simp,by simp,by simp⟩ (by omega) λv h1 h2 h3=>?_) λa ha=>?_
  · obtain ⟨i,p,q,w⟩:=v
    simp only at h1 h2 h3
    obtain ⟨rfl,rfl,rfl⟩:=h3
    simp only [p2]
    have hL:(l.take i.toNat).length<=250:=by simp only [List.length_take];omega
    refine aD (aU (λhk=>bP h1 hk λx hx=>aD (gU (by simp only [List.length_append,List.length_map,List.length_singleton];omega) (aD (gU (by simp only [List.length_append,List.length_map,List.length_singleton];omega) (aD (gU (by simp only [List.length_append,List.length_map,List.length_singleton];omega) (cO (bM ⟨hk,rfl,(map_take _ h1 hx).symm,(map_take _ h1 hx).symm,(map_take _ h1 hx).symm⟩)))))))) λhk=>bZ (aF ?_))
    rw [List.take_of_length_le (by omega)]
  · subst ha
    simp only [p2]
    have e1:=pI (n:=n) (l:=l.map aM.aS) ⟨by simp;omega,hl.2⟩
    have e2:=pI (n:=n) (l:=l.map aM.Value) ⟨by simp;omega,hl.2⟩
    have e3:=pI (n:=n) (l:=l.map aM.bE) ⟨by simp;omega,hl.2⟩
    refine aB (λr=>match r with | .inl a=>(a=tot l/\(jC (l.map aM.aS)).2=0/\(jC (l.map aM.Value)).2=0/\(jC (l.map aM.bE)).2=0) | .inr b=>b.2≠0/\¬ ((jC (l.map aM.aS)).2=0/\(jC (l.map aM.Value)).2=0/\(jC (l.map aM.bE)).2=0)) (x_eq e1 (aD (aU (λk=>bZ (aF ⟨k,λh=>k h.1⟩)) λk1=>x_eq e2 (aD (aU (λk=>bZ (aF ⟨k,λh=>k h.2.1⟩)) λk2=>x_eq e3 (aD (aU (λk=>bZ (aF ⟨k,λh=>k h.2.2⟩)) λk3=>bM ?_))))))) λr hr=>?_
    · have k1:=Classical.not_not.1 k1;have k2:=Classical.not_not.1 k2;have k3:=Classical.not_not.1 k3
      refine ⟨?_,k1,k2,k3⟩
      unfold tot lQ lV lP
      rw [JC k1,JC k2,JC k3]
    · cases r with
      | inl a=>exact aF ⟨λ_=>hr,λ_=>rfl⟩
      | inr b=>exact ⟨_,rfl,λh=>absurd h hr.1,λh=>absurd h hr.2⟩
structure LB (l:List aM):Prop where
  len:l.length<=30
  ok:∀ x∈l,1<=x.aS/\0<=x.Value
  q:lQ l<=288230376151711744
  v:lV l<=288230376151711744
  a:lA l<=288230376151711744
theorem LB.nil:LB []:=⟨by simp,(λ_ h=>by cases h),by decide,by decide,by decide⟩
theorem sO {l:List aM} {f:aM->Int} (h:∀ x∈l,0<=f x):∀ y∈l.map f,0<=y:=λy hy=>by
  obtain ⟨x,hx,rfl⟩:=List.mem_map.1 hy
  exact h x hx
theorem QO:∀ l:List Int,sI (l.map λx=>(x.natAbs:Int))=eT l
  | []=>rfl
  | x :: l=>by simp only [List.map_cons,sI,eT,QO l]
theorem aH2 {x:aM}:Ex (λb=>b=false->1<=x.aS/\0<=x.Value/\gY x.bE) (CF x):=by
  unfold CF QV gY;simp only [WT.run,bU]
  refine aB (λb=>b=false->1<=x.aS/\0<=x.Value/\-288230376151711744<=x.bE/\x.bE<=288230376151711744) ?_ λb hb=>aF hb
  exact aD (aU (λ_=>aF λh=>by cases h) λk1=>aD (aU (λ_=>aF λh=>by cases h) λk2=>aD (aU (λ_=>aF λh=>by cases h) λk3=>aD (aU (λ_=>aF λh=>by cases h) λk4=>aD (aU (λ_=>aF λh=>by cases h) λk5=>aD (aF λh=>by have:=of_decide_eq_false h;omega))))))
theorem aP3 {n:Nat} {l:List aM} (hl:l.length<250/\250<=n) (hp:∀ x∈l,gY x.bE):Ex (λb=>b=true->lA l<=288230376151711744) (EA n l):=by
  unfold EA OX;simp only [WT.run,bU]
  refine aB (λa=>a=l.map λx=>(x.bE.natAbs:Int)) (gJ (m:=l.length) (λv=>v.1) (λv=>v.2=(l.take v.1.toNat).map λx=>(x.bE.natAbs:Int)) ⟨by simp,by simp,by simp⟩ (by omega) λv h1 h2 h3=>?_) λa ha=>?_
  · obtain ⟨i,p⟩:=v
    simp only at h1 h2 h3
    subst h3
    simp only [p2]
    have hL:(l.take i.toNat).length<=250:=by simp only [List.length_take];omega
    refine aD (aU (λhk=>bP h1 hk λx hx=>aD (aD (aD (gU (by simp only [List.length_append,List.length_map,List.length_singleton];omega) (cO (bM ⟨hk,rfl,?_⟩)))))) λhk=>bZ (aF ?_))
    · have hx2:=hp x (List.mem_of_getElem? hx)
      unfold gY at hx2
      rw [map_take (λx:aM=>(x.bE.natAbs:Int)) h1 hx]
      have e:bA (0-x.bE)=- x.bE:=by rw [Int.zero_sub];exact wrap64 (by omega)
      simp only [e]
      congr 2
      split <;> omega
    · rw [List.take_of_length_le (by omega)]
  · subst ha
    refine x_eq (pI ⟨by simp;omega,hl.2⟩) (aD (aF λh=>?_))
    have:=UF (l:=l.map λx=>(x.bE.natAbs:Int)) (sO λx _=>by omega) (of_decide_eq_true h)
    unfold lA
    rw [<- QO,List.map_map];exact this
theorem aXV {n:Nat} {l:List aM} (hn:250<=n):Ex (λb=>b=true->LB l) (uL n l):=by
  unfold uL UM;simp only [WT.run,bU]
  refine aB (λb=>b=false->l.length<=30/\∀ x∈l,1<=x.aS/\0<=x.Value/\gY x.bE) ?_ λb hb=>cZ (λ_=>aF λh=>by cases h) λhb'=>?_
  · refine aD (aU (λ_=>aF λh=>by cases h) λhk=>?_)
    have hk:l.length<=30:=by omega
    refine aB (λb=>b=false->∀ x∈l,1<=x.aS/\0<=x.Value/\gY x.bE) (aB (λb=>b<0->∀ x∈l,1<=x.aS/\0<=x.Value/\gY x.bE) (aB (λr=>match r with | .inl _=>∀ x∈l,1<=x.aS/\0<=x.Value/\gY x.bE | .inr v=>0<=v) (gJ (m:=l.length) (λv=>v) (λv=>∀ x∈l.take v.toNat,1<=x.aS/\0<=x.Value/\gY x.bE) ⟨by simp,by simp,λx h=>by simp at h⟩ (by omega) λv h1 h2 h3=>?_) λr hr=>?_) λc hc=>aD (aF λh=>hc (Int.not_le.1 (of_decide_eq_false h)))) λb hb=>aF λh=>⟨hk,hb h⟩
    · refine aD (aU (λhk=>bP h1 hk λx hx=>aB _ aH2 λb hb=>cZ (λ_=>bZ (bZ (aF h1))) λhb'=>cO (bM ⟨hk,rfl,λy hy=>?_⟩)) λhk=>bZ (bM ?_))
      · rw [show (v+1).toNat=v.toNat+1 by omega,List.take_add_one,hx] at hy
        rcases List.mem_append.1 hy with hy | hy
        · exact h3 y hy
        · rw [Option.toList_some,List.mem_singleton] at hy;rw [hy];exact hb hb'
      · rw [List.take_of_length_le (by omega)] at h3;exact h3
    · cases r with
      | inl u=>exact fJ (aF λ_=>hr)
      | inr v=>exact ⟨_,rfl,λh=>absurd h (Int.not_lt.2 hr)⟩
  · obtain ⟨h1,h2⟩:=hb hb'
    refine aB _ (VK ⟨by omega,hn⟩) λt ht=>aB (λb=>b=true->LB l) (aD (aU (λk=>aB _ (aP3 ⟨by omega,hn⟩ λx hx=>(h2 x hx).2.2) λb hb=>aF λh=>?_) λ_=>aF λh=>by cases h)) λb hb=>aF hb
    obtain ⟨-,k1,k2,-⟩:=ht.1 k
    exact ⟨h1,λx hx=>⟨(h2 x hx).1,(h2 x hx).2.1⟩,UF (sO λx hx=>by have:=(h2 x hx).1;omega) k1,UF (sO λx hx=>(h2 x hx).2.1) k2,hb h⟩
theorem aGF {n:Nat} {l:List aM} {x:aM} (hn:250<=n) (hl:l.length<=30):Ex (λr=>r.2=0->r.1=l++[x]/\LB (l++[x])) (xK n l x):=by
  unfold xK OU;simp only [WT.run,bU]
  refine dI (aB (λ_=>True) (aD (aU (λ_=>aF trivial) λ_=>aD (aF trivial))) λb _=>cZ (λ_=>aF λh=>absurd h (show ¬ (1:Int)=0 by decide)) λ_=>aD (aU (λ_=>aF λh=>absurd h (show ¬ (6:Int)=0 by decide)) λ_=>dI (aD (dI (aB _ (aXV hn) λb hb=>aD (iK (λ_=>aF λh=>absurd h (show ¬ (2:Int)=0 by decide)) λhb'=>aF λ_=>⟨rfl,hb hb'⟩))))))
theorem aMR {n:Nat} {l:List aM} {q:Int} (hl:l.length<250/\250<=n) (hq:1<=q/\q<=9223372036854775807) (hp:∀ x∈l,1<=x.aS/\0<=x.Value):Ex (λr=>r=true->q<=lQ l) (zT n l q):=by
  unfold zT SB;simp only [WT.run,bU]
  refine aB (λr=>match r with | .inl _=>True | .inr b=>b=true->q<=lQ l) (gJ (m:=l.length) (λv=>v.2) (λv=>1<=v.1/\v.1<=q/\q-v.1<=sI ((l.take v.2.toNat).map aM.aS)) ⟨by simp,by simp,hq.1,by simp,by simp [sI]⟩ (by omega) λv h1 h2 h3=>?_) λr hr=>?_
  · obtain ⟨a,i⟩:=v
    simp only at h1 h2 h3
    simp only [p2]
    refine aD (aU (λhk=>bP h1 hk λx hx=>aD (aD (aD (aD (aU (λk0=>bZ (bZ (aF λ_=>?_))) λk0=>cO (bM ⟨hk,rfl,?_⟩)))))) λhk=>bZ (bM trivial))
    all_goals
      have hx2:=(hp x (List.mem_of_getElem? hx)).1
      have e:bA (a-(if a<(if 0>x.aS then 0 else x.aS) then a else (if 0>x.aS then 0 else x.aS)))=a-(if a<x.aS then a else x.aS):=by
        rw [if_neg (show ¬ 0>x.aS by omega)]
        exact wrap64 (by split <;> omega)
      have em:=map_take aM.aS h1 hx
      have es:sI ((l.take (i+1).toNat).map aM.aS)=sI ((l.take i.toNat).map aM.aS)+x.aS:=by rw [em,sD];simp [sI]
    · rw [e] at k0
      have eD:lQ l=sI ((l.take (i+1).toNat).map aM.aS)+sI ((l.drop (i+1).toNat).map aM.aS):=by
        unfold lQ;rw [<- sD,<- List.map_append,List.take_append_drop]
      have nn:∀ {m:List Int},(∀ y∈m,0<=y)->0<=sI m:=by
        intro m;induction m with
        | nil=>intro _;simp [sI]
        | cons y m ih=>intro h;have:=ih λz hz=>h z (List.mem_cons_of_mem _ hz);have:=h y (List.mem_cons_self ..);simp only [sI];omega
      have:=nn (m:=(l.drop (i+1).toNat).map aM.aS) (sO λy hy=>by have:=hp y (List.mem_of_mem_drop hy);omega)
      split at k0 <;> omega
    · simp only [e] at k0 ⊢
      rw [es]
      split at k0 <;> (rename_i k1;simp only [k1,if_true,if_false];omega)
  · cases r with
    | inl u=>exact fJ (aF λh=>by cases h)
    | inr b=>exact ⟨_,rfl,hr⟩
end Go.Pv
