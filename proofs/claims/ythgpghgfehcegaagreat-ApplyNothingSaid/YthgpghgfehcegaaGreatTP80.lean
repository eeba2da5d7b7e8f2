/- The program's functions have answers: a sum split. -/
import Derived.Test.YthgpghgfehcegaaGreatTO80
set_option linter.unusedVariables false
set_option linter.unusedSimpArgs false
namespace Go.Pv
open Go.Proofs
set_option maxRecDepth 100000
set_option maxHeartbeats 1000000
theorem aZR {a b:Int}:Ex (λr=>R64 r.1/\(r.2=0->r.1=aI (a+b))) (kG a b):=by
  unfold kG aNE;simp only [WT.run,O9]
  refine tF (λ_=>True) ?_ λ_ _=>aFQ (λ_=>aEV ⟨aP0,λh=>absurd h (show ¬ (2:Int)=0 by decide)⟩) λ_=>aL2 (aEV ⟨aG1 _,λ_=>rfl⟩)
  repeat' with_reducible first | exact aEV trivial | refine x_v ?_ | refine aP8 ?_ | apply aL2 | refine u7 (by omega) (by omega) λ_ _=>?_ | exact XC trivial | exact XC ⟨by omega,by (first | rfl | omega | (simp only;omega)),trivial⟩ | refine x_a ?_ | refine aP5 (λ_ _=>?_) λ_ _=>trivial | apply aI5 | apply aCE | apply aAR | apply Y4 | apply aOY | apply aIH | apply aKG | apply aMX | apply aDS | refine aEY (λ_=>?_) λ_=>?_ | refine aEW (λ_=>?_) λ_=>?_ | refine aFQ (λ_=>?_) λ_=>?_ | apply aP6 | apply aP3 | apply aK3 | apply aGQ | refine tF _ aPX λ_ _=>?_ | refine tF _ aLP λ_ _=>?_ | refine tF _ aGO λ_ _=>?_ | refine tF _ tt_money_Wide λ_ _=>?_ | refine tF _ aJK λ_ _=>?_ | refine tF _ aF5 λ_ _=>?_ | refine tF _ aPW λ_ _=>?_ | refine tF _ aOB λ_ _=>?_ | refine tF _ aPY λ_ _=>?_ | refine tF _ aPV λ_ _=>?_ | refine tF _ aPC λ_ _=>?_ | refine tF _ aPD λ_ _=>?_ | refine tF _ aPA λ_ _=>?_ | refine tF _ aO3 λ_ _=>?_ | refine tF _ aPB λ_ _=>?_ | refine tF _ aPF λ_ _=>?_ | refine tF _ aH7 λ_ _=>?_ | refine tF _ aPO λ_ _=>?_ | refine tF _ aO8 λ_ _=>?_ | refine tF _ aPL λ_ _=>?_ | refine tF _ aPJ λ_ _=>?_ | refine tF _ aPS λ_ _=>?_ | refine tF _ tt_stdcost_rate_of λ_ _=>?_ | refine tF _ tt_stdcost_rate_fits λ_ _=>?_ | refine tF _ aPQ λ_ _=>?_ | refine tF _ aPR λ_ _=>?_ | refine tF _ aPM λ_ _=>?_ | refine tF _ aHZ λ_ _=>?_ | refine tF _ aPE λ_ _=>?_ | refine tF _ aPP λ_ _=>?_ | refine tF _ aPN λ_ _=>?_ | refine tF _ aIR λ_ _=>?_ | refine tF _ aPG λ_ _=>?_ | refine tF _ aPT λ_ _=>?_ | refine tF _ aPK λ_ _=>?_ | refine tF _ aO9 λ_ _=>?_ | refine tF _ aGE λ_ _=>?_ | refine tF _ aPU λ_ _=>?_ | refine tF _ aM9 λ_ _=>?_ | refine tF _ aIU λ_ _=>?_ | refine tF _ aPI λ_ _=>?_ | refine tF _ aPH λ_ _=>?_ | refine tF _ (aPX (by assumption)) λ_ _=>?_ | refine tF _ (aLP (by assumption)) λ_ _=>?_ | refine tF _ (aGO (by assumption)) λ_ _=>?_ | refine tF _ (tt_money_Wide (by assumption)) λ_ _=>?_ | refine tF _ (aJK (by assumption)) λ_ _=>?_ | refine tF _ (aF5 (by assumption)) λ_ _=>?_ | refine tF _ (aPW (by assumption)) λ_ _=>?_ | refine tF _ (aOB (by assumption)) λ_ _=>?_ | refine tF _ (aPY (by assumption)) λ_ _=>?_ | refine tF _ (aPV (by assumption)) λ_ _=>?_ | refine tF _ (aPC (by assumption)) λ_ _=>?_ | refine tF _ (aPD (by assumption)) λ_ _=>?_ | refine tF _ (aPA (by assumption)) λ_ _=>?_ | refine tF _ (aO3 (by assumption)) λ_ _=>?_ | refine tF _ (aPB (by assumption)) λ_ _=>?_ | refine tF _ (aPF (by assumption)) λ_ _=>?_ | refine tF _ (aH7 (by assumption)) λ_ _=>?_ | refine tF _ (aPO (by assumption)) λ_ _=>?_ | refine tF _ (aO8 (by assumption)) λ_ _=>?_ | refine tF _ (aPL (by assumption)) λ_ _=>?_ | refine tF _ (aPJ (by assumption)) λ_ _=>?_ | refine tF _ (aPS (by assumption)) λ_ _=>?_ | refine tF _ (tt_stdcost_rate_of (by assumption)) λ_ _=>?_ | refine tF _ (tt_stdcost_rate_fits (by assumption)) λ_ _=>?_ | refine tF _ (aPQ (by assumption)) λ_ _=>?_ | refine tF _ (aPR (by assumption)) λ_ _=>?_ | refine tF _ (aPM (by assumption)) λ_ _=>?_ | refine tF _ (aHZ (by assumption)) λ_ _=>?_ | refine tF _ (aPE (by assumption)) λ_ _=>?_ | refine tF _ (aPP (by assumption)) λ_ _=>?_ | refine tF _ (aPN (by assumption)) λ_ _=>?_ | refine tF _ (aIR (by assumption)) λ_ _=>?_ | refine tF _ (aPG (by assumption)) λ_ _=>?_ | refine tF _ (aPT (by assumption)) λ_ _=>?_ | refine tF _ (aPK (by assumption)) λ_ _=>?_ | refine tF _ (aO9 (by assumption)) λ_ _=>?_ | refine tF _ (aGE (by assumption)) λ_ _=>?_ | refine tF _ (aPU (by assumption)) λ_ _=>?_ | refine tF _ (aM9 (by assumption)) λ_ _=>?_ | refine tF _ (aIU (by assumption)) λ_ _=>?_ | refine tF _ (aPI (by assumption)) λ_ _=>?_ | refine tF _ (aPH (by assumption)) λ_ _=>?_
def Wk (x:Int):Prop:=0<=x/\x<=288230376151711744
def sI:List Int->Int
  | []=>0
  | x :: l=>x+sI l
theorem aV8 (a b:List Int):sI (a++b)=sI a+sI b:=by
  induction a with
  | nil=>simp [sI]
  | cons x a ih=>simp only [List.cons_append,sI,ih];omega
theorem aR5:∀ {l:List Int},(∀ x∈l,Wk x)->0<=sI l/\sI l<=(l.length:Int)*288230376151711744
  | [],_=>by simp [sI]
  | x :: l,h=>by
    have h1:=aR5 (l:=l) λy hy=>h y (List.mem_cons_of_mem _ hy)
    have h2:=h x (List.mem_cons_self ..)
    unfold Wk at h2
    simp only [sI,List.length_cons];omega
theorem aV5 {l:List Int} {k:Int} {x:Int} (h0:0<=k) (hx:l[k.toNat]?=some x):sI (l.take (k+1).toNat)=sI (l.take k.toNat)+x:=by
  rw [show (k+1).toNat=k.toNat+1 by omega,List.take_add_one,hx,aV8]
  simp [sI]
theorem aX2 (l:List Int) (i:Nat):sI l=sI (l.take i)+sI (l.drop i):=by rw [<- aV8,List.take_append_drop]
theorem aU5 {l:List Int} (h:∀ x∈l,Wk x) (i:Nat):∀ x∈l.take i,Wk x:=λx hx=>h x (List.mem_of_mem_take hx)
theorem aYR {l:List Int} (h:∀ x∈l,Wk x) (i:Nat):∀ x∈l.drop i,Wk x:=λx hx=>h x (List.mem_of_mem_drop hx)
theorem aYW {n:Nat} {l:List Int} (hl:l.length<20) (hn:250<=n) (hw:∀ x∈l,Wk x):Ex (λr=>r.2=0->r.1=sI l) (nV n l):=by
  unfold nV aMW;simp only [WT.run,O9]
  refine tF (λr=>match r with | .inl a=>a=sI l | .inr b=>b.2≠0) (aQB (m:=l.length) (λv=>v.2) (λv=>v.1=sI (l.take v.2.toNat)) ⟨by simp,by simp,rfl⟩ (by omega) λv h1 h2 h3=>?_) λr hr=>?_
  · simp only [p2]
    refine aL2 (aEY (λhk=>u7 h1 (by omega) λx hx=>tF _ aZR λy hy=>aL2 (aEY (λhe=>aGQ (aGQ (aEV he))) λhe=>x_v (XC ⟨by omega,rfl,?_⟩))) λhk=>aGQ (XC ?_))
    · have b1:=aR5 (aU5 hw v.2.toNat)
      have b2:((l.take v.2.toNat).length:Int)<=19:=by simp only [List.length_take];omega
      have b3:=hw x (List.mem_of_getElem? hx)
      unfold Wk at b3
      show y.1=sI (l.take (v.2+1).toNat)
      rw [hy.2 (Classical.not_not.1 he),aV5 h1 hx,h3]
      exact wrap64 (by omega)
    · rw [h3,List.take_of_length_le (by omega)]
  · cases r with
    | inl a=>exact aEV λ_=>hr
    | inr b=>exact ⟨_,rfl,λh=>absurd h hr⟩
theorem aVP {a b c:Int} (ha:0<=a) (hb:0<=b):0<=(md a b c).1/\(c<=0->(md a b c).1=0)/\(0<c->(md a b c).1*c<=a*b):=by
  have h0:0<=a*b:=Int.mul_nonneg ha hb
  unfold md
  split
  · exact ⟨Int.le_refl 0,λ_=>rfl,λ_=>by simp only [Int.zero_mul];exact h0⟩
  · rename_i k
    split
    · exact ⟨Int.le_refl 0,λ_=>rfl,λ_=>by simp only [Int.zero_mul];exact h0⟩
    · exact ⟨Int.ediv_nonneg h0 (by omega),λh=>by omega,λh=>Int.ediv_mul_le _ (by omega)⟩
theorem aY4 {a b c:Int} (ha:0<=a/\a<=9223372036854775807) (hb:0<=b/\b<=9223372036854775807):R64 (md a b c).1:=by
  have:=aVP (c:=c) ha.1 hb.1
  unfold md at *
  unfold R64
  split
  · simp only;omega
  · rename_i k
    rw [if_neg k] at this
    split
    · simp only;omega
    · rename_i k2;rw [if_neg k2] at this;simp only at this ⊢;omega
theorem aVH {x:Int}:Ex (λb=>b=false->Wk x) (aSJ x):=by
  unfold aSJ aW3;simp only [WT.run,O9]
  refine tF (λb=>b=false->Wk x) (aL2 (aEY (λ_=>aEV λh=>by cases h) λh1=>aL2 (aEV λh2=>⟨by omega,by have:=of_decide_eq_false h2;omega⟩))) λb hb=>aEV hb
theorem aZZ {x:Int}:Tot (aS5 x):=by
  unfold aS5 aUY;simp only [WT.run,O9]
  repeat' with_reducible first | exact aEV trivial | refine x_v ?_ | refine aP8 ?_ | apply aL2 | refine u7 (by omega) (by omega) λ_ _=>?_ | exact XC trivial | exact XC ⟨by omega,by (first | rfl | omega | (simp only;omega)),trivial⟩ | refine x_a ?_ | refine aP5 (λ_ _=>?_) λ_ _=>trivial | apply aI5 | apply aCE | apply aAR | apply Y4 | apply aOY | apply aIH | apply aKG | apply aMX | apply aDS | refine aEY (λ_=>?_) λ_=>?_ | refine aEW (λ_=>?_) λ_=>?_ | refine aFQ (λ_=>?_) λ_=>?_ | apply aP6 | apply aP3 | apply aK3 | apply aGQ | refine tF _ aPX λ_ _=>?_ | refine tF _ aLP λ_ _=>?_ | refine tF _ aGO λ_ _=>?_ | refine tF _ tt_money_Wide λ_ _=>?_ | refine tF _ aJK λ_ _=>?_ | refine tF _ aF5 λ_ _=>?_ | refine tF _ aPW λ_ _=>?_ | refine tF _ aOB λ_ _=>?_ | refine tF _ aPY λ_ _=>?_ | refine tF _ aPV λ_ _=>?_ | refine tF _ aPC λ_ _=>?_ | refine tF _ aPD λ_ _=>?_ | refine tF _ aPA λ_ _=>?_ | refine tF _ aO3 λ_ _=>?_ | refine tF _ aPB λ_ _=>?_ | refine tF _ aPF λ_ _=>?_ | refine tF _ aH7 λ_ _=>?_ | refine tF _ aPO λ_ _=>?_ | refine tF _ aO8 λ_ _=>?_ | refine tF _ aPL λ_ _=>?_ | refine tF _ aPJ λ_ _=>?_ | refine tF _ aPS λ_ _=>?_ | refine tF _ tt_stdcost_rate_of λ_ _=>?_ | refine tF _ tt_stdcost_rate_fits λ_ _=>?_ | refine tF _ aPQ λ_ _=>?_ | refine tF _ aPR λ_ _=>?_ | refine tF _ aPM λ_ _=>?_ | refine tF _ aHZ λ_ _=>?_ | refine tF _ aPE λ_ _=>?_ | refine tF _ aPP λ_ _=>?_ | refine tF _ aPN λ_ _=>?_ | refine tF _ aIR λ_ _=>?_ | refine tF _ aPG λ_ _=>?_ | refine tF _ aPT λ_ _=>?_ | refine tF _ aPK λ_ _=>?_ | refine tF _ aO9 λ_ _=>?_ | refine tF _ aGE λ_ _=>?_ | refine tF _ aPU λ_ _=>?_ | refine tF _ aM9 λ_ _=>?_ | refine tF _ aIU λ_ _=>?_ | refine tF _ aPI λ_ _=>?_ | refine tF _ aPH λ_ _=>?_ | refine tF _ (aPX (by assumption)) λ_ _=>?_ | refine tF _ (aLP (by assumption)) λ_ _=>?_ | refine tF _ (aGO (by assumption)) λ_ _=>?_ | refine tF _ (tt_money_Wide (by assumption)) λ_ _=>?_ | refine tF _ (aJK (by assumption)) λ_ _=>?_ | refine tF _ (aF5 (by assumption)) λ_ _=>?_ | refine tF _ (aPW (by assumption)) λ_ _=>?_ | refine tF _ (aOB (by assumption)) λ_ _=>?_ | refine tF _ (aPY (by assumption)) λ_ _=>?_ | refine tF _ (aPV (by assumption)) λ_ _=>?_ | refine tF _ (aPC (by assumption)) λ_ _=>?_ | refine tF _ (aPD (by assumption)) λ_ _=>?_ | refine tF _ (aPA (by assumption)) λ_ _=>?_ | refine tF _ (aO3 (by assumption)) λ_ _=>?_ | refine tF _ (aPB (by assumption)) λ_ _=>?_ | refine tF _ (aPF (by assumption)) λ_ _=>?_ | refine tF _ (aH7 (by assumption)) λ_ _=>?_ | refine tF _ (aPO (by assumption)) λ_ _=>?_ | refine tF _ (aO8 (by assumption)) λ_ _=>?_ | refine tF _ (aPL (by assumption)) λ_ _=>?_ | refine tF _ (aPJ (by assumption)) λ_ _=>?_ | refine tF _ (aPS (by assumption)) λ_ _=>?_ | refine tF _ (tt_stdcost_rate_of (by assumption)) λ_ _=>?_ | refine tF _ (tt_stdcost_rate_fits (by assumption)) λ_ _=>?_ | refine tF _ (aPQ (by assumption)) λ_ _=>?_ | refine tF _ (aPR (by assumption)) λ_ _=>?_ | refine tF _ (aPM (by assumption)) λ_ _=>?_ | refine tF _ (aHZ (by assumption)) λ_ _=>?_ | refine tF _ (aPE (by assumption)) λ_ _=>?_ | refine tF _ (aPP (by assumption)) λ_ _=>?_ | refine tF _ (aPN (by assumption)) λ_ _=>?_ | refine tF _ (aIR (by assumption)) λ_ _=>?_ | refine tF _ (aPG (by assumption)) λ_ _=>?_ | refine tF _ (aPT (by assumption)) λ_ _=>?_ | refine tF _ (aPK (by assumption)) λ_ _=>?_ | refine tF _ (aO9 (by assumption)) λ_ _=>?_ | refine tF _ (aGE (by assumption)) λ_ _=>?_ | refine tF _ (aPU (by assumption)) λ_ _=>?_ | refine tF _ (aM9 (by assumption)) λ_ _=>?_ | refine tF _ (aIU (by assumption)) λ_ _=>?_ | refine tF _ (aPI (by assumption)) λ_ _=>?_ | refine tF _ (aPH (by assumption)) λ_ _=>?_
theorem aW7 {x:Int}:Tot (aSD x):=by
  unfold aSD aU8;simp only [WT.run,O9]
  repeat' with_reducible first | exact aEV trivial | refine x_v ?_ | refine aP8 ?_ | apply aL2 | refine u7 (by omega) (by omega) λ_ _=>?_ | exact XC trivial | exact XC ⟨by omega,by (first | rfl | omega | (simp only;omega)),trivial⟩ | refine x_a ?_ | refine aP5 (λ_ _=>?_) λ_ _=>trivial | apply aI5 | apply aCE | apply aAR | apply Y4 | apply aOY | apply aIH | apply aKG | apply aMX | apply aDS | refine aEY (λ_=>?_) λ_=>?_ | refine aEW (λ_=>?_) λ_=>?_ | refine aFQ (λ_=>?_) λ_=>?_ | apply aP6 | apply aP3 | apply aK3 | apply aGQ | refine tF _ aPX λ_ _=>?_ | refine tF _ aLP λ_ _=>?_ | refine tF _ aGO λ_ _=>?_ | refine tF _ tt_money_Wide λ_ _=>?_ | refine tF _ aJK λ_ _=>?_ | refine tF _ aF5 λ_ _=>?_ | refine tF _ aPW λ_ _=>?_ | refine tF _ aOB λ_ _=>?_ | refine tF _ aPY λ_ _=>?_ | refine tF _ aPV λ_ _=>?_ | refine tF _ aPC λ_ _=>?_ | refine tF _ aPD λ_ _=>?_ | refine tF _ aPA λ_ _=>?_ | refine tF _ aO3 λ_ _=>?_ | refine tF _ aPB λ_ _=>?_ | refine tF _ aPF λ_ _=>?_ | refine tF _ aH7 λ_ _=>?_ | refine tF _ aPO λ_ _=>?_ | refine tF _ aO8 λ_ _=>?_ | refine tF _ aPL λ_ _=>?_ | refine tF _ aPJ λ_ _=>?_ | refine tF _ aPS λ_ _=>?_ | refine tF _ tt_stdcost_rate_of λ_ _=>?_ | refine tF _ tt_stdcost_rate_fits λ_ _=>?_ | refine tF _ aPQ λ_ _=>?_ | refine tF _ aPR λ_ _=>?_ | refine tF _ aPM λ_ _=>?_ | refine tF _ aHZ λ_ _=>?_ | refine tF _ aPE λ_ _=>?_ | refine tF _ aPP λ_ _=>?_ | refine tF _ aPN λ_ _=>?_ | refine tF _ aIR λ_ _=>?_ | refine tF _ aPG λ_ _=>?_ | refine tF _ aPT λ_ _=>?_ | refine tF _ aPK λ_ _=>?_ | refine tF _ aO9 λ_ _=>?_ | refine tF _ aGE λ_ _=>?_ | refine tF _ aPU λ_ _=>?_ | refine tF _ aM9 λ_ _=>?_ | refine tF _ aIU λ_ _=>?_ | refine tF _ aPI λ_ _=>?_ | refine tF _ aPH λ_ _=>?_ | refine tF _ (aPX (by assumption)) λ_ _=>?_ | refine tF _ (aLP (by assumption)) λ_ _=>?_ | refine tF _ (aGO (by assumption)) λ_ _=>?_ | refine tF _ (tt_money_Wide (by assumption)) λ_ _=>?_ | refine tF _ (aJK (by assumption)) λ_ _=>?_ | refine tF _ (aF5 (by assumption)) λ_ _=>?_ | refine tF _ (aPW (by assumption)) λ_ _=>?_ | refine tF _ (aOB (by assumption)) λ_ _=>?_ | refine tF _ (aPY (by assumption)) λ_ _=>?_ | refine tF _ (aPV (by assumption)) λ_ _=>?_ | refine tF _ (aPC (by assumption)) λ_ _=>?_ | refine tF _ (aPD (by assumption)) λ_ _=>?_ | refine tF _ (aPA (by assumption)) λ_ _=>?_ | refine tF _ (aO3 (by assumption)) λ_ _=>?_ | refine tF _ (aPB (by assumption)) λ_ _=>?_ | refine tF _ (aPF (by assumption)) λ_ _=>?_ | refine tF _ (aH7 (by assumption)) λ_ _=>?_ | refine tF _ (aPO (by assumption)) λ_ _=>?_ | refine tF _ (aO8 (by assumption)) λ_ _=>?_ | refine tF _ (aPL (by assumption)) λ_ _=>?_ | refine tF _ (aPJ (by assumption)) λ_ _=>?_ | refine tF _ (aPS (by assumption)) λ_ _=>?_ | refine tF _ (tt_stdcost_rate_of (by assumption)) λ_ _=>?_ | refine tF _ (tt_stdcost_rate_fits (by assumption)) λ_ _=>?_ | refine tF _ (aPQ (by assumption)) λ_ _=>?_ | refine tF _ (aPR (by assumption)) λ_ _=>?_ | refine tF _ (aPM (by assumption)) λ_ _=>?_ | refine tF _ (aHZ (by assumption)) λ_ _=>?_ | refine tF _ (aPE (by assumption)) λ_ _=>?_ | refine tF _ (aPP (by assumption)) λ_ _=>?_ | refine tF _ (aPN (by assumption)) λ_ _=>?_ | refine tF _ (aIR (by assumption)) λ_ _=>?_ | refine tF _ (aPG (by assumption)) λ_ _=>?_ | refine tF _ (aPT (by assumption)) λ_ _=>?_ | refine tF _ (aPK (by assumption)) λ_ _=>?_ | refine tF _ (aO9 (by assumption)) λ_ _=>?_ | refine tF _ (aGE (by assumption)) λ_ _=>?_ | refine tF _ (aPU (by assumption)) λ_ _=>?_ | refine tF _ (aM9 (by assumption)) λ_ _=>?_ | refine tF _ (aIU (by assumption)) λ_ _=>?_ | refine tF _ (aPI (by assumption)) λ_ _=>?_ | refine tF _ (aPH (by assumption)) λ_ _=>?_
theorem aVZ {w:List Int} (hl:w.length<20):∀ (n:Nat) (k:Int),0<=k->k<=w.length->w.length<n+k->(∀ x∈w.take k.toNat,Wk x)->Ex (λr=>match r with | .inl _=>∀ x∈w,Wk x | .inr j=>0<=j) (aRT w n k)
  | 0,_,_,h2,h3,_=>by omega
  | n+1,k,h1,h2,h3,h4=>by
    rw [aRT]
    refine aL2 (aEY (λhk=>u7 h1 hk λx hx=>tF _ aVH λb hb=>aFQ (λ_=>aGQ (aEV h1)) λhb'=>x_v (aVZ hl n (k+1) (by omega) (by omega) (by omega) λy hy=>?_)) λhk=>XC ?_)
    · rw [show (k+1).toNat=k.toNat+1 by omega,List.take_add_one,hx] at hy
      rcases List.mem_append.1 hy with hy | hy
      · exact h4 y hy
      · simp at hy;rw [hy];exact hb hb'
    · rw [List.take_of_length_le (by omega)] at h4;exact h4
theorem aV7 {w:List Int} (hl:w.length<20):∀ (n:Nat) (k:Int),0<=k->k<=w.length->w.length<n+k->Tot (aRI w n k)
  | 0,_,_,h2,h3=>by omega
  | n+1,k,h1,h2,h3=>by
    rw [aRI]
    exact aL2 (aEY (λhk=>u7 h1 hk λx hx=>tF _ aZZ λb hb=>aFQ (λ_=>aGQ (aEV trivial)) λhb'=>x_v (aV7 hl n (k+1) (by omega) (by omega) (by omega))) λhk=>XC trivial)
theorem aWL {a:Int} {w:List Int} {e:Int×Int} (ha:Wk a) (hl:w.length<20) (hw:∀ x∈w,Wk x) (hs:e.1=sI w):∀ (n:Nat) (y k:Int) (p q:List Int),w.length+100<=n+k->0<=k->k<=w.length->p.length=w.length->q.length=w.length->(∀ x∈p,R64 x)->0<=y->y<=a->a*(sI w-sI (w.take k.toNat))<=y*sI w ->
    Ex (λr=>0<=r.1/\r.1<=a/\r.2.1.length=w.length/\r.2.2.length=w.length/\∀ x∈r.2.1,R64 x) (aRL a w e n y k p q)
  | 0,_,_,_,_,h1,h2,h3,_,_,_,_,_,_=>by omega
  | n+1,y,k,p,q,h1,h2,h3,h4,h5,h6,h7,h8,h9=>by
    rw [aRL]
    refine aL2 (aEY (λhk=>u7 h2 hk λx hx=>?_) λ_=>aEV ⟨h7,h8,h4,h5,h6⟩)
    have hxw:=hw x (List.mem_of_getElem? hx)
    have hS:=aR5 hw
    have hT:=aV5 h2 hx
    have hD:=aX2 w (k+1).toNat
    have hD0:=(aR5 (aYR hw (k+1).toNat)).1
    unfold Wk at ha hxw
    have hm:=aVP (c:=sI w) ha.1 hxw.1
    have hR:=aY4 (c:=sI w) (a:=a) (b:=x) (by omega) (by omega)
    refine x_eq (aXB (n:=n) (a:=a) (b:=x) (c:=e.1) (by omega) (by omega) (by omega) (by rw [hs];omega)) ?_
    rw [hs]
    generalize hmd:md a x (sI w)=m at *
    have hle:m.1<=y/\a*(sI w-sI (w.take (k+1).toNat))<=(y-m.1)*sI w:=by
      rcases Int.lt_or_le 0 (sI w) with hp | hp
      · have e1:=hm.2.2 hp
        have e2:a*x<=a*(sI w-sI (w.take k.toNat)):=Int.mul_le_mul_of_nonneg_left (by omega) ha.1
        have e3:m.1*sI w<=y*sI w:=Int.le_trans e1 (Int.le_trans e2 h9)
        refine ⟨Int.le_of_mul_le_mul_right e3 hp,?_⟩
        rw [hT,show sI w-(sI (w.take k.toNat)+x)=(sI w-sI (w.take k.toNat))-x by omega,Int.mul_sub,Int.sub_mul]
        omega
      · have e0:=hm.2.1 hp
        have eS:sI w=0:=by omega
        rw [e0,eS] at *
        refine ⟨h7,?_⟩
        have:sI (w.take (k+1).toNat)=0:=by have:=(aR5 (aU5 hw (k+1).toNat)).1;omega
        rw [this];simp
    refine u7 h2 (by omega) λ_ _=>aL2 (u7 h2 (by omega) λ_ _=>aL2 (x_v (x_v (aWL ha hl hw hs n (y-m.1) (k+1) _ _ (by omega) (by omega) (by omega) (by simp;exact h4) (by simp;exact h5) (λz hz=>?_) (by omega) (by omega) hle.2))))
    rcases List.mem_or_eq_of_mem_set hz with hz | rfl
    · exact h6 z hz
    · exact hR
def IL (N:Nat) (l:List Int):Prop:=l.length=N/\∀ x∈l,0<=x/\x<(N:Int)
theorem IL.set {N:Nat} {l:List Int} {i:Nat} {x:Int} (h:IL N l) (hx:0<=x/\x<(N:Int)):IL N (l.set i x):=⟨by simp;exact h.1,λy hy=>by
  rcases List.mem_or_eq_of_mem_set hy with hy | rfl
  · exact h.2 y hy
  · exact hx⟩
theorem IL.at {N:Nat} {l:List Int} {i:Nat} {x:Int} (h:IL N l) (hx:l[i]?=some x):0<=x/\x<(N:Int):=h.2 x (List.mem_of_getElem? hx)
theorem aW0 {r:List Int} (hr:r.length<20):∀ (n:Nat) (k:Int) (l:List Int),0<=k->k<=r.length->r.length<n+k->IL r.length l->Ex (IL r.length) (aRH r n k l)
  | 0,_,_,_,h2,h3,_=>by omega
  | n+1,k,l,h1,h2,h3,h4=>by
    have:=h4.1
    rw [aRH]
    exact aL2 (aEY (λhk=>u7 h1 (by omega) λ_ _=>aL2 (x_v (aW0 hr n (k+1) _ (by omega) (by omega) (by omega) (h4.set ⟨h1,hk⟩)))) λ_=>aEV h4)
theorem aVJ {r:List Int} (hr:r.length<20):∀ (n:Nat) (k:Int) (l:List Int),0<=k->k<r.length->k<n->IL r.length l->Ex (IL r.length) (aRP r n k l)
  | 0,_,_,h1,_,h3,_=>by omega
  | n+1,k,l,h1,h2,h3,h4=>by
    have hl:=h4.1
    rw [aRP]
    refine tF (λb=>b=true->0<k) (aL2 (aEY (λhk=>u7 h1 (by omega) λx hx=>x_v (u7 (by omega) (by omega) λy hy=>?_)) λ_=>aEV λh=>by cases h)) λb hb=>aFQ (λhb'=>?_) λ_=>aEV h4
    · have hx2:=h4.at hx;have hy2:=h4.at hy
      exact tF (λ_=>True) (u7 hy2.1 (by omega) λ_ _=>tF _ aW7 λ_ _=>u7 hx2.1 (by omega) λ_ _=>tF _ aW7 λ_ _=>tF _ aWT λ_ _=>aEV trivial) λ_ _=>aL2 (aEV λ_=>hk)
    · have hk:=hb hb'
      refine x_v (x_v (u7 (by omega) (by omega) λx hx=>u7 (by omega) (by omega) λy hy=>aL2 (u7 (by omega) (by simp;omega) λ_ _=>aL2 (x_v (aVJ hr n (k-1) _ (by omega) (by omega) (by omega) ((h4.set (h4.at hx)).set (h4.at hy)))))))
theorem aVT {r y:List Int} (hr:r.length<20) (hy:y.length=r.length):∀ (n:Nat) (k:Int) (l:List Int),1<=k->k<=r.length+1->r.length+50<=n+k->IL r.length l->Ex (IL r.length) (aRM r y n k l)
  | 0,_,_,h1,_,h3,_=>by omega
  | n+1,k,l,h1,h2,h3,h4=>by
    rw [aRM]
    exact aL2 (aEY (λhk=>tF (IL r.length) (tF (IL r.length) (aVJ hr n k l (by omega) (by omega) (by omega) h4) λz hz=>aEV hz) λz hz=>x_v (aVT hr hy n (k+1) z (by omega) (by omega) (by omega) hz)) λ_=>aEV h4)
theorem aU9 {s:List Int} {x:Int} {N:Nat} (hN:N<20) (hs:IL N s) (hx:x<=N):∀ (n:Nat) (k:Int) (l:List Int),0<=k->N+50<=n+k->k<=N->l.length=N->(∀ z∈l,R64 z)->Ex (λr=>r.length=N/\∀ z∈r,R64 z) (aRJ s x n k l)
  | 0,_,_,h1,h2,h3,_,_=>by omega
  | n+1,k,l,h1,h2,h3,h4,h5=>by
    have hsl:=hs.1
    rw [aRJ]
    refine aL2 (aEY (λhk=>aL4 ⟨h1,hk⟩ (u7 (by omega) (by omega) λy hy=>?_)) λ_=>aEV ⟨h4,h5⟩)
    have hy2:=hs.at hy
    refine u7 hy2.1 (by omega) λz hz=>aL2 (aL2 (x_v (aU9 hN hs hx n (k+1) _ (by omega) (by omega) (by omega) (by simp;exact h4) λu hu=>?_)))
    rcases List.mem_or_eq_of_mem_set hu with hu | rfl
    · exact h5 u hu
    · exact aG1 _
theorem aXQ {n:Nat} {a:Int} {w:List Int} (hn:250<=n) (hl:w.length<20):Ex (λr=>r.2=0->r.1.length=w.length/\∀ x∈r.1,R64 x) (aRY n a w):=by
  unfold aRY
  refine tF (λb=>b=false->Wk a/\∀ x∈w,Wk x) ?_ λb hb=>aFQ (λ_=>aEV λh=>absurd h (show ¬ (1:Int)=0 by decide)) λhb'=>?_
  · refine tF _ aVH λb hb=>aFQ (λ_=>aEV λh=>by cases h) λhb'=>tF (λb=>b=false->∀ x∈w,Wk x) (tF (λj=>j<0->∀ x∈w,Wk x) (tF _ (aVZ hl n 0 (by omega) (by omega) (by omega) (by simp)) λr hr=>?_) λj hj=>aL2 (aEV λh=>hj (by have:=of_decide_eq_false h;omega))) λc hc=>aFQ (λ_=>aEV λh=>by cases h) λhc'=>?_
    · cases r with
      | inl u=>exact aK3 (aEV λ_=>hr)
      | inr j=>exact a0A λh=>absurd hr (by omega)
    · refine tF (λ_=>True) (tF (λ_=>True) (tF _ (aV7 hl n 0 (by omega) (by omega) (by omega)) λr hr=>aP5 (λ_ _=>aEV trivial) λ_ _=>trivial) λ_ _=>aL2 (aEV trivial)) λ_ _=>aL2 (aEV λ_=>⟨hb hb',hc hc'⟩)
  obtain ⟨ha,hw⟩:=hb hb'
  have hS:=aR5 hw
  refine tF _ (aYW hl hn hw) λe he=>aL2 (aEY (λh=>aEV λh'=>absurd h' h) λhe'=>?_)
  have hs:=he (Classical.not_not.1 he')
  refine x_a (aL2 (x_a (aL2 (tF _ (aWL ha hl hw hs n a 0 _ _ (by omega) (by omega) (by omega) (by simp) (by simp) (λx hx=>by rw [List.eq_of_mem_replicate hx];exact aP0) ha.1 (Int.le_refl a) (by simp [sI])) λt ht=>?_))))
  obtain ⟨y,p,q⟩:=t
  obtain ⟨h1,h2,h3,h4,h5⟩:=ht
  simp only at h1 h2 h3 h4 h5
  simp only [p2]
  refine tF (IL q.length) (x_a (aL2 (tF _ (aW0 (by omega) n 0 _ (by omega) (by omega) (by omega) ⟨by simp,λx hx=>?_⟩) λu hu=>tF (IL q.length) (tF (IL q.length) (tF (λ_=>True) ?_ λ_ _=>tF (IL q.length) (tF _ (aVT (y:=u) (by omega) hu.1 n 1 u (by omega) (by omega) (by omega) hu) λv hv=>aEV hv) λv hv=>aL4 (by rw [hv.1,hu.1]) (tF (λ_=>True) ?_ λ_ _=>aEV hv)) λv hv=>aEV hv) λv hv=>aL4 (by rw [hv.1,hu.1]) (aEV hv)))) λv hv=>?_
  · have:=List.eq_of_mem_replicate hx
    have:=List.length_pos_of_mem hx
    simp at this
    omega
  · obtain ⟨m,rfl⟩:∃ m,n=m+1:=⟨n-1,by omega⟩
    rw [aSE]
    exact aL2 (aL4 (decide_eq_false (by have:=hu.1;omega)) (aEV trivial))
  · obtain ⟨m,rfl⟩:∃ m,n=m+1:=⟨n-1,by omega⟩
    rw [aSH]
    exact aL2 (aL4 (decide_eq_false (by have:=hu.1;omega)) (aEV trivial))
  · have hvl:=hv.1
    refine aL2 (aL4 ⟨by split <;> omega,by split <;> omega⟩ (tF _ (aU9 (N:=q.length) (by omega) hv (by split <;> omega) n 0 p (by omega) (by omega) (by omega) (by omega) h5) λz hz=>aEV λ_=>⟨by simp only;omega,hz.2⟩))
end Go.Pv
