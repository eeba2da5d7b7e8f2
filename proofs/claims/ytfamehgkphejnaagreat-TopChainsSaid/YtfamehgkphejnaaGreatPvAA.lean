import Derived.Test.YtfamehgkphejnaaGreatXTn
import Derived.Test.YtfamehgkphejnaaGreatGK90
import Derived.Test.YtfamehgkphejnaaGreatPvU
set_option linter.unusedVariables false
set_option linter.unusedSimpArgs false
namespace Go.Pv
open Go.Proofs
set_option maxRecDepth 1000000
set_option maxHeartbeats 1000000
theorem US {v k:Int} (hk:0<k/\k<=4611686018427387904):Ex (λr=>0<=r/\r<k) (rQ v k):=by
  have h1:=Int.tmod_lt_of_pos v hk.1
  have h2:=Int.lt_tmod_of_pos v hk.1
  unfold rQ VY
  simp only [WT.run,O9]
  refine x_a ?_
  repeat' with_reducible first | refine x_v ?_ | refine aP8 ?_ | apply aL2 | apply aI5 | apply aCE | apply aAR | apply Y4 | apply aOY | apply aIH | apply aKG | apply aMX | apply aDS | refine aEY (λ_=>?_) λ_=>?_ | refine aEW (λ_=>?_) λ_=>?_ | apply x_cT | apply x_cF | apply aK3 | apply aGQ | apply aEV
  all_goals omega
def oE:aP:=⟨1,false,[⟨[],⟨0,0,0⟩⟩,⟨[],⟨0,0,0⟩⟩],List.replicate 17 0,[⟨0,0,0,0,0,0,0,0,0,0,0⟩],[-1],[0],[]⟩
theorem bBT:a6H 300=some true:=by decide +kernel
theorem bFR:EQ' oE:=⟨by decide,λp hp=>by
  simp only [oE,List.mem_cons,List.not_mem_nil,or_false,or_self] at hp
  subst hp
  exact ⟨LQ0,aP0,aP0,aP0⟩,by decide,by decide,by decide,by decide,rfl⟩
structure OL (i:Int) (paid n:Int) (s:aA):Prop where
  ti:TI s
  q:gS fQ s+aUZ s=n
  w:gS fV s+aT2 s-gS fP s-aXP s=paid
  v:gS fV s+aT2 s<=700*i
  a:gS fA s+aYA s<=50000*i
  n1:n<=9*i
theorem td {a b:Int} (ha:0<=a) (hb:0<b):0<=a.tdiv b/\a.tdiv b<=a:=by
  rw [Int.tdiv_eq_ediv_of_nonneg ha]
  exact ⟨Int.ediv_nonneg ha (by omega),Int.ediv_le_self b ha⟩
theorem tm {a b:Int} (ha:0<=a) (hb:0<b):0<=a.tmod b/\a.tmod b<b:=by
  rw [Int.tmod_eq_emod_of_nonneg ha]
  exact ⟨Int.emod_nonneg _ (by omega),Int.emod_lt_of_pos _ hb⟩
theorem OT.of {k e l t q a r:Int} {f:List Int} (hq:1<=q/\q<=9) (ha:0<=a/\a<=600) (hk:k=1\/k=8\/k=12\/k=13) (hf:f.length<20):OT ⟨k,e,0,l,t,q,a,r,f⟩ 700 :=
  ⟨by unfold XE;simp only;omega,ha.1,by simp only;omega,rfl,by simp only;omega,λh=>by simp only at h;omega,hf⟩
set_option maxRecDepth 100000
def dn (t:aA) (k:Int):aA:=⟨t.bA,t.aW,t.bP,t.bU,t.bY,k⟩
theorem CS.dn {s:aA} {f:Int->aM} {B:Int} (h:CS s f B) (k:Int):CS (dn s k) f B :=
  ⟨h.sq.done,h.m2,h.en,h.lb,h.w1,λe h0 h1=>(h.iN e h0 h1).cp rfl rfl,h.tr⟩
theorem bHT {n:Nat} {s:aA} {o:aS} {P:aA->Prop} (hc:nJ n o=some true) (h:(o.Kind=1/\Ex (λr=>r.2=0/\P r.1) (VK n s o))\/(o.Kind=4/\Ex (λr=>r.2=0/\P r.1) (N7 n s o))\/((o.Kind=12\/o.Kind=13)/\Ex (λr=>r.2=0/\P r.1) (L9 n s o))):Ex (λr=>r.2=0/\∃ t k,r.1=dn t k/\P t) (lF n s o):=by
  have hk:o.Kind=1\/o.Kind=4\/o.Kind=12\/o.Kind=13:=by
    rcases h with h | h | h
    · exact .inl h.1
    · exact .inr (.inl h.1)
    · exact .inr (.inr h.1)
  unfold lF aFD;simp only [WT.run,O9]
  have fin:∀ {D:Option (aA×Int)},Ex (λr=>r.2=0/\P r.1) D->Ex (λr=>r.2=0/\∃ t k,r.1=dn t k/\P t) (((nJ n o).bind λx=>bnd (!x) λx_1=>bif x_1 then some true else some false).bind λy=>bif y then some (s,1) else D.bind λx=>bnd (decide (x.snd≠0)) λx_1=>bif x_1 then some (s,x.snd) else bnd (aI (x.fst.Done+1)) λx_2=>bnd (if 288230376151711744<x_2 then 288230376151711744 else x_2) λx_3=>some (({ bA:=x.fst.bA,aW:=x.fst.aW,bP:=x.fst.bP,bU:=x.fst.bU,bY:=x.fst.bY,Done:=x_3 }:aA),0)):=λ{D} hD =>
    tF (λb=>b=false) (x_eq hc (aL2 (bF5 (aEV rfl)))) λb hb=>aFQ (λk=>by rw [hb] at k;cases k) λ_=>tF _ hD λr hr=>aL2 (aEY (λk=>absurd hr.1 k) λk=>aL2 (aL2 (aEV ⟨rfl,r.1,_,rfl,hr.2⟩)))
  refine tF (λu=>match u with | .inl _=>o.Kind=1 | .inr (.inl _)=>o.Kind=4 | .inr (.inr (.inr (.inr (.inr (.inl _)))))=>o.Kind=12\/o.Kind=13 | _=>False) ?_ λu hu=>?_
  · refine aL2 (aEY (λk=>aEV k) λk1=>?_)
    refine tF _ a5B λb hb=>aFQ (λk=>aEV ?_) λk2=>?_
    · have:=hb.1 k;show o.Kind=4;omega
    have k2:¬ (o.Kind=4\/o.Kind=5):=λh=>by rw [hb.2 h] at k2;cases k2
    refine tF _ bEK λb hb=>aFQ (λk=>?_) λk3=>?_
    · have:=hb.1 k;omega
    refine tF _ a5B λb hb=>aFQ (λk=>?_) λk4=>?_
    · have:=hb.1 k;omega
    refine aL2 (aEY (λk=>by omega) λk5=>?_)
    refine tF _ a5B λb hb=>aFQ (λk=>aEV (hb.1 k)) λk6=>?_
    have k6:¬ (o.Kind=12\/o.Kind=13):=λh=>by rw [hb.2 h] at k6;cases k6
    omega
  rcases u with u | u | u | u | u | u | u | u <;> simp only [Sum.elim,WT.run,O9]
  · have hu:o.Kind=1:=hu
    have hD:=h.resolve_right (λh=>by rcases h with h | h <;> omega)
    exact fin (tF _ hD.2 λr hr=>aEV hr)
  · have hu:o.Kind=4:=hu
    have hD:Ex (λr=>r.2=0/\P r.1) (N7 n s o):=by
      rcases h with h | h | h
      · omega
      · exact h.2
      · omega
    exact fin (tF _ hD λr hr=>aEV hr)
  · exact absurd hu id
  · exact absurd hu id
  · exact absurd hu id
  · have hu:o.Kind=12\/o.Kind=13:=hu
    have hD:Ex (λr=>r.2=0/\P r.1) (L9 n s o):=by
      rcases h with h | h | h
      · omega
      · omega
      · exact h.2
    exact fin (tF _ hD λr hr=>aEV hr)
  · exact absurd hu id
  · exact absurd hu id
theorem bFF {n:Nat} {s:aA} {o:aS} {P:aA->Prop} (hc:nJ n o=some true) (h:(o.Kind=1/\Ex (λr=>r.2=0/\P r.1) (VK n s o))\/(o.Kind=4/\Ex (λr=>r.2=0/\P r.1) (N7 n s o))\/((o.Kind=12\/o.Kind=13)/\Ex (λr=>r.2=0/\P r.1) (L9 n s o))):Ex (λr=>r.2=0/\∃ t k,r.1=dn t k/\P t) (a4Q n s o):=by
  have hk:o.Kind=1\/o.Kind=4\/o.Kind=12\/o.Kind=13:=by
    rcases h with h | h | h
    · exact .inl h.1
    · exact .inr (.inl h.1)
    · exact .inr (.inr h.1)
  unfold a4Q a9I;simp only [WT.run,O9]
  refine x_eq hc (aL2 (bF5 ?_))
  refine tF (λr=>match r with | .inl _=>False | .inr q=>q.2=0/\∃ t k,q.1=dn t k/\P t) ?_ λr hr=>aP5 (λa e=>by subst e;exact absurd hr id) λq e=>by subst e;exact hr
  refine aL2 (aEY (λk=>by omega) λ_=>aL2 (aEY (λk=>by omega) λ_=>aL2 (aEY (λk=>by omega) λ_=>?_)))
  exact tF _ (bHT hc h) λr hr=>aGQ (aEV hr)
theorem bFW {n:Nat} {k e i l t q a r:Int} {x:List UInt8} (hk:1<=k/\k<=16) (hx:(MG.bind λF=>ix [F.a0,F.a1,F.a2,F.a3,F.a4,F.a5,F.a6,F.a7,F.a8,F.a9,F.kK,F.oM,F.a12,F.rZ,F.IR,F.JU,F.a16] k)=some x) (h1:okv x k 69 e) (h2:okv x k 73 i) (h3:okv x k 76 l) (h4:okv x k 84 t) (h5:okv x k 81 q) (h6:okv x k 65 a) (h7:okv x k 82 r) (h8:k≠11) (h9:k≠8) (h10:k=12->t≠e):nJ n ⟨k,e,i,l,t,q,a,r,[]⟩=some true:=bH8 hk hx h1 h2 h3 h4 h5 h6 h7 h8 h9 h10 rfl
theorem bHB {n:Nat} {q a:Int} (hq:1<=q/\q<=1000000) (ha:0<=a/\a<=1000000):nJ n ⟨1,0,0,0,0,q,a,0,[]⟩=some true :=
  bFW (x:=[69,73,76,81,65]) (by decide) (by decide +kernel) ⟨0,0,3,by decide +kernel,by decide +kernel,by decide,by decide⟩ ⟨1,0,4,by decide +kernel,by decide +kernel,by decide,by decide⟩ ⟨2,0,1,by decide +kernel,by decide +kernel,by decide,by decide⟩ ⟨-1,0,0,by decide +kernel,by decide +kernel,by decide,by decide⟩ ⟨3,1,1073741824,by decide +kernel,by decide +kernel,hq.1,by omega⟩ ⟨4,0,1125899906842624,by decide +kernel,by decide +kernel,ha.1,by omega⟩ ⟨-1,0,0,by decide +kernel,by decide +kernel,by decide,by decide⟩ (by decide) (by decide) (λh=>absurd h (by decide))
theorem bIJ {n:Nat} {e q:Int} (he:0<=e/\e<3) (hq:1<=q/\q<=1000000):nJ n ⟨4,e,0,0,0,q,1,0,[]⟩=some true :=
  bFW (x:=[69,73,76,81,65]) (by decide) (by decide +kernel) ⟨0,0,3,by decide +kernel,by decide +kernel,he.1,by omega⟩ ⟨1,0,4,by decide +kernel,by decide +kernel,by decide,by decide⟩ ⟨2,0,1,by decide +kernel,by decide +kernel,by decide,by decide⟩ ⟨-1,0,0,by decide +kernel,by decide +kernel,by decide,by decide⟩ ⟨3,1,1073741824,by decide +kernel,by decide +kernel,hq.1,by omega⟩ ⟨4,0,1125899906842624,by decide +kernel,by decide +kernel,by decide,by decide⟩ ⟨-1,0,0,by decide +kernel,by decide +kernel,by decide,by decide⟩ (by decide) (by decide) (λh=>absurd h (by decide))
theorem bIS {n:Nat} {e t q a:Int} (he:0<=e/\e<3) (ht:0<=t/\t<3) (hne:t≠e) (hq:1<=q/\q<=1000000) (ha:0<=a/\a<=1000000):nJ n ⟨12,e,0,0,t,q,a,0,[]⟩=some true :=
  bFW (x:=[69,73,76,84,81,65]) (by decide) (by decide +kernel) ⟨0,0,3,by decide +kernel,by decide +kernel,he.1,by omega⟩ ⟨1,0,4,by decide +kernel,by decide +kernel,by decide,by decide⟩ ⟨2,0,1,by decide +kernel,by decide +kernel,by decide,by decide⟩ ⟨3,0,3,by decide +kernel,by decide +kernel,ht.1,by omega⟩ ⟨4,1,1073741824,by decide +kernel,by decide +kernel,hq.1,by omega⟩ ⟨5,0,1125899906842624,by decide +kernel,by decide +kernel,ha.1,by omega⟩ ⟨-1,0,0,by decide +kernel,by decide +kernel,by decide,by decide⟩ (by decide) (by decide) (λ_=>hne)
theorem bH7 {n:Nat} {q r:Int} (hq:1<=q/\q<=1000000) (hr:0<=r/\r<40):nJ n ⟨13,0,0,0,0,q,0,r,[]⟩=some true :=
  bFW (x:=[76,81,82]) (by decide) (by decide +kernel) ⟨-1,0,0,by decide +kernel,by decide +kernel,by decide,by decide⟩ ⟨-1,0,0,by decide +kernel,by decide +kernel,by decide,by decide⟩ ⟨0,0,1,by decide +kernel,by decide +kernel,by decide,by decide⟩ ⟨-1,0,0,by decide +kernel,by decide +kernel,by decide,by decide⟩ ⟨1,1,1073741824,by decide +kernel,by decide +kernel,hq.1,by omega⟩ ⟨-1,0,0,by decide +kernel,by decide +kernel,by decide,by decide⟩ ⟨2,0,39,by decide +kernel,by decide +kernel,hr.1,by omega⟩ (by decide) (by decide) (λh=>absurd h (by decide))
theorem bG3 {n:Nat} {a c q:Int} (hn:250<=n) (ha:0<=a) (hc:1<=c/\c<q) (hq:q<=1000000) (hb:a*q<=1000000):mX n (a*q) c q=some (a*c):=by
  have h0:0<=a*q:=Int.mul_nonneg ha (by omega)
  have h1:a*c<=a*q:=Int.mul_le_mul_of_nonneg_left (by omega) ha
  have h2:0<=a*c:=Int.mul_nonneg ha (by omega)
  refine aQX ?_
  unfold mX aMF;simp only [WT.run,O9]
  refine tF (λb=>b=false) ?_ λb hb=>aFQ (λk=>by rw [hb] at k;cases k) λ_=>aL2 (aEY (λk=>absurd k (by omega)) λ_=>aL2 (aEY (λk=>absurd k (by omega)) λ_=>?_))
  · exact aL2 (aEY (λk=>absurd k (by omega)) λ_=>aL2 (aEY (λk=>absurd k (by omega)) λ_=>aL2 (aEY (λk=>absurd k (by omega)) λ_=>x_eq (a9H _) (aL2 (aEV (by rw [decide_eq_true (show InM (a*q) from ⟨by omega,by omega⟩)];rfl))))))
  · refine x_eq (aXB (by omega) (by omega) (by omega) (by omega)) (aEV ?_)
    have e:a*q*c / q=a*c:=by
      rw [Int.mul_assoc,Int.mul_comm q c,<- Int.mul_assoc]
      exact Int.mul_ediv_cancel _ (by omega)
    unfold md
    rw [if_neg (by omega),e,if_neg (by omega)]
theorem bG5 {V J:Type} {f:V->Option (V⊕J)} {n:Nat} {v:V}:iter f (n+1) v=(f v).bind (sel (iter f n)):=rfl
theorem bHI {n:Nat} {a b c q:Int} (hn:250<=n) (ha:0<=a) (hb:0<=b) (hc:1<=c/\c<q) (hq:q<=1000000) (h1:a*q<=1000000) (h2:b*q<=1000000) (hL:LB [⟨q,a*q,b*q⟩]):IU n [⟨q,a*q,b*q⟩] c=some ([⟨q-c,a*(q-c),b*(q-c)⟩],⟨c,a*c,b*c⟩,0):=by
  have p1:=Int.mul_le_mul_of_nonneg_left (show c<=q by omega) ha
  have p2':=Int.mul_le_mul_of_nonneg_left (show c<=q by omega) hb
  have p3:0<=a*c:=Int.mul_nonneg ha (by omega)
  have p4:0<=b*c:=Int.mul_nonneg hb (by omega)
  have e1:aI (q-c)=q-c:=wrap64 (by omega)
  have e2:aI (a*q-a*c)=a*(q-c):=by rw [Int.mul_sub];exact wrap64 (by omega)
  have e3:aI (b*q-b*c)=b*(q-c):=by rw [Int.mul_sub];exact wrap64 (by omega)
  have f1:aI (0+c)=c:=by rw [Int.zero_add];exact wrap64 (by omega)
  have f2:aI (0+a*c)=a*c:=by rw [Int.zero_add];exact wrap64 (by omega)
  have f3:aI (0+b*c)=b*c:=by rw [Int.zero_add];exact wrap64 (by omega)
  have f4:aI (c-c)=0:=by rw [Int.sub_self];rfl
  obtain ⟨m,rfl⟩:∃ m,n=m+2:=⟨n-2,by omega⟩
  refine aQX ?_
  have hh:=bGL (n:=m+2) hn hL (q:=c) ⟨hc.1,by rw [(l1 _).1];simp only;omega⟩
  unfold IU aGD;simp only [WT.run,O9]
  refine aL4 (by simp) (aL2 (aEY (λk=>absurd k (by omega)) λ_=>x_eq hh (aL2 (bF5 ?_))))
  refine tF (λr=>r=(0,1,[⟨q-c,a*(q-c),b*(q-c)⟩],⟨c,a*c,b*c⟩)) ?_ λr hr=>by subst hr;exact aL4 (Nat.le_refl 1) (aEV rfl)
  rw [bG5]
  refine tF (λr=>r=.inl (0,1,0,[⟨q-c,a*(q-c),b*(q-c)⟩],⟨c,a*c,b*c⟩)) ?_ λr hr=>?_
  · simp only [p2]
    refine tF (λy=>y=true) (aL2 (aEY (λ_=>aL2 (aEV (decide_eq_true (by omega)))) λk=>absurd (by simp) k)) λy hy=>aFQ (λ_=>?_) λk=>by rw [hy] at k;cases k
    refine aL4 (by simp) (aXZ rfl (aL2 (tF (λr=>r=(0,1,[⟨q-c,a*(q-c),b*(q-c)⟩],⟨c,a*c,b*c⟩)) (aEY (λ_=>?_) λk=>absurd (show q>c by omega) k) λr hr=>by subst hr;exact aL2 (aL2 (aL2 (aL2 (XC (by simp only [f1,f2,f3,f4]))))))))
    refine x_eq (bG3 hn ha hc hq h1) (x_eq (bG3 hn hb hc hq h2) (aL4 (by simp) (aL2 (aL4 (by simp) (aL2 (aL4 (by simp) (aL2 (aL4 (by simp) (aL2 (aL4 (by simp) (aL2 (aL4 (by simp) (aL2 (aEV ?_))))))))))))))
    simp only [e1,e2,e3]
    rfl
  · subst hr
    refine aK3 ?_
    rw [bG5]
    simp only [p2]
    refine tF (λr=>r=.inr (0,1,[⟨q-c,a*(q-c),b*(q-c)⟩],⟨c,a*c,b*c⟩)) (tF (λy=>y=false) (aL2 (aEY (λ_=>aL2 (aEV (by simp))) λk=>absurd (by simp) k)) λy hy=>aFQ (λk=>by rw [hy] at k;cases k) λ_=>aGQ (aEV rfl)) λr hr=>by subst hr;exact ⟨_,rfl,rfl⟩
theorem bIG {s:aA} {f:Int->aM} {B:Int} (h:EN s f B) {g:aM->Int} (hg:g pE0=0):gS g s=g (f 0)+g (f 1)+g (f 2):=by
  obtain ⟨x0,h0,c0⟩:=h.2 0 (by decide) (by decide)
  obtain ⟨x1,h1,c1⟩:=h.2 1 (by decide) (by decide)
  obtain ⟨x2,h2,c2⟩:=h.2 2 (by decide) (by decide)
  have hl:=h.1
  have e:s.aW=[x0,x1,x2]:=by
    match hs:s.aW,hl with
    | [a,b,c],_=>rw [hs] at h0 h1 h2;simp at h0 h1 h2;rw [h0,h1,h2]
  unfold gS
  rw [e]
  simp only [List.map_cons,List.map_nil,sI,eS,c0.po,c1.po,c2.po,hg]
  omega
theorem CS.ti {s:aA} {f:Int->aM} {B:Int} (h:CS s f B):TI s:=by
  refine ⟨h.sq,λmt hmt m hm=>(h.m2 mt hmt m hm).imp id .inl,h.en.lbs h.lb,h.tr,h.w1,h.iN,?_⟩
  obtain ⟨x0,h0,c0⟩:=h.en.2 0 (by decide) (by decide)
  obtain ⟨x1,h1,c1⟩:=h.en.2 1 (by decide) (by decide)
  obtain ⟨x2,h2,c2⟩:=h.en.2 2 (by decide) (by decide)
  have hl:=h.en.1
  have e:s.aW=[x0,x1,x2]:=by
    match hs:s.aW,hl with
    | [a,b,c],_=>rw [hs] at h0 h1 h2;simp at h0 h1 h2;rw [h0,h1,h2]
  rw [e]
  simp only [List.map_cons,List.map_nil,gX,c0.po,c1.po,c2.po,c0.dn,c1.dn,c2.dn,List.length_cons,List.length_nil]
set_option maxRecDepth 1000000
def chM (a b c:Int):eZ:=⟨3,1,[1],[[a],[b],[c]],[[0],[0],[0]]⟩
def chS (a b c:Int):aA:=⟨chM a b c,[oE,oE,oE],[],[],[],0⟩
theorem bHC {a b c:Int} (ha:M2 a) (hb:M2 b) (hc:M2 c):a4N 300 (chM a b c)=some (chS a b c):=by
  unfold M2 at ha hb hc
  rcases ha with rfl | rfl <;> rcases hb with rfl | rfl <;> rcases hc with rfl | rfl <;> kernel_rfl
theorem bHK {a b c e:Int} (h0:0<=e) (h1:e<3):In' (chS a b c) e 0:=by
  have h:e.toNat=0\/e.toNat=1\/e.toNat=2:=by omega
  have d1:∀ x,(chS a b c).aW[e.toNat]?=some x->x=oE:=λx hx=>by
    rcases h with h | h | h <;> rw [h] at hx <;> simpa [chS] using hx.symm
  have d2:∀ x,(chS a b c).bA.Methods[e.toNat]?=some x->x.length=1:=λx hx=>by
    rcases h with h | h | h <;> rw [h] at hx <;> simp [chS,chM] at hx <;> subst hx <;> rfl
  have d3:∀ x,(chS a b c).bA.dN[e.toNat]?=some x->x=[0]:=λx hx=>by
    rcases h with h | h | h <;> rw [h] at hx <;> simpa [chS,chM] using hx.symm
  exact ⟨h0,h1,by decide,by simp [chS,chM],λx hx=>by rw [d1 x hx];simp [chS,chM,oE],h1,λx hx=>by rw [d2 x hx];simp [chS,chM],h1,λx hx=>by rw [d3 x hx];simp [chS,chM]⟩
theorem bHN:EC oE pE0 0:=⟨rfl,⟨rfl,λv hv=>by
  have:=List.eq_of_mem_replicate (show v∈List.replicate 17 (0:Int) from hv)
  subst this;decide⟩,⟨_,rfl,RB0 (by decide) (by decide) (by decide) (by decide)⟩,rfl,rfl⟩
theorem chC {a b c:Int} (ha:M2 a) (hb:M2 b) (hc:M2 c):CS (chS a b c) (λ_=>pE0) 0:=by
  refine ⟨⟨by simp [chS],λx hx=>?_,by simp [chS,chM],by simp [chS,chM],λl hl=>?_,by simp [chS,chM],λl hl=>?_,by simp [chS],λ_ h=>(by cases h),by simp [chS],λ_ h=>(by cases h),by simp [chS],λ_ h=>(by cases h)⟩,λl hl q hq=>?_,⟨by simp [chS],λe h0 h1=>⟨oE,?_,bHN⟩⟩,λ_=>LB.nil,rfl,λe h0 h1=>bHK h0 h1,λ_ h=>(by cases h)⟩
  · simp only [chS,List.mem_cons,List.not_mem_nil,or_false,or_self] at hx
    subst hx;exact bFR
  · simp only [chS,chM,List.mem_cons,List.not_mem_nil,or_false] at hl
    rcases hl with rfl | rfl | rfl <;> simp
  · simp only [chS,chM,List.mem_cons,List.not_mem_nil,or_false,or_self] at hl
    subst hl
    refine ⟨by simp,λc hc=>?_⟩
    simp only [List.mem_cons,List.not_mem_nil,or_false] at hc
    subst hc;exact aP0
  · simp only [chS,chM,List.mem_cons,List.not_mem_nil,or_false] at hl
    rcases hl with rfl | rfl | rfl <;> simp only [List.mem_cons,List.not_mem_nil,or_false] at hq <;> subst hq
    · exact ha
    · exact hb
    · exact hc
  · have h:e.toNat=0\/e.toNat=1\/e.toNat=2:=by omega
    rcases h with h | h | h <;> rw [h] <;> rfl
def lay (n a b:Int):aB:=⟨n,a*n,b*n⟩
theorem bGG {n v p:Int} (hn:1<=n/\n<=1000000) (hv:0<=v/\v<=1000000) (hp:(p.natAbs:Int)<=1000000):LB [⟨n,v,p⟩]:=by
  obtain ⟨h1,h2,h3,h4⟩:=l1 ⟨n,v,p⟩
  refine ⟨by simp,λx hx=>?_,by rw [h1];simp only;omega,by rw [h2];simp only;omega,by rw [h4];simp only;omega⟩
  rw [List.mem_singleton.1 hx];exact ⟨hn.1,hv.1⟩
theorem LB.bIM {l:List aB} (h:LB l) (h0:lQ l=0):l=[]:=by
  cases l with
  | nil=>rfl
  | cons x l =>
    have h1:=h.ok x (by simp)
    have h2:=(aX6 (l:=l) λy hy=>h.ok y (by simp [hy])).1
    rw [a6T] at h0;omega
structure CG (at' n price:Int) (s:aA) (C:Int):Prop where
  ex:∃ f B,CS s f B/\0<=B/\B<=C/\(f at').cO=[lay n price (price-12)]/\∀ k,k≠at'->(f k).cO=[]
  tz:aUZ s=0/\aT2 s=0/\aXP s=0/\aYA s=0
structure CL (i n e price:Int) (s:aA):Prop where
  e0:e=0
  g:CG (i % 3) n price s ((i+1)*4000000000)
  n1:20-2*i<=n
  n2:n<=79
  p1:12<=price
  p2:price<=12+8*i
  tl:(s.bY.length:Int)=i
  sl:(s.bU.length:Int)<=i
theorem CG.dn {at' n price C k:Int} {s:aA} (h:CG at' n price s C):CG at' n price (dn s k) C:=⟨by
  obtain ⟨f,B,h1,h2⟩:=h.ex
  exact ⟨f,B,h1.dn k,h2⟩,h.tz⟩
theorem a5T {p n:Int} (hp:0<=p/\p<=100) (hn:0<=n/\n<=79):0<=p*n/\p*n<=7900:=by
  have h1:=Int.mul_nonneg hp.1 hn.1
  have h2:p*n<=100*79:=Int.mul_le_mul hp.2 hn.2 hn.1 (by omega)
  omega
theorem CG.bHU {at' n price C c:Int} {s:aA} (h:CG at' n price s C) (ha:0<=at'/\at' < 3) (hC:C<=50000000000) (hn:4<=n/\n<=79) (hp:12<=price/\price<=100) (hc:1<=c/\c<=2) (hs:s.bU.length<40):Ex (λr=>r.2=0/\CG at' (n-c) price r.1 (C+1000000000)/\r.1.bY.length=s.bY.length/\r.1.bU.length=s.bU.length+1) (a4Q 300 s ⟨4,at',0,0,0,c,1,0,[]⟩):=by
  obtain ⟨f,B,h1,h2,h3,h4,h5⟩:=h.ex
  have m1:=a5T (p:=price) (n:=n) (by omega) (by omega)
  have m2:=a5T (p:=price-12) (n:=n) (by omega) (by omega)
  have hL:LB [lay n price (price-12)]:=bGG (by omega) (by omega) (by omega)
  have hO:=bHI (n:=300) (a:=price) (b:=price-12) (c:=c) (q:=n) (by omega) (by omega) (by omega) (by omega) (by omega) (by omega) (by omega) hL
  have k1:=l1 (lay n price (price-12))
  unfold lay at k1
  simp only at k1
  have hQ:lQ (f at').cO=n:=by rw [h4];exact k1.1
  have hV:lV (f at').cO=price*n:=by rw [h4];exact k1.2.1
  refine aS9 (bFF (P:=λt=>(∃ p' x,CS t (up f at' p') (B+1000000000)/\a1R (f at').cO c p'.cO x/\IU 300 (f at').cO c=some (p'.cO,x,0))/\t.bY=s.bY/\t.bP=s.bP/\t.bU.length=s.bU.length+1) (bIJ ha (by omega)) (.inr (.inl ⟨rfl,bHV (n:=300) (f:=f) (B:=B) (e:=at') (c:=c) (a:=1) (by omega) h1 (by omega) ha (by omega) (by decide) (by omega) hs⟩))) λr hr=>?_
  obtain ⟨r0,t,k,rt,⟨p',x,c1,c2,c3⟩,c4,c5,c6⟩:=hr
  rw [h4] at c3
  have c3:some (p'.cO,x,(0:Int))=some _:=c3.symm.trans hO
  have e1:p'.cO=[lay (n-c) price (price-12)]:=congrArg (λz=>match z with | some z=>z.1 | none=>[]) c3
  refine ⟨r0,⟨⟨up f at' p',B+1000000000,by rw [rt];exact c1.dn k,by omega,by omega,by unfold up;rw [if_pos rfl];exact e1,λj hj=>by unfold up;rw [if_neg hj];exact h5 j hj⟩,?_⟩,by rw [rt];exact congrArg List.length c4,by rw [rt];exact c6⟩
  have tz:=h.tz
  rw [rt]
  unfold aUZ aT2 aXP aYA at tz ⊢
  have:(Go.Pv.dn t k).bY=s.bY:=c4
  rw [this];exact tz
theorem CG.bHD {at' n price price' C i:Int} {s:aA} (h:CG at' n price s C) (ha:0<=at'/\at' < 3) (hC:C<=50000000000) (hn:1<=n/\n<=79) (hp:12<=price/\price<=price') (hp':price'<=100) (hi:0<=i/\i<8) (ht:(s.bY.length:Int)=i) {P:Bool}:Ex (λr=>r.2=0/\CG ((at'+1) % 3) n price' r.1 (C+2000000000)/\(r.1.bY.length:Int)=i+1/\r.1.bU.length=s.bU.length) ((a4Q 300 s ⟨12,at',0,0,(at'+1) % 3,n,price'*n,0,[]⟩).bind λx=>bnd (decide (x.2≠0)) λb=>cond b none (a4Q 300 x.1 ⟨13,0,0,0,0,n,0,i,[]⟩)):=by
  obtain ⟨f,B,h1,h2,h3,h4,h5⟩:=h.ex
  have m1:=a5T (p:=price) (n:=n) (by omega) (by omega)
  have m2:=a5T (p:=price-12) (n:=n) (by omega) (by omega)
  have m3:=a5T (p:=price') (n:=n) (by omega) (by omega)
  have m4:=a5T (p:=price' - 12) (n:=n) (by omega) (by omega)
  have e3:price'*n-price*n+(price-12)*n=(price' - 12)*n:=by rw [Int.sub_mul,Int.sub_mul];omega
  have k1:=l1 (lay n price (price-12))
  unfold lay at k1
  simp only at k1
  have hQ:lQ (f at').cO=n:=by rw [h4];exact k1.1
  have hV:lV (f at').cO=price*n:=by rw [h4];exact k1.2.1
  have hP:lP (f at').cO=(price-12)*n:=by rw [h4];exact k1.2.2.1
  have hA:lA (f at').cO<=1000000:=by rw [h4];unfold lay;rw [k1.2.2.2];omega
  have hne:(at'+1) % 3≠at':=by omega
  have hto:0<=(at'+1) % 3/\(at'+1) % 3<3:=by omega
  refine tF _ (bFF (P:=λt=>(∃ p' x,CS t (up f at' p') (B+1000000000)/\a1R (f at').cO n p'.cO x/\t.bY=s.bY++[⟨at',(at'+1) % 3,0,n,price'*n,price'*n-x.Value+x.bO⟩])/\t.bU=s.bU/\t.bP=s.bP) (bIS ha hto hne (by omega) (by omega)) (.inr (.inr ⟨.inl rfl,bIL (n:=300) (f:=f) (B:=B) (e:=at') (to:=(at'+1) % 3) (c:=n) (a:=price'*n) (by omega) h1 (by omega) ha hto (by omega) (by omega) (by omega) hA (by omega)⟩))) λr hr=>?_
  obtain ⟨r0,t,k,rt,⟨p',x,c1,c2,c3⟩,c4,c5⟩:=hr
  refine aL2 (aEY (λk=>absurd r0 k) λ_=>?_)
  have o1:=c2.q;have o2:=c2.v;have o3:=c2.p;have o4:=c2.xq
  have hz:p'.cO=[]:=c2.b.bIM (by omega)
  have z2:lV p'.cO=0:=by rw [hz];rfl
  have z3:lP p'.cO=0:=by rw [hz];rfl
  have e4:price'*n-x.Value+x.bO=(price' - 12)*n:=by omega
  rw [e4] at c3
  rw [rt]
  have c1:=c1.dn k
  have hT:(Go.Pv.dn t k).bY=s.bY++[⟨at',(at'+1) % 3,0,n,price'*n,(price' - 12)*n⟩]:=c3
  have hTi:(Go.Pv.dn t k).bY[i.toNat]?=some ⟨at',(at'+1) % 3,0,n,price'*n,(price' - 12)*n⟩:=by
    rw [hT,List.getElem?_append_right (by omega),show i.toNat-s.bY.length=0 by omega];rfl
  have hf2:(up f at' p' ((at'+1) % 3)).cO=[]:=by unfold up;rw [if_neg hne];exact h5 _ hne
  have hL2:LB ((up f at' p' ((at'+1) % 3)).cO++[⟨n,price'*n,(price' - 12)*n⟩]):=by
    rw [hf2];exact bGG (by omega) (by omega) (by omega)
  refine aS9 (bFF (P:=λu=>(∃ p2,CS u (up (up f at' p') ((at'+1) % 3) p2) (B+1000000000+1000000000)/\InR (up f at' p' ((at'+1) % 3)).cO ⟨n,price'*n,(price' - 12)*n⟩ p2.cO)/\u.bY=(Go.Pv.dn t k).bY.set i.toNat ⟨at',(at'+1) % 3,0,0,0,0⟩/\u.bU=(Go.Pv.dn t k).bU/\u.bP=(Go.Pv.dn t k).bP) (bH7 (by omega) (by omega)) (.inr (.inr ⟨.inr rfl,bIF (n:=300) (f:=up f at' p') (B:=B+1000000000) (to:=(at'+1) % 3) (c:=n) (v:=price'*n) (p:=(price' - 12)*n) (ref:=i) (by omega) c1 (by omega) hto (by omega) (by omega) (by omega) hi.1 hTi hL2⟩))) λr2 hr2=>?_
  obtain ⟨r20,t2,k2,rt2,⟨p2,d1,d2⟩,d3,d4,d5⟩:=hr2
  have e5:p2.cO=[lay n price' (price' - 12)]:=d2.e hf2
  have hT2:r2.1.bY=(s.bY++[(⟨at',(at'+1) % 3,0,n,price'*n,(price' - 12)*n⟩:dB)]).set i.toNat ⟨at',(at'+1) % 3,0,0,0,0⟩:=by rw [rt2,<- hT];exact d3
  have hTi2:(s.bY++[(⟨at',(at'+1) % 3,0,n,price'*n,(price' - 12)*n⟩:dB)])[i.toNat]?=some ⟨at',(at'+1) % 3,0,n,price'*n,(price' - 12)*n⟩:=by rw [<- hT];exact hTi
  refine ⟨r20,⟨⟨up (up f at' p') ((at'+1) % 3) p2,B+1000000000+1000000000,by rw [rt2];exact d1.dn k2,by omega,by omega,by unfold up;rw [if_pos rfl];exact e5,λj hj=>?_⟩,?_⟩,?_,?_⟩
  · unfold up
    rw [if_neg hj]
    by_cases hj2:j=at'
    · rw [if_pos hj2];exact hz
    · rw [if_neg hj2];exact h5 j hj2
  · obtain ⟨z1,z2,z3,z4⟩:=h.tz
    obtain ⟨j1,j2,j3,j4⟩:=bDS s.bY ⟨at',(at'+1) % 3,0,n,price'*n,(price' - 12)*n⟩
    unfold aUZ at z1;unfold aT2 at z2;unfold aXP at z3;unfold aYA at z4
    unfold aUZ aT2 aXP aYA
    rw [hT2,aYI dB.aQ hTi2,aYI dB.Value hTi2,aYI dB.bO hTi2,a6K dB.bO hTi2,j1,j2,j3,j4,z1,z2,z3,z4]
    refine ⟨?_,?_,?_,?_⟩ <;> simp only <;> omega
  · rw [hT2,List.length_set,List.length_append,List.length_singleton];omega
  · rw [rt2]
    exact (congrArg List.length d4).trans (congrArg List.length c4)
theorem CG.mono {at' n price C D:Int} {s:aA} (h:CG at' n price s C) (hd:C<=D):CG at' n price s D:=⟨by
  obtain ⟨f,B,h1,h2,h3,h4⟩:=h.ex
  exact ⟨f,B,h1,h2,by omega,h4⟩,h.tz⟩
theorem bIC {A:Option (aA×Int)} {g:aA->Option (aA×Int)} {P:aA×Int->Prop} (h:Ex P (A.bind λx=>bnd (decide (x.2≠0)) λb=>cond b none (g x.1))):∃ x r,A=some x/\x.2=0/\g x.1=some r/\P r:=by
  obtain ⟨r,e,p⟩:=h
  obtain ⟨x,e1,e2⟩:=Option.bind_eq_some_iff.1 e
  unfold bnd at e2
  by_cases hx:x.2=0
  · rw [decide_eq_false (λk=>k hx)] at e2
    exact ⟨x,r,e1,hx,e2,p⟩
  · rw [decide_eq_true (show x.2≠0 from hx)] at e2
    cases e2
theorem CG.bHS {at' n price C:Int} {s:aA} (h:CG at' n price s C) (ha:0<=at'/\at' < 3):TI s/\gS fQ s=n/\gS fV s=price*n/\gS fP s=(price-12)*n/\gS fA s=((price-12)*n).natAbs:=by
  obtain ⟨f,B,h1,h2,h3,h4,h5⟩:=h.ex
  have k1:=l1 (lay n price (price-12))
  unfold lay at k1
  simp only at k1
  have key:∀ (g:aM->Int) (z:Int),g pE0=0->(∀ k,k≠at'->g (f k)=0)->g (f at')=z->gS g s=z:=λg z h0 hz hq=>by
    rw [bIG h1.en h0]
    have hc:at'=0\/at'=1\/at'=2:=by omega
    rcases hc with rfl | rfl | rfl
    · rw [hq,hz 1 (by decide),hz 2 (by decide)];omega
    · rw [hq,hz 0 (by decide),hz 2 (by decide)];omega
    · rw [hq,hz 0 (by decide),hz 1 (by decide)];omega
  refine ⟨h1.ti,key fQ n rfl (λk hk=>by unfold fQ;rw [h5 k hk];rfl) (by unfold fQ;rw [h4];exact k1.1),key fV _ rfl (λk hk=>by unfold fV;rw [h5 k hk];rfl) (by unfold fV;rw [h4];exact k1.2.1),key fP _ rfl (λk hk=>by unfold fP;rw [h5 k hk];rfl) (by unfold fP;rw [h4];exact k1.2.2.1),key fA _ rfl (λk hk=>by unfold fA;rw [h5 k hk];rfl) (by unfold fA;rw [h4];exact k1.2.2.2)⟩
theorem bIU (v q:Int) (parts more:List Int):bGE 300 v q parts more=some true:=by
  refine aQX (x:=true) ?_
  unfold bGE bGY;simp only [WT.run,O9]
  refine tF _ (US (by omega)) λk hk=>?_
  have f2:=td hk.1 (show (0:Int)<2 by omega)
  have f4:=td hk.1 (show (0:Int)<4 by omega)
  have m0:=tm hk.1 (show (0:Int)<2 by omega)
  have m1:=tm f2.1 (show (0:Int)<2 by omega)
  have m2:=tm f4.1 (show (0:Int)<2 by omega)
  refine aL2 (x_v (x_v (aL2 (x_v (x_v (aL2 (x_v ?_)))))))
  refine tF _ (US (by omega)) λq0 hq0=>x_v ?_
  have hA:M2 (1+k.tmod 2):=by unfold M2;omega
  have hB:M2 (1+(k.tdiv 2).tmod 2):=by unfold M2;omega
  have hC:M2 (1+(k.tdiv 4).tmod 2):=by unfold M2;omega
  have hS:=bHC hA hB hC
  have hCS:=chC hA hB hC
  unfold chM at hS
  refine x_eq hS (x_v ?_)
  have hs0:(chS (1+k.tmod 2) (1+(k.tdiv 2).tmod 2) (1+(k.tdiv 4).tmod 2)).bY=[]/\(chS (1+k.tmod 2) (1+(k.tdiv 2).tmod 2) (1+(k.tdiv 4).tmod 2)).bU=[]/\(chS (1+k.tmod 2) (1+(k.tdiv 2).tmod 2) (1+(k.tdiv 4).tmod 2)).bP=[]:=⟨rfl,rfl,rfl⟩
  generalize chS (1+k.tmod 2) (1+(k.tdiv 2).tmod 2) (1+(k.tdiv 4).tmod 2)=s0 at *
  generalize hn0:20+q0=n0
  have hn:20<=n0/\n0<=79:=by omega
  have hL0:LB [(⟨n0,12*n0,0⟩:aB)]:=bGG (by omega) (by omega) (by decide)
  refine tF _ (bFF (P:=λt=>(∃ p',CS t (up (λ_=>pE0) 0 p') (0+1000000000)/\InR [] ⟨n0,12*n0,0⟩ p'.cO)/\t.bY=s0.bY/\t.bU=s0.bU/\t.bP.length=s0.bP.length+1) (bHB (by omega) (by omega)) (.inl ⟨rfl,bHA (n:=300) (f:=λ_=>pE0) (B:=0) (by omega) hCS (by decide) (by omega) (by omega) (by rw [hs0.2.2];decide) hL0⟩)) λr hr=>?_
  obtain ⟨r0,t,kk,rt,⟨p',c1,c2⟩,c3,c4,c5⟩:=hr
  have e1:p'.cO=[⟨n0,12*n0,0⟩]:=c2.e rfl
  have hT:r.1.bY=[]:=by rw [rt];exact c3.trans hs0.1
  have hSl:r.1.bU=[]:=by rw [rt];exact c4.trans hs0.2.1
  have hCL:CL 0 n0 r.2 12 r.1:=by
    refine ⟨r0,⟨⟨up (λ_=>pE0) 0 p',0+1000000000,by rw [rt];exact c1.dn kk,by decide,by decide,?_,λj hj=>?_⟩,?_⟩,by omega,hn.2,by decide,by decide,by rw [hT];rfl,by rw [hSl];decide⟩
    · show p'.cO=_
      rw [e1];unfold lay;simp
    · have hj:j≠0:=hj
      unfold up;rw [if_neg hj];rfl
    · unfold aUZ aT2 aXP aYA;rw [hT];exact ⟨rfl,rfl,rfl,rfl⟩
  refine tF (λr=>match r with | .inl a=>∃ i:Int,0<=i/\i<=8/\CL i a.1 a.2.1 a.2.2.1 a.2.2.2 | .inr _=>False) (aQB (m:=8) (λv=>v.2.2.2.1) (λv=>CL v.2.2.2.1 v.1 v.2.1 v.2.2.1 v.2.2.2.2) ⟨by simp,by simp,hCL⟩ (by omega) λv h1 h2 h3=>?_) λr hr=>?_
  · obtain ⟨n,e,price,i,s⟩:=v
    simp only at h1 h2 h3
    simp only [p2]
    refine tF (λb=>b=true->i<(parts.length:Int)/\i<8) (aL2 (aEY (λk1=>aL2 (aEY (λk2=>aL2 (aEV λ_=>⟨k1,k2⟩)) λ_=>aEV (λk=>nomatch k))) λ_=>aEV (λk=>nomatch k))) λb hb=>aFQ (λkb=>?_) λ_=>aGQ (XC ⟨i,h1,h2,h3⟩)
    obtain ⟨k1,k2⟩:=hb kb
    have hat:i.tmod 3=i % 3:=Int.tmod_eq_emod_of_nonneg h1
    have hn1:=h3.n1;have hn2:=h3.n2;have hp1:=h3.p1;have hp2:=h3.p2;have htl:=h3.tl;have hsl:=h3.sl
    have ha3:0<=i % 3/\i % 3<3:=by omega
    rw [hat]
    refine aL2 (ON h1 k1 λx hx=>tF _ (US (by omega)) λc hc=>aL2 ?_)
    refine tF (λr=>match r with | .inl a=>a.2.1=0/\n-2<=a.1/\a.1<=n/\CG (i % 3) a.1 price a.2.2 ((i+1)*4000000000+1000000000)/\(a.2.2.bY.length:Int)=i/\(a.2.2.bU.length:Int)<=i+1 | .inr _=>False) (aEY (λk3=>?_) λk3=>XC ⟨h3.e0,by simp only;omega,by simp only;omega,h3.g.mono (by omega),htl,by simp only;omega⟩) λr hr=>?_
    · refine tF _ (h3.g.bHU ha3 (by omega) (by omega) (by omega) (by omega) (by omega)) λr hr=>aL2 (aEY (λk=>absurd hr.1 k) λ_=>x_v (XC ⟨hr.1,by simp only;omega,by simp only;omega,hr.2.1,by simp only;omega,by simp only;omega⟩))
    · cases r with
      | inr b=>exact hr.elim
      | inl a =>
        obtain ⟨n1,e1,s1⟩:=a
        obtain ⟨he1,ha1,ha2,hg,ht1,hs1⟩:=hr
        simp only at he1 ha1 ha2 hg ht1 hs1
        refine aK3 ?_
        simp only [p2]
        refine aL2 (tF (λp=>price<=p/\p<=price+8) (aEY (λk4=>ON h1 k4 λy hy=>tF _ (US (by omega)) λd hd=>x_v (aEV ⟨by omega,by omega⟩)) λ_=>aEV ⟨Int.le_refl _,by omega⟩) λp hp=>?_)
        have hm:=a5T (p:=p) (n:=n1) (by omega) (by omega)
        have hto:(i % 3+1).tmod 3=(i % 3+1) % 3:=Int.tmod_eq_emod_of_nonneg (by omega)
        refine x_v (aL2 (x_v ?_))
        rw [hto]
        obtain ⟨y,z,z1,z2,z3,z4⟩:=bIC (g:=λt=>a4Q 300 t ⟨13,0,0,0,0,n1,0,i,[]⟩) (hg.bHD (price':=p) (i:=i) (P:=true) ha3 (by omega) (by omega) (by omega) (by omega) (by omega) ht1)
        refine x_eq z1 (aL2 (aEY (λk=>absurd z2 k) λ_=>x_eq z3 (aL2 (aEY (λk=>absurd z4.1 k) λ_=>x_v (XC ⟨by omega,rfl,?_⟩)))))
        simp only
        refine ⟨z4.1,?_,by omega,by omega,by omega,by omega,z4.2.2.1,by have:=z4.2.2.2;omega⟩
        rw [show (i+1) % 3=(i % 3+1) % 3 by omega]
        exact z4.2.1.mono (by omega)
  · cases r with
    | inr b=>exact hr.elim
    | inl a =>
      obtain ⟨i,i0,i1,h⟩:=hr
      obtain ⟨n,e,price,s⟩:=a
      simp only at h
      refine aK3 ?_
      simp only [p2]
      have hn1:=h.n1;have hn2:=h.n2;have hp1:=h.p1;have hp2:=h.p2
      obtain ⟨ti,q1,q2,q3,q4⟩:=h.g.bHS (by omega)
      obtain ⟨z1,z2,z3,z4⟩:=h.g.tz
      have m1:=a5T (p:=price) (n:=n) (by omega) (by omega)
      have m2:=a5T (p:=price-12) (n:=n) (by omega) (by omega)
      refine tF _ (bA1 (by omega) ti (by omega) (by omega) (by omega)) λg hg=>?_
      obtain ⟨g1,g2,g3⟩:=hg
      exact tF (λb=>b=true) (aL2 (aEY (λ_=>aL2 (aEY (λ_=>x_v (aL2 (aEY (λ_=>x_v (x_v (aL2 (aEY (λ_=>x_eq bBT (aEV rfl)) λk=>absurd (by omega) k)))) λk=>absurd (by omega) k))) λk=>absurd (by omega) k)) λk=>absurd h.e0 k)) λb hb=>aEV hb
open Go.ChangeShapes Go.WideShapes Go.ChangeAt Go.RowKit
theorem YJ {P:Program} {f:FuncId} {args:List AV} {vs:Array Value} {w:World} (h:PP P f args (λy=>y=aF true)) (ha:jI (s0 w) args vs) :
    Calls P f vs w λe w'=>e=.returned (.bool true)/\Below w.heap.size w w':=by
  refine (h (s0 w) vs (λ_ h=>h) ⟨0,λ_ _ h=>h⟩ ha).mono ?_
  rintro e w' ⟨y,s',v,rfl,_,rfl,rfl,h4,_,h6⟩
  have hv:=h4.dP
  subst hv
  exact ⟨rfl,⟨h6.os,h6.tape,h6.output,h6.size,λk hk=>h6.keep k hk λ⟨_,_,_,h,_⟩=>by cases h⟩⟩
end Go.Pv
