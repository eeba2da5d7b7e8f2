import Derived.Test.YtmokiknakhhhdaaGreatP60
set_option linter.unusedVariables false
set_option linter.unusedSimpArgs false
namespace Go.Pv
set_option maxRecDepth 100000
set_option maxHeartbeats 400000
theorem aKH {n:Nat} {o:aF} (hk:o.Kind=11) {t u:Bool} (ht:pJ o=some t) (hu:vK (n+9) o.bT=some u):fO (n+12) o=(cond t (cond (decide (o.aQ>=0) && (decide (o.aQ<=1125899906842624) && (decide (o.aQ<=1073741824) || (decide (o.Kind≠9) && decide (o.Kind≠10))))) (cond u (fF (n+12) o ⟨o.Kind,0,0,0,o.To,0,o.aQ,0,o.bT⟩) (some false)) (some false)) (some false)):=by
  unfold fO
  rw [show lC o.Kind=some ([116,97,115]:List UInt8) by rw [hk];rfl]
  show ((jM o ([116,97,115]:List UInt8) (n+12) 0 ⟨o.Kind,0,0,0,0,0,0,0,[]⟩).bind _)=_
  rw [fQ (i:=0) (j:=1) rfl rfl (LA _ _ ht) rfl]
  rw [fQ (i:=1) (j:=2) rfl rfl (vM _ _) rfl]
  rw [fQ (i:=2) (j:=3) rfl rfl (aJG _ _ hu) rfl]
  rw [nE rfl]
  cases t
  · rfl
  cases (decide (o.aQ>=0) && (decide (o.aQ<=1125899906842624) && (decide (o.aQ<=1073741824) || (decide (o.Kind≠9) && decide (o.Kind≠10)))))
  · rfl
  cases u
  · rfl
  show ((fF _ _ _).bind _).bind _=_
  cases fF (n+12) o _ <;> rfl
theorem aE0 {n m:Nat} {a b c d e f g:Int} {l:List Int} (hf:l.length<=1000000) (hn:l.length<n) (hm:l.length+l.length<m):fO (m+12) ⟨11,a,b,c,d,e,f,g,l⟩=dL n ⟨11,a,b,c,d,e,f,g,l⟩:=by
  have hu:vK (m+9) l=some (uF l):=aAM hf (by omega)
  have hs:=aI5 (⟨11,a,b,c,d,e,f,g,l⟩:aF) ⟨11,0,0,0,d,0,f,0,l⟩ hf (n:=m+12) (show l.length<m+12 by omega)
  have h:=aKH (n:=m) (o:=⟨11,a,b,c,d,e,f,g,l⟩) rfl aLD hu
  refine h.trans ?_
  rw [E4,FX hf hn]
  show cond _ (cond _ (cond _ (fF (m+12) (⟨11,a,b,c,d,e,f,g,l⟩:aF) ⟨11,0,0,0,d,0,f,0,l⟩) _) _) _=_
  rw [hs]
  simp only [aF.mk.injEq,cond_eq_ite,Bool.and_eq_true,Bool.or_eq_true,decide_eq_true_eq,true_and,and_true,Option.bind_some]
  cases uF l
  · simp only [if_false,Bool.false_eq_true]
    repeat' split
    all_goals first | rfl | (exfalso;omega)
  · repeat' split
    all_goals first | rfl | (exfalso;omega) | (simp only [*,decide_true,decide_false];done) | (congr 1;apply decide_eq_true;omega) | (congr 1;apply decide_eq_false;omega)
theorem aAF {n:Nat} {o:aF} (hf:zN o) (hn:o.bT.length+o.bT.length+12<n):fO n o=some (kZ o):=by
  obtain ⟨m,rfl⟩:∃ m,n=m+12:=⟨n-12,by omega⟩
  obtain ⟨k,a,b,c,d,e,f,g,l⟩:=o
  replace hn:l.length+l.length+12<m+12:=hn
  replace hf:l.length<=1000000:=hf
  rw [<- MN (n:=l.length+1) (o:=⟨k,a,b,c,d,e,f,g,l⟩) hf (Nat.lt_succ_self _)]
  by_cases hk:k<1\/k>16
  · have e':=λm=>KW (n:=m) (m:=0) (a:=a) (b:=b) (c:=c) (d:=d) (e:=e) (f:=f) (g:=g) (l:=l) hk
    rw [e']
    unfold fO
    refine eD (WO hk) (eD (nE rfl) (yK ?_))
    rfl
  rcases kinds hk with rfl | rfl | rfl | rfl | rfl | rfl | rfl | rfl | rfl | rfl | rfl | rfl | rfl | rfl | rfl | rfl
  · exact eq1
  · exact eq2
  · exact eq3
  · exact eq4
  · exact eq5
  · exact eq6
  · exact eq7
  · exact eq8
  · exact eq9
  · exact aCQ
  · exact aE0 hf (Nat.lt_succ_self _) (by omega)
  · exact aNJ
  · exact aJ2
  · exact aE3
  · exact aLW
  · exact Z7
theorem WM:∀ (l s:List Int),qN s l=true->∀ x∈l,0<=x/\x<40
  | [],_,_,x,h=>by cases h
  | v :: r,s,hg,x,h=>by
    simp only [qN,Bool.and_eq_true,decide_eq_true_eq,Bool.not_eq_true',decide_eq_false_iff_not] at hg
    rcases List.mem_cons.1 h with rfl | h
    · exact ⟨hg.1,hg.2.1⟩
    · exact WM r _ hg.2.2.2 x h
def nY (k:Int):List UInt8 :=
  if k=1\/k=4 then [101,105,108,113,97] else if k=2\/k=5 then [113,97,114] else if k=3 then [113,114] else if k=6\/k=7 then [101,105,108,113]
  else if k=8 then [101,105,108,116,113] else if k=9\/k=10 then [101,105,97] else if k=11 then [116,97,115] else if k=12 then [101,105,108,116,113,97]
  else if k=13 then [108,113,114] else if k=14\/k=15\/k=16 then [101] else []
theorem aM9 (k:Int):lC k=some (nY k):=by
  by_cases hk:k<1\/k>16
  · rw [WO hk];unfold nY
    rw [if_neg (by omega),if_neg (by omega),if_neg (by omega),if_neg (by omega),if_neg (by omega),if_neg (by omega),if_neg (by omega),if_neg (by omega),if_neg (by omega),if_neg (by omega)]
  rcases kinds hk with rfl | rfl | rfl | rfl | rfl | rfl | rfl | rfl | rfl | rfl | rfl | rfl | rfl | rfl | rfl | rfl <;> rfl
def IS (o:aF) (x:aF) (c:UInt8):aF :=
  if c=101 then { x with E:=o.E } else if c=105 then { x with Item:=o.Item } else if c=108 then { x with Loc:=o.Loc } else if c=116 then { x with To:=o.To }
  else if c=113 then { x with aM:=o.aM } else if c=97 then { x with aQ:=o.aQ } else if c=114 then { x with Ref:=o.Ref } else { x with bT:=o.bT }
def QF (o:aF):aF:=(nY o.Kind).foldl (IS o) ⟨o.Kind,0,0,0,0,0,0,0,[]⟩
structure Fits (o:aF):Prop where
  k:1<=o.Kind/\o.Kind<=16
  a:0<=o.E/\o.E<=3
  b:0<=o.Item/\o.Item<=4
  c:0<=o.Loc/\o.Loc<=1
  d:0<=o.To/\o.To<=3
  e:0<=o.aM/\o.aM<=1073741824
  f:0<=o.aQ/\o.aQ<=1125899906842624
  g:0<=o.Ref/\o.Ref<=39
  l:o.bT.length<=40
  m:∀ x∈o.bT,0<=x/\x<40
  p:o=QF o
theorem aGY {l:List Int} (h:uF l=true):l.length<=40/\∀ x∈l,0<=x/\x<40:=by
  unfold uF at h
  rw [Bool.and_eq_true] at h
  exact ⟨by simpa using LP l [] _ NH h.1,WM l _ h.1⟩
theorem R3 {o:aF} (hf:zN o) (h:kZ o=true):Fits o:=by
  obtain ⟨k,a,b,c,d,e,f,g,l⟩:=o
  have h2:=MN (n:=l.length+1) (o:=⟨k,a,b,c,d,e,f,g,l⟩) hf (Nat.lt_succ_self _)
  rw [h] at h2
  by_cases hk:k<1\/k>16
  · have e':=λm=>KW (n:=m) (m:=0) (a:=a) (b:=b) (c:=c) (d:=d) (e:=e) (f:=f) (g:=g) (l:=l) hk
    rw [e'] at h2;cases h2
  rcases kinds hk with rfl | rfl | rfl | rfl | rfl | rfl | rfl | rfl | rfl | rfl | rfl | rfl | rfl | rfl | rfl | rfl
  case inr.inr.inr.inr.inr.inr.inr.inr.inr.inr.inl =>
    rw [E4,FX hf (Nat.lt_succ_self _)] at h2
    simp only [cond_eq_ite,Bool.or_eq_true,decide_eq_true_eq] at h2
    repeat' split at h2
    all_goals first | (cases h2;done) | skip
    have h3:uF l=true:=Option.some.inj h2
    have h4:=aGY h3
    refine ⟨by dsimp only;omega,by dsimp only;omega,by dsimp only;omega,by dsimp only;omega,by dsimp only;omega,by dsimp only;omega,by dsimp only;omega,by dsimp only;omega,h4.1,h4.2,?_⟩
    show _=(⟨11,0,0,0,d,0,f,0,l⟩:aF)
    simp only [aF.mk.injEq,true_and,and_true];omega
  all_goals
    first | rw [F4] at h2 | rw [D3] at h2 | rw [EG] at h2 | rw [FD] at h2 | rw [GU] at h2 | rw [DZ] at h2 | rw [GH] at h2 | rw [C9] at h2 | rw [F6] at h2 | rw [AT] at h2 | rw [G4] at h2 | rw [C8] at h2 | rw [DC] at h2 | rw [FH] at h2 | rw [CS] at h2
    simp only [cond_eq_ite,Bool.or_eq_true,decide_eq_true_eq] at h2
    repeat' split at h2
    all_goals first | (cases h2;done) | skip
    have hl:l=[]:=List.eq_nil_of_length_eq_zero (by omega)
    subst hl
    refine ⟨by dsimp only;omega,by dsimp only;omega,by dsimp only;omega,by dsimp only;omega,by dsimp only;omega,by dsimp only;omega,by dsimp only;omega,by dsimp only;omega,by simp,(λx hx=>by cases hx),?_⟩
    first
      | (show _=(⟨1,a,b,c,0,e,f,0,[]⟩:aF);simp only [aF.mk.injEq,true_and,and_true];omega)
      | (show _=(⟨4,a,b,c,0,e,f,0,[]⟩:aF);simp only [aF.mk.injEq,true_and,and_true];omega)
      | (show _=(⟨2,0,0,0,0,e,f,g,[]⟩:aF);simp only [aF.mk.injEq,true_and,and_true];omega)
      | (show _=(⟨5,0,0,0,0,e,f,g,[]⟩:aF);simp only [aF.mk.injEq,true_and,and_true];omega)
      | (show _=(⟨3,0,0,0,0,e,0,g,[]⟩:aF);simp only [aF.mk.injEq,true_and,and_true];omega)
      | (show _=(⟨6,a,b,c,0,e,0,0,[]⟩:aF);simp only [aF.mk.injEq,true_and,and_true];omega)
      | (show _=(⟨7,a,b,c,0,e,0,0,[]⟩:aF);simp only [aF.mk.injEq,true_and,and_true];omega)
      | (show _=(⟨8,a,b,c,d,e,0,0,[]⟩:aF);simp only [aF.mk.injEq,true_and,and_true];omega)
      | (show _=(⟨9,a,b,0,0,0,f,0,[]⟩:aF);simp only [aF.mk.injEq,true_and,and_true];omega)
      | (show _=(⟨10,a,b,0,0,0,f,0,[]⟩:aF);simp only [aF.mk.injEq,true_and,and_true];omega)
      | (show _=(⟨12,a,b,c,d,e,f,0,[]⟩:aF);simp only [aF.mk.injEq,true_and,and_true];omega)
      | (show _=(⟨13,0,0,c,0,e,0,g,[]⟩:aF);simp only [aF.mk.injEq,true_and,and_true];omega)
      | (show _=(⟨14,a,0,0,0,0,0,0,[]⟩:aF);simp only [aF.mk.injEq,true_and,and_true];omega)
      | (show _=(⟨15,a,0,0,0,0,0,0,[]⟩:aF);simp only [aF.mk.injEq,true_and,and_true];omega)
      | (show _=(⟨16,a,0,0,0,0,0,0,[]⟩:aF);simp only [aF.mk.injEq,true_and,and_true];omega)
set_option maxHeartbeats 1000000
def xZ (o:aF) (c:UInt8):Int :=
  if c=101 then o.E else if c=105 then o.Item else if c=108 then o.Loc else if c=116 then o.To else if c=113 then o.aM else if c=97 then o.aQ else o.Ref
def mX (o:aF) (c:UInt8):List UInt8:=if c=115 then lG o.bT else enc (xZ o c)
def gL (o:aF):List UInt8:=enc o.Kind++(nY o.Kind).flatMap (mX o)
theorem wJ {c k:UInt8} (h:c≠k):¬ ((c.toNat:Int)=(k.toNat:Int)):=λe=>h (UInt8.toNat_inj.1 (by omega))
theorem wX {c k:UInt8} (h:c=k):(c.toNat:Int)=(k.toNat:Int):=by rw [h]
theorem aCJ (o:aF) (c:UInt8):CB o (c.toNat:Int)=some (xZ o c):=by
  unfold CB xZ
  by_cases h:c=101
  · rw [if_pos h];exact jF (wX h) (kT rfl)
  refine gV (wJ h) (gN ?_);rw [if_neg h]
  by_cases h:c=105
  · rw [if_pos h];exact jF (wX h) (kT rfl)
  refine gV (wJ h) (gN ?_);rw [if_neg h]
  by_cases h:c=108
  · rw [if_pos h];exact jF (wX h) (kT rfl)
  refine gV (wJ h) (gN ?_);rw [if_neg h]
  by_cases h:c=116
  · rw [if_pos h];exact jF (wX h) (kT rfl)
  refine gV (wJ h) (gN ?_);rw [if_neg h]
  by_cases h:c=113
  · rw [if_pos h];exact jF (wX h) (kT rfl)
  refine gV (wJ h) (gN ?_);rw [if_neg h]
  by_cases h:c=97
  · rw [if_pos h];exact jF (wX h) (kT rfl)
  refine gV (wJ h) (gN ?_);rw [if_neg h]
theorem aLO {v:Int} (h:gT v):eB v=some (enc v):=l6 h rfl
theorem CP {v:Int} (h:gT v):rY v=some (enc v):=l6 h rfl
theorem aH8 {l:List Int} (h:∀ x∈l,gT x) (hl:l.length<=1000000):zK l=some (lG l):=l6 ⟨h,by omega⟩ rfl
theorem aK0 {l:List Int} {k:Nat} (h:k<l.length):(l.drop k).flatMap enc=enc l[k]++(l.drop (k+1)).flatMap enc:=JH h
theorem PM (l:List Int) (hv:∀ x∈l,gT x) (hl:l.length<=1000000):∀ (d k n:Nat) (s:List UInt8),k+d=l.length->d<n->s.length+11*d<=1000000000000 ->
    uW l n s (k:Int)=some (s++(l.drop k).flatMap enc)
  | _,_,0,_,_,hn,_=>by omega
  | 0,k,n+1,s,hk,hn,hs=>by
    rw [uW,List.drop_of_length_le (by omega)]
    exact gV (by omega) (gN (by simp))
  | d+1,k,n+1,s,hk,hn,hs=>by
    have hkl:k<l.length:=by omega
    have hx:l[((k:Int)).toNat]?=some l[k]:=by simp [hkl]
    have hi:gT l[k]:=hv _ (List.getElem_mem hkl)
    have he:=pV l[k]
    rw [uW,aK0 hkl,<- List.append_assoc]
    refine jF (by omega) (kT (kC (by omega) hx (eD (CP hi) (l6 (by omega) (oV (vN (by omega) ?_))))))
    exact PM l hv hl d (k+1) n _ (by omega) (by omega) (by rw [List.length_append];omega)
theorem aC9 {l:List Int} (hv:∀ x∈l,gT x) (hl:l.length<=1000000) {n:Nat} (hn:l.length<n):vQ n l=some (lG l):=by
  have he:=pV (l.length:Int)
  unfold vQ
  refine eD (CP (BC (by omega))) (eD (PM l hv hl l.length 0 n _ (by omega) hn (by omega)) ?_)
  rfl
theorem OQ {v:Int} (h:0<=v) (h2:v<=1125899906842624):gT v:=⟨by omega,by omega⟩
theorem Fits.v {o:aF} (h:Fits o) (c:UInt8):gT (xZ o c):=by
  have ha:=h.a;have hb:=h.b;have hc:=h.c;have hd:=h.d;have he:=h.e;have hf:=h.f;have hg:=h.g
  unfold xZ gT
  repeat' split
  all_goals omega
theorem Fits.r {o:aF} (h:Fits o):∀ x∈o.bT,gT x:=λx hx=>by
  have:=h.m x hx;exact ⟨by omega,by omega⟩
theorem TQ {o:aF} (h:Fits o) (c:UInt8):(mX o c).length<=500:=by
  unfold mX;split
  · have:=NZ o.bT;have:=h.l;omega
  · have:=pV (xZ o c);omega
theorem QU {a1:List aF} {i:Int} {o:aF} (h0:0<=i) (hx:a1[i.toNat]?=some o) (hf:Fits o) (hl:List UInt8) (hll:hl.length<=100):∀ (d k n:Nat) (s:List UInt8),k+d=hl.length->d+41<n->s.length+500*d<=1000000000000 ->
    vI a1 i hl n s (k:Int)=some (s++(hl.drop k).flatMap (mX o))
  | _,_,0,_,_,hn,_=>by omega
  | 0,k,n+1,s,hk,hn,hs=>by
    rw [vI,List.drop_of_length_le (by omega)]
    exact gV (by omega) (gN (by simp))
  | d+1,k,n+1,s,hk,hn,hs=>by
    have hkl:k<hl.length:=by omega
    have hc:hl[((k:Int)).toNat]?=some hl[k]:=by simp [hkl]
    have he:=TQ hf hl[k]
    have ih:=λs' h=>QU h0 hx hf hl hll d (k+1) n s' (by omega) (by omega) h
    rw [vI,List.drop_eq_getElem_cons hkl,List.flatMap_cons,<- List.append_assoc]
    have hr:=hf.l
    generalize hl[k]=c at *
    refine jF (by omega) (kT (eD (a:=s++mX o c) ?_ (vN (by omega) ?_)))
    · refine kC (by omega) hc ?_
      unfold mX at he ⊢
      by_cases h:c=115
      · rw [if_pos h] at he ⊢
        exact jF (wX h) (kT (kC h0 hx (eD (aC9 hf.r (by omega) (by omega)) (l6 (by omega) (oV rfl)))))
      · rw [if_neg h] at he ⊢
        exact gV (wJ h) (gN (kC h0 hx (kC (by omega) hc (eD (aCJ o c) (eD (CP (hf.v c)) (l6 (by omega) (oV rfl)))))))
    · exact ih _ (by rw [List.length_append];omega)
theorem OG (k:Int):(nY k).length<=6:=by
  unfold nY;repeat' split
  all_goals simp
theorem aIF (h:List UInt8) {o:aF} (hf:Fits o):(h.flatMap (mX o)).length<=500*h.length:=by
  induction h with
  | nil=>simp
  | cons c h ih=>have:=TQ hf c;rw [List.flatMap_cons,List.length_append,List.length_cons];omega
theorem aOC {o:aF} (hf:Fits o):(gL o).length<=3011:=by
  have h1:=aIF (nY o.Kind) hf;have h2:=OG o.Kind;have h3:=pV o.Kind
  unfold gL;rw [List.length_append];omega
def uT:List aF->List UInt8->Option (List UInt8)
  | [],s=>some s
  | o :: r,s=>cond (kZ o) (uT r (s++gL o)) none
def zQ (l:List aF):List UInt8:=(uT l (enc l.length)).getD []
def ME (l:List aF):Prop:=∀ o∈l,zN o/\o.bT.length<=100
theorem PG {a1:List aF} (ha:ME a1) (hl:a1.length<=1000):∀ (d k n:Nat) (s:List UInt8),k+d=a1.length->d+250<n->s.length+3011*d<=1000000000 ->
    vG a1 n s (k:Int)=some (match uT (a1.drop k) s with | some t=>.inl t | none=>.inr [])
  | _,_,0,_,_,hn,_=>by omega
  | 0,k,n+1,s,hk,hn,hs=>by
    rw [vG,List.drop_of_length_le (by omega)]
    exact gV (by omega) (gN rfl)
  | d+1,k,n+1,s,hk,hn,hs=>by
    have hkl:k<a1.length:=by omega
    have hx:a1[((k:Int)).toNat]?=some a1[k]:=by simp [hkl]
    have ho:=ha _ (List.getElem_mem hkl)
    have ih:=λs' h=>PG ha hl d (k+1) n s' (by omega) (by omega) h
    rw [vG,List.drop_eq_getElem_cons hkl]
    generalize a1[k]=o at *
    have hck:=aAF (n:=n) ho.1 (by omega)
    refine jF (by omega) (kT ?_)
    simp only [uT]
    cases hk':kZ o with
    | false =>
      rw [hk'] at hck
      exact eD (a:=.inr (.inr [])) (kC (by omega) hx (eD hck (aNH (kT rfl)))) rfl
    | true =>
      rw [hk'] at hck
      have hf:=R3 ho.1 hk'
      have hK:=hf.k
      have h1:=pV o.Kind
      have h2:=OG o.Kind
      have hb:=QU (by omega) hx hf (nY o.Kind) (by omega) (nY o.Kind).length 0 n (s++enc o.Kind) (by omega) (by omega) (by rw [List.length_append];omega)
      refine eD (a:=.inl (s++gL o)) (kC (by omega) hx (eD hck (aJQ (gN (kC (by omega) hx (eD (aM9 _) (kC (by omega) hx (eD (CP (OQ (by omega) (by omega))) (l6 (by omega) (oV (eD hb ?_))))))))))) ?_
      · show some (Sum.inl _)=some (Sum.inl _)
        rw [List.drop_zero,List.append_assoc];rfl
      · refine yK ?_
        refine vN (by omega) ?_
        exact ih _ (by have:=aOC hf;rw [List.length_append];omega)
theorem aEH {a1:List aF} (ha:ME a1) (hl:a1.length<=400) {n:Nat} (hn:a1.length+250<n):rJ n a1=some (zQ a1):=by
  have h1:=pV (a1.length:Int)
  unfold rJ zQ
  refine gV (by omega) (gN (eD (CP (BC (by omega))) (eD (PG ha (by omega) a1.length 0 n _ (by omega) hn (by omega)) ?_)))
  rw [List.drop_zero]
  cases uT a1 (enc a1.length) <;> rfl
def xC (c:UInt8) (p:aF×RS):aF×RS :=
  if c=101 then ({ p.1 with E:=dA p.2 },dF p.2) else
  if c=105 then ({ p.1 with Item:=dA p.2 },dF p.2) else
  if c=108 then ({ p.1 with Loc:=dA p.2 },dF p.2) else
  if c=116 then ({ p.1 with To:=dA p.2 },dF p.2) else
  if c=113 then ({ p.1 with aM:=dA p.2 },dF p.2) else
  if c=97 then ({ p.1 with aQ:=dA p.2 },dF p.2) else
  if c=114 then ({ p.1 with Ref:=dA p.2 },dF p.2) else
  ({ p.1 with bT:=nV p.2 40 },oQ p.2 40)
def yP (h:List UInt8) (p:aF×RS):aF×RS:=h.foldl (λp c=>xC c p) p
def iZ (k:Int) (s:RS):aF×RS:=yP (nY k) (⟨k,0,0,0,0,0,0,0,[]⟩,s)
structure BQ (p:aF×RS):Prop where
  s:nA p.2
  l:p.2.1.length<=1000000
  r:p.1.bT.length<=40
theorem aJ9 (s:RS):(nV s 40).length<=40:=by
  unfold nV;split
  · exact Nat.zero_le _
  · rw [E7];have:=MM s 40 (by omega);omega
theorem aFH {p:aF×RS} (h:BQ p) (c:UInt8):BQ (xC c p)/\(xC c p).2.1.length<=p.2.1.length/\(xC c p).1.Kind=p.1.Kind:=by
  have h1:=GJ p.2
  have h2:=ZR p.2 40
  have h3:=h.l
  unfold xC
  repeat' split
  all_goals first | exact ⟨⟨GK h.s,Nat.le_trans h1 h3,h.r⟩,h1,rfl⟩ | exact ⟨⟨aFR h.s 40,Nat.le_trans h2 h3,aJ9 _⟩,h2,rfl⟩
theorem LQ:∀ (h:List UInt8) (p:aF×RS),BQ p->BQ (yP h p)/\(yP h p).2.1.length<=p.2.1.length/\(yP h p).1.Kind=p.1.Kind
  | [],p,hp=>⟨hp,Nat.le_refl _,rfl⟩
  | c :: h,p,hp=>by
    obtain ⟨h1,h2,h3⟩:=aFH hp c
    obtain ⟨h4,h5,h6⟩:=LQ h _ h1
    exact ⟨h4,Nat.le_trans h5 h2,h6.trans h3⟩
def qJ:Nat->RS->List aF->List aF×Int
  | 0,s,acc=>cond (!s.2 && decide (s.1=[])) (acc,0) ([],3)
  | n+1,s,acc=>cond ((iZ (dU s 16) (dW s 16)).2.2 || !kZ (iZ (dU s 16) (dW s 16)).1) ([],3) (qJ n (iZ (dU s 16) (dW s 16)).2 (acc++[(iZ (dU s 16) (dW s 16)).1]))
def OC (s:List UInt8):List aF×Int:=qJ (dU (s,false) 400).toNat (dW (s,false) 400) []
theorem UE {s:RS} (k:Int) (h:nA s) (hl:s.1.length<=1000000):BQ ((⟨k,0,0,0,0,0,0,0,[]⟩:aF),s):=⟨h,hl,by simp⟩
theorem VS {s:RS} (h:¬ (dA s<0\/16<dA s)):dU s 16=dA s/\dW s 16=dF s:=by unfold dU dW;rw [if_neg h,if_neg h];exact ⟨rfl,rfl⟩
theorem aAB {n:Nat} {q:aF×RS} {acc:List aF} (hck:dL n q.1=some (kZ q.1)) (hl:acc.length<=1000) :
    ((bnd q.2.2 λx=>cond x (some true) ((dL n q.1).bind λy=>bnd (!y) λz=>some z)).bind λw=>cond w (esc (esc (some (([]:List aF),(3:Int))))) (bnd (acc++[q.1]) λa=>bU (a.length<=68719476736) <| brk ((⟨q.2.1,q.2.2⟩:cZ),a)):Option ((cZ×(List aF))⊕((cZ×(List aF))⊕((List aF)×Int)))) =
    some (cond (q.2.2 || !kZ q.1) (.inr (.inr (([]:List aF),(3:Int)))) (.inl ((⟨q.2.1,q.2.2⟩:cZ),acc++[q.1]))):=by
  rw [hck]
  cases hb:q.2.2 with
  | true=>rfl
  | false =>
    cases ho:kZ q.1 with
    | false=>rfl
    | true =>
      show bU _ _=_
      exact l6 (by rw [List.length_append];simp;omega) rfl
theorem aDC {k:Int} (h:0<=k/\k<=16):k=0\/k=1\/k=2\/k=3\/k=4\/k=5\/k=6\/k=7\/k=8\/k=9\/k=10\/k=11\/k=12\/k=13\/k=14\/k=15\/k=16:=by omega
theorem nl {s:RS} (h:s.1.length<=1000000):(dF s).1.length<=1000000:=Nat.le_trans (GJ s) h
theorem QR {s:RS} (h:s.1.length<=1000000):s.1.length<=9223372036854775806:=Nat.le_trans h (by decide)
theorem aJS {s:RS} (h:s.1.length<=1000000):s.1.length<=1099511627776:=Nat.le_trans h (by decide)
theorem pR1 {x6 i:Int} {n:Nat} {s:RS} {acc:List aF} (hi:i<x6) (h0:0<=i) (h6:x6<=400) (hs:nA s) (hl:s.1.length<=1000000) (ha:acc.length<=1000) (hn:41<=n) :
    pU x6 (n+1) i ⟨s.1,s.2⟩ acc=cond ((iZ (dU s 16) (dW s 16)).2.2 || !kZ (iZ (dU s 16) (dW s 16)).1) (some (.inr ([],3))) (pU x6 n (i+1) ⟨(iZ (dU s 16) (dW s 16)).2.1,(iZ (dU s 16) (dW s 16)).2.2⟩ (acc++[(iZ (dU s 16) (dW s 16)).1])):=by
  obtain ⟨t,b⟩:=s
  have k1:=N7 (t,b) 16
  have k2:=MM (t,b) 16 (by omega)
  have u1:=z8 hs 16
  have u2:=Nat.le_trans (BU (t,b) 16) hl
  have hq:=(LQ (nY (dU (t,b) 16)) _ (UE (dU (t,b) 16) u1 u2)).1
  have hck:=MN (n:=n) (o:=(iZ (dU (t,b) 16) (dW (t,b) 16)).1) (Nat.le_trans hq.r (by decide)) (Nat.lt_of_le_of_lt hq.r (by omega))
  have hfin:∀ (c:Bool) (g:cZ×List aF),((some (cond c (.inr (.inr (([]:List aF),(3:Int)))) (.inl g)):Option ((cZ×(List aF))⊕((cZ×(List aF))⊕((List aF)×Int)))).bind <| sel <| p2 λ(y4_2:cZ) (y4_3:List aF)=>bnd (bM (i+1)) λx411=>pU x6 n x411 y4_2 y4_3)=cond c (some (.inr ([],3))) (pU x6 n (i+1) g.1 g.2):=by
    intro c g
    have hw:bM (i+1)=i+1:=wrap64 (by omega)
    cases c
    · show pU x6 n (bM (i+1)) g.1 g.2=_
      rw [hw];rfl
    · rfl
  refine Eq.trans ?_ (hfin ((iZ (dU (t,b) 16) (dW (t,b) 16)).2.2 || !kZ (iZ (dU (t,b) 16) (dW (t,b) 16)).1) (⟨(iZ (dU (t,b) 16) (dW (t,b) 16)).2.1,(iZ (dU (t,b) 16) (dW (t,b) 16)).2.2⟩,acc++[(iZ (dU (t,b) 16) (dW (t,b) 16)).1]))
  have ht:=aAB hck ha
  rw [<- ht]
  clear hfin hq ht
  rw [pU]
  refine jF hi (kT ?_)
  congr 1
  refine l6 (QR hl) (oV (oV ?_))
  show (λx13=>(λx14=>_) (dW (t,b) 16)) (dU (t,b) 16)=_
  generalize dU (t,b) 16=k at *
  generalize dW (t,b) 16=u at *
  clear hck
  rcases aDC ⟨k1,k2⟩ with rfl | rfl | rfl | rfl | rfl | rfl | rfl | rfl | rfl | rfl | rfl | rfl | rfl | rfl | rfl | rfl | rfl
  all_goals
    repeat (first
      | ((with_reducible refine l6 (p:=_<=_) ?_ ?_);· (first | (apply QR;repeat (first | exact u2 | apply nl)) | (apply aJS;repeat (first | exact u2 | apply nl))))
      | ((with_reducible refine l6 ?_ ?_);· (first | rfl | (repeat (first | exact u1 | apply GK))))
      | ((with_reducible refine jF ?_ ?_);· rfl)
      | ((with_reducible refine gV ?_ ?_);· decide)
      | with_reducible refine kT ?_
      | with_reducible refine gN ?_
      | with_reducible refine eD (a:=()) rfl ?_
      | with_reducible refine oV ?_)
    exact rfl
theorem T9 (c:Nat) (hc:c<=400):∀ (d k n:Nat) (s:RS) (acc:List aF),k+d=c->d+60<n->nA s->s.1.length<=1000000->acc.length<=k ->
    ∃ p,pU (c:Int) n (k:Int) ⟨s.1,s.2⟩ acc=some p/\(match p with | .inl q=>cond (!q.1.bad && decide (q.1.s=[])) (q.2,0) ([],3) | .inr e=>e)=qJ d s acc
  | _,_,0,_,_,_,hn,_,_,_=>by omega
  | 0,k,n+1,s,acc,hk,hn,hs,hl,ha=>by
    rw [pU]
    exact ⟨_,gV (by omega) (gN rfl),rfl⟩
  | d+1,k,n+1,s,acc,hk,hn,hs,hl,ha=>by
    rw [pR1 (by omega) (by omega) (by omega) hs hl (by omega) (by omega)]
    have hrg:qJ (d+1) s acc=cond ((iZ (dU s 16) (dW s 16)).2.2 || !kZ (iZ (dU s 16) (dW s 16)).1) ([],3) (qJ d (iZ (dU s 16) (dW s 16)).2 (acc++[(iZ (dU s 16) (dW s 16)).1])):=rfl
    rw [hrg]
    have hq:=(LQ (nY (dU s 16)) _ (UE (dU s 16) (z8 hs 16) (Nat.le_trans (BU s 16) hl))).1
    cases ((iZ (dU s 16) (dW s 16)).2.2 || !kZ (iZ (dU s 16) (dW s 16)).1)
    · have ih:=T9 c hc d (k+1) n (iZ (dU s 16) (dW s 16)).2 (acc++[(iZ (dU s 16) (dW s 16)).1]) (by omega) (by omega) hq.s hq.l (by rw [List.length_append];simp;omega)
      exact ih
    · exact ⟨_,rfl,rfl⟩
theorem aBC {s:List UInt8} (hs:s.length<=131072) {n:Nat} (hn:601<=n):wQ n s=some (OC s):=by
  unfold wQ
  have h0:nA (s,false):=λh=>by cases h
  have h1:=N7 (s,false) 400
  have h2:=MM (s,false) 400 (by omega)
  have h3:=BU (s,false) 400
  have hgo:=T9 (dU (s,false) 400).toNat (by omega) (dU (s,false) 400).toNat 0 n (dW (s,false) 400) [] (by omega) (by omega) (z8 h0 400) (by dsimp only at h3;omega) (by simp)
  rw [Int.toNat_of_nonneg h1] at hgo
  obtain ⟨p,hp,he⟩:=hgo
  show _=some (qJ _ _ _)
  rw [<- he]
  refine gV (by omega) (l6 rfl (eD (a:=()) rfl (l6 (by show s.length<=_;omega) (oV (oV (eD hp ?_))))))
  cases p with
  | inr e=>rfl
  | inl q =>
    obtain ⟨⟨S,B⟩,l⟩:=q
    refine yK (aAO ?_)
    cases B
    · cases S with
      | nil=>rfl
      | cons c S =>
        refine eD (a:=true) (oV (gN (jF (by simp) rfl))) ?_
        rfl
    · rfl
def EM (c:UInt8):Prop:=c=101\/c=105\/c=108\/c=116\/c=113\/c=97\/c=114\/c=115
theorem aCL (k:Int):∀ c∈nY k,EM c:=by
  intro c hc
  unfold nY at hc;unfold EM
  repeat' split at hc
  all_goals (simp only [List.mem_cons,List.not_mem_nil,or_false] at hc)
  all_goals (rcases hc with rfl | rfl | rfl | rfl | rfl | rfl | rfl | rfl <;> simp)
theorem aDV {o:aF} (hf:Fits o) (x:aF) {c:UInt8} (hc:EM c) (R:List UInt8):xC c (x,(mX o c++R,false))=(IS o x c,(R,false)):=by
  rcases hc with rfl | rfl | rfl | rfl | rfl | rfl | rfl | rfl
  · have hv:dA (enc o.E++R,false)=o.E/\dF (enc o.E++R,false)=(R,false):=rM (hf.v 101) R false
    show (({ x with E:=dA (enc o.E++R,false) }:aF),dF (enc o.E++R,false))=_
    rw [hv.1,hv.2];rfl
  · have hv:dA (enc o.Item++R,false)=o.Item/\dF (enc o.Item++R,false)=(R,false):=rM (hf.v 105) R false
    show (({ x with Item:=dA (enc o.Item++R,false) }:aF),dF (enc o.Item++R,false))=_
    rw [hv.1,hv.2];rfl
  · have hv:dA (enc o.Loc++R,false)=o.Loc/\dF (enc o.Loc++R,false)=(R,false):=rM (hf.v 108) R false
    show (({ x with Loc:=dA (enc o.Loc++R,false) }:aF),dF (enc o.Loc++R,false))=_
    rw [hv.1,hv.2];rfl
  · have hv:dA (enc o.To++R,false)=o.To/\dF (enc o.To++R,false)=(R,false):=rM (hf.v 116) R false
    show (({ x with To:=dA (enc o.To++R,false) }:aF),dF (enc o.To++R,false))=_
    rw [hv.1,hv.2];rfl
  · have hv:dA (enc o.aM++R,false)=o.aM/\dF (enc o.aM++R,false)=(R,false):=rM (hf.v 113) R false
    show (({ x with aM:=dA (enc o.aM++R,false) }:aF),dF (enc o.aM++R,false))=_
    rw [hv.1,hv.2];rfl
  · have hv:dA (enc o.aQ++R,false)=o.aQ/\dF (enc o.aQ++R,false)=(R,false):=rM (hf.v 97) R false
    show (({ x with aQ:=dA (enc o.aQ++R,false) }:aF),dF (enc o.aQ++R,false))=_
    rw [hv.1,hv.2];rfl
  · have hv:dA (enc o.Ref++R,false)=o.Ref/\dF (enc o.Ref++R,false)=(R,false):=rM (hf.v 114) R false
    show (({ x with Ref:=dA (enc o.Ref++R,false) }:aF),dF (enc o.Ref++R,false))=_
    rw [hv.1,hv.2];rfl
  · have hL:=aLI hf.r (most:=40) (by have:=hf.l;omega) (by have:=hf.l;omega) R
    show (({ x with bT:=nV (lG o.bT++R,false) 40 }:aF),oQ (lG o.bT++R,false) 40)=_
    rw [hL.1,hL.2];rfl
theorem OT {o:aF} (hf:Fits o) (R:List UInt8):∀ (h:List UInt8) (x:aF),(∀ c∈h,EM c)->yP h (x,(h.flatMap (mX o)++R,false))=(h.foldl (IS o) x,(R,false))
  | [],x,_=>rfl
  | c :: h,x,hc=>by
    rw [List.flatMap_cons,List.append_assoc]
    show yP h (xC c (x,(mX o c++(h.flatMap (mX o)++R),false)))=_
    rw [aDV hf x (hc c (List.mem_cons_self ..))]
    exact OT hf R h _ (λc' h'=>hc c' (List.mem_cons_of_mem _ h'))
theorem aIM {o:aF} (hf:Fits o) (R:List UInt8):dU (gL o++R,false) 16=o.Kind/\iZ (dU (gL o++R,false) 16) (dW (gL o++R,false) 16)=(o,(R,false)):=by
  have hk:=hf.k
  have e:gL o++R=enc o.Kind++((nY o.Kind).flatMap (mX o)++R):=by unfold gL;rw [List.append_assoc]
  obtain ⟨h1,h2⟩:=rM (OQ (by omega) (by omega):gT o.Kind) ((nY o.Kind).flatMap (mX o)++R) false
  have hi:¬ (dA (gL o++R,false)<0\/16<dA (gL o++R,false)):=by rw [e,h1];omega
  rw [(VS hi).1,(VS hi).2,e,h1,h2]
  refine ⟨rfl,?_⟩
  unfold iZ
  rw [OT hf R _ _ (aCL o.Kind)]
  show (QF o,_)=_
  rw [<- hf.p]
theorem QN (R:List UInt8):∀ (l:List aF) (acc:List aF),(∀ o∈l,kZ o=true/\Fits o)->qJ l.length (l.flatMap gL++R,false) acc=qJ 0 (R,false) (acc++l)
  | [],acc,_=>by simp
  | o :: l,acc,h=>by
    obtain ⟨h1,h2⟩:=h o (List.mem_cons_self ..)
    have he:=aIM h2 (l.flatMap gL++R)
    rw [List.flatMap_cons,List.append_assoc,List.length_cons]
    have hrg:qJ (l.length+1) (gL o++(l.flatMap gL++R),false) acc=cond ((iZ (dU (gL o++(l.flatMap gL++R),false) 16) (dW (gL o++(l.flatMap gL++R),false) 16)).2.2 || !kZ (iZ (dU (gL o++(l.flatMap gL++R),false) 16) (dW (gL o++(l.flatMap gL++R),false) 16)).1) ([],3) (qJ l.length (iZ (dU (gL o++(l.flatMap gL++R),false) 16) (dW (gL o++(l.flatMap gL++R),false) 16)).2 (acc++[(iZ (dU (gL o++(l.flatMap gL++R),false) 16) (dW (gL o++(l.flatMap gL++R),false) 16)).1])):=rfl
    rw [hrg,he.2]
    show cond (false || !kZ o) _ (qJ l.length (l.flatMap gL++R,false) (acc++[o]))=_
    rw [h1,QN R l _ (λo' h'=>h o' (List.mem_cons_of_mem _ h')),List.append_assoc];rfl
theorem aKQ {l:List aF} (hl:l.length<=400) (h:∀ o∈l,kZ o=true/\Fits o) (R:List UInt8):OC (enc l.length++(l.flatMap gL++R))=qJ 0 (R,false) l:=by
  obtain ⟨h1,h2⟩:=rM (BC (show l.length<=9223372036854775807 by omega)) (l.flatMap gL++R) false
  unfold OC
  have hc:dU (enc l.length++(l.flatMap gL++R),false) 400=l.length:=by unfold dU;rw [h1,if_neg (by omega)]
  have hr:dW (enc l.length++(l.flatMap gL++R),false) 400=(l.flatMap gL++R,false):=by unfold dW;rw [h1,h2,if_neg (by omega)]
  rw [hc,hr,Int.toNat_natCast,QN R l [] h];rfl
theorem X5:∀ (l:List aF) (s:List UInt8),(∀ o∈l,kZ o=true)->uT l s=some (s++l.flatMap gL)
  | [],s,_=>by simp [uT]
  | o :: l,s,h=>by
    simp only [uT]
    rw [h o (List.mem_cons_self ..),List.flatMap_cons,<- List.append_assoc]
    exact X5 l _ (λo' h'=>h o' (List.mem_cons_of_mem _ h'))
theorem aB6 {l:List aF} (h:∀ o∈l,kZ o=true):zQ l=enc l.length++l.flatMap gL:=by
  unfold zQ;rw [X5 l _ h];rfl
end Go.Pv
