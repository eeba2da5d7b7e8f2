import Derived.Test.YtmokiknakhhhdaaGreatP56
set_option linter.unusedVariables false
set_option linter.unusedSimpArgs false
namespace Go.Pv
set_option maxRecDepth 100000
set_option maxHeartbeats 4000000
theorem eq1 {n m:Nat} {a b c d e f g:Int} {l:List Int}:fO (m+12) ⟨1,a,b,c,d,e,f,g,l⟩=dL n ⟨1,a,b,c,d,e,f,g,l⟩:=by
  rw [F4,aKK rfl,nR,oO (n:=m+11)]
  simp only [cond_eq_ite,Bool.and_eq_true,Bool.or_eq_true,decide_eq_true_eq,true_and,and_true]
  repeat' split
  all_goals first | rfl | (exfalso;omega) | (simp only [*,decide_true,decide_false];done) | (simp [*];done)
theorem eq2 {n m:Nat} {a b c d e f g:Int} {l:List Int}:fO (m+12) ⟨2,a,b,c,d,e,f,g,l⟩=dL n ⟨2,a,b,c,d,e,f,g,l⟩:=by
  rw [D3,aLZ rfl,nR,oO (n:=m+11)]
  simp only [cond_eq_ite,Bool.and_eq_true,Bool.or_eq_true,decide_eq_true_eq,true_and,and_true]
  repeat' split
  all_goals first | rfl | (exfalso;omega) | (simp only [*,decide_true,decide_false];done) | (simp [*];done)
theorem eq3 {n m:Nat} {a b c d e f g:Int} {l:List Int}:fO (m+12) ⟨3,a,b,c,d,e,f,g,l⟩=dL n ⟨3,a,b,c,d,e,f,g,l⟩:=by
  rw [EG,aGC rfl,nR,oO (n:=m+11)]
  simp only [cond_eq_ite,Bool.and_eq_true,Bool.or_eq_true,decide_eq_true_eq,true_and,and_true]
  repeat' split
  all_goals first | rfl | (exfalso;omega) | (simp only [*,decide_true,decide_false];done) | (simp [*];done)
theorem eq4 {n m:Nat} {a b c d e f g:Int} {l:List Int}:fO (m+12) ⟨4,a,b,c,d,e,f,g,l⟩=dL n ⟨4,a,b,c,d,e,f,g,l⟩:=by
  rw [FD,aGB rfl,nR,oO (n:=m+11)]
  simp only [cond_eq_ite,Bool.and_eq_true,Bool.or_eq_true,decide_eq_true_eq,true_and,and_true]
  repeat' split
  all_goals first | rfl | (exfalso;omega) | (simp only [*,decide_true,decide_false];done) | (simp [*];done)
theorem eq5 {n m:Nat} {a b c d e f g:Int} {l:List Int}:fO (m+12) ⟨5,a,b,c,d,e,f,g,l⟩=dL n ⟨5,a,b,c,d,e,f,g,l⟩:=by
  rw [GU,aJY rfl,nR,oO (n:=m+11)]
  simp only [cond_eq_ite,Bool.and_eq_true,Bool.or_eq_true,decide_eq_true_eq,true_and,and_true]
  repeat' split
  all_goals first | rfl | (exfalso;omega) | (simp only [*,decide_true,decide_false];done) | (simp [*];done)
theorem eq6 {n m:Nat} {a b c d e f g:Int} {l:List Int}:fO (m+12) ⟨6,a,b,c,d,e,f,g,l⟩=dL n ⟨6,a,b,c,d,e,f,g,l⟩:=by
  rw [DZ,aDA rfl,nR,oO (n:=m+11)]
  simp only [cond_eq_ite,Bool.and_eq_true,Bool.or_eq_true,decide_eq_true_eq,true_and,and_true]
  repeat' split
  all_goals first | rfl | (exfalso;omega) | (simp only [*,decide_true,decide_false];done) | (simp [*];done)
theorem eq7 {n m:Nat} {a b c d e f g:Int} {l:List Int}:fO (m+12) ⟨7,a,b,c,d,e,f,g,l⟩=dL n ⟨7,a,b,c,d,e,f,g,l⟩:=by
  rw [GH,aC3 rfl,nR,oO (n:=m+11)]
  simp only [cond_eq_ite,Bool.and_eq_true,Bool.or_eq_true,decide_eq_true_eq,true_and,and_true]
  repeat' split
  all_goals first | rfl | (exfalso;omega) | (simp only [*,decide_true,decide_false];done) | (simp [*];done)
theorem eq9 {n m:Nat} {a b c d e f g:Int} {l:List Int}:fO (m+12) ⟨9,a,b,c,d,e,f,g,l⟩=dL n ⟨9,a,b,c,d,e,f,g,l⟩:=by
  rw [F6,aKF rfl,nR,oO (n:=m+11)]
  simp only [cond_eq_ite,Bool.and_eq_true,Bool.or_eq_true,decide_eq_true_eq,true_and,and_true]
  repeat' split
  all_goals first | rfl | (exfalso;omega) | (simp only [*,decide_true,decide_false];done) | (simp [*];done)
theorem aCQ {n m:Nat} {a b c d e f g:Int} {l:List Int}:fO (m+12) ⟨10,a,b,c,d,e,f,g,l⟩=dL n ⟨10,a,b,c,d,e,f,g,l⟩:=by
  rw [AT,aCK rfl,nR,oO (n:=m+11)]
  simp only [cond_eq_ite,Bool.and_eq_true,Bool.or_eq_true,decide_eq_true_eq,true_and,and_true]
  repeat' split
  all_goals first | rfl | (exfalso;omega) | (simp only [*,decide_true,decide_false];done) | (simp [*];done)
theorem aJ2 {n m:Nat} {a b c d e f g:Int} {l:List Int}:fO (m+12) ⟨13,a,b,c,d,e,f,g,l⟩=dL n ⟨13,a,b,c,d,e,f,g,l⟩:=by
  rw [C8,ZY rfl,nR,oO (n:=m+11)]
  simp only [cond_eq_ite,Bool.and_eq_true,Bool.or_eq_true,decide_eq_true_eq,true_and,and_true]
  repeat' split
  all_goals first | rfl | (exfalso;omega) | (simp only [*,decide_true,decide_false];done) | (simp [*];done)
theorem aE3 {n m:Nat} {a b c d e f g:Int} {l:List Int}:fO (m+12) ⟨14,a,b,c,d,e,f,g,l⟩=dL n ⟨14,a,b,c,d,e,f,g,l⟩:=by
  rw [DC,aG4 rfl,nR,oO (n:=m+11)]
  simp only [cond_eq_ite,Bool.and_eq_true,Bool.or_eq_true,decide_eq_true_eq,true_and,and_true]
  repeat' split
  all_goals first | rfl | (exfalso;omega) | (simp only [*,decide_true,decide_false];done) | (simp [*];done)
theorem aLW {n m:Nat} {a b c d e f g:Int} {l:List Int}:fO (m+12) ⟨15,a,b,c,d,e,f,g,l⟩=dL n ⟨15,a,b,c,d,e,f,g,l⟩:=by
  rw [FH,aB5 rfl,nR,oO (n:=m+11)]
  simp only [cond_eq_ite,Bool.and_eq_true,Bool.or_eq_true,decide_eq_true_eq,true_and,and_true]
  repeat' split
  all_goals first | rfl | (exfalso;omega) | (simp only [*,decide_true,decide_false];done) | (simp [*];done)
theorem Z7 {n m:Nat} {a b c d e f g:Int} {l:List Int}:fO (m+12) ⟨16,a,b,c,d,e,f,g,l⟩=dL n ⟨16,a,b,c,d,e,f,g,l⟩:=by
  rw [CS,aCB rfl,nR,oO (n:=m+11)]
  simp only [cond_eq_ite,Bool.and_eq_true,Bool.or_eq_true,decide_eq_true_eq,true_and,and_true]
  repeat' split
  all_goals first | rfl | (exfalso;omega) | (simp only [*,decide_true,decide_false];done) | (simp [*];done)
theorem PU {α:Type} (a b c:Bool) (f:Bool->Option α):((bnd a λx=>cond x (bnd b λy=>cond y (bnd c λz=>some z) (some false)) (some false)).bind f)=f (a && (b && c)):=by cases a <;> cases b <;> cases c <;> rfl
theorem to8 {a b c d e f g:Int} {l:List Int}:pJ ⟨8,a,b,c,d,e,f,g,l⟩=some (decide (d>=0) && (decide (d<2) && decide (d≠c))):=by
  unfold pJ
  simp only [PU,xA]
  kernel_rfl
theorem eq8 {n m:Nat} {a b c d e f g:Int} {l:List Int}:fO (m+12) ⟨8,a,b,c,d,e,f,g,l⟩=dL n ⟨8,a,b,c,d,e,f,g,l⟩:=by
  rw [C9,aE2 rfl to8,nR,oO (n:=m+11)]
  simp only [cond_eq_ite,Bool.and_eq_true,Bool.or_eq_true,decide_eq_true_eq,true_and,and_true]
  repeat' split
  all_goals first | rfl | (exfalso;omega) | (simp only [*,decide_true,decide_false];done) | (simp [*];done) | (simp [*];omega)
theorem aL5 {a b c d e f g:Int} {l:List Int}:pJ ⟨12,a,b,c,d,e,f,g,l⟩=some (decide (d>=0) && (decide (d<4) && decide (d≠a))):=by
  unfold pJ
  simp only [PU,xA]
  kernel_rfl
theorem aNJ {n m:Nat} {a b c d e f g:Int} {l:List Int}:fO (m+12) ⟨12,a,b,c,d,e,f,g,l⟩=dL n ⟨12,a,b,c,d,e,f,g,l⟩:=by
  rw [G4,aDR rfl aL5,nR,oO (n:=m+11)]
  simp only [cond_eq_ite,Bool.and_eq_true,Bool.or_eq_true,decide_eq_true_eq,true_and,and_true]
  repeat' split
  all_goals first | rfl | (exfalso;omega) | (simp only [*,decide_true,decide_false];done) | (simp [*];done) | (simp [*];omega)
theorem KW {n m:Nat} {k a b c d e f g:Int} {l:List Int} (h:k<1\/k>16):dL n ⟨k,a,b,c,d,e,f,g,l⟩=some false:=by
  unfold dL
  simp only [blk]
  rw [show (decide (k<1) || decide (k>16))=true by rcases h with h | h <;> simp [h]]
  rfl
def qN:List Int->List Int->Bool
  | _,[]=>true
  | s,v :: r=>decide (0<=v) && (decide (v<40) && (!decide (v∈s) && qN (s++[v]) r))
def uF (l:List Int):Bool:=qN [] l && decide (0<l.length)
structure Rel (s:List Int) (sn:List Bool):Prop where
  len:sn.length=40
  at_:∀ j:Nat,j<40->sn[j]?=some (decide ((j:Int)∈s))
  cnt:sn.count true=s.length
theorem NH:Rel [] (List.replicate 40 false):=⟨by simp,λj hj=>by rw [List.getElem?_replicate,if_pos hj];simp,by decide⟩
theorem UT {s:List Int} {sn:List Bool} {v:Int} (h:Rel s sn) (h0:0<=v) (h1:v<40):sn[v.toNat]?=some (decide (v∈s)):=by
  have:=h.at_ v.toNat (by omega)
  rwa [Int.toNat_of_nonneg h0] at this
theorem SG {s:List Int} {sn:List Bool} {v:Int} (h:Rel s sn) (h0:0<=v) (h1:v<40) (h2:v ∉ s):Rel (s++[v]) (sn.set v.toNat true):=by
  have hl:=h.len
  refine ⟨by rw [List.length_set];exact hl,λj hj=>?_,?_⟩
  · rw [List.getElem?_set]
    by_cases he:v.toNat=j
    · rw [if_pos he,if_pos (by omega)]
      have:(j:Int)=v:=by omega
      simp [this]
    · rw [if_neg he,h.at_ j hj]
      have:(j:Int)≠v:=by omega
      simp [this]
  · have hi:v.toNat<sn.length:=by omega
    have hv:=UT h h0 h1
    rw [List.getElem?_eq_getElem hi] at hv
    have hv:sn[v.toNat]=false:=by
      have:=Option.some.inj hv;rw [this];exact decide_eq_false h2
    rw [List.count_set hi,hv,List.length_append,h.cnt];rfl
theorem LP:∀ (r s:List Int) (sn:List Bool),Rel s sn->qN s r=true->s.length+r.length<=40
  | [],s,sn,h,_=>by
    have:=List.count_le_length (a:=true) (l:=sn)
    rw [h.cnt,h.len] at this;simpa using this
  | v :: r,s,sn,h,hg=>by
    simp only [qN,Bool.and_eq_true,decide_eq_true_eq,Bool.not_eq_true',decide_eq_false_iff_not] at hg
    have:=LP r (s++[v]) _ (SG h hg.1 hg.2.1 hg.2.2.1) hg.2.2.2
    simp only [List.length_append,List.length_cons,List.length_nil] at this ⊢;omega
theorem BX {a:List Int} {k:Nat} (h:k<a.length):a.take (k+1)=a.take k++[a[k]]:=(List.take_append_getElem h).symm
theorem XU (a:List Int) (ha:a.length<=1000000):∀ (d k n:Nat) (sn:List Bool),k+d=a.length->d<n->Rel (a.take k) sn ->
    uQ a n (k:Int) sn=some (cond (qN (a.take k) (a.drop k)) (.inl ()) (.inr false))
  | _,_,0,_,_,hn,_=>by omega
  | 0,k,n+1,sn,hk,hn,hr=>by
    rw [uQ]
    refine gV (by omega) ?_
    refine gN ?_
    rw [List.drop_of_length_le (by omega)];rfl
  | d+1,k,n+1,sn,hk,hn,hr=>by
    have hkl:k<a.length:=by omega
    have hd:a.drop k=a[k] :: a.drop (k+1):=List.drop_eq_getElem_cons hkl
    have ht:=BX hkl
    have hx:a[((k:Int)).toNat]?=some a[k]:=by simp [hkl]
    rw [uQ,hd]
    refine jF (by omega) ?_
    refine kT ?_
    refine kC (by omega) hx ?_
    have ih:=λsn'=>XU a ha d (k+1) n sn' (by omega) (by omega)
    rw [ht] at ih
    generalize a[k]=v at *
    simp only [qN]
    by_cases h0:v<0
    · refine eD (a:=true) (jF h0 (kT rfl)) ?_
      rw [decide_eq_false (show ¬ 0<=v by omega)];rfl
    by_cases h1:v>=40
    · refine eD (a:=true) (gV h0 (gN (jF h1 (kT rfl)))) ?_
      rw [decide_eq_true (show 0<=v by omega),decide_eq_false (show ¬ v<40 by omega)];rfl
    have hat:=UT hr (by omega:0<=v) (by omega)
    rw [decide_eq_true (show 0<=v by omega),decide_eq_true (show v<40 by omega)]
    by_cases h2:v∈a.take k
    · refine eD (a:=true) (gV h0 (gN (gV h1 (gN (l6 (by omega) (kC (by omega) (hat.trans (congrArg some (decide_eq_true h2))) rfl)))))) ?_
      rw [decide_eq_true h2];rfl
    · refine eD (a:=false) (gV h0 (gN (gV h1 (gN (l6 (by omega) (kC (by omega) (hat.trans (congrArg some (decide_eq_false h2))) rfl)))))) ?_
      refine gN (l6 (by omega) (kC (by omega) hat (oV (vN (by omega) ?_))))
      rw [decide_eq_false h2]
      exact ih _ (SG hr (by omega) (by omega) h2)
theorem FX {n:Nat} {a:List Int} (ha:a.length<=1000000) (hn:a.length<n):y8 n a=some (uF a):=by
  unfold y8 uF
  have h:=XU a ha a.length 0 n _ (by omega) hn NH
  rw [List.take_zero,List.drop_zero] at h
  refine eD h ?_
  cases qN [] a
  · rfl
  · refine yK (oV ?_)
    show some (decide _)=some (true && decide _)
    rw [Bool.true_and];congr 1;exact decide_eq_decide.2 (by omega)
theorem aF0 {a:List Int} {k j:Nat} (hj:j<k) (hk:k<a.length):a[j]'(by omega)∈a.take k:=by
  rw [List.mem_take_iff_getElem];exact ⟨j,by omega,rfl⟩
theorem WX (a:List Int) (ha:a.length<=1000000) (k:Nat) (hk:k<a.length):∀ (d j n:Nat),j+d=k->d<n->a[k] ∉ a.take j ->
    vV a (k:Int) n (j:Int)=some (cond (decide (a[k]∈a.take k)) (.inr (.inr (.inr false))) (.inl ()))
  | _,_,0,_,hn,_=>by omega
  | 0,j,n+1,hj,hn,hr=>by
    obtain rfl:j=k:=by omega
    rw [vV,decide_eq_false hr]
    exact gV (by omega) (gN rfl)
  | d+1,j,n+1,hj,hn,hr=>by
    have hjl:j<a.length:=by omega
    have hx:a[((j:Int)).toNat]?=some a[j]:=by simp [hjl]
    have hy:a[((k:Int)).toNat]?=some a[k]:=by simp [hk]
    rw [vV]
    refine jF (by omega) (kT (kC (by omega) hx (kC (by omega) hy ?_)))
    by_cases he:a[j]=a[k]
    · refine jF he (kT ?_)
      rw [decide_eq_true (he ▸ aF0 (by omega) hk)];rfl
    · refine gV he (gN (vN (by omega) ?_))
      refine WX a ha k hk d (j+1) n (by omega) (by omega) ?_
      rw [BX hjl,List.mem_append,List.mem_singleton]
      rintro (h | h)
      · exact hr h
      · exact he h.symm
theorem UN (a:List Int) (ha:a.length<=1000000):∀ (d k n:Nat),k+d=a.length->a.length+d<n->
    vE a n (k:Int)=some (cond (qN (a.take k) (a.drop k)) (.inl ()) (.inr false))
  | _,_,0,_,hn=>by omega
  | 0,k,n+1,hk,hn=>by
    rw [vE]
    refine gV (by omega) ?_
    refine gN ?_
    rw [List.drop_of_length_le (by omega)];rfl
  | d+1,k,n+1,hk,hn=>by
    have hkl:k<a.length:=by omega
    have hd:a.drop k=a[k] :: a.drop (k+1):=List.drop_eq_getElem_cons hkl
    have ht:=BX hkl
    have hx:a[((k:Int)).toNat]?=some a[k]:=by simp [hkl]
    have h1:=WX a ha k hkl k 0 n (by omega) (by omega) (by simp)
    rw [vE,hd]
    refine jF (by omega) ?_
    refine kT ?_
    have ih:=UN a ha d (k+1) n (by omega) (by omega)
    rw [ht] at ih
    generalize a[k]=v at *
    simp only [qN]
    by_cases h0:v<0
    · refine eD (a:=.inr (.inr false)) (eD (a:=true) (kC (by omega) hx (jF h0 (kT rfl))) rfl) ?_
      rw [decide_eq_false (show ¬ 0<=v by omega)];rfl
    by_cases h2:v>=40
    · refine eD (a:=.inr (.inr false)) (eD (a:=true) (kC (by omega) hx (gV h0 (gN (kC (by omega) hx (jF h2 rfl))))) rfl) ?_
      rw [decide_eq_true (show 0<=v by omega),decide_eq_false (show ¬ v<40 by omega)];rfl
    rw [decide_eq_true (show 0<=v by omega),decide_eq_true (show v<40 by omega)]
    by_cases h3:v∈a.take k
    · rw [decide_eq_true h3] at h1 ⊢
      refine eD (a:=.inr (.inr false)) (eD (a:=false) (kC (by omega) hx (gV h0 (gN (kC (by omega) hx (gV h2 rfl))))) (gN (eD h1 rfl))) rfl
    · rw [decide_eq_false h3] at h1 ⊢
      refine eD (a:=.inl ()) (eD (a:=false) (kC (by omega) hx (gV h0 (gN (kC (by omega) hx (gV h2 rfl))))) (gN (eD h1 rfl))) ?_
      exact yK (vN (by omega) ih)
theorem aAM {n:Nat} {a:List Int} (ha:a.length<=1000000) (hn:a.length+a.length<n):vK n a=some (uF a):=by
  unfold vK uF
  have h:=UN a ha a.length 0 n (by omega) (by omega)
  rw [List.take_zero,List.drop_zero] at h
  refine eD h ?_
  cases hg:qN [] a
  · rfl
  · have hp:=LP a [] _ NH hg
    simp only [List.length_nil] at hp
    refine yK ?_
    rw [Bool.true_and]
    by_cases h1:a.length>=1
    · rw [decide_eq_true (show 0<a.length by omega)]
      exact eD (a:=true) (jF (by omega) (kT (jF (by omega) rfl))) rfl
    · rw [decide_eq_false (show ¬ 0<a.length by omega)]
      exact eD (a:=false) (gV (by omega) (gN rfl)) rfl
def kZ (o:aF):Bool:=(dL (o.bT.length+1) o).getD false
def zN (o:aF):Prop:=o.bT.length<=1000000
theorem kinds {k:Int} (h:¬ (k<1\/k>16)):k=1\/k=2\/k=3\/k=4\/k=5\/k=6\/k=7\/k=8\/k=9\/k=10\/k=11\/k=12\/k=13\/k=14\/k=15\/k=16:=by omega
theorem MN {n:Nat} {o:aF} (hf:zN o) (hn:o.bT.length<n):dL n o=some (kZ o):=by
  obtain ⟨k,a,b,c,d,e,f,g,l⟩:=o
  unfold kZ
  replace hn:l.length<n:=hn
  replace hf:l.length<=1000000:=hf
  show _=some ((dL (l.length+1) _).getD false)
  have hs:∀ x:Option Bool,x.isSome=true->x=some (x.getD false):=by intro x h;cases x <;> first | rfl | cases h
  by_cases hk:k<1\/k>16
  · have e:=λm=>KW (n:=m) (m:=0) (a:=a) (b:=b) (c:=c) (d:=d) (e:=e) (f:=f) (g:=g) (l:=l) hk
    rw [e,e];rfl
  rcases kinds hk with rfl | rfl | rfl | rfl | rfl | rfl | rfl | rfl | rfl | rfl | rfl | rfl | rfl | rfl | rfl | rfl
  case inr.inr.inr.inr.inr.inr.inr.inr.inr.inr.inl =>
    rw [E4,E4,FX hf hn,FX hf (Nat.lt_succ_self _)]
    apply hs
    simp only [cond_eq_ite]
    repeat' split
    all_goals rfl
  all_goals
    first | rw [F4,F4] | rw [D3,D3] | rw [EG,EG] | rw [FD,FD] | rw [GU,GU] | rw [DZ,DZ] | rw [GH,GH] | rw [C9,C9] | rw [F6,F6] | rw [AT,AT] | rw [G4,G4] | rw [C8,C8] | rw [DC,DC] | rw [FH,FH] | rw [CS,CS]
    apply hs
    simp only [cond_eq_ite]
    repeat' split
    all_goals rfl
theorem WO {k:Int} (h:k<1\/k>16):lC k=some []:=by
  have h2:∀ j:Int,(1<=j/\j<=16)->decide (k=j)=false:=λj hj=>decide_eq_false (by omega)
  unfold lC
  rw [h2 1 (by decide),h2 2 (by decide),h2 3 (by decide),h2 4 (by decide),h2 5 (by decide),h2 6 (by decide),h2 7 (by decide),h2 8 (by decide),h2 9 (by decide),h2 10 (by decide),h2 11 (by decide),h2 12 (by decide),h2 13 (by decide),h2 14 (by decide),h2 15 (by decide),h2 16 (by decide)]
  rfl
theorem aJG {n:Nat} (o x:aF) {t:Bool} (h:vK n o.bT=some t):kX n o x 115=some ({ x with bT:=o.bT },t):=by
  unfold kX
  simp only [h]
  kernel_rfl
theorem aLD {a b c d e f g:Int} {l:List Int}:pJ ⟨11,a,b,c,d,e,f,g,l⟩=some (decide (d>=0) && decide (d<=2)):=by
  unfold pJ
  simp only [xA]
  kernel_rfl
theorem aE9 (l m:List Int) (h:l.length<=1000000) {n:Nat} (hn:l.length<n):rF n l m=some (decide (l=m)):=by
  unfold rF
  by_cases hl:l.length=m.length
  · have go:∀ (d k n:Nat),k+d=l.length->d<n->l.take k=m.take k->uY l m n (k:Int)=some (cond (decide (l=m)) (.inl ()) (.inr false)):=by
      intro d
      induction d with
      | zero =>
        intro k n hk hn ht
        obtain ⟨p,rfl⟩:∃ p,n=p+1:=⟨n-1,by omega⟩
        rw [uY]
        rw [List.take_of_length_le (by omega),List.take_of_length_le (by omega)] at ht
        rw [decide_eq_true ht]
        exact gV (by omega) (gN rfl)
      | succ d ih =>
        intro k n hk hn ht
        obtain ⟨p,rfl⟩:∃ p,n=p+1:=⟨n-1,by omega⟩
        have hx:l[((k:Int)).toNat]?=some l[k]:=by simp
        have hy:m[((k:Int)).toNat]?=some m[k]:=by simp
        rw [uY]
        refine jF (by omega) (kT (kC (by omega) hx (kC (by omega) hy ?_)))
        by_cases he:l[k]=m[k]
        · refine gV (by simp [he]) (gN (vN (by omega) (ih (k+1) p (by omega) (by omega) ?_)))
          rw [BX (show k<l.length by omega),BX (show k<m.length by omega),ht,he]
        · have:l≠m:=by rintro rfl;exact he rfl
          rw [decide_eq_false this]
          exact jF he (kT rfl)
    refine gV (by omega) (gN (eD (go l.length 0 n (by omega) hn (by simp)) ?_))
    cases decide (l=m) <;> rfl
  · have:l≠m:=by rintro rfl;exact hl rfl
    rw [decide_eq_false this]
    exact jF (by omega) (kT rfl)
theorem aBT (x y:aF):decide (x=y)=(decide (x.Kind=y.Kind) && (decide (x.E=y.E) && (decide (x.Item=y.Item) && (decide (x.Loc=y.Loc) && (decide (x.To=y.To) && (decide (x.aM=y.aM) && (decide (x.aQ=y.aQ) && (decide (x.Ref=y.Ref) && decide (x.bT=y.bT))))))))):=by
  obtain ⟨k,a,b,c,d,e,f,g,l⟩:=x
  obtain ⟨k',a',b',c',d',e',f',g',l'⟩:=y
  simp only [aF.mk.injEq,Bool.decide_and]
theorem aI5 (x y:aF) (h:zN x) {n:Nat} (hn:x.bT.length<n):fF n x y=some (decide (x=y)):=by
  rw [nR,aE9 _ _ h hn,aBT]
  cases decide (x.Kind=y.Kind)
  · rfl
  cases decide (x.E=y.E)
  · rfl
  cases decide (x.Item=y.Item)
  · rfl
  cases decide (x.Loc=y.Loc)
  · rfl
  cases decide (x.To=y.To)
  · rfl
  cases decide (x.aM=y.aM)
  · rfl
  cases decide (x.aQ=y.aQ)
  · rfl
  cases decide (x.Ref=y.Ref) <;> rfl
end Go.Pv
