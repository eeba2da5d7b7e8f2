import Derived.Test.YtfbohcojaajpfaaGreatOE70
set_option linter.unusedVariables false
set_option linter.unusedSimpArgs false
namespace Go.Pv
open Go.Proofs
set_option maxRecDepth 100000
set_option maxHeartbeats 1000000
theorem mem_le {l:List Int} (h:∀ x∈l,0≤x):∀ x∈l,x≤sumI l:=by
  induction l with
  | nil=>intro x hx;cases hx
  | cons y r ih =>
    intro x hx
    have h1:=h y (List.mem_cons_self ..)
    have h2:0≤sumI r:=sumf_nn fun z hz=>h z (List.mem_cons_of_mem _ hz)
    have e:sumI (y :: r)=y+sumI r:=rfl
    rcases List.mem_cons.1 hx with rfl | hx
    · omega
    · have:=ih (fun z hz=>h z (List.mem_cons_of_mem _ hz)) x hx;omega
theorem sum_lt {l:List Int} {S:Int} (h:∀ x∈l,x≤S-1):sumI l≤(l.length:Int)*(S-1):=by
  induction l with
  | nil=>simp [sumI,sumf]
  | cons y r ih =>
    have h1:=h y (List.mem_cons_self ..)
    have h2:=ih fun z hz=>h z (List.mem_cons_of_mem _ hz)
    have e:sumI (y :: r)=y+sumI r:=rfl
    have e2:(((y :: r).length:Nat):Int)*(S-1)=(r.length:Int)*(S-1)+(S-1):=by
      rw [List.length_cons];push_cast;rw [Int.add_mul,Int.one_mul]
    rw [e,e2];omega
theorem sumI_app (a b:List Int):sumI (a++b)=sumI a+sumI b:=sumf_app _ a b
theorem sumI_drop {l:List Int} {i:Nat} {x:Int} (h:l[i]?=some x):sumI (l.drop i)=x+sumI (l.drop (i+1)):=sumf_drop _ h
def SplitOk (total:Int) (w l:List Int):Prop:=l.length=w.length∧(∀ x∈l,0≤x∧x≤288230376151711744)∧sumI l=total
noncomputable def splitB (a1 S:Int) (n:Nat) (a2:List Int) (v:Int×Int×List Int×List Int):Option ((Int×Int×List Int×List Int)⊕(Int×List Int×List Int)) :=
  p2 (fun (a:Int) (b:Int×List Int×List Int)=>p2 (fun (a_1:Int) (b:List Int×List Int)=>p2 (fun (a_2 b:List Int) =>
    bnd (decide (a_1<(a2.length:Int))) fun (x_2:Bool)=>cond x_2
      ((ix a2 a_1).bind fun (x_3:Int)=>(d_ref01_MulDiv n a1 x_3 S).bind fun (x:Int×Int×Int)=>bnd (a_2++[x.fst]) fun (x_4:List Int)=>asrt (x_4.length≤68719476736)
        (bnd (b++[x.snd.fst]) fun (x_5:List Int)=>asrt (x_5.length≤68719476736) (bnd (w64 (a-x.fst)) fun (x:Int)=>bnd (w64 (a_1+1)) fun (x_6:Int)=>brk (x,x_6,x_4,x_5))))
      (esc (some (a,a_2,b)))) b) b) v
def splitC (b:List Int) (v:Int×Int):Option ((Int×Int)⊕Int) :=
  p2 (fun (a b_1:Int)=>bnd (decide (b_1<(b.length:Int))) fun (x:Bool)=>cond x
    (((ix b b_1).bind fun (x:Int)=>(ix b a).bind fun (x_2:Int)=>bnd (decide (x>x_2)) fun (x:Bool)=>cond x (some b_1) (some a)).bind fun (y:Int)=>bnd (w64 (b_1+1)) fun (x:Int)=>brk (y,x))
    (esc (some a))) v
def splitD (n:Nat) (v:Int×List Int×List Int):Option ((Int×List Int×List Int)⊕List Int) :=
  p2 (fun (a:Int) (b:List Int×List Int)=>p2 (fun (a_2 b:List Int)=>bnd (decide (a>0)) fun (x:Bool)=>cond x
    (((iter (splitC b) n (0,1)).bind fun (y:Int)=>(ix a_2 y).bind fun (x:Int)=>bnd (w64 (x+1)) fun (x:Int)=>bnd (a_2.set (Int.toNat y) x) fun (x:List Int)=>(ix b y).bind fun (x_2:Int)=>bnd (b.set (Int.toNat y) (-1)) fun (x_3:List Int)=>some (x,x_3)).bind
      fun (y:List Int×List Int)=>p2 (fun (a_3 b:List Int)=>bnd (w64 (a-1)) fun (x:Int)=>brk (x,a_3,b)) y)
    (esc (some a_2))) b) v
noncomputable def splitE {R:Type} (bad:Int→R) (good:List Int→R) (n:Nat) (a1:Int) (a2:List Int) (y:Bool):Option R :=
  ((bnd (decide (a1<0)) fun (x:Bool)=>cond x (some true) (bnd (decide (a1>288230376151711744)) fun (x:Bool)=>cond x (some true) (bnd (!y) fun (x:Bool)=>some x))).bind fun (y:Bool)=>cond y (some (bad 1))
    ((d_ref01_Sum n a2).bind fun (x:Int×Int)=>bnd (decide (x.snd≠0)) fun (x_1:Bool)=>cond x_1 (some (bad x.snd))
      ((iter (splitB a1 x.1 n a2) n (a1,0,[],[])).bind fun (y:Int×List Int×List Int)=>p2 (fun (a:Int) (b:List Int×List Int)=>p2 (fun (a_1 b:List Int) =>
        (iter (splitD n) n (a,a_1,b)).bind fun (y:List Int)=>some (good y)) b) y)))
theorem rSplitC {b:List Int} {n:Nat} (hn:b.length<n) (h1:1≤b.length) (hl:b.length≤60):Ex (fun (y:Int)=>0≤y∧y<(b.length:Int)) (iter (splitC b) n (0,1)):=by
  refine x_iter (fun (v:Int×Int)=>(0≤v.1∧v.1<(b.length:Int))∧1≤v.2∧v.2≤(b.length:Int)) (fun (v:Int×Int)=>b.length-v.2.toNat) ?_ (by simp;omega) (by simp;omega)
  rintro ⟨best,i⟩ ⟨h2,h3,h4⟩
  simp only at h2 h3 h4
  unfold splitC
  refine x_p2 (x_bnd (x_cd (fun k=>?_) fun k=>x_esc (x_end h2)))
  refine x_bi (fun (y:Int)=>0≤y∧y<(b.length:Int)) (x_ix (by omega) k fun _ _=>x_ix h2.1 h2.2 fun _ _=>x_bnd (x_cond (fun _=>x_end (by omega)) fun _=>x_end h2)) fun y hy=>x_v (x_brk ⟨⟨hy,by first | omega | (simp only;omega),by first | omega | (simp only;omega)⟩,by first | omega | (simp only;omega)⟩)
theorem rSplitD {n:Nat} {left total:Int} {l rest:List Int} (hn:66<n) (h0:0≤left∧left≤60) (hl:l.length=rest.length) (h1:1≤l.length) (h6:l.length≤60) (hp:∀ x∈l,0≤x) (ht:left+sumI l=total) (hM:total≤288230376151711744):Ex (fun (r:List Int)=>r.length=l.length∧(∀ x∈r,0≤x)∧sumI r=total) (iter (splitD n) n (left,l,rest)):=by
  refine x_iter (fun (v:Int×List Int×List Int)=>(0≤v.1∧v.1≤60)∧v.2.1.length=l.length∧v.2.2.length=l.length∧(∀ x∈v.2.1,0≤x)∧v.1+sumI v.2.1=total) (fun (v:Int×List Int×List Int)=>v.1.toNat) ?_ ⟨h0,rfl,hl.symm,hp,ht⟩ (by simp;omega)
  rintro ⟨lf,m,r⟩ ⟨a1,a2,a3,a4,a5⟩
  simp only at a1 a2 a3 a4 a5
  unfold splitD
  refine x_p2 (x_p2 (x_bnd (x_cd (fun k=>?_) fun k=>x_esc (x_end ⟨a2,a4,by first | omega | (simp only;omega)⟩))))
  refine x_bi (fun (v:List Int×List Int)=>v.1.length=l.length∧v.2.length=l.length∧(∀ x∈v.1,0≤x)∧lf-1+sumI v.1=total) ?_ fun v hv=>x_p2 (x_v (x_brk ⟨⟨by first | omega | (simp only;omega),hv.1,hv.2.1,hv.2.2.1,hv.2.2.2⟩,by first | omega | (simp only;omega)⟩))
  refine x_bi _ (rSplitC (b:=r) (by omega) (by omega) (by omega)) fun y hy=>x_ix hy.1 (by first | omega | (simp only;omega)) fun x hx=>?_
  have hx:m[y.toNat]?=some x:=hx
  have hx1:=mem_le a4 x (mem_at hx)
  have hx2:=a4 x (mem_at hx)
  refine x_v (x_bnd (x_ix hy.1 (by first | omega | (simp only;omega)) fun _ _=>x_bnd (x_end ⟨by rw [List.length_set];exact a2,by rw [List.length_set];exact a3,set_ok a4 (by omega),?_⟩)))
  have e:sumI (m.set y.toNat (x+1))=sumI m-x+(x+1):=sumf_set _ hx
  show lf-1+sumI (m.set y.toNat (x+1))=total
  omega
theorem rSplitB {n:Nat} {a1 S:Int} {w:List Int} (hn:66<n) (hl:w.length≤60) (hw:∀ x∈w,0≤x∧x≤288230376151711744) (hS:S=sumI w) (h1:1≤S∧S≤288230376151711744) (ha:0≤a1∧a1≤288230376151711744) :
    Ex (fun (r:Int×List Int×List Int)=>(0≤r.1∧r.1≤60)∧r.2.1.length=w.length∧r.2.2.length=w.length∧(∀ x∈r.2.1,0≤x)∧r.1+sumI r.2.1=a1) (iter (splitB a1 S n w) n (a1,0,[],[])):=by
  have hw0:∀ x∈w,0≤x:=fun x hx=>(hw x hx).1
  have hle:=mem_le hw0
  refine x_iter (fun (v:Int×Int×List Int×List Int)=>0≤v.2.1∧v.2.1≤(w.length:Int)∧(v.2.2.1.length:Int)=v.2.1∧(v.2.2.2.length:Int)=v.2.1∧(∀ x∈v.2.2.1,0≤x)∧(∀ x∈v.2.2.2,0≤x∧x≤S-1)∧v.1+sumI v.2.2.1=a1∧0≤v.1∧v.1≤288230376151711744∧a1*sumI (w.drop v.2.1.toNat)+sumI v.2.2.1*S+sumI v.2.2.2=a1*S) (fun (v:Int×Int×List Int×List Int)=>w.length-v.2.1.toNat) ?_ ?_ (by simp;omega)
  · rintro ⟨lf,i,l,rest⟩ ⟨a2,a3,a4,a5,a6,a7,a8,a9,a10,a11⟩
    simp only at a2 a3 a4 a5 a6 a7 a8 a9 a10 a11
    unfold splitB
    refine x_p2 (x_p2 (x_p2 (x_bnd (x_cd (fun k=>?_) fun k=>x_esc (x_end ?_)))))
    · have k:i<(w.length:Int):=k
      refine x_ix a2 k fun x hx=>?_
      have hx:w[i.toNat]?=some x:=hx
      obtain ⟨g1,g2⟩:=hw x (mem_at hx)
      have g3:=hle x (mem_at hx)
      have hmd:md a1 x S=(a1*x / S,a1*x % S,0):=by
        unfold md
        have q:=part_le (v:=a1) (q:=x) (n:=S) ha.1 (by omega) h1.1
        rw [if_neg (by omega),if_neg (by omega)]
      have q:=part_le (v:=a1) (q:=x) (n:=S) ha.1 (by omega) h1.1
      have q2:0≤a1*x % S∧a1*x % S<S:=⟨Int.emod_nonneg _ (by omega),Int.emod_lt_of_pos _ (by omega)⟩
      have q3:S*(a1*x / S)+a1*x % S=a1*x:=Int.mul_ediv_add_emod _ _
      refine x_eq (rmul_all hn (by omega) (by omega) (by omega)) ?_
      rw [hmd]
      have e:=sumI_drop hx
      have e2:(i+1).toNat=i.toNat+1:=by omega
      have e3:sumI (l++[a1*x / S])=sumI l+a1*x / S:=by rw [sumI_app];simp [sumI,sumf]
      have e4:sumI (rest++[a1*x % S])=sumI rest+a1*x % S:=by rw [sumI_app];simp [sumI,sumf]
      have new:a1*sumI (w.drop (i+1).toNat)+sumI (l++[a1*x / S])*S+sumI (rest++[a1*x % S])=a1*S:=by
        rw [e3,e4,e2]
        rw [e,Int.mul_add] at a11
        have e5:(sumI l+a1*x / S)*S=sumI l*S+S*(a1*x / S):=by rw [Int.add_mul,Int.mul_comm S]
        rw [e5];omega
      have low:0≤lf-a1*x / S:=by
        have n1:0≤a1*sumI (w.drop (i+1).toNat):=Int.mul_nonneg ha.1 (sumf_nn fun y hy=>hw0 y (List.mem_of_mem_drop hy))
        have n2:0≤sumI (rest++[a1*x % S]):=sumf_nn (app_ok (fun y hy=>(a7 y hy).1) q2.1)
        have n3:sumI (l++[a1*x / S])≤a1:=Int.le_of_mul_le_mul_right (a:=S) (b:=sumI (l++[a1*x / S])) (c:=a1) (by omega) (by omega)
        omega
      have len1:(l++[a1*x / S]).length=l.length+1:=by simp
      have len2:(rest++[a1*x % S]).length=rest.length+1:=by simp
      have ub:lf-a1*x / S≤288230376151711744:=by omega
      have tot:lf-a1*x / S+sumI (l++[a1*x / S])=a1:=by rw [e3];omega
      repeat' with_reducible first | refine x_v ?_ | refine x_bv ?_ | apply x_bnd | apply x_p2 | apply x_bb | apply x_bp | apply x_bs | apply x_be | apply x_bk | apply x_bbi | apply x_bc | apply x_ba | refine x_cd (fun _=>?_) fun _=>?_ | refine x_cn (fun _=>?_) fun _=>?_ | apply x_cT | apply x_cF | apply x_sl | apply x_esc | apply x_end | refine x_a ?_
      refine x_brk ?_
      simp only
      exact ⟨⟨by first | omega | (simp only;omega),by first | omega | (simp only;omega),by first | omega | (simp only;omega),by first | omega | (simp only;omega),app_ok a6 q.1,app_ok a7 (by omega),tot,low,ub,new⟩,by first | omega | (simp only;omega)⟩
    · have k:¬ i<(w.length:Int):=k
      have hi:i=(w.length:Int):=by omega
      rw [List.drop_eq_nil_of_le (by omega)] at a11
      have z:sumI ([]:List Int)=0:=rfl
      rw [z,Int.mul_zero,Int.zero_add] at a11
      have hr:=sum_lt (S:=S) (l:=rest) fun x hx=>(a7 x hx).2
      have hr0:0≤sumI rest:=sumf_nn fun x hx=>(a7 x hx).1
      have e1:lf*S=sumI rest:=by
        have:a1*S=(lf+sumI l)*S:=by rw [a8]
        rw [Int.add_mul] at this;omega
      have b1:0≤lf:=by
        by_cases h:0≤lf
        · exact h
        · have:lf*S≤-1*S:=Int.mul_le_mul_of_nonneg_right (by omega) (by omega)
          omega
      have b2:lf≤(rest.length:Int):=by
        by_cases h:lf≤(rest.length:Int)
        · exact h
        · have h2:((rest.length:Int)+1)*S≤lf*S:=Int.mul_le_mul_of_nonneg_right (by omega) (by omega)
          rw [Int.add_mul,Int.one_mul] at h2
          rw [Int.mul_sub,Int.mul_one] at hr
          omega
      exact ⟨by first | omega | (simp only;omega),by first | omega | (simp only;omega),by first | omega | (simp only;omega),a6,a8⟩
  · refine ⟨by simp,by simp,by simp,by simp,by simp,by simp,by simp [sumI,sumf],by simp;omega,by simp;omega,?_⟩
    simp [sumI,sumf,hS]
theorem rSplitE {R:Type} {bad:Int→R} {good:List Int→R} {n:Nat} {a1:Int} {w:List Int} {y:Bool} (hn:66<n) (hl:w.length≤60) (hw:∀ x∈w,0≤x∧x≤288230376151711744) (hy:y=true→1≤sumI w) :
    Ex (fun r=>(∃ e,e≠0∧r=bad e)∨(∃ l,SplitOk a1 w l∧r=good l)) (splitE bad good n a1 w y):=by
  unfold splitE
  refine x_bi (fun (b:Bool)=>b=false→(0≤a1∧a1≤288230376151711744)∧y=true) ?_ fun b hb=>x_cond (fun _=>x_end (.inl ⟨1,by decide,rfl⟩)) fun kb=>?_
  · refine x_bnd (x_cd (fun _=>x_end fun k=>nomatch k) fun k1=>x_bnd (x_cd (fun _=>x_end fun k=>nomatch k) fun k2=>x_bnd (x_end fun k=>⟨by omega,by simpa using k⟩)))
  obtain ⟨ha,hyt⟩:=hb kb
  have h1:=hy hyt
  refine x_eq (rSum (by omega) (by omega)) (x_bnd (x_cd (fun k=>x_end (.inl ⟨_,k,rfl⟩)) fun k=>?_))
  have hs:=sum2_ok (l:=w) (by omega)
  have e1:(sum2 w).1=sumI w:=by rw [hs.1]
  have hb2:=hs.2
  unfold InM at hb2
  have hlen:1≤w.length:=by
    cases w with
    | nil=>simp [sumI,sumf] at h1
    | cons=>simp
  rw [e1]
  refine x_bi _ (rSplitB hn hl hw rfl ⟨h1,hb2.2⟩ ha) fun r hr=>?_
  obtain ⟨lf,l,rest⟩:=r
  obtain ⟨r1,r2,r3,r4,r5⟩:=hr
  simp only at r1 r2 r3 r4 r5
  refine x_p2 (x_p2 (x_bi _ (rSplitD (l:=l) (rest:=rest) (left:=lf) (total:=a1) hn r1 (by omega) (by omega) (by omega) r4 r5 ha.2) fun z hz=>x_end (.inr ⟨z,⟨by omega,fun x hx=>⟨hz.2.1 x hx,?_⟩,hz.2.2⟩,rfl⟩)))
  have:=mem_le hz.2.1 x hx
  omega
def splitA {R:Type} (bad:Int→R) (a2:List Int) (v:Bool×Int):Option ((Bool×Int)⊕(Bool⊕R)) :=
  p2 (fun (a:Bool) (b:Int)=>bnd (decide (b<(a2.length:Int))) fun (x:Bool)=>cond x
    (((ix a2 b).bind fun (x:Int)=>bnd (decide (x<0)) fun (x:Bool)=>cond x (some true) ((ix a2 b).bind fun (x:Int)=>bnd (decide (x>288230376151711744)) fun (x:Bool)=>some x)).bind fun (y:Bool) =>
      cond y (esc (esc (some (bad 1)))) ((cond a (some true) ((ix a2 b).bind fun (x:Int)=>bnd (decide (x>0)) fun (x:Bool)=>some x)).bind fun (y:Bool)=>bnd (w64 (b+1)) fun (x:Int)=>brk (y,x)))
    (esc (brk a))) v
noncomputable def splitG {R:Type} (bad:Int→R) (good:List Int→R) (n:Nat) (a1:Int) (a2:List Int):Option R:=(iter (splitA bad a2) n (false,0)).bind (sel (splitE bad good n a1 a2))
theorem rSplitA {R:Type} {bad:Int→R} {w:List Int} {n:Nat} (hn:66<n) (hl:w.length≤60):Ex (fun r=>match r with | .inl y=>(∀ x∈w,0≤x∧x≤288230376151711744)∧(y=true→1≤sumI w) | .inr r=>r=bad 1) (iter (splitA bad w) n (false,0)):=by
  refine x_iter (fun (v:Bool×Int)=>0≤v.2∧v.2≤(w.length:Int)∧((∀ x∈w.drop v.2.toNat,0≤x∧x≤288230376151711744)→(∀ x∈w,0≤x∧x≤288230376151711744))∧(v.1=true→∃ x∈w,1≤x)) (fun (v:Bool×Int)=>w.length-v.2.toNat) ?_ (by simp) (by simp;omega)
  rintro ⟨some',i⟩ ⟨h0,h1,h2,h3⟩
  simp only at h0 h1 h2 h3
  unfold splitA
  refine x_p2 (x_bnd (x_cd (fun k=>?_) fun k=>x_esc (x_brk ⟨?_,?_⟩)))
  · have k:i<(w.length:Int):=k
    refine x_bi (fun (b:Bool)=>∀ x,w[i.toNat]?=some x→b=false→0≤x∧x≤288230376151711744) ?_ fun b hb=>x_cond (fun _=>x_esc (x_esc (x_end rfl))) fun kb=>?_
    · refine x_ix h0 k fun x hx=>x_bnd (x_cd (fun _=>x_end fun _ _ k=>nomatch k) fun k1=>x_ix h0 k fun x' hx'=>x_bnd (x_end fun y hy hk=>?_))
      have hx':w[i.toNat]?=some x':=hx'
      have hx:w[i.toNat]?=some x:=hx
      rw [hx] at hx' hy;cases hx';cases hy
      have:=of_decide_eq_false hk
      omega
    · refine x_bi (fun (b:Bool)=>b=true→∃ x∈w,1≤x) (x_cond (fun kk=>x_end fun _=>h3 kk) fun _=>x_ix h0 k fun x hx=>x_bnd (x_end fun kk=>⟨x,mem_at hx,by have:=of_decide_eq_true kk;omega⟩)) fun c hc=>?_
      have hi:i.toNat<w.length:=by omega
      have hx:w[i.toNat]?=some w[i.toNat]:=List.getElem?_eq_getElem hi
      refine x_v (x_brk ⟨⟨by first | omega | (simp only;omega),by first | omega | (simp only;omega),fun hh=>h2 fun y hy=>?_,hc⟩,by first | omega | (simp only;omega)⟩)
      rw [(drop_at hx).2] at hy
      rcases List.mem_cons.1 hy with rfl | hy
      · exact hb _ hx kb
      · exact hh y (by show y∈w.drop (i+1).toNat;rw [show (i+1).toNat=i.toNat+1 by omega];exact hy)
  · refine h2 fun x hx=>?_
    have k:¬ i<(w.length:Int):=k
    rw [List.drop_eq_nil_of_le (by omega)] at hx;cases hx
  · intro ky
    obtain ⟨x,hx,h4⟩:=h3 ky
    have k:¬ i<(w.length:Int):=k
    have hw:=h2 fun x hx=>by rw [List.drop_eq_nil_of_le (by omega)] at hx;cases hx
    have:=mem_le (fun x hx=>(hw x hx).1) x hx
    omega
theorem rSplitG {R:Type} {bad:Int→R} {good:List Int→R} {n:Nat} {a1:Int} {w:List Int} (hn:66<n) (hl:w.length≤60) :
    Ex (fun r=>(∃ e,e≠0∧r=bad e)∨(∃ l,SplitOk a1 w l∧r=good l)) (splitG bad good n a1 w):=by
  unfold splitG
  refine x_bi _ (rSplitA hn hl) fun r hr=>?_
  cases r with
  | inl y=>exact x_sl (rSplitE hn hl hr.1 hr.2)
  | inr r=>exact x_sr (.inl ⟨1,by decide,hr⟩)
theorem d_split (n:Nat) (a1:Int) (a2:List Int):d_ref02_Split n a1 a2=splitG (fun e=>([],e)) (fun l=>(l,0)) n a1 a2:=by
  unfold d_ref02_Split t_ref02_Split
  simp only [WT.run,run_pw]
  rfl
theorem rSplit {n:Nat} {a1:Int} {w:List Int} (hn:66<n) (hl:w.length≤60):Ex (fun r=>r.2=0→SplitOk a1 w r.1) (d_ref02_Split n a1 w):=by
  rw [d_split]
  refine x_weak (rSplitG hn hl) fun r hr=>?_
  rcases hr with ⟨e,h1,rfl⟩ | ⟨l,h1,rfl⟩
  · exact fun k=>absurd k h1
  · exact fun _=>h1
theorem run_el {α β:Type} {i:Ix} {f:α→WT Tryz.prog i} {g:β→WT Tryz.prog i} {y:α⊕β}:(Sum.elim f g y).run=Sum.elim (fun a=>(f a).run) (fun b=>(g b).run) y:=by cases y <;> rfl
theorem d_signed (n:Nat) (a1:Int) (a2:List Int):d_ref23_signed n a1 a2=bnd (decide (a1≥0)) fun (x:Bool)=>cond x
    ((splitG (R:=Int⊕List Int) .inl .inr n a1 a2).bind (Sum.elim (fun e=>some ([],e)) fun l=>some (l,0)))
    (bnd (w64 (0-a1)) fun (y:Int)=>(splitG (R:=Int⊕List Int) .inl .inr n y a2).bind (Sum.elim (fun e=>(iter (fun (_:Unit)=>(esc (some ()):Option (Unit⊕Unit))) n ()).bind fun _=>some ([],e))
      fun l=>(iter (fun (v:Int×List Int)=>p2 (fun (i:Int) (m:List Int)=>bnd (decide (i<(m.length:Int))) fun (x:Bool)=>cond x ((ix m i).bind fun (x:Int)=>bnd (w64 (0-x)) fun (x:Int)=>bnd (m.set (Int.toNat i) x) fun (z:List Int)=>bnd (w64 (i+1)) fun (j:Int)=>brk (j,z)) (esc (some m))) v) n (0,l)).bind fun m=>some (m,0))):=by
  unfold d_ref23_signed t_ref23_signed
  simp only [WT.run,run_pw,run_el]
  rfl
theorem rSigned {n:Nat} {a1:Int} {w:List Int} (hn:66<n) (hl:w.length≤60) (ha:-288230376151711744≤a1∧a1≤288230376151711744):Ex (fun r=>r.2=0→r.1.length=w.length∧(0≤a1→∀ x∈r.1,0≤x∧x≤288230376151711744)∧(∀ x∈r.1,InM x)) (d_ref23_signed n a1 w):=by
  rw [d_signed]
  refine x_bnd (x_cd (fun k=>?_) fun k=>x_v ?_)
  · refine x_bi _ (rSplitG hn hl) fun r hr=>?_
    rcases hr with ⟨e,h1,rfl⟩ | ⟨l,h1,rfl⟩
    · exact x_end fun k=>absurd k h1
    · exact x_end fun _=>⟨h1.1,fun _=>h1.2.1,fun x hx=>by have:=h1.2.1 x hx;unfold InM;omega⟩
  · refine x_bi _ (rSplitG hn hl) fun r hr=>?_
    rcases hr with ⟨e,h1,rfl⟩ | ⟨l,h1,rfl⟩
    · obtain ⟨m,rfl⟩:∃ m,n=m+1:=⟨n-1,by omega⟩
      exact x_end fun k=>absurd k h1
    · show Ex _ ((iter _ n (0,l)).bind _)
      refine x_bi (fun (m:List Int)=>m.length=w.length∧∀ x∈m,InM x) (x_iter (fun (v:Int×List Int)=>0≤v.1∧v.1≤(w.length:Int)∧v.2.length=w.length∧∀ x∈v.2,InM x) (fun (v:Int×List Int)=>w.length-v.1.toNat) ?_ ⟨by simp,by simp,h1.1,fun x hx=>by have:=h1.2.1 x hx;unfold InM;omega⟩ (by simp;omega)) fun m hm=>x_end fun _=>⟨hm.1,fun h=>absurd h k,hm.2⟩
      rintro ⟨i,m⟩ ⟨h2,h3,h4,h5⟩
      simp only at h2 h3 h4 h5
      refine x_p2 (x_bnd (x_cd (fun k=>?_) fun k=>x_esc (x_end ⟨h4,h5⟩)))
      have k:i<(m.length:Int):=k
      refine x_ix h2 k fun x hx=>?_
      have hx2:=h5 x (mem_at hx)
      unfold InM at hx2
      refine x_v (x_bnd (x_v (x_brk ⟨⟨by first | omega | (simp only;omega),by first | omega | (simp only;omega),by rw [List.length_set];exact h4,set_ok h5 (by unfold InM;omega)⟩,by first | omega | (simp only;omega)⟩)))
theorem t_set {l:List GLayer} {k:Nat} {a b:GLayer} (h:l[k]?=some a):tQ (l.set k b)=tQ l-a.Qty+b.Qty∧tV (l.set k b)=tV l-a.Value+b.Value∧tP (l.set k b)=tP l-a.Profit+b.Profit∧tS (l.set k b)=tS l-ab a.Profit+ab b.Profit:=by
  induction l generalizing k with
  | nil=>cases h
  | cons x r ih =>
    cases k with
    | zero=>cases h;simp only [List.set_cons_zero,tQ,tV,tP,tS];refine ⟨?_,?_,?_,?_⟩ <;> omega
    | succ k=>obtain ⟨h1,h2,h3,h4⟩:=ih h;simp only [List.set_cons_succ,tQ,tV,tP,tS,h1,h2,h3,h4];refine ⟨?_,?_,?_,?_⟩ <;> omega
theorem drop_set {α:Type} {l:List α} {i:Nat} {y:α}:(l.set i y).drop (i+1)=l.drop (i+1):=by
  apply List.ext_getElem?
  intro j
  rw [List.getElem?_drop,List.getElem?_drop,List.getElem?_set,if_neg (by omega)]
theorem rRaise {m v:Int} {p:GPool} {n:Nat} (hn:66<n) (h:PR m p) (hv:v≤288230376151711744):Ex (fun r=>r.2=0→PR m r.1∧tQ r.1.Layers=tQ p.Layers∧tV r.1.Layers=tV p.Layers+v∧tS r.1.Layers=tS p.Layers) (d_ref13_Raise n m p v):=by
  have hl:=LR_b h.ly
  unfold d_ref13_Raise t_ref13_Raise
  simp only [WT.run,run_pw]
  refine x_bi (fun (b:Bool)=>b=false→0≤v) ?_ fun b hb=>x_cond (fun _=>x_end (fun k=>absurd k (by simp))) fun kb=>?_
  · refine x_bnd (x_cd (fun _=>x_end (fun k=>nomatch k)) fun k=>x_bnd (x_end fun _=>by omega))
  have hv0:=hb kb
  refine x_bnd (x_cd (fun _=>x_end (fun k=>absurd k (by simp))) fun k1=>x_bnd (x_cd (fun _=>x_end (fun k=>absurd k (by simp))) fun k2=>x_a (x_eq (rTot13 hn h.ly) ?_)))
  refine x_bi (fun (l:List GLayer)=>l.length=p.Layers.length∧tQ l=tQ p.Layers∧tV l=tV p.Layers+v∧tS l=tS p.Layers) (x_iter (fun (w:Int×Int×List GLayer)=>0≤w.2.1∧w.2.1≤(p.Layers.length:Int)∧w.2.2.length=p.Layers.length∧tQ w.2.2=tQ p.Layers∧tV w.2.2+w.1=tV p.Layers+v∧tS w.2.2=tS p.Layers∧(∀ x∈w.2.2.drop w.2.1.toNat,LOk x)∧(w.2.1=(p.Layers.length:Int)→w.1=0)∧-288230376151711744*w.2.1≤w.1∧w.1≤288230376151711744) (fun (w:Int×Int×List GLayer)=>p.Layers.length-w.2.1.toNat) ?_ (v:=(v,0,p.Layers)) ⟨by simp,by simp,rfl,rfl,by simp,rfl,by simpa using h.ly.1,by simp;omega,by simp;omega,hv⟩ (by simp;omega)) fun l hl2=>?_
  · rintro ⟨left,i,l⟩ ⟨a1,a2,a3,a4,a5,a6,a7,a8,a9,a10⟩
    simp only at a1 a2 a3 a4 a5 a6 a7 a8 a9 a10
    refine x_p2 (x_p2 (x_bnd (x_cd (fun k=>?_) fun k=>x_esc (x_end ?_))))
    · have k:i<(p.Layers.length:Int):=k
      have hx:l[i.toNat]?=some (l[i.toNat]'(by omega)):=List.getElem?_eq_getElem (by omega)
      generalize l[i.toNat]'(by omega)=x at hx
      obtain ⟨g1,g2,g3⟩:=a7 x (by rw [(drop_at hx).2];exact List.mem_cons_self ..)
      refine x_v (x_bnd ?_)
      refine x_bi (fun (y:Int)=>(-288230376151711744*i≤y∧y≤288230376151711744)∧(i=(p.Layers.length:Int)-1→y=left)∧(i≠(p.Layers.length:Int)-1→0≤y)) (x_cd (fun kk=>x_at a1 hx (x_eq (rPart hn (by first | omega | (simp only;omega)) (by first | omega | (simp only;omega))) (x_end ?_))) fun kk=>x_end ?_) fun y hy=>?_
      · have kk:i<(p.Layers.length:Int)-1:=kk
        have:=part_nn2 (v:=v) (w:=x.Qty) (q:=tQ p.Layers) ⟨hv0,hv⟩
        simp only
        refine ⟨by omega,by omega,by omega⟩
      · have kk:¬ i<(p.Layers.length:Int)-1:=kk
        exact ⟨⟨a9,a10⟩,fun _=>rfl,fun k3=>absurd (by omega) k3⟩
      · obtain ⟨y1,y2,y3⟩:=hy
        obtain ⟨t1,t2,t3,t4⟩:=t_set (b:=(⟨x.Qty,x.Value+y,x.Profit⟩:GLayer)) hx
        simp only at t1 t2 t3 t4
        have e2:(i+1).toNat=i.toNat+1:=by omega
        have hw1:-9223372036854775808≤x.Value+y∧x.Value+y≤9223372036854775807:=by omega
        have hw2:-9223372036854775808≤left-y∧left-y≤9223372036854775807:=by omega
        refine x_at a1 hx (x_w hw1 (x_w hw2 (x_bnd (x_v (x_brk ?_)))))
        refine ⟨⟨by first | omega | (simp only;omega),by first | omega | (simp only;omega),by rw [List.length_set];exact a3,by first | omega | (simp only;omega),by first | omega | (simp only;omega),by first | omega | (simp only;omega),?_,?_,?_,?_⟩,by first | omega | (simp only;omega)⟩
        · show ∀ z∈(l.set i.toNat _).drop (i+1).toNat,LOk z
          rw [e2,drop_set]
          intro z hz
          exact a7 z (by rw [(drop_at hx).2];exact List.mem_cons_of_mem _ hz)
        · show i+1=(p.Layers.length:Int)→left-y=0
          intro k3;have:=y2 (by omega);omega
        · show -288230376151711744*(i+1)≤left-y;omega
        · show left-y≤288230376151711744
          by_cases k3:i=(p.Layers.length:Int)-1
          · have:=y2 k3;omega
          · have:=y3 k3;omega
    · have k:¬ i<(p.Layers.length:Int):=k
      have:=a8 (by omega)
      exact ⟨a3,a4,by first | omega | (simp only;omega),a6⟩
  · obtain ⟨b1,b2,b3,b4⟩:=hl2
    refine x_bi _ (rRight (by omega) (by omega)) fun r hr=>?_
    refine x_bnd (x_cn (fun _=>x_end (fun k=>absurd k (by simp))) fun k=>x_end fun _=>?_)
    have hL:=hr.1 k
    exact ⟨LR_to_PR h hL (fun k=>by have:=h.one k;omega) (by omega),b2,b3,b4⟩
theorem bump_bumpz {f:Nat→Int} {i:Nat} {a b:Int} (h:a+b=0):bump (bump f i a) i b=f:=by
  rw [bump_bump,h];funext j;unfold bump;simp
theorem rShare {s t:GState} {e:Int} {mts:List Int} {x:GEnt} {d:Int} {r:GReceipt} {v:Int} {n:Nat} (hn:66<n) (hs:SS s) (hr:ROk s.Master r) (h:On s e.toNat mts t x d (fun _=>0)) (he:r.Entity=e) (hv:0≤v∧v≤288230376151711744) (ht:0≤e∧e<(s.Ents.length:Int)) :
    Ex (fun q=>q.2.2=0→(0≤q.2.1∧q.2.1≤v)∧∃ x',On s e.toNat mts q.1 x' (d+q.2.1) (fun _=>0)∧x'.Bal=x.Bal) (d_ref19_share n t r v):=by
  obtain ⟨h1,h2,h3,h4,h5,h6,h7,h8⟩:=hr
  obtain ⟨g1,g2,g3,g4,g5⟩:=h.rc
  have hst:=h.ss hs
  subst he
  have htt:There t r.Entity r.Item:=⟨⟨ht.1,by rw [g5];exact ht.2⟩,by rw [g4];exact h2⟩
  obtain ⟨x',m,k,p,q,sp⟩:=hst.spot htt h3
  have hx':=sp.en;rw [h.at] at hx';cases hx'
  obtain ⟨ms',m1,m2⟩:=sp.ms
  have hl:=LR_b sp.io.pp.ly
  unfold d_ref19_share t_ref19_share
  simp only [WT.run,run_pw]
  refine x_at ht.1 m1 (x_at h2.1 m2 (x_eq (rAt hst.toS0 htt h3 h.at sp.pp) (x_v (x_eq (rTot13 hn sp.io.pp.ly) (x_bnd (x_eq (rPart hn ?_ (by omega)) ?_))))))
  · simp only;split <;> omega
  generalize (if (⟨tQ p.Layers,tV p.Layers,tP p.Layers⟩:GLayer).Qty<r.Qty-r.Back then (⟨tQ p.Layers,tV p.Layers,tP p.Layers⟩:GLayer).Qty else r.Qty-r.Back)=z
  have hc:=part_nn2 (v:=v) (w:=z) (q:=r.Qty) hv
  refine x_bi (fun _=>True) (x_bnd (x_cd (fun _=>x_end trivial) fun _=>x_bnd (x_end trivial))) fun b _=>x_cond (fun _=>x_end fun _=>⟨by simp;omega,x,by simpa using h,rfl⟩) fun _=>?_
  refine x_bi _ (rRaise hn sp.io.pp (by omega)) fun a ha=>?_
  refine x_bnd (x_cd (fun k=>x_end fun k2=>absurd k2 k) fun k=>?_)
  obtain ⟨a1,a2,a3,a4⟩:=ha (by omega)
  have hio:IO m a.1 q:=⟨a1,sp.io.qq,by have:=sp.io.sq;omega,by have:=sp.io.ss;omega⟩
  obtain ⟨x1,o1,p1,_,_⟩:=h.pooled sp hio (v:=pt v z r.Qty) (by omega)
  refine x_eq (rPut hst sp) (x_bi _ (rTurn hn (o1.ss hs)) fun c hc2=>x_end fun k3=>⟨hc,?_⟩)
  rcases hc2 with ⟨_,hc2⟩ | ⟨k,_⟩
  rotate_left
  · exact absurd k3 k
  obtain ⟨x2,o2,q1,q2⟩:=o1.turned hc2
  rw [bump_bumpz (by simp [rsum];omega)] at o2
  exact ⟨x2,o2,q1.trans p1⟩
theorem rWeights {s:GState} {refs:List Int} {b:Int} {n:Nat} (hn:66<n) (hl:refs.length≤60) (hr:s.Receipts.length≤40) (hi:∀ r∈s.Receipts,0≤r.Item∧r.Item<(s.Master.Weights.length:Int)):Ex (fun (l:List Int)=>l.length=refs.length) (d_ref19_Weights n s refs b):=by
  unfold d_ref19_Weights t_ref19_Weights
  simp only [WT.run,run_pw]
  refine x_bi (fun (l:List Int)=>l.length=refs.length) (x_iter (fun (v:Int×List Int)=>0≤v.1∧v.1≤(refs.length:Int)∧(v.2.length:Int)=v.1) (fun (v:Int×List Int)=>refs.length-v.1.toNat) ?_ ⟨by simp,by simp,by simp⟩ (by simp;omega)) fun l h=>x_end h
  rintro ⟨i,l⟩ ⟨h0,h1,h2⟩
  simp only at h0 h1 h2
  refine x_p2 (x_bnd (x_cd (fun k=>?_) fun k=>x_esc (x_end ?_)))
  · have k:i<(refs.length:Int):=k
    have hx:refs[i.toNat]?=some (refs[i.toNat]'(by omega)):=List.getElem?_eq_getElem (by omega)
    generalize refs[i.toNat]'(by omega)=x at hx
    refine x_bi (fun (b:Bool)=>b=true→0≤x∧x<(s.Receipts.length:Int)) (x_at h0 hx (x_bnd (x_cd (fun k1=>x_at h0 hx (x_bnd (x_end fun k2=>?_))) fun _=>x_end fun k=>nomatch k))) fun b hb=>?_
    · have:=of_decide_eq_true k2;omega
    refine x_bi (fun _=>True) (x_cond (fun kb=>?_) fun _=>x_end trivial) fun w _=>x_bnd (x_a (x_v (x_brk ⟨⟨by first | omega | (simp only;omega),by first | omega | (simp only;omega),by simp;omega⟩,by first | omega | (simp only;omega)⟩)))
    obtain ⟨g1,g2⟩:=hb kb
    refine x_at h0 hx (x_ix g1 g2 fun y hy=>x_bnd (x_cd (fun _=>x_end trivial) fun _=>x_bnd (x_cd (fun _=>x_end trivial) fun _=>x_bnd (x_cd (fun _=>?_) fun _=>x_end trivial))))
    have:=hi y (mem_at hy)
    exact x_ix this.1 this.2 fun _ _=>x_bnd (x_end trivial)
  · have k:¬ i<(refs.length:Int):=k
    first | omega | (simp only;omega)
end Go.Pv
