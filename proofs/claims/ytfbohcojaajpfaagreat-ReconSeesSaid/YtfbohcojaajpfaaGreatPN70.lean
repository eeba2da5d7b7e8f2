/- States by numbers: all agrees. -/
import Derived.Test.YtfbohcojaajpfaaGreatPM70
set_option linter.unusedVariables false
set_option linter.unusedSimpArgs false
namespace Go.Pv
open Go.Proofs
set_option maxRecDepth 100000
set_option maxHeartbeats 1000000
def Ez (m:GMaster) (x:GEnt):Prop:=(∀ mts:List Int,mts.length=m.Weights.length→(∀ y∈mts,1≤y∧y≤4)→EO m mts x)∧(∀ a,bl x a=0)
theorem rep_mem {α:Type} {n:Nat} {a x:α} (h:x∈List.replicate n a):x=a:=List.eq_of_mem_replicate h
theorem rep_get {α:Type} {n k:Nat} {a x:α} (h:(List.replicate n a)[k]?=some x):x=a:=rep_mem (mem_at h)
theorem e0 {m:GMaster} (h:MOk m) {P:List Int} (hP:P.length=m.Weights.length) (hb:∀ y∈P,-1≤y∧y≤288230376151711744):Ez m ⟨1,false,List.replicate ((m.Weights.length:Int)*2).toNat ⟨[],⟨0,0,0⟩⟩,List.replicate 17 0,List.replicate ((m.Weights.length:Int)).toNat ⟨0,0,0,0,0,0,0,0,0,0,0⟩,P,List.replicate ((m.Weights.length:Int)).toNat 0,[]⟩:=by
  have hp:=h.per
  have hb0:∀ a,(List.replicate 17 (0:Int)).getD a 0=0:=by
    intro a;rw [List.getD_eq_getElem?_getD,List.getElem?_replicate];split <;> rfl
  have hio:∀ mt:Int,1≤mt∧mt≤4→IO mt ⟨[],⟨0,0,0⟩⟩ ⟨[],⟨0,0,0⟩⟩:=by
    intro mt h
    have pr:PR mt ⟨[],⟨0,0,0⟩⟩:=⟨h,LR_nil,fun _=>by simp,by simp,by simp,by simp,by simp [tQ],fun _=>⟨rfl,rfl,rfl⟩⟩
    exact ⟨pr,pr,by simp [tQ],by simp [tS]⟩
  refine ⟨fun mts h1 h2=>⟨⟨by simp only;omega,by simp;omega,by simp,by simp,hP,by simp,h1,?_,hb,?_,?_,?_⟩,⟨?_,?_,?_,?_⟩,rfl,rfl⟩,hb0⟩
  · intro b hb;rw [rep_mem hb];decide
  · intro b hb;rw [rep_mem hb];decide
  · intro i mt p q hm hp hq
    rw [rep_get hp,rep_get hq];exact hio mt (h2 _ (mem_at hm))
  · intro r hr;rw [rep_mem hr];unfold RIn InM;simp
  · show sV _=(List.replicate 17 (0:Int)).getD 0 0
    rw [hb0];exact sumf_zero fun x hx=>by rw [rep_mem hx];rfl
  · show sumI _=-(List.replicate 17 (0:Int)).getD 11 0
    rw [hb0];exact sumf_zero fun x hx=>by rw [rep_mem hx]
  · exact sumf_zero fun x hx=>by rw [rep_mem hx]
  · intro i r p q hr hp hq
    rw [rep_get hr,rep_get hp,rep_get hq];rfl
theorem sta_L1 {m:GMaster}:∀ (k:Nat) {n:Nat} {i:Int} {l:List Int},i+k=(m.Weights.length:Int)→k<n→0≤i→l.length=m.Weights.length→m.Weights.length≤5→(∀ y∈l,-1≤y∧y≤288230376151711744)→Ex (fun r=>r.length=m.Weights.length∧∀ y∈r,-1≤y∧y≤288230376151711744) (d_ref04_Start_L1 m n i l)
  | _,0,_,_,_,hn,_,_,_,_=>absurd hn (Nat.not_lt_zero _)
  | 0,n+1,i,l,hi,_,h0,hl,h5,hb=>by
    unfold d_ref04_Start_L1
    exact x_bnd (x_cd (fun k=>absurd k (by omega)) fun _=>x_end ⟨hl,hb⟩)
  | k+1,n+1,i,l,hi,hn,h0,hl,h5,hb=>by
    unfold d_ref04_Start_L1
    refine x_bnd (x_cd (fun _=>x_ix h0 (by omega) fun _ _=>x_bnd (x_v ?_)) fun h=>absurd (show i<(m.Weights.length:Int) by omega) h)
    exact sta_L1 k (i:=i+1) (by omega) (by omega) (by omega) (by rw [List.length_set];exact hl) h5 (set_ok hb (by omega))
theorem sta_L0 {m:GMaster} (h:MOk m):∀ (k:Nat) {n:Nat} {i:Int} {l:List GEnt},i+k=m.Entities→k+7<n→0≤i→(l.length:Int)=i→(∀ x∈l,Ez m x)→Ex (fun r=>(r.length:Int)=m.Entities∧∀ x∈r,Ez m x) (d_ref04_Start_L0 m n i l)
  | _,0,_,_,_,hn,_,_,_=>absurd hn (Nat.not_lt_zero _)
  | 0,n+1,i,l,hi,_,h0,hl,hb=>by
    unfold d_ref04_Start_L0
    exact x_bnd (x_cd (fun k=>absurd k (by omega)) fun _=>x_end ⟨by omega,hb⟩)
  | k+1,n+1,i,l,hi,hn,h0,hl,hb=>by
    have h3:=h.n1;have h4:=h.ents
    unfold d_ref04_Start_L0
    refine x_bnd (x_cd (fun _=>?_) fun h=>absurd (show i<m.Entities by omega) h)
    refine x_bi (fun (r:List GEnt)=>(r.length:Int)=i+1∧∀ x∈r,Ez m x) ?_ fun r hr=>x_v (sta_L0 h k (i:=i+1) (by omega) (by omega) (by omega) hr.1 hr.2)
    refine x_v (x_a (x_bnd (x_as (by decide) (x_bnd (x_a (x_bnd (x_a (x_bnd (x_a (x_bnd ?_))))))))))
    refine x_bi _ (sta_L1 (m:=m) m.Weights.length (i:=0) (by omega) (by omega) (by omega) (by simp) (by omega) (fun y hy=>by rw [rep_mem hy];decide)) fun P hP=>x_bnd (x_a (x_end ⟨by simp;omega,app_ok hb (e0 h hP.1 hP.2)⟩))
theorem rStart {m:GMaster} {n:Nat} (hn:66<n) (h:MOk m):Ex (fun r=>Inv 0 r.1∧r.1.Master=m) (d_ref04_Start n m):=by
  have h4:=h.ents;have h5:=h.lm
  unfold d_ref04_Start
  rw [rCheck4 hn h]
  refine x_eq rfl (x_bnd (x_cn (fun k=>nomatch k) fun _=>?_))
  refine x_bi _ (sta_L0 h m.Entities.toNat (i:=0) (by omega) (by omega) (by omega) rfl (fun _ h=>nomatch h)) fun l hl=>x_end ⟨?_,rfl⟩
  refine ⟨h,hl.1,by simp,(fun _ h=>nomatch h),(fun _ h=>nomatch h),(fun _ h=>nomatch h),by simp,by simp,by simp,?_,?_,?_,?_⟩
  · intro e x mts hx hm
    have g:=h.met mts (mem_at hm)
    exact .inl ((hl.2 x (mem_at hx)).1 mts g.1 g.2)
  · intro e x hx;rw [(hl.2 x (mem_at hx)).2];rfl
  · intro e x hx;rw [(hl.2 x (mem_at hx)).2];rfl
  · exact sumf_zero fun x hx=>by unfold grp;rw [(hl.2 x hx).2,(hl.2 x hx).2];rfl
theorem rOp {m:GMaster} {v:Int} (h:MN m):Ex (fun o=>o.Refs.length≤3) (d_law00_Op m v):=by
  obtain ⟨h,he2⟩:=h
  have h3:=h.n1;have h4:=h.ents
  unfold d_law00_Op t_law00_Op
  simp only [WT.run,run_pw]
  refine x_bi _ (rPlace (by decide)) fun k hk=>?_
  have f1:=td (a:=k) (b:=32) hk.1 (by decide)
  have f2:=tm (a:=k.tdiv 32) (b:=m.Entities) f1.1 (by omega)
  have f3:=td (a:=k) (b:=128) hk.1 (by decide)
  have f4:=tm (a:=k.tdiv 128) (b:=(m.Weights.length:Int)) f3.1 (by omega)
  have f5:=td (a:=k) (b:=1024) hk.1 (by decide)
  have f6:=tm (a:=k.tdiv 1024) (b:=8) f5.1 (by decide)
  have f7:=td (a:=(k.tdiv 1024).tmod 8) (b:=7) f6.1 (by decide)
  have f8:=td (a:=k) (b:=8192) hk.1 (by decide)
  have f9:=tm (a:=k.tdiv 8192) (b:=24) f8.1 (by decide)
  have f10:=td (a:=k) (b:=196608) hk.1 (by decide)
  have f11:=tm (a:=k.tdiv 196608) (b:=900) f10.1 (by decide)
  have f12:=td (a:=k) (b:=7000000) hk.1 (by decide)
  have f13:=tm (a:=k.tdiv 7000000) (b:=12) f12.1 (by decide)
  have q0:0≤1+(k.tdiv 8192).tmod 24:=by omega
  have g1:=td (a:=1+(k.tdiv 8192).tmod 24) (b:=3) q0 (by decide)
  have g2:=td (a:=1+(k.tdiv 8192).tmod 24) (b:=6) q0 (by decide)
  have g3:=td (a:=1+(k.tdiv 8192).tmod 24) (b:=8) q0 (by decide)
  have g4:=td (a:=1+(k.tdiv 8192).tmod 24) (b:=4) q0 (by decide)
  have g5:=tm (a:=1+(k.tdiv 8192).tmod 24) (b:=3) q0 (by decide)
  have g6:=tm (a:=(k.tdiv 196608).tmod 900) (b:=m.Entities-1) f11.1 (by omega)
  repeat' with_reducible first | refine x_v ?_ | refine x_bv ?_ | apply x_bnd | apply x_p2 | apply x_bb | apply x_bp | apply x_bs | apply x_be | apply x_bk | apply x_bbi | apply x_bc | apply x_ba | refine x_cd (fun _=>?_) fun _=>?_ | refine x_cn (fun _=>?_) fun _=>?_ | apply x_cT | apply x_cF | apply x_sl | apply x_esc | apply x_end | refine x_a ?_
  all_goals try (show List.length []≤3;exact Nat.zero_le _)
  · refine x_ix g5.1 g5.2 fun l hl=>?_
    repeat' with_reducible first | refine x_v ?_ | refine x_bv ?_ | apply x_bnd | apply x_p2 | apply x_bb | apply x_bp | apply x_bs | apply x_be | apply x_bk | apply x_bbi | apply x_bc | apply x_ba | refine x_cd (fun _=>?_) fun _=>?_ | refine x_cn (fun _=>?_) fun _=>?_ | apply x_cT | apply x_cF | apply x_sl | apply x_esc | apply x_end | refine x_a ?_
    have:=mem_at hl
    simp only [List.mem_cons,List.not_mem_nil,or_false] at this
    rcases this with rfl | rfl | rfl <;> simp
theorem rOps {m:GMaster} {l:List Int} {n:Nat} (hn:200<n) (h:MN m):Ex (fun r=>r.length≤120∧∀ o∈r,o.Refs.length≤3) (d_law00_Ops n m l):=by
  unfold d_law00_Ops t_law00_Ops
  simp only [WT.run,run_pw]
  refine x_bi (fun (r:List GOp)=>r.length≤120∧∀ o∈r,o.Refs.length≤3) (x_iter (fun (v:Int×List GOp)=>0≤v.1∧v.1≤120∧(v.2.length:Int)=v.1∧∀ o∈v.2,o.Refs.length≤3) (fun (v:Int×List GOp)=>120-v.1.toNat) ?_ (v:=(0,[])) ⟨by simp,by simp,rfl,fun _ h=>nomatch h⟩ (by simp;omega)) fun r hr=>x_end hr
  rintro ⟨i,r⟩ ⟨a1,a2,a3,a4⟩
  simp only at a1 a2 a3 a4
  refine x_p2 ?_
  refine x_bi (fun (b:Bool)=>b=true→i<(l.length:Int)∧i<120) (x_bnd (x_cd (fun k=>x_bnd (x_end fun k2=>⟨k,of_decide_eq_true k2⟩)) fun _=>x_end (fun k=>nomatch k))) fun b hb=>x_cond (fun kb=>?_) fun _=>x_esc (x_end ⟨by first | omega | (simp only;omega),a4⟩)
  obtain ⟨k1,k2⟩:=hb kb
  refine x_ix a1 k1 fun x hx=>x_bi _ (rOp h) fun o ho=>x_bnd (x_a (x_v (x_brk ⟨⟨by first | omega | (simp only;omega),by first | omega | (simp only;omega),by simp;omega,app_ok a4 ho⟩,by first | omega | (simp only;omega)⟩)))
theorem rHas (k:Int):Ex (fun l=>l.length≤6∧(k=12→l[3]?=some 116)) (d_ref05_has k):=by
  unfold d_ref05_has t_ref05_has
  simp only [WT.run,run_pw]
  repeat' with_reducible first | refine x_v ?_ | refine x_bv ?_ | apply x_bnd | apply x_p2 | apply x_bb | apply x_bp | apply x_bs | apply x_be | apply x_bk | apply x_bbi | apply x_bc | apply x_ba | refine x_cd (fun _=>?_) fun _=>?_ | refine x_cn (fun _=>?_) fun _=>?_ | apply x_cT | apply x_cF | apply x_sl | apply x_esc | apply x_end
  all_goals exact ⟨by simp,fun h=>by first | rfl | omega⟩
theorem rTo5 (o:GOp):Ex (fun r=>r=true→o.Kind=12→o.E≠o.To) (d_ref05_to o):=by
  unfold d_ref05_to t_ref05_to
  simp only [WT.run,run_pw]
  repeat' with_reducible first | refine x_v ?_ | refine x_bv ?_ | apply x_bnd | apply x_p2 | apply x_bb | apply x_bp | apply x_bs | apply x_be | apply x_bk | apply x_bbi | apply x_bc | apply x_ba | refine x_cd (fun _=>?_) fun _=>?_ | refine x_cn (fun _=>?_) fun _=>?_ | apply x_cT | apply x_cF | apply x_sl | apply x_esc | apply x_end
  all_goals first
    | (intro k;cases k;done)
    | (intro k h;first | omega | (have:=of_decide_eq_true k;omega))
theorem rRefs5 {l:List Int} {n:Nat} (hn:66<n) (hl:l.length≤60):Ex (fun _=>True) (d_ref05_refs n l):=by
  unfold d_ref05_refs t_ref05_refs
  simp only [WT.run,run_pw]
  refine x_bi (fun (r:Unit⊕Bool)=>True) (x_iter (fun (i:Int)=>0≤i∧i≤(l.length:Int)) (fun (i:Int)=>l.length-i.toNat) ?_ (v:=0) ⟨by simp,by simp⟩ (by simp;omega)) fun r _=>x_sel (fun _ _=>?_) fun _ _=>trivial
  · rintro i ⟨h0,h1⟩
    refine x_bnd (x_cd (fun k=>?_) fun k=>x_esc (x_brk trivial))
    refine x_bi (fun (r:Unit⊕(Int⊕(Unit⊕Bool)))=>match r with | .inl _=>True | .inr (.inl _)=>False | .inr (.inr _)=>True) ?_ fun r hr=>x_sel (fun _ _=>x_v (x_brk ⟨⟨by omega,by omega⟩,by omega⟩)) fun q e=>by subst e;rcases q with q | q;exact hr.elim;trivial
    refine x_bi (fun _=>True) (x_ix h0 k fun _ _=>x_bnd (x_cd (fun _=>x_end trivial) fun _=>x_ix h0 k fun _ _=>x_bnd (x_end trivial))) fun b _=>x_cond (fun _=>x_esc (x_esc (x_esc (x_end trivial)))) fun _=>?_
    refine x_bi (fun (r:Unit⊕(Unit⊕(Int⊕(Unit⊕Bool))))=>match r with | .inr (.inl _)=>False | .inr (.inr (.inl _))=>False | _=>True) (x_iter (fun (j:Int)=>0≤j∧j≤i) (fun (j:Int)=>i.toNat-j.toNat) ?_ (v:=0) ⟨by simp,h0⟩ (by simp;omega)) fun r hr=>x_sel (fun _ _=>x_brk trivial) fun q e=>by subst e;rcases q with q | q | q;exact hr.elim;exact hr.elim;trivial
    rintro j ⟨j0,j1⟩
    refine x_bnd (x_cd (fun kj=>x_ix j0 (by omega) fun _ _=>x_ix h0 k fun _ _=>x_bnd (x_cd (fun _=>x_esc (x_esc (x_esc (x_esc (x_esc (x_end trivial)))))) fun _=>x_v (x_brk ⟨⟨by omega,by omega⟩,by omega⟩))) fun _=>x_esc (x_brk trivial))
  · repeat' with_reducible first | refine x_v ?_ | refine x_bv ?_ | apply x_bnd | apply x_p2 | apply x_bb | apply x_bp | apply x_bs | apply x_be | apply x_bk | apply x_bbi | apply x_bc | apply x_ba | refine x_cd (fun _=>?_) fun _=>?_ | refine x_cn (fun _=>?_) fun _=>?_ | apply x_cT | apply x_cF | apply x_sl | apply x_esc | apply x_end
    all_goals trivial
def BB (o x:GOp):Prop:=(x.Qty=0∨(0≤o.Qty∧o.Qty≤1073741824∧x.Qty=o.Qty))∧(x.Amount=0∨(0≤o.Amount∧o.Amount≤1125899906842624∧(o.Kind=9→o.Amount≤1073741824)∧x.Amount=o.Amount))∧(x.Loc=0∨(0≤o.Loc∧o.Loc≤1∧x.Loc=o.Loc))
theorem rPart5 {o x:GOp} {c:Int} {n:Nat} (hn:66<n) (hR:o.Refs.length≤60) (hb:BB o x):Ex (fun r=>r.2=true→BB o r.1∧(c=116→o.Kind=12→o.E≠o.To)) (d_ref05_part n o x c):=by
  obtain ⟨b1,b2,b3⟩:=hb
  unfold d_ref05_part t_ref05_part
  simp only [WT.run,run_pw]
  refine x_bnd (x_cd (fun k=>x_bi (fun _=>True) ?_ fun b _=>x_end fun _=>⟨⟨b1,b2,b3⟩,fun h=>absurd h (by omega)⟩) fun k1=>?_)
  · repeat' with_reducible first | refine x_v ?_ | refine x_bv ?_ | apply x_bnd | apply x_p2 | apply x_bb | apply x_bp | apply x_bs | apply x_be | apply x_bk | apply x_bbi | apply x_bc | apply x_ba | refine x_cd (fun _=>?_) fun _=>?_ | refine x_cn (fun _=>?_) fun _=>?_ | apply x_cT | apply x_cF | apply x_sl | apply x_esc | apply x_end
    all_goals trivial
  refine x_bnd (x_cd (fun k=>x_bi (fun _=>True) ?_ fun b _=>x_end fun _=>⟨⟨b1,b2,b3⟩,fun h=>absurd h (by omega)⟩) fun k2=>?_)
  · repeat' with_reducible first | refine x_v ?_ | refine x_bv ?_ | apply x_bnd | apply x_p2 | apply x_bb | apply x_bp | apply x_bs | apply x_be | apply x_bk | apply x_bbi | apply x_bc | apply x_ba | refine x_cd (fun _=>?_) fun _=>?_ | refine x_cn (fun _=>?_) fun _=>?_ | apply x_cT | apply x_cF | apply x_sl | apply x_esc | apply x_end
    all_goals trivial
  refine x_bnd (x_cd (fun k=>x_bi (fun (b:Bool)=>b=true→0≤o.Loc∧o.Loc≤1) ?_ fun b hb=>x_end fun kb=>⟨⟨b1,b2,.inr ⟨(hb kb).1,(hb kb).2,rfl⟩⟩,fun h=>absurd h (by omega)⟩) fun k3=>?_)
  · refine x_bnd (x_cd (fun _=>x_bnd (x_end fun k=>by have:=of_decide_eq_true k;omega)) fun _=>x_end (fun k=>nomatch k))
  refine x_bnd (x_cd (fun k=>x_bi _ (rTo5 o) fun b hb=>x_end fun kb=>⟨⟨b1,b2,b3⟩,fun _=>hb kb⟩) fun k4=>?_)
  refine x_bnd (x_cd (fun k=>x_bi (fun (b:Bool)=>b=true→0≤o.Qty∧o.Qty≤1073741824) ?_ fun b hb=>x_end fun kb=>⟨⟨.inr ⟨(hb kb).1,(hb kb).2,rfl⟩,b2,b3⟩,fun h=>absurd h (by omega)⟩) fun k5=>?_)
  · repeat' with_reducible first | refine x_v ?_ | refine x_bv ?_ | apply x_bnd | apply x_p2 | apply x_bb | apply x_bp | apply x_bs | apply x_be | apply x_bk | apply x_bbi | apply x_bc | apply x_ba | refine x_cd (fun _=>?_) fun _=>?_ | refine x_cn (fun _=>?_) fun _=>?_ | apply x_cT | apply x_cF | apply x_sl | apply x_esc | apply x_end
    all_goals first
      | (intro k;cases k;done)
      | (intro k;omega)
  refine x_bnd (x_cd (fun k=>x_bi (fun (b:Bool)=>b=true→0≤o.Amount∧o.Amount≤1125899906842624∧(o.Kind=9→o.Amount≤1073741824)) ?_ fun b hb=>x_end fun kb=>⟨⟨b1,.inr ⟨(hb kb).1,(hb kb).2.1,(hb kb).2.2,rfl⟩,b3⟩,fun h=>absurd h (by omega)⟩) fun k6=>?_)
  · repeat' with_reducible first | refine x_v ?_ | refine x_bv ?_ | apply x_bnd | apply x_p2 | apply x_bb | apply x_bp | apply x_bs | apply x_be | apply x_bk | apply x_bbi | apply x_bc | apply x_ba | refine x_cd (fun _=>?_) fun _=>?_ | refine x_cn (fun _=>?_) fun _=>?_ | apply x_cT | apply x_cF | apply x_sl | apply x_esc | apply x_end
    all_goals first
      | (intro k;cases k;done)
      | (intro k;omega)
  refine x_bnd (x_cd (fun k=>x_bi (fun _=>True) ?_ fun b _=>x_end fun _=>⟨⟨b1,b2,b3⟩,fun h=>absurd h (by omega)⟩) fun k7=>?_)
  · repeat' with_reducible first | refine x_v ?_ | refine x_bv ?_ | apply x_bnd | apply x_p2 | apply x_bb | apply x_bp | apply x_bs | apply x_be | apply x_bk | apply x_bbi | apply x_bc | apply x_ba | refine x_cd (fun _=>?_) fun _=>?_ | refine x_cn (fun _=>?_) fun _=>?_ | apply x_cT | apply x_cF | apply x_sl | apply x_esc | apply x_end
    all_goals trivial
  exact x_bi _ (rRefs5 hn hR) fun b _=>x_end fun _=>⟨⟨b1,b2,b3⟩,fun h=>absurd h (by omega)⟩
theorem rSameInts {a b:List Int} {n:Nat} (hn:66<n) (ha:a.length≤60):Ex (fun _=>True) (d_ref04_SameInts n a b):=by
  unfold d_ref04_SameInts t_ref04_SameInts
  simp only [WT.run,run_pw]
  refine x_bnd (x_cd (fun _=>x_end trivial) fun kl=>?_)
  refine x_bi (fun (r:Unit⊕Bool)=>True) (x_iter (fun (i:Int)=>0≤i∧i≤(a.length:Int)) (fun (i:Int)=>a.length-i.toNat) ?_ (v:=0) ⟨by simp,by simp⟩ (by simp;omega)) fun r _=>x_sel (fun _ _=>x_end trivial) fun _ _=>trivial
  rintro i ⟨h0,h1⟩
  exact x_bnd (x_cd (fun k=>x_ix h0 k fun _ _=>x_ix h0 (by omega) fun _ _=>x_bnd (x_cd (fun _=>x_esc (x_esc (x_end trivial))) fun _=>x_v (x_brk ⟨⟨by omega,by omega⟩,by omega⟩))) fun _=>x_esc (x_brk trivial))
theorem rSame5 {a b:GOp} {n:Nat} (hn:66<n) (ha:a.Refs.length≤60):Ex (fun r=>r=true→a.Qty=b.Qty∧a.Amount=b.Amount∧a.Loc=b.Loc) (d_ref05_same n a b):=by
  unfold d_ref05_same t_ref05_same
  simp only [WT.run,run_pw]
  repeat' with_reducible first | refine x_v ?_ | refine x_bv ?_ | apply x_bnd | apply x_p2 | apply x_bb | apply x_bp | apply x_bs | apply x_be | apply x_bk | apply x_bbi | apply x_bc | apply x_ba | refine x_cd (fun _=>?_) fun _=>?_ | refine x_cn (fun _=>?_) fun _=>?_ | apply x_cT | apply x_cF | apply x_sl | apply x_esc | apply x_end
  all_goals try exact (fun k=>by cases k;done)
  refine x_bi _ (rSameInts hn ha) fun b _=>?_
  repeat' with_reducible first | refine x_v ?_ | refine x_bv ?_ | apply x_bnd | apply x_p2 | apply x_bb | apply x_bp | apply x_bs | apply x_be | apply x_bk | apply x_bbi | apply x_bc | apply x_ba | refine x_cd (fun _=>?_) fun _=>?_ | refine x_cn (fun _=>?_) fun _=>?_ | apply x_cT | apply x_cF | apply x_sl | apply x_esc | apply x_end
  exact fun _=>⟨by assumption,by assumption,by assumption⟩
theorem rCheck5 {o:GOp} {n:Nat} (hn:66<n) (hR:o.Refs.length≤60):Ex (fun r=>r=true→OpB o) (d_ref05_Check n o):=by
  unfold d_ref05_Check t_ref05_Check
  simp only [WT.run,run_pw]
  refine x_bi _ (rHas o.Kind) fun h hh=>?_
  obtain ⟨h6,h12⟩:=hh
  refine x_bi (fun (r:GOp⊕Bool)=>match r with | .inl x=>BB o x∧∀ j:Nat,j<h.length→h[j]?=some 116→o.Kind=12→o.E≠o.To | .inr b=>b=false)
    (x_iter (fun (v:Int×GOp)=>0≤v.1∧v.1≤(h.length:Int)∧BB o v.2∧∀ j:Nat,(j:Int)<v.1→h[j]?=some 116→o.Kind=12→o.E≠o.To) (fun (v:Int×GOp)=>h.length-v.1.toNat) ?_ (v:=(0,⟨o.Kind,0,0,0,0,0,0,0,[]⟩)) ⟨by simp,by simp,⟨.inl rfl,.inl rfl,.inl rfl⟩,fun j hj=>absurd hj (by simp)⟩ (by simp;omega)) fun r hr=>x_sel (fun x e=>?_) fun b e=>?_
  · rintro ⟨i,x⟩ ⟨a1,a2,a3,a4⟩
    simp only at a1 a2 a3 a4
    refine x_p2 (x_bnd (x_cd (fun k=>?_) fun k=>x_esc (x_brk ⟨a3,fun j hj=>a4 j ?_⟩)))
    · have k:i<(h.length:Int):=k
      refine x_ix a1 k fun c hc=>x_bi _ (rPart5 hn hR a3) fun r hr=>x_bnd (x_bnd (x_cn (fun _=>x_esc (x_esc (x_end rfl))) fun kb=>?_))
      obtain ⟨r1,r2⟩:=hr kb
      have hc:h[i.toNat]?=some c:=hc
      refine x_v (x_brk ⟨⟨by first | omega | (simp only;omega),by first | omega | (simp only;omega),r1,fun j hj hj2=>?_⟩,by first | omega | (simp only;omega)⟩)
      have hj:(j:Int)<i+1:=hj
      by_cases hij:j=i.toNat
      · subst hij;rw [hc] at hj2;cases hj2;exact r2 rfl
      · exact a4 j (by omega) hj2
    · have k:¬ i<(h.length:Int):=k
      first | omega | (simp only;omega)
  · subst e
    obtain ⟨⟨b1,b2,b3⟩,b4⟩:=hr
    refine x_bnd ?_
    refine x_bi (fun (b:Bool)=>b=true→OpB o) (x_cond (fun _=>x_bi _ (rSame5 (b:=x) hn hR) fun b hb=>x_end fun kb=>?_) fun _=>x_end (fun k=>nomatch k)) fun b hb=>x_end hb
    obtain ⟨s1,s2,s3⟩:=hb kb
    refine ⟨by omega,by omega,fun k9=>?_,fun _=>by omega,fun k12=>?_,hR⟩
    · rcases b2 with b2 | ⟨_,_,b2,_⟩
      · omega
      · exact b2 k9
    · have:=h12 k12
      exact b4 3 (List.getElem?_eq_some_iff.1 this).1 this k12
  · subst e
    have hb:b=false:=hr
    subst hb;exact fun k=>nomatch k
theorem rState {m:GMaster} {l:List Int} {n:Nat} (hn:200<n) (h:MN m):Ex (fun s=>Inv 1000 s) (d_law00_State n m l):=by
  unfold d_law00_State t_law00_State
  simp only [WT.run,run_pw]
  refine x_bi _ (rStart (by omega) h.1) fun s hs=>x_bi _ (rOps hn h) fun o ho=>?_
  obtain ⟨o1,o2⟩:=ho
  refine x_bi (fun s=>Inv 1000 s) (x_iter (fun (v:Int×GState)=>0≤v.1∧v.1≤(o.length:Int)∧Inv v.1 v.2) (fun (v:Int×GState)=>o.length-v.1.toNat) ?_ (v:=(0,s.1)) ⟨by simp,by simp,hs.1⟩ (by simp;omega)) fun s hs=>x_end hs
  rintro ⟨i,t⟩ ⟨a1,a2,a3⟩
  simp only at a1 a2 a3
  refine x_p2 (x_bnd (x_cd (fun k=>?_) fun k=>x_esc (x_end (a3.mono (by omega)))))
  have k:i<(o.length:Int):=k
  refine x_ix a1 k fun x hx=>x_bi _ (rStep (by omega) a3 (by omega) (rCheck5 (by omega) (by have:=o2 x (mem_at hx);omega))) fun r hr=>x_v (x_brk ⟨⟨by first | omega | (simp only;omega),by first | omega | (simp only;omega),hr⟩,by first | omega | (simp only;omega)⟩)
end Go.Pv
