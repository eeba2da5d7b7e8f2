import Derived.Test.YtfbohcojaajpfaaGreatRC70
set_option linter.unusedSimpArgs false
set_option linter.unusedVariables false
namespace Go.Pv
open Go.Proofs
set_option maxRecDepth 100000
set_option maxHeartbeats 1000000
theorem pWrong {x:GLayer} (h:LOk x):d_fifo_wrong x=some false:=by
  obtain ⟨h1,h2,h3⟩:=h
  unfold InM at h3
  refine ex_eq ?_
  unfold d_fifo_wrong t_fifo_wrong
  simp only [WT.run,run_pw]
  repeat' with_reducible first | refine x_v ?_ | refine x_bv ?_ | apply x_bnd | apply x_p2 | apply x_bb | apply x_bp | apply x_bs | apply x_be | apply x_bk | apply x_bbi | apply x_bc | apply x_ba | refine x_cd (fun _=>?_) fun _=>?_ | refine x_cn (fun _=>?_) fun _=>?_ | apply x_cT | apply x_cF | apply x_sl | apply x_esc | apply x_end
  all_goals first | rfl | omega | exact decide_eq_false (by omega)
theorem pSteady {l:List GLayer} {n:Nat} (hn:66<n) (hl:LR l):d_fifo_steady n l=some true:=by
  obtain ⟨hk,h30,hQ,hV,hS⟩:=hl
  refine ex_eq ?_
  unfold d_fifo_steady t_fifo_steady
  simp only [WT.run,run_pw]
  refine x_bi (fun (v:List Int)=>v=l.map (fun x=>ab x.Profit)) (x_iter (fun (v:Int×List Int)=>0≤v.1∧v.1≤(l.length:Int)∧(v.2.length:Int)=v.1∧v.2++(l.drop v.1.toNat).map (fun x=>ab x.Profit)=l.map (fun x=>ab x.Profit)) (fun (v:Int×List Int)=>l.length-v.1.toNat) ?_ (v:=(0,[])) ⟨by simp,by simp,rfl,rfl⟩ (by simp;omega)) fun v hv=>?_
  · rintro ⟨i,a⟩ ⟨h0,h1,h2,h5⟩
    simp only at h0 h1 h2 h5
    refine x_p2 (x_bnd (x_cd (fun k=>?_) fun k=>x_esc (x_end ?_)))
    · have k:i<(l.length:Int):=k
      refine x_ix h0 k fun x hx=>?_
      have hx:l[i.toNat]?=some x:=hx
      have g3:=(hk x (mem_at hx)).2.2
      unfold InM at g3
      have ea:(if 0-x.Profit>x.Profit then 0-x.Profit else x.Profit)=ab x.Profit:=by unfold ab;repeat' split <;> omega
      refine x_v (x_bnd (x_bnd ?_))
      rw [ea]
      refine x_a (x_v (x_brk ⟨⟨by first | omega | (simp only;omega),by first | omega | (simp only;omega),by simp;omega,?_⟩,by first | omega | (simp only;omega)⟩))
      show (a++[ab x.Profit])++(l.drop (i+1).toNat).map (fun x=>ab x.Profit)=_
      rw [← h5,(drop_at hx).2,show (i+1).toNat=i.toNat+1 by omega];simp
    · have k:¬ i<(l.length:Int):=k
      rw [List.drop_eq_nil_of_le (by omega)] at h5
      simpa using h5
  · subst hv
    have e:sumI (l.map fun x=>ab x.Profit)=tS l:=by
      clear hk h30 hQ hV hS
      induction l with
      | nil=>rfl
      | cons x r ih=>show ab x.Profit+sumI _=_;rw [ih];rfl
    have s1:sum2 (l.map fun x=>ab x.Profit)=(tS l,0):=by rw [sum2_nn (fun y hy=>by obtain ⟨x,hx,rfl⟩:=List.mem_map.1 hy;exact (ab_ge _).1) (by rw [e];exact hS),e]
    refine x_eq (pSum (by simp;omega) (by simp;omega)) ?_
    rw [s1];exact x_bnd (x_end rfl)
theorem pFifoRight {l:List GLayer} {n:Nat} (hn:66<n) (hl:LR l):d_fifo_Right n l=some true:=by
  have hb:=LR_b hl
  refine ex_eq ?_
  unfold d_fifo_Right t_fifo_Right
  simp only [WT.run,run_pw]
  refine x_bi (fun b=>b=false) ?_ fun b hb=>?_
  · refine x_bnd (x_cd (fun h=>absurd h (by omega)) fun _=>?_)
    refine x_bi (fun b=>b=false) (x_bi (fun (v:Int)=>v=-1) ?_ fun v hv=>by subst hv;exact x_bnd (x_end rfl)) fun b hb=>x_end hb
    refine x_bi (fun (r:Unit⊕Int)=>r=.inl ()) (x_iter (fun (i:Int)=>0≤i∧i≤(l.length:Int)) (fun (i:Int)=>l.length-i.toNat) ?_ (v:=0) ⟨by simp,by simp⟩ (by simp;omega)) fun r hr=>by subst hr;exact x_sl (x_end rfl)
    rintro i ⟨h0,h1⟩
    refine x_bnd (x_cd (fun h=>x_ix h0 h fun x hx=>x_eq (pWrong (hl.1 x (mem_at hx))) (x_cF (x_v (x_brk ⟨⟨by omega,by omega⟩,by omega⟩)))) fun h=>x_esc (x_brk rfl))
  · subst hb
    refine x_cF (x_eq (pTotal hn hl) ?_)
    exact x_bi (fun b=>b=true) (x_bnd (x_cd (fun _=>x_eq (pSteady hn hl) (x_end rfl)) fun k=>absurd rfl k)) fun b hb=>x_end hb
theorem pPoolTotal {p:GPool} {n:Nat} (hn:66<n) (hl:LR p.Layers):d_pool_Total n p=some ⟨tQ p.Layers,tV p.Layers,tP p.Layers⟩:=by
  unfold d_pool_Total t_pool_Total
  simp only [WT.run,run_pw,pTotal hn hl,Option.bind_some]
theorem pPoolRight {m:Int} {p:GPool} {n:Nat} (hn:66<n) (h:PR m p):d_pool_Right n m p=some true:=by
  have hl:=LR_b h.ly
  have h0:=h.p0;have h1:=h.p1;have h2:=h.p2;have h3:=h.sum;have ho:=h.oth;have hon:=h.one
  have hL:∀ y∈[p.Pend.a0,p.Pend.a1,p.Pend.a2],0≤y∧(m≠3→y=0):=by
    intro y hy
    simp only [List.mem_cons,List.not_mem_nil,or_false] at hy
    rcases hy with rfl | rfl | rfl
    · exact ⟨h0,fun k=>(ho k).1⟩
    · exact ⟨h1,fun k=>(ho k).2.1⟩
    · exact ⟨h2,fun k=>(ho k).2.2⟩
  have hm:=h.mt
  refine ex_eq ?_
  unfold d_pool_Right t_pool_Right
  simp only [WT.run,run_pw,run_el]
  refine x_bi (fun (v:Unit⊕(Unit⊕(Unit⊕(Unit⊕Unit))))=>(m=1∧v=.inl ())∨(m=2∧v=.inr (.inl ()))∨(m=3∧v=.inr (.inr (.inl ())))∨(m=4∧v=.inr (.inr (.inr (.inl ()))))) ?_ fun v hv=>?_
  · repeat' with_reducible first | refine x_v ?_ | refine x_bv ?_ | apply x_bnd | apply x_p2 | apply x_bb | apply x_bp | apply x_bs | apply x_be | apply x_bk | apply x_bbi | apply x_bc | apply x_ba | refine x_cd (fun _=>?_) fun _=>?_ | refine x_cn (fun _=>?_) fun _=>?_ | apply x_cT | apply x_cF | apply x_sl | apply x_esc | apply x_end
    all_goals first | omega | (simp;omega)
  · rcases hv with ⟨hm1,rfl⟩ | ⟨hm1,rfl⟩ | ⟨hm1,rfl⟩ | ⟨hm1,rfl⟩
    all_goals
      simp only [Sum.elim_inl,Sum.elim_inr]
      refine x_bi (fun b=>b=false) ?_ fun b hb=>?_
      · refine x_eq (pFifoRight hn h.ly) (x_bnd (x_cn (fun k=>nomatch k) fun _=>x_bnd (x_cd (fun k=>x_bnd (x_end (decide_eq_false (by have:=hon k;omega)))) fun _=>x_end rfl)))
      · subst hb
        refine x_cF (x_eq (pPoolTotal hn h.ly) ?_)
        refine x_bi (fun (r:Unit⊕Bool)=>r=.inl ()) (x_iter (fun (v:Int×Int)=>0≤v.2∧v.2≤3∧v.1≤288230376151711744∧sumI ([p.Pend.a0,p.Pend.a1,p.Pend.a2].drop v.2.toNat)≤v.1) (fun (v:Int×Int)=>3-v.2.toNat) ?_ (v:=(tQ p.Layers,0)) ⟨by simp,by simp,by simp;omega,by simp [sumI,sumf];omega⟩ (by simp;omega)) fun r hr=>by subst hr;exact x_sl (x_end rfl)
        rintro ⟨left,k⟩ ⟨a1,a2,a3,a4⟩
        simp only at a1 a2 a3 a4
        refine x_p2 (x_bnd (x_cd (fun kk=>?_) fun _=>x_esc (x_brk rfl)))
        have kk:k<3:=kk
        refine x_ix a1 (by simp;omega) fun y hy=>?_
        have hy:[p.Pend.a0,p.Pend.a1,p.Pend.a2][k.toNat]?=some y:=hy
        obtain ⟨y1,y2⟩:=hL y (mem_at hy)
        have e1:=sumI_drop hy
        have e2:0≤sumI ([p.Pend.a0,p.Pend.a1,p.Pend.a2].drop (k.toNat+1)):=sumf_nn fun z hz=>(hL z (List.mem_of_mem_drop hz)).1
        refine x_bi (fun b=>b=false) ?_ fun b hb=>?_
        · refine x_bnd (x_cd (fun h=>absurd h (by omega)) fun _=>x_bnd (x_cd (fun h=>absurd h (by first | omega | (simp only;omega))) fun _=>x_bnd (x_cd (fun h=>?_) fun _=>x_end rfl)))
          first
            | exact absurd h (by have:=y2 (by omega);omega)
            | exact x_end rfl
        · subst hb
          refine x_cF (x_v (x_v (x_brk ⟨⟨by first | omega | (simp only;omega),by first | omega | (simp only;omega),by first | omega | (simp only;omega),?_⟩,by first | omega | (simp only;omega)⟩)))
          show sumI ([p.Pend.a0,p.Pend.a1,p.Pend.a2].drop (k+1).toNat)≤left-y
          rw [show (k+1).toNat=k.toNat+1 by omega];omega
theorem bnot {p:Prop} [Decidable p]:(!decide p)=true↔¬p:=by rw [Bool.not_eq_true',decide_eq_false_iff_not]
theorem pSums {l:List Int} {lo:Int} {n:Nat} (hn:66<n) (hl:l.length≤60):Ex (fun r=>r=true↔∀ y∈l,lo≤y∧y≤288230376151711744) (d_stock_sums n lo l):=by
  unfold d_stock_sums t_stock_sums
  simp only [WT.run,run_pw,pStockIn,Option.bind_some]
  refine x_bi (fun (b:Bool)=>b=true↔¬ ∀ y∈l,lo≤y∧y≤288230376151711744) (x_bi (fun (v:Int)=>(v=-1∧∀ y∈l,lo≤y∧y≤288230376151711744)∨(0≤v∧¬ ∀ y∈l,lo≤y∧y≤288230376151711744)) ?_ fun v hv=>?_) fun b hb=>x_bnd (x_end ?_)
  · refine x_bi (fun (r:Unit⊕Int)=>match r with | .inl _=>∀ y∈l,lo≤y∧y≤288230376151711744 | .inr v=>0≤v∧¬ ∀ y∈l,lo≤y∧y≤288230376151711744) (x_iter (fun (i:Int)=>0≤i∧i≤(l.length:Int)∧((∀ y∈l.drop i.toNat,lo≤y∧y≤288230376151711744)→∀ y∈l,lo≤y∧y≤288230376151711744)) (fun (i:Int)=>l.length-i.toNat) ?_ (v:=0) ⟨by simp,by simp,by simp⟩ (by simp;omega)) fun r hr=>x_sel (fun u e=>x_end (.inl ⟨rfl,by subst e;exact hr⟩)) fun v e=>by subst e;exact .inr hr
    rintro i ⟨h0,h1,h2⟩
    refine x_bnd (x_cd (fun h=>x_ix h0 h fun x hx=>?_) fun h=>x_esc (x_brk (h2 fun y hy=>by rw [List.drop_eq_nil_of_le (by omega)] at hy;cases hy)))
    have hx:l[i.toNat]?=some x:=hx
    refine x_bi (fun (b:Bool)=>b=true↔¬ (lo≤x∧x≤288230376151711744)) (x_bnd (x_end bnot)) fun b hb=>x_cond (fun kb=>x_esc (x_esc (x_end ⟨h0,fun hh=>hb.1 kb (hh x (mem_at hx))⟩))) fun kb=>?_
    have hin:lo≤x∧x≤288230376151711744:=by
      by_cases hc:lo≤x∧x≤288230376151711744
      · exact hc
      · rw [hb.2 hc] at kb;cases kb
    refine x_v (x_brk ⟨⟨by omega,by omega,fun hh=>h2 fun y hy=>?_⟩,by omega⟩)
    rw [(drop_at hx).2] at hy
    rcases List.mem_cons.1 hy with rfl | hy
    · exact hin
    · exact hh y (by rw [show (i+1).toNat=i.toNat+1 by omega];exact hy)
  · refine x_bnd (x_end ?_)
    rcases hv with ⟨rfl,hv⟩ | ⟨h1,h2⟩
    · exact ⟨fun k=>by simp at k,fun k=>absurd hv k⟩
    · exact ⟨fun _=>h2,fun _=>decide_eq_true h1⟩
  · cases b with
    | true=>exact ⟨(fun k=>nomatch k),fun k=>absurd k (hb.1 rfl)⟩
    | false=>exact ⟨fun _=>by
        by_cases hc:∀ y∈l,lo≤y∧y≤288230376151711744
        · exact hc
        · exact absurd (hb.2 hc) (by simp),fun _=>rfl⟩
theorem pSumsT {l:List Int} {lo:Int} {n:Nat} (hn:66<n) (hl:l.length≤60) (h:∀ y∈l,lo≤y∧y≤288230376151711744):d_stock_sums n lo l=some true:=ex_eq (x_weak (pSums hn hl) fun r hr=>hr.2 h)
end Go.Pv
set_option linter.unusedSimpArgs false
set_option linter.unusedVariables false
namespace Go.Pv
open Go.Proofs
set_option maxRecDepth 100000
set_option maxHeartbeats 1000000
theorem xloop {α:Type} {l:List α} {g:α→Option Bool} {n:Nat} (hn:66<n) (h6:l.length≤60) (h:∀ x∈l,Ex (fun b=>b=false) (g x)) :
    Ex (fun r=>r=(.inl ():Unit⊕Int)) (iter (fun (v:Int)=>bnd (decide (v<(l.length:Int))) fun x=>cond x ((ix l v).bind fun x=>(g x).bind fun y=>cond y (esc (esc (some v))) (bnd (w64 (v+1)) fun x=>brk x)) (esc (brk ()))) n 0):=by
  refine x_iter (fun (i:Int)=>0≤i∧i≤(l.length:Int)) (fun (i:Int)=>l.length-i.toNat) ?_ ⟨by simp,by simp⟩ (by simp;omega)
  rintro i ⟨h0,h1⟩
  refine x_bnd (x_cd (fun k=>x_ix h0 k fun x hx=>x_bi _ (h x (mem_at hx)) fun b hb=>?_) fun _=>x_esc (x_brk rfl))
  subst hb
  exact x_cF (x_v (x_brk ⟨⟨by omega,by omega⟩,by omega⟩))
theorem pMIn (a b c:Int):d_master_in a b c=some (decide (b≤a∧a≤c)):=by
  refine ex_eq ?_
  unfold d_master_in t_master_in
  simp only [WT.run,run_pw]
  repeat' with_reducible first | refine x_v ?_ | refine x_bv ?_ | apply x_bnd | apply x_p2 | apply x_bb | apply x_bp | apply x_bs | apply x_be | apply x_bk | apply x_bbi | apply x_bc | apply x_ba | refine x_cd (fun _=>?_) fun _=>?_ | refine x_cn (fun _=>?_) fun _=>?_ | apply x_cT | apply x_cF | apply x_sl | apply x_esc | apply x_end
  · exact decide_eq_decide.2 (by omega)
  · exact (decide_eq_false (by omega)).symm
theorem pC1 (a:Int):d_master_Check_1 a=some (decide (0≤a∧a≤1073741824)):=by
  unfold d_master_Check_1 t_master_Check_1
  simp only [WT.run,run_pw,pMIn,Option.bind_some]
theorem pC2 (a:Int):d_master_Check_2_1 a=some (decide (1≤a∧a≤4)):=by
  unfold d_master_Check_2_1 t_master_Check_2_1
  simp only [WT.run,run_pw,pMIn,Option.bind_some]
theorem pMaster {m:GMaster} {n:Nat} (hn:66<n) (h:MOk m):d_master_Check n m=some true:=by
  have h1:=h.ents;have h2:=h.per;have h3:=h.n1;have h4:=h.lm;have h5:=h.lc
  refine ex_eq ?_
  unfold d_master_Check t_master_Check
  simp only [WT.run,run_pw,pMIn,pC1,pC2,Option.bind_some]
  rw [decide_eq_true h1,decide_eq_true h2,decide_eq_true (p:=(1:Int)≤(m.Weights.length:Int)∧(m.Weights.length:Int)≤5) (by omega)]
  refine x_bi (fun b=>b=true) (x_cT (x_cT (x_cT ?_))) fun b hb=>x_end hb
  refine x_bi (fun b=>b=true) ?_ fun b hb=>?_
  · refine x_bi (fun b=>b=true) (x_bnd (x_cd (fun _=>?_) fun k=>absurd trivial k)) fun b hb=>x_end hb
    refine x_bi (fun b=>b=false) (x_bi (fun v=>v=-1) ?_ fun v hv=>by subst hv;exact x_bnd (x_end rfl)) fun b hb=>by subst hb;exact x_bnd (x_end rfl)
    refine x_bi _ (xloop hn (by omega) fun x hx=>?_) fun r hr=>by subst hr;exact x_sl (x_end rfl)
    have:=h.wei x hx
    rw [decide_eq_true this];exact x_bnd (x_end rfl)
  · subst hb
    refine x_cT ?_
    refine x_bi (fun b=>b=true) ?_ fun b hb=>?_
    · refine x_bi (fun b=>b=true) (x_bnd (x_cd (fun _=>?_) fun k=>absurd h4 k)) fun b hb=>x_end hb
      refine x_bi (fun b=>b=false) (x_bi (fun v=>v=-1) ?_ fun v hv=>by subst hv;exact x_bnd (x_end rfl)) fun b hb=>by subst hb;exact x_bnd (x_end rfl)
      refine x_bi _ (xloop hn (by omega) fun x hx=>?_) fun r hr=>by subst hr;exact x_sl (x_end rfl)
      have hx:=h.met x hx
      refine x_bi (fun b=>b=true) ?_ fun b hb=>by subst hb;exact x_bnd (x_end rfl)
      refine x_bi (fun b=>b=true) ?_ fun b hb=>x_end hb
      refine x_bi (fun b=>b=true) (x_bnd (x_cd (fun _=>?_) fun k=>absurd (by omega) k)) fun b hb=>x_end hb
      refine x_bi (fun b=>b=false) (x_bi (fun v=>v=-1) ?_ fun v hv=>by subst hv;exact x_bnd (x_end rfl)) fun b hb=>by subst hb;exact x_bnd (x_end rfl)
      refine x_bi _ (xloop hn (by omega) fun y hy=>?_) fun r hr=>by subst hr;exact x_sl (x_end rfl)
      rw [decide_eq_true (hx.2 y hy)];exact x_bnd (x_end rfl)
    · subst hb
      refine x_cT ?_
      refine x_bi (fun b=>b=true) ?_ fun b hb=>x_end hb
      refine x_bi (fun b=>b=true) (x_bnd (x_cd (fun _=>?_) fun k=>absurd h5 k)) fun b hb=>x_end hb
      refine x_bi (fun b=>b=false) (x_bi (fun v=>v=-1) ?_ fun v hv=>by subst hv;exact x_bnd (x_end rfl)) fun b hb=>by subst hb;exact x_bnd (x_end rfl)
      refine x_bi _ (xloop hn (by omega) fun x hx=>?_) fun r hr=>by subst hr;exact x_sl (x_end rfl)
      have hx:=h.cos x hx
      refine x_bi (fun b=>b=true) ?_ fun b hb=>by subst hb;exact x_bnd (x_end rfl)
      refine x_bi (fun b=>b=true) ?_ fun b hb=>x_end hb
      refine x_bi (fun b=>b=true) (x_bnd (x_cd (fun _=>?_) fun k=>absurd (by omega) k)) fun b hb=>x_end hb
      refine x_bi (fun b=>b=false) (x_bi (fun v=>v=-1) ?_ fun v hv=>by subst hv;exact x_bnd (x_end rfl)) fun b hb=>by subst hb;exact x_bnd (x_end rfl)
      refine x_bi _ (xloop hn (by omega) fun y hy=>?_) fun r hr=>by subst hr;exact x_sl (x_end rfl)
      rw [decide_eq_true (hx.2 y hy)];exact x_bnd (x_end rfl)
end Go.Pv
