import Derived.Test.YtfbohcojaajpfaaGreatRD70
set_option linter.unusedVariables false
set_option linter.unusedSimpArgs false
namespace Go.Pv
open Go.Proofs
set_option maxRecDepth 100000
set_option maxHeartbeats 1000000
theorem xloop {α:Type} {l:List α} {g:α→Option Bool} {n:Nat} (hn:66<n) (h6:l.length≤60) (h:∀ x∈l,Ex (fun b=>b=false) (g x)) :
    Ex (fun r=>r=(.inl ():Unit⊕Int)) (iter (fun (v:Int)=>bnd (decide (v<(l.length:Int))) fun x=>cond x ((ix l v).bind fun x=>(g x).bind fun y=>cond y (esc (esc (some v))) (bnd (w64 (v+1)) fun x=>brk x)) (esc (brk ()))) n 0):=by
  refine x_iter (fun (i:Int)=>0≤i∧i≤(l.length:Int)) (fun (i:Int)=>l.length-i.toNat) ?_ ⟨by simp,by simp⟩ (by simp;omega)
  rintro i ⟨h0,h1⟩
  refine x_bnd (x_cd (fun k=>x_ix h0 k fun x hx=>x_bi _ (h x (mem_at hx)) fun b hb=>?_) fun _=>x_esc (x_brk rfl))
  subst hb
  exact x_cF (x_v (x_brk ⟨⟨by omega,by omega⟩,by omega⟩))
theorem pMIn (a b c:Int):d_master_in a b c=some (decide (b≤a∧a≤c)):=by
  refine ex_eq ?_
  unfold d_master_in t_master_in
  simp only [WT.run,run_pw]
  repeat' with_reducible first | refine x_v ?_ | refine x_bv ?_ | apply x_bnd | apply x_p2 | apply x_bb | apply x_bp | apply x_bs | apply x_be | apply x_bk | apply x_bbi | apply x_bc | apply x_ba | refine x_cd (fun _=>?_) fun _=>?_ | refine x_cn (fun _=>?_) fun _=>?_ | apply x_cT | apply x_cF | apply x_sl | apply x_esc | apply x_end
  · exact decide_eq_decide.2 (by omega)
  · exact (decide_eq_false (by omega)).symm
theorem pC1 (a:Int):d_master_Check_1 a=some (decide (0≤a∧a≤1073741824)):=by
  unfold d_master_Check_1 t_master_Check_1
  simp only [WT.run,run_pw,pMIn,Option.bind_some]
theorem pC2 (a:Int):d_master_Check_2_1 a=some (decide (1≤a∧a≤4)):=by
  unfold d_master_Check_2_1 t_master_Check_2_1
  simp only [WT.run,run_pw,pMIn,Option.bind_some]
theorem pMaster {m:GMaster} {n:Nat} (hn:66<n) (h:MOk m):d_master_Check n m=some true:=by
  have h1:=h.ents;have h2:=h.per;have h3:=h.n1;have h4:=h.lm;have h5:=h.lc
  refine ex_eq ?_
  unfold d_master_Check t_master_Check
  simp only [WT.run,run_pw,pMIn,pC1,pC2,Option.bind_some]
  rw [decide_eq_true h1,decide_eq_true h2,decide_eq_true (p:=(1:Int)≤(m.Weights.length:Int)∧(m.Weights.length:Int)≤5) (by omega)]
  refine x_bi (fun b=>b=true) (x_cT (x_cT (x_cT ?_))) fun b hb=>x_end hb
  refine x_bi (fun b=>b=true) ?_ fun b hb=>?_
  · refine x_bi (fun b=>b=true) (x_bnd (x_cd (fun _=>?_) fun k=>absurd trivial k)) fun b hb=>x_end hb
    refine x_bi (fun b=>b=false) (x_bi (fun v=>v=-1) ?_ fun v hv=>by subst hv;exact x_bnd (x_end rfl)) fun b hb=>by subst hb;exact x_bnd (x_end rfl)
    refine x_bi _ (xloop hn (by omega) fun x hx=>?_) fun r hr=>by subst hr;exact x_sl (x_end rfl)
    have:=h.wei x hx
    rw [decide_eq_true this];exact x_bnd (x_end rfl)
  · subst hb
    refine x_cT ?_
    refine x_bi (fun b=>b=true) ?_ fun b hb=>?_
    · refine x_bi (fun b=>b=true) (x_bnd (x_cd (fun _=>?_) fun k=>absurd h4 k)) fun b hb=>x_end hb
      refine x_bi (fun b=>b=false) (x_bi (fun v=>v=-1) ?_ fun v hv=>by subst hv;exact x_bnd (x_end rfl)) fun b hb=>by subst hb;exact x_bnd (x_end rfl)
      refine x_bi _ (xloop hn (by omega) fun x hx=>?_) fun r hr=>by subst hr;exact x_sl (x_end rfl)
      have hx:=h.met x hx
      refine x_bi (fun b=>b=true) ?_ fun b hb=>by subst hb;exact x_bnd (x_end rfl)
      refine x_bi (fun b=>b=true) ?_ fun b hb=>x_end hb
      refine x_bi (fun b=>b=true) (x_bnd (x_cd (fun _=>?_) fun k=>absurd (by omega) k)) fun b hb=>x_end hb
      refine x_bi (fun b=>b=false) (x_bi (fun v=>v=-1) ?_ fun v hv=>by subst hv;exact x_bnd (x_end rfl)) fun b hb=>by subst hb;exact x_bnd (x_end rfl)
      refine x_bi _ (xloop hn (by omega) fun y hy=>?_) fun r hr=>by subst hr;exact x_sl (x_end rfl)
      rw [decide_eq_true (hx.2 y hy)];exact x_bnd (x_end rfl)
    · subst hb
      refine x_cT ?_
      refine x_bi (fun b=>b=true) ?_ fun b hb=>x_end hb
      refine x_bi (fun b=>b=true) (x_bnd (x_cd (fun _=>?_) fun k=>absurd h5 k)) fun b hb=>x_end hb
      refine x_bi (fun b=>b=false) (x_bi (fun v=>v=-1) ?_ fun v hv=>by subst hv;exact x_bnd (x_end rfl)) fun b hb=>by subst hb;exact x_bnd (x_end rfl)
      refine x_bi _ (xloop hn (by omega) fun x hx=>?_) fun r hr=>by subst hr;exact x_sl (x_end rfl)
      have hx:=h.cos x hx
      refine x_bi (fun b=>b=true) ?_ fun b hb=>by subst hb;exact x_bnd (x_end rfl)
      refine x_bi (fun b=>b=true) ?_ fun b hb=>x_end hb
      refine x_bi (fun b=>b=true) (x_bnd (x_cd (fun _=>?_) fun k=>absurd (by omega) k)) fun b hb=>x_end hb
      refine x_bi (fun b=>b=false) (x_bi (fun v=>v=-1) ?_ fun v hv=>by subst hv;exact x_bnd (x_end rfl)) fun b hb=>by subst hb;exact x_bnd (x_end rfl)
      refine x_bi _ (xloop hn (by omega) fun y hy=>?_) fun r hr=>by subst hr;exact x_sl (x_end rfl)
      rw [decide_eq_true (hx.2 y hy)];exact x_bnd (x_end rfl)
theorem ent_L0 {m:GMaster} {e:Int} {x:GEnt} {mts B:List Int} {wl:Nat} {per:Int} (hes:ES wl mts per { x with Bal:=B }) (hm:m.Methods[e.toNat]?=some mts) (he:0≤e) (h5:wl≤5):∀ (k:Nat) {n:Nat} {i:Int},i+k=(x.Pools.length:Int)→k+67<n→0≤i→Ex (fun r=>r=.inl ()) (d_stock_entity_L0 m e x n i)
  | _,0,_,_,hn,_=>absurd hn (Nat.not_lt_zero _)
  | 0,n+1,i,hi,_,h0=>by
    unfold d_stock_entity_L0
    exact x_bnd (x_cd (fun k=>absurd k (by omega)) fun _=>x_brk rfl)
  | k+1,n+1,i,hi,hn,h0=>by
    have hlp:x.Pools.length=2*wl:=hes.lp
    have ed:i.tdiv 2=i / 2:=Int.tdiv_eq_ediv_of_nonneg h0
    have hlm:=hes.lm
    have et:(i / 2).toNat=i.toNat / 2:=by omega
    unfold d_stock_entity_L0
    refine x_bnd (x_cd (fun h=>x_ix h0 h fun p hp=>x_at he hm (x_w (by rw [ed];omega) (x_ix (by rw [ed];omega) (by rw [ed];omega) fun mt hmt=>?_))) fun h=>absurd (show i<(x.Pools.length:Int) by omega) h)
    have hp:x.Pools[i.toNat]?=some p:=hp
    have hmt:mts[(i.tdiv 2).toNat]?=some mt:=hmt
    rw [ed,et] at hmt
    obtain ⟨mt',a,b,w1,w2,w3,w4⟩:=hes.at (i:=i.toNat / 2) (c:=i.toNat % 2) (by omega) (by omega)
    rw [w1] at hmt;cases hmt
    have w2:x.Pools[2*(i.toNat / 2)+i.toNat % 2]?=some a:=w2
    rw [show 2*(i.toNat / 2)+i.toNat % 2=i.toNat by omega,hp] at w2
    cases w2
    refine x_eq (pPoolRight (by omega) w4.pp) (x_bnd (x_cn (fun k=>nomatch k) fun _=>x_v ?_))
    exact ent_L0 hes hm he h5 k (i:=i+1) (by omega) (by omega) (by omega)
theorem ent_L1 {x:GEnt} (hr:∀ r∈x.Rolls,RIn r) (h5:x.Rolls.length≤5):∀ (k:Nat) {n:Nat} {i:Int},i+k=(x.Rolls.length:Int)→k+67<n→0≤i→Ex (fun r=>r=.inl ()) (d_stock_entity_L1 x n i)
  | _,0,_,_,hn,_=>absurd hn (Nat.not_lt_zero _)
  | 0,n+1,i,hi,_,h0=>by
    unfold d_stock_entity_L1
    exact x_bnd (x_cd (fun k=>absurd k (by omega)) fun _=>x_brk rfl)
  | k+1,n+1,i,hi,hn,h0=>by
    unfold d_stock_entity_L1
    refine x_bnd (x_cd (fun h=>x_ix h0 h fun r hr2=>?_) fun h=>absurd (show i<(x.Rolls.length:Int) by omega) h)
    obtain ⟨i1,i2,i3,i4,i5,i6,i7,i8,i9,i10,i11⟩:=hr r (mem_at hr2)
    unfold InM at i1 i2 i3 i4 i5 i6 i7 i8 i9 i10 i11
    refine x_eq (a:=()) rfl (x_eq (pSumsT (by omega) (by simp) ?_) (x_bnd (x_cn (fun k=>nomatch k) fun _=>x_v ?_)))
    · intro y hy
      simp only [List.mem_cons,List.not_mem_nil,or_false] at hy
      rcases hy with rfl | rfl | rfl | rfl | rfl | rfl | rfl | rfl | rfl | rfl | rfl <;> omega
    · exact ent_L1 hr h5 k (i:=i+1) (by omega) (by omega) (by omega)
theorem pEntity {m:GMaster} {e:Int} {x:GEnt} {mts B:List Int} {n:Nat} (hn:100<n) (hes:ES m.Weights.length mts m.Periods { x with Bal:=B }) (hm:m.Methods[e.toNat]?=some mts) (he:0≤e) (h5:m.Weights.length≤5) (hb:x.Bal.length=17)
    (ha:(x.Closed=false∧x.Ahead=[])∨(x.Closed=true∧∃ y,x.Ahead=[y]∧y.Ahead=[]∧Ex (fun r=>r=true) (d_stock_entity (n-1) m e y))):Ex (fun r=>(∀ b∈x.Bal,InM b)→r=true) (d_stock_entity n m e x):=by
  obtain ⟨k,rfl⟩:∃ k,n=k+1:=⟨n-1,by omega⟩
  have p1:x.Pools.length=2*m.Weights.length:=hes.lp
  have p2:x.Rolls.length=m.Weights.length:=hes.lr
  have p3:x.Prices.length=m.Weights.length:=hes.lc
  have p4:x.Down.length=m.Weights.length:=hes.ld
  have hnow:1≤x.Now∧x.Now≤m.Periods:=hes.now
  rw [d_stock_entity]
  rw [pStockIn,decide_eq_true hnow]
  refine x_bi (fun b=>b=false) ?_ fun b hb2=>?_
  · refine x_bs (x_bnd (x_cn (fun k=>nomatch k) fun _=>x_v ?_))
    refine x_bnd (x_cd (fun h=>absurd h (by omega)) fun _=>x_bnd (x_cd (fun h=>absurd h (by omega)) fun _=>x_bnd (x_cd (fun h=>absurd h (by omega)) fun _=>x_bnd (x_cd (fun h=>absurd h (by omega)) fun _=>x_bnd (x_end (decide_eq_false (by omega)))))))
  · subst hb2
    refine x_cF ?_
    refine x_bi _ (ent_L0 hes hm he h5 x.Pools.length (i:=0) (by omega) (by omega) (by omega)) fun r hr=>by
      subst hr
      refine x_sl (x_bi _ (ent_L1 (x:=x) hes.roll (by omega) x.Rolls.length (i:=0) (by omega) (by omega) (by omega)) fun r hr=>?_)
      subst hr
      refine x_sl ?_
      have hpr:∀ y∈x.Prices,-1≤y∧y≤288230376151711744:=hes.pri
      have hdn:∀ y∈x.Down,0≤y∧y≤288230376151711744:=hes.dwn
      refine x_bi (fun (b:Bool)=>(∀ y∈x.Bal,InM y)→b=false) ?_ fun b hbb=>?_
      · refine x_bi _ (pSums (by omega) (by omega)) fun b1 hb1=>x_bnd (x_cn (fun kf=>x_end fun hin=>?_) fun kt=>?_)
        · have:=hb1.2 fun y hy=>by have:=hin y hy;unfold InM at this;exact this
          rw [this] at kf;cases kf
        · refine x_eq (pSumsT (by omega) (by omega) hpr) (x_bnd (x_cn (fun k=>nomatch k) fun _=>x_eq (pSumsT (by omega) (by omega) hdn) (x_bnd (x_cn (fun k=>nomatch k) fun _=>?_))))
          rcases ha with ⟨a1,a2⟩ | ⟨a1,y,a2,a3,a4⟩
          · rw [a1,a2]
            exact x_bnd (x_cd (fun h=>absurd h (by simp)) fun _=>x_bnd (x_bnd (x_end fun _=>by simp)))
          · rw [a1,a2]
            exact x_bnd (x_cd (fun h=>absurd h (by simp)) fun _=>x_bnd (x_bnd (x_end fun _=>by simp)))
      · refine x_cond (fun kb=>x_end fun hin=>by have:=hbb hin;rw [kb] at this;cases this) fun _=>?_
        rcases ha with ⟨a1,a2⟩ | ⟨a1,y,a2,a3,a4⟩
        · rw [a1];exact x_bi (fun b=>b=true) (x_bnd (x_cT (x_end rfl))) fun b hb=>x_end fun _=>hb
        · rw [a1,a2]
          refine x_bi (fun b=>b=true) (x_bnd (x_cF (x_at (a:=y) (by decide) rfl (x_bnd ?_)))) fun b hb=>x_end fun _=>hb
          rw [a3]
          refine x_cd (fun _=>x_at (a:=y) (by decide) rfl ?_) fun k=>absurd rfl k
          exact x_bi _ a4 fun b hb=>x_end hb
theorem Inv.entity {K:Int} {s:GState} (h:Inv K s) {n:Nat} (hn:200<n) {e:Int} {x:GEnt} (he:0≤e) (hx:s.Ents[e.toNat]?=some x):d_stock_entity n s.Master e x=some true:=by
  have h5:=h.mas.n1
  obtain ⟨mts,hm,_,_,hes⟩:=h.ss.mts hx
  have eta:∀ {z:GEnt} {n':Nat} {ms:List Int} {p:Int},ES n' ms p z→ES n' ms p ⟨z.Now,z.Closed,z.Pools,z.Bal,z.Rolls,z.Prices,z.Down,z.Ahead⟩:=by intro z n' ms p g;cases z;exact g
  refine ex_eq (x_weak (pEntity (B:=x.Bal) (by omega) (eta (z:=x) hes) hm he h5.2 hes.lb ?_) fun r hr=>hr hes.bal)
  rcases h.ent _ _ _ hx hm with g | ⟨y,g⟩
  · exact .inl ⟨g.opn,g.ahd⟩
  · refine .inr ⟨g.cls,y,g.ahd,g.eo.ahd,x_weak (pEntity (B:=y.Bal) (by omega) (eta (z:=y) g.eo.es) hm he h5.2 g.eo.es.lb (.inl ⟨g.eo.opn,g.eo.ahd⟩)) fun r hr=>hr g.eo.es.bal⟩
theorem pMutual {s:GState} {n:Nat} (hn:66<n) (h4:s.Ents.length≤4) (hb:∀ x∈s.Ents,x.Bal.length=17∧(-576460752303423488≤bl x 13∧bl x 13≤576460752303423488)∧(-576460752303423488≤bl x 14∧bl x 14≤576460752303423488)):d_recon_Mutual n s=some (decide (sumf grp s.Ents=0)):=by
  refine ex_eq ?_
  unfold d_recon_Mutual t_recon_Mutual
  simp only [WT.run,run_pw]
  refine x_bi (fun (r:Int⊕Bool)=>r=.inl (sumf grp s.Ents)) (x_iter (fun (v:Int×Int)=>0≤v.2∧v.2≤(s.Ents.length:Int)∧(-1152921504606846976*v.2≤v.1∧v.1≤1152921504606846976*v.2)∧v.1+sumf grp (s.Ents.drop v.2.toNat)=sumf grp s.Ents) (fun (v:Int×Int)=>s.Ents.length-v.2.toNat) ?_ (v:=(0,0)) ⟨by simp,by simp,by simp,by simp⟩ (by simp;omega)) fun r hr=>by subst hr;exact x_sl (x_bnd (x_end rfl))
  rintro ⟨t,i⟩ ⟨a1,a2,a3,a4⟩
  simp only at a1 a2 a3 a4
  refine x_p2 (x_bnd (x_cd (fun k=>?_) fun k=>x_esc (x_brk ?_)))
  · have k:i<(s.Ents.length:Int):=k
    have hx:s.Ents[i.toNat]?=some (s.Ents[i.toNat]'(by omega)):=List.getElem?_eq_getElem (by omega)
    generalize s.Ents[i.toNat]'(by omega)=x at hx
    obtain ⟨b1,b2,b3⟩:=hb x (mem_at hx)
    have e1:=sumf_drop grp hx
    have eg:grp x=bl x 13+bl x 14:=rfl
    refine x_bi (fun (r:Int⊕((Int×Int)⊕(Int⊕Bool)))=>r=.inl (t+grp x)) ?_ fun r hr=>?_
    · refine x_bi (fun (r:Int⊕(Int⊕((Int×Int)⊕(Int⊕Bool))))=>r=.inl (t+grp x)) (x_iter (fun (v:Int×Int)=>0≤v.2∧v.2≤2∧v.1=t+(if v.2=0 then 0 else if v.2=1 then bl x 13 else grp x)) (fun (v:Int×Int)=>2-v.2.toNat) ?_ (v:=(t,0)) ⟨by simp,by simp,by simp⟩ (by simp;omega)) fun r hr=>by subst hr;exact x_sl (x_brk rfl)
      rintro ⟨u,j⟩ ⟨c1,c2,c3⟩
      simp only at c1 c2 c3
      refine x_p2 (x_bnd (x_cd (fun kk=>?_) fun kk=>x_esc (x_brk ?_)))
      · have kk:j<2:=kk
        rcases (by omega:j=0∨j=1) with rfl | rfl
        · rw [if_pos rfl] at c3
          refine x_at (i:=0) (a:=13) (by decide) rfl (x_eq (pBal (a:=13) ⟨a1,k⟩ hx b1 (by decide)) (x_bnd (x_cF (x_w (show -9223372036854775808≤u+bl x 13∧u+bl x 13≤9223372036854775807 by omega) (x_v (x_brk ⟨⟨by first | omega | (simp only;omega),by first | omega | (simp only;omega),?_⟩,by first | omega | (simp only;omega)⟩))))))
          show u+bl x 13=t+(if (0:Int)+1=0 then 0 else if (0:Int)+1=1 then bl x 13 else grp x)
          rw [if_neg (by decide),if_pos (by decide)];omega
        · rw [if_neg (by decide),if_pos rfl] at c3
          refine x_at (i:=1) (a:=14) (by decide) rfl (x_eq (pBal (a:=14) ⟨a1,k⟩ hx b1 (by decide)) (x_bnd (x_cF (x_w (show -9223372036854775808≤u+bl x 14∧u+bl x 14≤9223372036854775807 by omega) (x_v (x_brk ⟨⟨by first | omega | (simp only;omega),by first | omega | (simp only;omega),?_⟩,by first | omega | (simp only;omega)⟩))))))
          show u+bl x 14=t+(if (1:Int)+1=0 then 0 else if (1:Int)+1=1 then bl x 13 else grp x)
          rw [if_neg (by decide),if_neg (by decide)];omega
      · have kk:¬ j<2:=kk
        rw [if_neg (by omega),if_neg (by omega)] at c3
        show (Sum.inl u:Int⊕(Int⊕((Int×Int)⊕(Int⊕Bool))))=.inl (t+grp x)
        rw [c3]
    · subst hr
      refine x_sl (x_v (x_brk ⟨⟨by first | omega | (simp only;omega),by first | omega | (simp only;omega),by first | omega | (simp only;omega),?_⟩,by first | omega | (simp only;omega)⟩))
      show t+grp x+sumf grp (s.Ents.drop (i+1).toNat)=_
      rw [show (i+1).toNat=i.toNat+1 by omega];omega
  · have k:¬ i<(s.Ents.length:Int):=k
    rw [List.drop_eq_nil_of_le (by omega)] at a4
    have:sumf grp ([]:List GEnt)=0:=rfl
    have:t=sumf grp s.Ents:=by omega
    rw [this]
theorem Inv.see {K:Int} {s:GState} (h:Inv K s) {e:Int} (he:0≤e∧e<(s.Ents.length:Int)):∃ x mts,s.Ents[e.toNat]?=some x∧s.Master.Methods[e.toNat]?=some mts∧ES s.Master.Weights.length mts s.Master.Periods x∧EB x:=by
  have hx:s.Ents[e.toNat]?=some (s.Ents[e.toNat]'(by omega)):=List.getElem?_eq_getElem (by omega)
  obtain ⟨mts,hm,_,_,hes⟩:=h.ss.mts hx
  refine ⟨_,mts,hx,hm,hes,?_⟩
  rcases h.ent _ _ _ hx hm with g | ⟨y,g⟩
  · exact g.ee
  · exact g.ee
theorem ES.sv0 {n:Nat} {mts:List Int} {per:Int} {x:GEnt} (h:ES n mts per x):0≤sV x.Pools:=sumf_nn fun p hp=>(LR_b (h.pr p hp)).2.1.1
structure Looks (K:Int) (s:GState) (n:Nat) (e:Int):Prop where
  c:d_recon_Control n s e=some true
  a:d_recon_Accrued n s e=some true
  w:d_recon_Way n s e=some true
  d:d_recon_Written n s e=some true
  b:d_recon_Balanced n s e=some true
  r:∀ i,0≤i∧i<(s.Master.Weights.length:Int)→d_recon_Rolled n s e i=some true
theorem Inv.looks {K:Int} {s:GState} (h:Inv K s) {n:Nat} (hn:66<n) {e:Int} (he:0≤e∧e<(s.Ents.length:Int)):Looks K s n e:=by
  obtain ⟨x,mts,hx,hm,hes,heb⟩:=h.see he
  have hsp:=h.ss.sp
  have hsv:=heb.x.few hes
  have hl:=hes.few h.ss.toS0.few.2.2
  have hlr:=hes.lr
  have b1:=bl_in hes 1 (by decide);have b11:=bl_in hes 11 (by decide);have b12:=bl_in hes 12 (by decide)
  unfold InM at b1 b11 b12
  have ha:=h.acc _ _ hx;have hw:=h.way _ _ hx
  refine ⟨?_,?_,?_,?_,?_,?_⟩
  · rw [pControl hsp hn he hx hes.lb ⟨hes.sv0,hsv⟩,decide_eq_true heb.ctl]
  · rw [pAccrued hn h.l1 (fun r hr=>by obtain ⟨_,_,_,_,_,_,g,_⟩:=h.rct r hr;exact g.1) he hx hes.lb (by omega),decide_eq_true (by omega)]
  · rw [pWay hn h.l3 (fun r hr=>by obtain ⟨_,_,_,_,g,_⟩:=h.tra r hr;exact g.1) he hx hes.lb (by omega),decide_eq_true hw]
  · rw [pWritten hn he hx hes.lb hl.2.2.2.2 (fun y hy=>(hes.dwn y hy).1) (by have:=heb.wri;omega),decide_eq_true (by have:=heb.wri;omega)]
  · exact ex_eq (x_weak (pBalanced hn he hx hes.lb fun y hy=>by have:=hes.bal y hy;unfold InM at this;omega) fun r hr=>hr.1 hes.bal heb.bln)
  · intro i hi
    have hr:x.Rolls[i.toNat]?=some (x.Rolls[i.toNat]'(by omega)):=List.getElem?_eq_getElem (by omega)
    generalize x.Rolls[i.toNat]'(by omega)=r at hr
    obtain ⟨p,q,w1,w2,w3⟩:=pRolled hsp hn ⟨he,hi⟩ hx hr hsv
    rw [w3,decide_eq_true (heb.rol _ r p q hr w1 w2)]
theorem Inv.mutual {K:Int} {s:GState} (h:Inv K s) {n:Nat} (hn:66<n):d_recon_Mutual n s=some true:=by
  rw [pMutual hn h.ss.toS0.few.1 ?_,decide_eq_true h.mtl]
  intro x hx
  obtain ⟨k,hk⟩:=List.getElem?_of_mem hx
  obtain ⟨mts,hm,_,_,hes⟩:=h.ss.mts hk
  have b13:=bl_in hes 13 (by decide);have b14:=bl_in hes 14 (by decide)
  unfold InM at b13 b14
  exact ⟨hes.lb,by omega,by omega⟩
end Go.Pv
