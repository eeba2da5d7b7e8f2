import Derived.Test.YtfbohcojaajpfaaGreatPN70
set_option linter.unusedVariables false
set_option linter.unusedSimpArgs false
namespace Go.Pv
open Go.Proofs
set_option maxRecDepth 100000
set_option maxHeartbeats 1000000
theorem pIn (a:Int):d_money_in a=some (decide (InM a)):=by
  refine ex_eq ?_
  unfold d_money_in t_money_in
  simp only [WT.run,run_pw]
  repeat' with_reducible first | refine x_v ?_ | refine x_bv ?_ | apply x_bnd | apply x_p2 | apply x_bb | apply x_bp | apply x_bs | apply x_be | apply x_bk | apply x_bbi | apply x_bc | apply x_ba | refine x_cd (fun _=>?_) fun _=>?_ | refine x_cn (fun _=>?_) fun _=>?_ | apply x_cT | apply x_cF | apply x_sl | apply x_esc | apply x_end
  · exact decide_eq_decide.2 (by unfold InM;omega)
  · exact (decide_eq_false (by unfold InM;omega)).symm
theorem pAdd (a b:Int):d_money_Add a b=some (add2 a b):=by
  refine ex_eq ?_
  unfold d_money_Add t_money_Add
  simp only [WT.run,run_pw,pIn,Option.bind_some]
  by_cases h1:InM a
  · by_cases h2:InM b
    · have hw:-9223372036854775808≤a+b∧a+b≤9223372036854775807:=by unfold InM at h1 h2;omega
      have ew:w64 (a+b)=a+b:=wrap64 hw
      rw [decide_eq_true h1,decide_eq_true h2,ew]
      by_cases h3:InM (a+b)
      · rw [add2_ok ⟨h1,h2,h3⟩]
        show Ex _ (bnd (!decide (InM (a+b))) fun b'=>cond b' _ _)
        rw [decide_eq_true h3];exact x_end rfl
      · rw [add2_no (fun k=>h3 k.2.2)]
        show Ex _ (bnd (!decide (InM (a+b))) fun b'=>cond b' _ _)
        rw [decide_eq_false h3];exact x_end rfl
    · rw [add2_no (fun k=>h2 k.2.1),decide_eq_true h1,decide_eq_false h2];exact x_end rfl
  · rw [add2_no (fun k=>h1 k.1),decide_eq_false h1];exact x_end rfl
theorem pSum {l:List Int} {n:Nat} (hn:l.length+1<n) (hl:(l.length:Int)<1000000000):d_money_Sum n l=some (sum2 l):=by
  refine ex_eq ?_
  unfold d_money_Sum t_money_Sum
  simp only [WT.run,run_pw,pAdd,Option.bind_some]
  refine x_bi (fun (r:Int⊕(Int×Int))=>match r with | .inl a=>adds 0 l=some a | .inr q=>q=sum2 l) (x_iter (fun (v:Int×Int)=>0≤v.2∧v.2≤(l.length:Int)∧adds 0 l=adds v.1 (l.drop v.2.toNat)) (fun (v:Int×Int)=>l.length-v.2.toNat) ?_ (v:=(0,0)) (by simp) (by simp;omega)) ?_
  · rintro ⟨s,i⟩ ⟨h0,h1,h2⟩
    simp only at h0 h1 h2
    refine x_p2 (x_bnd (x_cd (fun h=>?_) fun h=>x_esc (x_brk ?_)))
    · have h:i<(l.length:Int):=h
      refine x_ix h0 h fun x hx=>?_
      have hx:l[i.toNat]?=some x:=hx
      by_cases h4:InM s∧InM x∧InM (s+x)
      · rw [add2_ok h4]
        refine x_bnd (x_cd (fun k=>absurd rfl k) fun _=>x_v (x_brk ⟨⟨by first | omega | (simp only;omega),by first | omega | (simp only;omega),?_⟩,by first | omega | (simp only;omega)⟩))
        show adds 0 l=adds (s+x) (l.drop (i+1).toNat)
        rw [h2,(drop_at hx).2,show (i+1).toNat=i.toNat+1 by omega,adds,if_pos h4]
      · rw [add2_no h4]
        refine x_bnd (x_cd (fun k=>x_esc (x_esc (x_end ?_))) fun k=>absurd (show (2:Int)≠0 by decide) k)
        have e2:adds 0 l=none:=by rw [h2,(drop_at hx).2,adds,if_neg h4]
        show ((0:Int),(2:Int))=sum2 l
        unfold sum2;rw [e2]
    · have h:¬ i<(l.length:Int):=h
      rw [h2,List.drop_eq_nil_of_le (by omega)];rfl
  · intro r hr
    refine x_sel (fun a e=>x_end ?_) fun q e=>?_
    · subst e;show (a,(0:Int))=sum2 l;unfold sum2;rw [show adds 0 l=some a from hr]
    · subst e;exact hr
theorem adds_ab {l:List Int}:∀ {n:Int},ab n+sumf ab l≤288230376151711744→adds n l=some (n+sumI l):=by
  induction l with
  | nil=>intro n _;simp [adds,sumI,sumf]
  | cons x r ih =>
    intro n h
    have e:sumf ab (x :: r)=ab x+sumf ab r:=rfl
    have h0:0≤sumf ab r:=sumf_nn fun y _=>(ab_ge y).1
    have h1:=ab_ge n;have h2:=ab_ge x;have h3:=ab_ge (n+x)
    have h4:ab (n+x)≤ab n+ab x:=by unfold ab;repeat' split <;> omega
    rw [adds,if_pos ⟨by unfold InM;omega,by unfold InM;omega,by unfold InM;omega⟩,ih (by omega)]
    show some (n+x+sumI r)=some (n+(x+sumI r));rw [Int.add_assoc]
theorem sum2_ab {l:List Int} (h:sumf ab l≤288230376151711744):sum2 l=(sumI l,0):=by
  unfold sum2;rw [adds_ab (n:=0) (by show ab 0+_≤_;unfold ab;simp;exact h)];show (0+sumI l,(0:Int))=_;rw [Int.zero_add]
theorem tQ_sum (l:List GLayer):sumI (l.map fun x=>x.Qty)=tQ l:=by
  induction l with
  | nil=>rfl
  | cons x r ih=>show x.Qty+sumI _=_;rw [ih];rfl
theorem tV_sum (l:List GLayer):sumI (l.map fun x=>x.Value)=tV l:=by
  induction l with
  | nil=>rfl
  | cons x r ih=>show x.Value+sumI _=_;rw [ih];rfl
theorem tP_sum (l:List GLayer):sumI (l.map fun x=>x.Profit)=tP l:=by
  induction l with
  | nil=>rfl
  | cons x r ih=>show x.Profit+sumI _=_;rw [ih];rfl
theorem tS_sum (l:List GLayer):sumf ab (l.map fun x=>x.Profit)=tS l:=by
  induction l with
  | nil=>rfl
  | cons x r ih=>show ab x.Profit+sumf ab _=_;rw [ih];rfl
theorem pTotal {l:List GLayer} {n:Nat} (hn:66<n) (hl:LR l):d_fifo_Total n l=some (⟨tQ l,tV l,tP l⟩,0):=by
  obtain ⟨hk,h30,hQ,hV,hS⟩:=hl
  refine ex_eq ?_
  unfold d_fifo_Total t_fifo_Total
  simp only [WT.run,run_pw]
  refine x_bi (fun (v:List Int×List Int×List Int)=>v=(l.map (fun x=>x.Qty),l.map (fun x=>x.Value),l.map (fun x=>x.Profit))) (x_iter (fun (v:Int×List Int×List Int×List Int)=>0≤v.1∧v.1≤(l.length:Int)∧(v.2.1.length:Int)=v.1∧(v.2.2.1.length:Int)=v.1∧(v.2.2.2.length:Int)=v.1∧v.2.1++(l.drop v.1.toNat).map (fun x=>x.Qty)=l.map (fun x=>x.Qty)∧v.2.2.1++(l.drop v.1.toNat).map (fun x=>x.Value)=l.map (fun x=>x.Value)∧v.2.2.2++(l.drop v.1.toNat).map (fun x=>x.Profit)=l.map (fun x=>x.Profit)) (fun (v:Int×List Int×List Int×List Int)=>l.length-v.1.toNat) ?_ (v:=(0,[],[],[])) ⟨by simp,by simp,rfl,rfl,rfl,rfl,rfl,rfl⟩ (by simp;omega)) fun v hv=>?_
  · rintro ⟨i,a,b,c⟩ ⟨h0,h1,h2,h3,h4,h5,h6,h7⟩
    simp only at h0 h1 h2 h3 h4 h5 h6 h7
    refine x_p2 (x_p2 (x_p2 (x_bnd (x_cd (fun k=>?_) fun k=>x_esc (x_end ?_)))))
    · have k:i<(l.length:Int):=k
      refine x_ix h0 k fun x hx=>?_
      have hx:l[i.toNat]?=some x:=hx
      have e2:(i+1).toNat=i.toNat+1:=by omega
      refine x_bnd (x_a (x_bnd (x_a (x_bnd (x_a (x_v (x_brk ⟨⟨by first | omega | (simp only;omega),by first | omega | (simp only;omega),by simp;omega,by simp;omega,by simp;omega,?_,?_,?_⟩,by first | omega | (simp only;omega)⟩)))))))
      · show (a++[x.Qty])++(l.drop (i+1).toNat).map (fun x=>x.Qty)=_
        rw [← h5,(drop_at hx).2,e2];simp
      · show (b++[x.Value])++(l.drop (i+1).toNat).map (fun x=>x.Value)=_
        rw [← h6,(drop_at hx).2,e2];simp
      · show (c++[x.Profit])++(l.drop (i+1).toNat).map (fun x=>x.Profit)=_
        rw [← h7,(drop_at hx).2,e2];simp
    · have k:¬ i<(l.length:Int):=k
      rw [List.drop_eq_nil_of_le (by omega)] at h5 h6 h7
      simp only [List.map_nil,List.append_nil] at h5 h6 h7
      rw [h5,h6,h7]
  · subst hv
    have s1:sum2 (l.map fun x=>x.Qty)=(tQ l,0):=by rw [sum2_nn (fun y hy=>by obtain ⟨x,hx,rfl⟩:=List.mem_map.1 hy;have:=(hk x hx).1;omega) (by rw [tQ_sum];exact hQ),tQ_sum]
    have s2:sum2 (l.map fun x=>x.Value)=(tV l,0):=by rw [sum2_nn (fun y hy=>by obtain ⟨x,hx,rfl⟩:=List.mem_map.1 hy;have:=(hk x hx).2.1;omega) (by rw [tV_sum];exact hV),tV_sum]
    have s3:sum2 (l.map fun x=>x.Profit)=(tP l,0):=by rw [sum2_ab (by rw [tS_sum];exact hS),tP_sum]
    have p1:d_money_Sum n (l.map fun x=>x.Qty)=some (tQ l,0):=by rw [pSum (by simp;omega) (by simp;omega),s1]
    have p2':d_money_Sum n (l.map fun x=>x.Value)=some (tV l,0):=by rw [pSum (by simp;omega) (by simp;omega),s2]
    have p3:d_money_Sum n (l.map fun x=>x.Profit)=some (tP l,0):=by rw [pSum (by simp;omega) (by simp;omega),s3]
    refine x_p2 (x_p2 ?_)
    simp only [p1,p2',p3,Option.bind_some]
    repeat' with_reducible first | refine x_v ?_ | refine x_bv ?_ | apply x_bnd | apply x_p2 | apply x_bb | apply x_bp | apply x_bs | apply x_be | apply x_bk | apply x_bbi | apply x_bc | apply x_ba | refine x_cd (fun _=>?_) fun _=>?_ | refine x_cn (fun _=>?_) fun _=>?_ | apply x_cT | apply x_cF | apply x_sl | apply x_esc | apply x_end
    all_goals first | rfl | omega
structure SP (s:GState):Prop extends S0 s where
  es:∀ (e:Nat) x mts,s.Ents[e]?=some x→s.Master.Methods[e]?=some mts→∃ B,ES s.Master.Weights.length mts s.Master.Periods { x with Bal:=B }
theorem SS.sp {s:GState} (h:SS s):SP s:=⟨h.toS0,fun e x mts hx hm=>⟨x.Bal,by have g:=h.es e x mts hx hm;cases x;exact g⟩⟩
theorem SP.at {s:GState} (h:SP s) {e:Nat} {x:GEnt} (hx:s.Ents[e]?=some x):∃ mts B cs,s.Master.Methods[e]?=some mts∧mts.length=s.Master.Weights.length∧s.Master.Costs[e]?=some cs∧cs.length=s.Master.Weights.length∧ES s.Master.Weights.length mts s.Master.Periods { x with Bal:=B }:=by
  have h1:=h.len;have h2:=h.mas.lm;have h4:=h.mas.lc
  have he:e<s.Ents.length:=(List.getElem?_eq_some_iff.1 hx).1
  have h3:e<s.Master.Methods.length:=by omega
  have h5:e<s.Master.Costs.length:=by omega
  have e1:=List.getElem?_eq_getElem h3
  have e2:=List.getElem?_eq_getElem h5
  obtain ⟨B,hB⟩:=h.es e x _ hx e1
  exact ⟨_,B,_,e1,(h.mas.met _ (mem_at e1)).1,e2,(h.mas.cos _ (mem_at e2)).1,hB⟩
theorem pStockIn (a b c:Int):d_stock_in a b c=some (decide (b≤a∧a≤c)):=by
  refine ex_eq ?_
  unfold d_stock_in t_stock_in
  simp only [WT.run,run_pw]
  repeat' with_reducible first | refine x_v ?_ | refine x_bv ?_ | apply x_bnd | apply x_p2 | apply x_bb | apply x_bp | apply x_bs | apply x_be | apply x_bk | apply x_bbi | apply x_bc | apply x_ba | refine x_cd (fun _=>?_) fun _=>?_ | refine x_cn (fun _=>?_) fun _=>?_ | apply x_cT | apply x_cF | apply x_sl | apply x_esc | apply x_end
  · exact decide_eq_decide.2 (by omega)
  · exact (decide_eq_false (by omega)).symm
theorem pIs {s:GState} (h:SP s) (e i:Int):d_stock_is s e i=some (decide (There s e i)):=by
  have hf:=h.toS0.few
  have h1:=h.len;have h2:=h.mas.lm;have h4:=h.mas.lc
  refine ex_eq ?_
  unfold d_stock_is t_stock_is
  simp only [WT.run,run_pw]
  refine x_bi (fun b=>b=!decide (There s e i)) ?_ fun b hb=>?_
  · repeat' with_reducible first | refine x_v ?_ | refine x_bv ?_ | apply x_bnd | apply x_p2 | apply x_bb | apply x_bp | apply x_bs | apply x_be | apply x_bk | apply x_bbi | apply x_bc | apply x_ba | refine x_cd (fun _=>?_) fun _=>?_ | refine x_cn (fun _=>?_) fun _=>?_ | apply x_cT | apply x_cF | apply x_sl | apply x_esc | apply x_end
    · rw [decide_eq_false (by unfold There;omega)];rfl
    · rw [decide_eq_false (by unfold There;omega)];rfl
    · rw [decide_eq_false (by unfold There;omega)];rfl
    · by_cases k:i≥(s.Master.Weights.length:Int)
      · rw [decide_eq_true k,decide_eq_false (by unfold There;omega)];rfl
      · rw [decide_eq_false k,decide_eq_true (by unfold There;omega)];rfl
  · subst hb
    by_cases ht:There s e i
    · rw [decide_eq_true ht]
      refine x_cF ?_
      obtain ⟨x,hx⟩:=ht.at
      obtain ⟨mts,B,cs,g1,g2,g3,g4,hes⟩:=h.at hx
      have p1:x.Pools.length=2*s.Master.Weights.length:=hes.lp
      have p2:x.Rolls.length=s.Master.Weights.length:=hes.lr
      have t1:=ht.1
      refine x_at t1.1 hx (x_bi (fun b=>b=true) ?_ fun b hb=>x_end hb)
      refine x_v (x_bnd (x_cd (fun _=>?_) fun k=>absurd (by omega) k))
      refine x_bnd (x_cd (fun _=>?_) fun k=>absurd (by omega) k)
      refine x_bnd (x_cd (fun _=>?_) fun k=>absurd (by omega) k)
      refine x_bnd (x_cd (fun _=>?_) fun k=>absurd (by omega) k)
      refine x_at t1.1 g1 (x_bnd (x_cd (fun _=>?_) fun k=>absurd (by omega) k))
      exact x_at t1.1 g3 (x_bnd (x_end (decide_eq_true (by omega))))
    · rw [decide_eq_false ht]
      exact x_cT (x_end rfl)
theorem pAt {s:GState} (h:SP s) {e i c:Int} {x:GEnt} {p:GPool} (ht:There s e i) (hc:0≤c∧c≤1) (hx:s.Ents[e.toNat]?=some x) (hp:x.Pools[2*i.toNat+c.toNat]?=some p) (hl:LR p.Layers):d_stock_At s e i c=some p:=by
  have hf:=h.toS0.few
  obtain ⟨t1,t2⟩:=ht
  have hb:=LR_b hl
  have ei:(i*2+c).toNat=2*i.toNat+c.toNat:=by omega
  refine ex_eq ?_
  unfold d_stock_At t_stock_At d_stock_place t_stock_place
  simp only [WT.run,run_pw,pIs h,pStockIn,Option.bind_some]
  rw [decide_eq_true (p:=There s e i) ⟨t1,t2⟩,decide_eq_true (p:=0≤c∧c≤1) hc]
  refine x_bi (fun v=>v=i*2+c) (x_bi (fun b=>b=false) (x_end rfl) fun b hb=>by subst hb;exact x_cF (x_v (x_v (x_end rfl)))) fun v hv=>?_
  subst hv
  exact x_bnd (x_cd (fun k=>absurd k (by omega)) fun _=>x_at t1.1 hx (x_at (by omega) (by rw [ei];exact hp) (x_a (x_end rfl))))
theorem pworth {s:GState} {n:Nat} (hn:66<n) {e i:Int} {p q:GPool} (a0:d_stock_At s e i 0=some p) (a1:d_stock_At s e i 1=some q) (lp:LR p.Layers) (lq:LR q.Layers) (hq:tQ p.Layers+tQ q.Layers≤288230376151711744) (hv:tV p.Layers+tV q.Layers≤288230376151711744) (hs:tS p.Layers+tS q.Layers≤288230376151711744) :
    d_stock_worth n s e i=some (⟨tQ p.Layers+tQ q.Layers,tV p.Layers+tV q.Layers,tP p.Layers+tP q.Layers⟩,true):=by
  have b1:=LR_b lp;have b2:=LR_b lq
  have e1:=(sum2_two (tQ p.Layers) (tQ q.Layers)).1 (by unfold InM;omega) (by unfold InM;omega) (by unfold InM;omega)
  have e2:=(sum2_two (tV p.Layers) (tV q.Layers)).1 (by unfold InM;omega) (by unfold InM;omega) (by unfold InM;omega)
  have e3:=(sum2_two (tP p.Layers) (tP q.Layers)).1 (by unfold InM;omega) (by unfold InM;omega) (by unfold InM;omega)
  obtain ⟨m,rfl⟩:∃ m,n=m+3:=⟨n-3,by omega⟩
  refine ex_eq ?_
  unfold d_stock_worth t_stock_worth
  simp only [WT.run,run_pw]
  refine x_bi (fun r=>r=([tQ p.Layers,tQ q.Layers],[tV p.Layers,tV q.Layers],[tP p.Layers,tP q.Layers])) ?_ fun r hr=>?_
  · show Ex _ (iter _ (m+2+1) _)
    refine x_bi (fun r=>r=.inl (1,[tQ p.Layers],[tV p.Layers],[tP p.Layers])) ?_ fun r hr=>?_
    · refine x_p2 (x_p2 (x_p2 (x_bnd (x_cd (fun _=>?_) fun k=>absurd (show (0:Int)<2 by decide) k))))
      refine x_eq a0 (x_eq (pTotal hn lp) ?_)
      repeat' with_reducible first | refine x_v ?_ | refine x_bv ?_ | apply x_bnd | apply x_p2 | apply x_bb | apply x_bp | apply x_bs | apply x_be | apply x_bk | apply x_bbi | apply x_bc | apply x_ba | refine x_cd (fun _=>?_) fun _=>?_ | refine x_cn (fun _=>?_) fun _=>?_ | apply x_cT | apply x_cF | apply x_sl | apply x_esc | apply x_end
      refine x_as (by simp) ?_
      repeat' with_reducible first | refine x_v ?_ | refine x_bv ?_ | apply x_bnd | apply x_p2 | apply x_bb | apply x_bp | apply x_bs | apply x_be | apply x_bk | apply x_bbi | apply x_bc | apply x_ba | refine x_cd (fun _=>?_) fun _=>?_ | refine x_cn (fun _=>?_) fun _=>?_ | apply x_cT | apply x_cF | apply x_sl | apply x_esc | apply x_end
      refine x_as (by simp) ?_
      repeat' with_reducible first | refine x_v ?_ | refine x_bv ?_ | apply x_bnd | apply x_p2 | apply x_bb | apply x_bp | apply x_bs | apply x_be | apply x_bk | apply x_bbi | apply x_bc | apply x_ba | refine x_cd (fun _=>?_) fun _=>?_ | refine x_cn (fun _=>?_) fun _=>?_ | apply x_cT | apply x_cF | apply x_sl | apply x_esc | apply x_end
      refine x_as (by simp) ?_
      exact x_v (x_brk rfl)
    · subst hr
      refine x_sl ?_
      show Ex _ (iter _ (m+1+1) _)
      refine x_bi (fun r=>r=.inl (2,[tQ p.Layers,tQ q.Layers],[tV p.Layers,tV q.Layers],[tP p.Layers,tP q.Layers])) ?_ fun r hr=>?_
      · refine x_p2 (x_p2 (x_p2 (x_bnd (x_cd (fun _=>?_) fun k=>absurd (show (1:Int)<2 by decide) k))))
        refine x_eq a1 (x_eq (pTotal hn lq) ?_)
        repeat' with_reducible first | refine x_v ?_ | refine x_bv ?_ | apply x_bnd | apply x_p2 | apply x_bb | apply x_bp | apply x_bs | apply x_be | apply x_bk | apply x_bbi | apply x_bc | apply x_ba | refine x_cd (fun _=>?_) fun _=>?_ | refine x_cn (fun _=>?_) fun _=>?_ | apply x_cT | apply x_cF | apply x_sl | apply x_esc | apply x_end
        refine x_as (by simp) ?_
        repeat' with_reducible first | refine x_v ?_ | refine x_bv ?_ | apply x_bnd | apply x_p2 | apply x_bb | apply x_bp | apply x_bs | apply x_be | apply x_bk | apply x_bbi | apply x_bc | apply x_ba | refine x_cd (fun _=>?_) fun _=>?_ | refine x_cn (fun _=>?_) fun _=>?_ | apply x_cT | apply x_cF | apply x_sl | apply x_esc | apply x_end
        refine x_as (by simp) ?_
        repeat' with_reducible first | refine x_v ?_ | refine x_bv ?_ | apply x_bnd | apply x_p2 | apply x_bb | apply x_bp | apply x_bs | apply x_be | apply x_bk | apply x_bbi | apply x_bc | apply x_ba | refine x_cd (fun _=>?_) fun _=>?_ | refine x_cn (fun _=>?_) fun _=>?_ | apply x_cT | apply x_cF | apply x_sl | apply x_esc | apply x_end
        refine x_as (by simp) ?_
        exact x_v (x_brk rfl)
      · subst hr
        refine x_sl ?_
        show Ex _ (iter _ (m+1) _)
        refine x_bi (fun r=>r=.inr ([tQ p.Layers,tQ q.Layers],[tV p.Layers,tV q.Layers],[tP p.Layers,tP q.Layers])) ?_ fun r hr=>?_
        · exact x_p2 (x_p2 (x_p2 (x_bnd (x_cd (fun k=>absurd k (show ¬(2:Int)<2 by decide)) fun k=>x_esc (x_end rfl)))))
        · subst hr;exact x_sr rfl
  · subst hr
    refine x_p2 (x_p2 ?_)
    refine x_eq (pSum (l:=[tQ p.Layers,tQ q.Layers]) (by simp;omega) (by simp)) (x_eq (pSum (l:=[tV p.Layers,tV q.Layers]) (by simp;omega) (by simp)) (x_eq (pSum (l:=[tP p.Layers,tP q.Layers]) (by simp;omega) (by simp)) ?_))
    rw [e1,e2,e3]
    exact x_bnd (x_bnd (x_end rfl))
theorem pWorth {s:GState} {n:Nat} (hn:66<n) {e i:Int} {p q:GPool} (a0:d_stock_At s e i 0=some p) (a1:d_stock_At s e i 1=some q) (lp:LR p.Layers) (lq:LR q.Layers) (hq:tQ p.Layers+tQ q.Layers≤288230376151711744) (hv:tV p.Layers+tV q.Layers≤288230376151711744) (hs:tS p.Layers+tS q.Layers≤288230376151711744) :
    d_stock_Worth n s e i=some ⟨tQ p.Layers+tQ q.Layers,tV p.Layers+tV q.Layers,tP p.Layers+tP q.Layers⟩:=by
  unfold d_stock_Worth t_stock_Worth
  simp only [WT.run,run_pw,pworth hn a0 a1 lp lq hq hv hs,Option.bind_some]
theorem SP.worth {s:GState} (h:SP s) {n:Nat} (hn:66<n) {e i:Int} {x:GEnt} (ht:There s e i) (hx:s.Ents[e.toNat]?=some x) (hv:sV x.Pools≤288230376151711744):∃ p q,x.Pools[2*i.toNat]?=some p∧x.Pools[2*i.toNat+1]?=some q∧d_stock_Worth n s e i=some ⟨tQ p.Layers+tQ q.Layers,tV p.Layers+tV q.Layers,tP p.Layers+tP q.Layers⟩∧0≤tV p.Layers+tV q.Layers:=by
  obtain ⟨mts,B,cs,g1,g2,g3,g4,hes⟩:=h.at hx
  have ht2:=ht.2
  obtain ⟨m,p,q,w1,w2,w3,w4,w5,w6⟩:=hes.worth hv (i:=i.toNat) (by omega)
  have w2:x.Pools[2*i.toNat]?=some p:=w2
  have w3:x.Pools[2*i.toNat+1]?=some q:=w3
  exact ⟨p,q,w2,w3,pWorth hn (pAt (c:=0) h ht (by omega) hx w2 w4.pp.ly) (pAt (c:=1) h ht (by omega) hx w3 w4.qq.ly) w4.pp.ly w4.qq.ly w4.sq w5 w4.ss,w6⟩
theorem sV_drop2 {l:List GPool} {i:Nat} {p q:GPool} (hp:l[2*i]?=some p) (hq:l[2*i+1]?=some q):sV (l.drop (2*i))=tV p.Layers+tV q.Layers+sV (l.drop (2*(i+1))):=by
  have e1:sV (l.drop (2*i))=tV p.Layers+sV (l.drop (2*i+1)):=sumf_drop _ hp
  have e2:sV (l.drop (2*i+1))=tV q.Layers+sV (l.drop (2*i+1+1)):=sumf_drop _ hq
  rw [e1,e2,show 2*(i+1)=2*i+1+1 by omega];omega
theorem pAll {s:GState} (h:SP s) {n:Nat} (hn:66<n) {e:Int} {x:GEnt} (he:0≤e∧e<(s.Ents.length:Int)) (hx:s.Ents[e.toNat]?=some x) (hv:sV x.Pools≤288230376151711744):d_stock_All n s e=some (sV x.Pools):=by
  have hf:=h.toS0.few
  obtain ⟨mts,B,cs,g1,g2,g3,g4,hes⟩:=h.at hx
  have hlp:x.Pools.length=2*s.Master.Weights.length:=hes.lp
  refine ex_eq ?_
  unfold d_stock_All t_stock_All
  simp only [WT.run,run_pw]
  refine x_bi (fun (l:List Int)=>l.length≤5∧(∀ y∈l,0≤y)∧sumI l=sV x.Pools) (x_iter (fun (v:Int×List Int)=>0≤v.1∧v.1≤(s.Master.Weights.length:Int)∧(v.2.length:Int)=v.1∧(∀ y∈v.2,0≤y)∧sumI v.2+sV (x.Pools.drop (2*v.1.toNat))=sV x.Pools) (fun (v:Int×List Int)=>s.Master.Weights.length-v.1.toNat) ?_ (v:=(0,[])) ⟨by simp,by simp,rfl,(fun _ h=>nomatch h),by simp [sumI,sumf]⟩ (by simp;omega)) fun l hl=>?_
  · rintro ⟨i,l⟩ ⟨a1,a2,a3,a4,a5⟩
    simp only at a1 a2 a3 a4 a5
    refine x_p2 (x_bnd (x_cd (fun k=>?_) fun k=>x_esc (x_end ⟨by first | omega | (simp only;omega),a4,?_⟩)))
    · have k:i<(s.Master.Weights.length:Int):=k
      obtain ⟨p,q,w1,w2,w3,w4⟩:=h.worth hn (i:=i) ⟨he,a1,k⟩ hx hv
      refine x_eq w3 (x_bnd (x_a (x_v (x_brk ⟨⟨by first | omega | (simp only;omega),by first | omega | (simp only;omega),by simp;omega,app_ok a4 w4,?_⟩,by first | omega | (simp only;omega)⟩))))
      have e1:=sV_drop2 w1 w2
      show sumI (l++[tV p.Layers+tV q.Layers])+sV (x.Pools.drop (2*(i+1).toNat))=sV x.Pools
      rw [sumI_app,show (i+1).toNat=i.toNat+1 by omega]
      have:sumI [tV p.Layers+tV q.Layers]=tV p.Layers+tV q.Layers:=by simp [sumI,sumf]
      omega
    · have k:¬ i<(s.Master.Weights.length:Int):=k
      rw [List.drop_eq_nil_of_le (by omega)] at a5
      have:sV []=0:=rfl
      first | omega | (simp only;omega)
  · refine x_eq (pSum (by omega) (by omega)) (x_end ?_)
    rw [sum2_nn hl.2.1 (by omega)];exact hl.2.2
theorem pBal {s:GState} {e a:Int} {x:GEnt} (he:0≤e∧e<(s.Ents.length:Int)) (hx:s.Ents[e.toNat]?=some x) (hl:x.Bal.length=17) (ha:0≤a∧a<17):d_recon_bal s e a=some (bl x a.toNat,true):=by
  refine ex_eq ?_
  unfold d_recon_bal t_recon_bal
  simp only [WT.run,run_pw]
  refine x_bi (fun b=>b=false) ?_ fun b hb=>?_
  · refine x_bnd (x_cd (fun h=>absurd h (by omega)) fun _=>?_)
    refine x_bnd (x_cd (fun h=>absurd h (by omega)) fun _=>x_at he.1 hx (x_bnd (x_end (decide_eq_false (by omega)))))
  · subst hb
    refine x_cF (x_at he.1 hx (x_ix ha.1 (by omega) fun v hv=>x_end ?_))
    have hv:x.Bal[a.toNat]?=some v:=hv
    unfold bl;rw [getD_at hv]
theorem pAgree {s:GState} {n:Nat} {e a sg v:Int} {x:GEnt} {l:List Int} (hn:66<n) (he:0≤e∧e<(s.Ents.length:Int)) (hx:s.Ents[e.toNat]?=some x) (hb:x.Bal.length=17) (ha:0≤a∧a<17) (hl:l.length≤60) (hs:sum2 l=(v,0)) (hv:-288230376151711744≤v*sg∧v*sg≤288230376151711744):d_recon_agree n s e a l sg=some (decide (v*sg=bl x a.toNat)):=by
  refine ex_eq ?_
  unfold d_recon_agree t_recon_agree
  simp only [WT.run,run_pw]
  refine x_eq (pBal he hx hb ha) (x_eq (pSum (by omega) (by omega)) ?_)
  rw [hs]
  refine x_bi (fun b=>b=decide (v*sg=bl x a.toNat)) (x_cT (x_bnd (x_cd (fun _=>x_v (x_bnd (x_end rfl))) fun k=>absurd rfl k))) fun b hb=>x_end hb
end Go.Pv
