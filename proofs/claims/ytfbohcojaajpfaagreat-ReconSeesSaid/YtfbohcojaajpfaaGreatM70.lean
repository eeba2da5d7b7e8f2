import Derived.Test.YtfbohcojaajpfaaGreatG71
import Derived.Test.YtfbohcojaajpfaaGreatI70
import Derived.Test.YtfbohcojaajpfaaGreatJ70
set_option linter.unusedVariables false
set_option linter.unusedSimpArgs false
namespace Go.Pv
open Go.Proofs
set_option maxRecDepth 100000
set_option maxHeartbeats 1000000
structure S0 (s:GState):Prop where
  mas:MOk s.Master
  len:(s.Ents.length:Int)=s.Master.Entities
structure SS (s:GState):Prop extends S0 s where
  es:∀ (e:Nat) x mts,s.Ents[e]?=some x→s.Master.Methods[e]?=some mts→ES s.Master.Weights.length mts s.Master.Periods x
theorem Inv.ss {K:Int} {s:GState} (h:Inv K s):SS s:=⟨⟨h.mas,h.len⟩,fun e x mts hx hm=>by rcases h.ent e x mts hx hm with h | ⟨y,h⟩;exact h.es;exact h.es⟩
theorem SS.mts {s:GState} (h:SS s) {e:Nat} {x:GEnt} (hx:s.Ents[e]?=some x):∃ mts,s.Master.Methods[e]?=some mts∧mts.length=s.Master.Weights.length∧(∀ x∈mts,1≤x∧x≤4)∧ES s.Master.Weights.length mts s.Master.Periods x:=by
  have h1:=h.len;have h2:=h.mas.lm
  have he:e<s.Ents.length:=(List.getElem?_eq_some_iff.1 hx).1
  have h3:e<s.Master.Methods.length:=by omega
  have e1:=List.getElem?_eq_getElem h3
  exact ⟨_,e1,(h.mas.met _ (mem_at e1)).1,(h.mas.met _ (mem_at e1)).2,h.es e x _ hx e1⟩
theorem SS.up {s:GState} (h:SS s) {e:Nat} {x x':GEnt} (hx:s.Ents[e]?=some x) (hs:∀ mts,s.Master.Methods[e]?=some mts→ES s.Master.Weights.length mts s.Master.Periods x'):SS (upE s e x'):=by
  have hk:e<s.Ents.length:=(List.getElem?_eq_some_iff.1 hx).1
  refine ⟨⟨h.mas,by show ((s.Ents.set e x').length:Int)=_;rw [List.length_set];exact h.len⟩,?_⟩
  intro f y ms hy hms
  have hy:(s.Ents.set e x')[f]?=some y:=hy
  rw [get_set hk] at hy
  by_cases hf:e=f
  · subst hf;rw [if_pos rfl] at hy;cases hy;exact hs ms hms
  · rw [if_neg hf] at hy;exact h.es f y ms hy hms
theorem rTo (a b:Int):d_ref14_to a b=some (decide (0≤a∧a≤b)):=by
  refine ex_eq ?_
  unfold d_ref14_to t_ref14_to
  simp only [WT.run,run_pw]
  repeat' with_reducible first | refine x_v ?_ | refine x_bv ?_ | apply x_bnd | apply x_p2 | apply x_bb | apply x_bp | apply x_bs | apply x_be | apply x_bk | apply x_bbi | apply x_bc | apply x_ba | refine x_cd (fun _=>?_) fun _=>?_ | refine x_cn (fun _=>?_) fun _=>?_ | apply x_cT | apply x_cF | apply x_sl | apply x_esc | apply x_end
  · simp;omega
  · simp;omega
def There (s:GState) (e i:Int):Prop:=(0≤e∧e<(s.Ents.length:Int))∧(0≤i∧i<(s.Master.Weights.length:Int))
instance (s:GState) (e i:Int):Decidable (There s e i):=inferInstanceAs (Decidable (_∧_))
theorem S0.few {s:GState} (h:S0 s):s.Ents.length≤4∧1≤s.Ents.length∧s.Master.Weights.length≤5:=by
  have:=h.len;have:=h.mas.ents;have:=h.mas.n1;omega
theorem rThere {s:GState} (h:S0 s) (e i:Int):d_ref14_there s e i=some (decide (There s e i)):=by
  have:=h.few
  refine ex_eq ?_
  unfold d_ref14_there t_ref14_there
  simp only [WT.run,run_pw,rTo,Option.bind_some]
  repeat' with_reducible first | refine x_v ?_ | refine x_bv ?_ | apply x_bnd | apply x_p2 | apply x_bb | apply x_bp | apply x_bs | apply x_be | apply x_bk | apply x_bbi | apply x_bc | apply x_ba | refine x_cd (fun _=>?_) fun _=>?_ | refine x_cn (fun _=>?_) fun _=>?_ | apply x_cT | apply x_cF | apply x_sl | apply x_esc | apply x_end
  · exact decide_eq_decide.2 (by unfold There;omega)
  · exact (decide_eq_false (by unfold There;omega)).symm
theorem There.at {s:GState} {e i:Int} (h:There s e i):∃ x,s.Ents[e.toNat]?=some x:=by
  have:=h.1
  exact ⟨_,List.getElem?_eq_getElem (by omega)⟩
structure Spot (s:GState) (e i c:Int) (x:GEnt) (m k:Int) (p q:GPool):Prop where
  th:There s e i
  lc:0≤c∧c≤1
  en:s.Ents[e.toNat]?=some x
  ms:∃ mts,s.Master.Methods[e.toNat]?=some mts∧mts[i.toNat]?=some m
  cs:∃ cs,s.Master.Costs[e.toNat]?=some cs∧cs[i.toNat]?=some k
  kk:0≤k∧k≤1073741824
  pp:x.Pools[2*i.toNat+c.toNat]?=some p
  qq:x.Pools[2*i.toNat+(1-c.toNat)]?=some q
  io:IO m p q
  es:∀ mts,s.Master.Methods[e.toNat]?=some mts→mts[i.toNat]?=some m∧ES s.Master.Weights.length mts s.Master.Periods x
theorem SS.spot {s:GState} (h:SS s) {e i c:Int} (ht:There s e i) (hc:0≤c∧c≤1):∃ x m k p q,Spot s e i c x m k p q:=by
  obtain ⟨x,hx⟩:=ht.at
  obtain ⟨mts,hm,hl,h4,hes⟩:=h.mts hx
  have h1:=h.len;have h2:=h.mas.lc;have ht1:=ht.1;have ht2:=ht.2
  have h3:e.toNat<s.Master.Costs.length:=by omega
  have e1:=List.getElem?_eq_getElem h3
  have hcs:=h.mas.cos _ (mem_at e1)
  have h5:i.toNat<(s.Master.Costs[e.toNat]).length:=by rw [hcs.1];omega
  have e2:=List.getElem?_eq_getElem h5
  obtain ⟨m,p,q,hm2,hp,hq,hio⟩:=hes.at (i:=i.toNat) (c:=c.toNat) (by omega) (by omega)
  exact ⟨x,m,_,p,q,⟨ht,hc,hx,⟨mts,hm,hm2⟩,⟨_,e1,e2⟩,hcs.2 _ (mem_at e2),hp,hq,hio,fun mts' hm'=>by rw [hm] at hm';cases hm';exact ⟨hm2,hes⟩⟩⟩
theorem rAt {s:GState} (h:S0 s) {e i c:Int} {x:GEnt} {p:GPool} (ht:There s e i) (hc:0≤c∧c≤1) (hx:s.Ents[e.toNat]?=some x) (hp:x.Pools[2*i.toNat+c.toNat]?=some p):d_ref14_At s e i c=some p:=by
  have hf:=h.few
  obtain ⟨t1,t2⟩:=ht
  have hl:2*i.toNat+c.toNat<x.Pools.length:=(List.getElem?_eq_some_iff.1 hp).1
  have ei:(i*2+c).toNat=2*i.toNat+c.toNat:=by omega
  refine ex_eq ?_
  unfold d_ref14_At t_ref14_At
  simp only [WT.run,run_pw,rTo,rThere h,Option.bind_some]
  rw [decide_eq_true (p:=There s e i) ⟨t1,t2⟩,decide_eq_true (p:=0≤c∧c≤1) hc]
  refine x_bi (fun b=>b=false) (x_bnd (x_cF (x_bnd (x_cF (x_v (x_v (x_at t1.1 hx (x_bnd (x_end ?_))))))))) fun b hb=>?_
  · exact decide_eq_false (by omega)
  · subst hb
    exact x_cF (x_at t1.1 hx (x_v (x_v (x_at (by omega) (by rw [ei];exact hp) (x_end rfl)))))
theorem ES.few {n:Nat} {mts:List Int} {per:Int} {x:GEnt} (h:ES n mts per x) (hn:n≤5):x.Pools.length≤10∧x.Rolls.length≤5∧x.Bal.length=17∧x.Prices.length≤5∧x.Down.length≤5:=by
  have:=h.lp;have:=h.lr;have:=h.lb;have:=h.lc;have:=h.ld;omega
theorem Spot.es' {s:GState} {e i c m k:Int} {x:GEnt} {p q:GPool} (h:Spot s e i c x m k p q):∃ mts,s.Master.Methods[e.toNat]?=some mts∧mts[i.toNat]?=some m∧ES s.Master.Weights.length mts s.Master.Periods x:=by
  obtain ⟨mts,h1,h2⟩:=h.ms
  exact ⟨mts,h1,h2,(h.es mts h1).2⟩
theorem rPut {s:GState} (h:SS s) {e i c m k:Int} {x:GEnt} {p q p':GPool} (hs:Spot s e i c x m k p q):d_ref14_Put s e i c p'=some (upE s e.toNat { x with Pools:=x.Pools.set (2*i.toNat+c.toNat) p' }):=by
  have hf:=h.toS0.few
  obtain ⟨t1,t2⟩:=hs.th
  obtain ⟨mts,m1,m2,hes⟩:=hs.es'
  have hl:=hes.few hf.2.2
  have hc:=hs.lc
  have ei:(i*2+c).toNat=2*i.toNat+c.toNat:=by omega
  refine ex_eq ?_
  unfold d_ref14_Put t_ref14_Put
  simp only [WT.run,run_pw]
  repeat' with_reducible first | refine x_v ?_ | refine x_bv ?_ | apply x_bnd | apply x_p2 | apply x_bb | apply x_bp | apply x_bs | apply x_be | apply x_bk | apply x_bbi | apply x_bc | apply x_ba | refine x_cd (fun _=>?_) fun _=>?_ | refine x_cn (fun _=>?_) fun _=>?_ | apply x_cT | apply x_cF | apply x_sl | apply x_esc | apply x_end | refine x_a ?_
  refine x_at t1.1 hs.en ?_
  repeat' with_reducible first | refine x_v ?_ | refine x_bv ?_ | apply x_bnd | apply x_p2 | apply x_bb | apply x_bp | apply x_bs | apply x_be | apply x_bk | apply x_bbi | apply x_bc | apply x_ba | refine x_cd (fun _=>?_) fun _=>?_ | refine x_cn (fun _=>?_) fun _=>?_ | apply x_cT | apply x_cF | apply x_sl | apply x_esc | apply x_end | refine x_a ?_
  refine x_at t1.1 hs.en (x_v (x_v (x_at (by omega) (by rw [ei];exact hs.pp) (x_bnd (x_end ?_)))))
  rw [ei];rfl
theorem sum2_two (a b:Int):(InM a→InM b→InM (a+b)→sum2 [a,b]=(a+b,0))∧((sum2 [a,b]).2=0→InM a∧InM b∧InM (a+b))∧0≤(sum2 [a,b]).2:=by
  unfold sum2
  by_cases h1:InM a
  · by_cases h2:InM b∧InM (a+b)
    · have e:adds 0 [a,b]=some (a+b):=by
        rw [adds,if_pos ⟨by decide,h1,by rw [Int.zero_add];exact h1⟩,adds,if_pos ⟨by rw [Int.zero_add];exact h1,h2.1,by rw [Int.zero_add];exact h2.2⟩,adds,Int.zero_add]
      rw [e];exact ⟨fun _ _ _=>rfl,fun _=>⟨h1,h2.1,h2.2⟩,Int.le_refl 0⟩
    · have e:adds 0 [a,b]=none:=by
        rw [adds,if_pos ⟨by decide,h1,by rw [Int.zero_add];exact h1⟩,adds,if_neg (by rw [Int.zero_add];exact fun k=>h2 k.2)]
      rw [e];exact ⟨fun _ k1 k2=>absurd ⟨k1,k2⟩ h2,fun k=>absurd k (by decide),by decide⟩
  · have e:adds 0 [a,b]=none:=by rw [adds,if_neg (fun k=>h1 k.2.1)]
    rw [e];exact ⟨fun k=>absurd k h1,fun k=>absurd k (by decide),by decide⟩
theorem rworth_g {s:GState} {n:Nat} (hn:66<n) (h:S0 s) {e i:Int} {x:GEnt} {p q:GPool} (ht:There s e i) (hx:s.Ents[e.toNat]?=some x) (hp:x.Pools[2*i.toNat]?=some p) (hq:x.Pools[2*i.toNat+1]?=some q) (lp:LR p.Layers) (lq:LR q.Layers) :
    Ex (fun r=>r.1=⟨(sum2 [tQ p.Layers,tQ q.Layers]).1,(sum2 [tV p.Layers,tV q.Layers]).1,(sum2 [tP p.Layers,tP q.Layers]).1⟩∧(r.2=0↔(sum2 [tQ p.Layers,tQ q.Layers]).2=0∧(sum2 [tV p.Layers,tV q.Layers]).2=0∧(sum2 [tP p.Layers,tP q.Layers]).2=0)) (d_ref14_worth n s e i):=by
  have a0:=rAt (c:=0) h ht (by omega) hx hp
  have a1:=rAt (c:=1) h ht (by omega) hx hq
  obtain ⟨m,rfl⟩:∃ m,n=m+3:=⟨n-3,by omega⟩
  unfold d_ref14_worth t_ref14_worth
  simp only [WT.run,run_pw]
  refine x_bi (fun r=>r=([tQ p.Layers,tQ q.Layers],[tV p.Layers,tV q.Layers],[tP p.Layers,tP q.Layers])) ?_ fun r hr=>?_
  · show Ex _ (iter _ (m+2+1) _)
    refine x_bi (fun r=>r=.inl (1,[tQ p.Layers],[tV p.Layers],[tP p.Layers])) ?_ fun r hr=>?_
    · refine x_p2 (x_p2 (x_p2 (x_bnd (x_cd (fun _=>?_) fun k=>absurd (show (0:Int)<2 by decide) k))))
      refine x_eq a0 (x_eq (rTot13 hn lp) ?_)
      repeat' with_reducible first | refine x_v ?_ | refine x_bv ?_ | apply x_bnd | apply x_p2 | apply x_bb | apply x_bp | apply x_bs | apply x_be | apply x_bk | apply x_bbi | apply x_bc | apply x_ba | refine x_cd (fun _=>?_) fun _=>?_ | refine x_cn (fun _=>?_) fun _=>?_ | apply x_cT | apply x_cF | apply x_sl | apply x_esc | apply x_end
      refine x_as (by simp) ?_
      repeat' with_reducible first | refine x_v ?_ | refine x_bv ?_ | apply x_bnd | apply x_p2 | apply x_bb | apply x_bp | apply x_bs | apply x_be | apply x_bk | apply x_bbi | apply x_bc | apply x_ba | refine x_cd (fun _=>?_) fun _=>?_ | refine x_cn (fun _=>?_) fun _=>?_ | apply x_cT | apply x_cF | apply x_sl | apply x_esc | apply x_end
      refine x_as (by simp) ?_
      repeat' with_reducible first | refine x_v ?_ | refine x_bv ?_ | apply x_bnd | apply x_p2 | apply x_bb | apply x_bp | apply x_bs | apply x_be | apply x_bk | apply x_bbi | apply x_bc | apply x_ba | refine x_cd (fun _=>?_) fun _=>?_ | refine x_cn (fun _=>?_) fun _=>?_ | apply x_cT | apply x_cF | apply x_sl | apply x_esc | apply x_end
      refine x_as (by simp) ?_
      exact x_v (x_brk rfl)
    · subst hr
      refine x_sl ?_
      show Ex _ (iter _ (m+1+1) _)
      refine x_bi (fun r=>r=.inl (2,[tQ p.Layers,tQ q.Layers],[tV p.Layers,tV q.Layers],[tP p.Layers,tP q.Layers])) ?_ fun r hr=>?_
      · refine x_p2 (x_p2 (x_p2 (x_bnd (x_cd (fun _=>?_) fun k=>absurd (show (1:Int)<2 by decide) k))))
        refine x_eq a1 (x_eq (rTot13 hn lq) ?_)
        repeat' with_reducible first | refine x_v ?_ | refine x_bv ?_ | apply x_bnd | apply x_p2 | apply x_bb | apply x_bp | apply x_bs | apply x_be | apply x_bk | apply x_bbi | apply x_bc | apply x_ba | refine x_cd (fun _=>?_) fun _=>?_ | refine x_cn (fun _=>?_) fun _=>?_ | apply x_cT | apply x_cF | apply x_sl | apply x_esc | apply x_end
        refine x_as (by simp) ?_
        repeat' with_reducible first | refine x_v ?_ | refine x_bv ?_ | apply x_bnd | apply x_p2 | apply x_bb | apply x_bp | apply x_bs | apply x_be | apply x_bk | apply x_bbi | apply x_bc | apply x_ba | refine x_cd (fun _=>?_) fun _=>?_ | refine x_cn (fun _=>?_) fun _=>?_ | apply x_cT | apply x_cF | apply x_sl | apply x_esc | apply x_end
        refine x_as (by simp) ?_
        repeat' with_reducible first | refine x_v ?_ | refine x_bv ?_ | apply x_bnd | apply x_p2 | apply x_bb | apply x_bp | apply x_bs | apply x_be | apply x_bk | apply x_bbi | apply x_bc | apply x_ba | refine x_cd (fun _=>?_) fun _=>?_ | refine x_cn (fun _=>?_) fun _=>?_ | apply x_cT | apply x_cF | apply x_sl | apply x_esc | apply x_end
        refine x_as (by simp) ?_
        exact x_v (x_brk rfl)
      · subst hr
        refine x_sl ?_
        show Ex _ (iter _ (m+1) _)
        refine x_bi (fun r=>r=.inr ([tQ p.Layers,tQ q.Layers],[tV p.Layers,tV q.Layers],[tP p.Layers,tP q.Layers])) ?_ fun r hr=>?_
        · exact x_p2 (x_p2 (x_p2 (x_bnd (x_cd (fun k=>absurd k (show ¬(2:Int)<2 by decide)) fun k=>x_esc (x_end rfl)))))
        · subst hr;exact x_sr rfl
  · subst hr
    refine x_p2 (x_p2 ?_)
    refine x_eq (rSum (l:=[tQ p.Layers,tQ q.Layers]) (by simp;omega) (by simp)) (x_eq (rSum (l:=[tV p.Layers,tV q.Layers]) (by simp;omega) (by simp)) (x_eq (rSum (l:=[tP p.Layers,tP q.Layers]) (by simp;omega) (by simp)) ?_))
    have b1:=(sum2_two (tQ p.Layers) (tQ q.Layers)).2.2
    have b2:=(sum2_two (tV p.Layers) (tV q.Layers)).2.2
    have b3:=(sum2_two (tP p.Layers) (tP q.Layers)).2.2
    refine x_bnd (x_end ⟨rfl,?_⟩)
    show (if (sum2 [tP p.Layers,tP q.Layers]).2>(if (sum2 [tV p.Layers,tV q.Layers]).2>(sum2 [tQ p.Layers,tQ q.Layers]).2 then (sum2 [tV p.Layers,tV q.Layers]).2 else (sum2 [tQ p.Layers,tQ q.Layers]).2) then (sum2 [tP p.Layers,tP q.Layers]).2 else (if (sum2 [tV p.Layers,tV q.Layers]).2>(sum2 [tQ p.Layers,tQ q.Layers]).2 then (sum2 [tV p.Layers,tV q.Layers]).2 else (sum2 [tQ p.Layers,tQ q.Layers]).2))=0↔_
    repeat' split
    all_goals omega
theorem rworth {s:GState} {n:Nat} (hn:66<n) (h:SS s) {e i m:Int} {x:GEnt} {p q:GPool} (ht:There s e i) (hx:s.Ents[e.toNat]?=some x) (hp:x.Pools[2*i.toNat]?=some p) (hq:x.Pools[2*i.toNat+1]?=some q) (io:IO m p q) (hv:tV p.Layers+tV q.Layers≤288230376151711744) :
    d_ref14_worth n s e i=some (⟨tQ p.Layers+tQ q.Layers,tV p.Layers+tV q.Layers,tP p.Layers+tP q.Layers⟩,0):=by
  have b1:=LR_b io.pp.ly;have b2:=LR_b io.qq.ly
  have:=io.sq;have:=io.ss
  have e1:=(sum2_two (tQ p.Layers) (tQ q.Layers)).1 (by unfold InM;omega) (by unfold InM;omega) (by unfold InM;omega)
  have e2:=(sum2_two (tV p.Layers) (tV q.Layers)).1 (by unfold InM;omega) (by unfold InM;omega) (by unfold InM;omega)
  have e3:=(sum2_two (tP p.Layers) (tP q.Layers)).1 (by unfold InM;omega) (by unfold InM;omega) (by unfold InM;omega)
  refine ex_eq (x_weak (rworth_g hn h.toS0 ht hx hp hq io.pp.ly io.qq.ly) fun r hr=>?_)
  rw [e1,e2,e3] at hr
  exact Prod.ext hr.1 (hr.2.2 ⟨rfl,rfl,rfl⟩)
theorem rWorth {s:GState} {n:Nat} (hn:66<n) (h:SS s) {e i m:Int} {x:GEnt} {p q:GPool} (ht:There s e i) (hx:s.Ents[e.toNat]?=some x) (hp:x.Pools[2*i.toNat]?=some p) (hq:x.Pools[2*i.toNat+1]?=some q) (io:IO m p q) (hv:tV p.Layers+tV q.Layers≤288230376151711744) :
    d_ref14_Worth n s e i=some ⟨tQ p.Layers+tQ q.Layers,tV p.Layers+tV q.Layers,tP p.Layers+tP q.Layers⟩:=by
  unfold d_ref14_Worth t_ref14_Worth
  simp only [WT.run,run_pw,rworth hn h ht hx hp hq io hv,Option.bind_some]
def Posted (s:GState) (e:Int) (l:List GLine) (t:GState):Prop:=∃ x b,(0≤e∧e<(s.Ents.length:Int))∧s.Ents[e.toNat]?=some x∧PostR x.Bal l b∧t=upE s e.toNat { x with Bal:=b }
theorem rPost {s:GState} {n:Nat} (hn:66<n) (h:SS s) {e:Int} {l:List GLine} (hl:l.length≤60):Ex (fun r=>(r.2=0∧Posted s e l r.1)∨(r.2≠0∧r.1=s)) (d_ref14_Post n s e l):=by
  have hf:=h.toS0.few
  unfold d_ref14_Post t_ref14_Post
  simp only [WT.run,run_pw,rTo,Option.bind_some]
  repeat' with_reducible first | refine x_v ?_ | refine x_bv ?_ | apply x_bnd | apply x_p2 | apply x_bb | apply x_bp | apply x_bs | apply x_be | apply x_bk | apply x_bbi | apply x_bc | apply x_ba | refine x_cd (fun _=>?_) fun _=>?_ | refine x_cn (fun _=>?_) fun _=>?_ | apply x_cT | apply x_cF | apply x_sl | apply x_esc | apply x_end
  · exact .inr ⟨(fun k=>nomatch k),rfl⟩
  rename_i ht
  have ht:=of_decide_eq_true ht
  have he:0≤e∧e<(s.Ents.length:Int):=by omega
  have hx:=List.getElem?_eq_getElem (l:=s.Ents) (i:=e.toNat) (by omega)
  generalize s.Ents[e.toNat]'(by omega)=x at hx
  obtain ⟨mts,hm,_,_,hes⟩:=h.mts hx
  have hl2:=hes.few hf.2.2
  refine x_bi _ (rPlain hn hl) fun m hP=>?_
  repeat' with_reducible first | refine x_v ?_ | refine x_bv ?_ | apply x_bnd | apply x_p2 | apply x_bb | apply x_bp | apply x_bs | apply x_be | apply x_bk | apply x_bbi | apply x_bc | apply x_ba | refine x_cd (fun _=>?_) fun _=>?_ | refine x_cn (fun _=>?_) fun _=>?_ | apply x_cT | apply x_cF | apply x_sl | apply x_esc | apply x_end
  · rename_i k;exact .inr ⟨k,rfl⟩
  rename_i k
  have k:m.2=0:=by omega
  obtain ⟨p1,p2,p3⟩:=hP k
  refine x_at he.1 hx (x_bi _ (rPost8 hn (by omega) hes.lb hes.bal) fun b hb=>?_)
  repeat' with_reducible first | refine x_v ?_ | refine x_bv ?_ | apply x_bnd | apply x_p2 | apply x_bb | apply x_bp | apply x_bs | apply x_be | apply x_bk | apply x_bbi | apply x_bc | apply x_ba | refine x_cd (fun _=>?_) fun _=>?_ | refine x_cn (fun _=>?_) fun _=>?_ | apply x_cT | apply x_cF | apply x_sl | apply x_esc | apply x_end | refine x_a ?_
  · rename_i k;exact .inr ⟨k,rfl⟩
  rename_i k2
  have k2:b.2=0:=by omega
  obtain ⟨q1,q2,q3,q4⟩:=hb k2
  refine x_at he.1 hx ?_
  repeat' with_reducible first | refine x_v ?_ | refine x_bv ?_ | apply x_bnd | apply x_p2 | apply x_bb | apply x_bp | apply x_bs | apply x_be | apply x_bk | apply x_bbi | apply x_bc | apply x_ba | refine x_cd (fun _=>?_) fun _=>?_ | refine x_cn (fun _=>?_) fun _=>?_ | apply x_cT | apply x_cF | apply x_sl | apply x_esc | apply x_end | refine x_a ?_
  refine x_at he.1 hx (x_end (.inl ⟨rfl,x,b.1,he,hx,⟨q1,q2,fun a ha=>?_,q4⟩,rfl⟩))
  rw [q3 a ha,p3 a ha]
def Turned (s:GState) (e i:Int) (r:GRoll) (t:GState):Prop:=∃ x r0,There s e i∧s.Ents[e.toNat]?=some x∧x.Rolls[i.toNat]?=some r0∧RIn (radd r0 r)∧t=upE s e.toNat { x with Rolls:=x.Rolls.set i.toNat (radd r0 r) }
theorem turn_L {s:GState} {e i:Int} {r:GRoll} {b:A11_Int}:∀ (m:Nat) {n k:Nat} {l:List Int},k+m=11→m<n→l.length=11 →
    Ex (fun q=>match q with
      | .inl (l':List Int)=>l'.length=11∧∀ j:Nat,j<11→(j<k→l'.getD j 0=l.getD j 0)∧(k≤j→l'.getD j 0=l.getD j 0+[b.a0,b.a1,b.a2,b.a3,b.a4,b.a5,b.a6,b.a7,b.a8,b.a9,b.a10].getD j 0∧InM (l'.getD j 0))
      | .inr (q:GState×Int)=>q.2≠0∧q.1=s) (d_ref14_Turn_L0 s e i r b n (k:Int) l)
  | m,0,k,l,_,hn,_=>absurd hn (Nat.not_lt_zero _)
  | 0,n+1,k,l,hk,hn,hl=>by
    unfold d_ref14_Turn_L0
    refine x_bnd (x_cd (fun h=>absurd h (by omega)) fun _=>x_brk ⟨hl,fun j hj=>⟨fun _=>rfl,fun h=>absurd h (by omega)⟩⟩)
  | m+1,n+1,k,l,hk,hn,hl=>by
    unfold d_ref14_Turn_L0
    simp only [rAdd,Option.bind_some]
    refine x_bnd (x_cd (fun h=>?_) fun h=>absurd (show (k:Int)<11 by omega) h)
    refine x_a (x_ix (by omega) (by omega) fun a ha=>x_a (x_ix (by omega) (by simp;omega) fun c hc=>?_))
    have ha:l[k]?=some a:=by simpa using ha
    have hc:[b.a0,b.a1,b.a2,b.a3,b.a4,b.a5,b.a6,b.a7,b.a8,b.a9,b.a10][k]?=some c:=by simpa using hc
    refine x_bnd (x_cd (fun k1=>x_esc (x_end ⟨k1,rfl⟩)) fun k1=>x_a (x_bnd (x_v ?_)))
    have hin:InM a∧InM c∧InM (a+c):=by
      by_cases hh:InM a∧InM c∧InM (a+c)
      · exact hh
      · rw [add2_no hh] at k1;exact absurd k1 (by decide)
    rw [add2_ok hin]
    have e1:((k:Int)+1)=((k+1:Nat):Int):=by omega
    rw [e1,show ((k:Nat):Int).toNat=k by omega]
    refine x_weak (turn_L m (k:=k+1) (l:=l.set k (a+c)) (by omega) (by omega) (by rw [List.length_set];exact hl)) fun q hq=>?_
    cases q with
    | inl l' =>
      refine ⟨hq.1,fun j hj=>⟨fun h1=>?_,fun h1=>?_⟩⟩
      · rw [(hq.2 j hj).1 (by omega),getD_set (by omega),if_neg (by omega)]
      · by_cases h2:j=k
        · subst h2
          rw [(hq.2 j hj).1 (by omega),getD_set (by omega),if_pos rfl,getD_at ha,getD_at hc];exact ⟨rfl,hin.2.2⟩
        · have h3:=(hq.2 j hj).2 (by omega)
          rw [getD_set (by omega),if_neg (by omega)] at h3;exact h3
    | inr q=>exact hq
theorem rTurn {s:GState} {n:Nat} (hn:66<n) (h:SS s) {e i:Int} {r:GRoll}:Ex (fun q=>(q.2=0∧Turned s e i r q.1)∨(q.2≠0∧q.1=s)) (d_ref14_Turn n s e i r):=by
  have hf:=h.toS0.few
  unfold d_ref14_Turn
  simp only [rThere h.toS0,Option.bind_some]
  repeat' with_reducible first | refine x_v ?_ | refine x_bv ?_ | apply x_bnd | apply x_p2 | apply x_bb | apply x_bp | apply x_bs | apply x_be | apply x_bk | apply x_bbi | apply x_bc | apply x_ba | refine x_cd (fun _=>?_) fun _=>?_ | refine x_cn (fun _=>?_) fun _=>?_ | apply x_cT | apply x_cF | apply x_sl | apply x_esc | apply x_end
  · exact .inr ⟨(fun k=>nomatch k),rfl⟩
  rename_i ht
  have ht:=of_decide_eq_true ht
  obtain ⟨x,hx⟩:=ht.at
  have ht2:=ht.1;have ht3:=ht.2
  obtain ⟨mts,hm,_,_,hes⟩:=h.mts hx
  have hl2:=hes.few hf.2.2
  have hlr:=hes.lr
  refine x_at ht2.1 hx (x_ix ht3.1 (by omega) fun r0 hr0=>?_)
  have hr0:x.Rolls[i.toNat]?=some r0:=hr0
  refine x_eq (a:=(⟨r0.Open,r0.Bought,r0.Landed,r0.Arrived,r0.Returned,r0.Sold,r0.Shipped,r0.SentBack,r0.Scrapped,r0.Lost,r0.Revalued⟩:A11_Int)) rfl (x_eq (a:=(⟨r.Open,r.Bought,r.Landed,r.Arrived,r.Returned,r.Sold,r.Shipped,r.SentBack,r.Scrapped,r.Lost,r.Revalued⟩:A11_Int)) rfl ?_)
  refine x_bi _ (turn_L 11 (k:=0) rfl (by omega) rfl) fun q hq=>?_
  cases q with
  | inr q=>refine x_sr (.inr hq)
  | inl l =>
    refine x_sl ?_
    repeat' with_reducible first | refine x_v ?_ | refine x_bv ?_ | apply x_bnd | apply x_p2 | apply x_bb | apply x_bp | apply x_bs | apply x_be | apply x_bk | apply x_bbi | apply x_bc | apply x_ba | refine x_cd (fun _=>?_) fun _=>?_ | refine x_cn (fun _=>?_) fun _=>?_ | apply x_cT | apply x_cF | apply x_sl | apply x_esc | apply x_end | refine x_a ?_
    refine x_at ht2.1 hx ?_
    repeat' with_reducible first | refine x_v ?_ | refine x_bv ?_ | apply x_bnd | apply x_p2 | apply x_bb | apply x_bp | apply x_bs | apply x_be | apply x_bk | apply x_bbi | apply x_bc | apply x_ba | refine x_cd (fun _=>?_) fun _=>?_ | refine x_cn (fun _=>?_) fun _=>?_ | apply x_cT | apply x_cF | apply x_sl | apply x_esc | apply x_end | refine x_a ?_
    refine x_at ht2.1 hx (x_as hq.1 ?_)
    have g:=fun j hj=>((hq.2 j hj).2 (Nat.zero_le _))
    have g0:=g 0 (by decide);have g1:=g 1 (by decide);have g2:=g 2 (by decide);have g3:=g 3 (by decide);have g4:=g 4 (by decide);have g5:=g 5 (by decide)
    have g6:=g 6 (by decide);have g7:=g 7 (by decide);have g8:=g 8 (by decide);have g9:=g 9 (by decide);have g10:=g 10 (by decide)
    have er:radd r0 r=⟨l.getD 0 0,l.getD 1 0,l.getD 2 0,l.getD 3 0,l.getD 4 0,l.getD 5 0,l.getD 6 0,l.getD 7 0,l.getD 8 0,l.getD 9 0,l.getD 10 0⟩:=by
      rw [g0.1,g1.1,g2.1,g3.1,g4.1,g5.1,g6.1,g7.1,g8.1,g9.1,g10.1];rfl
    refine x_eq (a:=(⟨l.getD 0 0,l.getD 1 0,l.getD 2 0,l.getD 3 0,l.getD 4 0,l.getD 5 0,l.getD 6 0,l.getD 7 0,l.getD 8 0,l.getD 9 0,l.getD 10 0⟩:GRoll)) rfl (x_at ht3.1 hr0 (x_bnd (x_end (.inl ⟨rfl,x,r0,ht,hx,hr0,?_,?_⟩))))
    · rw [er];exact ⟨g0.2,g1.2,g2.2,g3.2,g4.2,g5.2,g6.2,g7.2,g8.2,g9.2,g10.2⟩
    · rw [er];rfl
end Go.Pv
