import Derived.Test.YtfbohcojaajpfaaGreatOI70
set_option linter.unusedVariables false
set_option linter.unusedSimpArgs false
namespace Go.Pv
open Go.Proofs
set_option maxRecDepth 100000
set_option maxHeartbeats 1000000
theorem rReopen {K:Int} {s:GState} {e:Int} {n:Nat} (hn:66<n) (h:Inv K s):Ex (Kept K s) (d_ref23_Reopen n s e):=by
  have hss:=h.ss
  have hf:=hss.toS0.few
  have hl2:=h.l2
  unfold d_ref23_Reopen t_ref23_Reopen
  simp only [WT.run,run_pw]
  refine x_bi (fun (b:Bool)=>b=false→0≤e∧e<(s.Ents.length:Int)) ?_ fun b hb=>x_cond (fun _=>x_end (.inr ⟨by simp,rfl⟩)) fun kb=>?_
  · refine x_bnd (x_cd (fun _=>x_end (fun k=>nomatch k)) fun _=>x_bnd (x_end fun k=>by have:=of_decide_eq_false k;omega))
  have he:=hb kb
  have hx:s.Ents[e.toNat]?=some (s.Ents[e.toNat]'(by omega)):=List.getElem?_eq_getElem (by omega)
  generalize s.Ents[e.toNat]'(by omega)=x at hx
  obtain ⟨mts,hm,hml,hmb,hes⟩:=hss.mts hx
  refine x_at he.1 hx (x_bnd (x_cn (fun _=>x_end (.inr ⟨by simp,rfl⟩)) fun kc=>?_))
  rcases h.ent _ _ _ hx hm with g | ⟨y,g⟩
  · rw [g.opn] at kc;cases kc
  refine x_a (x_at he.1 hx ?_)
  rw [g.ahd]
  refine x_at (by decide) (a:=y) rfl (x_bnd (x_a ?_))
  refine x_bi (fun (S:List GSale)=>S.length=s.Sales.length∧∀ r∈S,SOk s.Master r) (x_iter (fun (v:Int×List GSale)=>0≤v.1∧v.1≤(s.Sales.length:Int)∧v.2.length=s.Sales.length∧∀ r∈v.2,SOk s.Master r) (fun (v:Int×List GSale)=>s.Sales.length-v.1.toNat) ?_ (v:=(0,s.Sales)) ⟨by simp,by simp,rfl,h.sal⟩ (by simp;omega)) fun S hS=>x_end (.inl ⟨rfl,?_⟩)
  · rintro ⟨j,S⟩ ⟨a1,a2,a3,a4⟩
    simp only at a1 a2 a3 a4
    refine x_p2 (x_bnd (x_cd (fun k=>?_) fun k=>x_esc (x_end ⟨a3,a4⟩)))
    have k:j<(S.length:Int):=k
    refine x_bi (fun (S':List GSale)=>S'.length=s.Sales.length∧∀ r∈S',SOk s.Master r) ?_ fun S' hS'=>x_v (x_brk ⟨⟨by first | omega | (simp only;omega),by first | omega | (simp only;omega),hS'.1,hS'.2⟩,by first | omega | (simp only;omega)⟩)
    refine x_ix a1 k fun z hz=>?_
    obtain ⟨z1,z2,z3,z4,z5,z6,z7,z8⟩:=a4 z (mem_at hz)
    refine x_bi (fun _=>True) ?_ fun b _=>x_cond (fun _=>x_bnd (x_bnd (x_end ⟨by simp;exact a3,set_ok (set_ok a4 ⟨z1,z2,z3,z4,z5,by simp,z7,z8⟩) ⟨z1,z2,z3,z4,z5,by simp,by unfold InM;simp,z8⟩⟩))) fun _=>x_end ⟨a3,a4⟩
    repeat' with_reducible first | refine x_v ?_ | refine x_bv ?_ | apply x_bnd | apply x_p2 | apply x_bb | apply x_bp | apply x_bs | apply x_be | apply x_bk | apply x_bbi | apply x_bc | apply x_ba | refine x_cd (fun _=>?_) fun _=>?_ | refine x_cn (fun _=>?_) fun _=>?_ | apply x_cT | apply x_cF | apply x_sl | apply x_esc | apply x_end | refine x_cond (fun _=>?_) fun _=>?_
    all_goals trivial
  · have fin:=h.up (x':=y) (R:=s.Receipts) (S:=S) (T:=s.Transits) hx hm (.inl g.eo) h.rct hS.2 h.tra h.l1 (by omega) h.l3 (by have:=g.b1;omega) (fun _ _=>rfl) (by have:=g.b12;omega) (fun _ _=>rfl) (by have:=g.b13;have:=g.b14;unfold grp;omega)
    exact fin
theorem rNext {K:Int} {s:GState} {e:Int} {n:Nat} (hn:66<n) (h:Inv K s):Ex (Kept K s) (d_ref23_Next n s e):=by
  have hss:=h.ss
  have hf:=hss.toS0.few
  have hl2:=h.l2
  have hper:=h.mas.per
  unfold d_ref23_Next t_ref23_Next
  simp only [WT.run,run_pw]
  refine x_bi (fun (b:Bool)=>b=false→0≤e∧e<(s.Ents.length:Int)) ?_ fun b hb=>x_cond (fun _=>x_end (.inr ⟨by simp,rfl⟩)) fun kb=>?_
  · refine x_bnd (x_cd (fun _=>x_end (fun k=>nomatch k)) fun _=>x_bnd (x_end fun k=>by have:=of_decide_eq_false k;omega))
  have he:=hb kb
  have hx:s.Ents[e.toNat]?=some (s.Ents[e.toNat]'(by omega)):=List.getElem?_eq_getElem (by omega)
  generalize s.Ents[e.toNat]'(by omega)=x at hx
  obtain ⟨mts,hm,hml,hmb,hes⟩:=hss.mts hx
  have hl:=hes.few hf.2.2
  have hlr:=hes.lr
  refine x_at he.1 hx (x_bnd (x_cn (fun _=>x_end (.inr ⟨by simp,rfl⟩)) fun kc=>?_))
  rcases h.ent _ _ _ hx hm with g | ⟨y,g⟩
  · rw [g.opn] at kc;cases kc
  have hsv:=g.ee.x.few g.es
  have hnow:=g.es.now
  refine x_at he.1 hx (x_bnd (x_cd (fun _=>x_end (.inr ⟨by simp,rfl⟩)) fun kn=>?_))
  repeat' with_reducible first | refine x_v ?_ | refine x_bv ?_ | apply x_bnd | apply x_p2 | apply x_bb | apply x_bp | apply x_bs | apply x_be | apply x_bk | apply x_bbi | apply x_bc | apply x_ba | refine x_cd (fun _=>?_) fun _=>?_ | refine x_cn (fun _=>?_) fun _=>?_ | apply x_cT | apply x_cF | apply x_sl | apply x_esc | apply x_end | refine x_a ?_
  refine x_at he.1 hx ?_
  repeat' with_reducible first | refine x_v ?_ | refine x_bv ?_ | apply x_bnd | apply x_p2 | apply x_bb | apply x_bp | apply x_bs | apply x_be | apply x_bk | apply x_bbi | apply x_bc | apply x_ba | refine x_cd (fun _=>?_) fun _=>?_ | refine x_cn (fun _=>?_) fun _=>?_ | apply x_cT | apply x_cF | apply x_sl | apply x_esc | apply x_end | refine x_a ?_
  refine x_at he.1 hx (x_v ?_)
  refine x_bi (fun (R:List GRoll)=>R.length=x.Rolls.length∧(∀ r∈R,RIn r)∧∀ (j:Nat) r p q,R[j]?=some r→x.Pools[2*j]?=some p→x.Pools[2*j+1]?=some q→rsum r=tV p.Layers+tV q.Layers)
    (x_iter (fun (v:Int×List GRoll)=>0≤v.1∧v.1≤(x.Rolls.length:Int)∧v.2.length=x.Rolls.length∧(∀ r∈v.2,RIn r)∧∀ (j:Nat) r p q,(j:Int)<v.1→v.2[j]?=some r→x.Pools[2*j]?=some p→x.Pools[2*j+1]?=some q→rsum r=tV p.Layers+tV q.Layers) (fun (v:Int×List GRoll)=>x.Rolls.length-v.1.toNat) ?_ (v:=(0,x.Rolls)) ⟨by simp,by simp,rfl,g.es.roll,fun j _ _ _ hj=>absurd hj (by simp)⟩ (by simp;omega)) fun R hR=>x_end (.inl ⟨rfl,?_⟩)
  · rintro ⟨i,R⟩ ⟨a1,a2,a3,a4,a5⟩
    simp only at a1 a2 a3 a4 a5
    refine x_p2 (x_bnd (x_cd (fun k=>?_) fun k=>x_esc (x_end ⟨a3,a4,fun j r p q hj hp hq=>a5 j r p q ?_ hj hp hq⟩)))
    · have k:i<(R.length:Int):=k
      obtain ⟨m,p,q,w1,w2,w3,w4,w5,w6⟩:=g.es.worth hsv (i:=i.toNat) (by omega)
      refine x_eq (rWorth hn hss ⟨he,by omega⟩ hx w2 w3 w4 w5) (x_ix a1 k fun _ _=>x_bnd (x_v (x_brk ⟨⟨by first | omega | (simp only;omega),by first | omega | (simp only;omega),by rw [List.length_set];exact a3,set_ok a4 ?_,?_⟩,by first | omega | (simp only;omega)⟩)))
      · unfold RIn InM;simp only;omega
      · intro j r p' q' hj hr hp hq
        have hj:(j:Int)<i+1:=hj
        have hr:(R.set i.toNat (⟨tV p.Layers+tV q.Layers,0,0,0,0,0,0,0,0,0,0⟩:GRoll))[j]?=some r:=hr
        rw [get_set (by omega)] at hr
        by_cases hij:i.toNat=j
        · rw [if_pos hij] at hr;cases hr
          rw [← hij,w2] at hp;rw [← hij,w3] at hq;cases hp;cases hq
          simp [rsum]
        · rw [if_neg hij] at hr
          exact a5 j r p' q' (by omega) hr hp hq
    · have k:¬ i<(R.length:Int):=k
      have:=(List.getElem?_eq_some_iff.1 hj).1
      omega
  · obtain ⟨r1,r2,r3⟩:=hR
    have ho:EO s.Master mts { x with Now:=x.Now+1,Closed:=false,Ahead:=[],Rolls:=R } :=
      ⟨⟨by show 1≤x.Now+1∧x.Now+1≤_;omega,g.es.lp,r1.trans g.es.lr,g.es.lb,g.es.lc,g.es.ld,g.es.lm,g.es.bal,g.es.pri,g.es.dwn,g.es.pool,r2⟩,⟨g.ee.ctl,g.ee.wri,g.ee.bln,r3⟩,rfl,rfl⟩
    exact h.up (x':={ x with Now:=x.Now+1,Closed:=false,Ahead:=[],Rolls:=R }) (R:=s.Receipts) (S:=s.Sales) (T:=s.Transits) hx hm (.inl ho) h.rct h.sal h.tra h.l1 h.l2 h.l3 (by show _=bl x 1-bl x 1;omega) (fun _ _=>rfl) (by show _=bl x 12-bl x 12;omega) (fun _ _=>rfl) rfl
structure OpB (o:GOp):Prop where
  q:0≤o.Qty∧o.Qty≤288230376151711744
  a:0≤o.Amount∧o.Amount≤288230376151711744
  a9:o.Kind=9→o.Amount≤1073741824
  l7:o.Kind=7→0≤o.Loc∧o.Loc≤1
  t12:o.Kind=12→o.E≠o.To
  r:o.Refs.length≤60
theorem r22by {K:Int} {s:GState} {o:GOp} {n:Nat} (hn:66<n) (h:Inv K s) (ho:OpB o):Ex (Kept K s) (d_ref22_by n s o):=by
  have hq:=ho.q
  unfold d_ref22_by t_ref22_by
  simp only [WT.run,run_pw]
  refine x_bnd (x_cd (fun _=>x_bi _ (r15 hn h (by omega) ho.a) fun r hr=>x_end hr) fun _=>?_)
  refine x_bnd (x_bi (fun _=>True) (x_cond (fun _=>x_end trivial) fun _=>x_bnd (x_end trivial)) fun b _=>x_cond (fun _=>x_bi _ (r16 hn h hq ho.a) fun r hr=>x_end hr) fun _=>?_)
  refine x_bnd (x_bi (fun _=>True) ?_ fun b _=>x_cond (fun _=>x_bi _ (r17 hn h hq ⟨ho.a.1,ho.a9⟩ ho.l7) fun r hr=>x_end hr) fun _=>?_)
  · repeat' with_reducible first | refine x_v ?_ | refine x_bv ?_ | apply x_bnd | apply x_p2 | apply x_bb | apply x_bp | apply x_bs | apply x_be | apply x_bk | apply x_bbi | apply x_bc | apply x_ba | refine x_cd (fun _=>?_) fun _=>?_ | refine x_cn (fun _=>?_) fun _=>?_ | apply x_cT | apply x_cF | apply x_sl | apply x_esc | apply x_end | refine x_cond (fun _=>?_) fun _=>?_
    all_goals trivial
  refine x_bnd (x_bi (fun _=>True) (x_cond (fun _=>x_end trivial) fun _=>x_bnd (x_end trivial)) fun b _=>x_cond (fun _=>x_bi _ (r18 hn h hq ho.a) fun r hr=>x_end hr) fun _=>?_)
  refine x_bnd (x_cd (fun _=>x_bi _ (r19 hn h ho.a ho.r) fun r hr=>x_end hr) fun _=>?_)
  refine x_bnd (x_bi (fun _=>True) (x_cond (fun _=>x_end trivial) fun _=>x_bnd (x_end trivial)) fun b _=>x_cond (fun _=>x_bi _ (r20 hn h hq ho.a ho.t12) fun r hr=>x_end hr) fun _=>?_)
  exact x_bnd (x_cd (fun _=>x_bi _ (r21 h ho.a) fun r hr=>x_end hr) fun _=>x_end (.inr ⟨by simp,rfl⟩))
theorem Inv.mono {K K':Int} {s:GState} (h:Inv K s) (hk:K≤K'):Inv K' s:={ h with don:=by have:=h.don;omega }
theorem Inv.done {K K':Int} {s:GState} (h:Inv K s) {d:Int} (hd:0≤d∧d≤K'):Inv K' ⟨s.Master,s.Ents,s.Receipts,s.Sales,s.Transits,d⟩:=⟨h.mas,h.len,hd,h.rct,h.sal,h.tra,h.l1,h.l2,h.l3,h.ent,h.acc,h.way,h.mtl⟩
theorem r22 {K:Int} {s:GState} {o:GOp} {n:Nat} (hn:66<n) (h:Inv K s) (hK:K≤1000000) (hc:Ex (fun r=>r=true→OpB o) (d_ref05_Check n o)):Ex (fun r=>Inv (K+1) r.1) (d_ref22_Do n s o):=by
  unfold d_ref22_Do t_ref22_Do
  simp only [WT.run,run_pw]
  refine x_bi _ hc fun b hb=>x_bnd (x_cn (fun _=>x_end (h.mono (by omega))) fun kb=>?_)
  refine x_bi _ (r22by hn h (hb kb)) fun r hr=>x_bnd (x_cd (fun _=>x_end (h.mono (by omega))) fun k=>?_)
  rcases hr with ⟨_,hr⟩ | ⟨k2,_⟩
  rotate_left
  · exact absurd k2 k
  have hd:=hr.don
  refine x_v (x_bnd (x_end (hr.done ?_)))
  split <;> omega
theorem rStep {K:Int} {s:GState} {o:GOp} {n:Nat} (hn:66<n) (h:Inv K s) (hK:K≤1000000) (hc:Ex (fun r=>r=true→OpB o) (d_ref05_Check n o)):Ex (fun r=>Inv (K+1) r.1) (d_ref23_Step n s o):=by
  have hd:=h.don
  unfold d_ref23_Step t_ref23_Step
  simp only [WT.run,run_pw]
  refine x_bi _ hc fun b hb=>x_bnd (x_cn (fun _=>x_end (h.mono (by omega))) fun kb=>?_)
  refine x_bi (fun (r:(Int×GState)⊕(GState×Int))=>match r with | .inl r=>r.1=0→Inv K r.2 | .inr r=>Inv (K+1) r.1) ?_ fun r hr=>x_sel (fun a e=>?_) fun q e=>?_
  · refine x_bnd (x_cd (fun _=>x_bi _ (rClose hn h) fun r hr=>x_brk ?_) fun _=>x_bnd (x_cd (fun _=>x_bi _ (rReopen hn h) fun r hr=>x_brk ?_) fun _=>x_bnd (x_cd (fun _=>x_bi _ (rNext hn h) fun r hr=>x_brk ?_) fun _=>x_bi _ (r22 hn h hK hc) fun r hr=>x_esc (x_end hr))))
    all_goals
      rcases hr with ⟨_,hr⟩ | ⟨k2,_⟩
      · exact fun _=>hr
      · exact fun k=>absurd k k2
  · subst e
    refine x_p2 (x_bnd (x_cd (fun _=>x_end (h.mono (by omega))) fun k=>?_))
    have hr:Inv K a.2:=hr (by omega)
    have hd:=hr.don
    exact x_v (x_end (hr.done (by omega)))
  · subst e;exact hr
theorem td {a b:Int} (ha:0≤a) (hb:0<b):0≤a.tdiv b∧a.tdiv b≤a:=by
  rw [Int.tdiv_eq_ediv_of_nonneg ha]
  exact ⟨Int.ediv_nonneg ha (by omega),Int.ediv_le_self b ha⟩
theorem tm {a b:Int} (ha:0≤a) (hb:0<b):0≤a.tmod b∧a.tmod b<b:=by
  rw [Int.tmod_eq_emod_of_nonneg ha]
  exact ⟨Int.emod_nonneg _ (by omega),Int.emod_lt_of_pos _ hb⟩
theorem rPlace {v k:Int} (hk:0<k∧k≤4611686018427387904):Ex (fun r=>0≤r∧r<k) (d_law00_Place v k):=by
  have h1:=Int.tmod_lt_of_pos v hk.1
  have h2:=Int.lt_tmod_of_pos v hk.1
  unfold d_law00_Place t_law00_Place
  simp only [WT.run,run_pw]
  refine x_a ?_
  repeat' with_reducible first | refine x_v ?_ | refine x_bv ?_ | apply x_bnd | apply x_p2 | apply x_bb | apply x_bp | apply x_bs | apply x_be | apply x_bk | apply x_bbi | apply x_bc | apply x_ba | refine x_cd (fun _=>?_) fun _=>?_ | refine x_cn (fun _=>?_) fun _=>?_ | apply x_cT | apply x_cF | apply x_sl | apply x_esc | apply x_end
  all_goals omega
def MN (m:GMaster):Prop:=MOk m∧2≤m.Entities
theorem mas_L0 {k c:Int} (hk:0≤k∧k<1073741824) (hc:c≤5):∀ (m:Nat) {n:Nat} {i:Int} {l:List Int},i+m=c→m<n→0≤i→(l.length:Int)=i→(∀ x∈l,0≤x∧x≤1073741824)→Ex (fun r=>(r.length:Int)=c∧∀ x∈r,0≤x∧x≤1073741824) (d_law00_Master_L0 k c n i l)
  | _,0,_,_,_,hn,_,_,_=>absurd hn (Nat.not_lt_zero _)
  | 0,n+1,i,l,hi,_,h0,hl,hb=>by
    unfold d_law00_Master_L0
    exact x_bnd (x_cd (fun k=>absurd k (by omega)) fun _=>x_end ⟨by omega,hb⟩)
  | m+1,n+1,i,l,hi,hn,h0,hl,hb=>by
    unfold d_law00_Master_L0
    have f1:=td (a:=k) (b:=24) hk.1 (by decide)
    have f2:=tm (a:=k.tdiv 24) (b:=7) f1.1 (by decide)
    refine x_bnd (x_cd (fun _=>?_) fun h=>absurd (show i<c by omega) h)
    refine x_v (x_bnd (x_v (x_bnd (x_a (x_v ?_)))))
    exact mas_L0 hk hc m (i:=i+1) (by omega) (by omega) (by omega) (by simp;omega) (app_ok hb (by omega))
theorem mas_L2 {k c e:Int} (hk:0≤k∧k<1073741824) (hc:c≤5) (he:0≤e∧e≤4):∀ (m:Nat) {n:Nat} {i:Int} {l r:List Int},i+m=c→m<n→0≤i→(l.length:Int)=i→(r.length:Int)=i→(∀ x∈l,1≤x∧x≤4)→(∀ x∈r,0≤x∧x≤1073741824) →
    Ex (fun q=>((q.1.length:Int)=c∧∀ x∈q.1,1≤x∧x≤4)∧(q.2.length:Int)=c∧∀ x∈q.2,0≤x∧x≤1073741824) (d_law00_Master_L2 k c e n i l r)
  | _,0,_,_,_,_,hn,_,_,_,_,_=>absurd hn (Nat.not_lt_zero _)
  | 0,n+1,i,l,r,hi,_,h0,hl,hr,hb,hd=>by
    unfold d_law00_Master_L2
    exact x_bnd (x_cd (fun k=>absurd k (by omega)) fun _=>x_end ⟨⟨by first | omega | (simp only;omega),hb⟩,by first | omega | (simp only;omega),hd⟩)
  | m+1,n+1,i,l,r,hi,hn,h0,hl,hr,hb,hd=>by
    unfold d_law00_Master_L2
    have f1:=td (a:=k) (b:=168) hk.1 (by decide)
    have f2:=td (a:=k) (b:=672) hk.1 (by decide)
    have f3:=tm (a:=k.tdiv 672) (b:=4) f2.1 (by decide)
    have f4:0≤e*(k.tdiv 672).tmod 4∧e*(k.tdiv 672).tmod 4≤16:=by
      refine ⟨Int.mul_nonneg he.1 f3.1,?_⟩
      have:e*(k.tdiv 672).tmod 4≤4*4:=Int.mul_le_mul (by omega) (by omega) f3.1 (by omega)
      omega
    have f5:=tm (a:=k.tdiv 168+i+e*(k.tdiv 672).tmod 4) (b:=4) (by omega) (by decide)
    have f6:=td (a:=k) (b:=2688) hk.1 (by decide)
    have f7:=tm (a:=k.tdiv 2688+7*i+e) (b:=40) (by omega) (by decide)
    refine x_bnd (x_cd (fun _=>?_) fun h=>absurd (show i<c by omega) h)
    refine x_v (x_v (x_v (x_bnd (x_v (x_v (x_bnd (x_v (x_bnd (x_a (x_v (x_v (x_v (x_v (x_bnd (x_bnd (x_a (x_v ?_)))))))))))))))))
    exact mas_L2 hk hc he m (i:=i+1) (by omega) (by omega) (by omega) (by simp;omega) (by simp;omega) (app_ok hb (by omega)) (app_ok hd (by omega))
theorem mas_L1 {k c es:Int} (hk:0≤k∧k<1073741824) (hc:0≤c∧c≤5) (he:es≤4):∀ (m:Nat) {n:Nat} {i:Int} {l r:List (List Int)},i+m=es→m+6<n→0≤i→(l.length:Int)=i→(r.length:Int)=i→(∀ x∈l,(x.length:Int)=c∧∀ y∈x,1≤y∧y≤4)→(∀ x∈r,(x.length:Int)=c∧∀ y∈x,0≤y∧y≤1073741824) →
    Ex (fun q=>((q.1.length:Int)=es∧∀ x∈q.1,(x.length:Int)=c∧∀ y∈x,1≤y∧y≤4)∧(q.2.length:Int)=es∧∀ x∈q.2,(x.length:Int)=c∧∀ y∈x,0≤y∧y≤1073741824) (d_law00_Master_L1 k es c n i l r)
  | _,0,_,_,_,_,hn,_,_,_,_,_=>absurd hn (Nat.not_lt_zero _)
  | 0,n+1,i,l,r,hi,_,h0,hl,hr,hb,hd=>by
    unfold d_law00_Master_L1
    exact x_bnd (x_cd (fun k=>absurd k (by omega)) fun _=>x_end ⟨⟨by first | omega | (simp only;omega),hb⟩,by first | omega | (simp only;omega),hd⟩)
  | m+1,n+1,i,l,r,hi,hn,h0,hl,hr,hb,hd=>by
    unfold d_law00_Master_L1
    refine x_bnd (x_cd (fun _=>?_) fun h=>absurd (show i<es by omega) h)
    refine x_bi (fun (q:List (List Int)×List (List Int))=>((q.1.length:Int)=i+1∧∀ x∈q.1,(x.length:Int)=c∧∀ y∈x,1≤y∧y≤4)∧(q.2.length:Int)=i+1∧∀ x∈q.2,(x.length:Int)=c∧∀ y∈x,0≤y∧y≤1073741824) ?_ fun q hq=>x_p2 (x_v ?_)
    · refine x_bi _ (mas_L2 hk hc.2 ⟨h0,by omega⟩ c.toNat (i:=0) (by omega) (by omega) (by omega) rfl rfl (fun _ h=>nomatch h) (fun _ h=>nomatch h)) fun q hq=>x_p2 (x_bnd (x_a (x_bnd (x_a (x_end ⟨⟨by simp;omega,app_ok hb hq.1⟩,by simp;omega,app_ok hd hq.2⟩)))))
    · exact mas_L1 hk hc he m (i:=i+1) (by omega) (by omega) (by omega) hq.1.1 hq.2.1 hq.1.2 hq.2.2
theorem rMaster {v:Int} {n:Nat} (hn:66<n):Ex MN (d_law00_Master n v):=by
  unfold d_law00_Master
  refine x_bi _ (rPlace (by decide)) fun k hk=>?_
  have f1:=tm (a:=k) (b:=2) hk.1 (by decide)
  have f2:=td (a:=k) (b:=2) hk.1 (by decide)
  have f3:=tm (a:=k.tdiv 2) (b:=3) f2.1 (by decide)
  have f4:=td (a:=k) (b:=6) hk.1 (by decide)
  have f5:=tm (a:=k.tdiv 6) (b:=4) f4.1 (by decide)
  refine x_bnd (x_v (x_v (x_bnd (x_v (x_v (x_bnd (x_v ?_)))))))
  refine x_bi _ (mas_L0 hk (by omega) (2+(k.tdiv 2).tmod 3).toNat (i:=0) (by omega) (by omega) (by omega) rfl (fun _ h=>nomatch h)) fun w hw=>?_
  refine x_bi _ (mas_L1 hk (c:=2+(k.tdiv 2).tmod 3) (by omega) (by omega) (2+k.tmod 2).toNat (i:=0) (by omega) (by omega) (by omega) rfl rfl (fun _ h=>nomatch h) (fun _ h=>nomatch h)) fun q hq=>x_p2 (x_end ?_)
  obtain ⟨⟨h1,h2⟩,h3,h4⟩:=hq
  exact ⟨⟨by simp only;omega,by simp only;omega,by simp only;omega,hw.2,h1,h3,fun l hl=>⟨by have:=(h2 l hl).1;simp only;omega,(h2 l hl).2⟩,fun l hl=>⟨by have:=(h4 l hl).1;simp only;omega,(h4 l hl).2⟩⟩,by simp only;omega⟩
theorem rAll4 {l:List Int} {k lo hi:Int} {n:Nat} (hn:66<n) (hk:(l.length:Int)=k) (h60:l.length≤60) (hb:∀ x∈l,lo≤x∧x≤hi):d_ref04_all n l k lo hi=some true:=by
  refine ex_eq ?_
  unfold d_ref04_all t_ref04_all
  simp only [WT.run,run_pw]
  refine x_bnd (x_cd (fun h=>absurd hk h) fun _=>?_)
  refine x_bi (fun (r:Unit⊕Bool)=>r=.inl ()) (x_iter (fun (i:Int)=>0≤i∧i≤(l.length:Int)) (fun (i:Int)=>l.length-i.toNat) ?_ (v:=0) ⟨by simp,by simp⟩ (by simp;omega)) fun r hr=>by subst hr;exact x_sl (x_end rfl)
  rintro i ⟨h0,h1⟩
  refine x_bnd (x_cd (fun h=>?_) fun h=>x_esc (x_brk rfl))
  have hx:l[i.toNat]?=some (l[i.toNat]'(by omega)):=List.getElem?_eq_getElem (by omega)
  generalize l[i.toNat]'(by omega)=x at hx
  have hxb:=hb x (mem_at hx)
  refine x_bi (fun b=>b=false) (x_at h0 hx (x_bnd (x_cd (fun h=>absurd h (by omega)) fun _=>x_at h0 hx (x_bnd (x_end (decide_eq_false (by omega))))))) fun b hb2=>?_
  subst hb2
  exact x_cF (x_v (x_brk ⟨⟨by omega,by omega⟩,by omega⟩))
theorem rCheck4 {m:GMaster} {n:Nat} (hn:66<n) (h:MOk m):d_ref04_Check n m=some true:=by
  have h1:=h.ents;have h2:=h.per;have h3:=h.n1;have h4:=h.lm;have h5:=h.lc
  refine ex_eq ?_
  unfold d_ref04_Check t_ref04_Check
  simp only [WT.run,run_pw]
  refine x_bi (fun b=>b=false) ?_ fun b hb=>?_
  · refine x_bnd (x_cd (fun h=>absurd h (by omega)) fun _=>?_)
    refine x_bnd (x_cd (fun h=>absurd h (by omega)) fun _=>?_)
    refine x_bnd (x_cd (fun h=>absurd h (by omega)) fun _=>?_)
    refine x_bnd (x_cd (fun h=>absurd h (by omega)) fun _=>?_)
    refine x_bnd (x_cd (fun h=>absurd h (by omega)) fun _=>?_)
    refine x_bnd (x_cd (fun h=>absurd h (by omega)) fun _=>?_)
    refine x_eq (rAll4 hn rfl (by omega) h.wei) (x_bnd (x_cn (fun k=>nomatch k) fun _=>?_))
    refine x_bnd (x_cd (fun h=>absurd h (by omega)) fun _=>?_)
    exact x_bnd (x_end (decide_eq_false (by omega)))
  · subst hb
    refine x_cF (x_bi (fun (r:Unit⊕Bool)=>r=.inl ()) (x_iter (fun (i:Int)=>0≤i∧i≤m.Entities) (fun (i:Int)=>m.Entities.toNat-i.toNat) ?_ (v:=0) ⟨by simp,by omega⟩ (by simp;omega)) fun r hr=>by subst hr;exact x_sl (x_end rfl))
    rintro i ⟨a0,a1⟩
    refine x_bnd (x_cd (fun k=>?_) fun k=>x_esc (x_brk rfl))
    refine x_bi (fun b=>b=false) (x_ix a0 (by omega) fun l hl=>?_) fun b hb2=>?_
    · have g:=h.met l (mem_at hl)
      refine x_eq (rAll4 hn (by omega) (by omega) g.2) (x_bnd (x_cn (fun k=>nomatch k) fun _=>x_ix a0 (by omega) fun r hr=>?_))
      have g2:=h.cos r (mem_at hr)
      exact x_eq (rAll4 hn (by omega) (by omega) g2.2) (x_bnd (x_end rfl))
    · subst hb2
      exact x_cF (x_v (x_brk ⟨⟨by omega,by omega⟩,by omega⟩))
end Go.Pv
