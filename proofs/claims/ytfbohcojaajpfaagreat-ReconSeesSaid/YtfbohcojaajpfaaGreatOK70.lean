import Derived.Test.YtfbohcojaajpfaaGreatOH70
set_option linter.unusedVariables false
set_option linter.unusedSimpArgs false
namespace Go.Pv
open Go.Proofs
set_option maxRecDepth 100000
set_option maxHeartbeats 1000000
theorem rTarget {a b c:Int} (ha:0≤a∧a≤288230376151711744) (hb:0≤b∧b≤288230376151711744) (hc:c≤288230376151711744):Ex (fun r=>0≤r∧r≤a) (d_ref21_Target a b c):=by
  unfold d_ref21_Target t_ref21_Target
  simp only [WT.run,run_pw]
  refine x_bi (fun (b:Bool)=>b=false→0≤c) ?_ fun b' hb'=>x_cond (fun _=>x_end (by omega)) fun kb=>?_
  · refine x_bnd (x_cd (fun _=>x_end (fun k=>nomatch k)) fun _=>x_bnd (x_cd (fun _=>x_end (fun k=>nomatch k)) fun _=>x_bnd (x_end fun k=>by have:=of_decide_eq_false k;omega)))
  have hc0:=hb' kb
  have hm:0≤b*c % 18446744073709551616:=Int.emod_nonneg _ (by decide)
  have hw:wu64 a=a:=by rw [wmod];exact Int.emod_eq_of_lt (by omega) (by omega)
  refine x_eq (rwide_g (by omega) (by omega)) ?_
  refine x_bi (fun (b':Bool)=>b'=false→b*c % 18446744073709551616<a) ?_ fun b' hb'=>x_cond (fun _=>x_end (by omega)) fun kb=>?_
  · refine x_bnd (x_cd (fun _=>x_end (fun k=>nomatch k)) fun _=>?_)
    refine x_bnd (x_bnd (x_end fun k=>?_))
    have:=of_decide_eq_false k
    rw [hw] at this;simp only at this;omega
  have:=hb' kb
  generalize b*c % 18446744073709551616=z at *
  refine x_v (x_v (x_end (by first | omega | (simp only;omega))))
theorem ES.pr {n:Nat} {mts:List Int} {per:Int} {x:GEnt} (h:ES n mts per x):∀ p∈x.Pools,LR p.Layers:=by
  intro p hp
  obtain ⟨k,hk⟩:=List.getElem?_of_mem hp
  have hl:k<x.Pools.length:=(List.getElem?_eq_some_iff.1 hk).1
  have hlp:=h.lp
  obtain ⟨m,a,b,h1,h2,h3,h4⟩:=h.at (i:=k / 2) (c:=k % 2) (by omega) (by omega)
  rw [show 2*(k / 2)+k % 2=k by omega,hk] at h2
  cases h2;exact h4.pp.ly
theorem sV_two {l:List GPool} {a b:Nat} {p q:GPool} (h:∀ p∈l,LR p.Layers) (ha:l[a]?=some p) (hb:l[b]?=some q) (hne:a≠b):tV p.Layers+tV q.Layers≤sV l:=by
  let z:GPool:=⟨[],⟨0,0,0⟩⟩
  have hka:a<l.length:=(List.getElem?_eq_some_iff.1 ha).1
  have e1:sV (l.set a z)=sV l-tV p.Layers+0:=sV_set ha
  have hb':(l.set a z)[b]?=some q:=by rw [get_set hka,if_neg hne];exact hb
  have e2:sV ((l.set a z).set b z)=sV (l.set a z)-tV q.Layers+0:=sV_set hb'
  have e3:0≤sV ((l.set a z).set b z):=sumf_nn fun x hx=>by
    rcases mem_set hx with rfl | hx
    · exact Int.le_refl 0
    · rcases mem_set hx with rfl | hx
      · exact Int.le_refl 0
      · exact (LR_b (h x hx)).2.1.1
  omega
theorem ES.worth {n:Nat} {mts:List Int} {per:Int} {x:GEnt} (h:ES n mts per x) (hs:sV x.Pools≤288230376151711744) {i:Nat} (hi:i<n):∃ m p q,mts[i]?=some m∧x.Pools[2*i]?=some p∧x.Pools[2*i+1]?=some q∧IO m p q∧tV p.Layers+tV q.Layers≤288230376151711744∧0≤tV p.Layers+tV q.Layers:=by
  obtain ⟨m,p,q,h1,h2,h3,h4⟩:=h.at (i:=i) (c:=0) hi (by decide)
  have h2:x.Pools[2*i]?=some p:=h2
  have h3:x.Pools[2*i+1]?=some q:=h3
  have:=sV_two h.pr h2 h3 (by omega)
  have a1:=LR_b h4.pp.ly;have a2:=LR_b h4.qq.ly
  exact ⟨m,p,q,h1,h2,h3,h4,by omega,by omega⟩
theorem bl_in {n:Nat} {mts:List Int} {per:Int} {x:GEnt} (h:ES n mts per x) (a:Nat) (ha:a<17):InM (bl x a):=by
  have hl:=h.lb
  have hx:x.Bal[a]?=some (x.Bal[a]'(by omega)):=List.getElem?_eq_getElem (by omega)
  unfold bl;rw [getD_at hx];exact h.bal _ (mem_at hx)
theorem EBx.few {n:Nat} {mts:List Int} {per:Int} {x:GEnt} {f:Nat→Int} (h:EBx x 0 f) (hs:ES n mts per x):sV x.Pools≤288230376151711744:=by
  have:=h.ctl;have:=bl_in hs 0 (by decide);unfold InM at this;omega
theorem lsum_app (a b:List GLine) (c:Int):lsum (a++b) c=lsum a c+lsum b c:=sumf_app _ a b
theorem rMark {s t:GState} {e:Int} {mts:List Int} {x:GEnt} {n:Nat} (hn:66<n) (hs:SS s) (h:On s e.toNat mts t x 0 (fun _=>0)) (he:0≤e∧e<(s.Ents.length:Int)) :
    Ex (fun r=>r.2=0→∃ x',On s e.toNat mts r.1 x' 0 (fun _=>0)∧bl x' 1=bl x 1∧bl x' 12=bl x 12∧bl x' 13=bl x 13∧bl x' 14=bl x 14∧x'.Now=x.Now) (d_ref21_Mark n t e):=by
  obtain ⟨g1,g2,g3,g4,g5⟩:=h.rc
  have hst:=h.ss hs
  have hf:=hst.toS0.few
  have hl:=h.es.few (by rw [← g4];exact hf.2.2)
  have hlc:=h.es.lc;have hld:=h.es.ld
  have hsv:=h.eb.few h.es
  unfold d_ref21_Mark t_ref21_Mark
  simp only [WT.run,run_pw]
  refine x_bi (fun (b:Bool)=>b=false) (x_bnd (x_cd (fun k=>absurd k (by omega)) fun _=>x_bnd (x_end (decide_eq_false (by omega))))) fun b hb=>?_
  subst hb
  refine x_cF ?_
  repeat' with_reducible first | refine x_v ?_ | refine x_bv ?_ | apply x_bnd | apply x_p2 | apply x_bb | apply x_bp | apply x_bs | apply x_be | apply x_bk | apply x_bbi | apply x_bc | apply x_ba | refine x_cd (fun _=>?_) fun _=>?_ | refine x_cn (fun _=>?_) fun _=>?_ | apply x_cT | apply x_cF | apply x_sl | apply x_esc | apply x_end | refine x_a ?_
  refine x_at he.1 h.at ?_
  repeat' with_reducible first | refine x_v ?_ | refine x_bv ?_ | apply x_bnd | apply x_p2 | apply x_bb | apply x_bp | apply x_bs | apply x_be | apply x_bk | apply x_bbi | apply x_bc | apply x_ba | refine x_cd (fun _=>?_) fun _=>?_ | refine x_cn (fun _=>?_) fun _=>?_ | apply x_cT | apply x_cF | apply x_sl | apply x_esc | apply x_end | refine x_a ?_
  refine x_at he.1 h.at ?_
  refine x_bi (fun (v:List GLine×List Int)=>v.1.length≤10∧v.2.length=x.Down.length∧(∀ y∈v.2,0≤y∧y≤288230376151711744)∧lsum v.1 11=sumI x.Down-sumI v.2∧∀ a:Int,a≠10→a≠11→lsum v.1 a=0)
    (x_iter (fun (v:Int×List GLine×List Int)=>0≤v.1∧v.1≤(x.Prices.length:Int)∧(v.2.1.length:Int)≤2*v.1∧v.2.2.length=x.Down.length∧(∀ y∈v.2.2,0≤y∧y≤288230376151711744)∧lsum v.2.1 11=sumI x.Down-sumI v.2.2∧∀ a:Int,a≠10→a≠11→lsum v.2.1 a=0) (fun (v:Int×List GLine×List Int)=>x.Prices.length-v.1.toNat) ?_ (v:=(0,[],x.Down)) ⟨by simp,by simp,by simp,rfl,h.es.dwn,by simp [lsum_nil],fun a _ _=>rfl⟩ (by simp;omega)) fun v hv=>?_
  · rintro ⟨i,ls,D⟩ ⟨a1,a2,a3,a4,a5,a6,a7⟩
    simp only at a1 a2 a3 a4 a5 a6 a7
    refine x_p2 (x_p2 (x_bnd (x_cd (fun k=>?_) fun k=>x_esc (x_end ⟨by first | omega | (simp only;omega),a4,a5,a6,a7⟩))))
    have k:i<(x.Prices.length:Int):=k
    refine x_bi (fun (v:List GLine×List Int)=>(v.1.length:Int)≤2*(i+1)∧v.2.length=x.Down.length∧(∀ y∈v.2,0≤y∧y≤288230376151711744)∧lsum v.1 11=sumI x.Down-sumI v.2∧∀ a:Int,a≠10→a≠11→lsum v.1 a=0) ?_ fun v hv=>x_p2 (x_v (x_brk ⟨⟨by first | omega | (simp only;omega),by first | omega | (simp only;omega),hv.1,hv.2.1,hv.2.2.1,hv.2.2.2.1,hv.2.2.2.2⟩,by first | omega | (simp only;omega)⟩))
    refine x_ix a1 k fun pr hpr=>?_
    have hpr:=h.es.pri pr (mem_at hpr)
    refine x_bnd (x_cd (fun kp=>?_) fun _=>x_end ⟨by first | omega | (simp only;omega),a4,a5,a6,a7⟩)
    obtain ⟨m,p,q,w1,w2,w3,w4,w5,w6⟩:=h.es.worth hsv (i:=i.toNat) (by omega)
    have b1:=LR_b w4.pp.ly;have b2:=LR_b w4.qq.ly;have b3:=w4.sq
    have htt:There t e i:=⟨⟨he.1,by omega⟩,by rw [g4];omega⟩
    refine x_eq (rWorth hn hst htt h.at w2 w3 w4 w5) ?_
    refine x_bi _ (rTarget (by first | omega | (simp only;omega)) (by first | omega | (simp only;omega)) hpr.2) fun d hd=>?_
    have hd:0≤d∧d≤tV p.Layers+tV q.Layers:=hd
    refine x_ix a1 (by first | omega | (simp only;omega)) fun o ho=>?_
    have ho:D[i.toNat]?=some o:=ho
    have hob:=a5 o (mem_at ho)
    refine x_v (x_v (x_bnd (x_a (x_bnd (x_end ⟨by simp;omega,by rw [List.length_set];exact a4,set_ok a5 (by omega),?_,?_⟩)))))
    · have e1:sumI (D.set i.toNat d)=sumI D-o+d:=sumf_set _ ho
      show lsum (ls++_) 11=sumI x.Down-sumI (D.set i.toNat d)
      rw [lsum_app,a6,e1];simp [lsum_cons,lsum_nil];omega
    · intro a h10 h11
      show lsum (ls++_) a=0
      rw [lsum_app,a7 a h10 h11];simp [lsum_cons,lsum_nil,Ne.symm h10,Ne.symm h11]
  · obtain ⟨ls,D⟩:=v
    obtain ⟨c1,c2,c3,c4,c5⟩:=hv
    simp only at c1 c2 c3 c4 c5
    have es1:ES s.Master.Weights.length mts s.Master.Periods { x with Down:=D }:={ h.es with ld:=by show D.length=_;rw [c2];exact hld,dwn:=c3 }
    have ss1:SS (upE t e.toNat { x with Down:=D }):=hst.up h.at fun ms hm=>by rw [g4] at hm;rw [h.ms] at hm;cases hm;rw [g4];exact es1
    refine x_p2 (x_bi _ (rPost (s:=upE t e.toNat { x with Down:=D }) hn ss1 (by first | omega | (simp only;omega))) fun r hr=>?_)
    refine x_bnd (x_cd (fun k=>x_end fun k2=>absurd k2 k) fun k=>x_end fun _=>?_)
    rcases hr with ⟨_,hr⟩ | ⟨k2,_⟩
    rotate_left
    · exact absurd k2 k
    obtain ⟨y,b,he2,hy,hp,e1⟩:=hr
    have hy1:(upE t e.toNat { x with Down:=D }).Ents[e.toNat]?=some { x with Down:=D }:=upE_at (by omega)
    rw [hy1] at hy;cases hy
    obtain ⟨p1,p2,p3,p4⟩:=hp
    have q0:b.getD 0 0=bl x 0+lsum ls 0:=p3 0 (by decide)
    have q11:b.getD 11 0=bl x 11+lsum ls 11:=p3 11 (by decide)
    have q1:b.getD 1 0=bl x 1+lsum ls 1:=p3 1 (by decide)
    have q12:b.getD 12 0=bl x 12+lsum ls 12:=p3 12 (by decide)
    have q13:b.getD 13 0=bl x 13+lsum ls 13:=p3 13 (by decide)
    have q14:b.getD 14 0=bl x 14+lsum ls 14:=p3 14 (by decide)
    rw [c5 _ (by decide) (by decide)] at q0 q1 q12 q13 q14
    have z1:=h.eb.ctl;have z2:=h.eb.wri;have z3:=h.eb.bln
    refine ⟨{ x with Down:=D,Bal:=b },?_,?_,?_,?_,?_,rfl⟩
    · show On s e.toNat mts r.1 _ 0 _
      rw [e1,upE_upE]
      refine h.set (es1.setBal p1 p2) ⟨?_,?_,?_,h.eb.rol⟩ rfl rfl
      · show sV x.Pools=b.getD 0 0+0;omega
      · show sumI D=-b.getD 11 0;omega
      · show sumI b=0;rw [p4];exact z3
    · show b.getD 1 0=_;omega
    · show b.getD 12 0=_;omega
    · show b.getD 13 0=_;omega
    · show b.getD 14 0=_;omega
theorem r21 {K:Int} {s:GState} {o:GOp} (h:Inv K s) (ha:0≤o.Amount∧o.Amount≤288230376151711744):Ex (Kept K s) (d_ref21_Do s o):=by
  unfold d_ref21_Do t_ref21_Do
  simp only [WT.run,run_pw]
  repeat' with_reducible first | refine x_v ?_ | refine x_bv ?_ | apply x_bnd | apply x_p2 | apply x_bb | apply x_bp | apply x_bs | apply x_be | apply x_bk | apply x_bbi | apply x_bc | apply x_ba | refine x_cd (fun _=>?_) fun _=>?_ | refine x_cn (fun _=>?_) fun _=>?_ | apply x_cT | apply x_cF | apply x_sl | apply x_esc | apply x_end
  · exact .inr ⟨by simp,rfl⟩
  refine x_bi _ (rReady h o.E o.Item) fun r hr=>?_
  refine x_bnd (x_cd (fun k=>x_end (.inr ⟨k,rfl⟩)) fun kz=>?_)
  obtain ⟨ht,x,mts,hx,hm,ho⟩:=hr (by omega)
  have o0:=On.start hx hm ho
  have hf:=h.ss.toS0.few
  have hl:=ho.es.few hf.2.2
  have hlc:=ho.es.lc;have ht2:=ht.2
  repeat' with_reducible first | refine x_v ?_ | refine x_bv ?_ | apply x_bnd | apply x_p2 | apply x_bb | apply x_bp | apply x_bs | apply x_be | apply x_bk | apply x_bbi | apply x_bc | apply x_ba | refine x_cd (fun _=>?_) fun _=>?_ | refine x_cn (fun _=>?_) fun _=>?_ | apply x_cT | apply x_cF | apply x_sl | apply x_esc | apply x_end | refine x_a ?_
  refine x_at ht.1.1 hx ?_
  repeat' with_reducible first | refine x_v ?_ | refine x_bv ?_ | apply x_bnd | apply x_p2 | apply x_bb | apply x_bp | apply x_bs | apply x_be | apply x_bk | apply x_bbi | apply x_bc | apply x_ba | refine x_cd (fun _=>?_) fun _=>?_ | refine x_cn (fun _=>?_) fun _=>?_ | apply x_cT | apply x_cF | apply x_sl | apply x_esc | apply x_end | refine x_a ?_
  refine x_at ht.1.1 hx (x_ix ht2.1 (by first | omega | (simp only;omega)) fun _ _=>x_bnd (x_end (.inl ⟨rfl,?_⟩)))
  have o1:=o0.set (y:={ x with Prices:=x.Prices.set o.Item.toNat o.Amount }) (ho.es.setPrice (by omega)) ⟨o0.eb.ctl,o0.eb.wri,o0.eb.bln,o0.eb.rol⟩ rfl rfl
  exact o1.fin h hx rfl (fun _=>rfl) h.sal h.l2 rfl rfl rfl rfl
def Went (m:Int) (p p':GPool) (l:GLayer):Prop:=PR m p'∧tQ p'.Layers≤tQ p.Layers∧tV p'.Layers+l.Value=tV p.Layers∧tS p'.Layers≤tS p.Layers∧(0≤l.Value∧l.Value≤288230376151711744)∧(-288230376151711744≤l.Profit∧l.Profit≤288230376151711744)
theorem went_tak {m:Int} {p:GPool} {l:List GLayer} {x:GLayer} {pe:A3_Int} (h:PR m p) (ht:Tak p.Layers l x) (h0:0≤pe.a0) (h1:0≤pe.a1) (h2:0≤pe.a2) (hs:pe.a0+pe.a1+pe.a2+x.Qty≤tQ p.Layers) (hq:0≤x.Qty) (ho:m≠3→pe.a0=0∧pe.a1=0∧pe.a2=0):Went m p ⟨l,pe⟩ x:=by
  obtain ⟨t1,t2,t3,t4,t5,t6,t7,t8⟩:=tak_b h.ly ht
  have:=ab_ge x.Profit
  refine ⟨⟨h.mt,t3,fun k=>by have:=h.one k;show l.length≤1;omega,h0,h1,h2,by show pe.a0+pe.a1+pe.a2≤tQ l;omega,ho⟩,by show tQ l≤_;omega,t5,by show tS l≤_;omega,t1,t2⟩
theorem rGo {m q:Int} {p:GPool} {pe:A3_Int} {n:Nat} (hn:66<n) (h:PR m p) (hq:1≤q∧q≤tQ p.Layers) (h0:0≤pe.a0) (h1:0≤pe.a1) (h2:0≤pe.a2) (hs:pe.a0+pe.a1+pe.a2+q≤tQ p.Layers) (ho:m≠3→pe.a0=0∧pe.a1=0∧pe.a2=0) :
    Ex (fun r=>Went m p ⟨r.1,pe⟩ r.2.1) (d_ref10_Out n p.Layers q):=by
  have hl:=LR_b h.ly
  refine x_weak (rOut10 hn h.ly (by omega)) fun r hr=>?_
  rcases hr with ⟨e1,e2,e3,e4⟩ | ⟨e1,e2,e3,e4⟩
  · exact went_tak h e4 h0 h1 h2 (by omega) (by omega) ho
  · have:=e4 hq.1;omega
theorem rSettle {m:Int} {p:GPool} {n:Nat} (hn:66<n) (h:PR m p) :
    Ex (fun r=>PR m r.1∧tQ r.1.Layers≤tQ p.Layers∧tV r.1.Layers+(r.2.a0.Value+r.2.a1.Value+r.2.a2.Value)=tV p.Layers∧tS r.1.Layers≤tS p.Layers∧(0≤r.2.a0.Value∧r.2.a0.Value≤288230376151711744)∧(0≤r.2.a1.Value∧r.2.a1.Value≤288230376151711744)∧(0≤r.2.a2.Value∧r.2.a2.Value≤288230376151711744)∧(-288230376151711744≤r.2.a0.Profit∧r.2.a0.Profit≤288230376151711744)) (d_ref11_Settle n p):=by
  have hl:=LR_b h.ly
  have h0:=h.p0;have h1:=h.p1;have h2:=h.p2;have h3:=h.sum;have h4:=h.oth
  unfold d_ref11_Settle t_ref11_Settle
  simp only [WT.run,run_pw]
  refine x_bbi (x_bi (fun (v:GPool×Int×Int×Int)=>Went m p v.1 ⟨v.2.1,v.2.2.1,v.2.2.2⟩∧v.1.Pend=⟨0,p.Pend.a1,p.Pend.a2⟩) ?_ fun v hv=>?_)
  · refine x_bnd (x_cd (fun k=>x_bi _ (rGo (pe:=⟨0,p.Pend.a1,p.Pend.a2⟩) hn h (by omega) (by simp) h1 h2 (by simp only;omega) fun k=>by have:=h4 k;exact ⟨rfl,this.2⟩) fun r hr=>x_end ⟨hr,rfl⟩) fun k=>x_end ⟨?_,?_⟩)
    · exact ⟨h,by simp only;omega,by simp only;omega,by simp only;omega,by simp,by simp⟩
    · have:p.Pend.a0=0:=by omega
      cases hp:p.Pend with | mk a b c=>rw [hp] at this;simp only at this;subst this;rfl
  obtain ⟨p1,q1,v1,r1⟩:=v
  obtain ⟨⟨w1,w2,w3,w4,w5,w6⟩,w7⟩:=hv
  simp only at w1 w2 w3 w4 w5 w6 w7
  have i1:=w1.p1;have i2:=w1.p2;have i3:=w1.sum;have i4:=w1.oth
  rw [w7] at i1 i2 i3 i4
  simp only at i1 i2 i3 i4
  refine x_bp (x_bp (x_bp (x_bbi (x_bi (fun (v:GPool×Int×Int×Int)=>Went m p1 v.1 ⟨v.2.1,v.2.2.1,v.2.2.2⟩∧v.1.Pend=⟨0,0,p.Pend.a2⟩) ?_ fun v hv=>?_))))
  · rw [w7]
    refine x_bnd (x_cd (fun (k:p.Pend.a1>0)=>x_bi _ (rGo (p:=p1) (q:=p.Pend.a1) (pe:=⟨0,0,p.Pend.a2⟩) hn w1 (by omega) (by simp) (by simp) i2 (by simp only;omega) fun k=>by have:=i4 k;exact ⟨rfl,rfl,this.2.2⟩) fun r hr=>x_end ⟨hr,rfl⟩) fun k=>x_end ⟨?_,?_⟩)
    · exact ⟨w1,by simp only;omega,by simp only;omega,by simp only;omega,by simp,by simp⟩
    · have:p.Pend.a1=0:=by have k:¬ p.Pend.a1>0:=k;omega
      show p1.Pend=_
      rw [w7,this]
  obtain ⟨p2',q2,v2,r2⟩:=v
  obtain ⟨⟨y1,y2,y3,y4,y5,y6⟩,y7⟩:=hv
  simp only at y1 y2 y3 y4 y5 y6 y7
  have j2:=y1.p2;have j3:=y1.sum;have j4:=y1.oth
  rw [y7] at j2 j3 j4
  simp only at j2 j3 j4
  refine x_bp (x_bp (x_bp (x_bbi (x_bi (fun (v:GPool×Int×Int×Int)=>Went m p2' v.1 ⟨v.2.1,v.2.2.1,v.2.2.2⟩) ?_ fun v hv=>?_))))
  · rw [y7]
    refine x_bnd (x_cd (fun (k:p.Pend.a2>0)=>x_bi _ (rGo (p:=p2') (q:=p.Pend.a2) (pe:=⟨0,0,0⟩) hn y1 (by omega) (by simp) (by simp) (by simp) (by simp only;omega) fun k=>⟨rfl,rfl,rfl⟩) fun r hr=>x_end hr) fun k=>x_end ?_)
    exact ⟨y1,by simp only;omega,by simp only;omega,by simp only;omega,by simp,by simp⟩
  obtain ⟨p3',q3,v3,r3⟩:=v
  obtain ⟨z1,z2,z3,z4,z5,z6⟩:=hv
  simp only at z1 z2 z3 z4 z5 z6
  repeat' with_reducible first | refine x_v ?_ | refine x_bv ?_ | apply x_bnd | apply x_p2 | apply x_bb | apply x_bp | apply x_bs | apply x_be | apply x_bk | apply x_bbi | apply x_bc | apply x_ba | refine x_cd (fun _=>?_) fun _=>?_ | refine x_cn (fun _=>?_) fun _=>?_ | apply x_cT | apply x_cF | apply x_sl | apply x_esc | apply x_end
  simp only
  exact ⟨z1,by omega,by omega,by omega,w5,y5,z5,w6⟩
theorem rCosted {t:GState} {e i c:Int} {l:GLayer} {n:Nat} (hn:66<n) (he:0≤e∧e<(t.Ents.length:Int)) (hS:∀ r∈t.Sales,SOk t.Master r) (hl:t.Sales.length≤40) (hv:0≤l.Value∧l.Value≤288230376151711744) (hp:-288230376151711744≤l.Profit∧l.Profit≤288230376151711744) :
    Ex (fun r=>r.2=0→∃ S,r.1={ t with Sales:=S }∧S.length≤40∧∀ r∈S,SOk t.Master r) (d_ref23_costed n t e i c l):=by
  unfold d_ref23_costed t_ref23_costed
  simp only [WT.run,run_pw]
  refine x_bi (fun (v:Bool×List Int×List Int)=>v.2.1.length=v.2.2.length∧v.2.2.length≤40∧∀ a∈v.2.1,0≤a∧a<(t.Sales.length:Int))
    (x_iter (fun (v:Bool×Int×List Int×List Int)=>0≤v.2.1∧v.2.1≤(t.Sales.length:Int)∧v.2.2.1.length=v.2.2.2.length∧(v.2.2.2.length:Int)≤v.2.1∧∀ a∈v.2.2.1,0≤a∧a<(t.Sales.length:Int)) (fun (v:Bool×Int×List Int×List Int)=>t.Sales.length-v.2.1.toNat) ?_ (v:=(false,0,[],[])) ⟨by simp,by simp,rfl,by simp,fun a ha=>nomatch ha⟩ (by simp;omega)) fun v hv'=>?_
  · rintro ⟨b,j,at',w⟩ ⟨a1,a2,a3,a4,a5⟩
    simp only at a1 a2 a3 a4 a5
    refine x_p2 (x_p2 (x_p2 (x_bnd (x_cd (fun k=>?_) fun k=>x_esc (x_end ⟨a3,by first | omega | (simp only;omega),a5⟩)))))
    have k:j<(t.Sales.length:Int):=k
    refine x_bi (fun (v:Bool×List Int×List Int)=>v.2.1.length=v.2.2.length∧(v.2.2.length:Int)≤j+1∧∀ a∈v.2.1,0≤a∧a<(t.Sales.length:Int)) ?_ fun v hv'=>x_p2 (x_p2 (x_v (x_brk ⟨⟨by first | omega | (simp only;omega),by first | omega | (simp only;omega),hv'.1,hv'.2.1,hv'.2.2⟩,by first | omega | (simp only;omega)⟩)))
    refine x_ix a1 k fun z hz=>?_
    obtain ⟨z1,z2,z3,z4,z5,z6,z7,z8⟩:=hS z (mem_at hz)
    refine x_bi (fun _=>True) ?_ fun wb _=>x_cond (fun _=>?_) fun _=>x_end ⟨a3,by first | omega | (simp only;omega),a5⟩
    · unfold d_ref23_waits t_ref23_waits
      simp only [WT.run,run_pw]
      repeat' with_reducible first | refine x_v ?_ | refine x_bv ?_ | apply x_bnd | apply x_p2 | apply x_bb | apply x_bp | apply x_bs | apply x_be | apply x_bk | apply x_bbi | apply x_bc | apply x_ba | refine x_cd (fun _=>?_) fun _=>?_ | refine x_cn (fun _=>?_) fun _=>?_ | apply x_cT | apply x_cF | apply x_sl | apply x_esc | apply x_end | refine x_cond (fun _=>?_) fun _=>?_
      all_goals try trivial
      refine x_ix he.1 he.2 fun _ _=>?_
      repeat' with_reducible first | refine x_v ?_ | refine x_bv ?_ | apply x_bnd | apply x_p2 | apply x_bb | apply x_bp | apply x_bs | apply x_be | apply x_bk | apply x_bbi | apply x_bc | apply x_ba | refine x_cd (fun _=>?_) fun _=>?_ | refine x_cn (fun _=>?_) fun _=>?_ | apply x_cT | apply x_cF | apply x_sl | apply x_esc | apply x_end
      trivial
    · refine x_bi (fun (v:Bool×List Int×List Int)=>v.2.1.length=v.2.2.length∧(v.2.2.length:Int)≤j+1∧∀ a∈v.2.1,0≤a∧a<(t.Sales.length:Int)) ?_ fun v hv'=>x_p2 (x_p2 (x_end hv'))
      refine x_v (x_bnd (x_a (x_bnd (x_a ?_))))
      refine x_cond (fun _=>x_end ⟨by simp;omega,by simp;omega,app_ok a5 ⟨a1,k⟩⟩) fun _=>x_bnd (x_end ⟨by simp;omega,by simp;omega,app_ok a5 ⟨a1,k⟩⟩)
  · obtain ⟨b,at',w⟩:=v
    obtain ⟨b1,b2,b3⟩:=hv'
    simp only at b1 b2 b3
    refine x_p2 (x_p2 (x_bnd (x_cn (fun _=>x_end fun _=>⟨t.Sales,rfl,hl,hS⟩) fun _=>?_)))
    refine x_bi _ (rSigned (w:=w) hn (by omega) (by omega)) fun cs hcs=>x_bi _ (rSigned (w:=w) hn (by omega) hp) fun ps hps=>?_
    refine x_bi (fun (b:Bool)=>b=false→cs.2=0∧ps.2=0) ?_ fun b hb=>x_cond (fun _=>x_bnd (x_end fun _=>⟨t.Sales,rfl,hl,hS⟩)) fun kb=>?_
    · refine x_bnd (x_cd (fun _=>x_end (fun k=>nomatch k)) fun _=>x_bnd (x_end fun k=>by have:=of_decide_eq_false k;omega))
    obtain ⟨c0,p0⟩:=hb kb
    obtain ⟨c1,c2,c3⟩:=hcs c0
    obtain ⟨d1,d2,d3⟩:=hps p0
    have c2:=c2 hv.1
    refine x_a (x_bi (fun (S:List GSale)=>S.length=t.Sales.length∧∀ r∈S,SOk t.Master r) (x_iter (fun (v:Int×List GSale)=>0≤v.1∧v.1≤(at'.length:Int)∧v.2.length=t.Sales.length∧∀ r∈v.2,SOk t.Master r) (fun (v:Int×List GSale)=>at'.length-v.1.toNat) ?_ (v:=(0,t.Sales)) ⟨by simp,by simp,rfl,hS⟩ (by simp;omega)) fun S hS2=>x_end fun _=>⟨S,rfl,by omega,hS2.2⟩)
    rintro ⟨j,S⟩ ⟨a1,a2,a3,a4⟩
    simp only at a1 a2 a3 a4
    refine x_p2 (x_bnd (x_cd (fun k=>?_) fun k=>x_esc (x_end ⟨a3,a4⟩)))
    have k:j<(at'.length:Int):=k
    refine x_ix a1 k fun a ha=>?_
    obtain ⟨g1,g2⟩:=b3 a (mem_at ha)
    refine x_ix a1 (by first | omega | (simp only;omega)) fun cv hcv=>x_ix a1 (by first | omega | (simp only;omega)) fun pv hpv=>x_ix g1 (by first | omega | (simp only;omega)) fun z hz=>?_
    obtain ⟨z1,z2,z3,z4,z5,z6,z7,z8⟩:=a4 z (mem_at hz)
    refine x_bnd (x_bnd (x_v (x_brk ⟨⟨by first | omega | (simp only;omega),by first | omega | (simp only;omega),by simp;exact a3,set_ok (set_ok a4 ⟨z1,z2,z3,z4,z5,c2 _ (mem_at hcv),z7,z8⟩) ⟨z1,z2,z3,z4,z5,c2 _ (mem_at hcv),d3 _ (mem_at hpv),z8⟩⟩,by first | omega | (simp only;omega)⟩)))
end Go.Pv
