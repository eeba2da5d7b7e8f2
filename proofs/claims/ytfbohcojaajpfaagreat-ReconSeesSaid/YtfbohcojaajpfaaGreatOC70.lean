import Derived.Test.YtfbohcojaajpfaaGreatOA70
set_option linter.unusedVariables false
set_option linter.unusedSimpArgs false
namespace Go.Pv
open Go.Proofs
set_option maxRecDepth 100000
set_option maxHeartbeats 1000000
theorem part_nn2 {v w q:Int} (hv:0≤v∧v≤288230376151711744):0≤pt v w q∧pt v w q≤v:=by
  by_cases h:q<1∨w<0∨w>q∨¬ InM v
  · unfold pt;rw [if_pos h];omega
  · unfold pt;rw [if_neg h,if_neg (by omega)];exact part_le (by omega) (by omega) (by omega)
theorem part_in {v w q:Int} (hv:InM v):InM (pt v w q)∧InM (v-pt v w q):=by
  by_cases h:q<1∨w<0∨w>q∨¬ InM v
  · unfold pt;rw [if_pos h];unfold InM at *;omega
  · unfold pt;rw [if_neg h]
    by_cases h2:v<0
    · rw [if_pos h2]
      obtain ⟨g1,g2⟩:=part_le (v:=-v) (q:=w) (n:=q) (by omega) (by omega) (by omega)
      unfold InM at *;omega
    · rw [if_neg h2]
      obtain ⟨g1,g2⟩:=part_le (v:=v) (q:=w) (n:=q) (by omega) (by omega) (by omega)
      unfold InM at *;omega
theorem set_ok {α:Type} {P:α→Prop} {l:List α} {i:Nat} {x:α} (h:∀ r∈l,P r) (hx:P x):∀ r∈l.set i x,P r:=by
  intro r hr;rcases mem_set hr with rfl | hr
  · exact hx
  · exact h r hr
theorem r16sell {K:Int} {s:GState} {o:GOp} {n:Nat} (hn:66<n) (h:Inv K s) (hq:-9223372036854775808≤o.Qty∧o.Qty≤288230376151711744) (ha:0≤o.Amount∧o.Amount≤288230376151711744):Ex (Kept K s) (d_ref16_sell n s o):=by
  unfold d_ref16_sell t_ref16_sell
  simp only [WT.run,run_pw]
  refine x_bi _ (rReady h o.E o.Item) fun r hr=>?_
  repeat' with_reducible first | refine x_v ?_ | refine x_bv ?_ | apply x_bnd | apply x_p2 | apply x_bb | apply x_bp | apply x_bs | apply x_be | apply x_bk | apply x_bbi | apply x_bc | apply x_ba | refine x_cd (fun _=>?_) fun _=>?_ | refine x_cn (fun _=>?_) fun _=>?_ | apply x_cT | apply x_cF | apply x_sl | apply x_esc | apply x_end
  · rename_i k;exact .inr ⟨k,rfl⟩
  · exact .inr ⟨by simp,rfl⟩
  rename_i k1 k2
  obtain ⟨ht,x,mts,hx,hm,ho⟩:=hr (by omega)
  have o0:=On.start hx hm ho
  refine x_bi _ (rFetch hn h.ss (by omega)) fun b hb=>?_
  refine x_bnd (x_cd (fun k=>x_end (.inr ⟨k,rfl⟩)) fun kz=>?_)
  rcases hb with ⟨_,hb⟩ | ⟨k,_⟩
  rotate_left
  · exact absurd k kz
  obtain ⟨f1,f2,f3,f4,f5,f6⟩:=hb.facts
  obtain ⟨x1,o1,p1,p2,p3⟩:=o0.fetched hb
  repeat' with_reducible first | refine x_v ?_ | refine x_bv ?_ | apply x_bnd | apply x_p2 | apply x_bb | apply x_bp | apply x_bs | apply x_be | apply x_bk | apply x_bbi | apply x_bc | apply x_ba | refine x_cd (fun _=>?_) fun _=>?_ | refine x_cn (fun _=>?_) fun _=>?_ | apply x_cT | apply x_cF | apply x_sl | apply x_esc | apply x_end
  refine x_bi _ (rPost hn (o1.ss h.ss) (by simp)) fun c hc=>?_
  refine x_bnd (x_cd (fun k=>x_end (.inr ⟨k,rfl⟩)) fun kz=>?_)
  rcases hc with ⟨_,hc⟩ | ⟨k,_⟩
  rotate_left
  · exact absurd k kz
  obtain ⟨x2,o2,q1,q2,q3⟩:=o1.posted hc (by simp [lsum_cons,lsum_nil])
  refine x_bi _ (rTurn hn (o2.ss h.ss)) fun d hd=>?_
  refine x_bnd (x_cd (fun k=>x_end (.inr ⟨k,rfl⟩)) fun kz=>?_)
  rcases hd with ⟨_,hd⟩ | ⟨k,_⟩
  rotate_left
  · exact absurd k kz
  obtain ⟨x3,o3,r1,r2⟩:=o2.turned hd
  obtain ⟨g1,g2,g3,g4,g5⟩:=o3.rc
  have hl1:=h.l2;have hlen:=h.len;have hth:=f1.1;have hth2:=f1.2
  have hnow:=ho.es.now;have hper:=h.mas.per
  have hB:∀ a:Nat,a<17→bl x3 a=bl x a+lsum [⟨3,o.Amount⟩,⟨4,0-o.Amount⟩,⟨5,b.2.1.Value⟩,⟨0,0-b.2.1.Value⟩] a:=fun a ha=>by rw [bl_eq r1,q1 a ha,bl_eq p1]
  have b1:=hB 1 (by decide);have b12:=hB 12 (by decide);have b13:=hB 13 (by decide);have b14:=hB 14 (by decide)
  simp [lsum_cons,lsum_nil] at b1 b12 b13 b14
  have lg:d.1.Sales.length=s.Sales.length:=by rw [g2]
  refine x_at hth.1 hx ?_
  repeat' with_reducible first | refine x_v ?_ | refine x_bv ?_ | apply x_bnd | apply x_p2 | apply x_bb | apply x_bp | apply x_bs | apply x_be | apply x_bk | apply x_bbi | apply x_bc | apply x_ba | refine x_cd (fun _=>?_) fun _=>?_ | refine x_cn (fun _=>?_) fun _=>?_ | apply x_cT | apply x_cF | apply x_sl | apply x_esc | apply x_end | refine x_a ?_
  refine .inl ⟨rfl,?_⟩
  refine o3.inv h hx (by simp [lsum_cons,lsum_nil];try omega) (bump0 (by simp [rsum];try omega)) (by rw [g1];exact h.rct) ?_ (by rw [g3];exact h.tra) (by rw [g1];exact h.l1) (by rw [g2];simp;omega) (by rw [g3];exact h.l3) (by rw [g1];omega) (by intro f _;rw [g1]) (by rw [g3];omega) (by intro f _;rw [g3]) (by unfold grp;omega)
  rw [g2]
  refine app_ok h.sal ⟨by simp only;omega,hth2,f2,?_,?_,f4,f5,?_⟩
  all_goals (simp only at *;omega)
theorem rWith16 {s:GState} {i:Int} {y z:GSale} (h0:0≤i) (hz:s.Sales[i.toNat]?=some z) (hl:s.Sales.length≤40):d_ref16_with s i y=some { s with Sales:=s.Sales.set i.toNat y }:=by
  refine ex_eq ?_
  unfold d_ref16_with t_ref16_with
  simp only [WT.run,run_pw]
  exact x_a (x_at h0 hz (x_bnd (x_end rfl)))
theorem On.pooled {s:GState} {e i c m k:Int} {mts:List Int} {t:GState} {x:GEnt} {d:Int} {f:Nat→Int} {p q p':GPool} (h:On s e.toNat mts t x d f) (hs:Spot t e i c x m k p q) (hio:IO m p' q) {v:Int} (hv:tV p'.Layers-tV p.Layers=v) :
    ∃ x',On s e.toNat mts (putP t e i c x p') x' (d+v) (bump f i.toNat v)∧x'.Bal=x.Bal∧x'.Now=x.Now∧x'.Rolls=x.Rolls:=by
  have hlc:=hs.lc;have hth:=hs.th.2
  have hM:t.Master=s.Master:=by rw [h.eq];rfl
  rw [hM] at hth
  have g:=h.es.put (by omega) (by omega) (hs.es mts (by rw [hM];exact h.ms)).1 hs.qq hio
  exact ⟨{ x with Pools:=x.Pools.set (2*i.toNat+c.toNat) p' },h.set g (h.eb.put (p:=p) (p':=p') (by omega) hs.pp hv) rfl rfl,rfl,rfl,rfl⟩
theorem rBack {m q:Int} {p:GPool} (h:PR m p) (hq:-9223372036854775808≤q∧q≤9223372036854775807) :
    Ex (fun r=>(r.2=0∧PR m r.1∧r.1.Layers=p.Layers∧1≤q)∨(r.2≠0∧r.1=p)) (d_ref11_Back p 0 q):=by
  have hl:=LR_b h.ly
  have h0:=h.p0;have h1:=h.p1;have h2:=h.p2;have h3:=h.sum
  unfold d_ref11_Back
  repeat' with_reducible first | refine x_v ?_ | refine x_bv ?_ | apply x_bnd | apply x_p2 | apply x_bb | apply x_bp | apply x_bs | apply x_be | apply x_bk | apply x_bbi | apply x_bc | apply x_ba | refine x_cd (fun _=>?_) fun _=>?_ | refine x_cn (fun _=>?_) fun _=>?_ | apply x_cT | apply x_cF | apply x_sl | apply x_esc | apply x_end | refine x_a ?_
  all_goals try exact .inr ⟨(fun k=>nomatch k),rfl⟩
  all_goals try (exfalso;omega)
  all_goals (refine .inl ⟨rfl,⟨h.mt,h.ly,h.one,by first | omega | (simp only;omega),by first | omega | (simp only;omega),by first | omega | (simp only;omega),by first | omega | (simp only;omega),fun k=>?_⟩,rfl,by omega⟩;have:=h.oth k;simp only;omega)
theorem On.fin {K:Int} {s:GState} (hI:Inv K s) {e:Int} {mts:List Int} {t:GState} {x y:GEnt} {d:Int} {f:Nat→Int} (h:On s e.toNat mts t y d f) (hx:s.Ents[e.toNat]?=some x) (hd:d=0) (hf:∀ i,f i=0) {S:List GSale}
    (hS:∀ r∈S,SOk s.Master r) (l2:S.length≤40) (b1:bl y 1=bl x 1) (b12:bl y 12=bl x 12) (b13:bl y 13=bl x 13) (b14:bl y 14=bl x 14):Inv K { t with Sales:=S }:=by
  obtain ⟨g1,g2,g3,g4,g5⟩:=h.rc
  exact h.inv hI hx hd hf (by rw [g1];exact hI.rct) hS (by rw [g3];exact hI.tra) (by rw [g1];exact hI.l1) l2 (by rw [g3];exact hI.l3) (by rw [g1];omega) (by intro f _;rw [g1]) (by rw [g3];omega) (by intro f _;rw [g3]) (by unfold grp;omega)
theorem r16take {K:Int} {s:GState} {o:GOp} {n:Nat} (hn:66<n) (h:Inv K s) (hq:0≤o.Qty∧o.Qty≤288230376151711744) (ha:0≤o.Amount∧o.Amount≤288230376151711744):Ex (Kept K s) (d_ref16_takeback n s o):=by
  unfold d_ref16_takeback t_ref16_takeback
  simp only [WT.run,run_pw]
  repeat' with_reducible first | refine x_v ?_ | refine x_bv ?_ | apply x_bnd | apply x_p2 | apply x_bb | apply x_bp | apply x_bs | apply x_be | apply x_bk | apply x_bbi | apply x_bc | apply x_ba | refine x_cd (fun _=>?_) fun _=>?_ | refine x_cn (fun _=>?_) fun _=>?_ | apply x_cT | apply x_cF | apply x_sl | apply x_esc | apply x_end
  all_goals try exact Or.inr ⟨by simp,rfl⟩
  rename_i k1 k2
  refine x_ix (by omega) (by omega) fun z hz=>?_
  have hz:s.Sales[o.Ref.toNat]?=some z:=hz
  obtain ⟨z1,z2,z3,z4,z5,z6,z7,z8⟩:=h.sal z (mem_at hz)
  refine x_bi _ (rReady h z.Entity z.Item) fun r hr=>?_
  refine x_bnd (x_cd (fun k=>x_end (.inr ⟨k,rfl⟩)) fun kz=>?_)
  obtain ⟨ht,x,mts,hx,hm,ho⟩:=hr (by omega)
  have o0:=On.start hx hm ho
  have hl1:=h.l2
  refine x_v (x_bnd (x_cd (fun _=>x_end (.inr ⟨by simp,rfl⟩)) fun k3=>x_v (x_v ?_)))
  refine x_bi (fun _=>True) (x_cond (fun _=>x_at ht.1.1 hx (x_bnd (x_end trivial))) fun _=>x_end trivial) fun w _=>x_cond (fun _=>?_) fun _=>?_
  · obtain ⟨x',m,k,p,p2,hs⟩:=h.ss.spot (c:=z.Loc) ht z3
    have hx':=hs.en;rw [hx] at hx';cases hx'
    refine x_eq (rAt h.ss.toS0 ht z3 hx hs.pp) (x_bi _ (rBack hs.io.pp (by omega)) fun b hb=>?_)
    refine x_bnd (x_cd (fun k=>x_end (.inr ⟨k,rfl⟩)) fun kz=>?_)
    rcases hb with ⟨_,hb⟩ | ⟨k,_⟩
    rotate_left
    · exact absurd k kz
    obtain ⟨b1,b2,b3⟩:=hb
    have hio:IO m b.1 p2:=⟨b1,hs.io.qq,by rw [b2];exact hs.io.sq,by rw [b2];exact hs.io.ss⟩
    obtain ⟨x1,o1,p1,_,_⟩:=o0.pooled hs hio (v:=0) (by rw [b2];omega)
    refine x_eq (rPut h.ss hs) (x_bi _ (rPost hn (o1.ss h.ss) (by simp)) fun c hc=>?_)
    refine x_bnd (x_cd (fun k=>x_end (.inr ⟨k,rfl⟩)) fun kz=>?_)
    rcases hc with ⟨_,hc⟩ | ⟨k,_⟩
    rotate_left
    · exact absurd k kz
    obtain ⟨x2,o2,q1,q2,q3⟩:=o1.posted hc (by simp [lsum_cons,lsum_nil])
    obtain ⟨g1,g2,g3,g4,g5⟩:=o2.rc
    have hB:∀ a:Nat,a<17→bl x2 a=bl x a+lsum [⟨4,o.Amount⟩,⟨3,0-o.Amount⟩] a:=fun a ha=>by rw [q1 a ha,bl_eq p1]
    have b1:=hB 1 (by decide);have b12:=hB 12 (by decide);have b13:=hB 13 (by decide);have b14:=hB 14 (by decide)
    simp [lsum_cons,lsum_nil] at b1 b12 b13 b14
    refine x_eq (rWith16 (by omega) (by rw [g2];exact hz) (by rw [g2];exact hl1)) (x_end (.inl ⟨rfl,?_⟩))
    refine o2.fin h hx (by simp [lsum_cons,lsum_nil]) (by intro j;simp [bump]) ?_ (by rw [g2,List.length_set];exact hl1) b1 b12 b13 b14
    rw [g2]
    exact set_ok h.sal ⟨z1,z2,z3,z4,by simp only;omega,z6,z7,z8⟩
  · have hpc:=part_nn2 (w:=o.Qty) (q:=z.Qty-z.Back) z6
    have hpp:=part_in (w:=o.Qty) (q:=z.Qty-z.Back) z7
    refine x_eq (rPart hn (by omega) (by omega)) (x_eq (rPart hn (by omega) (by omega)) ?_)
    refine x_bi _ (rBring (l:=⟨o.Qty,pt z.Cost o.Qty (z.Qty-z.Back),pt z.Profit o.Qty (z.Qty-z.Back)⟩) hn h.ss (by simp only;omega)) fun b hb=>?_
    refine x_bnd (x_cd (fun k=>x_end (.inr ⟨k,rfl⟩)) fun kz=>?_)
    rcases hb with ⟨_,hb⟩ | ⟨k,_⟩
    rotate_left
    · exact absurd k kz
    obtain ⟨f1,f2,f3,f4,f5,f6,f7⟩:=hb.facts
    obtain ⟨x1,o1,p1,p2,p3⟩:=o0.brought hb
    repeat' with_reducible first | refine x_v ?_ | refine x_bv ?_ | apply x_bnd | apply x_p2 | apply x_bb | apply x_bp | apply x_bs | apply x_be | apply x_bk | apply x_bbi | apply x_bc | apply x_ba | refine x_cd (fun _=>?_) fun _=>?_ | refine x_cn (fun _=>?_) fun _=>?_ | apply x_cT | apply x_cF | apply x_sl | apply x_esc | apply x_end | refine x_a ?_
    refine x_bi _ (rPost hn (o1.ss h.ss) (by simp)) fun c hc=>?_
    refine x_bnd (x_cd (fun k=>x_end (.inr ⟨k,rfl⟩)) fun kz=>?_)
    rcases hc with ⟨_,hc⟩ | ⟨k,_⟩
    rotate_left
    · exact absurd k kz
    obtain ⟨x2,o2,q1,q2,q3⟩:=o1.posted hc (by simp [lsum_cons,lsum_nil])
    refine x_bi _ (rTurn hn (o2.ss h.ss)) fun d hd=>?_
    refine x_bnd (x_cd (fun k=>x_end (.inr ⟨k,rfl⟩)) fun kz=>?_)
    rcases hd with ⟨_,hd⟩ | ⟨k,_⟩
    rotate_left
    · exact absurd k kz
    obtain ⟨x3,o3,r1,r2⟩:=o2.turned hd
    obtain ⟨g1,g2,g3,g4,g5⟩:=o3.rc
    have hB:∀ a:Nat,a<17→bl x3 a=bl x a+lsum [⟨4,o.Amount⟩,⟨3,0-o.Amount⟩,⟨0,b.2.1⟩,⟨6,b.2.2.1⟩,⟨5,0-pt z.Cost o.Qty (z.Qty-z.Back)⟩] a:=fun a ha=>by rw [bl_eq r1,q1 a ha,bl_eq p1];rfl
    have b1:=hB 1 (by decide);have b12:=hB 12 (by decide);have b13:=hB 13 (by decide);have b14:=hB 14 (by decide)
    simp [lsum_cons,lsum_nil] at b1 b12 b13 b14
    unfold InM at hpp z7
    repeat' with_reducible first | refine x_v ?_ | refine x_bv ?_ | apply x_bnd | apply x_p2 | apply x_bb | apply x_bp | apply x_bs | apply x_be | apply x_bk | apply x_bbi | apply x_bc | apply x_ba | refine x_cd (fun _=>?_) fun _=>?_ | refine x_cn (fun _=>?_) fun _=>?_ | apply x_cT | apply x_cF | apply x_sl | apply x_esc | apply x_end | refine x_a ?_
    refine x_eq (rWith16 (by omega) (by rw [g2];exact hz) (by rw [g2];exact hl1)) (x_end (.inl ⟨rfl,?_⟩))
    refine o3.fin h hx (by simp [lsum_cons,lsum_nil]) (bump0 (by simp [rsum];try omega)) ?_ (by rw [g2,List.length_set];exact hl1) b1 b12 b13 b14
    rw [g2]
    refine set_ok h.sal ⟨z1,z2,z3,z4,by simp only;omega,by simp only;omega,?_,z8⟩
    unfold InM;simp only;omega
theorem r16 {K:Int} {s:GState} {o:GOp} {n:Nat} (hn:66<n) (h:Inv K s) (hq:0≤o.Qty∧o.Qty≤288230376151711744) (ha:0≤o.Amount∧o.Amount≤288230376151711744):Ex (Kept K s) (d_ref16_Do n s o):=by
  unfold d_ref16_Do t_ref16_Do
  simp only [WT.run,run_pw]
  refine x_bnd (x_cd (fun _=>x_bi _ (r16sell hn h (by omega) ha) fun r hr=>x_end hr) fun _=>x_bnd (x_cd (fun _=>x_bi _ (r16take hn h hq ha) fun r hr=>x_end hr) fun _=>x_end (.inr ⟨by simp,rfl⟩)))
theorem Posted.ss {s t:GState} {e:Int} {l:List GLine} (hs:SS s) (h:Posted s e l t):SS t:=by
  obtain ⟨x,b,he,hx,hp,rfl⟩:=h
  exact hs.up hx fun mts hm=>(hs.es _ _ _ hx hm).setBal hp.1 hp.2.1
theorem rBooked {s t:GState} {n:Nat} (hn:66<n) (h:SS t) {e i:Int} {l:List GLine} {r:GRoll} (hl:l.length≤60):Ex (fun q=>(q.2=0∧∃ u,Posted t e l u∧Turned u e i r q.1)∨(q.2≠0∧q.1=s)) (d_ref17_booked n s t e i l r):=by
  unfold d_ref17_booked t_ref17_booked
  simp only [WT.run,run_pw]
  refine x_bi _ (rPost hn h hl) fun b hb=>?_
  refine x_bnd (x_cd (fun k=>x_end (.inr ⟨k,rfl⟩)) fun kz=>?_)
  rcases hb with ⟨_,hb⟩ | ⟨k,_⟩
  rotate_left
  · exact absurd k kz
  refine x_bi _ (rTurn hn (hb.ss h)) fun d hd=>?_
  refine x_bnd (x_cd (fun k=>x_end (.inr ⟨k,rfl⟩)) fun kz=>?_)
  rcases hd with ⟨_,hd⟩ | ⟨k,_⟩
  rotate_left
  · exact absurd k kz
  exact x_end (.inl ⟨rfl,_,hb,hd⟩)
theorem On.booked {K:Int} {s:GState} (hI:Inv K s) {e i:Int} {mts:List Int} {t u w:GState} {x x0:GEnt} {d:Int} {f:Nat→Int} {l:List GLine} {r:GRoll} (h:On s e.toNat mts t x d f) (hx0:s.Ents[e.toNat]?=some x0) (hb:x.Bal=x0.Bal) (hp:Posted t e l u) (ht:Turned u e i r w)
    (h0:d=lsum l 0) (hf:∀ j,bump f i.toNat (-rsum r) j=0) (h1:lsum l 1=0) (h11:lsum l 11=0) (h12:lsum l 12=0) (h13:lsum l 13=0) (h14:lsum l 14=0):Inv K w:=by
  obtain ⟨x2,o2,q1,q2,q3⟩:=h.posted hp h11
  obtain ⟨x3,o3,r1,r2⟩:=o2.turned ht
  obtain ⟨g1,g2,g3,g4,g5⟩:=o3.rc
  have hB:∀ a:Nat,a<17→bl x3 a=bl x0 a+lsum l a:=fun a ha=>by rw [bl_eq r1,q1 a ha,bl_eq hb]
  have b1:=hB 1 (by decide);have b12:=hB 12 (by decide);have b13:=hB 13 (by decide);have b14:=hB 14 (by decide)
  have c1:bl x3 1=bl x0 1+lsum l 1:=b1
  have c12:bl x3 12=bl x0 12+lsum l 12:=b12
  have c13:bl x3 13=bl x0 13+lsum l 13:=b13
  have c14:bl x3 14=bl x0 14+lsum l 14:=b14
  have:=o3.fin hI hx0 (by omega) hf (S:=w.Sales) (by rw [g2];exact hI.sal) (by rw [g2];exact hI.l2) (by omega) (by omega) (by omega) (by omega)
  exact this
theorem r17scrap {K:Int} {s:GState} {o:GOp} {n:Nat} {x:GEnt} {mts:List Int} (hn:66<n) (h:Inv K s) (hq:0≤o.Qty∧o.Qty≤288230376151711744) (ht:There s o.E o.Item) (hx:s.Ents[o.E.toNat]?=some x) (hm:s.Master.Methods[o.E.toNat]?=some mts) (ho:EO s.Master mts x):Ex (Kept K s) (d_ref17_scrap n s o):=by
  unfold d_ref17_scrap t_ref17_scrap
  simp only [WT.run,run_pw]
  have o0:=On.start hx hm ho
  refine x_bi _ (rFetch hn h.ss (by omega)) fun b hb=>?_
  refine x_bnd (x_cd (fun k=>x_end (.inr ⟨k,rfl⟩)) fun kz=>?_)
  rcases hb with ⟨_,hb⟩ | ⟨k,_⟩
  rotate_left
  · exact absurd k kz
  obtain ⟨f1,f2,f3,f4,f5,f6⟩:=hb.facts
  obtain ⟨x1,o1,p1,p2,p3⟩:=o0.fetched hb
  refine x_v (x_bi _ (rBooked hn (o1.ss h.ss) (by simp)) fun c hc=>x_end ?_)
  rcases hc with ⟨z,u,hp,hu⟩ | hc
  · exact .inl ⟨z,o1.booked h hx p1 hp hu (by simp [lsum_cons,lsum_nil]) (bump0 (by simp [rsum];try omega)) (by simp [lsum_cons,lsum_nil]) (by simp [lsum_cons,lsum_nil]) (by simp [lsum_cons,lsum_nil]) (by simp [lsum_cons,lsum_nil]) (by simp [lsum_cons,lsum_nil])⟩
  · exact .inr hc
theorem r17move {K:Int} {s:GState} {o:GOp} {n:Nat} {x:GEnt} {mts:List Int} (hn:66<n) (h:Inv K s) (hq:0≤o.Qty∧o.Qty≤288230376151711744) (ht:There s o.E o.Item) (hx:s.Ents[o.E.toNat]?=some x) (hm:s.Master.Methods[o.E.toNat]?=some mts) (ho:EO s.Master mts x):Ex (Kept K s) (d_ref17_move n s o):=by
  unfold d_ref17_move t_ref17_move
  simp only [WT.run,run_pw]
  have o0:=On.start hx hm ho
  refine x_bi _ (rFetch hn h.ss (by omega)) fun b hb=>?_
  refine x_bnd (x_cd (fun k=>x_end (.inr ⟨k,rfl⟩)) fun kz=>?_)
  rcases hb with ⟨_,hb⟩ | ⟨k,_⟩
  rotate_left
  · exact absurd k kz
  obtain ⟨f1,f2,f3,f4,f5,f6⟩:=hb.facts
  obtain ⟨x1,o1,p1,p2,p3⟩:=o0.fetched hb
  have hbq:b.2.1.Qty≤9223372036854775807:=by
    obtain ⟨y,m,o,p,p2,p',hs,e1,hio,hc,h1,h2,h3⟩:=hb
    obtain ⟨c1,c2,c3,c4,c5,c6,c7⟩:=hc
    have b1:=LR_b c1.ly;have b2:=LR_b hs.io.pp.ly
    omega
  refine x_bi _ (rBring hn (o1.ss h.ss) hbq) fun c hc=>?_
  refine x_bnd (x_cd (fun k=>x_end (.inr ⟨k,rfl⟩)) fun kz=>?_)
  rcases hc with ⟨_,hc⟩ | ⟨k,_⟩
  rotate_left
  · exact absurd k kz
  obtain ⟨g1,g2,g3,g4,g5,g6,g7⟩:=hc.facts
  obtain ⟨x2,o2,q1,q2,q3⟩:=o1.brought hc
  refine x_v (x_v (x_bi _ (rBooked hn (o2.ss h.ss) (by simp)) fun d hd=>x_end ?_))
  rcases hd with ⟨z,u,hp,hu⟩ | hd
  · refine .inl ⟨z,o2.booked h hx (q1.trans p1) hp hu (by simp [lsum_cons,lsum_nil];omega) ?_ (by simp [lsum_cons,lsum_nil]) (by simp [lsum_cons,lsum_nil]) (by simp [lsum_cons,lsum_nil]) (by simp [lsum_cons,lsum_nil]) (by simp [lsum_cons,lsum_nil])⟩
    intro j;simp only [bump,rsum];split <;> omega
  · exact .inr hd
theorem r17count {K:Int} {s:GState} {o:GOp} {n:Nat} {x:GEnt} {mts:List Int} (hn:66<n) (h:Inv K s) (hq:0≤o.Qty∧o.Qty≤288230376151711744) (hlc:0≤o.Loc∧o.Loc≤1) (ht:There s o.E o.Item) (hx:s.Ents[o.E.toNat]?=some x) (hm:s.Master.Methods[o.E.toNat]?=some mts) (ho:EO s.Master mts x):Ex (Kept K s) (d_ref17_count n s o):=by
  unfold d_ref17_count t_ref17_count
  simp only [WT.run,run_pw]
  have o0:=On.start hx hm ho
  obtain ⟨x',m,k,p,p2,hs⟩:=h.ss.spot ht hlc
  have hx':=hs.en;rw [hx] at hx';cases hx'
  obtain ⟨ms',m1,m2⟩:=hs.ms
  obtain ⟨cs,c1,c2⟩:=hs.cs
  have hl:=LR_b hs.io.pp.ly
  have e0:=hs.io.pp.p0;have e1:=hs.io.pp.p1;have e2:=hs.io.pp.p2;have e3:=hs.io.pp.sum;have hkk:=hs.kk
  refine x_at ht.1.1 m1 (x_at ht.2.1 m2 (x_eq (rAt h.ss.toS0 ht hlc hx hs.pp) (x_eq (rFree13 hn hs.io.pp) ?_)))
  refine x_v (x_bnd (x_cd (fun _=>x_end (.inl ⟨rfl,h⟩)) fun k0=>x_bnd (x_cd (fun k1=>x_v ?_) fun k1=>?_)))
  · refine x_bi _ (rFetch hn h.ss (by omega)) fun b hb=>?_
    refine x_bnd (x_cd (fun k=>x_end (.inr ⟨k,rfl⟩)) fun kz=>?_)
    rcases hb with ⟨_,hb⟩ | ⟨k,_⟩
    rotate_left
    · exact absurd k kz
    obtain ⟨f1,f2,f3,f4,f5,f6⟩:=hb.facts
    obtain ⟨x1,o1,p1,p2,p3⟩:=o0.fetched hb
    refine x_v (x_bi _ (rBooked hn (o1.ss h.ss) (by simp)) fun c hc=>x_end ?_)
    rcases hc with ⟨z,u,hp,hu⟩ | hc
    · exact .inl ⟨z,o1.booked h hx p1 hp hu (by simp [lsum_cons,lsum_nil]) (bump0 (by simp [rsum];try omega)) (by simp [lsum_cons,lsum_nil]) (by simp [lsum_cons,lsum_nil]) (by simp [lsum_cons,lsum_nil]) (by simp [lsum_cons,lsum_nil]) (by simp [lsum_cons,lsum_nil])⟩
    · exact .inr hc
  · refine x_eq (rTot13 hn hs.io.pp.ly) ?_
    refine x_bnd (x_bi (fun (r:Int×Int)=>0≤r.1∧r.1≤288230376151711744) ?_ fun v hv=>?_)
    · refine x_cond (fun _=>x_at ht.1.1 c1 (x_at ht.2.1 c2 (x_eq (rmul_all hn (by omega) (by omega) (by decide)) (x_end ?_)))) fun _=>x_bnd (x_cd (fun _=>x_eq (rmul_all hn (by simp only;omega) (by omega) (by simp only;omega)) (x_end ?_)) fun _=>x_end (by decide))
      · have:=md_fact (o.Qty-(tQ p.Layers-p.Pend.a0-p.Pend.a1-p.Pend.a2)) k 1;exact ⟨this.1,this.2.1⟩
      · have:=md_fact (tV p.Layers) (o.Qty-(tQ p.Layers-p.Pend.a0-p.Pend.a1-p.Pend.a2)) (tQ p.Layers);exact ⟨this.1,this.2.1⟩
    · refine x_p2 ?_
      refine x_bnd (x_cd (fun k=>x_end (.inr ⟨k,rfl⟩)) fun kz=>?_)
      refine x_bi _ (rBring (l:=⟨o.Qty-(tQ p.Layers-p.Pend.a0-p.Pend.a1-p.Pend.a2),v.1,0⟩) hn h.ss (by simp only;omega)) fun b hb=>?_
      refine x_bnd (x_cd (fun k=>x_end (.inr ⟨k,rfl⟩)) fun kz=>?_)
      rcases hb with ⟨_,hb⟩ | ⟨k,_⟩
      rotate_left
      · exact absurd k kz
      obtain ⟨f1,f2,f3,f4,f5,f6,f7⟩:=hb.facts
      obtain ⟨x1,o1,p1,p2,p3⟩:=o0.brought hb
      refine x_v (x_v (x_bi _ (rBooked hn (o1.ss h.ss) (by simp)) fun c hc=>x_end ?_))
      rcases hc with ⟨z,u,hp,hu⟩ | hc
      · exact .inl ⟨z,o1.booked h hx p1 hp hu (by simp [lsum_cons,lsum_nil]) (bump0 (by simp [rsum];try omega)) (by simp [lsum_cons,lsum_nil]) (by simp [lsum_cons,lsum_nil]) (by simp [lsum_cons,lsum_nil]) (by simp [lsum_cons,lsum_nil]) (by simp [lsum_cons,lsum_nil])⟩
      · exact .inr hc
theorem rRevalue12 {l:List GLayer} {c:Int} {n:Nat} (hn:66<n) (hl:LR l) (h1:l.length≤1):Ex (fun r=>r.2.2=0→LR r.1∧r.1.length≤1∧tQ r.1=tQ l∧tV r.1=tV l+r.2.1∧tS r.1≤tS l∧(-288230376151711744≤r.2.1∧r.2.1≤288230376151711744)) (d_ref12_Revalue n l c):=by
  have hb:=LR_b hl
  unfold d_ref12_Revalue t_ref12_Revalue
  simp only [WT.run,run_pw]
  repeat' with_reducible first | refine x_v ?_ | refine x_bv ?_ | apply x_bnd | apply x_p2 | apply x_bb | apply x_bp | apply x_bs | apply x_be | apply x_bk | apply x_bbi | apply x_bc | apply x_ba | refine x_cd (fun _=>?_) fun _=>?_ | refine x_cn (fun _=>?_) fun _=>?_ | apply x_cT | apply x_cF | apply x_sl | apply x_esc | apply x_end
  · intro k;exact absurd k (by simp)
  · intro k;exact absurd k (by simp)
  · intro _;exact ⟨hl,h1,rfl,by simp,Int.le_refl _,by simp⟩
  rename_i k1 k2 k3
  refine x_eq (rTot9 hn hl) (x_eq (rWorth12 hn (by simp only;omega) (by omega)) ?_)
  have hm:=md_fact (tQ l) c 1
  repeat' with_reducible first | refine x_v ?_ | refine x_bv ?_ | apply x_bnd | apply x_p2 | apply x_bb | apply x_bp | apply x_bs | apply x_be | apply x_bk | apply x_bbi | apply x_bc | apply x_ba | refine x_cd (fun _=>?_) fun _=>?_ | refine x_cn (fun _=>?_) fun _=>?_ | apply x_cT | apply x_cF | apply x_sl | apply x_esc | apply x_end
  · intro k;exact absurd k (by simp)
  intro _
  have e:ab (tP l)≤tS l:=by unfold ab;split <;> omega
  simp only
  refine ⟨LR_mk (by omega) (by omega) (by unfold InM;omega),by simp,by simp [tQ],by simp [tV];omega,by simp [tS];omega,by omega⟩
theorem bump_bump (f:Nat→Int) (i:Nat) (a b:Int):bump (bump f i a) i b=bump f i (a+b):=by
  funext j;unfold bump;split <;> omega
def costM (m:GMaster) (e:Nat) (c:List Int):GMaster:={ m with Costs:=m.Costs.set e c }
def costS (s:GState) (e:Nat) (c:List Int):GState:={ s with Master:=costM s.Master e c }
theorem MOk.cost {m:GMaster} (h:MOk m) {e:Nat} {c:List Int} (hc:c.length=m.Weights.length∧∀ x∈c,0≤x∧x≤1073741824):MOk (costM m e c) :=
  ⟨h.ents,h.per,h.n1,h.wei,h.lm,by show ((m.Costs.set e c).length:Int)=_;rw [List.length_set];exact h.lc,h.met,fun l hl=>by rcases mem_set hl with rfl | hl;exact hc;exact h.cos l hl⟩
theorem Inv.cost {K:Int} {s:GState} (h:Inv K s) {e:Nat} {c:List Int} (hc:c.length=s.Master.Weights.length∧∀ x∈c,0≤x∧x≤1073741824):Inv K (costS s e c) :=
  ⟨h.mas.cost hc,h.len,h.don,h.rct,h.sal,h.tra,h.l1,h.l2,h.l3,fun f x mts hx hm=>by
    rcases h.ent f x mts hx hm with g | ⟨y,g⟩
    · exact .inl ⟨g.es,g.ee,g.opn,g.ahd⟩
    · exact .inr ⟨y,g.es,g.ee,g.cls,g.ahd,⟨g.eo.es,g.eo.ee,g.eo.opn,g.eo.ahd⟩,g.now,g.b1,g.b12,g.b13,g.b14⟩,h.acc,h.way,h.mtl⟩
theorem On.cost {s:GState} {e g:Nat} {c:List Int} {mts:List Int} {t:GState} {x:GEnt} {d:Int} {f:Nat→Int} (h:On s e mts t x d f):On (costS s g c) e mts ⟨costM s.Master g c,t.Ents,t.Receipts,t.Sales,t.Transits,t.Done⟩ x d f :=
  ⟨h.en,h.ms,by rw [h.eq];rfl,h.es,h.eb,h.opn,h.ahd⟩
theorem r17revalue {K:Int} {s:GState} {o:GOp} {n:Nat} {x:GEnt} {mts:List Int} (hn:66<n) (h:Inv K s) (ha:0≤o.Amount∧o.Amount≤1073741824) (ht:There s o.E o.Item) (hx:s.Ents[o.E.toNat]?=some x) (hm:s.Master.Methods[o.E.toNat]?=some mts) (ho:EO s.Master mts x):Ex (Kept K s) (d_ref17_revalue n s o):=by
  unfold d_ref17_revalue t_ref17_revalue
  simp only [WT.run,run_pw]
  have o0:=On.start hx hm ho
  have hf:=h.ss.toS0.few
  have hms:=(h.ss.mts hx)
  obtain ⟨mts',hm',hml,_,_⟩:=hms
  rw [hm] at hm';cases hm'
  obtain ⟨cs,hc,hcl,hcb⟩:=h.cst (e:=o.E.toNat) (by have:=ht.1;omega)
  have ht1:=ht.1;have ht2:=ht.2
  have hlc:=h.mas.lc;have hme:=h.mas.ents
  refine x_at ht.1.1 hm (x_ix ht.2.1 (by omega) fun m hmm=>?_)
  have hmm:mts[o.Item.toNat]?=some m:=hmm
  refine x_bnd (x_cd (fun _=>x_end (.inr ⟨by simp,rfl⟩)) fun k4=>?_)
  have k4:m=4:=by omega
  refine x_bi (fun (r:(Int×GState)⊕(GState×Int))=>match r with | .inl r=>∃ x',On s o.E.toNat mts r.2 x' r.1 (bump (fun _=>0) o.Item.toNat r.1)∧x'.Bal=x.Bal∧(-576460752303423488≤r.1∧r.1≤576460752303423488) | .inr r=>r.2≠0∧r.1=s)
    (x_iter (fun (v:Int×Int×GState)=>0≤v.2.1∧v.2.1≤2∧∃ x',On s o.E.toNat mts v.2.2 x' v.1 (bump (fun _=>0) o.Item.toNat v.1)∧x'.Bal=x.Bal∧(-288230376151711744*v.2.1≤v.1∧v.1≤288230376151711744*v.2.1)) (fun (v:Int×Int×GState)=>2-v.2.1.toNat) ?_ (v:=(0,0,s)) ?_ (by simp;omega)) fun r hr=>x_sel (fun a e=>?_) fun b e=>?_
  · rintro ⟨more,k,t⟩ ⟨h0,h1,x1,o1,p1,p2⟩
    simp only at h0 h1 o1 p2
    obtain ⟨g1,g2,g3,g4,g5⟩:=o1.rc
    refine x_p2 (x_p2 (x_bnd (x_cd (fun kk=>?_) fun kk=>x_esc (x_brk ⟨x1,o1,p1,by simp only;omega⟩))))
    have kk:k<2:=kk
    have htt:There t o.E o.Item:=⟨⟨ht1.1,by rw [g5];exact ht1.2⟩,by rw [g4];exact ht2⟩
    obtain ⟨x',m',c',p,q,hs⟩:=(o1.ss h.ss).spot (c:=k) htt (by omega)
    have hx':=hs.en;rw [o1.at] at hx';cases hx'
    have hm4:=(hs.es mts (by rw [g4];exact hm)).1
    rw [hmm] at hm4;cases hm4
    refine x_eq (rAt (c:=k) (o1.ss h.ss).toS0 htt (by omega) o1.at hs.pp) (x_bi _ (rRevalue12 hn hs.io.pp.ly (hs.io.pp.one (by omega))) fun b hb=>?_)
    refine x_bnd (x_cd (fun k5=>x_esc (x_esc (x_end ⟨k5,rfl⟩))) fun k5=>?_)
    obtain ⟨b1,b2,b3,b4,b5,b6⟩:=hb (by omega)
    have hio:IO m ⟨b.1,p.Pend⟩ q:=⟨LR_to_PR hs.io.pp b1 (fun _=>b2) (by omega),hs.io.qq,by have:=hs.io.sq;simp only;omega,by have:=hs.io.ss;simp only;omega⟩
    obtain ⟨x2,o2,q1,_,_⟩:=o1.pooled hs hio (v:=b.2.1) (by simp only;omega)
    rw [bump_bump] at o2
    refine x_eq (rPut (o1.ss h.ss) hs) (x_w (by simp only;omega) (x_w (by simp only;omega) (x_brk ⟨⟨by simp only;omega,by simp only;omega,x2,o2,q1.trans p1,by simp only;omega⟩,by simp only;omega⟩)))
  · refine ⟨by simp,by simp,x,?_,rfl,by simp⟩
    have:bump (fun _=>0) o.Item.toNat 0=fun _=>0:=by funext j;unfold bump;simp
    simp only;rw [this];exact o0
  · subst e
    obtain ⟨x1,o1,p1,p2⟩:=hr
    obtain ⟨g1,g2,g3,g4,g5⟩:=o1.rc
    refine x_p2 (x_a (x_at ht1.1 hc (x_a (x_at ht1.1 hc (x_ix ht2.1 (by omega) fun _ _=>x_bnd (x_v ?_))))))
    have hcs:(cs.set o.Item.toNat o.Amount).length=s.Master.Weights.length∧∀ x∈cs.set o.Item.toNat o.Amount,0≤x∧x≤1073741824:=⟨by rw [List.length_set];exact hcl,set_ok hcb ha⟩
    have o2:=o1.cost (g:=o.E.toNat) (c:=cs.set o.Item.toNat o.Amount)
    have hI:=h.cost (e:=o.E.toNat) hcs
    have em:(⟨a.2.Master.Entities,a.2.Master.Periods,a.2.Master.Weights,a.2.Master.Methods,s.Master.Costs.set o.E.toNat (cs.set o.Item.toNat o.Amount)⟩:GMaster)=costM s.Master o.E.toNat (cs.set o.Item.toNat o.Amount):=by rw [g4];rfl
    rw [em]
    refine x_bi _ (rBooked hn (o2.ss hI.ss) (by simp)) fun c hc=>x_end ?_
    rcases hc with ⟨z,u,hp,hu⟩ | hc
    · exact .inl ⟨z,o2.booked hI hx p1 hp hu (by simp [lsum_cons,lsum_nil]) (bump0 (by simp [rsum];try omega)) (by simp [lsum_cons,lsum_nil]) (by simp [lsum_cons,lsum_nil]) (by simp [lsum_cons,lsum_nil]) (by simp [lsum_cons,lsum_nil]) (by simp [lsum_cons,lsum_nil])⟩
    · exact .inr hc
  · subst e;exact .inr hr
theorem r17 {K:Int} {s:GState} {o:GOp} {n:Nat} (hn:66<n) (h:Inv K s) (hq:0≤o.Qty∧o.Qty≤288230376151711744) (ha:0≤o.Amount∧(o.Kind=9→o.Amount≤1073741824)) (hlc:o.Kind=7→0≤o.Loc∧o.Loc≤1):Ex (Kept K s) (d_ref17_Do n s o):=by
  unfold d_ref17_Do t_ref17_Do
  simp only [WT.run,run_pw]
  repeat' with_reducible first | refine x_v ?_ | refine x_bv ?_ | apply x_bnd | apply x_p2 | apply x_bb | apply x_bp | apply x_bs | apply x_be | apply x_bk | apply x_bbi | apply x_bc | apply x_ba | refine x_cd (fun _=>?_) fun _=>?_ | refine x_cn (fun _=>?_) fun _=>?_ | apply x_cT | apply x_cF | apply x_sl | apply x_esc | apply x_end
  all_goals try exact Or.inr ⟨by simp,rfl⟩
  rename_i k1 k2
  refine x_bi _ (rReady h o.E o.Item) fun r hr=>?_
  refine x_bnd (x_cd (fun k=>x_end (.inr ⟨k,rfl⟩)) fun kz=>?_)
  obtain ⟨ht,x,mts,hx,hm,ho⟩:=hr (by omega)
  refine x_bnd (x_cd (fun k=>x_bi _ (r17scrap hn h hq ht hx hm ho) fun r hr=>x_end hr) fun k=>x_bnd (x_cd (fun k=>x_bi _ (r17count hn h hq (hlc k) ht hx hm ho) fun r hr=>x_end hr) fun k=>x_bnd (x_cd (fun k=>x_bi _ (r17move hn h hq ht hx hm ho) fun r hr=>x_end hr) fun k=>x_bi _ (r17revalue hn h ⟨ha.1,ha.2 (by omega)⟩ ht hx hm ho) fun r hr=>x_end hr)))
end Go.Pv
