import Derived.Test.YtfbohcojaajpfaaGreatOC70
set_option linter.unusedVariables false
set_option linter.unusedSimpArgs false
namespace Go.Pv
open Go.Proofs
set_option maxRecDepth 100000
set_option maxHeartbeats 1000000
theorem rDue {r:GReceipt} {q:Int} {n:Nat} {m:GMaster} (hn:66<n) (h:ROk m r) (hq:-9223372036854775808≤q∧q≤9223372036854775807):Ex (fun d=>0≤d∧d≤r.Accrued) (d_ref18_Due n r q):=by
  obtain ⟨h1,h2,h3,h4,h5,h6,h7,h8⟩:=h
  unfold d_ref18_Due t_ref18_Due
  simp only [WT.run,run_pw]
  refine x_bnd (x_cd (fun _=>x_end (by omega)) fun _=>x_eq (rPart hn hq (by omega)) (x_end (part_nn2 h7)))
theorem rWith18 {s:GState} {i:Int} {y z:GReceipt} (h0:0≤i) (hz:s.Receipts[i.toNat]?=some z) (hl:s.Receipts.length≤40):d_ref18_with s i y=some { s with Receipts:=s.Receipts.set i.toNat y }:=by
  refine ex_eq ?_
  unfold d_ref18_with t_ref18_with
  simp only [WT.run,run_pw]
  exact x_a (x_at h0 hz (x_bnd (x_end rfl)))
theorem On.finR {K:Int} {s:GState} (hI:Inv K s) {e:Int} {mts:List Int} {t:GState} {x y:GEnt} {d:Int} {f:Nat→Int} (h:On s e.toNat mts t y d f) (hx:s.Ents[e.toNat]?=some x) (hd:d=0) (hf:∀ i,f i=0) {k:Nat} {r r':GReceipt} (hr:s.Receipts[k]?=some r) (hr':ROk s.Master r') (he:r.Entity=e) (he':r'.Entity=e) (h0:0≤e)
    (b1:bl y 1-bl x 1=r.Accrued-r'.Accrued) (b12:bl y 12=bl x 12) (b13:bl y 13=bl x 13) (b14:bl y 14=bl x 14):Inv K { t with Receipts:=t.Receipts.set k r' }:=by
  obtain ⟨g1,g2,g3,g4,g5⟩:=h.rc
  rw [g1]
  refine h.inv hI hx hd hf (set_ok hI.rct hr') (by rw [g2];exact hI.sal) (by rw [g3];exact hI.tra) (by rw [List.length_set];exact hI.l1) (by rw [g2];exact hI.l2) (by rw [g3];exact hI.l3) ?_ ?_ (by rw [g3];omega) (by intro f _;rw [g3]) (by unfold grp;omega)
  · rw [sumf_set _ hr];unfold accR
    rw [if_pos (by omega),if_pos (by omega)];omega
  · intro f hf;rw [sumf_set _ hr];unfold accR
    rw [if_neg (by omega),if_neg (by omega)];omega
theorem r18inv {K:Int} {s:GState} {o:GOp} {n:Nat} {r:GReceipt} {x:GEnt} {mts:List Int} (hn:66<n) (h:Inv K s) (hq:0≤o.Qty∧o.Qty≤288230376151711744) (ha:0≤o.Amount∧o.Amount≤288230376151711744) (h0:0≤o.Ref) (hr:s.Receipts[o.Ref.toNat]?=some r) (hx:s.Ents[r.Entity.toNat]?=some x) (hm:s.Master.Methods[r.Entity.toNat]?=some mts) (ho:EO s.Master mts x):Ex (Kept K s) (d_ref18_invoice n s o r):=by
  have hk:=h.rct r (mem_at hr)
  have hk2:=hk
  obtain ⟨h1,h2,h3,h4,h5,h6,h7,h8⟩:=hk2
  have o0:=On.start hx hm ho
  have hl1:=h.l1
  unfold d_ref18_invoice t_ref18_invoice
  simp only [WT.run,run_pw]
  refine x_bnd (x_cd (fun _=>x_end (.inr ⟨by simp,rfl⟩)) fun k1=>x_bi _ (rDue hn hk (by omega)) fun d hd=>x_v (x_v (x_bi _ (rPost hn h.ss (by simp)) fun c hc=>?_)))
  refine x_bnd (x_cd (fun k=>x_end (.inr ⟨k,rfl⟩)) fun kz=>?_)
  rcases hc with ⟨_,hc⟩ | ⟨k,_⟩
  rotate_left
  · exact absurd k kz
  obtain ⟨x2,o2,q1,q2,q3⟩:=o0.posted hc (by simp [lsum_cons,lsum_nil])
  obtain ⟨g1,g2,g3,g4,g5⟩:=o2.rc
  have b1:=q1 1 (by decide);have b12:=q1 12 (by decide);have b13:=q1 13 (by decide);have b14:=q1 14 (by decide)
  simp [lsum_cons,lsum_nil] at b1 b12 b13 b14
  refine x_v (x_v (x_eq (rWith18 h0 (by rw [g1];exact hr) (by rw [g1];exact hl1)) (x_end (.inl ⟨rfl,?_⟩))))
  exact o2.finR h hx (by simp [lsum_cons,lsum_nil]) (by intro j;rfl) hr ⟨h1,h2,h3,h4,h5,by first | omega | (simp only;omega),by first | omega | (simp only;omega),h8⟩ rfl rfl h1.1 (by first | omega | (simp only;omega)) b12 b13 b14
theorem r18back {K:Int} {s:GState} {o:GOp} {n:Nat} {r:GReceipt} {x:GEnt} {mts:List Int} (hn:66<n) (h:Inv K s) (hq:0≤o.Qty∧o.Qty≤288230376151711744) (h0:0≤o.Ref) (hr:s.Receipts[o.Ref.toNat]?=some r) (hx:s.Ents[r.Entity.toNat]?=some x) (hm:s.Master.Methods[r.Entity.toNat]?=some mts) (ho:EO s.Master mts x):Ex (Kept K s) (d_ref18_sendback n s o r):=by
  have hk:=h.rct r (mem_at hr)
  have hk2:=hk
  obtain ⟨h1,h2,h3,h4,h5,h6,h7,h8⟩:=hk2
  have o0:=On.start hx hm ho
  have hl1:=h.l1
  unfold d_ref18_sendback t_ref18_sendback
  simp only [WT.run,run_pw]
  refine x_v (x_bnd (x_cd (fun _=>x_end (.inr ⟨by simp,rfl⟩)) fun k1=>?_))
  refine x_bi (fun (b:Bool)=>b=false→r.Open>0→o.Qty≤r.Open) ?_ fun b hb=>x_cond (fun _=>x_end (.inr ⟨by simp,rfl⟩)) fun kb=>?_
  · refine x_bnd (x_cd (fun k=>x_bnd (x_end fun k2 _=>?_)) fun k=>x_end fun _ k2=>absurd k2 k)
    have:=of_decide_eq_false k2;omega
  have hb:=hb kb
  refine x_bi _ (rFetch hn h.ss (by omega)) fun b hb=>?_
  refine x_bnd (x_cd (fun k=>x_end (.inr ⟨k,rfl⟩)) fun kz=>?_)
  rcases hb with ⟨_,hb⟩ | ⟨k,_⟩
  rotate_left
  · exact absurd k kz
  obtain ⟨f1,f2,f3,f4,f5,f6⟩:=hb.facts
  obtain ⟨x1,o1,p1,p2,p3⟩:=o0.fetched hb
  have hv:=part_nn2 (w:=o.Qty) (q:=r.Qty) h5
  refine x_eq (rPart hn (by omega) (by omega)) (x_bnd ?_)
  refine x_bi (fun (v:Int×Int×GReceipt)=>(v.1=1∨v.1=2)∧(0≤v.2.1∧v.2.1≤288230376151711744)∧v.2.2=⟨r.Entity,r.Item,r.Loc,r.Qty,r.Value,v.2.2.Open,v.2.2.Accrued,r.Back⟩∧(0≤v.2.2.Open∧v.2.2.Open≤r.Qty)∧(0≤v.2.2.Accrued∧v.2.2.Accrued≤288230376151711744)∧r.Accrued-v.2.2.Accrued=if v.1=1 then v.2.1 else 0) ?_ fun v hv=>?_
  · refine x_cd (fun k=>x_bi _ (rDue hn hk (by omega)) fun d hd=>x_v (x_v (x_end ⟨.inl rfl,by first | omega | (simp only;omega),rfl,by first | omega | (simp only;omega),by first | omega | (simp only;omega),?_⟩))) fun k=>x_end ⟨.inr rfl,by first | omega | (simp only;omega),rfl,by first | omega | (simp only;omega),h7,?_⟩
    · simp only;rw [if_pos trivial];omega
    · simp only;rw [if_neg (by decide)];omega
  obtain ⟨a,d,y⟩:=v
  obtain ⟨v1,v2,v3,v4,v5,v6⟩:=hv
  simp only at v1 v2 v3 v4 v5 v6
  refine x_p2 (x_p2 (x_v (x_v (x_bi _ (rPost hn (o1.ss h.ss) (by simp)) fun c hc=>?_))))
  refine x_bnd (x_cd (fun k=>x_end (.inr ⟨k,rfl⟩)) fun kz=>?_)
  rcases hc with ⟨_,hc⟩ | ⟨k,_⟩
  rotate_left
  · exact absurd k kz
  have L:lsum [⟨a,d⟩,⟨6,b.2.1.Value-d⟩,⟨0,0-b.2.1.Value⟩] 0=-b.2.1.Value∧lsum [⟨a,d⟩,⟨6,b.2.1.Value-d⟩,⟨0,0-b.2.1.Value⟩] 1=(if a=1 then d else 0)∧lsum [⟨a,d⟩,⟨6,b.2.1.Value-d⟩,⟨0,0-b.2.1.Value⟩] 11=0∧lsum [⟨a,d⟩,⟨6,b.2.1.Value-d⟩,⟨0,0-b.2.1.Value⟩] 12=0∧lsum [⟨a,d⟩,⟨6,b.2.1.Value-d⟩,⟨0,0-b.2.1.Value⟩] 13=0∧lsum [⟨a,d⟩,⟨6,b.2.1.Value-d⟩,⟨0,0-b.2.1.Value⟩] 14=0:=by
    rcases v1 with rfl | rfl <;> simp [lsum_cons,lsum_nil]
  obtain ⟨L0,L1,L11,L12,L13,L14⟩:=L
  obtain ⟨x2,o2,q1,q2,q3⟩:=o1.posted hc L11
  refine x_bi _ (rTurn hn (o2.ss h.ss)) fun t ht=>?_
  refine x_bnd (x_cd (fun k=>x_end (.inr ⟨k,rfl⟩)) fun kz=>?_)
  rcases ht with ⟨_,ht⟩ | ⟨k,_⟩
  rotate_left
  · exact absurd k kz
  obtain ⟨x3,o3,r1,r2⟩:=o2.turned ht
  obtain ⟨g1,g2,g3,g4,g5⟩:=o3.rc
  have hB:∀ a':Nat,a' < 17→bl x3 a'=bl x a'+lsum [⟨a,d⟩,⟨6,b.2.1.Value-d⟩,⟨0,0-b.2.1.Value⟩] a':=fun a' ha=>by rw [bl_eq r1,q1 a' ha,bl_eq p1]
  have b1:bl x3 1=bl x 1+lsum _ 1:=hB 1 (by decide)
  have b12:bl x3 12=bl x 12+lsum _ 12:=hB 12 (by decide)
  have b13:bl x3 13=bl x 13+lsum _ 13:=hB 13 (by decide)
  have b14:bl x3 14=bl x 14+lsum _ 14:=hB 14 (by decide)
  rw [L1] at b1;rw [L12] at b12;rw [L13] at b13;rw [L14] at b14
  refine x_v (x_eq (rWith18 h0 (by rw [g1];exact hr) (by rw [g1];exact hl1)) (x_end (.inl ⟨rfl,?_⟩)))
  rw [v3]
  exact o3.finR h hx (by rw [L0];omega) (bump0 (by simp [rsum];try omega)) hr ⟨h1,h2,h3,h4,h5,by first | omega | (simp only;omega),by first | omega | (simp only;omega),by first | omega | (simp only;omega)⟩ rfl rfl h1.1 (by first | omega | (simp only;omega)) (by omega) (by omega) (by omega)
theorem r18 {K:Int} {s:GState} {o:GOp} {n:Nat} (hn:66<n) (h:Inv K s) (hq:0≤o.Qty∧o.Qty≤288230376151711744) (ha:0≤o.Amount∧o.Amount≤288230376151711744):Ex (Kept K s) (d_ref18_Do n s o):=by
  unfold d_ref18_Do t_ref18_Do
  simp only [WT.run,run_pw]
  repeat' with_reducible first | refine x_v ?_ | refine x_bv ?_ | apply x_bnd | apply x_p2 | apply x_bb | apply x_bp | apply x_bs | apply x_be | apply x_bk | apply x_bbi | apply x_bc | apply x_ba | refine x_cd (fun _=>?_) fun _=>?_ | refine x_cn (fun _=>?_) fun _=>?_ | apply x_cT | apply x_cF | apply x_sl | apply x_esc | apply x_end
  all_goals try exact Or.inr ⟨by simp,rfl⟩
  all_goals
    refine x_ix (by omega) (by omega) fun z hz=>?_
    refine x_bi _ (rReady h z.Entity z.Item) fun r hr=>?_
    refine x_bnd (x_cd (fun k=>x_end (.inr ⟨k,rfl⟩)) fun kz=>?_)
    obtain ⟨ht,x,mts,hx,hm,ho⟩:=hr (by omega)
    refine x_bnd (x_cd (fun k=>x_bi _ (r18inv hn h hq ha (by omega) hz hx hm ho) fun r hr=>x_end hr) fun k=>x_bi _ (r18back hn h hq (by omega) hz hx hm ho) fun r hr=>x_end hr)
theorem On.finT {K:Int} {s:GState} (hI:Inv K s) {e:Int} {mts:List Int} {t:GState} {x y:GEnt} {d:Int} {f:Nat→Int} (h:On s e.toNat mts t y d f) (hx:s.Ents[e.toNat]?=some x) (hd:d=0) (hf:∀ i,f i=0) {k:Nat} {r r':GTransit} (hr:s.Transits[k]?=some r) (hr':TOk s.Master r') (he:r.To=e) (he':r'.To=e) (h0:0≤e)
    (b1:bl y 1=bl x 1) (b12:bl y 12-bl x 12=r'.Value-r.Value) (b13:bl y 13=bl x 13) (b14:bl y 14=bl x 14):Inv K { t with Transits:=t.Transits.set k r' }:=by
  obtain ⟨g1,g2,g3,g4,g5⟩:=h.rc
  rw [g3]
  refine h.inv hI hx hd hf (by rw [g1];exact hI.rct) (by rw [g2];exact hI.sal) (set_ok hI.tra hr') (by rw [g1];exact hI.l1) (by rw [g2];exact hI.l2) (by rw [List.length_set];exact hI.l3) (by rw [g1];omega) (by intro f _;rw [g1]) ?_ ?_ (by unfold grp;omega)
  · rw [sumf_set _ hr];unfold wayT
    rw [if_pos (by omega),if_pos (by omega)];omega
  · intro f hf;rw [sumf_set _ hr];unfold wayT
    rw [if_neg (by omega),if_neg (by omega)];omega
theorem r20arr {K:Int} {s:GState} {o:GOp} {n:Nat} (hn:66<n) (h:Inv K s) (hq:0≤o.Qty∧o.Qty≤288230376151711744):Ex (Kept K s) (d_ref20_arrive n s o):=by
  unfold d_ref20_arrive t_ref20_arrive
  simp only [WT.run,run_pw]
  repeat' with_reducible first | refine x_v ?_ | refine x_bv ?_ | apply x_bnd | apply x_p2 | apply x_bb | apply x_bp | apply x_bs | apply x_be | apply x_bk | apply x_bbi | apply x_bc | apply x_ba | refine x_cd (fun _=>?_) fun _=>?_ | refine x_cn (fun _=>?_) fun _=>?_ | apply x_cT | apply x_cF | apply x_sl | apply x_esc | apply x_end
  all_goals try exact Or.inr ⟨by simp,rfl⟩
  rename_i k1 k2
  refine x_ix (by omega) (by omega) fun z hz=>?_
  have hz:s.Transits[o.Ref.toNat]?=some z:=hz
  obtain ⟨z1,z2,z3,z4,z5,z6⟩:=h.tra z (mem_at hz)
  refine x_bi _ (rReady h z.To z.Item) fun r hr=>?_
  refine x_bnd (x_cd (fun k=>x_end (.inr ⟨k,rfl⟩)) fun kz=>?_)
  obtain ⟨ht,x,mts,hx,hm,ho⟩:=hr (by omega)
  have o0:=On.start hx hm ho
  have hl1:=h.l3
  refine x_bnd (x_cd (fun _=>x_end (.inr ⟨by simp,rfl⟩)) fun k3=>?_)
  have hpc:=part_nn2 (w:=o.Qty) (q:=z.Qty) z5
  have hpp:=part_in (w:=o.Qty) (q:=z.Qty) z6
  refine x_eq (rPart hn (by omega) (by omega)) (x_eq (rPart hn (by omega) (by omega)) ?_)
  refine x_bi _ (rBring (l:=⟨o.Qty,pt z.Value o.Qty z.Qty,pt z.Profit o.Qty z.Qty⟩) hn h.ss (by simp only;omega)) fun b hb=>?_
  refine x_bnd (x_cd (fun k=>x_end (.inr ⟨k,rfl⟩)) fun kz=>?_)
  rcases hb with ⟨_,hb⟩ | ⟨k,_⟩
  rotate_left
  · exact absurd k kz
  obtain ⟨f1,f2,f3,f4,f5,f6,f7⟩:=hb.facts
  obtain ⟨x1,o1,p1,p2,p3⟩:=o0.brought hb
  refine x_v (x_bi _ (rPost hn (o1.ss h.ss) (by simp)) fun c hc=>?_)
  refine x_bnd (x_cd (fun k=>x_end (.inr ⟨k,rfl⟩)) fun kz=>?_)
  rcases hc with ⟨_,hc⟩ | ⟨k,_⟩
  rotate_left
  · exact absurd k kz
  obtain ⟨x2,o2,q1,q2,q3⟩:=o1.posted hc (by simp [lsum_cons,lsum_nil])
  refine x_bi _ (rTurn hn (o2.ss h.ss)) fun d hd=>?_
  refine x_bnd (x_cd (fun k=>x_end (.inr ⟨k,rfl⟩)) fun kz=>?_)
  rcases hd with ⟨_,hd⟩ | ⟨k,_⟩
  rotate_left
  · exact absurd k kz
  obtain ⟨x3,o3,r1,r2⟩:=o2.turned hd
  obtain ⟨g1,g2,g3,g4,g5⟩:=o3.rc
  have hB:∀ a:Nat,a<17→bl x3 a=bl x a+lsum [⟨0,b.2.1⟩,⟨6,b.2.2.1⟩,⟨12,0-pt z.Value o.Qty z.Qty⟩] a:=fun a ha=>by rw [bl_eq r1,q1 a ha,bl_eq p1]
  have b1:=hB 1 (by decide);have b12:=hB 12 (by decide);have b13:=hB 13 (by decide);have b14:=hB 14 (by decide)
  simp [lsum_cons,lsum_nil] at b1 b12 b13 b14
  unfold InM at hpp z6
  have lg:d.1.Transits.length=s.Transits.length:=by rw [g3]
  repeat' with_reducible first | refine x_v ?_ | refine x_bv ?_ | apply x_bnd | apply x_p2 | apply x_bb | apply x_bp | apply x_bs | apply x_be | apply x_bk | apply x_bbi | apply x_bc | apply x_ba | refine x_cd (fun _=>?_) fun _=>?_ | refine x_cn (fun _=>?_) fun _=>?_ | apply x_cT | apply x_cF | apply x_sl | apply x_esc | apply x_end | refine x_a ?_
  refine x_at (by omega) (by rw [g3];exact hz) ?_
  repeat' with_reducible first | refine x_v ?_ | refine x_bv ?_ | apply x_bnd | apply x_p2 | apply x_bb | apply x_bp | apply x_bs | apply x_be | apply x_bk | apply x_bbi | apply x_bc | apply x_ba | refine x_cd (fun _=>?_) fun _=>?_ | refine x_cn (fun _=>?_) fun _=>?_ | apply x_cT | apply x_cF | apply x_sl | apply x_esc | apply x_end
  refine .inl ⟨rfl,?_⟩
  rw [List.set_set,List.set_set]
  refine o3.finT h hx (by simp [lsum_cons,lsum_nil]) (bump0 (by simp [rsum];try omega)) hz ⟨z1,z2,z3,by first | omega | (simp only;omega),by first | omega | (simp only;omega),?_⟩ rfl rfl z2.1 b1 (by simp only;omega) b13 b14
  unfold InM;simp only;omega
theorem r20ship {K:Int} {s:GState} {o:GOp} {n:Nat} (hn:66<n) (h:Inv K s) (hq:0≤o.Qty∧o.Qty≤288230376151711744) (ha:0≤o.Amount∧o.Amount≤288230376151711744) (hne:o.E≠o.To):Ex (Kept K s) (d_ref20_ship n s o):=by
  unfold d_ref20_ship t_ref20_ship
  simp only [WT.run,run_pw]
  refine x_bi _ (rReady h o.E o.Item) fun r hr=>?_
  refine x_bnd (x_cd (fun k=>x_end (.inr ⟨k,rfl⟩)) fun kz=>?_)
  obtain ⟨ht,x,mts,hx,hm,ho⟩:=hr (by omega)
  refine x_bi _ (rReady h o.To o.Item) fun r2 hr2=>?_
  refine x_bnd (x_cd (fun k=>x_end (.inr ⟨k,rfl⟩)) fun kz=>?_)
  obtain ⟨hty,y,mty,hy,hmy,hoy⟩:=hr2 (by omega)
  have o0:=On.start hx hm ho
  have hl3:=h.l3
  refine x_bnd (x_cd (fun _=>x_end (.inr ⟨by simp,rfl⟩)) fun k1=>?_)
  refine x_bi _ (rFetch hn h.ss (by omega)) fun b hb=>?_
  refine x_bnd (x_cd (fun k=>x_end (.inr ⟨k,rfl⟩)) fun kz=>?_)
  rcases hb with ⟨_,hb⟩ | ⟨k,_⟩
  rotate_left
  · exact absurd k kz
  obtain ⟨f1,f2,f3,f4,f5,f6⟩:=hb.facts
  obtain ⟨x1,o1,p1,p2,p3⟩:=o0.fetched hb
  refine x_v (x_v (x_bi _ (rPost hn (o1.ss h.ss) (by simp)) fun c hc=>?_))
  refine x_bnd (x_cd (fun k=>x_end (.inr ⟨k,rfl⟩)) fun kz=>?_)
  rcases hc with ⟨_,hc⟩ | ⟨k,_⟩
  rotate_left
  · exact absurd k kz
  obtain ⟨x2,o2,q1,q2,q3⟩:=o1.posted hc (by simp [lsum_cons,lsum_nil])
  have ss2:=o2.ss h.ss
  refine x_v (x_bi _ (rPost hn ss2 (by simp)) fun c2 hc2=>?_)
  refine x_bnd (x_cd (fun k=>x_end (.inr ⟨k,rfl⟩)) fun kz=>?_)
  rcases hc2 with ⟨_,hc2⟩ | ⟨k,_⟩
  rotate_left
  · exact absurd k kz
  have ss3:=hc2.ss ss2
  refine x_bi _ (rTurn hn ss3) fun d hd=>?_
  refine x_bnd (x_cd (fun k=>x_end (.inr ⟨k,rfl⟩)) fun kz=>?_)
  rcases hd with ⟨_,hd⟩ | ⟨k,_⟩
  rotate_left
  · exact absurd k kz
  have h1:=ht.1;have h2:=hty.1
  have hlen:=h.len
  have hnn:o.E.toNat≠o.To.toNat:=by omega
  obtain ⟨y0,by',he2,hy0,hpy,e3⟩:=hc2
  have hy1:y0=y:=by
    rw [o2.eq] at hy0
    have hy0:(s.Ents.set o.E.toNat x2)[o.To.toNat]?=some y0:=hy0
    rw [get_set (by omega),if_neg hnn,hy] at hy0;cases hy0;rfl
  subst hy1
  obtain ⟨x0,r0,ht3,hx0,hr0,hrr,e4⟩:=hd
  have hx1:x0=x2:=by
    rw [e3,o2.eq] at hx0
    have hx0:((s.Ents.set o.E.toNat x2).set o.To.toNat { y0 with Bal:=by' })[o.E.toNat]?=some x0:=hx0
    rw [get_set (by rw [List.length_set];omega),if_neg (Ne.symm hnn),get_set (by omega),if_pos rfl] at hx0;cases hx0;rfl
  subst hx1
  have o3:=o2.set (o2.es.setRoll (i:=o.Item.toNat) hrr) (o2.eb.roll (r:=⟨0,0,0,0,0,0,b.2.1.Value,0,0,0,0⟩) hr0) rfl rfl
  have eE:d.1.Ents=(s.Ents.set o.E.toNat { x0 with Rolls:=x0.Rolls.set o.Item.toNat (radd r0 ⟨0,0,0,0,0,0,b.2.1.Value,0,0,0,0⟩) }).set o.To.toNat { y0 with Bal:=by' }:=by
    rw [e4,e3,o2.eq]
    show (((s.Ents.set o.E.toNat x0).set o.To.toNat _).set o.E.toNat _)=_
    rw [List.set_comm _ _ (Ne.symm hnn),List.set_set]
  have eR:d.1={ s with Ents:=d.1.Ents }:=by rw [e4,e3,o2.eq];rfl
  have lg:d.1.Transits.length=s.Transits.length:=by rw [eR]
  have hB:∀ a:Nat,a<17→bl x0 a=bl x a+lsum [⟨13,o.Amount⟩,⟨15,0-o.Amount⟩,⟨16,b.2.1.Value⟩,⟨0,0-b.2.1.Value⟩] a:=fun a ha=>by rw [q1 a ha,bl_eq p1]
  have b1:=hB 1 (by decide);have b12:=hB 12 (by decide);have b13:=hB 13 (by decide);have b14:=hB 14 (by decide)
  simp [lsum_cons,lsum_nil] at b1 b12 b13 b14
  have oy:=hoy.ee.x.post (l:=[⟨12,o.Amount⟩,⟨14,0-o.Amount⟩]) hpy (by simp [lsum_cons,lsum_nil])
  have hC:∀ a:Nat,a<17→by'.getD a 0=bl y0 a+lsum [⟨12,o.Amount⟩,⟨14,0-o.Amount⟩] a:=fun a ha=>hpy.2.2.1 a ha
  have c1:=hC 1 (by decide);have c12:=hC 12 (by decide);have c13:=hC 13 (by decide);have c14:=hC 14 (by decide)
  simp [lsum_cons,lsum_nil] at c1 c12 c13 c14
  refine x_v (x_v (x_eq (rIn _) (x_bnd (x_cn (fun _=>x_end (.inr ⟨by simp,rfl⟩)) fun kp=>?_))))
  have kp:InM (o.Amount-b.2.1.Value+b.2.1.Profit):=of_decide_eq_true kp
  repeat' with_reducible first | refine x_v ?_ | refine x_bv ?_ | apply x_bnd | apply x_p2 | apply x_bb | apply x_bp | apply x_bs | apply x_be | apply x_bk | apply x_bbi | apply x_bc | apply x_ba | refine x_cd (fun _=>?_) fun _=>?_ | refine x_cn (fun _=>?_) fun _=>?_ | apply x_cT | apply x_cF | apply x_sl | apply x_esc | apply x_end | refine x_a ?_
  refine .inl ⟨rfl,?_⟩
  have fin:=h.up2 (T:=s.Transits++[⟨o.E,o.To,o.Item,o.Qty,o.Amount,o.Amount-b.2.1.Value+b.2.1.Profit⟩]) hnn hx hm (.inl (o3.done (by simp [lsum_cons,lsum_nil]) (bump0 (by simp [rsum];try omega)))) hy hmy
    (.inl ⟨hoy.es.setBal hpy.1 hpy.2.1,oy.done (by simp [lsum_cons,lsum_nil]) (fun _=>rfl),hoy.opn,hoy.ahd⟩)
    (app_ok h.tra ⟨by first | omega | (simp only;omega),by first | omega | (simp only;omega),ht.2,by first | omega | (simp only;omega),by first | omega | (simp only;omega),kp⟩) (by simp;omega) (by show bl x0 1=bl x 1;omega) (by show by'.getD 1 0=_;simp;omega) (by show bl x0 12=bl x 12;omega) ?_ ?_ ?_
  · rw [eR,eE];exact fin
  · rw [sumf_app];simp only [sumf,wayT];rw [if_pos (by omega)];show _=by'.getD 12 0-bl y0 12;simp;omega
  · intro f hf;rw [sumf_app];simp only [sumf,wayT];rw [if_neg (by omega)];omega
  · show bl x0 13+bl x0 14+(by'.getD 13 0+by'.getD 14 0)=bl x 13+bl x 14+(bl y0 13+bl y0 14);simp;omega
theorem r20 {K:Int} {s:GState} {o:GOp} {n:Nat} (hn:66<n) (h:Inv K s) (hq:0≤o.Qty∧o.Qty≤288230376151711744) (ha:0≤o.Amount∧o.Amount≤288230376151711744) (hne:o.Kind=12→o.E≠o.To):Ex (Kept K s) (d_ref20_Do n s o):=by
  unfold d_ref20_Do t_ref20_Do
  simp only [WT.run,run_pw]
  refine x_bnd (x_cd (fun k=>x_bi _ (r20ship hn h hq ha (hne k)) fun r hr=>x_end hr) fun _=>x_bnd (x_cd (fun _=>x_bi _ (r20arr hn h hq) fun r hr=>x_end hr) fun _=>x_end (.inr ⟨by simp,rfl⟩)))
end Go.Pv
