import Derived.Test.YtfbohcojaajpfaaGreatM70
set_option linter.unusedVariables false
set_option linter.unusedSimpArgs false
namespace Go.Pv
open Go.Proofs
set_option maxRecDepth 100000
set_option maxHeartbeats 1000000
def putP (s:GState) (e i c:Int) (x:GEnt) (p':GPool):GState:=upE s e.toNat { x with Pools:=x.Pools.set (2*i.toNat+c.toNat) p' }
def Brought (s:GState) (e i c:Int) (l:GLayer) (t:GState) (carried above:Int):Prop :=
  ∃ x m k p q p',Spot s e i c x m k p q∧t=putP s e i c x p'∧IO m p' q∧Came m p p' l above∧carried=l.Value-above∧(-288230376151711744≤above∧above≤288230376151711744)
theorem Spot.both {s:GState} {e i c m k:Int} {x:GEnt} {p q:GPool} (h:Spot s e i c x m k p q):∃ a b,x.Pools[2*i.toNat]?=some a∧x.Pools[2*i.toNat+1]?=some b∧((c=0∧a=p∧b=q)∨(c=1∧a=q∧b=p)):=by
  have h1:=h.pp;have h2:=h.qq;have hc:=h.lc
  rcases (by omega:c=0∨c=1) with rfl | rfl
  · exact ⟨p,q,h1,h2,.inl ⟨rfl,rfl,rfl⟩⟩
  · exact ⟨q,p,h2,h1,.inr ⟨rfl,rfl,rfl⟩⟩
theorem Spot.put {s:GState} {e i c m k:Int} {x:GEnt} {p q p':GPool} (h:Spot s e i c x m k p q):(putP s e i c x p').Ents[e.toNat]?=some { x with Pools:=x.Pools.set (2*i.toNat+c.toNat) p' } ∧
    ∃ a b,(x.Pools.set (2*i.toNat+c.toNat) p')[2*i.toNat]?=some a∧(x.Pools.set (2*i.toNat+c.toNat) p')[2*i.toNat+1]?=some b∧((c=0∧a=p'∧b=q)∨(c=1∧a=q∧b=p')):=by
  have hk:2*i.toNat+c.toNat<x.Pools.length:=(List.getElem?_eq_some_iff.1 h.pp).1
  have he:e.toNat<s.Ents.length:=(List.getElem?_eq_some_iff.1 h.en).1
  refine ⟨upE_at he,?_⟩
  obtain ⟨a,b,h1,h2,h3⟩:=h.both
  rw [get_set hk,get_set hk]
  rcases h3 with ⟨rfl,rfl,rfl⟩ | ⟨rfl,rfl,rfl⟩
  · exact ⟨p',b,by rw [if_pos (by simp)],by rw [if_neg (by simp)];exact h2,.inl ⟨rfl,rfl,rfl⟩⟩
  · exact ⟨a,p',by rw [if_neg (by simp)];exact h1,by rw [if_pos (by simp)],.inr ⟨rfl,rfl,rfl⟩⟩
theorem Spot.ss {s:GState} (hs:SS s) {e i c m k:Int} {x:GEnt} {p q p':GPool} (h:Spot s e i c x m k p q) (hio:IO m p' q):SS (putP s e i c x p'):=by
  refine hs.up h.en fun mts hm=>?_
  obtain ⟨h1,h2⟩:=h.es mts hm
  have ht:=h.th.2;have hc:=h.lc
  exact h2.put (by omega) (by omega) h1 h.qq hio
theorem rBring {s:GState} {n:Nat} (hn:66<n) (h:SS s) {e i c:Int} {l:GLayer} (hl:l.Qty≤9223372036854775807) :
    Ex (fun r=>(r.2.2.2=0∧Brought s e i c l r.1 r.2.1 r.2.2.1)∨(r.2.2.2≠0∧r.1=s)) (d_ref14_Bring n s e i c l):=by
  have hf:=h.toS0.few
  unfold d_ref14_Bring t_ref14_Bring
  simp only [WT.run,run_pw,rThere h.toS0,rTo,Option.bind_some]
  repeat' with_reducible first | refine x_v ?_ | refine x_bv ?_ | apply x_bnd | apply x_p2 | apply x_bb | apply x_bp | apply x_bs | apply x_be | apply x_bk | apply x_bbi | apply x_bc | apply x_ba | refine x_cd (fun _=>?_) fun _=>?_ | refine x_cn (fun _=>?_) fun _=>?_ | apply x_cT | apply x_cF | apply x_sl | apply x_esc | apply x_end
  all_goals try exact Or.inr ⟨by simp,rfl⟩
  rename_i ht hc
  have ht:=of_decide_eq_true ht;have hc:=of_decide_eq_true hc
  obtain ⟨x,m,k,p,q,hs⟩:=h.spot ht hc
  obtain ⟨mts,m1,m2⟩:=hs.ms
  obtain ⟨cs,c1,c2⟩:=hs.cs
  refine x_at ht.1.1 m1 (x_at ht.2.1 m2 (x_at ht.1.1 c1 (x_at ht.2.1 c2 (x_eq (rAt h.toS0 ht hc hs.en hs.pp) (x_bi _ (rIn13 hn hs.io.pp hs.kk hl) fun r hr=>?_)))))
  repeat' with_reducible first | refine x_v ?_ | refine x_bv ?_ | apply x_bnd | apply x_p2 | apply x_bb | apply x_bp | apply x_bs | apply x_be | apply x_bk | apply x_bbi | apply x_bc | apply x_ba | refine x_cd (fun _=>?_) fun _=>?_ | refine x_cn (fun _=>?_) fun _=>?_ | apply x_cT | apply x_cF | apply x_sl | apply x_esc | apply x_end
  · rename_i k;exact .inr ⟨k,rfl⟩
  rename_i kz
  rcases hr with ⟨r1,r2,r3⟩ | ⟨r1,_⟩
  rotate_left
  · exact absurd r1 kz
  refine x_eq (rPut h hs) ?_
  have hP:PR m r.1:=r2.1
  have hQ:=hs.io.qq
  obtain ⟨en2,a,b,pa,pb,hab⟩:=hs.put (p':=r.1)
  have h0:S0 (putP s e i c x r.1):=⟨h.mas,by show ((s.Ents.set _ _).length:Int)=_;rw [List.length_set];exact h.len⟩
  have ht2:There (putP s e i c x r.1) e i:=by
    refine ⟨⟨ht.1.1,?_⟩,ht.2⟩
    show e<((s.Ents.set _ _).length:Int);rw [List.length_set];exact ht.1.2
  have la:LR a.Layers∧LR b.Layers∧tQ a.Layers+tQ b.Layers=tQ r.1.Layers+tQ q.Layers∧tV a.Layers+tV b.Layers=tV r.1.Layers+tV q.Layers∧tS a.Layers+tS b.Layers=tS r.1.Layers+tS q.Layers:=by
    rcases hab with ⟨_,rfl,rfl⟩ | ⟨_,rfl,rfl⟩
    · exact ⟨hP.ly,hQ.ly,rfl,rfl,rfl⟩
    · exact ⟨hQ.ly,hP.ly,Int.add_comm _ _,Int.add_comm _ _,Int.add_comm _ _⟩
  obtain ⟨l1,l2,l3,l4,l5⟩:=la
  have lb1:=LR_b l1;have lb2:=LR_b l2
  refine x_bi _ (rworth_g hn h0 ht2 en2 pa pb l1 l2) fun w hw=>?_
  repeat' with_reducible first | refine x_v ?_ | refine x_bv ?_ | apply x_bnd | apply x_p2 | apply x_bb | apply x_bp | apply x_bs | apply x_be | apply x_bk | apply x_bbi | apply x_bc | apply x_ba | refine x_cd (fun _=>?_) fun _=>?_ | refine x_cn (fun _=>?_) fun _=>?_ | apply x_cT | apply x_cF | apply x_sl | apply x_esc | apply x_end
  · exact .inr ⟨(fun k=>nomatch k),rfl⟩
  rename_i kw
  have kw:=hw.2.1 (by omega)
  have kq:=(sum2_two _ _).2.1 kw.1
  have kv:=(sum2_two _ _).2.1 kw.2.1
  have a0:=rAt (c:=0) h0 ht2 (by omega) en2 pa
  have a1:=rAt (c:=1) h0 ht2 (by omega) en2 pb
  refine x_bi (fun r=>r=a.Layers++b.Layers) ?_ fun y hy=>?_
  · obtain ⟨m',rfl⟩:∃ m',n=m'+3:=⟨n-3,by omega⟩
    show Ex _ (iter _ (m'+2+1) _)
    refine x_bi (fun r=>r=.inl (1,a.Layers)) ?_ fun r hr=>?_
    · refine x_p2 (x_bnd (x_cd (fun _=>x_eq a0 ?_) fun k=>absurd (show (0:Int)<2 by decide) k))
      repeat' with_reducible first | refine x_v ?_ | refine x_bv ?_ | apply x_bnd | apply x_p2 | apply x_bb | apply x_bp | apply x_bs | apply x_be | apply x_bk | apply x_bbi | apply x_bc | apply x_ba | refine x_cd (fun _=>?_) fun _=>?_ | refine x_cn (fun _=>?_) fun _=>?_ | apply x_cT | apply x_cF | apply x_sl | apply x_esc | apply x_end
      refine x_a ?_
      exact x_v (x_brk rfl)
    · subst hr
      refine x_sl ?_
      show Ex _ (iter _ (m'+1+1) _)
      refine x_bi (fun r=>r=.inl (2,a.Layers++b.Layers)) ?_ fun r hr=>?_
      · refine x_p2 (x_bnd (x_cd (fun _=>x_eq a1 ?_) fun k=>absurd (show (1:Int)<2 by decide) k))
        repeat' with_reducible first | refine x_v ?_ | refine x_bv ?_ | apply x_bnd | apply x_p2 | apply x_bb | apply x_bp | apply x_bs | apply x_be | apply x_bk | apply x_bbi | apply x_bc | apply x_ba | refine x_cd (fun _=>?_) fun _=>?_ | refine x_cn (fun _=>?_) fun _=>?_ | apply x_cT | apply x_cF | apply x_sl | apply x_esc | apply x_end
        refine x_a ?_
        exact x_v (x_brk rfl)
      · subst hr
        refine x_sl ?_
        show Ex _ (iter _ (m'+1) _)
        refine x_bi (fun r=>r=.inr (a.Layers++b.Layers)) ?_ fun r hr=>?_
        · exact x_p2 (x_bnd (x_cd (fun k=>absurd k (show ¬(2:Int)<2 by decide)) fun k=>x_esc (x_end rfl)))
        · subst hr;exact x_sr rfl
  · subst hy
    obtain ⟨z1,z2,z3,z4⟩:=s_app a.Layers b.Layers
    obtain ⟨r4,r5,r6,r7,r8,r9,r10⟩:=r2
    refine x_bi _ (rSwing (l:=a.Layers++b.Layers) (by simp;omega) (by simp;omega) fun y hy=>?_) fun w2 hw2=>?_
    · rcases List.mem_append.1 hy with hy | hy
      · exact l1.1 y hy
      · exact l2.1 y hy
    repeat' with_reducible first | refine x_v ?_ | refine x_bv ?_ | apply x_bnd | apply x_p2 | apply x_bb | apply x_bp | apply x_bs | apply x_be | apply x_bk | apply x_bbi | apply x_bc | apply x_ba | refine x_cd (fun _=>?_) fun _=>?_ | refine x_cn (fun _=>?_) fun _=>?_ | apply x_cT | apply x_cF | apply x_sl | apply x_esc | apply x_end
    · exact .inr ⟨(fun k=>nomatch k),rfl⟩
    rename_i k2
    have k3:=hw2.2 (by omega)
    unfold InM at kq kv
    exact (.inl ⟨rfl,x,m,k,p,q,r.1,hs,rfl,⟨hP,hQ,by omega,by omega⟩,⟨r4,r5,r6,r7,r8,r9,r10⟩,rfl,r3⟩)
def Fetched (s:GState) (e i c k q:Int) (t:GState) (l:GLayer) (w:Bool):Prop :=
  ∃ x m o p p2 p',Spot s e i c x m o p p2∧t=putP s e i c x p'∧IO m p' p2∧Gone m p p' l∧1≤q∧(w=false→l.Qty=q)∧(w=true→l=⟨0,0,0⟩∧m=3∧k≠3)
theorem rFetch {s:GState} {n:Nat} (hn:66<n) (h:SS s) {e i c k q:Int} (hq:-9223372036854775808≤q∧q≤9223372036854775807) :
    Ex (fun r=>(r.2.2.2=0∧Fetched s e i c k q r.1 r.2.1 r.2.2.1)∨(r.2.2.2≠0∧r.1=s)) (d_ref14_Fetch n s e i c k q):=by
  have hf:=h.toS0.few
  unfold d_ref14_Fetch
  simp only [rThere h.toS0,rTo,Option.bind_some]
  repeat' with_reducible first | refine x_v ?_ | refine x_bv ?_ | apply x_bnd | apply x_p2 | apply x_bb | apply x_bp | apply x_bs | apply x_be | apply x_bk | apply x_bbi | apply x_bc | apply x_ba | refine x_cd (fun _=>?_) fun _=>?_ | refine x_cn (fun _=>?_) fun _=>?_ | apply x_cT | apply x_cF | apply x_sl | apply x_esc | apply x_end
  all_goals try exact Or.inr ⟨by simp,rfl⟩
  rename_i ht hc
  have ht:=of_decide_eq_true ht;have hc:=of_decide_eq_true hc
  obtain ⟨x,m,o,p,p2,hs⟩:=h.spot ht hc
  obtain ⟨mts,m1,m2⟩:=hs.ms
  obtain ⟨cs,c1,c2⟩:=hs.cs
  refine x_at ht.1.1 m1 (x_at ht.2.1 m2 (x_at ht.1.1 c1 (x_at ht.2.1 c2 (x_eq (rAt h.toS0 ht hc hs.en hs.pp) (x_bi _ (rOut13 hn hs.io.pp hs.kk hq) fun r hr=>?_)))))
  repeat' with_reducible first | refine x_v ?_ | refine x_bv ?_ | apply x_bnd | apply x_p2 | apply x_bb | apply x_bp | apply x_bs | apply x_be | apply x_bk | apply x_bbi | apply x_bc | apply x_ba | refine x_cd (fun _=>?_) fun _=>?_ | refine x_cn (fun _=>?_) fun _=>?_ | apply x_cT | apply x_cF | apply x_sl | apply x_esc | apply x_end
  · rename_i k;exact .inr ⟨k,rfl⟩
  rename_i kz
  rcases hr with ⟨r1,r2,r3,r4,r5⟩ | r1
  rotate_left
  · exact absurd r1 kz
  refine x_eq (rPut h hs) (x_end (.inl ⟨rfl,x,m,o,p,p2,r.1,hs,rfl,?_,r3,r2,r4,r5⟩))
  obtain ⟨g1,g2,g3,g4,g5,g6,g7⟩:=r3
  have i1:=hs.io.sq;have i3:=hs.io.ss
  have b1:=LR_b g1.ly;have b2:=LR_b hs.io.pp.ly
  have b3:=ab_ge r.2.1.Profit
  refine ⟨g1,hs.io.qq,?_,by omega⟩
  cases hw:r.2.2.1 with
  | false=>have:=r4 hw;omega
  | true=>have:=(r5 hw).1;rw [this] at g2;simp only at g2;omega
structure EBx (x:GEnt) (d:Int) (f:Nat→Int):Prop where
  ctl:sV x.Pools=bl x 0+d
  wri:sumI x.Down=-bl x 11
  bln:sumI x.Bal=0
  rol:∀ (i:Nat) r p q,x.Rolls[i]?=some r→x.Pools[2*i]?=some p→x.Pools[2*i+1]?=some q→rsum r+f i=tV p.Layers+tV q.Layers
theorem EB.x {x:GEnt} (h:EB x):EBx x 0 (fun _=>0):=⟨by have:=h.ctl;omega,h.wri,h.bln,fun i r p q h1 h2 h3=>by have:=h.rol i r p q h1 h2 h3;omega⟩
theorem EBx.done {x:GEnt} {d:Int} {f:Nat→Int} (h:EBx x d f) (hd:d=0) (hf:∀ i,f i=0):EB x:=⟨by have:=h.ctl;omega,h.wri,h.bln,fun i r p q h1 h2 h3=>by have:=h.rol i r p q h1 h2 h3;have:=hf i;omega⟩
def bump (f:Nat→Int) (i:Nat) (v:Int) (j:Nat):Int:=f j+if j=i then v else 0
theorem EBx.put {x:GEnt} {d:Int} {f:Nat→Int} (h:EBx x d f) {i c:Nat} {p p':GPool} (hc:c<2) (hp:x.Pools[2*i+c]?=some p) {v:Int} (hv:tV p'.Layers-tV p.Layers=v):EBx { x with Pools:=x.Pools.set (2*i+c) p' } (d+v) (bump f i v):=by
  have hk:2*i+c<x.Pools.length:=(List.getElem?_eq_some_iff.1 hp).1
  refine ⟨?_,h.wri,h.bln,?_⟩
  · show sV (x.Pools.set (2*i+c) p')=bl x 0+(d+v)
    rw [sV_set hp];have:=h.ctl;omega
  · intro j r a b hr ha hb
    have ha:(x.Pools.set (2*i+c) p')[2*j]?=some a:=ha
    have hb:(x.Pools.set (2*i+c) p')[2*j+1]?=some b:=hb
    rw [get_set hk] at ha hb
    unfold bump
    by_cases hj:j=i
    · subst hj
      rw [if_pos rfl]
      rcases (by omega:c=0∨c=1) with rfl | rfl
      · rw [if_pos (by omega)] at ha;rw [if_neg (by omega)] at hb;cases ha
        have h1:=h.rol j r p b hr hp hb
        omega
      · rw [if_neg (by omega)] at ha;rw [if_pos (by omega)] at hb;cases hb
        have h1:=h.rol j r a p hr ha hp
        omega
    · rw [if_neg (by omega)] at ha hb
      rw [if_neg hj,Int.add_zero]
      exact h.rol j r a b hr ha hb
theorem EBx.roll {x:GEnt} {d:Int} {f:Nat→Int} (h:EBx x d f) {i:Nat} {r0 r:GRoll} (hr:x.Rolls[i]?=some r0):EBx { x with Rolls:=x.Rolls.set i (radd r0 r) } d (bump f i (-rsum r)):=by
  have hk:i<x.Rolls.length:=(List.getElem?_eq_some_iff.1 hr).1
  refine ⟨h.ctl,h.wri,h.bln,?_⟩
  intro j s a b hs ha hb
  have hs:(x.Rolls.set i (radd r0 r))[j]?=some s:=hs
  rw [get_set hk] at hs
  unfold bump
  by_cases hj:j=i
  · subst hj
    rw [if_pos rfl] at hs;cases hs;rw [if_pos rfl]
    have h1:=h.rol j r0 a b hr ha hb
    unfold rsum radd at *
    simp only
    omega
  · rw [if_neg (Ne.symm hj)] at hs;rw [if_neg hj,Int.add_zero]
    exact h.rol j s a b hs ha hb
theorem EBx.post {x:GEnt} {d:Int} {f:Nat→Int} (h:EBx x d f) {l:List GLine} {b:List Int} (hb:PostR x.Bal l b) (h11:lsum l 11=0):EBx { x with Bal:=b } (d-lsum l 0) f:=by
  obtain ⟨b1,b2,b3,b4⟩:=hb
  have e0:b.getD 0 0=x.Bal.getD 0 0+lsum l 0:=b3 0 (by decide)
  have e11:b.getD 11 0=x.Bal.getD 11 0+lsum l 11:=b3 11 (by decide)
  refine ⟨?_,?_,?_,h.rol⟩
  · show sV x.Pools=b.getD 0 0+(d-lsum l 0)
    have:=h.ctl;unfold bl at this;omega
  · show sumI x.Down=-b.getD 11 0
    have:=h.wri;unfold bl at this;omega
  · show sumI b=0
    rw [b4];exact h.bln
structure On (s:GState) (e:Nat) (mts:List Int) (t:GState) (x:GEnt) (d:Int) (f:Nat→Int):Prop where
  en:e<s.Ents.length
  ms:s.Master.Methods[e]?=some mts
  eq:t=upE s e x
  es:ES s.Master.Weights.length mts s.Master.Periods x
  eb:EBx x d f
  opn:x.Closed=false
  ahd:x.Ahead=[]
theorem upE_self {s:GState} {e:Nat} {x:GEnt} (h:s.Ents[e]?=some x):s=upE s e x:=by
  have:s.Ents.set e x=s.Ents:=by
    obtain ⟨h1,h2⟩:=List.getElem?_eq_some_iff.1 h
    subst h2;exact List.set_getElem_self h1
  unfold upE;rw [this]
theorem On.start {s:GState} {e:Nat} {mts:List Int} {x:GEnt} (hx:s.Ents[e]?=some x) (hm:s.Master.Methods[e]?=some mts) (ho:EO s.Master mts x):On s e mts s x 0 (fun _=>0) :=
  ⟨(List.getElem?_eq_some_iff.1 hx).1,hm,upE_self hx,ho.es,ho.ee.x,ho.opn,ho.ahd⟩
theorem On.at {s:GState} {e:Nat} {mts:List Int} {t:GState} {x:GEnt} {d:Int} {f:Nat→Int} (h:On s e mts t x d f):t.Ents[e]?=some x:=by rw [h.eq];exact upE_at h.en
theorem On.ss {s:GState} {e:Nat} {mts:List Int} {t:GState} {x:GEnt} {d:Int} {f:Nat→Int} (hs:SS s) (h:On s e mts t x d f):SS t:=by
  rw [h.eq]
  exact hs.up (List.getElem?_eq_getElem h.en) fun m hm=>by rw [h.ms] at hm;cases hm;exact h.es
theorem On.done {s:GState} {e:Nat} {mts:List Int} {t:GState} {x:GEnt} {d:Int} {f:Nat→Int} (h:On s e mts t x d f) (hd:d=0) (hf:∀ i,f i=0):EO s.Master mts x:=⟨h.es,h.eb.done hd hf,h.opn,h.ahd⟩
theorem On.set {s:GState} {e:Nat} {mts:List Int} {t:GState} {x y:GEnt} {d d':Int} {f f':Nat→Int} (h:On s e mts t x d f) (hes:ES s.Master.Weights.length mts s.Master.Periods y) (heb:EBx y d' f') (ho:y.Closed=x.Closed) (ha:y.Ahead=x.Ahead):On s e mts (upE t e y) y d' f' :=
  ⟨h.en,h.ms,by rw [h.eq,upE_upE],hes,heb,ho.trans h.opn,ha.trans h.ahd⟩
theorem On.brought {s:GState} {e i c:Int} {mts:List Int} {t t':GState} {x:GEnt} {d:Int} {f:Nat→Int} {l:GLayer} {carried above:Int} (h:On s e.toNat mts t x d f) (hb:Brought t e i c l t' carried above) :
    ∃ x',On s e.toNat mts t' x' (d+carried) (bump f i.toNat carried)∧x'.Bal=x.Bal∧x'.Now=x.Now∧x'.Rolls=x.Rolls:=by
  obtain ⟨y,m,k,p,q,p',hs,e1,hio,hc,e2,hab⟩:=hb
  have hy:=hs.en;rw [h.at] at hy;cases hy
  obtain ⟨c1,c2,c3,c4,c5,c6,c7⟩:=hc
  have hlc:=hs.lc;have hth:=hs.th.2
  have hM:t.Master=s.Master:=by rw [h.eq];rfl
  rw [hM] at hth
  have g:=h.es.put (by omega) (by omega) (hs.es mts (by rw [hM];exact h.ms)).1 hs.qq hio
  exact ⟨{ x with Pools:=x.Pools.set (2*i.toNat+c.toNat) p' },by rw [e1];exact h.set g (h.eb.put (p:=p) (p':=p') (by omega) hs.pp (v:=carried) (by omega)) rfl rfl,rfl,rfl,rfl⟩
theorem On.fetched {s:GState} {e i c k q:Int} {mts:List Int} {t t':GState} {x:GEnt} {d:Int} {f:Nat→Int} {l:GLayer} {w:Bool} (h:On s e.toNat mts t x d f) (hb:Fetched t e i c k q t' l w) :
    ∃ x',On s e.toNat mts t' x' (d+-l.Value) (bump f i.toNat (-l.Value))∧x'.Bal=x.Bal∧x'.Now=x.Now∧x'.Rolls=x.Rolls:=by
  obtain ⟨y,m,o,p,p2,p',hs,e1,hio,hc,_⟩:=hb
  have hy:=hs.en;rw [h.at] at hy;cases hy
  obtain ⟨c1,c2,c3,c4,c5,c6,c7⟩:=hc
  have hlc:=hs.lc;have hth:=hs.th.2
  have hM:t.Master=s.Master:=by rw [h.eq];rfl
  rw [hM] at hth
  have g:=h.es.put (by omega) (by omega) (hs.es mts (by rw [hM];exact h.ms)).1 hs.qq hio
  exact ⟨{ x with Pools:=x.Pools.set (2*i.toNat+c.toNat) p' },by rw [e1];exact h.set g (h.eb.put (p:=p) (p':=p') (by omega) hs.pp (v:=-l.Value) (by omega)) rfl rfl,rfl,rfl,rfl⟩
theorem On.posted {s:GState} {e:Int} {mts:List Int} {t t':GState} {x:GEnt} {d:Int} {f:Nat→Int} {l:List GLine} (h:On s e.toNat mts t x d f) (hb:Posted t e l t') (h11:lsum l 11=0) :
    ∃ x',On s e.toNat mts t' x' (d-lsum l 0) f∧(∀ a:Nat,a<17→bl x' a=bl x a+lsum l a)∧x'.Now=x.Now∧x'.Rolls=x.Rolls:=by
  obtain ⟨y,b,he,hy,hp,e1⟩:=hb
  rw [h.at] at hy;cases hy
  exact ⟨{ x with Bal:=b },by rw [e1];exact h.set (h.es.setBal hp.1 hp.2.1) (h.eb.post hp h11) rfl rfl,fun a ha=>hp.2.2.1 a ha,rfl,rfl⟩
theorem On.turned {s:GState} {e i:Int} {mts:List Int} {t t':GState} {x:GEnt} {d:Int} {f:Nat→Int} {r:GRoll} (h:On s e.toNat mts t x d f) (hb:Turned t e i r t') :
    ∃ x',On s e.toNat mts t' x' d (bump f i.toNat (-rsum r))∧x'.Bal=x.Bal∧x'.Now=x.Now:=by
  obtain ⟨y,r0,ht,hy,hr0,hr,e1⟩:=hb
  rw [h.at] at hy;cases hy
  exact ⟨{ x with Rolls:=x.Rolls.set i.toNat (radd r0 r) },by rw [e1];exact h.set (h.es.setRoll hr) (h.eb.roll hr0) rfl rfl,rfl,rfl⟩
def Kept (K:Int) (s:GState) (r:GState×Int):Prop:=(r.2=0∧Inv K r.1)∨(r.2≠0∧r.1=s)
theorem rReady {K:Int} {s:GState} (h:Inv K s) (e i:Int):Ex (fun r=>r=0→There s e i∧∃ x mts,s.Ents[e.toNat]?=some x∧s.Master.Methods[e.toNat]?=some mts∧EO s.Master mts x) (d_ref14_Ready s e i):=by
  unfold d_ref14_Ready t_ref14_Ready
  simp only [WT.run,run_pw,rThere h.ss.toS0,Option.bind_some]
  repeat' with_reducible first | refine x_v ?_ | refine x_bv ?_ | apply x_bnd | apply x_p2 | apply x_bb | apply x_bp | apply x_bs | apply x_be | apply x_bk | apply x_bbi | apply x_bc | apply x_ba | refine x_cd (fun _=>?_) fun _=>?_ | refine x_cn (fun _=>?_) fun _=>?_ | apply x_cT | apply x_cF | apply x_sl | apply x_esc | apply x_end
  · exact fun k=>nomatch k
  rename_i ht
  have ht:=of_decide_eq_true ht
  obtain ⟨x,hx⟩:=ht.at
  obtain ⟨mts,hm,_⟩:=h.ss.mts hx
  refine x_at ht.1.1 hx (x_cond (fun _=>x_end (fun k=>nomatch k)) fun k=>x_end fun _=>⟨ht,x,mts,hx,hm,?_⟩)
  rcases h.ent _ _ _ hx hm with h | ⟨y,h⟩
  · exact h
  · rw [h.cls] at k;cases k
theorem lsum_cons (x:GLine) (l:List GLine) (a:Int):lsum (x :: l) a=(if x.Account=a then x.Amount else 0)+lsum l a:=rfl
theorem lsum_nil (a:Int):lsum [] a=0:=rfl
theorem On.inv {K:Int} {s:GState} (hI:Inv K s) {e:Int} {mts:List Int} {t:GState} {x y:GEnt} {d:Int} {f:Nat→Int} (h:On s e.toNat mts t y d f) (hx:s.Ents[e.toNat]?=some x) (hd:d=0) (hf:∀ i,f i=0) {R:List GReceipt} {S:List GSale} {T:List GTransit}
    (hR:∀ r∈R,ROk s.Master r) (hS:∀ r∈S,SOk s.Master r) (hT:∀ r∈T,TOk s.Master r) (l1:R.length≤40) (l2:S.length≤40) (l3:T.length≤40)
    (ha:sumf (accR e.toNat) R-sumf (accR e.toNat) s.Receipts=bl x 1-bl y 1) (ha':∀ f,f≠e.toNat→sumf (accR f) R=sumf (accR f) s.Receipts)
    (hw:sumf (wayT e.toNat) T-sumf (wayT e.toNat) s.Transits=bl y 12-bl x 12) (hw':∀ f,f≠e.toNat→sumf (wayT f) T=sumf (wayT f) s.Transits)
    (hg:grp y=grp x):Inv K ⟨t.Master,t.Ents,R,S,T,t.Done⟩:=by
  rw [h.eq]
  exact hI.up hx h.ms (.inl (h.done hd hf)) hR hS hT l1 l2 l3 ha ha' hw hw' hg
theorem Brought.facts {s t:GState} {e i c:Int} {l:GLayer} {carried above:Int} (h:Brought s e i c l t carried above):There s e i∧(0≤c∧c≤1)∧(1≤l.Qty∧l.Qty≤288230376151711744)∧(0≤l.Value∧l.Value≤288230376151711744)∧(-288230376151711744≤above∧above≤288230376151711744)∧carried=l.Value-above∧(-288230376151711744≤carried∧carried≤288230376151711744):=by
  obtain ⟨y,m,k,p,q,p',hs,e1,hio,hc,e2,hab⟩:=h
  obtain ⟨c1,c2,c3,c4,c5,c6,c7⟩:=hc
  have b1:=LR_b c1.ly;have b2:=LR_b hs.io.pp.ly
  exact ⟨hs.th,hs.lc,c6,c7,hab,e2,by omega⟩
theorem Fetched.facts {s t:GState} {e i c k q:Int} {l:GLayer} {w:Bool} (h:Fetched s e i c k q t l w):There s e i∧(0≤c∧c≤1)∧(1≤q∧q≤288230376151711744∨w=true)∧(0≤l.Value∧l.Value≤288230376151711744)∧(-288230376151711744≤l.Profit∧l.Profit≤288230376151711744)∧1≤q:=by
  obtain ⟨y,m,o,p,p2,p',hs,e1,hio,hc,h1,h2,h3⟩:=h
  obtain ⟨c1,c2,c3,c4,c5,c6,c7⟩:=hc
  have b1:=LR_b c1.ly;have b2:=LR_b hs.io.pp.ly
  refine ⟨hs.th,hs.lc,?_,c6,c7,h1⟩
  cases hw:w with
  | true=>exact .inr rfl
  | false=>have:=h2 hw;exact .inl (by omega)
theorem On.rc {s:GState} {e:Nat} {mts:List Int} {t:GState} {x:GEnt} {d:Int} {f:Nat→Int} (h:On s e mts t x d f):t.Receipts=s.Receipts∧t.Sales=s.Sales∧t.Transits=s.Transits∧t.Master=s.Master∧t.Ents.length=s.Ents.length:=by
  rw [h.eq];exact ⟨rfl,rfl,rfl,rfl,List.length_set ..⟩
theorem bl_eq {x y:GEnt} (h:y.Bal=x.Bal) (a:Nat):bl y a=bl x a:=by unfold bl;rw [h]
theorem bump0 {i:Nat} {v w:Int} (h:v+w=0):∀ j,bump (bump (fun _=>0) i v) i w j=0:=by
  intro j;show (0+_)+_=(0:Int);split <;> omega
theorem app_ok {α:Type} {P:α→Prop} {l:List α} {x:α} (h:∀ r∈l,P r) (hx:P x):∀ r∈l++[x],P r:=by
  intro r hr;rcases List.mem_append.1 hr with hr | hr
  · exact h r hr
  · rw [List.mem_singleton] at hr;subst hr;exact hx
theorem r15 {K:Int} {s:GState} {o:GOp} {n:Nat} (hn:66<n) (h:Inv K s) (hq:o.Qty≤9223372036854775807) (ha:0≤o.Amount∧o.Amount≤288230376151711744):Ex (Kept K s) (d_ref15_Do n s o):=by
  unfold d_ref15_Do t_ref15_Do
  simp only [WT.run,run_pw]
  repeat' with_reducible first | refine x_v ?_ | refine x_bv ?_ | apply x_bnd | apply x_p2 | apply x_bb | apply x_bp | apply x_bs | apply x_be | apply x_bk | apply x_bbi | apply x_bc | apply x_ba | refine x_cd (fun _=>?_) fun _=>?_ | refine x_cn (fun _=>?_) fun _=>?_ | apply x_cT | apply x_cF | apply x_sl | apply x_esc | apply x_end
  · exact .inr ⟨by simp,rfl⟩
  refine x_bi _ (rReady h o.E o.Item) fun r hr=>?_
  repeat' with_reducible first | refine x_v ?_ | refine x_bv ?_ | apply x_bnd | apply x_p2 | apply x_bb | apply x_bp | apply x_bs | apply x_be | apply x_bk | apply x_bbi | apply x_bc | apply x_ba | refine x_cd (fun _=>?_) fun _=>?_ | refine x_cn (fun _=>?_) fun _=>?_ | apply x_cT | apply x_cF | apply x_sl | apply x_esc | apply x_end
  · rename_i k;exact .inr ⟨k,rfl⟩
  · exact .inr ⟨by simp,rfl⟩
  rename_i k1 k2
  obtain ⟨ht,x,mts,hx,hm,ho⟩:=hr (by omega)
  have o0:=On.start hx hm ho
  refine x_bi _ (rBring (l:=⟨o.Qty,o.Amount,0⟩) hn h.ss hq) fun b hb=>?_
  repeat' with_reducible first | refine x_v ?_ | refine x_bv ?_ | apply x_bnd | apply x_p2 | apply x_bb | apply x_bp | apply x_bs | apply x_be | apply x_bk | apply x_bbi | apply x_bc | apply x_ba | refine x_cd (fun _=>?_) fun _=>?_ | refine x_cn (fun _=>?_) fun _=>?_ | apply x_cT | apply x_cF | apply x_sl | apply x_esc | apply x_end
  · rename_i k;exact .inr ⟨k,rfl⟩
  rename_i k3
  rcases hb with ⟨_,hb⟩ | ⟨k,_⟩
  rotate_left
  · exact absurd k k3
  obtain ⟨f1,f2,f3,f4,f5,f6,f7⟩:=hb.facts
  obtain ⟨x1,o1,p1,p2,p3⟩:=o0.brought hb
  refine x_bi _ (rPost hn (o1.ss h.ss) (by simp)) fun c hc=>?_
  repeat' with_reducible first | refine x_v ?_ | refine x_bv ?_ | apply x_bnd | apply x_p2 | apply x_bb | apply x_bp | apply x_bs | apply x_be | apply x_bk | apply x_bbi | apply x_bc | apply x_ba | refine x_cd (fun _=>?_) fun _=>?_ | refine x_cn (fun _=>?_) fun _=>?_ | apply x_cT | apply x_cF | apply x_sl | apply x_esc | apply x_end
  · rename_i k;exact .inr ⟨k,rfl⟩
  rename_i k4
  rcases hc with ⟨_,hc⟩ | ⟨k,_⟩
  rotate_left
  · exact absurd k k4
  obtain ⟨x2,o2,q1,q2,q3⟩:=o1.posted hc (by simp [lsum_cons,lsum_nil])
  refine x_bi _ (rTurn hn (o2.ss h.ss)) fun d hd=>?_
  repeat' with_reducible first | refine x_v ?_ | refine x_bv ?_ | apply x_bnd | apply x_p2 | apply x_bb | apply x_bp | apply x_bs | apply x_be | apply x_bk | apply x_bbi | apply x_bc | apply x_ba | refine x_cd (fun _=>?_) fun _=>?_ | refine x_cn (fun _=>?_) fun _=>?_ | apply x_cT | apply x_cF | apply x_sl | apply x_esc | apply x_end
  · rename_i k;exact .inr ⟨k,rfl⟩
  rename_i k5
  rcases hd with ⟨_,hd⟩ | ⟨k,_⟩
  rotate_left
  · exact absurd k k5
  obtain ⟨x3,o3,r1,r2⟩:=o2.turned hd
  obtain ⟨g1,g2,g3,g4,g5⟩:=o3.rc
  have hl1:=h.l1;have hlen:=h.len;have hth:=f1.1;have hth2:=f1.2
  refine x_as (by rw [g1];omega) (x_bnd (x_as (by rw [g1];simp;omega) (x_end (.inl ⟨rfl,?_⟩))))
  have hB:∀ a:Nat,a<17→bl x3 a=bl x a+lsum [⟨0,b.2.1⟩,⟨6,b.2.2.1⟩,⟨1,0-o.Amount⟩] a:=fun a ha=>by rw [bl_eq r1,q1 a ha,bl_eq p1]
  have b1:=hB 1 (by decide);have b12:=hB 12 (by decide);have b13:=hB 13 (by decide);have b14:=hB 14 (by decide)
  simp [lsum_cons,lsum_nil] at b1 b12 b13 b14
  refine o3.inv h hx (by simp [lsum_cons,lsum_nil]) (bump0 (by simp [rsum];omega)) ?_ (by rw [g2];exact h.sal) (by rw [g3];exact h.tra) (by rw [g1];simp;omega) (by rw [g2];exact h.l2) (by rw [g3];exact h.l3) ?_ ?_ (by rw [g3];omega) (by intro f _;rw [g3]) (by unfold grp;omega)
  · rw [g1]
    refine app_ok h.rct ⟨by simp only;omega,hth2,f2,?_,f4,?_,f4,?_⟩
    all_goals (simp only at *;omega)
  · rw [g1,sumf_app]
    simp only [sumf,accR]
    rw [if_pos (by omega)];omega
  · intro f hf
    rw [g1,sumf_app]
    simp only [sumf,accR]
    rw [if_neg (by omega)];omega
end Go.Pv
