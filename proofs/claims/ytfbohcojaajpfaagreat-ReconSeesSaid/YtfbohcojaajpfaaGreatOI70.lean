import Derived.Test.YtfbohcojaajpfaaGreatOK70
import Derived.Test.YtfbohcojaajpfaaGreatOH70
set_option linter.unusedVariables false
set_option linter.unusedSimpArgs false
namespace Go.Pv
open Go.Proofs
set_option maxRecDepth 100000
set_option maxHeartbeats 1000000
def withS (s:GState) (S:List GSale):GState:={ s with Sales:=S }
theorem SS.withS {s:GState} (h:SS s) (S:List GSale):SS (withS s S):=⟨⟨h.mas,h.len⟩,h.es⟩
def Sm (x y:GEnt):Prop:=bl y 1=bl x 1∧bl y 12=bl x 12∧bl y 13=bl x 13∧bl y 14=bl x 14∧y.Now=x.Now
theorem Sm.rfl' (x:GEnt):Sm x x:=⟨rfl,rfl,rfl,rfl,rfl⟩
theorem Sm.trans {x y z:GEnt} (h:Sm x y) (g:Sm y z):Sm x z:=⟨g.1.trans h.1,g.2.1.trans h.2.1,g.2.2.1.trans h.2.2.1,g.2.2.2.1.trans h.2.2.2.1,g.2.2.2.2.trans h.2.2.2.2⟩
def Cl (s:GState) (e:Nat) (mts:List Int) (x:GEnt) (t:GState):Prop:=∃ S y,S.length≤40∧(∀ r∈S,SOk s.Master r)∧On (withS s S) e mts t y 0 (fun _=>0)∧Sm x y
theorem rsettle {s t:GState} {e i c:Int} {mts:List Int} {x:GEnt} {n:Nat} (hn:66<n) (hs:SS s) (h:Cl s e.toNat mts x t) (ht:There s e i) (hc:0≤c∧c≤1):Ex (fun r=>r.2=0→Cl s e.toNat mts x r.1) (d_ref23_settle n t e i c):=by
  obtain ⟨S,y,hl,hS,o,sm⟩:=h
  obtain ⟨g1,g2,g3,g4,g5⟩:=o.rc
  have g2:t.Sales=S:=g2
  have g4:t.Master=s.Master:=g4
  have g5:t.Ents.length=s.Ents.length:=g5
  have hst:=o.ss (hs.withS S)
  have htt:There t e i:=⟨⟨ht.1.1,by rw [g5];exact ht.1.2⟩,by rw [g4];exact ht.2⟩
  obtain ⟨y',m,k,p,q,sp⟩:=hst.spot htt hc
  have hy':=sp.en;rw [o.at] at hy';cases hy'
  have hlr:=LR_b sp.io.pp.ly
  have h0:=sp.io.pp.p0;have h1:=sp.io.pp.p1;have h2:=sp.io.pp.p2;have h3:=sp.io.pp.sum
  unfold d_ref23_settle t_ref23_settle
  simp only [WT.run,run_pw]
  refine x_eq (rAt hst.toS0 htt hc o.at sp.pp) (x_v (x_v (x_bnd (x_cd (fun _=>x_end fun _=>⟨S,y,hl,hS,o,sm⟩) fun _=>x_bi _ (rSettle hn sp.io.pp) fun a ha=>?_))))
  obtain ⟨a1,a2,a3,a4,a5,a6,a7,a8⟩:=ha
  have hio:IO m a.1 q:=⟨a1,sp.io.qq,by have:=sp.io.sq;omega,by have:=sp.io.ss;omega⟩
  obtain ⟨x1,o1,p1,p2,p3⟩:=o.pooled sp hio (v:=-(a.2.a0.Value+a.2.a1.Value+a.2.a2.Value)) (by omega)
  refine x_eq (rPut hst sp) (x_v (x_v (x_v (x_bi _ (rPost hn (o1.ss (hs.withS S)) (by simp)) fun b hb=>?_))))
  refine x_bnd (x_cd (fun k=>x_end fun k2=>absurd k2 k) fun kz=>?_)
  rcases hb with ⟨_,hb⟩ | ⟨k,_⟩
  rotate_left
  · exact absurd k kz
  obtain ⟨x2,o2,q1,q2,q3⟩:=o1.posted hb (by simp [lsum_cons,lsum_nil])
  refine x_bi _ (rTurn hn (o2.ss (hs.withS S))) fun d hd=>?_
  refine x_bnd (x_cd (fun k=>x_end fun k2=>absurd k2 k) fun kz=>?_)
  rcases hd with ⟨_,hd⟩ | ⟨k,_⟩
  rotate_left
  · exact absurd k kz
  obtain ⟨x3,o3,r1,r2⟩:=o2.turned hd
  obtain ⟨f1,f2,f3,f4,f5⟩:=o3.rc
  have f2:d.1.Sales=S:=f2
  have f4:d.1.Master=s.Master:=f4
  have f5:d.1.Ents.length=s.Ents.length:=f5
  refine x_bi _ (rCosted (l:=a.2.a0) hn (by rw [f5];exact ht.1) (by rw [f2,f4];exact hS) (by rw [f2];exact hl) a5 a8) fun w hw=>x_end fun k=>?_
  obtain ⟨S',e1,e2,e3⟩:=hw k
  have hB:∀ a':Nat,a' < 17→bl x3 a'=bl y a'+lsum [⟨5,a.2.a0.Value⟩,⟨7,a.2.a1.Value⟩,⟨8,a.2.a2.Value⟩,⟨0,0-a.2.a0.Value⟩,⟨0,0-a.2.a1.Value⟩,⟨0,0-a.2.a2.Value⟩] a':=fun a' ha=>by rw [bl_eq r1,q1 a' ha,bl_eq p1]
  have c1:=hB 1 (by decide);have c12:=hB 12 (by decide);have c13:=hB 13 (by decide);have c14:=hB 14 (by decide)
  simp [lsum_cons,lsum_nil] at c1 c12 c13 c14
  refine ⟨S',x3,e2,by rw [f4] at e3;exact e3,?_,sm.trans ⟨c1,c12,c13,c14,r2.trans (q2.trans p2)⟩⟩
  have z:(fun (_:Nat)=>(0:Int))=bump (bump (fun _=>0) i.toNat (-(a.2.a0.Value+a.2.a1.Value+a.2.a2.Value))) i.toNat (-rsum ⟨0,0,0,0,0,a.2.a0.Value,0,0,a.2.a1.Value,a.2.a2.Value,0⟩):=by
    rw [bump_bumpz (by simp [rsum];omega)]
  refine ⟨o3.en,o3.ms,?_,o3.es,?_,o3.opn,o3.ahd⟩
  · rw [e1,o3.eq];rfl
  · have:=o3.eb
    rw [← z] at this
    have zz:0+-(a.2.a0.Value+a.2.a1.Value+a.2.a2.Value)-lsum [⟨5,a.2.a0.Value⟩,⟨7,a.2.a1.Value⟩,⟨8,a.2.a2.Value⟩,⟨0,0-a.2.a0.Value⟩,⟨0,0-a.2.a1.Value⟩,⟨0,0-a.2.a2.Value⟩] 0=0:=by simp [lsum_cons,lsum_nil];omega
    rw [zz] at this;exact this
theorem ES.flag {n:Nat} {mts:List Int} {per:Int} {x:GEnt} (h:ES n mts per x) (c:Bool) (a:List GEnt):ES n mts per { x with Closed:=c,Ahead:=a }:=⟨h.now,h.lp,h.lr,h.lb,h.lc,h.ld,h.lm,h.bal,h.pri,h.dwn,h.pool,h.roll⟩
theorem EB.flag {x:GEnt} (h:EB x) (c:Bool) (a:List GEnt):EB { x with Closed:=c,Ahead:=a }:=⟨h.ctl,h.wri,h.bln,h.rol⟩
theorem rClose {K:Int} {s:GState} {e:Int} {n:Nat} (hn:66<n) (h:Inv K s):Ex (Kept K s) (d_ref23_Close n s e):=by
  have hss:=h.ss
  have hf:=hss.toS0.few
  have hl2:=h.l2
  unfold d_ref23_Close t_ref23_Close
  simp only [WT.run,run_pw]
  refine x_bi (fun (b:Bool)=>b=false→0≤e∧e<(s.Ents.length:Int)) ?_ fun b hb=>x_cond (fun _=>x_end (.inr ⟨by simp,rfl⟩)) fun kb=>?_
  · refine x_bnd (x_cd (fun _=>x_end (fun k=>nomatch k)) fun _=>x_bnd (x_end fun k=>by have:=of_decide_eq_false k;omega))
  have he:=hb kb
  have hx:s.Ents[e.toNat]?=some (s.Ents[e.toNat]'(by omega)):=List.getElem?_eq_getElem (by omega)
  generalize s.Ents[e.toNat]'(by omega)=x at hx
  obtain ⟨mts,hm,hml,hmb,hes⟩:=hss.mts hx
  refine x_at he.1 hx (x_cond (fun _=>x_end (.inr ⟨by simp,rfl⟩)) fun kc=>?_)
  have ho:EO s.Master mts x:=by
    rcases h.ent _ _ _ hx hm with g | ⟨y,g⟩
    · exact g
    · rw [g.cls] at kc;cases kc
  have o0:=On.start hx hm ho
  have cl0:Cl s e.toNat mts x s:=⟨s.Sales,x,h.l2,h.sal,o0,Sm.rfl' x⟩
  refine x_bi (fun (r:GState⊕(GState×Int))=>match r with | .inl t=>Cl s e.toNat mts x t | .inr r=>r.2≠0∧r.1=s)
    (x_iter (fun (v:Int×GState)=>0≤v.1∧v.1≤(s.Master.Weights.length:Int)∧Cl s e.toNat mts x v.2) (fun (v:Int×GState)=>s.Master.Weights.length-v.1.toNat) ?_ (v:=(0,s)) ⟨by simp,by simp,cl0⟩ (by simp;omega)) fun r hr=>x_sel (fun t e1=>?_) fun q e1=>?_
  · rintro ⟨i,t⟩ ⟨a1,a2,a3⟩
    simp only at a1 a2 a3
    refine x_p2 (x_bnd (x_cd (fun k=>?_) fun k=>x_esc (x_brk a3)))
    have k:i<(s.Master.Weights.length:Int):=k
    have hth:There s e i:=⟨he,a1,k⟩
    refine x_bi (fun (r:GState⊕((Int×GState)⊕(GState⊕(GState×Int))))=>match r with | .inl t=>Cl s e.toNat mts x t | .inr (.inr (.inr r))=>r.2≠0∧r.1=s | _=>False) ?_ fun r hr=>x_sel (fun t e1=>?_) fun q e1=>?_
    · refine x_bi (fun (r:GState⊕(GState⊕((Int×GState)⊕(GState⊕(GState×Int)))))=>match r with | .inl t=>Cl s e.toNat mts x t | .inr (.inr (.inr (.inr r)))=>r.2≠0∧r.1=s | _=>False)
        (x_iter (fun (v:Int×GState)=>0≤v.1∧v.1≤2∧Cl s e.toNat mts x v.2) (fun (v:Int×GState)=>2-v.1.toNat) ?_ (v:=(0,t)) ⟨by simp,by simp,a3⟩ (by simp;omega)) fun r hr=>x_sel (fun t e1=>x_brk (by subst e1;exact hr)) fun q e1=>?_
      · rintro ⟨c,u⟩ ⟨b1,b2,b3⟩
        simp only at b1 b2 b3
        refine x_p2 ?_
        refine x_bi (fun (b:Bool)=>b=true→c<2) (x_bnd (x_cd (fun kc=>x_at he.1 hm (x_ix a1 (by first | omega | (simp only;omega)) fun _ _=>x_bnd (x_end fun _=>kc))) fun _=>x_end (fun k=>nomatch k))) fun b hb=>x_cond (fun kb=>?_) fun _=>x_esc (x_brk b3)
        have kc:=hb kb
        refine x_bi _ (rsettle hn hss b3 hth ⟨b1,by omega⟩) fun w hw=>x_bnd (x_cd (fun k=>x_esc (x_esc (x_esc (x_esc (x_esc (x_end ⟨k,rfl⟩)))))) fun k=>x_v (x_brk ⟨⟨by first | omega | (simp only;omega),by first | omega | (simp only;omega),hw (by omega)⟩,by first | omega | (simp only;omega)⟩))
      · subst e1
        rcases q with q | q | q | q
        · exact hr.elim
        · exact hr.elim
        · exact hr.elim
        · exact hr
    · subst e1
      exact x_v (x_brk ⟨⟨by first | omega | (simp only;omega),by first | omega | (simp only;omega),hr⟩,by first | omega | (simp only;omega)⟩)
    · subst e1
      cases q with
      | inl q=>exact hr.elim
      | inr q=>cases q with
        | inl q=>exact hr.elim
        | inr q=>exact hr
  · subst e1
    obtain ⟨S,y,l40,hS,o,sm⟩:=(hr:Cl s e.toNat mts x t)
    refine x_bi _ (rMark hn (hss.withS S) o he) fun w hw=>?_
    refine x_bnd (x_cd (fun k=>x_end (.inr ⟨k,rfl⟩)) fun kz=>?_)
    obtain ⟨z,oz,z1,z12,z13,z14,znow⟩:=hw (by omega)
    obtain ⟨f1,f2,f3,f4,f5⟩:=oz.rc
    have hlz:=oz.es.few hf.2.2
    have f5:w.1.Ents.length=s.Ents.length:=f5
    repeat' with_reducible first | refine x_v ?_ | refine x_bv ?_ | apply x_bnd | apply x_p2 | apply x_bb | apply x_bp | apply x_bs | apply x_be | apply x_bk | apply x_bbi | apply x_bc | apply x_ba | refine x_cd (fun _=>?_) fun _=>?_ | refine x_cn (fun _=>?_) fun _=>?_ | apply x_cT | apply x_cF | apply x_sl | apply x_esc | apply x_end | refine x_a ?_
    refine x_at he.1 oz.at ?_
    repeat' with_reducible first | refine x_v ?_ | refine x_bv ?_ | apply x_bnd | apply x_p2 | apply x_bb | apply x_bp | apply x_bs | apply x_be | apply x_bk | apply x_bbi | apply x_bc | apply x_ba | refine x_cd (fun _=>?_) fun _=>?_ | refine x_cn (fun _=>?_) fun _=>?_ | apply x_cT | apply x_cF | apply x_sl | apply x_esc | apply x_end | refine x_a ?_
    refine x_at he.1 oz.at (x_at he.1 hx (x_end (.inl ⟨rfl,?_⟩)))
    have smz:Sm x z:=sm.trans ⟨z1,z12,z13,z14,znow⟩
    obtain ⟨s1,s12,s13,s14,snow⟩:=smz
    have oo:=oz.done rfl fun _=>rfl
    have fin:=h.up (x':={ z with Closed:=true,Ahead:=[x] }) (R:=s.Receipts) (S:=S) (T:=s.Transits) hx hm (.inr ⟨x,oo.es.flag true [x],oo.ee.flag true [x],rfl,rfl,ho,snow.symm,s1.symm,s12.symm,s13.symm,s14.symm⟩) h.rct hS h.tra h.l1 l40 h.l3 (by show _=bl x 1-bl z 1;omega) (fun _ _=>rfl) (by show _=bl z 12-bl x 12;omega) (fun _ _=>rfl) (by show bl z 13+bl z 14=bl x 13+bl x 14;omega)
    rw [oz.eq]
    show Inv K ⟨s.Master,(s.Ents.set e.toNat z).set e.toNat _,s.Receipts,S,s.Transits,s.Done⟩
    rw [List.set_set];exact fin
  · subst e1;exact .inr hr
theorem r19 {K:Int} {s:GState} {o:GOp} {n:Nat} (hn:66<n) (h:Inv K s) (ha:0≤o.Amount∧o.Amount≤288230376151711744) (hR:o.Refs.length≤60):Ex (Kept K s) (d_ref19_Do n s o):=by
  have hl1:=h.l1
  unfold d_ref19_Do t_ref19_Do
  simp only [WT.run,run_pw]
  refine x_bi (fun (b:Bool)=>b=false→1≤o.Refs.length) ?_ fun b hb=>x_cond (fun _=>x_end (.inr ⟨by simp,rfl⟩)) fun kb=>?_
  · refine x_bnd (x_cd (fun _=>x_end (fun k=>nomatch k)) fun _=>x_bnd (x_end fun k=>by have:=of_decide_eq_false k;omega))
  have hlen:=hb kb
  refine x_bi (fun (r:Unit⊕(GState×Int))=>match r with | .inl _=>∀ x∈o.Refs,0≤x∧x<(s.Receipts.length:Int) | .inr q=>q.2≠0∧q.1=s)
    (x_iter (fun (i:Int)=>0≤i∧i≤(o.Refs.length:Int)∧((∀ x∈o.Refs.drop i.toNat,0≤x∧x<(s.Receipts.length:Int))→∀ x∈o.Refs,0≤x∧x<(s.Receipts.length:Int))) (fun (i:Int)=>o.Refs.length-i.toNat) ?_ ⟨by simp,by simp,by simp⟩ (by simp;omega)) fun r hr=>x_sel (fun u e=>?_) fun q e=>?_
  · rintro i ⟨h0,h1,h2⟩
    refine x_bnd (x_cd (fun k=>?_) fun k=>x_esc (x_brk (h2 fun x hx=>by rw [List.drop_eq_nil_of_le (by omega)] at hx;cases hx)))
    have hx:o.Refs[i.toNat]?=some (o.Refs[i.toNat]'(by omega)):=List.getElem?_eq_getElem (by omega)
    generalize o.Refs[i.toNat]'(by omega)=x at hx
    refine x_bi (fun (b:Bool)=>b=false→0≤x∧x<(s.Receipts.length:Int)) (x_at h0 hx (x_bnd (x_cd (fun _=>x_end (fun k=>nomatch k)) fun k1=>x_at h0 hx (x_bnd (x_end fun k2=>by have:=of_decide_eq_false k2;omega))))) fun b hb=>x_cond (fun _=>x_esc (x_esc (x_end ⟨by simp,rfl⟩))) fun kb=>x_v (x_brk ⟨⟨by omega,by omega,fun hh=>h2 fun y hy=>?_⟩,by omega⟩)
    rw [(drop_at hx).2] at hy
    rcases List.mem_cons.1 hy with rfl | hy
    · exact hb kb
    · exact hh y (by rw [show (i+1).toNat=i.toNat+1 by omega];exact hy)
  · have hrf:∀ x∈o.Refs,0≤x∧x<(s.Receipts.length:Int):=by subst e;exact hr
    have h0:o.Refs[(0:Int).toNat]?=some (o.Refs[0]'(by omega)):=List.getElem?_eq_getElem (by omega)
    generalize o.Refs[0]'(by omega)=x0 at h0
    obtain ⟨g0,g1⟩:=hrf x0 (mem_at h0)
    refine x_at (by omega) h0 (x_ix g0 g1 fun z hz=>?_)
    have hz:s.Receipts[x0.toNat]?=some z:=hz
    have hzk:=h.rct z (mem_at hz)
    refine x_bi (fun (r:Unit⊕(GState×Int))=>match r with | .inl _=>∀ x∈o.Refs,∀ y,s.Receipts[x.toNat]?=some y→y.Entity=z.Entity | .inr q=>q.2≠0∧q.1=s)
      (x_iter (fun (i:Int)=>1≤i∧i≤(o.Refs.length:Int)∧((∀ x∈o.Refs.drop i.toNat,∀ y,s.Receipts[x.toNat]?=some y→y.Entity=z.Entity)→∀ x∈o.Refs,∀ y,s.Receipts[x.toNat]?=some y→y.Entity=z.Entity)) (fun (i:Int)=>o.Refs.length-i.toNat) ?_ ⟨by simp,by omega,?_⟩ (by simp;omega)) fun r hr=>x_sel (fun u e=>?_) fun q e=>?_
    · rintro i ⟨h0,h1,h2⟩
      refine x_bnd (x_cd (fun k=>?_) fun k=>x_esc (x_brk (h2 fun x hx=>by rw [List.drop_eq_nil_of_le (by omega)] at hx;cases hx)))
      have hx:o.Refs[i.toNat]?=some (o.Refs[i.toNat]'(by omega)):=List.getElem?_eq_getElem (by omega)
      generalize o.Refs[i.toNat]'(by omega)=x at hx
      obtain ⟨g2,g3⟩:=hrf x (mem_at hx)
      refine x_at (by omega) hx (x_ix g2 g3 fun y hy=>x_bnd (x_cd (fun _=>x_esc (x_esc (x_end ⟨by simp,rfl⟩))) fun k2=>x_v (x_brk ⟨⟨by omega,by omega,fun hh=>h2 fun w hw=>?_⟩,by omega⟩)))
      have hy:s.Receipts[x.toNat]?=some y:=hy
      rw [(drop_at hx).2] at hw
      rcases List.mem_cons.1 hw with rfl | hw
      · intro y' hy';rw [hy] at hy';cases hy';omega
      · exact hh w (by rw [show (i+1).toNat=i.toNat+1 by omega];exact hw)
    · intro hh w hw
      have e1:o.Refs=x0 :: o.Refs.drop 1:=by
        have:=(drop_at (l:=o.Refs) (i:=0) h0).2
        simpa using this
      rw [e1] at hw
      rcases List.mem_cons.1 hw with rfl | hw
      · intro y hy;rw [hz] at hy;cases hy;rfl
      · exact hh w hw
    · have hsame:∀ x∈o.Refs,∀ y,s.Receipts[x.toNat]?=some y→y.Entity=z.Entity:=by subst e;exact hr
      refine x_bi _ (rReady h z.Entity z.Item) fun r hr=>?_
      refine x_bnd (x_cd (fun k=>x_end (.inr ⟨k,rfl⟩)) fun kz=>?_)
      obtain ⟨ht,x,mts,hx,hm,ho⟩:=hr (by omega)
      have o0:=On.start hx hm ho
      refine x_bi _ (rWeights hn hR hl1 fun r hr=>(h.rct r hr).2.1) fun w hw=>x_bi _ (rSplit hn (by omega)) fun sp hsp=>?_
      refine x_bnd (x_cd (fun k=>x_end (.inr ⟨k,rfl⟩)) fun kz=>?_)
      obtain ⟨s1,s2,s3⟩:=hsp (by omega)
      have hpos:=mem_le fun y hy=>(s2 y hy).1
      refine x_bi (fun (r:(Int×GState)⊕(GState×Int))=>match r with | .inl r=>(0≤r.1∧r.1≤o.Amount)∧∃ x',On s z.Entity.toNat mts r.2 x' r.1 (fun _=>0)∧x'.Bal=x.Bal | .inr q=>q.2≠0∧q.1=s)
        (x_iter (fun (v:Int×Int×GState)=>0≤v.2.1∧v.2.1≤(sp.1.length:Int)∧(0≤v.1∧v.1+sumI (sp.1.drop v.2.1.toNat)≤o.Amount)∧∃ x',On s z.Entity.toNat mts v.2.2 x' v.1 (fun _=>0)∧x'.Bal=x.Bal) (fun (v:Int×Int×GState)=>sp.1.length-v.2.1.toNat) ?_ (v:=(0,0,s)) ⟨by simp,by simp,⟨by simp,by simp;omega⟩,x,o0,rfl⟩ (by simp;omega)) fun r hr=>x_sel (fun a e=>?_) fun q e=>?_
      · rintro ⟨all,i,t⟩ ⟨a1,a2,a3,x1,o1,p1⟩
        simp only at a1 a2 a3 o1
        refine x_p2 (x_p2 (x_bnd (x_cd (fun k=>?_) fun k=>x_esc (x_brk ⟨?_,x1,o1,p1⟩))))
        · have k:i<(sp.1.length:Int):=k
          have hv:sp.1[i.toNat]?=some (sp.1[i.toNat]'(by omega)):=List.getElem?_eq_getElem (by omega)
          generalize sp.1[i.toNat]'(by omega)=v at hv
          have hrx:o.Refs[i.toNat]?=some (o.Refs[i.toNat]'(by omega)):=List.getElem?_eq_getElem (by omega)
          generalize o.Refs[i.toNat]'(by omega)=rx at hrx
          obtain ⟨g2,g3⟩:=hrf rx (mem_at hrx)
          refine x_at a1 hrx (x_ix g2 g3 fun y hy=>x_at a1 hv ?_)
          have hy:s.Receipts[rx.toNat]?=some y:=hy
          have hyk:=h.rct y (mem_at hy)
          have hye:=hsame rx (mem_at hrx) y hy
          refine x_bi _ (rShare hn h.ss hyk o1 hye (s2 v (mem_at hv)) ht.1) fun c hc=>?_
          refine x_bnd (x_cd (fun kc=>x_esc (x_esc (x_end ⟨kc,rfl⟩))) fun kc=>?_)
          obtain ⟨c1,x2,o2,p2⟩:=hc (by omega)
          have hd:=sumI_drop hv
          have e2:(i+1).toNat=i.toNat+1:=by omega
          have hnn:0≤sumI (sp.1.drop (i.toNat+1)):=sumf_nn fun y hy=>(s2 y (List.mem_of_mem_drop hy)).1
          refine x_v (x_v (x_brk ⟨⟨by first | omega | (simp only;omega),by first | omega | (simp only;omega),⟨by first | omega | (simp only;omega),?_⟩,x2,o2,p2.trans p1⟩,by first | omega | (simp only;omega)⟩))
          show all+c.2.1+sumI (sp.1.drop (i+1).toNat)≤o.Amount
          rw [e2];omega
        · have k:¬ i<(sp.1.length:Int):=k
          have hnn:0≤sumI (sp.1.drop i.toNat):=sumf_nn fun y hy=>(s2 y (List.mem_of_mem_drop hy)).1
          first | omega | (simp only;omega)
      · subst e
        obtain ⟨b1,x1,o1,p1⟩:=hr
        refine x_p2 (x_v (x_v (x_bi _ (rPost hn (o1.ss h.ss) (by simp)) fun c hc=>?_)))
        refine x_bnd (x_cd (fun k=>x_end (.inr ⟨k,rfl⟩)) fun kz=>?_)
        rcases hc with ⟨_,hc⟩ | ⟨k,_⟩
        rotate_left
        · exact absurd k kz
        obtain ⟨x2,o2,q1,q2,q3⟩:=o1.posted hc (by simp [lsum_cons,lsum_nil])
        obtain ⟨f1,f2,f3,f4,f5⟩:=o2.rc
        have hB:∀ a':Nat,a' < 17→bl x2 a'=bl x a'+lsum [⟨0,a.1⟩,⟨9,o.Amount-a.1⟩,⟨2,0-o.Amount⟩] a':=fun a' ha=>by rw [q1 a' ha,bl_eq p1]
        have c1:=hB 1 (by decide);have c12:=hB 12 (by decide);have c13:=hB 13 (by decide);have c14:=hB 14 (by decide)
        simp [lsum_cons,lsum_nil] at c1 c12 c13 c14
        refine x_end (.inl ⟨rfl,?_⟩)
        exact o2.fin h hx (by simp [lsum_cons,lsum_nil]) (fun _=>rfl) (S:=c.1.Sales) (by rw [f2];exact h.sal) (by rw [f2];exact h.l2) c1 c12 c13 c14
      · subst e;exact .inr hr
    · subst e;exact .inr hr
  · subst e;exact .inr hr
end Go.Pv
