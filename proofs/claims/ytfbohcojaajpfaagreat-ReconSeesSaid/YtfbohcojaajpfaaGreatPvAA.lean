import Derived.Test.YtfbohcojaajpfaaGreatRG70
import Derived.Test.YtfbohcojaajpfaaGreatX70j
import Derived.Test.YtfbohcojaajpfaaGreatPvU
set_option linter.unusedVariables false
set_option linter.unusedSimpArgs false
namespace Go.Pv
open Go.Proofs
set_option maxRecDepth 1000000
set_option maxHeartbeats 1000000
theorem awk2:d_law24_awake 300=some true:=by decide +kernel
theorem pCheckG {K:Int} {s t:GState} (h:Inv K s) (hK:K≤1000000) {n:Nat} (hn:200<n) (hm:t.Master=s.Master) (hl0:t.Ents.length=s.Ents.length) (hR:t.Receipts=s.Receipts) (hS:t.Sales=s.Sales) (hT:t.Transits=s.Transits) (hD:t.Done=s.Done)
    (hE:∀ (i:Int) x,0≤i→t.Ents[i.toNat]?=some x→Ex (fun _=>True) (d_stock_entity n s.Master i x)):Ex (fun _=>True) (d_stock_Check n t):=by
  have hd:=h.don;have hl:=h.len;have l1:=h.l1;have l2:=h.l2;have l3:=h.l3
  have hme:=h.mas.ents;have hw:=h.mas.n1;have hf:=h.ss.toS0.few
  unfold d_stock_Check t_stock_Check
  simp only [WT.run,run_pw,pStockIn,Option.bind_some]
  rw [hm,hR,hS,hT,hD]
  refine x_bi (fun b=>b=false) ?_ fun b hb=>?_
  · refine x_eq (pMaster (by omega) h.mas) (x_bnd (x_cn (fun k=>nomatch k) fun _=>x_bnd (x_cd (fun k=>absurd (by omega) k) fun _=>x_bnd (x_bnd (x_cd (fun k=>absurd k ?_) fun _=>?_)))))
    · repeat' split
      all_goals omega
    · exact x_eq (pSumsT (by omega) (by simp) (fun y hy=>by rw [List.mem_singleton] at hy;subst hy;omega)) (x_bnd (x_end rfl))
  subst hb
  refine x_cF ?_
  refine x_bi (fun (r:Unit⊕Bool)=>True) (x_iter (fun (i:Int)=>0≤i∧i≤(t.Ents.length:Int)) (fun (i:Int)=>t.Ents.length-i.toNat) ?_ (v:=0) ⟨by simp,by simp⟩ (by simp;omega)) fun r hr=>x_sel (fun _ _=>?_) fun _ _=>trivial
  · rintro i ⟨h0,h1⟩
    refine x_bnd (x_cd (fun k=>x_ix h0 k fun x hx=>x_bi _ (hE i x h0 hx) fun b _=>x_bnd (x_cn (fun _=>x_esc (x_esc (x_end trivial))) fun _=>x_v (x_brk ⟨⟨by omega,by omega⟩,by omega⟩))) fun _=>x_esc (x_brk trivial))
  refine x_bi (fun (r:Unit⊕Bool)=>r=.inl ()) (x_iter (fun (i:Int)=>0≤i∧i≤(s.Receipts.length:Int)) (fun (i:Int)=>s.Receipts.length-i.toNat) ?_ (v:=0) ⟨by simp,by simp⟩ (by simp;omega)) fun r hr=>?_
  · rintro i ⟨h0,h1⟩
    refine x_bnd (x_cd (fun k=>x_ix h0 k fun x hx=>?_) fun _=>x_esc (x_brk rfl))
    obtain ⟨g1,g2,g3,g4,g5,g6,g7,g8⟩:=h.rct x (mem_at hx)
    refine x_bi (fun b=>b=false) ?_ fun b hb=>by subst hb;exact x_cF (x_v (x_brk ⟨⟨by omega,by omega⟩,by omega⟩))
    refine x_bi (fun b=>b=true) ?_ fun b hb=>?_
    · refine x_bi (fun b=>b=true) (x_v (x_cd (fun _=>x_v (x_cd (fun _=>x_end (decide_eq_true (by omega))) fun k=>absurd (by omega) k)) fun k=>absurd (by omega) k)) fun b hb=>x_end hb
    · subst hb
      refine x_bnd (x_cn (fun k=>nomatch k) fun _=>x_eq (pSumsT (by omega) (by simp) (fun y hy=>by simp only [List.mem_cons,List.not_mem_nil,or_false] at hy;rcases hy with rfl | rfl | rfl <;> omega)) (x_bnd (x_cn (fun k=>nomatch k) fun _=>?_)))
      rw [decide_eq_true g6,decide_eq_true g8]
      exact x_bnd (x_cF (x_bnd (x_end rfl)))
  subst hr
  refine x_sl ?_
  refine x_bi (fun (r:Unit⊕Bool)=>r=.inl ()) (x_iter (fun (i:Int)=>0≤i∧i≤(s.Sales.length:Int)) (fun (i:Int)=>s.Sales.length-i.toNat) ?_ (v:=0) ⟨by simp,by simp⟩ (by simp;omega)) fun r hr=>?_
  · rintro i ⟨h0,h1⟩
    refine x_bnd (x_cd (fun k=>x_ix h0 k fun x hx=>?_) fun _=>x_esc (x_brk rfl))
    obtain ⟨g1,g2,g3,g4,g5,g6,g7,g8⟩:=h.sal x (mem_at hx)
    unfold InM at g7
    refine x_bi (fun b=>b=false) ?_ fun b hb=>by subst hb;exact x_cF (x_v (x_brk ⟨⟨by omega,by omega⟩,by omega⟩))
    refine x_bi (fun b=>b=true) ?_ fun b hb=>?_
    · refine x_bi (fun b=>b=true) (x_v (x_cd (fun _=>x_v (x_cd (fun _=>x_end (decide_eq_true (by omega))) fun k=>absurd (by omega) k)) fun k=>absurd (by omega) k)) fun b hb=>x_end hb
    · subst hb
      refine x_bnd (x_cn (fun k=>nomatch k) fun _=>x_eq (pSumsT (by omega) (by simp) (fun y hy=>by simp only [List.mem_cons,List.not_mem_nil,or_false] at hy;rcases hy with rfl | rfl <;> omega)) (x_bnd (x_cn (fun k=>nomatch k) fun _=>?_)))
      rw [decide_eq_true g5,decide_eq_true g8]
      exact x_bnd (x_cF (x_eq (pSumsT (by omega) (by simp) (fun y hy=>by rw [List.mem_singleton] at hy;subst hy;exact g7)) (x_bnd (x_cF (x_bnd (x_end rfl))))))
  subst hr
  refine x_sl ?_
  refine x_bi (fun (r:Unit⊕Bool)=>r=.inl ()) (x_iter (fun (i:Int)=>0≤i∧i≤(s.Transits.length:Int)) (fun (i:Int)=>s.Transits.length-i.toNat) ?_ (v:=0) ⟨by simp,by simp⟩ (by simp;omega)) fun r hr=>by subst hr;exact x_sl (x_end trivial)
  rintro i ⟨h0,h1⟩
  refine x_bnd (x_cd (fun k=>x_ix h0 k fun x hx=>?_) fun _=>x_esc (x_brk rfl))
  obtain ⟨g1,g2,g3,g4,g5,g6⟩:=h.tra x (mem_at hx)
  unfold InM at g6
  refine x_bi (fun b=>b=false) ?_ fun b hb=>by subst hb;exact x_cF (x_v (x_brk ⟨⟨by omega,by omega⟩,by omega⟩))
  refine x_bi (fun b=>b=true) ?_ fun b hb=>?_
  · refine x_bi (fun b=>b=true) (x_v (x_cd (fun _=>x_v (x_cd (fun _=>x_end (by decide)) fun k=>absurd (by omega) k)) fun k=>absurd (by omega) k)) fun b hb=>x_end hb
  · subst hb
    refine x_bnd (x_cn (fun k=>nomatch k) fun _=>?_)
    refine x_bi (fun b=>b=true) ?_ fun b hb=>?_
    · refine x_bi (fun b=>b=true) (x_v (x_cd (fun _=>x_v (x_cd (fun _=>x_end (by decide)) fun k=>absurd (by omega) k)) fun k=>absurd (by omega) k)) fun b hb=>x_end hb
    · subst hb
      refine x_bnd (x_cn (fun k=>nomatch k) fun _=>x_eq (pSumsT (by omega) (by simp) (fun y hy=>by simp only [List.mem_cons,List.not_mem_nil,or_false] at hy;rcases hy with rfl | rfl <;> omega)) (x_bnd (x_cn (fun k=>nomatch k) fun _=>?_)))
      exact x_eq (pSumsT (by omega) (by simp) (fun y hy=>by rw [List.mem_singleton] at hy;subst hy;exact g6)) (x_bnd (x_end rfl))
theorem pRightBad {t:GState} {n:Nat} {k:Int} (hn:66<n) (h4:t.Ents.length≤4) (h5:t.Master.Weights.length≤5) (hc:Ex (fun _=>True) (d_stock_Check n t)) (hm:Ex (fun _=>True) (d_recon_Mutual n t)) (hk:0≤k∧k<(t.Ents.length:Int)) (hb:d_recon_Balanced n t k=some false)
    (hl:∀ e,0≤e∧e<(t.Ents.length:Int)→Ex (fun _=>True) (d_recon_Control n t e)∧Ex (fun _=>True) (d_recon_Accrued n t e)∧Ex (fun _=>True) (d_recon_Way n t e)∧Ex (fun _=>True) (d_recon_Written n t e)∧Ex (fun _=>True) (d_recon_Balanced n t e)∧∀ i,0≤i∧i<(t.Master.Weights.length:Int)→Ex (fun _=>True) (d_recon_Rolled n t e i)):d_recon_Right n t=some false:=by
  refine ex_eq ?_
  unfold d_recon_Right t_recon_Right
  simp only [WT.run,run_pw]
  refine x_bi (fun _=>True) (x_bi _ hc fun b _=>x_bnd (x_cn (fun _=>x_end trivial) fun _=>x_bi _ hm fun b _=>x_bnd (x_end trivial))) fun b _=>x_cond (fun _=>x_end rfl) fun _=>?_
  refine x_bi (fun (r:Unit⊕Bool)=>r=.inr false) (x_iter (fun (i:Int)=>0≤i∧i≤k) (fun (i:Int)=>t.Ents.length-i.toNat) ?_ (v:=0) ⟨by simp,by omega⟩ (by simp;omega)) fun r hr=>by subst hr;exact x_sr rfl
  rintro i ⟨h0,h1⟩
  refine x_bnd (x_cd (fun kk=>?_) fun kk=>absurd (by omega) kk)
  obtain ⟨c,a,w,d,b,r⟩:=hl i ⟨h0,kk⟩
  refine x_bi (fun (r:Unit⊕(Int⊕(Unit⊕Bool)))=>(r=.inl ()∧i<k)∨r=.inr (.inr (.inr false))) ?_ fun r hr=>?_
  · refine x_bi (fun (r:Unit⊕(Unit⊕(Int⊕(Unit⊕Bool))))=>(r=.inl ()∧i<k)∨r=.inr (.inr (.inr (.inr false)))) ?_ fun r2 hr=>?_
    · refine x_bi _ c fun b1 _=>x_bnd (x_cn (fun _=>x_esc (x_esc (x_esc (x_esc (x_end (.inr rfl)))))) fun _=>?_)
      refine x_bi _ a fun b1 _=>x_bnd (x_cn (fun _=>x_esc (x_esc (x_esc (x_esc (x_end (.inr rfl)))))) fun _=>?_)
      refine x_bi _ w fun b1 _=>x_bnd (x_cn (fun _=>x_esc (x_esc (x_esc (x_esc (x_end (.inr rfl)))))) fun _=>?_)
      refine x_bi _ d fun b1 _=>x_bnd (x_cn (fun _=>x_esc (x_esc (x_esc (x_esc (x_end (.inr rfl)))))) fun _=>?_)
      by_cases hik:i=k
      · subst hik
        refine x_eq hb (x_bnd (x_cn (fun _=>x_esc (x_esc (x_esc (x_esc (x_end (.inr rfl)))))) fun k=>nomatch k))
      · refine x_bi _ b fun b1 _=>x_bnd (x_cn (fun _=>x_esc (x_esc (x_esc (x_esc (x_end (.inr rfl)))))) fun _=>x_brk (.inl ⟨rfl,by omega⟩))
    · rcases hr with ⟨rfl,hlt⟩ | rfl
      · refine x_sl ?_
        refine x_bi (fun (r:Unit⊕(Unit⊕(Int⊕(Unit⊕Bool))))=>r=.inl ()∨r=.inr (.inr (.inr (.inr false)))) (x_iter (fun (j:Int)=>0≤j∧j≤(t.Master.Weights.length:Int)) (fun (j:Int)=>t.Master.Weights.length-j.toNat) ?_ (v:=0) ⟨by simp,by simp⟩ (by simp;omega)) fun r hr=>?_
        · rintro j ⟨j0,j1⟩
          exact x_bnd (x_cd (fun k2=>x_bi _ (r j ⟨j0,k2⟩) fun b1 _=>x_bnd (x_cn (fun _=>x_esc (x_esc (x_esc (x_esc (x_esc (x_end (.inr rfl))))))) fun _=>x_v (x_brk ⟨⟨by omega,by omega⟩,by omega⟩))) fun _=>x_esc (x_brk (.inl rfl)))
        · rcases hr with rfl | rfl
          · exact x_sl (x_brk (.inl ⟨rfl,hlt⟩))
          · exact x_sr (.inr rfl)
      · exact x_sr (.inr rfl)
  · rcases hr with ⟨rfl,hlt⟩ | rfl
    · exact x_sl (x_v (x_brk ⟨⟨by omega,by omega⟩,by omega⟩))
    · exact x_sr rfl
structure Se (s:GState) (n:Nat) (e:Int) (y:GEnt):Prop where
  at':s.Ents[e.toNat]?=some y
  lb:y.Bal.length=17
  bal:∀ b∈y.Bal,-288230376151711745≤b∧b≤288230376151711745
  sv:0≤sV y.Pools∧sV y.Pools≤288230376151711744
  ld:y.Down.length≤5
  dn:∀ b∈y.Down,0≤b
  ds:sumI y.Down≤288230376151711744
  lr:y.Rolls.length=s.Master.Weights.length
  ac:sumf (accR e.toNat) s.Receipts≤288230376151711744
  wy:sumf (wayT e.toNat) s.Transits≤288230376151711744
theorem Inv.se {K:Int} {s:GState} (h:Inv K s) {n:Nat} {e:Int} (he:0≤e∧e<(s.Ents.length:Int)):∃ y mts,Se s n e y∧s.Master.Methods[e.toNat]?=some mts∧ES s.Master.Weights.length mts s.Master.Periods y∧EB y:=by
  obtain ⟨x,mts,hx,hm,hes,heb⟩:=h.see he
  have hsv:=heb.x.few hes
  have hl:=hes.few h.ss.toS0.few.2.2
  have b1:=bl_in hes 1 (by decide);have b11:=bl_in hes 11 (by decide);have b12:=bl_in hes 12 (by decide)
  unfold InM at b1 b11 b12
  have ha:=h.acc _ _ hx;have hw:=h.way _ _ hx;have hd:=heb.wri
  exact ⟨x,mts,⟨hx,hes.lb,fun b hb=>by have:=hes.bal b hb;unfold InM at this;omega,⟨hes.sv0,hsv⟩,hl.2.2.2.2,fun b hb=>(hes.dwn b hb).1,by omega,hes.lr,by omega,by omega⟩,hm,hes,heb⟩
theorem dd {P Q:Prop} {_:Decidable P} {_:Decidable Q} (h:P↔Q):decide P=decide Q:=decide_eq_decide.2 h
theorem sees_plain (v:Int) (l:List Int) (e0 a0:Int):d_law24_ReconSees 300 v l e0 a0=some true:=by
  refine ex_eq ?_
  unfold d_law24_ReconSees t_law24_ReconSees
  simp only [WT.run,run_pw]
  refine x_bi _ (rMaster (by decide)) fun m hm=>x_bi _ (rState (by decide) hm) fun s h=>?_
  have hf:=h.ss.toS0.few
  have hsp:=h.ss.sp
  have l1:=h.l1;have l3:=h.l3
  have ra:∀ r∈s.Receipts,0≤r.Accrued:=fun r hr=>by obtain ⟨_,_,_,_,_,_,g,_⟩:=h.rct r hr;exact g.1
  have rt:∀ r∈s.Transits,0≤r.Value:=fun r hr=>by obtain ⟨_,_,_,_,g,_⟩:=h.tra r hr;exact g.1
  refine x_bi _ (rPlace (by omega)) fun k hk=>x_bi _ (rPlace (by decide)) fun a ha=>?_
  obtain ⟨x,mts,sx,hm2,hes,heb⟩:=h.se (n:=300) hk
  have hx:=sx.at'
  have hl:=hes.few hf.2.2
  repeat' with_reducible first | refine x_v ?_ | refine x_bv ?_ | apply x_bnd | apply x_p2 | apply x_bb | apply x_bp | apply x_bs | apply x_be | apply x_bk | apply x_bbi | apply x_bc | apply x_ba | refine x_cd (fun _=>?_) fun _=>?_ | refine x_cn (fun _=>?_) fun _=>?_ | apply x_cT | apply x_cF | apply x_sl | apply x_esc | apply x_end | refine x_a ?_
  refine x_at hk.1 hx ?_
  repeat' with_reducible first | refine x_v ?_ | refine x_bv ?_ | apply x_bnd | apply x_p2 | apply x_bb | apply x_bp | apply x_bs | apply x_be | apply x_bk | apply x_bbi | apply x_bc | apply x_ba | refine x_cd (fun _=>?_) fun _=>?_ | refine x_cn (fun _=>?_) fun _=>?_ | apply x_cT | apply x_cF | apply x_sl | apply x_esc | apply x_end | refine x_a ?_
  refine x_at hk.1 hx (x_ix ha.1 (by first | omega | (simp only;omega)) fun bv hbv=>?_)
  have hbv:x.Bal[a.toNat]?=some bv:=hbv
  have hbb:=hes.bal bv (mem_at hbv)
  unfold InM at hbb
  refine x_v (x_bnd ?_)
  let x':GEnt:=⟨x.Now,x.Closed,x.Pools,x.Bal.set a.toNat (bv+1),x.Rolls,x.Prices,x.Down,x.Ahead⟩
  let t:GState:=⟨s.Master,s.Ents.set k.toNat x',s.Receipts,s.Sales,s.Transits,s.Done⟩
  show Ex _ (((d_recon_Balanced 300 t k).bind _).bind _)
  have hkl:k.toNat<s.Ents.length:=by omega
  have hlt:t.Ents.length=s.Ents.length:=List.length_set ..
  have htk:t.Ents[k.toNat]?=some x':=by show (s.Ents.set _ _)[_]?=_;rw [get_set hkl,if_pos rfl]
  have hbx:∀ j:Nat,bl x' j=bl x j+if a.toNat=j then 1 else 0:=by
    intro j
    show (x.Bal.set a.toNat (bv+1)).getD j 0=x.Bal.getD j 0+_
    rw [getD_set (by omega)]
    by_cases hj:a.toNat=j
    · rw [if_pos hj,if_pos hj,← hj,getD_at hbv]
    · rw [if_neg hj,if_neg hj,Int.add_zero]
  have hsum:sumI x'.Bal=1:=by
    show sumI (x.Bal.set a.toNat (bv+1))=1
    rw [sumI_set hbv];have:=heb.bln;omega
  have eta:ES s.Master.Weights.length mts s.Master.Periods ⟨x.Now,x.Closed,x.Pools,x.Bal,x.Rolls,x.Prices,x.Down,x.Ahead⟩:=by cases x;exact hes
  have tsp:SP t:=by
    refine ⟨⟨h.mas,by rw [hlt];exact h.len⟩,fun f y ms hy hms=>?_⟩
    have hy:(s.Ents.set k.toNat x')[f]?=some y:=hy
    rw [get_set hkl] at hy
    by_cases hfk:k.toNat=f
    · rw [if_pos hfk] at hy;cases hy
      have hms:s.Master.Methods[f]?=some ms:=hms
      rw [← hfk,hm2] at hms;cases hms
      exact ⟨x.Bal,eta⟩
    · rw [if_neg hfk] at hy;exact hsp.es f y ms hy hms
  have hbal':∀ b∈x'.Bal,-288230376151711745≤b∧b≤288230376151711745:=set_ok sx.bal (by omega)
  have sx':Se t 300 k x':=⟨htk,by show (x.Bal.set _ _).length=17;rw [List.length_set];exact hes.lb,hbal',sx.sv,sx.ld,sx.dn,sx.ds,sx.lr,sx.ac,sx.wy⟩
  have tse:∀ e,0≤e∧e<(t.Ents.length:Int)→∃ y,Se t 300 e y:=by
    intro e he
    by_cases hek:e=k
    · subst hek;exact ⟨x',sx'⟩
    · obtain ⟨y,_,sy,_⟩:=h.se (n:=300) (e:=e) (by rw [hlt] at he;exact he)
      refine ⟨y,?_,sy.lb,sy.bal,sy.sv,sy.ld,sy.dn,sy.ds,sy.lr,sy.ac,sy.wy⟩
      show (s.Ents.set k.toNat x')[e.toNat]?=some y
      rw [get_set hkl,if_neg (by omega)];exact sy.at'
  have hkt:0≤k∧k<(t.Ents.length:Int):=by rw [hlt];exact hk
  have hbad:d_recon_Balanced 300 t k=some false:=by
    obtain ⟨r,er,hr⟩:=pBalanced (s:=t) (n:=300) (by decide) hkt htk sx'.lb fun y hy=>by have:=hbal' y hy;omega
    cases r with
    | false=>exact er
    | true=>have:=hr.2 rfl;omega
  have hgt:sumf grp t.Ents=(if a.toNat=13 then 1 else 0)+if a.toNat=14 then 1 else 0:=by
    show sumf grp (s.Ents.set k.toNat x')=_
    have e1:grp x'=grp x+((if a.toNat=13 then 1 else 0)+if a.toNat=14 then 1 else 0):=by unfold grp;rw [hbx 13,hbx 14];omega
    rw [sumf_set _ hx,e1];have:=h.mtl;omega
  have hmut:d_recon_Mutual 300 t=some (decide (sumf grp t.Ents=0)):=by
    refine pMutual (by decide) (by rw [hlt];exact hf.1) fun y hy=>?_
    obtain ⟨f,hf2⟩:=List.getElem?_of_mem hy
    have hfl:=(List.getElem?_eq_some_iff.1 hf2).1
    obtain ⟨y',sy⟩:=tse (f:Int) ⟨by omega,by omega⟩
    have hy':=sy.at'
    rw [show ((f:Int)).toNat=f by omega,hf2] at hy';cases hy'
    have hin:∀ j:Nat,j<17→-288230376151711745≤bl y j∧bl y j≤288230376151711745:=by
      intro j hj
      have hlb:=sy.lb
      have hyj:y.Bal[j]?=some (y.Bal[j]'(by omega)):=List.getElem?_eq_getElem (by omega)
      unfold bl;rw [getD_at hyj];exact sy.bal _ (mem_at hyj)
    have h13:=hin 13 (by decide);have h14:=hin 14 (by decide)
    exact ⟨sy.lb,by omega,by omega⟩
  have hent:∀ (i:Int) y,0≤i→t.Ents[i.toNat]?=some y→Ex (fun _=>True) (d_stock_entity 300 s.Master i y):=by
    intro i y hi hy
    have hy:(s.Ents.set k.toNat x')[i.toNat]?=some y:=hy
    rw [get_set hkl] at hy
    by_cases hik:k.toNat=i.toNat
    · rw [if_pos hik] at hy;cases hy
      have hik:i=k:=by omega
      subst hik
      refine x_weak (pEntity (B:=x.Bal) (by decide) eta hm2 hk.1 hf.2.2 sx'.lb ?_) fun _ _=>trivial
      have eta2:∀ {z:GEnt} {n':Nat} {ms:List Int} {p:Int},ES n' ms p z→ES n' ms p ⟨z.Now,z.Closed,z.Pools,z.Bal,z.Rolls,z.Prices,z.Down,z.Ahead⟩:=by intro z n' ms p g;cases z;exact g
      rcases h.ent _ _ _ hx hm2 with g | ⟨y,g⟩
      · exact .inl ⟨g.opn,g.ahd⟩
      · exact .inr ⟨g.cls,y,g.ahd,g.eo.ahd,x_weak (pEntity (B:=y.Bal) (by decide) (eta2 (z:=y) g.eo.es) hm2 hk.1 hf.2.2 g.eo.es.lb (.inl ⟨g.eo.opn,g.eo.ahd⟩)) fun r hr=>hr g.eo.es.bal⟩
    · rw [if_neg hik] at hy
      exact ⟨_,h.entity (by decide) hi hy,trivial⟩
  have hcheck:Ex (fun _=>True) (d_stock_Check 300 t):=pCheckG h (by decide) (by decide) rfl hlt rfl rfl rfl rfl hent
  have hright:d_recon_Right 300 t=some false:=by
    refine pRightBad (k:=k) (by decide) (by rw [hlt];exact hf.1) hf.2.2 hcheck ⟨_,hmut,trivial⟩ hkt hbad fun e he=>?_
    obtain ⟨y,sy⟩:=tse e he
    refine ⟨⟨_,pControl (s:=t) (n:=300) tsp (by decide) he sy.at' sy.lb sy.sv,trivial⟩,⟨_,pAccrued (s:=t) (n:=300) (by decide) l1 ra he sy.at' sy.lb sy.ac,trivial⟩,⟨_,pWay (s:=t) (n:=300) (by decide) l3 rt he sy.at' sy.lb sy.wy,trivial⟩,⟨_,pWritten (s:=t) (n:=300) (by decide) he sy.at' sy.lb sy.ld sy.dn sy.ds,trivial⟩,x_weak (pBalanced (by decide) he sy.at' sy.lb fun b hb=>by have:=sy.bal b hb;omega) fun _ _=>trivial,fun i hi=>?_⟩
    have hlr:=sy.lr
    have hr:y.Rolls[i.toNat]?=some (y.Rolls[i.toNat]'(by omega)):=List.getElem?_eq_getElem (by omega)
    obtain ⟨p,q,_,_,w3⟩:=pRolled tsp (n:=300) (by decide) ⟨he,hi⟩ sy.at' hr sy.sv.2
    exact ⟨_,w3,trivial⟩
  have hlooks:=h.looks (n:=300) (by decide) hk
  have c0:=hbx 0;have c1:=hbx 1;have c11:=hbx 11;have c12:=hbx 12
  have d0:=heb.ctl;have d1:=h.acc _ _ hx;have d11:=heb.wri;have d12:=h.way _ _ hx
  refine x_bi (fun b=>b=false) ?_ fun b hb=>?_
  · refine x_eq hbad (x_cF ?_)
    refine x_eq hright (x_cF ?_)
    refine x_eq hlooks.b (x_bnd (x_end rfl))
  subst hb
  refine x_cF ?_
  refine x_bi (fun b=>b=true) ?_ fun b hb=>by subst hb;exact x_end rfl
  refine x_eq (pControl tsp (by decide) hkt htk sx'.lb sx'.sv) (x_bnd (x_bnd (x_cd (fun _=>?_) fun kk=>absurd (dd ?_) kk)))
  rotate_left
  · show sV x.Pools=bl x' 0↔a≠0
    rw [c0];split <;> omega
  refine x_eq (pAccrued (s:=t) (by decide) l1 ra hkt htk sx'.lb sx'.ac) (x_bnd (x_bnd (x_cd (fun _=>?_) fun kk=>absurd (dd ?_) kk)))
  rotate_left
  · show -sumf (accR k.toNat) s.Receipts=bl x' 1↔a≠1
    rw [c1];split <;> omega
  refine x_eq (pWay (s:=t) (by decide) l3 rt hkt htk sx'.lb sx'.wy) (x_bnd (x_bnd (x_cd (fun _=>?_) fun kk=>absurd (dd ?_) kk)))
  rotate_left
  · show sumf (wayT k.toNat) s.Transits=bl x' 12↔a≠12
    rw [c12];split <;> omega
  refine x_eq (pWritten (s:=t) (by decide) hkt htk sx'.lb sx'.ld sx'.dn sx'.ds) (x_bnd (x_bnd (x_cd (fun _=>?_) fun kk=>absurd (dd ?_) kk)))
  rotate_left
  · show -sumI x.Down=bl x' 11↔a≠11
    rw [c11];split <;> omega
  refine x_eq hmut ?_
  refine x_bnd (x_cd (fun k13=>x_bnd (x_bnd (x_cd (fun _=>x_eq awk2 (x_end rfl)) fun kk=>absurd (dd ?_) kk))) fun k13=>x_bnd (x_cd (fun _=>x_eq awk2 (x_end rfl)) fun kk=>absurd (decide_eq_false ?_) kk))
  · rw [hgt,if_neg (by omega)]
    split <;> omega
  · rw [hgt,if_pos (by omega)]
    split <;> omega
open Go.ChangeShapes Go.WideShapes Go.ChangeAt Go.RowKit
theorem walk_pp {P:Program} {f:FuncId} {args:List AV} {vs:Array Value} {w:World} (h:PP P f args (fun y=>y=boo true)) (ha:AllR (s0 w) args vs) :
    Calls P f vs w fun e w'=>e=.returned (.bool true)∧Below w.heap.size w w':=by
  refine (h (s0 w) vs (fun _ h=>h) ⟨0,fun _ _ h=>h⟩ ha).mono ?_
  rintro e w' ⟨y,s',v,rfl,_,rfl,rfl,h4,_,h6⟩
  have hv:=h4.sc_inv
  subst hv
  exact ⟨rfl,⟨h6.os,h6.tape,h6.output,h6.size,fun k hk=>h6.keep k hk fun ⟨_,_,_,h,_⟩=>by cases h⟩⟩
end Go.Pv
