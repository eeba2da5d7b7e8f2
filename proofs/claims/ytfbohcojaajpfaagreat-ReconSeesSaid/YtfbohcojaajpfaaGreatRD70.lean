import Derived.Test.YtfbohcojaajpfaaGreatRB70
set_option linter.unusedVariables false
set_option linter.unusedSimpArgs false
namespace Go.Pv
open Go.Proofs
set_option maxRecDepth 100000
set_option maxHeartbeats 1000000
theorem pControl {s:GState} (h:SP s) {n:Nat} (hn:66<n) {e:Int} {x:GEnt} (he:0≤e∧e<(s.Ents.length:Int)) (hx:s.Ents[e.toNat]?=some x) (hb:x.Bal.length=17) (hv:0≤sV x.Pools∧sV x.Pools≤288230376151711744):d_recon_Control n s e=some (decide (sV x.Pools=bl x 0)):=by
  refine ex_eq ?_
  unfold d_recon_Control t_recon_Control
  simp only [WT.run,run_pw]
  have hs:sum2 [sV x.Pools]=(sV x.Pools,0):=by
    rw [sum2_nn (fun y hy=>by rw [List.mem_singleton] at hy;subst hy;exact hv.1) (by simp [sumI,sumf];exact hv.2)];simp [sumI,sumf]
  refine x_eq (pAll h hn he hx hv.2) (x_eq (pAgree (a:=0) hn he hx hb (by decide) (by simp) hs (by omega)) (x_end ?_))
  rw [Int.mul_one];rfl
theorem rcl {s:GState} {n:Nat} (hn:66<n) (hl:s.Receipts.length≤40) (hp:∀ r∈s.Receipts,0≤r.Accrued) (e:Int) {P:Bool→Prop} {f:List Int→Option Bool} (k:∀ l:List Int,l.length≤40→(∀ y∈l,0≤y)→(0≤e→sumI l=sumf (accR e.toNat) s.Receipts)→Ex P (f l)) :
    Ex P ((iter (fun (v:Int×List Int)=>p2 (fun (a:Int) (b:List Int)=>bnd (decide (a<(s.Receipts.length:Int))) fun (x:Bool)=>cond x (((ix s.Receipts a).bind fun (x:GReceipt)=>bnd (decide (x.Entity=e)) fun (x_1:Bool)=>cond x_1 (bnd (b++[x.Accrued]) fun (x:List Int)=>asrt (x.length≤68719476736) (some x)) (some b)).bind fun (y:List Int)=>bnd (w64 (a+1)) fun (x:Int)=>brk (x,y)) (esc (some b))) v) n (0,[])).bind f):=by
  refine x_bi (fun (l:List Int)=>l.length≤40∧(∀ y∈l,0≤y)∧(0≤e→sumI l=sumf (accR e.toNat) s.Receipts)) (x_iter (fun (v:Int×List Int)=>0≤v.1∧v.1≤(s.Receipts.length:Int)∧(v.2.length:Int)≤v.1∧(∀ y∈v.2,0≤y)∧(0≤e→sumI v.2+sumf (accR e.toNat) (s.Receipts.drop v.1.toNat)=sumf (accR e.toNat) s.Receipts)) (fun (v:Int×List Int)=>s.Receipts.length-v.1.toNat) ?_ (v:=(0,[])) ⟨by simp,by simp,by simp,(fun _ h=>nomatch h),fun _=>by simp [sumI,sumf]⟩ (by simp;omega)) fun l hl=>k l hl.1 hl.2.1 hl.2.2
  rintro ⟨i,l⟩ ⟨a1,a2,a3,a4,a5⟩
  simp only at a1 a2 a3 a4 a5
  refine x_p2 (x_bnd (x_cd (fun k=>?_) fun k=>x_esc (x_end ⟨by first | omega | (simp only;omega),a4,fun he=>?_⟩)))
  · have k:i<(s.Receipts.length:Int):=k
    refine x_bi (fun (l':List Int)=>(l'.length:Int)≤i+1∧(∀ y∈l',0≤y)∧(0≤e→sumI l'+sumf (accR e.toNat) (s.Receipts.drop (i.toNat+1))=sumf (accR e.toNat) s.Receipts)) (x_ix a1 k fun r hr=>?_) fun l' hl'=>x_v (x_brk ⟨⟨by first | omega | (simp only;omega),by first | omega | (simp only;omega),hl'.1,hl'.2.1,fun he=>?_⟩,by first | omega | (simp only;omega)⟩)
    · have hr:s.Receipts[i.toNat]?=some r:=hr
      have e1:=sumf_drop (accR e.toNat) hr
      refine x_bnd (x_cd (fun ke=>x_bnd (x_a (x_end ⟨by simp;omega,app_ok a4 (hp r (mem_at hr)),fun he=>?_⟩))) fun ke=>x_end ⟨by first | omega | (simp only;omega),a4,fun he=>?_⟩)
      · have:=a5 he
        have e2:accR e.toNat r=r.Accrued:=by unfold accR;rw [if_pos (by omega)]
        rw [sumI_app]
        have:sumI [r.Accrued]=r.Accrued:=by simp [sumI,sumf]
        show sumI l+sumI [r.Accrued]+sumf (accR e.toNat) (s.Receipts.drop (i.toNat+1))=sumf (accR e.toNat) s.Receipts
        omega
      · have:=a5 he
        have e2:accR e.toNat r=0:=by unfold accR;rw [if_neg (by omega)]
        show sumI l+sumf (accR e.toNat) (s.Receipts.drop (i.toNat+1))=sumf (accR e.toNat) s.Receipts
        omega
    · have:=hl'.2.2 he
      show sumI l'+sumf (accR e.toNat) (s.Receipts.drop (i+1).toNat)=_
      rw [show (i+1).toNat=i.toNat+1 by omega];exact this
  · have k:¬ i<(s.Receipts.length:Int):=k
    have:=a5 he
    rw [List.drop_eq_nil_of_le (by omega)] at this
    have z:sumf (accR e.toNat) ([]:List GReceipt)=0:=rfl
    show sumI l=sumf (accR e.toNat) s.Receipts
    omega
theorem wcl {s:GState} {n:Nat} (hn:66<n) (hl:s.Transits.length≤40) (hp:∀ r∈s.Transits,0≤r.Value) (e:Int) {P:Bool→Prop} {f:List Int→Option Bool} (k:∀ l:List Int,l.length≤40→(∀ y∈l,0≤y)→(0≤e→sumI l=sumf (wayT e.toNat) s.Transits)→Ex P (f l)) :
    Ex P ((iter (fun (v:Int×List Int)=>p2 (fun (a:Int) (b:List Int)=>bnd (decide (a<(s.Transits.length:Int))) fun (x:Bool)=>cond x (((ix s.Transits a).bind fun (x:GTransit)=>bnd (decide (x.To=e)) fun (x_1:Bool)=>cond x_1 (bnd (b++[x.Value]) fun (x:List Int)=>asrt (x.length≤68719476736) (some x)) (some b)).bind fun (y:List Int)=>bnd (w64 (a+1)) fun (x:Int)=>brk (x,y)) (esc (some b))) v) n (0,[])).bind f):=by
  refine x_bi (fun (l:List Int)=>l.length≤40∧(∀ y∈l,0≤y)∧(0≤e→sumI l=sumf (wayT e.toNat) s.Transits)) (x_iter (fun (v:Int×List Int)=>0≤v.1∧v.1≤(s.Transits.length:Int)∧(v.2.length:Int)≤v.1∧(∀ y∈v.2,0≤y)∧(0≤e→sumI v.2+sumf (wayT e.toNat) (s.Transits.drop v.1.toNat)=sumf (wayT e.toNat) s.Transits)) (fun (v:Int×List Int)=>s.Transits.length-v.1.toNat) ?_ (v:=(0,[])) ⟨by simp,by simp,by simp,(fun _ h=>nomatch h),fun _=>by simp [sumI,sumf]⟩ (by simp;omega)) fun l hl=>k l hl.1 hl.2.1 hl.2.2
  rintro ⟨i,l⟩ ⟨a1,a2,a3,a4,a5⟩
  simp only at a1 a2 a3 a4 a5
  refine x_p2 (x_bnd (x_cd (fun k=>?_) fun k=>x_esc (x_end ⟨by first | omega | (simp only;omega),a4,fun he=>?_⟩)))
  · have k:i<(s.Transits.length:Int):=k
    refine x_bi (fun (l':List Int)=>(l'.length:Int)≤i+1∧(∀ y∈l',0≤y)∧(0≤e→sumI l'+sumf (wayT e.toNat) (s.Transits.drop (i.toNat+1))=sumf (wayT e.toNat) s.Transits)) (x_ix a1 k fun r hr=>?_) fun l' hl'=>x_v (x_brk ⟨⟨by first | omega | (simp only;omega),by first | omega | (simp only;omega),hl'.1,hl'.2.1,fun he=>?_⟩,by first | omega | (simp only;omega)⟩)
    · have hr:s.Transits[i.toNat]?=some r:=hr
      have e1:=sumf_drop (wayT e.toNat) hr
      refine x_bnd (x_cd (fun ke=>x_bnd (x_a (x_end ⟨by simp;omega,app_ok a4 (hp r (mem_at hr)),fun he=>?_⟩))) fun ke=>x_end ⟨by first | omega | (simp only;omega),a4,fun he=>?_⟩)
      · have:=a5 he
        have e2:wayT e.toNat r=r.Value:=by unfold wayT;rw [if_pos (by omega)]
        rw [sumI_app]
        have:sumI [r.Value]=r.Value:=by simp [sumI,sumf]
        show sumI l+sumI [r.Value]+sumf (wayT e.toNat) (s.Transits.drop (i.toNat+1))=sumf (wayT e.toNat) s.Transits
        omega
      · have:=a5 he
        have e2:wayT e.toNat r=0:=by unfold wayT;rw [if_neg (by omega)]
        show sumI l+sumf (wayT e.toNat) (s.Transits.drop (i.toNat+1))=sumf (wayT e.toNat) s.Transits
        omega
    · have:=hl'.2.2 he
      show sumI l'+sumf (wayT e.toNat) (s.Transits.drop (i+1).toNat)=_
      rw [show (i+1).toNat=i.toNat+1 by omega];exact this
  · have k:¬ i<(s.Transits.length:Int):=k
    have:=a5 he
    rw [List.drop_eq_nil_of_le (by omega)] at this
    have z:sumf (wayT e.toNat) ([]:List GTransit)=0:=rfl
    show sumI l=sumf (wayT e.toNat) s.Transits
    omega
theorem pAccrued {s:GState} {n:Nat} (hn:66<n) (hl:s.Receipts.length≤40) (hp:∀ r∈s.Receipts,0≤r.Accrued) {e:Int} {x:GEnt} (he:0≤e∧e<(s.Ents.length:Int)) (hx:s.Ents[e.toNat]?=some x) (hb:x.Bal.length=17) (hv:sumf (accR e.toNat) s.Receipts≤288230376151711744):d_recon_Accrued n s e=some (decide (-sumf (accR e.toNat) s.Receipts=bl x 1)):=by
  refine ex_eq ?_
  unfold d_recon_Accrued t_recon_Accrued
  simp only [WT.run,run_pw]
  refine rcl hn hl hp e fun l h1 h2 h3=>?_
  have h3:=h3 he.1
  have h0:0≤sumI l:=sumf_nn h2
  refine x_eq (pAgree (a:=1) hn he hx hb (by decide) (by omega) (sum2_nn h2 (by omega)) (by omega)) (x_end ?_)
  rw [h3];exact decide_eq_decide.2 (by rw [show (1:Int).toNat=1 from rfl];omega)
theorem pWay {s:GState} {n:Nat} (hn:66<n) (hl:s.Transits.length≤40) (hp:∀ r∈s.Transits,0≤r.Value) {e:Int} {x:GEnt} (he:0≤e∧e<(s.Ents.length:Int)) (hx:s.Ents[e.toNat]?=some x) (hb:x.Bal.length=17) (hv:sumf (wayT e.toNat) s.Transits≤288230376151711744):d_recon_Way n s e=some (decide (sumf (wayT e.toNat) s.Transits=bl x 12)):=by
  refine ex_eq ?_
  unfold d_recon_Way t_recon_Way
  simp only [WT.run,run_pw]
  refine wcl hn hl hp e fun l h1 h2 h3=>?_
  have h3:=h3 he.1
  have h0:0≤sumI l:=sumf_nn h2
  refine x_eq (pAgree (a:=12) hn he hx hb (by decide) (by omega) (sum2_nn h2 (by omega)) (by omega)) (x_end ?_)
  rw [h3];exact decide_eq_decide.2 (by rw [show (12:Int).toNat=12 from rfl];omega)
theorem pWritten {s:GState} {n:Nat} (hn:66<n) {e:Int} {x:GEnt} (he:0≤e∧e<(s.Ents.length:Int)) (hx:s.Ents[e.toNat]?=some x) (hb:x.Bal.length=17) (hd:x.Down.length≤5) (hp:∀ y∈x.Down,0≤y) (hv:sumI x.Down≤288230376151711744):d_recon_Written n s e=some (decide (-sumI x.Down=bl x 11)):=by
  refine ex_eq ?_
  unfold d_recon_Written t_recon_Written
  simp only [WT.run,run_pw]
  have h0:0≤sumI x.Down:=sumf_nn hp
  refine x_bi (fun b=>b=false) ?_ fun b hb=>?_
  · refine x_bnd (x_cd (fun h=>absurd h (by omega)) fun _=>x_bnd (x_end (decide_eq_false (by omega))))
  · subst hb
    refine x_cF (x_at he.1 hx (x_eq (pAgree (a:=11) hn he hx (by assumption) (by decide) (by omega) (sum2_nn hp hv) (by omega)) (x_end ?_)))
    exact decide_eq_decide.2 (by rw [show (11:Int).toNat=11 from rfl];omega)
theorem pTrial {l:List Int} {n:Nat} (hn:66<n) (hl:l.length=17) (hw:∀ x∈l,-9223372036854775808≤x∧x≤9223372036854775807):Ex (fun r=>((∀ x∈l,InM x)→r.2.2=0)∧(r.2.2=0→r.1-r.2.1=sumI l)) (d_gl_Trial n l):=by
  unfold d_gl_Trial t_gl_Trial
  simp only [WT.run,run_pw]
  refine x_bnd (x_cd (fun k=>absurd (by omega) k) fun _=>?_)
  refine x_bi (fun (r:(Int×Int)⊕(Int×Int×Int))=>match r with | .inl r=>r.1-r.2=sumI l | .inr r=>r.2.2≠0∧¬ ∀ x∈l,InM x)
    (x_iter (fun (v:Int×Int×Int)=>0≤v.2.2∧v.2.2≤17∧(0≤v.1∧v.1≤288230376151711744*v.2.2)∧(0≤v.2.1∧v.2.1≤288230376151711744*v.2.2)∧v.1-v.2.1+sumI (l.drop v.2.2.toNat)=sumI l) (fun (v:Int×Int×Int)=>17-v.2.2.toNat) ?_ (v:=(0,0,0)) ⟨by simp,by simp,by simp,by simp,by simp⟩ (by simp;omega)) fun r hr=>x_sel (fun a e=>?_) fun q e=>?_
  · rintro ⟨d,c,i⟩ ⟨a1,a2,a3,a4,a5⟩
    simp only at a1 a2 a3 a4 a5
    refine x_p2 (x_p2 (x_bnd (x_cd (fun k=>?_) fun k=>x_esc (x_brk ?_))))
    · have k:i<(l.length:Int):=k
      refine x_bi (fun (r:(Int×Int)⊕((Int×Int×Int)⊕((Int×Int)⊕(Int×Int×Int))))=>match r with | .inl r=>(0≤r.1∧r.1≤288230376151711744*(i+1))∧(0≤r.2∧r.2≤288230376151711744*(i+1))∧r.1-r.2+sumI (l.drop (i.toNat+1))=sumI l | .inr (.inr (.inr r))=>r.2.2≠0∧¬ ∀ x∈l,InM x | _=>False) (x_ix a1 k fun x hx=>?_) fun r hr=>x_sel (fun a e=>?_) fun q e=>?_
      · have hx:l[i.toNat]?=some x:=hx
        have e1:=sumI_drop hx
        refine x_bi (fun (b:Bool)=>(b=true→¬ InM x)∧(b=false→InM x)) ?_ fun b hb=>x_cond (fun kb=>x_esc (x_esc (x_esc (x_end ⟨by simp,fun hh=>hb.1 kb (hh x (mem_at hx))⟩)))) fun kb=>?_
        · unfold InM
          refine x_bnd (x_cd (fun _=>x_end ⟨fun _=>by omega,fun k=>nomatch k⟩) fun _=>x_bnd (x_end ⟨fun k=>by have:=of_decide_eq_true k;omega,fun k=>by have:=of_decide_eq_false k;omega⟩))
        · have hin:=hb.2 kb
          unfold InM at hin
          refine x_bnd (x_cd (fun _=>x_v (x_brk ⟨by first | omega | (simp only;omega),by first | omega | (simp only;omega),by first | omega | (simp only;omega)⟩)) fun _=>x_v (x_brk ⟨by first | omega | (simp only;omega),by first | omega | (simp only;omega),by first | omega | (simp only;omega)⟩))
      · subst e
        refine x_p2 (x_v (x_brk ⟨⟨by first | omega | (simp only;omega),by first | omega | (simp only;omega),hr.1,hr.2.1,?_⟩,by first | omega | (simp only;omega)⟩))
        show a.1-a.2+sumI (l.drop (i+1).toNat)=sumI l
        rw [show (i+1).toNat=i.toNat+1 by omega];exact hr.2.2
      · subst e
        rcases q with q | q | q
        · exact hr.elim
        · exact hr.elim
        · exact hr
    · have k:¬ i<(l.length:Int):=k
      rw [List.drop_eq_nil_of_le (by omega)] at a5
      have:sumI []=0:=rfl
      first | omega | (simp only;omega)
  · subst e;exact x_p2 (x_end ⟨fun _=>rfl,fun _=>hr⟩)
  · subst e;exact ⟨fun h=>absurd h hr.2,fun h=>absurd h hr.1⟩
theorem pBalanced {s:GState} {n:Nat} (hn:66<n) {e:Int} {x:GEnt} (he:0≤e∧e<(s.Ents.length:Int)) (hx:s.Ents[e.toNat]?=some x) (hb:x.Bal.length=17) (hw:∀ y∈x.Bal,-9223372036854775808≤y∧y≤9223372036854775807):Ex (fun r=>((∀ y∈x.Bal,InM y)→sumI x.Bal=0→r=true)∧(r=true→sumI x.Bal=0)) (d_recon_Balanced n s e):=by
  unfold d_recon_Balanced t_recon_Balanced
  simp only [WT.run,run_pw]
  refine x_bi (fun b=>b=false) ?_ fun b hb=>?_
  · refine x_bnd (x_cd (fun h=>absurd h (by omega)) fun _=>x_bnd (x_end (decide_eq_false (by omega))))
  · subst hb
    refine x_cF (x_at he.1 hx (x_bi _ (pTrial hn (by assumption) hw) fun r hr=>?_))
    refine x_bi (fun (b:Bool)=>((∀ y∈x.Bal,InM y)→sumI x.Bal=0→b=true)∧(b=true→sumI x.Bal=0)) ?_ fun b hb=>x_end hb
    refine x_bnd (x_cd (fun k=>x_bnd (x_end ⟨fun h1 h2=>decide_eq_true (by have:=hr.2 k;omega),fun k2=>by have:=of_decide_eq_true k2;have:=hr.2 k;omega⟩)) fun k=>x_end ⟨fun h1 _=>absurd (hr.1 h1) k,fun k=>nomatch k⟩)
theorem pRolled {s:GState} (h:SP s) {n:Nat} (hn:66<n) {e i:Int} {x:GEnt} {r:GRoll} (ht:There s e i) (hx:s.Ents[e.toNat]?=some x) (hr:x.Rolls[i.toNat]?=some r) (hv:sV x.Pools≤288230376151711744):∃ p q,x.Pools[2*i.toNat]?=some p∧x.Pools[2*i.toNat+1]?=some q∧d_recon_Rolled n s e i=some (decide (rsum r=tV p.Layers+tV q.Layers)):=by
  obtain ⟨p,q,w1,w2,w3,w4⟩:=h.worth hn ht hx hv
  obtain ⟨mts,B,cs,g1,g2,g3,g4,hes⟩:=h.at hx
  have hlr:x.Rolls.length=s.Master.Weights.length:=hes.lr
  obtain ⟨i1,i2,i3,i4,i5,i6,i7,i8,i9,i10,i11⟩:=hes.roll r (mem_at (l:=x.Rolls) hr)
  unfold InM at i1 i2 i3 i4 i5 i6 i7 i8 i9 i10 i11
  have t1:=ht.1;have t2:=ht.2
  refine ⟨p,q,w1,w2,ex_eq ?_⟩
  unfold d_recon_Rolled t_recon_Rolled
  simp only [WT.run,run_pw]
  refine x_bi (fun b=>b=false) ?_ fun b hb=>?_
  · refine x_bnd (x_cd (fun h=>absurd h (by omega)) fun _=>x_bnd (x_cd (fun h=>absurd h (by omega)) fun _=>x_bnd (x_cd (fun h=>absurd h (by omega)) fun _=>x_at t1.1 hx (x_bnd (x_cd (fun h=>absurd h (by omega)) fun _=>x_bnd (x_end (decide_eq_false (by omega))))))))
  · subst hb
    refine x_cF (x_at t1.1 hx (x_at t2.1 hr ?_))
    refine x_v (x_v (x_v (x_v (x_v (x_v (x_v (x_v (x_v (x_v (x_eq w3 (x_bnd (x_end ?_))))))))))))
    rfl
theorem pWrong {x:GLayer} (h:LOk x):d_fifo_wrong x=some false:=by
  obtain ⟨h1,h2,h3⟩:=h
  unfold InM at h3
  refine ex_eq ?_
  unfold d_fifo_wrong t_fifo_wrong
  simp only [WT.run,run_pw]
  repeat' with_reducible first | refine x_v ?_ | refine x_bv ?_ | apply x_bnd | apply x_p2 | apply x_bb | apply x_bp | apply x_bs | apply x_be | apply x_bk | apply x_bbi | apply x_bc | apply x_ba | refine x_cd (fun _=>?_) fun _=>?_ | refine x_cn (fun _=>?_) fun _=>?_ | apply x_cT | apply x_cF | apply x_sl | apply x_esc | apply x_end
  all_goals first | rfl | omega | exact decide_eq_false (by omega)
theorem pSteady {l:List GLayer} {n:Nat} (hn:66<n) (hl:LR l):d_fifo_steady n l=some true:=by
  obtain ⟨hk,h30,hQ,hV,hS⟩:=hl
  refine ex_eq ?_
  unfold d_fifo_steady t_fifo_steady
  simp only [WT.run,run_pw]
  refine x_bi (fun (v:List Int)=>v=l.map (fun x=>ab x.Profit)) (x_iter (fun (v:Int×List Int)=>0≤v.1∧v.1≤(l.length:Int)∧(v.2.length:Int)=v.1∧v.2++(l.drop v.1.toNat).map (fun x=>ab x.Profit)=l.map (fun x=>ab x.Profit)) (fun (v:Int×List Int)=>l.length-v.1.toNat) ?_ (v:=(0,[])) ⟨by simp,by simp,rfl,rfl⟩ (by simp;omega)) fun v hv=>?_
  · rintro ⟨i,a⟩ ⟨h0,h1,h2,h5⟩
    simp only at h0 h1 h2 h5
    refine x_p2 (x_bnd (x_cd (fun k=>?_) fun k=>x_esc (x_end ?_)))
    · have k:i<(l.length:Int):=k
      refine x_ix h0 k fun x hx=>?_
      have hx:l[i.toNat]?=some x:=hx
      have g3:=(hk x (mem_at hx)).2.2
      unfold InM at g3
      have ea:(if 0-x.Profit>x.Profit then 0-x.Profit else x.Profit)=ab x.Profit:=by unfold ab;repeat' split <;> omega
      refine x_v (x_bnd (x_bnd ?_))
      rw [ea]
      refine x_a (x_v (x_brk ⟨⟨by first | omega | (simp only;omega),by first | omega | (simp only;omega),by simp;omega,?_⟩,by first | omega | (simp only;omega)⟩))
      show (a++[ab x.Profit])++(l.drop (i+1).toNat).map (fun x=>ab x.Profit)=_
      rw [← h5,(drop_at hx).2,show (i+1).toNat=i.toNat+1 by omega];simp
    · have k:¬ i<(l.length:Int):=k
      rw [List.drop_eq_nil_of_le (by omega)] at h5
      simpa using h5
  · subst hv
    have e:sumI (l.map fun x=>ab x.Profit)=tS l:=by
      clear hk h30 hQ hV hS
      induction l with
      | nil=>rfl
      | cons x r ih=>show ab x.Profit+sumI _=_;rw [ih];rfl
    have s1:sum2 (l.map fun x=>ab x.Profit)=(tS l,0):=by rw [sum2_nn (fun y hy=>by obtain ⟨x,hx,rfl⟩:=List.mem_map.1 hy;exact (ab_ge _).1) (by rw [e];exact hS),e]
    refine x_eq (pSum (by simp;omega) (by simp;omega)) ?_
    rw [s1];exact x_bnd (x_end rfl)
theorem pFifoRight {l:List GLayer} {n:Nat} (hn:66<n) (hl:LR l):d_fifo_Right n l=some true:=by
  have hb:=LR_b hl
  refine ex_eq ?_
  unfold d_fifo_Right t_fifo_Right
  simp only [WT.run,run_pw]
  refine x_bi (fun b=>b=false) ?_ fun b hb=>?_
  · refine x_bnd (x_cd (fun h=>absurd h (by omega)) fun _=>?_)
    refine x_bi (fun b=>b=false) (x_bi (fun (v:Int)=>v=-1) ?_ fun v hv=>by subst hv;exact x_bnd (x_end rfl)) fun b hb=>x_end hb
    refine x_bi (fun (r:Unit⊕Int)=>r=.inl ()) (x_iter (fun (i:Int)=>0≤i∧i≤(l.length:Int)) (fun (i:Int)=>l.length-i.toNat) ?_ (v:=0) ⟨by simp,by simp⟩ (by simp;omega)) fun r hr=>by subst hr;exact x_sl (x_end rfl)
    rintro i ⟨h0,h1⟩
    refine x_bnd (x_cd (fun h=>x_ix h0 h fun x hx=>x_eq (pWrong (hl.1 x (mem_at hx))) (x_cF (x_v (x_brk ⟨⟨by omega,by omega⟩,by omega⟩)))) fun h=>x_esc (x_brk rfl))
  · subst hb
    refine x_cF (x_eq (pTotal hn hl) ?_)
    exact x_bi (fun b=>b=true) (x_bnd (x_cd (fun _=>x_eq (pSteady hn hl) (x_end rfl)) fun k=>absurd rfl k)) fun b hb=>x_end hb
theorem pPoolTotal {p:GPool} {n:Nat} (hn:66<n) (hl:LR p.Layers):d_pool_Total n p=some ⟨tQ p.Layers,tV p.Layers,tP p.Layers⟩:=by
  unfold d_pool_Total t_pool_Total
  simp only [WT.run,run_pw,pTotal hn hl,Option.bind_some]
theorem pPoolRight {m:Int} {p:GPool} {n:Nat} (hn:66<n) (h:PR m p):d_pool_Right n m p=some true:=by
  have hl:=LR_b h.ly
  have h0:=h.p0;have h1:=h.p1;have h2:=h.p2;have h3:=h.sum;have ho:=h.oth;have hon:=h.one
  have hL:∀ y∈[p.Pend.a0,p.Pend.a1,p.Pend.a2],0≤y∧(m≠3→y=0):=by
    intro y hy
    simp only [List.mem_cons,List.not_mem_nil,or_false] at hy
    rcases hy with rfl | rfl | rfl
    · exact ⟨h0,fun k=>(ho k).1⟩
    · exact ⟨h1,fun k=>(ho k).2.1⟩
    · exact ⟨h2,fun k=>(ho k).2.2⟩
  have hm:=h.mt
  refine ex_eq ?_
  unfold d_pool_Right t_pool_Right
  simp only [WT.run,run_pw,run_el]
  refine x_bi (fun (v:Unit⊕(Unit⊕(Unit⊕(Unit⊕Unit))))=>(m=1∧v=.inl ())∨(m=2∧v=.inr (.inl ()))∨(m=3∧v=.inr (.inr (.inl ())))∨(m=4∧v=.inr (.inr (.inr (.inl ()))))) ?_ fun v hv=>?_
  · repeat' with_reducible first | refine x_v ?_ | refine x_bv ?_ | apply x_bnd | apply x_p2 | apply x_bb | apply x_bp | apply x_bs | apply x_be | apply x_bk | apply x_bbi | apply x_bc | apply x_ba | refine x_cd (fun _=>?_) fun _=>?_ | refine x_cn (fun _=>?_) fun _=>?_ | apply x_cT | apply x_cF | apply x_sl | apply x_esc | apply x_end
    all_goals first | omega | (simp;omega)
  · rcases hv with ⟨hm1,rfl⟩ | ⟨hm1,rfl⟩ | ⟨hm1,rfl⟩ | ⟨hm1,rfl⟩
    all_goals
      simp only [Sum.elim_inl,Sum.elim_inr]
      refine x_bi (fun b=>b=false) ?_ fun b hb=>?_
      · refine x_eq (pFifoRight hn h.ly) (x_bnd (x_cn (fun k=>nomatch k) fun _=>x_bnd (x_cd (fun k=>x_bnd (x_end (decide_eq_false (by have:=hon k;omega)))) fun _=>x_end rfl)))
      · subst hb
        refine x_cF (x_eq (pPoolTotal hn h.ly) ?_)
        refine x_bi (fun (r:Unit⊕Bool)=>r=.inl ()) (x_iter (fun (v:Int×Int)=>0≤v.2∧v.2≤3∧v.1≤288230376151711744∧sumI ([p.Pend.a0,p.Pend.a1,p.Pend.a2].drop v.2.toNat)≤v.1) (fun (v:Int×Int)=>3-v.2.toNat) ?_ (v:=(tQ p.Layers,0)) ⟨by simp,by simp,by simp;omega,by simp [sumI,sumf];omega⟩ (by simp;omega)) fun r hr=>by subst hr;exact x_sl (x_end rfl)
        rintro ⟨left,k⟩ ⟨a1,a2,a3,a4⟩
        simp only at a1 a2 a3 a4
        refine x_p2 (x_bnd (x_cd (fun kk=>?_) fun _=>x_esc (x_brk rfl)))
        have kk:k<3:=kk
        refine x_ix a1 (by simp;omega) fun y hy=>?_
        have hy:[p.Pend.a0,p.Pend.a1,p.Pend.a2][k.toNat]?=some y:=hy
        obtain ⟨y1,y2⟩:=hL y (mem_at hy)
        have e1:=sumI_drop hy
        have e2:0≤sumI ([p.Pend.a0,p.Pend.a1,p.Pend.a2].drop (k.toNat+1)):=sumf_nn fun z hz=>(hL z (List.mem_of_mem_drop hz)).1
        refine x_bi (fun b=>b=false) ?_ fun b hb=>?_
        · refine x_bnd (x_cd (fun h=>absurd h (by omega)) fun _=>x_bnd (x_cd (fun h=>absurd h (by first | omega | (simp only;omega))) fun _=>x_bnd (x_cd (fun h=>?_) fun _=>x_end rfl)))
          first
            | exact absurd h (by have:=y2 (by omega);omega)
            | exact x_end rfl
        · subst hb
          refine x_cF (x_v (x_v (x_brk ⟨⟨by first | omega | (simp only;omega),by first | omega | (simp only;omega),by first | omega | (simp only;omega),?_⟩,by first | omega | (simp only;omega)⟩)))
          show sumI ([p.Pend.a0,p.Pend.a1,p.Pend.a2].drop (k+1).toNat)≤left-y
          rw [show (k+1).toNat=k.toNat+1 by omega];omega
theorem bnot {p:Prop} [Decidable p]:(!decide p)=true↔¬p:=by rw [Bool.not_eq_true',decide_eq_false_iff_not]
theorem pSums {l:List Int} {lo:Int} {n:Nat} (hn:66<n) (hl:l.length≤60):Ex (fun r=>r=true↔∀ y∈l,lo≤y∧y≤288230376151711744) (d_stock_sums n lo l):=by
  unfold d_stock_sums t_stock_sums
  simp only [WT.run,run_pw,pStockIn,Option.bind_some]
  refine x_bi (fun (b:Bool)=>b=true↔¬ ∀ y∈l,lo≤y∧y≤288230376151711744) (x_bi (fun (v:Int)=>(v=-1∧∀ y∈l,lo≤y∧y≤288230376151711744)∨(0≤v∧¬ ∀ y∈l,lo≤y∧y≤288230376151711744)) ?_ fun v hv=>?_) fun b hb=>x_bnd (x_end ?_)
  · refine x_bi (fun (r:Unit⊕Int)=>match r with | .inl _=>∀ y∈l,lo≤y∧y≤288230376151711744 | .inr v=>0≤v∧¬ ∀ y∈l,lo≤y∧y≤288230376151711744) (x_iter (fun (i:Int)=>0≤i∧i≤(l.length:Int)∧((∀ y∈l.drop i.toNat,lo≤y∧y≤288230376151711744)→∀ y∈l,lo≤y∧y≤288230376151711744)) (fun (i:Int)=>l.length-i.toNat) ?_ (v:=0) ⟨by simp,by simp,by simp⟩ (by simp;omega)) fun r hr=>x_sel (fun u e=>x_end (.inl ⟨rfl,by subst e;exact hr⟩)) fun v e=>by subst e;exact .inr hr
    rintro i ⟨h0,h1,h2⟩
    refine x_bnd (x_cd (fun h=>x_ix h0 h fun x hx=>?_) fun h=>x_esc (x_brk (h2 fun y hy=>by rw [List.drop_eq_nil_of_le (by omega)] at hy;cases hy)))
    have hx:l[i.toNat]?=some x:=hx
    refine x_bi (fun (b:Bool)=>b=true↔¬ (lo≤x∧x≤288230376151711744)) (x_bnd (x_end bnot)) fun b hb=>x_cond (fun kb=>x_esc (x_esc (x_end ⟨h0,fun hh=>hb.1 kb (hh x (mem_at hx))⟩))) fun kb=>?_
    have hin:lo≤x∧x≤288230376151711744:=by
      by_cases hc:lo≤x∧x≤288230376151711744
      · exact hc
      · rw [hb.2 hc] at kb;cases kb
    refine x_v (x_brk ⟨⟨by omega,by omega,fun hh=>h2 fun y hy=>?_⟩,by omega⟩)
    rw [(drop_at hx).2] at hy
    rcases List.mem_cons.1 hy with rfl | hy
    · exact hin
    · exact hh y (by rw [show (i+1).toNat=i.toNat+1 by omega];exact hy)
  · refine x_bnd (x_end ?_)
    rcases hv with ⟨rfl,hv⟩ | ⟨h1,h2⟩
    · exact ⟨fun k=>by simp at k,fun k=>absurd hv k⟩
    · exact ⟨fun _=>h2,fun _=>decide_eq_true h1⟩
  · cases b with
    | true=>exact ⟨(fun k=>nomatch k),fun k=>absurd k (hb.1 rfl)⟩
    | false=>exact ⟨fun _=>by
        by_cases hc:∀ y∈l,lo≤y∧y≤288230376151711744
        · exact hc
        · exact absurd (hb.2 hc) (by simp),fun _=>rfl⟩
theorem pSumsT {l:List Int} {lo:Int} {n:Nat} (hn:66<n) (hl:l.length≤60) (h:∀ y∈l,lo≤y∧y≤288230376151711744):d_stock_sums n lo l=some true:=ex_eq (x_weak (pSums hn hl) fun r hr=>hr.2 h)
end Go.Pv
