/- The program's own looks at a state: recon. -/
import Derived.Test.YtfbohcojaajpfaaGreatRB70
set_option linter.unusedSimpArgs false
set_option linter.unusedVariables false
namespace Go.Pv
open Go.Proofs
set_option maxRecDepth 100000
set_option maxHeartbeats 1000000
theorem pControl {s:GState} (h:SP s) {n:Nat} (hn:66<n) {e:Int} {x:GEnt} (he:0≤e∧e<(s.Ents.length:Int)) (hx:s.Ents[e.toNat]?=some x) (hb:x.Bal.length=17) (hv:0≤sV x.Pools∧sV x.Pools≤288230376151711744):d_recon_Control n s e=some (decide (sV x.Pools=bl x 0)):=by
  refine ex_eq ?_
  unfold d_recon_Control t_recon_Control
  simp only [WT.run,run_pw]
  have hs:sum2 [sV x.Pools]=(sV x.Pools,0):=by
    rw [sum2_nn (fun y hy=>by rw [List.mem_singleton] at hy;subst hy;exact hv.1) (by simp [sumI,sumf];exact hv.2)];simp [sumI,sumf]
  refine x_eq (pAll h hn he hx hv.2) (x_eq (pAgree (a:=0) hn he hx hb (by decide) (by simp) hs (by omega)) (x_end ?_))
  rw [Int.mul_one];rfl
theorem pControlNo {s:GState} (h:SP s) {n:Nat} (hn:66<n) {e:Int} (he:¬ (0≤e∧e<(s.Ents.length:Int))):d_recon_Control n s e=some false:=by
  refine ex_eq ?_
  unfold d_recon_Control t_recon_Control
  simp only [WT.run,run_pw]
  exact x_bi _ (pAllNo h hn he) fun v _=>x_eq (pAgreeNo hn he (by simp)) (x_end rfl)
theorem rcl {s:GState} {n:Nat} (hn:66<n) (hl:s.Receipts.length≤40) (hp:∀ r∈s.Receipts,0≤r.Accrued) (e:Int) {P:Bool→Prop} {f:List Int→Option Bool} (k:∀ l:List Int,l.length≤40→(∀ y∈l,0≤y)→(0≤e→sumI l=sumf (accR e.toNat) s.Receipts)→Ex P (f l)) :
    Ex P ((iter (fun (v:Int×List Int)=>p2 (fun (a:Int) (b:List Int)=>bnd (decide (a<(s.Receipts.length:Int))) fun (x:Bool)=>cond x (((ix s.Receipts a).bind fun (x:GReceipt)=>bnd (decide (x.Entity=e)) fun (x_1:Bool)=>cond x_1 (bnd (b++[x.Accrued]) fun (x:List Int)=>asrt (x.length≤68719476736) (some x)) (some b)).bind fun (y:List Int)=>bnd (w64 (a+1)) fun (x:Int)=>brk (x,y)) (esc (some b))) v) n (0,[])).bind f):=by
  refine x_bi (fun (l:List Int)=>l.length≤40∧(∀ y∈l,0≤y)∧(0≤e→sumI l=sumf (accR e.toNat) s.Receipts)) (x_iter (fun (v:Int×List Int)=>0≤v.1∧v.1≤(s.Receipts.length:Int)∧(v.2.length:Int)≤v.1∧(∀ y∈v.2,0≤y)∧(0≤e→sumI v.2+sumf (accR e.toNat) (s.Receipts.drop v.1.toNat)=sumf (accR e.toNat) s.Receipts)) (fun (v:Int×List Int)=>s.Receipts.length-v.1.toNat) ?_ (v:=(0,[])) ⟨by simp,by simp,by simp,(fun _ h=>nomatch h),fun _=>by simp [sumI,sumf]⟩ (by simp;omega)) fun l hl=>k l hl.1 hl.2.1 hl.2.2
  rintro ⟨i,l⟩ ⟨a1,a2,a3,a4,a5⟩
  simp only at a1 a2 a3 a4 a5
  refine x_p2 (x_bnd (x_cd (fun k=>?_) fun k=>x_esc (x_end ⟨by first | omega | (simp only;omega),a4,fun he=>?_⟩)))
  · have k:i<(s.Receipts.length:Int):=k
    refine x_bi (fun (l':List Int)=>(l'.length:Int)≤i+1∧(∀ y∈l',0≤y)∧(0≤e→sumI l'+sumf (accR e.toNat) (s.Receipts.drop (i.toNat+1))=sumf (accR e.toNat) s.Receipts)) (x_ix a1 k fun r hr=>?_) fun l' hl'=>x_v (x_brk ⟨⟨by first | omega | (simp only;omega),by first | omega | (simp only;omega),hl'.1,hl'.2.1,fun he=>?_⟩,by first | omega | (simp only;omega)⟩)
    · have hr:s.Receipts[i.toNat]?=some r:=hr
      have e1:=sumf_drop (accR e.toNat) hr
      refine x_bnd (x_cd (fun ke=>x_bnd (x_a (x_end ⟨by simp;omega,app_ok a4 (hp r (mem_at hr)),fun he=>?_⟩))) fun ke=>x_end ⟨by first | omega | (simp only;omega),a4,fun he=>?_⟩)
      · have:=a5 he
        have e2:accR e.toNat r=r.Accrued:=by unfold accR;rw [if_pos (by omega)]
        rw [sumI_app]
        have:sumI [r.Accrued]=r.Accrued:=by simp [sumI,sumf]
        show sumI l+sumI [r.Accrued]+sumf (accR e.toNat) (s.Receipts.drop (i.toNat+1))=sumf (accR e.toNat) s.Receipts
        omega
      · have:=a5 he
        have e2:accR e.toNat r=0:=by unfold accR;rw [if_neg (by omega)]
        show sumI l+sumf (accR e.toNat) (s.Receipts.drop (i.toNat+1))=sumf (accR e.toNat) s.Receipts
        omega
    · have:=hl'.2.2 he
      show sumI l'+sumf (accR e.toNat) (s.Receipts.drop (i+1).toNat)=_
      rw [show (i+1).toNat=i.toNat+1 by omega];exact this
  · have k:¬ i<(s.Receipts.length:Int):=k
    have:=a5 he
    rw [List.drop_eq_nil_of_le (by omega)] at this
    have z:sumf (accR e.toNat) ([]:List GReceipt)=0:=rfl
    show sumI l=sumf (accR e.toNat) s.Receipts
    omega
theorem wcl {s:GState} {n:Nat} (hn:66<n) (hl:s.Transits.length≤40) (hp:∀ r∈s.Transits,0≤r.Value) (e:Int) {P:Bool→Prop} {f:List Int→Option Bool} (k:∀ l:List Int,l.length≤40→(∀ y∈l,0≤y)→(0≤e→sumI l=sumf (wayT e.toNat) s.Transits)→Ex P (f l)) :
    Ex P ((iter (fun (v:Int×List Int)=>p2 (fun (a:Int) (b:List Int)=>bnd (decide (a<(s.Transits.length:Int))) fun (x:Bool)=>cond x (((ix s.Transits a).bind fun (x:GTransit)=>bnd (decide (x.To=e)) fun (x_1:Bool)=>cond x_1 (bnd (b++[x.Value]) fun (x:List Int)=>asrt (x.length≤68719476736) (some x)) (some b)).bind fun (y:List Int)=>bnd (w64 (a+1)) fun (x:Int)=>brk (x,y)) (esc (some b))) v) n (0,[])).bind f):=by
  refine x_bi (fun (l:List Int)=>l.length≤40∧(∀ y∈l,0≤y)∧(0≤e→sumI l=sumf (wayT e.toNat) s.Transits)) (x_iter (fun (v:Int×List Int)=>0≤v.1∧v.1≤(s.Transits.length:Int)∧(v.2.length:Int)≤v.1∧(∀ y∈v.2,0≤y)∧(0≤e→sumI v.2+sumf (wayT e.toNat) (s.Transits.drop v.1.toNat)=sumf (wayT e.toNat) s.Transits)) (fun (v:Int×List Int)=>s.Transits.length-v.1.toNat) ?_ (v:=(0,[])) ⟨by simp,by simp,by simp,(fun _ h=>nomatch h),fun _=>by simp [sumI,sumf]⟩ (by simp;omega)) fun l hl=>k l hl.1 hl.2.1 hl.2.2
  rintro ⟨i,l⟩ ⟨a1,a2,a3,a4,a5⟩
  simp only at a1 a2 a3 a4 a5
  refine x_p2 (x_bnd (x_cd (fun k=>?_) fun k=>x_esc (x_end ⟨by first | omega | (simp only;omega),a4,fun he=>?_⟩)))
  · have k:i<(s.Transits.length:Int):=k
    refine x_bi (fun (l':List Int)=>(l'.length:Int)≤i+1∧(∀ y∈l',0≤y)∧(0≤e→sumI l'+sumf (wayT e.toNat) (s.Transits.drop (i.toNat+1))=sumf (wayT e.toNat) s.Transits)) (x_ix a1 k fun r hr=>?_) fun l' hl'=>x_v (x_brk ⟨⟨by first | omega | (simp only;omega),by first | omega | (simp only;omega),hl'.1,hl'.2.1,fun he=>?_⟩,by first | omega | (simp only;omega)⟩)
    · have hr:s.Transits[i.toNat]?=some r:=hr
      have e1:=sumf_drop (wayT e.toNat) hr
      refine x_bnd (x_cd (fun ke=>x_bnd (x_a (x_end ⟨by simp;omega,app_ok a4 (hp r (mem_at hr)),fun he=>?_⟩))) fun ke=>x_end ⟨by first | omega | (simp only;omega),a4,fun he=>?_⟩)
      · have:=a5 he
        have e2:wayT e.toNat r=r.Value:=by unfold wayT;rw [if_pos (by omega)]
        rw [sumI_app]
        have:sumI [r.Value]=r.Value:=by simp [sumI,sumf]
        show sumI l+sumI [r.Value]+sumf (wayT e.toNat) (s.Transits.drop (i.toNat+1))=sumf (wayT e.toNat) s.Transits
        omega
      · have:=a5 he
        have e2:wayT e.toNat r=0:=by unfold wayT;rw [if_neg (by omega)]
        show sumI l+sumf (wayT e.toNat) (s.Transits.drop (i.toNat+1))=sumf (wayT e.toNat) s.Transits
        omega
    · have:=hl'.2.2 he
      show sumI l'+sumf (wayT e.toNat) (s.Transits.drop (i+1).toNat)=_
      rw [show (i+1).toNat=i.toNat+1 by omega];exact this
  · have k:¬ i<(s.Transits.length:Int):=k
    have:=a5 he
    rw [List.drop_eq_nil_of_le (by omega)] at this
    have z:sumf (wayT e.toNat) ([]:List GTransit)=0:=rfl
    show sumI l=sumf (wayT e.toNat) s.Transits
    omega
theorem pAccrued {s:GState} {n:Nat} (hn:66<n) (hl:s.Receipts.length≤40) (hp:∀ r∈s.Receipts,0≤r.Accrued) {e:Int} {x:GEnt} (he:0≤e∧e<(s.Ents.length:Int)) (hx:s.Ents[e.toNat]?=some x) (hb:x.Bal.length=17) (hv:sumf (accR e.toNat) s.Receipts≤288230376151711744):d_recon_Accrued n s e=some (decide (-sumf (accR e.toNat) s.Receipts=bl x 1)):=by
  refine ex_eq ?_
  unfold d_recon_Accrued t_recon_Accrued
  simp only [WT.run,run_pw]
  refine rcl hn hl hp e fun l h1 h2 h3=>?_
  have h3:=h3 he.1
  have h0:0≤sumI l:=sumf_nn h2
  refine x_eq (pAgree (a:=1) hn he hx hb (by decide) (by omega) (sum2_nn h2 (by omega)) (by omega)) (x_end ?_)
  rw [h3];exact decide_eq_decide.2 (by rw [show (1:Int).toNat=1 from rfl];omega)
theorem pAccruedNo {s:GState} {n:Nat} (hn:66<n) (hl:s.Receipts.length≤40) (hp:∀ r∈s.Receipts,0≤r.Accrued) {e:Int} (he:¬ (0≤e∧e<(s.Ents.length:Int))):d_recon_Accrued n s e=some false:=by
  refine ex_eq ?_
  unfold d_recon_Accrued t_recon_Accrued
  simp only [WT.run,run_pw]
  exact rcl hn hl hp e fun l h1 h2 h3=>x_eq (pAgreeNo hn he (by omega)) (x_end rfl)
theorem pWay {s:GState} {n:Nat} (hn:66<n) (hl:s.Transits.length≤40) (hp:∀ r∈s.Transits,0≤r.Value) {e:Int} {x:GEnt} (he:0≤e∧e<(s.Ents.length:Int)) (hx:s.Ents[e.toNat]?=some x) (hb:x.Bal.length=17) (hv:sumf (wayT e.toNat) s.Transits≤288230376151711744):d_recon_Way n s e=some (decide (sumf (wayT e.toNat) s.Transits=bl x 12)):=by
  refine ex_eq ?_
  unfold d_recon_Way t_recon_Way
  simp only [WT.run,run_pw]
  refine wcl hn hl hp e fun l h1 h2 h3=>?_
  have h3:=h3 he.1
  have h0:0≤sumI l:=sumf_nn h2
  refine x_eq (pAgree (a:=12) hn he hx hb (by decide) (by omega) (sum2_nn h2 (by omega)) (by omega)) (x_end ?_)
  rw [h3];exact decide_eq_decide.2 (by rw [show (12:Int).toNat=12 from rfl];omega)
theorem pWayNo {s:GState} {n:Nat} (hn:66<n) (hl:s.Transits.length≤40) (hp:∀ r∈s.Transits,0≤r.Value) {e:Int} (he:¬ (0≤e∧e<(s.Ents.length:Int))):d_recon_Way n s e=some false:=by
  refine ex_eq ?_
  unfold d_recon_Way t_recon_Way
  simp only [WT.run,run_pw]
  exact wcl hn hl hp e fun l h1 h2 h3=>x_eq (pAgreeNo hn he (by omega)) (x_end rfl)
theorem pWritten {s:GState} {n:Nat} (hn:66<n) {e:Int} {x:GEnt} (he:0≤e∧e<(s.Ents.length:Int)) (hx:s.Ents[e.toNat]?=some x) (hb:x.Bal.length=17) (hd:x.Down.length≤5) (hp:∀ y∈x.Down,0≤y) (hv:sumI x.Down≤288230376151711744):d_recon_Written n s e=some (decide (-sumI x.Down=bl x 11)):=by
  refine ex_eq ?_
  unfold d_recon_Written t_recon_Written
  simp only [WT.run,run_pw]
  have h0:0≤sumI x.Down:=sumf_nn hp
  refine x_bi (fun b=>b=false) ?_ fun b hb=>?_
  · refine x_bnd (x_cd (fun h=>absurd h (by omega)) fun _=>x_bnd (x_end (decide_eq_false (by omega))))
  · subst hb
    refine x_cF (x_at he.1 hx (x_eq (pAgree (a:=11) hn he hx (by assumption) (by decide) (by omega) (sum2_nn hp hv) (by omega)) (x_end ?_)))
    exact decide_eq_decide.2 (by rw [show (11:Int).toNat=11 from rfl];omega)
theorem pWrittenNo {s:GState} {n:Nat} {e:Int} (he:¬ (0≤e∧e<(s.Ents.length:Int))):d_recon_Written n s e=some false:=by
  refine ex_eq ?_
  unfold d_recon_Written t_recon_Written
  simp only [WT.run,run_pw]
  refine x_bi (fun b=>b=true) ?_ fun b hb=>?_
  · refine x_bnd (x_cd (fun h=>x_end rfl) fun k=>x_bnd (x_end (decide_eq_true (by omega))))
  · subst hb;exact x_cT (x_end rfl)
theorem pTrial {l:List Int} {n:Nat} (hn:66<n) (hl:l.length=17) (hw:∀ x∈l,-9223372036854775808≤x∧x≤9223372036854775807):Ex (fun r=>((∀ x∈l,InM x)→r.2.2=0)∧(r.2.2=0→r.1-r.2.1=sumI l)) (d_gl_Trial n l):=by
  unfold d_gl_Trial t_gl_Trial
  simp only [WT.run,run_pw]
  refine x_bnd (x_cd (fun k=>absurd (by omega) k) fun _=>?_)
  refine x_bi (fun (r:(Int×Int)⊕(Int×Int×Int))=>match r with | .inl r=>r.1-r.2=sumI l | .inr r=>r.2.2≠0∧¬ ∀ x∈l,InM x)
    (x_iter (fun (v:Int×Int×Int)=>0≤v.2.2∧v.2.2≤17∧(0≤v.1∧v.1≤288230376151711744*v.2.2)∧(0≤v.2.1∧v.2.1≤288230376151711744*v.2.2)∧v.1-v.2.1+sumI (l.drop v.2.2.toNat)=sumI l) (fun (v:Int×Int×Int)=>17-v.2.2.toNat) ?_ (v:=(0,0,0)) ⟨by simp,by simp,by simp,by simp,by simp⟩ (by simp;omega)) fun r hr=>x_sel (fun a e=>?_) fun q e=>?_
  · rintro ⟨d,c,i⟩ ⟨a1,a2,a3,a4,a5⟩
    simp only at a1 a2 a3 a4 a5
    refine x_p2 (x_p2 (x_bnd (x_cd (fun k=>?_) fun k=>x_esc (x_brk ?_))))
    · have k:i<(l.length:Int):=k
      refine x_bi (fun (r:(Int×Int)⊕((Int×Int×Int)⊕((Int×Int)⊕(Int×Int×Int))))=>match r with | .inl r=>(0≤r.1∧r.1≤288230376151711744*(i+1))∧(0≤r.2∧r.2≤288230376151711744*(i+1))∧r.1-r.2+sumI (l.drop (i.toNat+1))=sumI l | .inr (.inr (.inr r))=>r.2.2≠0∧¬ ∀ x∈l,InM x | _=>False) (x_ix a1 k fun x hx=>?_) fun r hr=>x_sel (fun a e=>?_) fun q e=>?_
      · have hx:l[i.toNat]?=some x:=hx
        have e1:=sumI_drop hx
        refine x_bi (fun (b:Bool)=>(b=true→¬ InM x)∧(b=false→InM x)) ?_ fun b hb=>x_cond (fun kb=>x_esc (x_esc (x_esc (x_end ⟨by simp,fun hh=>hb.1 kb (hh x (mem_at hx))⟩)))) fun kb=>?_
        · unfold InM
          refine x_bnd (x_cd (fun _=>x_end ⟨fun _=>by omega,fun k=>nomatch k⟩) fun _=>x_bnd (x_end ⟨fun k=>by have:=of_decide_eq_true k;omega,fun k=>by have:=of_decide_eq_false k;omega⟩))
        · have hin:=hb.2 kb
          unfold InM at hin
          refine x_bnd (x_cd (fun _=>x_v (x_brk ⟨by first | omega | (simp only;omega),by first | omega | (simp only;omega),by first | omega | (simp only;omega)⟩)) fun _=>x_v (x_brk ⟨by first | omega | (simp only;omega),by first | omega | (simp only;omega),by first | omega | (simp only;omega)⟩))
      · subst e
        refine x_p2 (x_v (x_brk ⟨⟨by first | omega | (simp only;omega),by first | omega | (simp only;omega),hr.1,hr.2.1,?_⟩,by first | omega | (simp only;omega)⟩))
        show a.1-a.2+sumI (l.drop (i+1).toNat)=sumI l
        rw [show (i+1).toNat=i.toNat+1 by omega];exact hr.2.2
      · subst e
        rcases q with q | q | q
        · exact hr.elim
        · exact hr.elim
        · exact hr
    · have k:¬ i<(l.length:Int):=k
      rw [List.drop_eq_nil_of_le (by omega)] at a5
      have:sumI []=0:=rfl
      first | omega | (simp only;omega)
  · subst e;exact x_p2 (x_end ⟨fun _=>rfl,fun _=>hr⟩)
  · subst e;exact ⟨fun h=>absurd h hr.2,fun h=>absurd h hr.1⟩
theorem pBalanced {s:GState} {n:Nat} (hn:66<n) {e:Int} {x:GEnt} (he:0≤e∧e<(s.Ents.length:Int)) (hx:s.Ents[e.toNat]?=some x) (hb:x.Bal.length=17) (hw:∀ y∈x.Bal,-9223372036854775808≤y∧y≤9223372036854775807):Ex (fun r=>((∀ y∈x.Bal,InM y)→sumI x.Bal=0→r=true)∧(r=true→sumI x.Bal=0)) (d_recon_Balanced n s e):=by
  unfold d_recon_Balanced t_recon_Balanced
  simp only [WT.run,run_pw]
  refine x_bi (fun b=>b=false) ?_ fun b hb=>?_
  · refine x_bnd (x_cd (fun h=>absurd h (by omega)) fun _=>x_bnd (x_end (decide_eq_false (by omega))))
  · subst hb
    refine x_cF (x_at he.1 hx (x_bi _ (pTrial hn (by assumption) hw) fun r hr=>?_))
    refine x_bi (fun (b:Bool)=>((∀ y∈x.Bal,InM y)→sumI x.Bal=0→b=true)∧(b=true→sumI x.Bal=0)) ?_ fun b hb=>x_end hb
    refine x_bnd (x_cd (fun k=>x_bnd (x_end ⟨fun h1 h2=>decide_eq_true (by have:=hr.2 k;omega),fun k2=>by have:=of_decide_eq_true k2;have:=hr.2 k;omega⟩)) fun k=>x_end ⟨fun h1 _=>absurd (hr.1 h1) k,fun k=>nomatch k⟩)
theorem pBalancedNo {s:GState} {n:Nat} {e:Int} (he:¬ (0≤e∧e<(s.Ents.length:Int))):d_recon_Balanced n s e=some false:=by
  refine ex_eq ?_
  unfold d_recon_Balanced t_recon_Balanced
  simp only [WT.run,run_pw]
  refine x_bi (fun b=>b=true) ?_ fun b hb=>?_
  · refine x_bnd (x_cd (fun h=>x_end rfl) fun k=>x_bnd (x_end (decide_eq_true (by omega))))
  · subst hb;exact x_cT (x_end rfl)
theorem pRolled {s:GState} (h:SP s) {n:Nat} (hn:66<n) {e i:Int} {x:GEnt} {r:GRoll} (ht:There s e i) (hx:s.Ents[e.toNat]?=some x) (hr:x.Rolls[i.toNat]?=some r) (hv:sV x.Pools≤288230376151711744):∃ p q,x.Pools[2*i.toNat]?=some p∧x.Pools[2*i.toNat+1]?=some q∧d_recon_Rolled n s e i=some (decide (rsum r=tV p.Layers+tV q.Layers)):=by
  obtain ⟨p,q,w1,w2,w3,w4⟩:=h.worth hn ht hx hv
  obtain ⟨mts,B,cs,g1,g2,g3,g4,hes⟩:=h.at hx
  have hlr:x.Rolls.length=s.Master.Weights.length:=hes.lr
  obtain ⟨i1,i2,i3,i4,i5,i6,i7,i8,i9,i10,i11⟩:=hes.roll r (mem_at (l:=x.Rolls) hr)
  unfold InM at i1 i2 i3 i4 i5 i6 i7 i8 i9 i10 i11
  have t1:=ht.1;have t2:=ht.2
  refine ⟨p,q,w1,w2,ex_eq ?_⟩
  unfold d_recon_Rolled t_recon_Rolled
  simp only [WT.run,run_pw]
  refine x_bi (fun b=>b=false) ?_ fun b hb=>?_
  · refine x_bnd (x_cd (fun h=>absurd h (by omega)) fun _=>x_bnd (x_cd (fun h=>absurd h (by omega)) fun _=>x_bnd (x_cd (fun h=>absurd h (by omega)) fun _=>x_at t1.1 hx (x_bnd (x_cd (fun h=>absurd h (by omega)) fun _=>x_bnd (x_end (decide_eq_false (by omega))))))))
  · subst hb
    refine x_cF (x_at t1.1 hx (x_at t2.1 hr ?_))
    refine x_v (x_v (x_v (x_v (x_v (x_v (x_v (x_v (x_v (x_v (x_eq w3 (x_bnd (x_end ?_))))))))))))
    rfl
theorem pRolledNo {s:GState} (h:SP s) {n:Nat} {e i:Int} (ht:¬ There s e i):d_recon_Rolled n s e i=some false:=by
  have h1:=h.len
  refine ex_eq ?_
  unfold d_recon_Rolled t_recon_Rolled
  simp only [WT.run,run_pw]
  refine x_bi (fun b=>b=true) ?_ fun b hb=>?_
  · refine x_bnd (x_cd (fun _=>x_end rfl) fun k1=>x_bnd (x_cd (fun _=>x_end rfl) fun k2=>x_bnd (x_cd (fun _=>x_end rfl) fun k3=>x_ix (by omega) (by omega) fun x hx=>x_bnd (x_cd (fun _=>x_end rfl) fun k4=>x_bnd (x_end (decide_eq_true ?_))))))
    by_cases k5:i≥(s.Master.Weights.length:Int)
    · exact k5
    · exact absurd ⟨⟨by omega,by omega⟩,by omega,by omega⟩ ht
  · subst hb;exact x_cT (x_end rfl)
end Go.Pv
