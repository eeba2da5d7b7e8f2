/- Vouchers and balances (the document's ref07, ref08). -/
import Derived.Test.YtfbohcojaajpfaaGreatG71
import Derived.Test.YtfbohcojaajpfaaGreatE70
set_option linter.unusedVariables false
set_option linter.unusedSimpArgs false
namespace Go.Pv
open Go.Proofs
set_option maxRecDepth 100000
set_option maxHeartbeats 1000000
def LnOk (x:GLine):Prop:=(0≤x.Account∧x.Account<17)∧InM x.Amount
theorem rLin (x:GLine):Ex (fun r=>r=true↔LnOk x) (d_ref07_in x):=by
  unfold d_ref07_in t_ref07_in LnOk
  simp only [WT.run,run_pw,rIn,Option.bind_some]
  repeat' with_reducible first | refine x_v ?_ | refine x_bv ?_ | apply x_bnd | apply x_p2 | apply x_bb | apply x_bp | apply x_bs | apply x_be | apply x_bk | apply x_bbi | apply x_bc | apply x_ba | refine x_cd (fun _=>?_) fun _=>?_ | refine x_cn (fun _=>?_) fun _=>?_ | apply x_cT | apply x_cF | apply x_sl | apply x_esc | apply x_end
  · simp only [decide_eq_true_eq];exact ⟨fun h=>⟨⟨by omega,by omega⟩,h⟩,fun h=>h.2⟩
  · exact ⟨(fun k=>nomatch k),fun k=>by omega⟩
  · exact ⟨(fun k=>nomatch k),fun k=>by omega⟩
def lsum (l:List GLine) (a:Int):Int:=sumf (fun x=>if x.Account=a then x.Amount else 0) l
def lamt (l:List GLine):Int:=sumf (fun x=>x.Amount) l
theorem getD_set {l:List Int} {k a:Nat} {v:Int} (hk:k<l.length):(l.set k v).getD a 0=if k=a then v else l.getD a 0:=by
  rw [List.getD_eq_getElem?_getD,List.getD_eq_getElem?_getD,get_set hk]
  by_cases h:k=a
  · rw [if_pos h,if_pos h];rfl
  · rw [if_neg h,if_neg h]
theorem getD_at {l:List Int} {k:Nat} {x:Int} (h:l[k]?=some x):l.getD k 0=x:=by rw [List.getD_eq_getElem?_getD,h];rfl
theorem rPlain {l:List GLine} {n:Nat} (hn:66<n) (hl:l.length≤60):Ex (fun r=>r.2=0→(∀ x∈r.1,LnOk x)∧r.1.length≤17∧∀ a:Nat,a<17→lsum r.1 a=lsum l a) (d_ref07_Plain n l):=by
  unfold d_ref07_Plain t_ref07_Plain
  simp only [WT.run,run_pw,rAdd,Option.bind_some]
  refine x_bi (fun (r:Unit⊕(List GLine×Int))=>match r with | .inl _=>∀ x∈l,LnOk x | .inr r=>r.2≠0)
    (x_iter (fun (v:Int)=>0≤v∧v≤(l.length:Int)∧((∀ x∈l.drop v.toNat,LnOk x)→∀ x∈l,LnOk x)) (fun (v:Int)=>l.length-v.toNat) ?_ (v:=0) (by simp) (by simp;omega)) fun r hr=>x_sel (fun u e=>?_) fun b e=>?_
  · rintro i ⟨h0,h1,h2⟩
    refine x_bnd (x_cd (fun h=>?_) fun h=>?_)
    · refine x_ix h0 h fun x hx=>x_bi _ (rLin x) fun b hb=>?_
      repeat' with_reducible first | refine x_v ?_ | refine x_bv ?_ | apply x_bnd | apply x_p2 | apply x_bb | apply x_bp | apply x_bs | apply x_be | apply x_bk | apply x_bbi | apply x_bc | apply x_ba | refine x_cd (fun _=>?_) fun _=>?_ | refine x_cn (fun _=>?_) fun _=>?_ | apply x_cT | apply x_cF | apply x_sl | apply x_esc | apply x_end
      · exact fun k=>nomatch k
      · rename_i k
        refine x_brk ⟨⟨by omega,by omega,fun hh=>h2 fun y hy=>?_⟩,by omega⟩
        rw [(drop_at hx).2] at hy
        rcases List.mem_cons.1 hy with rfl | hy
        · exact hb.1 k
        · exact hh y (by rw [show (i+1).toNat=i.toNat+1 by omega];exact hy)
    · refine x_esc (x_brk (h2 fun x hx=>?_))
      rw [List.drop_eq_nil_of_le (by omega)] at hx;cases hx
  · subst e
    have hk:∀ x∈l,LnOk x:=hr
    refine x_bi (fun (r:List Int⊕(List GLine×Int))=>match r with | .inl h=>h.length=17∧(∀ y∈h,InM y)∧∀ a:Nat,a<17→h.getD a 0=lsum l a | .inr r=>r.2≠0)
      (x_iter (fun (v:Int×List Int)=>0≤v.1∧v.1≤(l.length:Int)∧v.2.length=17∧(∀ y∈v.2,InM y)∧∀ a:Nat,a<17→v.2.getD a 0+lsum (l.drop v.1.toNat) a=lsum l a) (fun (v:Int×List Int)=>l.length-v.1.toNat) ?_ (v:=(0,List.replicate 17 0)) ?_ (by simp;omega)) fun r hr=>x_sel (fun h e=>?_) fun b e=>?_
    · rintro ⟨i,hv⟩ ⟨h0,h1,h2,h3,h4⟩
      simp only at h0 h1 h2 h3 h4
      refine x_p2 (x_bnd (x_cd (fun h=>?_) fun h=>?_))
      · refine x_ix h0 h fun x hx=>?_
        have hx:l[i.toNat]?=some x:=hx
        obtain ⟨g1,g2⟩:=hk x (mem_at hx)
        refine x_as g1 (x_ix g1.1 (by rw [h2];exact g1.2) fun c hc=>x_ix h0 h fun x' hx'=>?_)
        have hx':l[i.toNat]?=some x':=hx'
        rw [hx] at hx';cases hx'
        repeat' with_reducible first | refine x_v ?_ | refine x_bv ?_ | apply x_bnd | apply x_p2 | apply x_bb | apply x_bp | apply x_bs | apply x_be | apply x_bk | apply x_bbi | apply x_bc | apply x_ba | refine x_cd (fun _=>?_) fun _=>?_ | refine x_cn (fun _=>?_) fun _=>?_ | apply x_cT | apply x_cF | apply x_sl | apply x_esc | apply x_end
        · rename_i k;exact k
        · rename_i k
          refine x_ix h0 h fun x' hx'=>?_
          have hx':l[i.toNat]?=some x':=hx'
          rw [hx] at hx';cases hx'
          refine x_as g1 (x_ix g1.1 (by rw [h2];exact g1.2) fun c' hc'=>x_bnd (x_v (x_brk ⟨⟨by simp only;omega,by simp only;omega,by simp only [List.length_set];exact h2,?_,?_⟩,by simp only;omega⟩)))
          · have hin:InM c∧InM x.Amount∧InM (c+x.Amount):=by
              by_cases hh:InM c∧InM x.Amount∧InM (c+x.Amount)
              · exact hh
              · rw [add2_no hh] at k;exact absurd k (by decide)
            rw [add2_ok hin]
            intro y hy
            rcases mem_set hy with rfl | hy
            · exact hin.2.2
            · exact h3 y hy
          · have hin:InM c∧InM x.Amount∧InM (c+x.Amount):=by
              by_cases hh:InM c∧InM x.Amount∧InM (c+x.Amount)
              · exact hh
              · rw [add2_no hh] at k;exact absurd k (by decide)
            rw [add2_ok hin]
            intro a ha
            have h5:=h4 a ha
            have e1:lsum (l.drop i.toNat) a=(if x.Account=(a:Int) then x.Amount else 0)+lsum (l.drop (i.toNat+1)) a:=sumf_drop _ hx
            show (hv.set x.Account.toNat (c+x.Amount)).getD a 0+lsum (l.drop (i+1).toNat) a=lsum l a
            rw [getD_set (by omega),show (i+1).toNat=i.toNat+1 by omega]
            by_cases hA:x.Account.toNat=a
            · rw [if_pos hA];rw [if_pos (by omega)] at e1
              have:hv.getD a 0=c:=getD_at (by rw [← hA];exact hc)
              omega
            · rw [if_neg hA];rw [if_neg (by omega)] at e1;omega
      · refine x_esc (x_brk ⟨h2,h3,fun a ha=>?_⟩)
        have h5:=h4 a ha
        rw [List.drop_eq_nil_of_le (by omega)] at h5
        simp only [lsum,sumf,Int.add_zero] at h5;exact h5
    · refine ⟨by simp,by simp,by simp,?_,?_⟩
      · intro y hy;rw [List.eq_of_mem_replicate hy];decide
      · intro a ha
        show (List.replicate 17 (0:Int)).getD a 0+lsum (l.drop 0) a=lsum l a
        have:(List.replicate 17 (0:Int)).getD a 0=0:=by
          rw [List.getD_eq_getElem?_getD,List.getElem?_replicate];split <;> rfl
        rw [this,Int.zero_add];rfl
    · subst e
      obtain ⟨q1,q2,q3⟩:=hr
      refine x_bi (fun (m:List GLine)=>(∀ x∈m,LnOk x)∧m.length≤17∧∀ a:Nat,a<17→lsum m a=h.getD a 0)
        (x_iter (fun (v:Int×List GLine)=>0≤v.1∧v.1≤17∧(∀ x∈v.2,LnOk x)∧(v.2.length:Int)≤v.1∧∀ a:Nat,lsum v.2 a=if (a:Int)<v.1 then h.getD a 0 else 0) (fun (v:Int×List GLine)=>17-v.1.toNat) ?_ (v:=(0,[])) ?_ (by simp;omega)) fun m hm=>x_end fun _=>?_
      · rintro ⟨i,m⟩ ⟨h0,h1,h2,h3,h4⟩
        simp only at h0 h1 h2 h3 h4
        refine x_p2 (x_bnd (x_cd (fun k=>?_) fun k=>?_))
        · refine x_bi (fun (m':List GLine)=>(∀ x∈m',LnOk x)∧(m'.length:Int)≤i+1∧∀ a:Nat,lsum m' a=if (a:Int)<i+1 then h.getD a 0 else 0) ?_ fun m' hm'=>x_v (x_brk ⟨⟨by simp only;omega,by simp only;omega,hm'.1,hm'.2.1,hm'.2.2⟩,by simp only;omega⟩)
          refine x_as ⟨h0,k⟩ (x_ix h0 (by rw [q1];exact k) fun c hc=>?_)
          have hc:h[i.toNat]?=some c:=hc
          refine x_bnd (x_cd (fun k2=>x_as ⟨h0,k⟩ (x_bnd (x_a (x_end ?_)))) fun k2=>x_end ?_)
          · refine ⟨fun x hx=>?_,by simp;omega,fun a=>?_⟩
            · rcases List.mem_append.1 hx with hx | hx
              · exact h2 x hx
              · rw [List.mem_singleton] at hx;subst hx;exact ⟨⟨h0,k⟩,q2 c (mem_at hc)⟩
            · have e1:lsum (m++[⟨i,c⟩]) a=lsum m a+lsum [⟨i,c⟩] a:=sumf_app _ _ _
              rw [e1,h4 a]
              simp only [lsum,sumf,Int.add_zero]
              by_cases hA:i=(a:Int)
              · rw [if_pos hA,if_neg (by omega),if_pos (by omega),Int.zero_add]
                exact (getD_at (by rw [← hc];congr 1;omega)).symm
              · rw [if_neg hA,Int.add_zero]
                by_cases hB:(a:Int)<i
                · rw [if_pos hB,if_pos (by omega)]
                · rw [if_neg hB,if_neg (by omega)]
          · refine ⟨h2,by (try simp only at *);omega,fun a=>?_⟩
            rw [h4 a]
            by_cases hA:i=(a:Int)
            · rw [if_neg (by omega),if_pos (by omega)]
              have:h.getD a 0=c:=getD_at (by rw [← hc];congr 1;omega)
              rw [this];have:c=0:=by simpa using k2
              exact this.symm
            · by_cases hB:(a:Int)<i
              · rw [if_pos hB,if_pos (by omega)]
              · rw [if_neg hB,if_neg (by omega)]
        · refine x_esc (x_end ⟨h2,by (try simp only at *);omega,fun a ha=>?_⟩)
          rw [h4 a,if_pos (by omega)]
      · refine ⟨by simp,by simp,(fun x hx=>nomatch hx),by simp,fun a=>?_⟩
        show (0:Int)=_
        rw [if_neg (by simp)]
      · exact ⟨hm.1,hm.2.1,fun a ha=>by rw [hm.2.2 a ha,q3 a ha]⟩
    · subst e;exact fun k=>absurd k hr
  · subst e;exact fun k=>absurd k hr
theorem rChk {l:List GLine} {n:Nat} (hn:66<n) (hl:l.length≤60):Ex (fun r=>r=true→lamt l=0) (d_ref07_Check n l):=by
  unfold d_ref07_Check t_ref07_Check
  simp only [WT.run,run_pw]
  refine x_bi (fun (r:List Int⊕Bool)=>match r with | .inl m=>m=l.map (fun x=>x.Amount) | .inr b=>b=false)
    (x_iter (fun (v:Int×List Int)=>0≤v.1∧v.1≤(l.length:Int)∧(v.2.length:Int)≤v.1∧v.2++(l.drop v.1.toNat).map (fun x=>x.Amount)=l.map (fun x=>x.Amount)) (fun (v:Int×List Int)=>l.length-v.1.toNat) ?_ (v:=(0,[])) (by simp) (by simp;omega)) fun r hr=>x_sel (fun m e=>?_) fun b e=>?_
  · rintro ⟨i,m⟩ ⟨h0,h1,h2,h3⟩
    simp only at h0 h1 h2 h3
    refine x_p2 (x_bnd (x_cd (fun h=>?_) fun h=>?_))
    · refine x_bi (fun _=>True) (x_ix h0 h fun x hx=>x_bi _ (rLin x) fun b hb=>?_) fun b _=>x_cond (fun _=>x_esc (x_esc (x_end rfl))) fun _=>?_
      · repeat' with_reducible first | refine x_v ?_ | refine x_bv ?_ | apply x_bnd | apply x_p2 | apply x_bb | apply x_bp | apply x_bs | apply x_be | apply x_bk | apply x_bbi | apply x_bc | apply x_ba | refine x_cd (fun _=>?_) fun _=>?_ | refine x_cn (fun _=>?_) fun _=>?_ | apply x_cT | apply x_cF | apply x_sl | apply x_esc | apply x_end
        · trivial
        · exact x_ix h0 h fun x hx=>x_bnd (x_end trivial)
      · refine x_ix h0 h fun x hx=>x_bnd (x_a (x_v (x_brk ⟨⟨by simp only;omega,by simp only;omega,by simp;omega,?_⟩,by simp only;omega⟩)))
        show (m++[x.Amount])++(l.drop (i+1).toNat).map (fun x=>x.Amount)=_
        rw [← h3,(drop_at hx).2,show (i+1).toNat=i.toNat+1 by omega]
        simp
    · refine x_esc (x_brk ?_)
      rw [List.drop_eq_nil_of_le (by omega)] at h3
      simpa using h3
  · subst e
    have hm:m=l.map (fun x=>x.Amount):=hr
    subst hm
    refine x_eq (rSum (by simp;omega) (by simp;omega)) ?_
    repeat' with_reducible first | refine x_v ?_ | refine x_bv ?_ | apply x_bnd | apply x_p2 | apply x_bb | apply x_bp | apply x_bs | apply x_be | apply x_bk | apply x_bbi | apply x_bc | apply x_ba | refine x_cd (fun _=>?_) fun _=>?_ | refine x_cn (fun _=>?_) fun _=>?_ | apply x_cT | apply x_cF | apply x_sl | apply x_esc | apply x_end
    all_goals try (intro k;cases k;done)
    rename_i k1 k2 k3
    intro k4
    have k4:=of_decide_eq_true k4
    have hs:=sum2_ok k3
    rw [hs.1] at k4
    have e:sumI (l.map (fun x=>x.Amount))=lamt l:=sumf_map _ _ _
    rw [← e];exact k4
  · subst e
    have hb:b=false:=hr
    subst hb;exact fun k=>nomatch k
def PostR (bal:List Int) (l:List GLine) (b:List Int):Prop:=b.length=17∧(∀ y∈b,InM y)∧(∀ a:Nat,a<17→b.getD a 0=bal.getD a 0+lsum l a)∧sumI b=sumI bal
theorem rPost8 {bal:List Int} {l:List GLine} {n:Nat} (hn:66<n) (hl:l.length≤60) (hb:bal.length=17) (hm:∀ y∈bal,InM y):Ex (fun r=>r.2=0→PostR bal l r.1) (d_ref08_Post n bal l):=by
  unfold d_ref08_Post t_ref08_Post
  simp only [WT.run,run_pw,rAdd,Option.bind_some]
  refine x_bnd (x_cd (fun k=>absurd (show (bal.length:Int)=17 by omega) k) fun _=>x_a (x_bi _ (rPlain hn hl) fun m hP=>?_))
  refine x_bi (fun (b:Bool)=>b=false→m.2=0∧lamt m.1=0) ?_ fun b hb2=>x_cond (fun _=>x_end (fun k=>nomatch k)) fun kb=>?_
  · refine x_bnd (x_cd (fun _=>x_end (fun k=>nomatch k)) fun k1=>?_)
    have k1:m.2=0:=by simpa using k1
    obtain ⟨p1,p2,p3⟩:=hP k1
    refine x_bnd (x_cd (fun k2=>x_bi _ (rChk hn (by omega)) fun b hb=>x_bnd (x_end fun k=>⟨k1,hb (by simpa using k)⟩)) fun k2=>x_end fun _=>⟨k1,?_⟩)
    have:m.1=[]:=List.eq_nil_of_length_eq_zero (by omega)
    rw [this];rfl
  · obtain ⟨z1,z2⟩:=hb2 kb
    obtain ⟨p1,p2,p3⟩:=hP z1
    refine x_a (x_bi (fun (r:List Int⊕(List Int×Int))=>match r with | .inl c=>PostR bal l c | .inr r=>r.2≠0)
      (x_iter (fun (v:Int×List Int)=>0≤v.1∧v.1≤(m.1.length:Int)∧v.2.length=17∧(∀ y∈v.2,InM y)∧(∀ a:Nat,a<17→v.2.getD a 0+lsum (m.1.drop v.1.toNat) a=bal.getD a 0+lsum m.1 a)∧sumI v.2+lamt (m.1.drop v.1.toNat)=sumI bal+lamt m.1) (fun (v:Int×List Int)=>m.1.length-v.1.toNat) ?_ (v:=(0,bal)) ⟨by simp,by simp,hb,hm,fun a ha=>rfl,rfl⟩ (by simp;omega)) fun r hr=>x_sel (fun c e=>x_end fun _=>?_) fun b e=>?_)
    · rintro ⟨i,c⟩ ⟨h0,h1,h2,h3,h4,h5⟩
      simp only at h0 h1 h2 h3 h4 h5
      refine x_p2 (x_bnd (x_cd (fun h=>?_) fun h=>?_))
      · refine x_ix h0 h fun x hx=>?_
        have hx:m.1[i.toNat]?=some x:=hx
        obtain ⟨g1,g2⟩:=p1 x (mem_at hx)
        refine x_ix g1.1 (by rw [h2];exact g1.2) fun v hv=>x_ix h0 h fun x' hx'=>?_
        have hx':m.1[i.toNat]?=some x':=hx'
        rw [hx] at hx';cases hx'
        repeat' with_reducible first | refine x_v ?_ | refine x_bv ?_ | apply x_bnd | apply x_p2 | apply x_bb | apply x_bp | apply x_bs | apply x_be | apply x_bk | apply x_bbi | apply x_bc | apply x_ba | refine x_cd (fun _=>?_) fun _=>?_ | refine x_cn (fun _=>?_) fun _=>?_ | apply x_cT | apply x_cF | apply x_sl | apply x_esc | apply x_end
        · rename_i k;exact k
        · rename_i k
          refine x_ix h0 h fun x' hx'=>?_
          have hx':m.1[i.toNat]?=some x':=hx'
          rw [hx] at hx';cases hx'
          have hin:InM v∧InM x.Amount∧InM (v+x.Amount):=by
            by_cases hh:InM v∧InM x.Amount∧InM (v+x.Amount)
            · exact hh
            · rw [add2_no hh] at k;exact absurd k (by decide)
          rw [add2_ok hin]
          have hv:c[x.Account.toNat]?=some v:=hv
          have e2:(i+1).toNat=i.toNat+1:=by omega
          refine x_ix g1.1 (by rw [h2];exact g1.2) fun v' hv'=>x_bnd (x_v (x_brk ⟨⟨by simp only;omega,by simp only;omega,by simp only [List.length_set];exact h2,?_,?_,?_⟩,by simp only;omega⟩))
          · intro y hy
            rcases mem_set hy with rfl | hy
            · exact hin.2.2
            · exact h3 y hy
          · intro a ha
            have h6:=h4 a ha
            have e1:lsum (m.1.drop i.toNat) a=(if x.Account=(a:Int) then x.Amount else 0)+lsum (m.1.drop (i.toNat+1)) a:=sumf_drop _ hx
            show (c.set x.Account.toNat (v+x.Amount)).getD a 0+lsum (m.1.drop (i+1).toNat) a=_
            rw [getD_set (by omega),e2]
            by_cases hA:x.Account.toNat=a
            · rw [if_pos hA];rw [if_pos (by omega)] at e1
              have:c.getD a 0=v:=getD_at (by rw [← hA];exact hv)
              omega
            · rw [if_neg hA];rw [if_neg (by omega)] at e1;omega
          · have e1:lamt (m.1.drop i.toNat)=x.Amount+lamt (m.1.drop (i.toNat+1)):=sumf_drop _ hx
            have e3:sumI (c.set x.Account.toNat (v+x.Amount))=sumI c-v+(v+x.Amount):=sumf_set _ hv
            show sumI (c.set x.Account.toNat (v+x.Amount))+lamt (m.1.drop (i+1).toNat)=_
            rw [e3,e2];omega
      · refine x_esc (x_brk ⟨h2,h3,fun a ha=>?_,?_⟩)
        · have h6:=h4 a ha
          rw [List.drop_eq_nil_of_le (by omega)] at h6
          have:lsum [] (a:Int)=0:=rfl
          have:=p3 a ha
          (try simp only at *);omega
        · rw [List.drop_eq_nil_of_le (by omega)] at h5
          have:lamt []=0:=rfl
          (try simp only at *);omega
    · subst e;exact hr
    · subst e;exact fun k=>absurd k hr
end Go.Pv
