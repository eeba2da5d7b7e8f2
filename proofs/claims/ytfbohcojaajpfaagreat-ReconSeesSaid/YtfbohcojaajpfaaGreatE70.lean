import Derived.Test.YtfbohcojaajpfaaGreatX70h
import Derived.Test.YtfbohcojaajpfaaGreatB70
set_option linter.unusedVariables false
set_option linter.unusedSimpArgs false
namespace Go.Pv
open Go.Proofs
set_option maxRecDepth 100000
set_option maxHeartbeats 4000000
noncomputable section
end
open Go.Proofs
set_option maxRecDepth 100000
set_option maxHeartbeats 1000000
def tQ:List GLayer→Int | []=>0 | x :: r=>x.Qty+tQ r
def tV:List GLayer→Int | []=>0 | x :: r=>x.Value+tV r
def tP:List GLayer→Int | []=>0 | x :: r=>x.Profit+tP r
def ab (x:Int):Int:=if x<0 then -x else x
def tS:List GLayer→Int | []=>0 | x :: r=>ab x.Profit+tS r
def LOk (x:GLayer):Prop:=(1≤x.Qty∧x.Qty≤288230376151711744)∧(0≤x.Value∧x.Value≤288230376151711744)∧InM x.Profit
def LR (l:List GLayer):Prop:=(∀ x∈l,LOk x)∧l.length≤30∧tQ l≤288230376151711744∧tV l≤288230376151711744∧tS l≤288230376151711744
theorem ab_ge (x:Int):0≤ab x∧-ab x≤x∧x≤ab x:=by unfold ab;split <;> omega
theorem s_app (a b:List GLayer):tQ (a++b)=tQ a+tQ b∧tV (a++b)=tV a+tV b∧tP (a++b)=tP a+tP b∧tS (a++b)=tS a+tS b:=by
  induction a with
  | nil=>simp [tQ,tV,tP,tS]
  | cons x r ih=>obtain ⟨h1,h2,h3,h4⟩:=ih;simp only [List.cons_append,tQ,tV,tP,tS,h1,h2,h3,h4];refine ⟨?_,?_,?_,?_⟩ <;> omega
theorem s_pos {l:List GLayer} (h:∀ x∈l,LOk x):0≤tQ l∧0≤tV l∧0≤tS l∧-tS l≤tP l∧tP l≤tS l∧(l.length:Int)≤tQ l:=by
  induction l with
  | nil=>simp [tQ,tV,tP,tS]
  | cons x r ih =>
    obtain ⟨h1,h2,h3,h4,h5,h6⟩:=ih fun y hy=>h y (List.mem_cons_of_mem _ hy)
    obtain ⟨g1,g2,g3⟩:=h x (List.mem_cons_self ..)
    obtain ⟨a1,a2,a3⟩:=ab_ge x.Profit
    simp only [tQ,tV,tP,tS,List.length_cons]
    refine ⟨?_,?_,?_,?_,?_,?_⟩ <;> omega
theorem x_cF {β:Type} {P:β→Prop} {a b:Option β} (h:Ex P b):Ex P (cond false a b):=h
theorem x_cT {β:Type} {P:β→Prop} {a b:Option β} (h:Ex P a):Ex P (cond true a b):=h
theorem drop_s {l:List GLayer} {i:Nat} {x:GLayer} (h:l[i]?=some x):tQ (l.drop i)=x.Qty+tQ (l.drop (i+1))∧tV (l.drop i)=x.Value+tV (l.drop (i+1))∧tP (l.drop i)=x.Profit+tP (l.drop (i+1))∧tS (l.drop i)=ab x.Profit+tS (l.drop (i+1)):=by
  rw [(drop_at h).2];exact ⟨rfl,rfl,rfl,rfl⟩
theorem mem_at {α:Type} {l:List α} {i:Nat} {x:α} (h:l[i]?=some x):x∈l:=List.mem_of_getElem? h
theorem add2_ok {a b:Int} (h:InM a∧InM b∧InM (a+b)):add2 a b=(a+b,0):=by unfold add2;rw [if_pos h]
theorem add2_no {a b:Int} (h:¬ (InM a∧InM b∧InM (a+b))):add2 a b=(0,2):=by unfold add2;rw [if_neg h]
theorem rTotal {l:List GLayer} {n:Nat} (hn:l.length+1<n) (hl:(l.length:Int)<1000000000) (hk:∀ x∈l,LOk x) :
    Ex (fun r=>(tQ l≤288230376151711744→tV l≤288230376151711744→tS l≤288230376151711744→r=(⟨tQ l,tV l,tP l⟩,0))∧(r.2=0→tQ l≤288230376151711744∧tV l≤288230376151711744)) (d_ref09_Total n l):=by
  have hp:=s_pos hk
  have hd:∀ i,∀ x∈l.drop i,LOk x:=fun i x hx=>hk x (List.mem_of_mem_drop hx)
  unfold d_ref09_Total t_ref09_Total
  simp only [WT.run,run_pw,rAdd,Option.bind_some]
  refine x_bi (fun (r:GLayer⊕(GLayer×Int))=>match r with
    | .inl a=>a=⟨tQ l,tV l,tP l⟩∧tQ l≤288230376151711744∧tV l≤288230376151711744
    | .inr q=>q.2=2∧¬ (tQ l≤288230376151711744∧tV l≤288230376151711744∧tS l≤288230376151711744))
    (x_iter (fun (v:Int×GLayer)=>0≤v.1∧v.1≤(l.length:Int)∧(0≤v.2.Qty∧v.2.Qty≤288230376151711744∧v.2.Qty+tQ (l.drop v.1.toNat)=tQ l)∧(0≤v.2.Value∧v.2.Value≤288230376151711744∧v.2.Value+tV (l.drop v.1.toNat)=tV l)∧(InM v.2.Profit∧v.2.Profit+tP (l.drop v.1.toNat)=tP l∧ab v.2.Profit+tS (l.drop v.1.toNat)≤tS l)) (fun (v:Int×GLayer)=>l.length-v.1.toNat) ?_ (v:=(0,⟨0,0,0⟩)) (by simp [InM,ab]) (by simp;omega)) ?_
  · rintro ⟨i,q,v,p⟩ ⟨h0,h1,h2,h3,h4⟩
    refine x_p2 (x_bnd (x_cond (fun h=>?_) fun h=>?_))
    · have h:=of_decide_eq_true h
      simp only at h0 h1 h2 h3 h4 h
      refine x_ix h0 h fun x hx=>x_ix h0 h fun x' hx'=>x_ix h0 h fun x'' hx''=>?_
      rw [hx] at hx' hx'';cases hx';cases hx''
      have hx:l[i.toNat]?=some x:=hx
      obtain ⟨d1,d2,d3,d4⟩:=drop_s hx
      obtain ⟨g1,g2,g3⟩:=hk x (mem_at hx)
      have hr:=s_pos (hd (i.toNat+1))
      have e:(i+1).toNat=i.toNat+1:=by omega
      obtain ⟨a1,a2,a3⟩:=ab_ge x.Profit
      obtain ⟨b1,b2,b3⟩:=ab_ge p
      unfold InM at h4
      by_cases hA:InM q∧InM x.Qty∧InM (q+x.Qty)
      · by_cases hB:InM v∧InM x.Value∧InM (v+x.Value)
        · by_cases hC:InM p∧InM x.Profit∧InM (p+x.Profit)
          · rw [add2_ok hA,add2_ok hB,add2_ok hC]
            refine x_eq (a:=false) rfl (x_cF (x_w (show -9223372036854775808≤i+1∧i+1≤9223372036854775807 by omega) (x_brk ?_)))
            unfold InM at hA hB hC
            refine ⟨⟨by show (0:Int)≤i+1;omega,by show i+1≤(l.length:Int);omega,?_,?_,?_⟩,by show l.length-(i+1).toNat<l.length-i.toNat;omega⟩
            · show 0≤q+x.Qty∧q+x.Qty≤_∧q+x.Qty+tQ (l.drop (i+1).toNat)=tQ l
              rw [e];omega
            · show 0≤v+x.Value∧v+x.Value≤_∧v+x.Value+tV (l.drop (i+1).toNat)=tV l
              rw [e];omega
            · show InM (p+x.Profit)∧p+x.Profit+tP (l.drop (i+1).toNat)=tP l∧ab (p+x.Profit)+tS (l.drop (i+1).toNat)≤tS l
              rw [e]
              refine ⟨hC.2.2,by omega,?_⟩
              have:ab (p+x.Profit)≤ab p+ab x.Profit:=by unfold ab;repeat' split <;> omega
              omega
          · rw [add2_ok hA,add2_ok hB,add2_no hC]
            refine x_eq (a:=true) rfl (x_esc (x_esc (x_end ⟨rfl,?_⟩)))
            intro hh
            apply hC;unfold InM at g3 ⊢;omega
        · rw [add2_ok hA,add2_no hB]
          refine x_eq (a:=true) rfl (x_esc (x_esc (x_end ⟨rfl,?_⟩)))
          intro hh
          apply hB;unfold InM;omega
      · rw [add2_no hA]
        refine x_eq (a:=true) rfl (x_esc (x_esc (x_end ⟨rfl,?_⟩)))
        intro hh
        apply hA;unfold InM;omega
    · have h:=of_decide_eq_false h
      simp only at h0 h1 h2 h3 h4 h
      have e:l.drop i.toNat=[]:=List.drop_eq_nil_of_le (by omega)
      rw [e] at h2 h3 h4
      simp only [tQ,tV,tP,tS] at h2 h3 h4
      refine x_esc (x_brk ⟨?_,by omega,by omega⟩)
      show (⟨q,v,p⟩:GLayer)=_
      rw [show q=tQ l by omega,show v=tV l by omega,show p=tP l by omega]
  · intro r hr
    refine x_sel (fun a e=>x_end ?_) fun q e=>?_
    · subst e;obtain ⟨rfl,h1,h2⟩:=hr;exact ⟨fun _ _ _=>rfl,fun _=>⟨h1,h2⟩⟩
    · subst e;obtain ⟨h1,h2⟩:=hr
      exact ⟨fun k1 k2 k3=>absurd ⟨k1,k2,k3⟩ h2,fun k=>by rw [h1] at k;exact absurd k (by decide)⟩
theorem rSwing {l:List GLayer} {n:Nat} (hn:l.length+1<n) (hl:(l.length:Int)<1000000000) (hk:∀ x∈l,LOk x) :
    Ex (fun r=>(tS l≤288230376151711744→r=(tS l,0))∧(r.2=0→tS l≤288230376151711744)) (d_ref09_Swing n l):=by
  have hp:=s_pos hk
  have hd:∀ i,∀ x∈l.drop i,LOk x:=fun i x hx=>hk x (List.mem_of_mem_drop hx)
  unfold d_ref09_Swing t_ref09_Swing
  simp only [WT.run,run_pw,rAdd,Option.bind_some]
  refine x_bi (fun (r:Int⊕(Int×Int))=>match r with
    | .inl a=>a=tS l∧tS l≤288230376151711744
    | .inr q=>q.2=2∧¬ tS l≤288230376151711744)
    (x_iter (fun (v:Int×Int)=>0≤v.2∧v.2≤(l.length:Int)∧(0≤v.1∧v.1≤288230376151711744∧v.1+tS (l.drop v.2.toNat)=tS l)) (fun (v:Int×Int)=>l.length-v.2.toNat) ?_ (v:=(0,0)) (by simp) (by simp;omega)) ?_
  · rintro ⟨s,i⟩ ⟨h0,h1,h2⟩
    refine x_p2 (x_bnd (x_cond (fun h=>?_) fun h=>?_))
    · have h:=of_decide_eq_true h
      simp only at h0 h1 h2 h
      refine x_ix h0 h fun x hx=>x_ix h0 h fun x' hx'=>?_
      rw [hx] at hx';cases hx'
      have hx:l[i.toNat]?=some x:=hx
      obtain ⟨d1,d2,d3,d4⟩:=drop_s hx
      obtain ⟨g1,g2,g3⟩:=hk x (mem_at hx)
      have hr:=s_pos (hd (i.toNat+1))
      have e:(i+1).toNat=i.toNat+1:=by omega
      unfold InM at g3
      refine x_w (by omega) (x_bnd ?_)
      have ea:(if 0-x.Profit>x.Profit then 0-x.Profit else x.Profit)=ab x.Profit:=by unfold ab;repeat' split <;> omega
      rw [ea]
      obtain ⟨a1,a2,a3⟩:=ab_ge x.Profit
      have aM:ab x.Profit≤288230376151711744:=by unfold ab;split <;> omega
      by_cases hA:InM s∧InM (ab x.Profit)∧InM (s+ab x.Profit)
      · rw [add2_ok hA]
        refine x_eq (a:=false) ?_ (x_cF (x_w (show -9223372036854775808≤i+1∧i+1≤9223372036854775807 by omega) (x_brk ?_)))
        · exact v_F (fun k=>k rfl) (v_cF (v_ix h0 hx (v_F (by omega) rfl)))
        · unfold InM at hA
          refine ⟨⟨by show (0:Int)≤i+1;omega,by show i+1≤(l.length:Int);omega,?_⟩,by show l.length-(i+1).toNat<l.length-i.toNat;omega⟩
          show 0≤s+ab x.Profit∧s+ab x.Profit≤_∧s+ab x.Profit+tS (l.drop (i+1).toNat)=tS l
          rw [e];omega
      · rw [add2_no hA]
        refine x_eq (a:=true) rfl (x_esc (x_esc (x_end ⟨rfl,?_⟩)))
        intro hh
        apply hA;unfold InM;omega
    · have h:=of_decide_eq_false h
      simp only at h0 h1 h2 h
      have e:l.drop i.toNat=[]:=List.drop_eq_nil_of_le (by omega)
      rw [e] at h2
      simp only [tS] at h2
      exact x_esc (x_brk ⟨by show s=tS l;omega,by omega⟩)
  · intro r hr
    refine x_sel (fun a e=>x_end ?_) fun q e=>?_
    · subst e;obtain ⟨rfl,h1⟩:=hr;exact ⟨fun _=>rfl,fun _=>h1⟩
    · subst e;obtain ⟨h1,h2⟩:=hr
      exact ⟨fun k1=>absurd k1 h2,fun k=>by rw [h1] at k;exact absurd k (by decide)⟩
theorem rRight {l:List GLayer} {n:Nat} (hn:l.length+1<n) (hl:(l.length:Int)<1000000000):Ex (fun r=>r=true↔LR l) (d_ref09_Right n l):=by
  unfold d_ref09_Right t_ref09_Right
  simp only [WT.run,run_pw,rIn,Option.bind_some]
  refine x_bi (fun (r:Unit⊕Bool)=>match r with | .inl _=>∀ x∈l,LOk x | .inr b=>b=false∧¬ ∀ x∈l,LOk x)
    (x_iter (fun (v:Int)=>0≤v∧v≤(l.length:Int)∧((∀ x∈l.drop v.toNat,LOk x)→∀ x∈l,LOk x)) (fun (v:Int)=>l.length-v.toNat) ?_ (v:=0) (by simp) (by simp;omega)) ?_
  · rintro i ⟨h0,h1,h2⟩
    refine x_bnd (x_cond (fun h=>?_) fun h=>?_)
    · have h:=of_decide_eq_true h
      refine x_ix h0 h fun x hx=>?_
      have e:(i+1).toNat=i.toNat+1:=by omega
      by_cases hx2:LOk x
      · obtain ⟨g1,g2,g3⟩:=hx2
        refine x_eq (a:=false) (v_F (by omega) (v_cF (v_F (by omega) (v_cF (v_F (by omega) (v_cF (v_F (by omega) (v_cF (by simp [bnd,g3]))))))))) (x_cF (x_w (by omega) (x_brk ⟨⟨by omega,by omega,?_⟩,by show l.length-(i+1).toNat<_;omega⟩)))
        rw [e];intro hh
        refine h2 fun y hy=>?_
        rw [(drop_at hx).2] at hy
        rcases List.mem_cons.1 hy with rfl | hy
        · exact ⟨g1,g2,g3⟩
        · exact hh y hy
      · refine x_bi (fun b=>b=true) ?_ fun b hb=>?_
        · refine x_bnd (x_cond (fun k1=>x_end rfl) fun k1=>x_bnd (x_cond (fun k2=>x_end rfl) fun k2=>x_bnd (x_cond (fun k3=>x_end rfl) fun k3=>x_bnd (x_cond (fun k4=>x_end rfl) fun k4=>?_))))
          have k1:=of_decide_eq_false k1;have k2:=of_decide_eq_false k2;have k3:=of_decide_eq_false k3;have k4:=of_decide_eq_false k4
          by_cases k5:InM x.Profit
          · exact absurd ⟨by omega,by omega,k5⟩ hx2
          · exact x_bnd (x_bnd (x_end (by simp [k5])))
        · subst hb
          exact x_cT (x_esc (x_esc (x_end ⟨rfl,fun hh=>hx2 (hh x (mem_at hx))⟩)))
    · have h:=of_decide_eq_false h
      refine x_esc (x_brk (h2 fun x hx=>?_))
      rw [List.drop_eq_nil_of_le (by omega)] at hx;cases hx
  · intro r hr
    refine x_sel (fun a e=>?_) fun q e=>?_
    · subst e
      have hk:∀ x∈l,LOk x:=hr
      refine x_bi _ (rTotal hn hl hk) fun a ha=>x_bi _ (rSwing hn hl hk) fun b hb=>?_
      have hp:=s_pos hk
      refine x_bi (fun r=>r=true↔LR l) (x_bnd (x_cond (fun k1=>x_bnd (x_cond (fun k2=>x_bnd (x_end ?_)) fun k2=>x_end ?_)) fun k1=>x_end ?_)) fun r hr=>x_end hr
      · have k1:=of_decide_eq_true k1;have k2:=of_decide_eq_true k2
        have h3:=ha.2 k2
        constructor
        · intro k3;exact ⟨hk,by omega,h3.1,h3.2,hb.2 (of_decide_eq_true k3)⟩
        · intro k3;rw [hb.1 k3.2.2.2.2];exact decide_eq_true rfl
      · have k2:=of_decide_eq_false k2
        refine ⟨fun (k:false=true)=>Bool.noConfusion k,fun k=>absurd ?_ k2⟩
        rw [ha.1 k.2.2.1 k.2.2.2.1 k.2.2.2.2]
      · have k1:=of_decide_eq_false k1
        exact ⟨fun (k:false=true)=>Bool.noConfusion k,fun k=>absurd k.2.1 (by omega)⟩
    · subst e;obtain ⟨h1,h2⟩:=hr
      exact ⟨fun k=>(by rw [h1] at k;cases k),fun k=>absurd k.1 h2⟩
theorem x_cd {β:Type} {P:β→Prop} {p:Prop} {_:Decidable p} {a b:Option β} (h1:p→Ex P a) (h2:¬p→Ex P b):Ex P (cond (decide p) a b):=by
  by_cases h:p
  · rw [decide_eq_true h];exact h1 h
  · rw [decide_eq_false h];exact h2 h
theorem x_cn {β:Type} {P:β→Prop} {c:Bool} {a b:Option β} (h1:c=false→Ex P a) (h2:c=true→Ex P b):Ex P (cond (!c) a b):=by cases c;exact h1 rfl;exact h2 rfl
theorem x_bb {α γ β:Type} {P:β→Prop} {x:γ} {g:γ→Option α} {f:α→Option β} (h:Ex P ((g x).bind f)):Ex P ((bnd x g).bind f):=h
theorem x_bw {α β:Type} {P:β→Prop} {x:Int} {g:Int→Option α} {f:α→Option β} (hx:-9223372036854775808≤x∧x≤9223372036854775807) (h:Ex P ((g x).bind f)):Ex P ((bnd (w64 x) g).bind f):=by
  obtain ⟨r,e,p⟩:=h;have k:w64 x=x:=wrap64 hx
  exact ⟨r,by rw [← e];show Option.bind (g (w64 x)) f=_;rw [k],p⟩
theorem x_bc {α β:Type} {P:β→Prop} {c:Bool} {x y:Option α} {f:α→Option β} (h:Ex P (cond c (x.bind f) (y.bind f))):Ex P ((cond c x y).bind f):=by cases c;exact h;exact h
theorem x_bs {α β:Type} {P:β→Prop} {a:α} {f:α→Option β} (h:Ex P (f a)):Ex P ((some a).bind f):=h
theorem x_bbi {α γ β:Type} {P:β→Prop} {x:Option γ} {g:γ→Option α} {f:α→Option β} (h:Ex P (x.bind fun a=>(g a).bind f)):Ex P ((x.bind g).bind f):=by cases x;exact h;exact h
theorem x_bp {α γ δ β:Type} {P:β→Prop} {g:γ→δ→Option α} {q:γ×δ} {f:α→Option β} (h:Ex P ((g q.1 q.2).bind f)):Ex P ((p2 g q).bind f):=h
theorem x_ba {α β:Type} {P:β→Prop} {p:Prop} [Decidable p] {k:Option α} {f:α→Option β} (h:Ex P (asrt p (k.bind f))):Ex P ((asrt p k).bind f):=by
  unfold asrt at h ⊢
  by_cases hp:p
  · rw [if_pos hp] at h ⊢;exact h
  · rw [if_neg hp] at h;obtain ⟨r,e,_⟩:=h;cases e
theorem x_be {α β:Type} {P:β→Prop} {x:Option β} {f:α→Option β} (h:Ex P x):Ex P ((esc x:Option (α⊕β)).bind (sel f)):=by obtain ⟨r,e,p⟩:=h;subst e;exact ⟨_,rfl,p⟩
theorem x_bk {α β:Type} {P:β→Prop} {a:α} {f:α→Option β} (h:Ex P (f a)):Ex P ((brk a:Option (α⊕β)).bind (sel f)):=h
theorem x_sl {α β:Type} {P:β→Prop} {f:α→Option β} {a:α} (h:Ex P (f a)):Ex P (sel f (.inl a)):=h
theorem x_sr {α β:Type} {P:β→Prop} {f:α→Option β} {a:β} (h:P a):Ex P (sel f (.inr a)):=⟨a,rfl,h⟩
theorem x_at {α β:Type} {P:β→Prop} {l:List α} {i:Int} {a:α} {f:α→Option β} (h0:0≤i) (h:l[i.toNat]?=some a) (k:Ex P (f a)):Ex P ((ix l i).bind f):=by
  obtain ⟨r,e,p⟩:=k;exact ⟨r,v_ix h0 h e,p⟩
theorem x_v {β:Type} {P:β→Prop} {x:Int} {f:Int→Option β} (h:Ex P (f x)) (hx:-9223372036854775808≤x∧x≤9223372036854775807:=by first | omega | (simp only;omega)):Ex P (bnd (w64 x) f):=x_w hx h
theorem x_bv {α β:Type} {P:β→Prop} {x:Int} {g:Int→Option α} {f:α→Option β} (h:Ex P ((g x).bind f)) (hx:-9223372036854775808≤x∧x≤9223372036854775807:=by first | omega | (simp only;omega)):Ex P ((bnd (w64 x) g).bind f):=x_bw hx h
theorem x_a {β:Type} {P:β→Prop} {p:Prop} {_:Decidable p} {k:Option β} (h:Ex P k) (hp:p:=by first | omega | (simp only [List.length_append,List.length_cons,List.length_nil,List.length_set];omega) | (simp;omega)):Ex P (asrt p k):=x_as hp h
theorem LR_len {l:List GLayer} (h:LR l):l.length≤30:=h.2.1
theorem rIn9 {l:List GLayer} {x:GLayer} {n:Nat} (hn:66<n) (hl:LR l):Ex (fun r=>(r.2=0∧r.1=l++[x]∧LR (l++[x]))∨(r.2≠0∧r.1=l)) (d_ref09_In n l x):=by
  unfold d_ref09_In t_ref09_In
  simp only [WT.run,run_pw]
  have h1:=LR_len hl
  refine x_a (x_bnd (x_a ?_))
  refine x_bi (fun _=>True) (x_bnd (x_cond (fun _=>x_end trivial) fun _=>x_bnd (x_end trivial))) fun b _=>x_cond (fun _=>x_end (.inr ⟨(fun k=>nomatch k),rfl⟩)) fun _=>x_bnd (x_cond (fun _=>x_end (.inr ⟨(fun k=>nomatch k),rfl⟩)) fun k=>?_)
  refine x_bi _ (rRight (l:=l++[x]) (by simp;omega) (by simp;omega)) fun b hb=>x_bnd (x_cond (fun _=>x_end (.inr ⟨(fun k=>nomatch k),rfl⟩)) fun k2=>x_end (.inl ⟨rfl,rfl,hb.1 (by simpa using k2)⟩))
theorem part_ab {p w q:Int} (hp:InM p) (hw:1≤w∧w<q):ab (p-pt p w q)+ab (pt p w q)=ab p∧InM (pt p w q)∧InM (p-pt p w q):=by
  unfold InM at hp ⊢
  have e:pt p w q=if p<0 then -(-p*w / q) else p*w / q:=by
    unfold pt;rw [if_neg (by intro h;rcases h with h | h | h | h;all_goals first | omega | exact h hp)]
  rw [e]
  by_cases h:p<0
  · obtain ⟨g1,g2⟩:=part_le (v:=-p) (q:=w) (n:=q) (by omega) (by omega) (by omega)
    rw [if_pos h];generalize -p*w / q=z at *
    unfold ab
    repeat' split
    all_goals omega
  · obtain ⟨g1,g2⟩:=part_le (v:=p) (q:=w) (n:=q) (by omega) (by omega) (by omega)
    rw [if_neg h];generalize p*w / q=z at *
    unfold ab
    repeat' split
    all_goals omega
theorem part_nn {v w q:Int} (hv:0≤v∧v≤288230376151711744) (hw:1≤w∧w<q):0≤pt v w q∧pt v w q≤v:=by
  have e:pt v w q=v*w / q:=by
    unfold pt;rw [if_neg (by unfold InM;intro h;omega),if_neg (by omega)]
  rw [e];exact part_le (by omega) (by omega) (by omega)
def Tak (l m:List GLayer) (g:GLayer):Prop:=LR m∧m.length≤l.length∧tQ m+g.Qty=tQ l∧tV m+g.Value=tV l∧tP m+g.Profit=tP l∧tS m+ab g.Profit≤tS l∧0≤g.Value
theorem LR_of {l:List GLayer} {a b c:Int} (h1:∀ x∈l,LOk x) (h2:l.length≤30) (h3:tQ l≤a) (h4:tV l≤b) (h5:tS l≤c) (ha:a≤288230376151711744) (hb:b≤288230376151711744) (hc:c≤288230376151711744):LR l:=⟨h1,h2,by omega,by omega,by omega⟩
theorem rOut9 {l:List GLayer} {q:Int} {n:Nat} (hn:66<n) (hl:LR l) (hq:-9223372036854775808≤q∧q≤9223372036854775807) :
    Ex (fun r=>(r.2.2=0∧1≤q∧r.2.1.Qty=q∧Tak l r.1 r.2.1)∨(r.2.2≠0∧r.1=l∧r.2.1=⟨0,0,0⟩∧(1≤q→tQ l<q))) (d_ref09_Out n l q):=by
  obtain ⟨hk,h30,hQ,hV,hS⟩:=hl
  have hp:=s_pos hk
  unfold d_ref09_Out t_ref09_Out
  simp only [WT.run,run_pw]
  refine x_bi _ (rTotal (by omega) (by omega) hk) fun t ht=>?_
  rw [ht.1 hQ hV hS]
  refine x_bnd (x_cond (fun k1=>x_end (.inr ⟨(fun k=>nomatch k),rfl,rfl,fun k=>?_⟩)) fun k1=>x_bnd (x_cond (fun k2=>x_end (.inr ⟨(fun k=>nomatch k),rfl,rfl,fun k=>of_decide_eq_true k2⟩)) fun k2=>?_))
  · have:=of_decide_eq_true k1;omega
  have k1:=of_decide_eq_false k1;have k2:=of_decide_eq_false k2
  simp only at k2
  refine x_bi (fun (r:GLayer×List GLayer)=>r.1.Qty=q∧Tak l r.2 r.1) (x_iter (fun (v:Int×GLayer×List GLayer)=>0≤v.1∧v.1≤(l.length:Int)∧(∀ x∈v.2.2,LOk x)∧(v.2.2.length:Int)≤v.1∧(0≤v.2.1.Qty∧v.2.1.Qty≤q)∧0≤v.2.1.Value∧tQ v.2.2+v.2.1.Qty+tQ (l.drop v.1.toNat)=tQ l∧tV v.2.2+v.2.1.Value+tV (l.drop v.1.toNat)=tV l∧tP v.2.2+v.2.1.Profit+tP (l.drop v.1.toNat)=tP l∧tS v.2.2+ab v.2.1.Profit+tS (l.drop v.1.toNat)≤tS l∧(tQ v.2.2>0→v.2.1.Qty=q)) (fun (v:Int×GLayer×List GLayer)=>l.length-v.1.toNat) ?_ (v:=(0,⟨0,0,0⟩,[])) (by simp [tQ,tV,tP,tS,ab];omega) (by simp;omega)) ?_
  · rintro ⟨i,⟨gq,gv,gp⟩,m⟩ ⟨h0,h1,hm,hml,hg,hgv,e1,e2,e3,e4,e5⟩
    refine x_p2 (x_p2 (x_bnd (x_cond (fun h=>?_) fun h=>?_)))
    · have h:=of_decide_eq_true h
      simp only at h0 h1 hm hml hg hgv e1 e2 e3 e4 e5 h
      refine x_bi (fun (r:GLayer×List GLayer)=>(∀ x∈r.2,LOk x)∧(r.2.length:Int)≤i+1∧(0≤r.1.Qty∧r.1.Qty≤q)∧0≤r.1.Value∧tQ r.2+r.1.Qty+tQ (l.drop (i.toNat+1))=tQ l∧tV r.2+r.1.Value+tV (l.drop (i.toNat+1))=tV l∧tP r.2+r.1.Profit+tP (l.drop (i.toNat+1))=tP l∧tS r.2+ab r.1.Profit+tS (l.drop (i.toNat+1))≤tS l∧(tQ r.2>0→r.1.Qty=q)) ?_ fun r hr=>?_
      · refine x_ix h0 h fun x hx=>?_
        have hx:l[i.toNat]?=some x:=hx
        obtain ⟨d1,d2,d3,d4⟩:=drop_s hx
        obtain ⟨g1,g2,g3⟩:=hk x (mem_at hx)
        have hr:=s_pos (l:=l.drop (i.toNat+1)) fun y hy=>hk y (List.mem_of_mem_drop hy)
        have hmp:=s_pos hm
        refine x_w (show -9223372036854775808≤q-gq∧q-gq≤9223372036854775807 by omega) (x_bnd (x_cond (fun c1=>?_) fun c1=>?_))
        · have c1:q-gq≤0:=of_decide_eq_true c1
          obtain ⟨a1,a2,a3,a4⟩:=s_app m [x]
          simp only [tQ,tV,tP,tS,Int.add_zero] at a1 a2 a3 a4
          refine x_bnd (x_a (x_end ⟨?_,by simp;omega,by omega,by omega,?_⟩))
          · intro y hy
            rcases List.mem_append.1 hy with hy | hy
            · exact hm y hy
            · rw [List.mem_singleton] at hy;subst hy;exact ⟨g1,g2,g3⟩
          · simp only [a1,a2,a3,a4];refine ⟨?_,?_,?_,?_,?_⟩ <;> omega
        · have c1:¬ q-gq≤0:=of_decide_eq_false c1
          refine x_bi (fun (r:List GLayer×GLayer)=>(∀ x∈r.1,LOk x)∧(r.1.length:Int)≤i+1∧(1≤r.2.Qty∧gq+r.2.Qty≤q)∧(0≤r.2.Value∧r.2.Value≤288230376151711744)∧InM r.2.Profit∧tQ r.1+r.2.Qty=tQ m+x.Qty∧tV r.1+r.2.Value=tV m+x.Value∧tP r.1+r.2.Profit=tP m+x.Profit∧tS r.1+ab r.2.Profit=tS m+ab x.Profit∧(tQ r.1>0→gq+r.2.Qty=q)) ?_ fun r hr=>?_
          · refine x_bnd (x_cd (fun c2=>?_) fun c2=>x_end ⟨hm,(by simp only;omega),(by have c2:¬ x.Qty>q-gq:=c2;simp only;omega),(by simp only;omega),g3,rfl,rfl,rfl,rfl,by show tQ m>0→gq+x.Qty=q;have c2:¬ x.Qty>q-gq:=c2;omega⟩)
            have c2:x.Qty>q-gq:=c2
            obtain ⟨p1,p2⟩:=part_nn (v:=x.Value) (w:=q-gq) (q:=x.Qty) g2 (by omega)
            obtain ⟨p3,p4,p5⟩:=part_ab (p:=x.Profit) (w:=q-gq) (q:=x.Qty) g3 (by omega)
            refine x_eq (rPart hn (by simp only;omega) (by omega)) (x_eq (rPart hn (by simp only;omega) (by omega)) ?_)
            unfold InM at p4 p5
            refine x_w (by simp only;omega) (x_w (by simp only;omega) (x_w (by simp only;omega) (x_bnd (x_a (x_end ?_)))))
            obtain ⟨a1,a2,a3,a4⟩:=s_app m [⟨x.Qty-(q-gq),x.Value-pt x.Value (q-gq) x.Qty,x.Profit-pt x.Profit (q-gq) x.Qty⟩]
            simp only [tQ,tV,tP,tS,Int.add_zero] at a1 a2 a3 a4
            refine ⟨?_,by simp;omega,?_,?_,?_,?_⟩
            · intro y hy
              rcases List.mem_append.1 hy with hy | hy
              · exact hm y hy
              · rw [List.mem_singleton] at hy;subst hy;exact ⟨by simp only;omega,by simp only;omega,by unfold InM;simp only;omega⟩
            · simp only;omega
            · simp only;omega
            · unfold InM;simp only;omega
            · simp only [a1,a2,a3,a4];refine ⟨?_,?_,?_,?_,?_⟩ <;> omega
          · obtain ⟨m',yq,yv,yp⟩:=r
            obtain ⟨r1,r2,r3,r4,r5,r6,r7,r8,r9,r10⟩:=hr
            simp only at r1 r2 r3 r4 r5 r6 r7 r8 r9 r10
            have hmp':=s_pos r1
            obtain ⟨b1,b2,b3⟩:=ab_ge gp
            obtain ⟨b4,b5,b6⟩:=ab_ge yp
            obtain ⟨b7,b8,b9⟩:=ab_ge (gp+yp)
            have b10:ab (gp+yp)≤ab gp+ab yp:=by unfold ab;repeat' split <;> omega
            refine x_p2 (x_w (by simp only;omega) (x_w (by simp only;omega) (x_w (by simp only;omega) (x_end ⟨r1,r2,by simp only;omega,by simp only;omega,?_⟩))))
            simp only;refine ⟨?_,?_,?_,?_,?_⟩ <;> omega
      · refine x_p2 (x_v (x_brk ?_))
        have e:(i+1).toNat=i.toNat+1:=by omega
        refine ⟨⟨by show (0:Int)≤i+1;omega,by show i+1≤(l.length:Int);omega,hr.1,hr.2.1,hr.2.2.1,hr.2.2.2.1,?_⟩,by show l.length-(i+1).toNat<l.length-i.toNat;omega⟩
        show tQ r.2+r.1.Qty+tQ (l.drop (i+1).toNat)=tQ l∧tV r.2+r.1.Value+tV (l.drop (i+1).toNat)=tV l∧tP r.2+r.1.Profit+tP (l.drop (i+1).toNat)=tP l∧tS r.2+ab r.1.Profit+tS (l.drop (i+1).toNat)≤tS l∧(tQ r.2>0→r.1.Qty=q)
        rw [e];exact hr.2.2.2.2
    · have h:=of_decide_eq_false h
      simp only at h0 h1 hm hml hg hgv e1 e2 e3 e4 e5 h
      have e:l.drop i.toNat=[]:=List.drop_eq_nil_of_le (by omega)
      rw [e] at e1 e2 e3 e4
      simp only [tQ,tV,tP,tS,Int.add_zero] at e1 e2 e3 e4
      have hmp:=s_pos hm
      obtain ⟨b1,b2,b3⟩:=ab_ge gp
      refine x_esc (x_end ?_)
      show gq=q∧Tak l m ⟨gq,gv,gp⟩
      refine ⟨by omega,?_⟩
      refine ⟨LR_of hm (by omega) (by omega:tQ m≤tQ l) (by omega:tV m≤tV l) (by omega:tS m≤tS l) hQ hV hS,by omega,by simp only;omega,by simp only;omega,by simp only;omega,by simp only;omega,by simp only;omega⟩
  · intro r hr
    exact x_p2 (x_end (.inl ⟨rfl,by omega,hr.1,hr.2⟩))
end Go.Pv
