import Derived.Test.YtfbohcojaajpfaaGreatG71
import Derived.Test.YtfbohcojaajpfaaGreatE70
set_option linter.unusedVariables false
set_option linter.unusedSimpArgs false
namespace Go.Pv
open Go.Proofs
set_option maxRecDepth 100000
set_option maxHeartbeats 1000000
theorem md_fact (a b c:Int):0≤(md a b c).1∧(md a b c).1≤288230376151711744∧0≤(md a b c).2.2∧(md a b c).2.2≤2:=by
  unfold md
  by_cases h:a<0∨b<0∨c<1
  · rw [if_pos h];simp
  · rw [if_neg h]
    have h0:0≤a*b / c:=Int.ediv_nonneg (Int.mul_nonneg (by omega) (by omega)) (by omega)
    by_cases h2:a*b / c>288230376151711744
    · rw [if_pos h2];simp
    · rw [if_neg h2];simp;omega
theorem rTot9 {l:List GLayer} {n:Nat} (hn:66<n) (hl:LR l):d_ref09_Total n l=some (⟨tQ l,tV l,tP l⟩,0):=by
  obtain ⟨hk,h30,hQ,hV,hS⟩:=hl
  exact ex_eq (x_weak (rTotal (by omega) (by omega) hk) fun r hr=>hr.1 hQ hV hS)
theorem LR_b {l:List GLayer} (h:LR l):(0≤tQ l∧tQ l≤288230376151711744)∧(0≤tV l∧tV l≤288230376151711744)∧(-288230376151711744≤tP l∧tP l≤288230376151711744)∧(0≤tS l∧tS l≤288230376151711744)∧(l.length:Int)≤tQ l∧l.length≤30∧-tS l≤tP l∧tP l≤tS l:=by
  obtain ⟨hk,h30,hQ,hV,hS⟩:=h
  obtain ⟨a1,a2,a3,a4,a5,a6⟩:=s_pos hk
  omega
theorem rTot13 {p:GPool} {n:Nat} (hn:66<n) (hl:LR p.Layers):d_ref13_Total n p=some ⟨tQ p.Layers,tV p.Layers,tP p.Layers⟩:=by
  unfold d_ref13_Total t_ref13_Total
  simp only [WT.run,run_pw,rTot9 hn hl,Option.bind_some]
theorem rFree11 {m:Int} {p:GPool} {n:Nat} (hn:66<n) (h:PR m p):d_ref11_Free n p=some (tQ p.Layers-p.Pend.a0-p.Pend.a1-p.Pend.a2):=by
  have hl:=LR_b h.ly
  have:=h.p0;have:=h.p1;have:=h.p2;have:=h.sum
  refine ex_eq ?_
  unfold d_ref11_Free t_ref11_Free
  simp only [WT.run,run_pw,rTot9 hn h.ly,Option.bind_some]
  exact x_w (by (try simp only at *);omega) (x_w (by (try simp only at *);omega) (x_w (by (try simp only at *);omega) (x_end rfl)))
theorem rFree13 {m:Int} {p:GPool} {n:Nat} (hn:66<n) (h:PR m p):d_ref13_Free n m p=some (tQ p.Layers-p.Pend.a0-p.Pend.a1-p.Pend.a2):=by
  refine ex_eq ?_
  unfold d_ref13_Free t_ref13_Free
  simp only [WT.run,run_pw,rFree11 hn h,rTot13 hn h.ly,Option.bind_some]
  refine x_bnd (x_cd (fun k=>x_end rfl) fun k=>x_end ?_)
  obtain ⟨a,b,c⟩:=h.oth k
  show tQ p.Layers=_
  omega
theorem LR_app {l:List GLayer} {x:GLayer} (h:LR (l++[x])):LOk x:=h.1 x (by simp)
theorem rIn10 {l:List GLayer} {x:GLayer} {n:Nat} (hn:66<n) (hl:LR l):Ex (fun r=>(r.2=0∧r.1=[⟨tQ l+x.Qty,tV l+x.Value,tP l+x.Profit⟩]∧LR (l++[x]))∨(r.2≠0∧r.1=l)) (d_ref10_In n l x):=by
  have h1:=LR_len hl
  obtain ⟨a1,a2,a3,a4⟩:=s_app l [x]
  simp only [tQ,tV,tP,tS,Int.add_zero] at a1 a2 a3 a4
  unfold d_ref10_In t_ref10_In
  simp only [WT.run,run_pw]
  repeat' with_reducible first | refine x_v ?_ | refine x_bv ?_ | apply x_bnd | apply x_p2 | apply x_bb | apply x_bp | apply x_bs | apply x_be | apply x_bk | apply x_bbi | apply x_bc | apply x_ba | refine x_cd (fun _=>?_) fun _=>?_ | refine x_cn (fun _=>?_) fun _=>?_ | apply x_cT | apply x_cF | apply x_sl | apply x_esc | apply x_end
  all_goals try exact .inr ⟨(fun k=>nomatch k),rfl⟩
  refine x_a (x_bnd (x_a (x_bi _ (rRight (by simp;omega) (by simp;omega)) fun b hb=>?_)))
  repeat' with_reducible first | refine x_v ?_ | refine x_bv ?_ | apply x_bnd | apply x_p2 | apply x_bb | apply x_bp | apply x_bs | apply x_be | apply x_bk | apply x_bbi | apply x_bc | apply x_ba | refine x_cd (fun _=>?_) fun _=>?_ | refine x_cn (fun _=>?_) fun _=>?_ | apply x_cT | apply x_cF | apply x_sl | apply x_esc | apply x_end
  · exact .inr ⟨(fun k=>nomatch k),rfl⟩
  · rename_i h4
    have h3:=hb.1 h4
    refine x_eq (rTot9 hn h3) (x_end (.inl ⟨rfl,?_,h3⟩))
    simp only [a1,a2,a3,tQ,tV,tP]
theorem rWorth12 {n:Nat} {q c:Int} (hn:66<n) (ha:-9223372036854775808≤q∧q≤9223372036854775807) (hb:-9223372036854775808≤c∧c≤9223372036854775807):d_ref12_worth n q c=some ((md q c 1).1,decide ((md q c 1).2.2=0)):=by
  unfold d_ref12_worth t_ref12_worth
  simp only [WT.run,run_pw,rmul_all hn ha hb (show -9223372036854775808≤(1:Int)∧(1:Int)≤9223372036854775807 by decide),Option.bind_some]
  rfl
theorem rIn12 {l:List GLayer} {x:GLayer} {c:Int} {n:Nat} (hn:66<n) (hl:LR l) (hc:0≤c∧c≤1073741824) (hx:x.Qty≤9223372036854775807) :
    Ex (fun r=>(r.2.2=0∧(0≤x.Value∧x.Value≤288230376151711744)∧∃ v,r.1=[⟨tQ l+x.Qty,tV l+v,tP l+x.Profit⟩]∧LR (l++[⟨x.Qty,v,x.Profit⟩])∧r.2.1=x.Value-v)∨(r.2.2≠0∧r.1=l∧r.2.1=0)) (d_ref12_In n l x c):=by
  unfold d_ref12_In t_ref12_In
  simp only [WT.run,run_pw]
  repeat' with_reducible first | refine x_v ?_ | refine x_bv ?_ | apply x_bnd | apply x_p2 | apply x_bb | apply x_bp | apply x_bs | apply x_be | apply x_bk | apply x_bbi | apply x_bc | apply x_ba | refine x_cd (fun _=>?_) fun _=>?_ | refine x_cn (fun _=>?_) fun _=>?_ | apply x_cT | apply x_cF | apply x_sl | apply x_esc | apply x_end
  all_goals try exact .inr ⟨(fun k=>nomatch k),rfl,rfl⟩
  all_goals try (exfalso;omega)
  rename_i h1 h2
  refine x_eq (rWorth12 hn (by omega) (by omega)) ?_
  have hm:=md_fact x.Qty c 1
  repeat' with_reducible first | refine x_v ?_ | refine x_bv ?_ | apply x_bnd | apply x_p2 | apply x_bb | apply x_bp | apply x_bs | apply x_be | apply x_bk | apply x_bbi | apply x_bc | apply x_ba | refine x_cd (fun _=>?_) fun _=>?_ | refine x_cn (fun _=>?_) fun _=>?_ | apply x_cT | apply x_cF | apply x_sl | apply x_esc | apply x_end
  all_goals try exact .inr ⟨(fun k=>nomatch k),rfl,rfl⟩
  rename_i h3
  refine x_bi _ (rIn10 hn hl) fun r hr=>?_
  rcases hr with ⟨e1,e2,e3⟩ | ⟨e1,e2⟩
  · repeat' with_reducible first | refine x_v ?_ | refine x_bv ?_ | apply x_bnd | apply x_p2 | apply x_bb | apply x_bp | apply x_bs | apply x_be | apply x_bk | apply x_bbi | apply x_bc | apply x_ba | refine x_cd (fun _=>?_) fun _=>?_ | refine x_cn (fun _=>?_) fun _=>?_ | apply x_cT | apply x_cF | apply x_sl | apply x_esc | apply x_end
    · omega
    · exact Or.inl ⟨rfl,by omega,(md x.Qty c 1).1,e2,e3,rfl⟩
  · repeat' with_reducible first | refine x_v ?_ | refine x_bv ?_ | apply x_bnd | apply x_p2 | apply x_bb | apply x_bp | apply x_bs | apply x_be | apply x_bk | apply x_bbi | apply x_bc | apply x_ba | refine x_cd (fun _=>?_) fun _=>?_ | refine x_cn (fun _=>?_) fun _=>?_ | apply x_cT | apply x_cF | apply x_sl | apply x_esc | apply x_end
    · exact .inr ⟨e1,rfl,rfl⟩
    · omega
theorem LR_to_PR {m:Int} {p:GPool} {l:List GLayer} (h:PR m p) (hl:LR l) (h1:m≠1→l.length≤1) (hq:tQ p.Layers≤tQ l):PR m ⟨l,p.Pend⟩ :=
  { h with ly:=hl,one:=h1,sum:=by have:=h.sum;show p.Pend.a0+p.Pend.a1+p.Pend.a2≤tQ l;omega }
def Came (m:Int) (p q:GPool) (x:GLayer) (above:Int):Prop:=PR m q∧tQ q.Layers=tQ p.Layers+x.Qty∧tV q.Layers+above=tV p.Layers+x.Value∧tP q.Layers=tP p.Layers+x.Profit∧tS q.Layers≤tS p.Layers+ab x.Profit∧(1≤x.Qty∧x.Qty≤288230376151711744)∧(0≤x.Value∧x.Value≤288230376151711744)
theorem came_one {m:Int} {p:GPool} {x:GLayer} (h:PR m p) (hl:LR (p.Layers++[x])):Came m p ⟨[⟨tQ p.Layers+x.Qty,tV p.Layers+x.Value,tP p.Layers+x.Profit⟩],p.Pend⟩ x 0:=by
  obtain ⟨a1,a2,a3,a4⟩:=s_app p.Layers [x]
  simp only [tQ,tV,tP,tS,Int.add_zero] at a1 a2 a3 a4
  obtain ⟨b1,b2,b3,b4,b5⟩:=LR_one hl (by simp)
  have hb:=LR_b hl
  have hx:=LR_app hl
  obtain ⟨c1,c2,c3⟩:=hx
  rw [a1,a2,a3] at b1 b2 b3 b4 b5
  refine ⟨LR_to_PR h b1 (fun _=>by simp) (by rw [b3];omega),b3,?_,b5,?_,by omega,by omega⟩
  · show tV [_]+0=_;rw [b4];omega
  · show tS [_]≤_;omega
theorem rIn11 {m:Int} {p:GPool} {x:GLayer} {n:Nat} (hn:66<n) (h:PR m p):Ex (fun r=>(r.2=0∧Came m p r.1 x 0)∨(r.2≠0∧r.1=p)) (d_ref11_In n p x):=by
  unfold d_ref11_In t_ref11_In
  simp only [WT.run,run_pw]
  refine x_bi _ (rIn10 hn h.ly) fun r hr=>?_
  rcases hr with ⟨e1,e2,e3⟩ | ⟨e1,e2⟩
  · repeat' with_reducible first | refine x_v ?_ | refine x_bv ?_ | apply x_bnd | apply x_p2 | apply x_bb | apply x_bp | apply x_bs | apply x_be | apply x_bk | apply x_bbi | apply x_bc | apply x_ba | refine x_cd (fun _=>?_) fun _=>?_ | refine x_cn (fun _=>?_) fun _=>?_ | apply x_cT | apply x_cF | apply x_sl | apply x_esc | apply x_end
    · omega
    · rw [e2];exact .inl ⟨rfl,came_one h e3⟩
  · repeat' with_reducible first | refine x_v ?_ | refine x_bv ?_ | apply x_bnd | apply x_p2 | apply x_bb | apply x_bp | apply x_bs | apply x_be | apply x_bk | apply x_bbi | apply x_bc | apply x_ba | refine x_cd (fun _=>?_) fun _=>?_ | refine x_cn (fun _=>?_) fun _=>?_ | apply x_cT | apply x_cF | apply x_sl | apply x_esc | apply x_end
    · exact .inr ⟨e1,rfl⟩
    · omega
theorem rIn13 {m c:Int} {p:GPool} {x:GLayer} {n:Nat} (hn:66<n) (h:PR m p) (hc:0≤c∧c≤1073741824) (hx:x.Qty≤9223372036854775807) :
    Ex (fun r=>(r.2.2=0∧Came m p r.1 x r.2.1∧(-288230376151711744≤r.2.1∧r.2.1≤288230376151711744))∨(r.2.2≠0∧r.1=p∧r.2.1=0)) (d_ref13_In n m c p x):=by
  unfold d_ref13_In t_ref13_In
  simp only [WT.run,run_pw]
  refine x_bi (fun (r:Int×Int×GPool)=>r.2.1=0→Came m p r.2.2 x r.1∧(-288230376151711744≤r.1∧r.1≤288230376151711744)) ?_ fun r hr=>?_
  · refine x_bnd (x_cd (fun k1=>?_) fun k1=>x_bnd (x_cd (fun k2=>?_) fun k2=>x_bnd (x_cd (fun k3=>?_) fun k3=>x_bnd (x_cd (fun k4=>?_) fun k4=>x_end (fun k=>nomatch k)))))
    · refine x_bi _ (rIn9 hn h.ly) fun r hr=>x_end ?_
      rcases hr with ⟨e1,e2,e3⟩ | ⟨e1,e2⟩
      · intro _
        obtain ⟨a1,a2,a3,a4⟩:=s_app p.Layers [x]
        simp only [tQ,tV,tP,tS,Int.add_zero] at a1 a2 a3 a4
        obtain ⟨c1,c2,c3⟩:=LR_app e3
        simp only [e2]
        refine ⟨⟨LR_to_PR h e3 (fun k=>absurd k1 k) (by omega),a1,by simp only;omega,a3,by simp only;omega,by omega,by omega⟩,by decide⟩
      · intro k;exact absurd k e1
    · refine x_bi _ (rIn10 hn h.ly) fun r hr=>x_end ?_
      rcases hr with ⟨e1,e2,e3⟩ | ⟨e1,e2⟩
      · intro _;simp only [e2];exact ⟨came_one h e3,by decide⟩
      · intro k;exact absurd k e1
    · refine x_bi _ (rIn11 hn h) fun r hr=>x_end ?_
      rcases hr with ⟨e1,e2⟩ | ⟨e1,e2⟩
      · intro _;exact ⟨e2,by simp⟩
      · intro k;exact absurd k e1
    · refine x_bi _ (rIn12 hn h.ly hc hx) fun r hr=>x_end ?_
      rcases hr with ⟨e1,hv,v,e2,e3,e4⟩ | ⟨e1,e2,_⟩
      · intro _
        obtain ⟨b1,b2,b3,b4,b5,b6,b7⟩:=came_one h e3
        have b8:0≤v∧v≤288230376151711744:=b7
        simp only [e2,e4]
        refine ⟨⟨b1,b2,?_,b4,b5,b6,hv⟩,by omega⟩
        (try simp only at *);omega
      · intro k;exact absurd k e1
  · obtain ⟨ab,e,q⟩:=r
    repeat' with_reducible first | refine x_v ?_ | refine x_bv ?_ | apply x_bnd | apply x_p2 | apply x_bb | apply x_bp | apply x_bs | apply x_be | apply x_bk | apply x_bbi | apply x_bc | apply x_ba | refine x_cd (fun _=>?_) fun _=>?_ | refine x_cn (fun _=>?_) fun _=>?_ | apply x_cT | apply x_cF | apply x_sl | apply x_esc | apply x_end
    · rename_i k;exact .inr ⟨k,rfl,rfl⟩
    · rename_i k;exact .inl ⟨rfl,hr (by simpa using k)⟩
theorem rOut10 {l:List GLayer} {q:Int} {n:Nat} (hn:66<n) (hl:LR l) (hq:-9223372036854775808≤q∧q≤9223372036854775807) :
    Ex (fun r=>(r.2.2=0∧1≤q∧r.2.1.Qty=q∧Tak l r.1 r.2.1)∨(r.2.2≠0∧r.1=l∧r.2.1=⟨0,0,0⟩∧(1≤q→tQ l<q))) (d_ref10_Out n l q):=by
  unfold d_ref10_Out t_ref10_Out
  simp only [WT.run,run_pw]
  refine x_bi _ (rOut9 hn hl hq) fun r hr=>?_
  repeat' with_reducible first | refine x_v ?_ | refine x_bv ?_ | apply x_bnd | apply x_p2 | apply x_bb | apply x_bp | apply x_bs | apply x_be | apply x_bk | apply x_bbi | apply x_bc | apply x_ba | refine x_cd (fun _=>?_) fun _=>?_ | refine x_cn (fun _=>?_) fun _=>?_ | apply x_cT | apply x_cF | apply x_sl | apply x_esc | apply x_end
  exact hr
theorem tak_b {l m:List GLayer} {g:GLayer} (hl:LR l) (h:Tak l m g):(0≤g.Value∧g.Value≤288230376151711744)∧(-288230376151711744≤g.Profit∧g.Profit≤288230376151711744)∧LR m∧tQ m+g.Qty=tQ l∧tV m+g.Value=tV l∧tP m+g.Profit=tP l∧tS m+ab g.Profit≤tS l∧m.length≤l.length:=by
  obtain ⟨h1,h2,h3,h4,h5,h6,h7⟩:=h
  have a:=LR_b hl
  have b:=LR_b h1
  obtain ⟨c1,c2,c3⟩:=ab_ge g.Profit
  refine ⟨by omega,by omega,h1,h3,h4,h5,h6,h2⟩
theorem rOut12 {l:List GLayer} {q c:Int} {n:Nat} (hn:66<n) (hl:LR l) (h1:l.length≤1) (hc:0≤c∧c≤1073741824) (hq:-9223372036854775808≤q∧q≤9223372036854775807) :
    Ex (fun r=>(r.2.2=0∧1≤q∧r.2.1.Qty=q∧Tak l r.1 r.2.1)∨r.2.2≠0) (d_ref12_Out n l q c):=by
  unfold d_ref12_Out t_ref12_Out
  simp only [WT.run,run_pw]
  repeat' with_reducible first | refine x_v ?_ | refine x_bv ?_ | apply x_bnd | apply x_p2 | apply x_bb | apply x_bp | apply x_bs | apply x_be | apply x_bk | apply x_bbi | apply x_bc | apply x_ba | refine x_cd (fun _=>?_) fun _=>?_ | refine x_cn (fun _=>?_) fun _=>?_ | apply x_cT | apply x_cF | apply x_sl | apply x_esc | apply x_end
  all_goals try exact .inr (fun k=>nomatch k)
  all_goals try (exfalso;omega)
  refine x_bi _ (rOut10 hn hl hq) fun r hr=>?_
  rcases hr with ⟨e1,e2,e3,e4⟩ | ⟨e1,e2⟩
  · repeat' with_reducible first | refine x_v ?_ | refine x_bv ?_ | apply x_bnd | apply x_p2 | apply x_bb | apply x_bp | apply x_bs | apply x_be | apply x_bk | apply x_bbi | apply x_bc | apply x_ba | refine x_cd (fun _=>?_) fun _=>?_ | refine x_cn (fun _=>?_) fun _=>?_ | apply x_cT | apply x_cF | apply x_sl | apply x_esc | apply x_end
    · omega
    · exact .inl ⟨e1,e2,e3,e4⟩
    · rename_i k1 k2 k3
      obtain ⟨t1,t2,t3,t4,t5,t6,t7,t8⟩:=tak_b hl e4
      have hb:=LR_b hl
      have hbm:=LR_b t3
      refine x_eq (rTot9 hn hl) (x_eq (rWorth12 hn (by omega) (by omega)) ?_)
      have hm:=md_fact q c 1
      refine x_bi (fun (b:Bool)=>b=false→(md q c 1).1≤tV l) ?_ fun b hb2=>x_bi (fun (v:Int)=>0≤v∧v≤tV l) (x_cond (fun _=>x_end (by simp only;omega)) fun k=>x_end ⟨hm.1,hb2 k⟩) fun v hv=>?_
      · repeat' with_reducible first | refine x_v ?_ | refine x_bv ?_ | apply x_bnd | apply x_p2 | apply x_bb | apply x_bp | apply x_bs | apply x_be | apply x_bk | apply x_bbi | apply x_bc | apply x_ba | refine x_cd (fun _=>?_) fun _=>?_ | refine x_cn (fun _=>?_) fun _=>?_ | apply x_cT | apply x_cF | apply x_sl | apply x_esc | apply x_end
        · exact fun k=>nomatch k
        · rename_i k;intro k2
          have k2:=of_decide_eq_false k2
          (try simp only at *);omega
      · repeat' with_reducible first | refine x_v ?_ | refine x_bv ?_ | apply x_bnd | apply x_p2 | apply x_bb | apply x_bp | apply x_bs | apply x_be | apply x_bk | apply x_bbi | apply x_bc | apply x_ba | refine x_cd (fun _=>?_) fun _=>?_ | refine x_cn (fun _=>?_) fun _=>?_ | apply x_cT | apply x_cF | apply x_sl | apply x_esc | apply x_end
        refine Or.inl ⟨rfl,e2,e3,?_⟩
        show Tak l [⟨tQ l-q,tV l-v,tP l-r.2.1.Profit⟩] ⟨r.2.1.Qty,v,r.2.1.Profit⟩
        rw [e3] at t4
        have e5:tQ l-q=tQ r.1:=by omega
        have e6:tP l-r.2.1.Profit=tP r.1:=by omega
        rw [e5,e6,e3]
        have k4:1≤r.1.length:=by omega
        refine ⟨LR_mk (by omega) (by omega) (by unfold InM;omega),by simp;omega,by simp [tQ];omega,by simp [tV],by simp [tP];omega,?_,by simp only;omega⟩
        have:ab (tP r.1)≤tS r.1:=by unfold ab;split <;> omega
        simp only [tS];omega
  · repeat' with_reducible first | refine x_v ?_ | refine x_bv ?_ | apply x_bnd | apply x_p2 | apply x_bb | apply x_bp | apply x_bs | apply x_be | apply x_bk | apply x_bbi | apply x_bc | apply x_ba | refine x_cd (fun _=>?_) fun _=>?_ | refine x_cn (fun _=>?_) fun _=>?_ | apply x_cT | apply x_cF | apply x_sl | apply x_esc | apply x_end
    · exact .inr e1
    · omega
    · omega
theorem rOut11 {m q:Int} {p:GPool} {n:Nat} (hn:66<n) (h:PR m p) (hq:-9223372036854775808≤q∧q≤9223372036854775807) :
    Ex (fun r=>(r.2.2=0∧1≤q∧q≤tQ p.Layers-p.Pend.a0-p.Pend.a1-p.Pend.a2∧r.2.1.Qty=q∧Tak p.Layers r.1.Layers r.2.1∧r.1.Pend=p.Pend)∨r.2.2≠0) (d_ref11_Out n p q):=by
  unfold d_ref11_Out t_ref11_Out
  simp only [WT.run,run_pw,rFree11 hn h,Option.bind_some]
  repeat' with_reducible first | refine x_v ?_ | refine x_bv ?_ | apply x_bnd | apply x_p2 | apply x_bb | apply x_bp | apply x_bs | apply x_be | apply x_bk | apply x_bbi | apply x_bc | apply x_ba | refine x_cd (fun _=>?_) fun _=>?_ | refine x_cn (fun _=>?_) fun _=>?_ | apply x_cT | apply x_cF | apply x_sl | apply x_esc | apply x_end
  all_goals try exact .inr (fun k=>nomatch k)
  refine x_bi _ (rOut10 hn h.ly hq) fun r hr=>x_end ?_
  rcases hr with ⟨e1,e2,e3,e4⟩ | ⟨e1,e2⟩
  · exact .inl ⟨e1,e2,by omega,e3,e4,rfl⟩
  · exact .inr e1
theorem rWait {m k q:Int} {p:GPool} {n:Nat} (hn:66<n) (h:PR m p) (hm:m=3) (hq:-9223372036854775808≤q∧q≤9223372036854775807) :
    Ex (fun r=>(r.2=0∧PR m r.1∧r.1.Layers=p.Layers∧1≤q∧r.1.Pend.a0+r.1.Pend.a1+r.1.Pend.a2=p.Pend.a0+p.Pend.a1+p.Pend.a2+q)∨(r.2≠0∧r.1=p)) (d_ref11_Wait n p k q):=by
  have hl:=LR_b h.ly
  have h0:=h.p0;have h1:=h.p1;have h2:=h.p2;have h3:=h.sum
  unfold d_ref11_Wait
  simp only [rFree11 hn h,Option.bind_some]
  repeat' with_reducible first | refine x_v ?_ | refine x_bv ?_ | apply x_bnd | apply x_p2 | apply x_bb | apply x_bp | apply x_bs | apply x_be | apply x_bk | apply x_bbi | apply x_bc | apply x_ba | refine x_cd (fun _=>?_) fun _=>?_ | refine x_cn (fun _=>?_) fun _=>?_ | apply x_cT | apply x_cF | apply x_sl | apply x_esc | apply x_end | refine x_a ?_
  all_goals try exact .inr ⟨(fun k=>nomatch k),rfl⟩
  all_goals try (exfalso;omega)
  all_goals (refine .inl ⟨rfl,⟨h.mt,h.ly,h.one,by first | omega | (simp only;omega),by first | omega | (simp only;omega),by first | omega | (simp only;omega),by first | omega | (simp only;omega),fun k=>absurd hm k⟩,rfl,by omega,by first | omega | (simp only;omega)⟩)
def Gone (m:Int) (p r:GPool) (x:GLayer):Prop:=PR m r∧tQ r.Layers+x.Qty=tQ p.Layers∧tV r.Layers+x.Value=tV p.Layers∧tP r.Layers+x.Profit=tP p.Layers∧tS r.Layers+ab x.Profit≤tS p.Layers∧(0≤x.Value∧x.Value≤288230376151711744)∧(-288230376151711744≤x.Profit∧x.Profit≤288230376151711744)
theorem gone_tak {m:Int} {p:GPool} {l:List GLayer} {x:GLayer} (h:PR m p) (ht:Tak p.Layers l x) (hs:p.Pend.a0+p.Pend.a1+p.Pend.a2+x.Qty≤tQ p.Layers):Gone m p ⟨l,p.Pend⟩ x:=by
  obtain ⟨t1,t2,t3,t4,t5,t6,t7,t8⟩:=tak_b h.ly ht
  refine ⟨{ h with ly:=t3,one:=fun k=>by have:=h.one k;show l.length≤1;omega,sum:=by show _≤tQ l;simp only;omega },t4,t5,t6,t7,t1,t2⟩
theorem rOut13 {m c k q:Int} {p:GPool} {n:Nat} (hn:66<n) (h:PR m p) (hc:0≤c∧c≤1073741824) (hq:-9223372036854775808≤q∧q≤9223372036854775807) :
    Ex (fun r=>(r.2.2.2=0∧1≤q∧Gone m p r.1 r.2.1∧(r.2.2.1=false→r.2.1.Qty=q)∧(r.2.2.1=true→r.2.1=⟨0,0,0⟩∧m=3∧k≠3))∨r.2.2.2≠0) (d_ref13_Out n m c p k q):=by
  have hl:=LR_b h.ly
  have h0:=h.p0;have h1:=h.p1;have h2:=h.p2;have h3:=h.sum
  unfold d_ref13_Out t_ref13_Out
  simp only [WT.run,run_pw]
  refine x_bi (fun _=>True) ?_ fun b _=>x_cond (fun _=>x_end (.inr (fun k=>nomatch k))) fun _=>?_
  · repeat' with_reducible first | refine x_v ?_ | refine x_bv ?_ | apply x_bnd | apply x_p2 | apply x_bb | apply x_bp | apply x_bs | apply x_be | apply x_bk | apply x_bbi | apply x_bc | apply x_ba | refine x_cd (fun _=>?_) fun _=>?_ | refine x_cn (fun _=>?_) fun _=>?_ | apply x_cT | apply x_cF | apply x_sl | apply x_esc | apply x_end
    all_goals trivial
  refine x_bi (fun (r:(Int×GPool×GLayer)⊕(GPool×GLayer×Bool×Int))=>match r with
    | .inl r=>r.1=0→1≤q∧Gone m p r.2.1 r.2.2∧r.2.2.Qty=q
    | .inr r=>(r.2.2.2=0∧1≤q∧Gone m p r.1 r.2.1∧(r.2.2.1=false→r.2.1.Qty=q)∧(r.2.2.1=true→r.2.1=⟨0,0,0⟩∧m=3∧k≠3))∨r.2.2.2≠0) ?_ fun r hr=>?_
  · refine x_bnd (x_cd (fun k1=>?_) fun k1=>x_bnd (x_cd (fun k2=>?_) fun k2=>x_bnd (x_cd (fun k3=>?_) fun k3=>x_bnd (x_cd (fun k4=>?_) fun k4=>x_brk (fun k=>nomatch k)))))
    · refine x_bi _ (rOut9 hn h.ly hq) fun r hr=>x_brk ?_
      rcases hr with ⟨e1,e2,e3,e4⟩ | ⟨e1,e2⟩
      · obtain ⟨o1,o2,o3⟩:=h.oth (by omega)
        have:=tak_b h.ly e4
        have:=LR_b this.2.2.1
        intro _;exact ⟨e2,gone_tak h e4 (by first | omega | (simp only;omega)),e3⟩
      · intro k;exact absurd k e1
    · refine x_bi _ (rOut10 hn h.ly hq) fun r hr=>x_brk ?_
      rcases hr with ⟨e1,e2,e3,e4⟩ | ⟨e1,e2⟩
      · obtain ⟨o1,o2,o3⟩:=h.oth (by omega)
        have:=tak_b h.ly e4
        have:=LR_b this.2.2.1
        intro _;exact ⟨e2,gone_tak h e4 (by first | omega | (simp only;omega)),e3⟩
      · intro k;exact absurd k e1
    · refine x_bnd (x_cd (fun k4=>?_) fun k4=>?_)
      · refine x_bi _ (rWait hn h k3 hq) fun r hr=>x_bnd (x_esc (x_end ?_))
        rcases hr with ⟨e1,e2,e3,e4,e5⟩ | ⟨e1,e2⟩
        · refine .inl ⟨e1,e4,⟨e2,by simp only [e3];omega,by simp only [e3];omega,by simp only [e3];omega,by simp only [e3];show tS p.Layers+0≤_;omega,(by first | omega | (simp only;omega)),(by first | omega | (simp only;omega))⟩,fun k=>?_,fun _=>⟨rfl,k3,k4⟩⟩
          have k:decide (r.2=0)=false:=k
          exact absurd e1 (of_decide_eq_false k)
        · exact .inr e1
      · refine x_bi _ (rOut11 hn h hq) fun r hr=>x_brk ?_
        rcases hr with ⟨e1,e2,e3,e4,e5,e6⟩ | e1
        · intro _
          have:=gone_tak h e5 (by first | omega | (simp only;omega))
          rw [← e6] at this
          exact ⟨e2,this,e4⟩
        · intro k;exact absurd k e1
    · refine x_bi _ (rOut12 hn h.ly (h.one (by omega)) hc hq) fun r hr=>x_brk ?_
      rcases hr with ⟨e1,e2,e3,e4⟩ | e1
      · obtain ⟨o1,o2,o3⟩:=h.oth (by omega)
        have:=tak_b h.ly e4
        have:=LR_b this.2.2.1
        intro _;exact ⟨e2,gone_tak h e4 (by first | omega | (simp only;omega)),e3⟩
      · intro k;exact absurd k e1
  · refine x_sel (fun a e=>?_) fun a e=>?_
    · subst e
      repeat' with_reducible first | refine x_v ?_ | refine x_bv ?_ | apply x_bnd | apply x_p2 | apply x_bb | apply x_bp | apply x_bs | apply x_be | apply x_bk | apply x_bbi | apply x_bc | apply x_ba | refine x_cd (fun _=>?_) fun _=>?_ | refine x_cn (fun _=>?_) fun _=>?_ | apply x_cT | apply x_cF | apply x_sl | apply x_esc | apply x_end
      · rename_i k;exact .inr k
      · rename_i k
        have k:a.1=0:=by simpa using k
        obtain ⟨g1,g2,g3⟩:=hr k
        exact .inl ⟨rfl,g1,g2,fun _=>g3,fun k=>nomatch k⟩
    · subst e;exact hr
end Go.Pv
