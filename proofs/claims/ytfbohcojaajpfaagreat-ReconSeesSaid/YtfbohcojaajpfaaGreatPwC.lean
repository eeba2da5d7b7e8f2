import Derived.Test.YtfbohcojaajpfaaGreatPwA
set_option linter.unusedVariables false
set_option linter.unusedSimpArgs false
namespace Go.Pv
section
variable {P:Program} {n:NT} {tb:Tab2}
def KOk (P:Program) (n:NT) (K:KT P):Prop:=∀ {i:Ix} (t:WT P i) (s:Sk P i) (md:Mw) (f:FS) (hp:AH) (vs:List (Nat×Nat)),K t s md f hp vs→VEq vs∧Snd P n t s md ⟨f,hp⟩
theorem leafW_ok:∀ {i:Ix} (s:Sk P i) (t:WT P i) (f:FS) (hp:AH) (vs:List (Nat×Nat)),leafW s t f hp vs→VEq vs∧∀ r,t.run=some r→QS P n s r .normal ⟨f,hp⟩
  | _,.fn J hJ,t,f,hp,vs,h=>by
    unfold leafW at h
    cases t <;> first | exact h.elim | skip
    exact ⟨(hJ h).1,fun r hr=>by cases hr;exact ⟨.inl rfl,(hJ h).2⟩⟩
  | _,.jn J,t,f,hp,vs,h=>by
    unfold leafW at h
    cases t <;> first | exact h.elim | skip
    cases h with | mk h a=>exact ⟨a,fun r hr=>by cases hr;exact ⟨rfl,h⟩⟩
  | _,.jnE J s,t,f,hp,vs,h=>by
    unfold leafW at h
    cases t <;> first | exact h.elim | skip
    cases h with | mk h a=>exact ⟨a,fun r hr=>by have:=brk_e hr;subst this;exact ⟨rfl,h⟩⟩
  | _,.blk _ _ _,_,_,_,_,h=>by unfold leafW at h;exact h.elim
  | _,.un _ _ _,_,_,_,_,h=>by unfold leafW at h;exact h.elim
  | _,.sc _ _,_,_,_,_,h=>by unfold leafW at h;exact h.elim
theorem exitW_ok {K:KT P} (hK:KOk P n K) (j:Nat):∀ {i:Ix} (s:Sk P i) (t:WT P i) (f:FS) (hp:AH) (vs:List (Nat×Nat)),exitW K j s t f hp vs→VEq vs∧∀ r,t.run=some r→QS P n s r (.exit j) ⟨f,hp⟩
  | _,.fn _ _,_,_,_,_,h=>by unfold exitW at h;exact h.elim
  | _,.jn _,_,_,_,_,h=>by unfold exitW at h;exact h.elim
  | _,.blk id cs s,t,f,hp,vs,h=>by
    unfold exitW at h
    cases hb:Nat.beq j id with
    | true =>
      rw [hb] at h
      obtain ⟨h1,h2⟩:=hK _ _ _ _ _ _ h
      refine ⟨h1,fun r hr=>?_⟩
      show cond (Nat.beq j id) _ _
      rw [hb];exact h2 r hr
    | false =>
      rw [hb] at h
      obtain ⟨h1,h2⟩:=exitW_ok hK j s t f hp vs h
      refine ⟨h1,fun r hr=>?_⟩
      show cond (Nat.beq j id) _ _
      rw [hb];exact h2 r hr
  | _,.un k c s,t,f,hp,vs,h=>by
    unfold exitW at h
    obtain ⟨h1,h2⟩:=exitW_ok hK j s t f hp vs h
    exact ⟨h1,fun r hr=>by cases k <;> exact h2 r hr⟩
  | _,.sc cs s,t,f,hp,vs,h=>by
    unfold exitW at h
    obtain ⟨h1,h2⟩:=exitW_ok hK j s t f hp vs h
    exact ⟨h1,fun r hr=>h2 r hr⟩
  | _,.jnE J s,t,f,hp,vs,h=>by
    unfold exitW at h
    cases t <;> first | exact h.elim | skip
    rename_i t'
    obtain ⟨h1,h2⟩:=exitW_ok hK j s t' f hp vs h
    refine ⟨h1,fun r hr=>?_⟩
    obtain ⟨c,g1,rfl⟩:=esc_e (show Go.Pv.esc t'.run=some r from hr)
    exact ⟨(fun e=>by cases e),h2 c g1⟩
theorem retW_ok:∀ {i:Ix} (s:Sk P i) (t:WT P i) (f:FS) (hp:AH) (vs:List (Nat×Nat)),retW s t f hp vs→VEq vs∧∀ r,t.run=some r→QS P n s r .ret ⟨f,hp⟩
  | _,.fn J hJ,t,f,hp,vs,h=>by
    unfold retW at h
    cases t <;> first | exact h.elim | skip
    exact ⟨(hJ h).1,fun r hr=>by cases hr;exact ⟨.inr rfl,(hJ h).2⟩⟩
  | _,.jn _,_,_,_,_,h=>by unfold retW at h;exact h.elim
  | _,.blk id cs s,t,f,hp,vs,h=>by
    unfold retW at h
    obtain ⟨h1,h2⟩:=retW_ok s t f hp vs h
    exact ⟨h1,fun r hr=>h2 r hr⟩
  | _,.un k c s,t,f,hp,vs,h=>by
    unfold retW at h
    obtain ⟨h1,h2⟩:=retW_ok s t f hp vs h
    exact ⟨h1,fun r hr=>by cases k <;> exact h2 r hr⟩
  | _,.sc cs s,t,f,hp,vs,h=>by
    unfold retW at h
    obtain ⟨h1,h2⟩:=retW_ok s t f hp vs h
    exact ⟨h1,fun r hr=>h2 r hr⟩
  | _,.jnE J s,t,f,hp,vs,h=>by
    unfold retW at h
    cases t <;> first | exact h.elim | skip
    rename_i t'
    obtain ⟨h1,h2⟩:=retW_ok s t' f hp vs h
    refine ⟨h1,fun r hr=>?_⟩
    obtain ⟨c,g1,rfl⟩:=esc_e (show Go.Pv.esc t'.run=some r from hr)
    exact ⟨(fun e=>by cases e),h2 c g1⟩
theorem q_block {i:Ix} {s:Sk P i} {r:i.d} {id:Nat} {cs:List Code} {c:Code} {S:AS} (h:Trs P n (QS P n (.blk id cs s) r) [c] S):Trs P n (QS P n s r) (.block id c :: cs) S :=
  tr_block (Tr.mono (trs_of h) fun e S h=>by
    cases e with
    | exit i =>
      have h:cond (Nat.beq i id) (Trs P n (QS P n s r) cs S) (QS P n s r (.exit i) S):=h
      show if i=id then _ else _
      cases hb:Nat.beq i id with
      | true=>rw [hb] at h;rw [if_pos (Nat.eq_of_beq_eq_true hb)];exact h
      | false=>rw [hb] at h;rw [if_neg (Nat.ne_of_beq_eq_false hb)];exact h
    | _=>exact h)
theorem q_scope {i:Ix} {s:Sk P i} {r:i.d} {cs:List Code} {c:Code} {S:AS} (h:Trs P n (QS P n (.sc cs s) r) [c] S):Trs P n (QS P n s r) (.scope c :: cs) S:=by
  intro s a hs
  refine wpA_scope_straight (wpA_mono (trs_of h s a hs) ?_)
  rintro e a1 w1 ⟨S1,s1,h1,h2,h3,h4⟩
  cases e with
  | goto l=>exact h2.elim
  | _=>exact ⟨S1,s1,h1,h2,h3,h4⟩
theorem q_unroll {F:Go.Exit→AS→Prop} {x:Code} {cs:List Code} {S:AS} (k:Nat) (h:Trs P n (UQ P n x F k) [x] S):Trs P n F (.loop x :: cs) S:=by
  refine tr_loop (ι:={ p:Nat×AS // Trs P n (UQ P n x F p.1) [x] p.2 }) (fun p=>p.1.2) (fun p=>p.1.1) ⟨(k,S),h⟩ (fun s=>⟨fun t y hy=>⟨y,hy,fun _ h=>h⟩,fun h=>h,fun _ h=>h⟩) ?_
  rintro ⟨⟨m,S1⟩,hp⟩
  refine Tr.mono (trs_of hp) fun e S2 h2=>?_
  cases m with
  | zero=>cases e with
    | normal=>exact h2.elim
    | _=>exact h2
  | succ m=>cases e with
    | normal=>exact ⟨⟨(m,S2),h2⟩,Nat.lt_succ_self m,fun s=>⟨fun t y hy=>⟨y,hy,fun _ h=>h⟩,fun h=>h,fun _ h=>h⟩⟩
    | _=>exact h2
variable {B:Type} {hp0:AH} {l:List (Nat×AV)} {m:List (Nat×AObj)} {W:List Nat} {N:(Nat→Nat)→B→List (Nat×AV)} {O:(Nat→Nat)→B→List OE}
theorem JW_le {a:B} {f:FS} {hp:AH} (h:JW hp0 l m W N O a f hp):∃ os,oeO (uV hp0 W (vr hp)) hp0 (O (uV hp0 W (vr hp)) a)=some os∧AS.leH ⟨f,hp⟩ ⟨kn (N (uV hp0 W (vr hp)) a++l),hk (os++m)⟩:=by
  unfold JW at h
  split at h
  · rename_i os ho;exact ⟨os,ho,leH_kn h.1 h.2⟩
  · exact h.elim
theorem leH_refl (S:AS):S.leH S:=fun s hs=>⟨fun t x hx=>⟨x,hx,fun _ h=>h⟩,hs,fun _ h=>h⟩
theorem q_jn {i:Ix} {s:Sk P i} {x:Code} {cs:List Code} {y:WT P (.b B)} {k:B→WT P i} {S:AS} (h1:∀ b,y.run=some b→Trs P n (QS P n (.jn (JW hp0 l m W N O)) b) [x] S)
    (h2:∀ b u os,oeO (uV hp0 W u) hp0 (O (uV hp0 W u) b)=some os→∀ r,(k b).run=some r→Trs P n (QS P n s r) cs ⟨kn (N (uV hp0 W u) b++l),hk (os++m)⟩) {r:i.d} (hr:(y.run.bind fun b=>(k b).run)=some r):Trs P n (QS P n s r) (x :: cs) S:=by
  obtain ⟨b,g1,g2⟩:=bind_e hr
  refine Tr.monoH (trs_of (h1 b g1)) ?_
  rintro e S' ⟨rfl,hj⟩
  obtain ⟨os,q1,q2⟩:=JW_le hj
  exact ⟨_,q2,h2 b _ os q1 r g2⟩
theorem q_jnE {i:Ix} {s:Sk P i} {x:Code} {cs:List Code} {y:WT P (.s B i)} {k:B→WT P i} {S:AS} (h1:∀ b,y.run=some b→Trs P n (QS P n (.jnE (JW hp0 l m W N O) s) b) [x] S)
    (h2:∀ b u os,oeO (uV hp0 W u) hp0 (O (uV hp0 W u) b)=some os→∀ r,(k b).run=some r→Trs P n (QS P n s r) cs ⟨kn (N (uV hp0 W u) b++l),hk (os++m)⟩) {r:i.d} (hr:(y.run.bind (sel fun b=>(k b).run))=some r):Trs P n (QS P n s r) (x :: cs) S:=by
  obtain ⟨z,g1,g2⟩:=bind_e hr
  refine Tr.monoH (trs_of (h1 z g1)) ?_
  intro e S' hq
  cases z with
  | inl b =>
    obtain ⟨rfl,hj⟩:=hq
    obtain ⟨os,q1,q2⟩:=JW_le hj
    exact ⟨_,q2,h2 b _ os q1 r g2⟩
  | inr c =>
    obtain ⟨hne,hj⟩:=hq
    have e1:c=r:=Option.some.inj (sel_r g2)
    subst e1
    refine ⟨S',leH_refl _,?_⟩
    cases e with
    | normal=>exact (hne rfl).elim
    | _=>exact hj
theorem q_lp {i:Ix} {s:Sk P i} {c:Code} {cs:List Code} {body:B→WT P (.s B i)} {S:AS} {v:B} (h0:JW hp0 l m W N O v S.sl S.hp)
    (h2:∀ v u os,oeO (uV hp0 W u) hp0 (O (uV hp0 W u) v)=some os→∀ z,(body v).run=some z→Trs P n (QS P n (.jnE (JW hp0 l m W N O) s) z) [c] ⟨kn (N (uV hp0 W u) v++l),hk (os++m)⟩)
    {q:Nat} {r:i.d} (hr:iter (fun v=>(body v).run) q v=some r):Trs P n (QS P n s r) (.loop c :: cs) S:=by
  obtain ⟨os0,q1,q2⟩:=JW_le h0
  refine tr_loopH (ι:={ p:Nat×B×(Nat→Nat)×List (Nat×AObj) // iter (fun v=>(body v).run) p.1 p.2.1=some r∧oeO (uV hp0 W p.2.2.1) hp0 (O (uV hp0 W p.2.2.1) p.2.1)=some p.2.2.2 }) (fun p=>⟨kn (N (uV hp0 W p.1.2.2.1) p.1.2.1++l),hk (p.1.2.2.2++m)⟩) (fun p=>p.1.1) ⟨(q,v,vr S.hp,os0),hr,q1⟩ q2 ?_
  rintro ⟨⟨q,v,u,os⟩,hi,ho⟩
  cases q with
  | zero=>cases hi
  | succ q =>
    have hi:((body v).run.bind (sel fun v'=>iter (fun v=>(body v).run) q v'))=some r:=hi
    obtain ⟨z,g1,g2⟩:=bind_e hi
    refine Tr.mono (trs_of (h2 v u os ho z g1)) ?_
    intro e S' hq
    cases z with
    | inl v' =>
      obtain ⟨rfl,hj⟩:=hq
      obtain ⟨os',p1,p2⟩:=JW_le hj
      exact ⟨⟨(q,v',vr S'.hp,os'),g2,p1⟩,Nat.lt_succ_self q,p2⟩
    | inr j =>
      obtain ⟨hne,hj⟩:=hq
      have e1:j=r:=Option.some.inj (sel_r g2)
      subst e1
      cases e with
      | normal=>exact (hne rfl).elim
      | _=>exact hj
theorem pieceW_ok (hm:P.follows .mixedOrders=true) {K:KT P} (hK:KOk P n K) {i:Ix} {t:WT P i} {s:Sk P i} {x:Code} {cs:List Code} {f:FS} {hp:AH} {vs:List (Nat×Nat)} (h:pieceW K n t s x cs f hp vs):VEq vs∧Snd P n t s (.c (x :: cs)) ⟨f,hp⟩:=by
  unfold pieceW at h
  split at h
  · rename_i id ops
    split at h
    · rename_i hnd
      obtain ⟨a,b⟩:=hK _ _ _ _ _ _ h
      refine ⟨a,fun r hr=>?_⟩
      have e:ops=ops.toList.toArray:=by simp
      rw [e]
      exact c_reg (fun K' hK'=>b r hr K' hK') hnd
    · exact h.elim
  · rename_i id ops
    split at h
    · rename_i rd kp dk eff pi t'
      cases h with
      | mk h e a =>
        obtain ⟨_,b⟩:=hK _ _ _ _ _ _ h
        refine ⟨a,fun r hr=>?_⟩
        have e2:ops=ops.toList.toArray:=by simp
        rw [e2]
        exact c_drawE _ _ _ _ _ hm e (fun K' hK'=>b r hr K' hK')
    · exact h.elim
  · obtain ⟨a,b⟩:=hK _ _ _ _ _ _ h
    exact ⟨a,fun r hr=>q_block (b r hr)⟩
  · obtain ⟨a,b⟩:=exitW_ok hK _ _ _ _ _ _ h
    exact ⟨a,fun r hr=>c_exit (b r hr)⟩
  · obtain ⟨a,b⟩:=retW_ok (n:=n) _ _ _ _ _ h
    exact ⟨a,fun r hr=>c_ret (b r hr)⟩
  · split at h
    · rename_i hc
      obtain ⟨a,b⟩:=hK _ _ _ _ _ _ h
      exact ⟨a,fun r hr=>c_true hc (b r hr)⟩
    · rename_i hc
      obtain ⟨a,b⟩:=hK _ _ _ _ _ _ h
      exact ⟨a,fun r hr=>c_false hc (b r hr)⟩
    · exact h.elim
  · obtain ⟨a,b⟩:=hK _ _ _ _ _ _ h
    exact ⟨a,fun r hr=>q_scope (b r hr)⟩
  · rename_i c
    split at h
    · rename_i k t'
      obtain ⟨a,b⟩:=hK _ _ _ _ _ _ h
      exact ⟨a,fun r hr=>q_unroll k (b r hr)⟩
    · rename_i L M W N O q v body
      obtain ⟨l,h⟩:=keepS_ok h
      obtain ⟨m,h⟩:=keepO_ok h
      cases h with
      | mk h2 h1 a =>
        refine ⟨a,fun r hr=>q_lp (S:=⟨f,hp⟩) h1 (fun v u os ho z hz=>?_) (q:=q) hr⟩
        have h3:=h2 v u
        rw [ho] at h3
        exact (hK _ _ _ _ _ _ h3).2 z hz
    · exact h.elim
  · exact h.elim
theorem codeW_ok (hm:P.follows .mixedOrders=true) {K:KT P} (hK:KOk P n K) {i:Ix} {t:WT P i} {s:Sk P i} {x:Code} {cs:List Code} {f:FS} {hp:AH} {vs:List (Nat×Nat)} (h:codeW K n t s x cs f hp vs):VEq vs∧Snd P n t s (.c (x :: cs)) ⟨f,hp⟩:=by
  unfold codeW at h
  split at h
  · obtain ⟨a,b⟩:=hK _ _ _ _ _ _ h
    exact ⟨a,fun r hr=>c_seq (b r hr)⟩
  · obtain ⟨a,b⟩:=hK _ _ _ _ _ _ h
    exact ⟨a,fun r hr=>c_skip (b r hr)⟩
  · obtain ⟨a,b⟩:=hK _ _ _ _ _ _ h
    exact ⟨a,fun r hr=>c_label (b r hr)⟩
  · split at h
    · obtain ⟨l,h⟩:=keepS_ok h
      obtain ⟨m,h⟩:=keepO_ok h
      cases h with
      | mk h1 h2 _ a =>
        refine ⟨a,fun r hr=>q_jn (hK _ _ _ _ _ _ h1).2 (fun b u os ho r hr=>?_) hr⟩
        have h3:=h2 b u
        rw [ho] at h3
        exact (hK _ _ _ _ _ _ h3).2 r hr
    · obtain ⟨a,b⟩:=pieceW_ok hm hK h
      exact ⟨a,fun r hr=>b r hr⟩
    · obtain ⟨l,h⟩:=keepS_ok h
      obtain ⟨m,h⟩:=keepO_ok h
      cases h with
      | mk h1 h2 _ a =>
        refine ⟨a,fun r hr=>q_jnE (hK _ _ _ _ _ _ h1).2 (fun b u os ho r hr=>?_) hr⟩
        have h3:=h2 b u
        rw [ho] at h3
        exact (hK _ _ _ _ _ _ h3).2 r hr
    · obtain ⟨a,b⟩:=pieceW_ok hm hK h
      exact ⟨a,fun r hr=>b r hr⟩
    · exact pieceW_ok hm hK h
end
section
variable {P:Program} {n:NT} {tb:Tab2}
theorem call_eta {o:Oper} {c:Call} (ho:o.op=.call c) {cl:Callee} (hc:c.callee=cl):o.op=.call { callee:=cl,args:=c.args.toList.toArray,argTypes:=c.argTypes }:=by
  rw [ho];cases c;simp at hc ⊢;exact hc
theorem call_len {o:Oper} {c:Call} (ho:o.op=.call c) {b:Builtin} (hc:c.callee=.builtin b) {x:Operand} {T:TypeId} (hx:c.args.toList=[x]) (hT:c.argTypes.toList=[T]):o.op=.call { callee:=.builtin b,args:=#[x],argTypes:=#[T] }:=by
  rw [ho];obtain ⟨c1,c2,c3⟩:=c
  simp only at hc hx hT ⊢
  have e2:c2=#[x]:=by rw [← hx]
  have e3:c3=#[T]:=by rw [← hT]
  rw [hc,e2,e3]
theorem evH {f:FS} {hp H:AH} (x:Operand):(AS.mk f H).ev x=(AS.mk f hp).ev x:=by cases x <;> rfl
theorem upd_kp {hp:AH} {id:Nat} {x:Option AObj} {j:Nat} (h:some id≠some j):upd hp id x j=hp j:=upd_ne _ _ (fun e=>h (by rw [e]))
theorem evList_det {S:AS}:∀ {l:List Operand} {k:List AV→Prop},evList S l k→∃ us,k us∧∀ k':List AV→Prop,k' us→evList S l k'
  | [],k,h=>⟨[],h,fun _ h=>h⟩
  | x :: r,k,h=>by
    unfold evList at h
    split at h
    · rename_i v hv
      obtain ⟨us,h1,h2⟩:=evList_det h
      exact ⟨v :: us,h1,fun k' h'=>by unfold evList;simp only [hv];exact h2 (fun us=>k' (v :: us)) h'⟩
    · exact h.elim
theorem cndF {c:Bool} {p:Prop} (h:cond c p False):c=true∧p:=by cases c with | true=>exact ⟨rfl,h⟩ | false=>exact h.elim
theorem evW_det {S:AS} {o:Oper} {vs:List (Nat×Nat)} {k:List (Nat×Nat)→AV→Prop} (h:evW tb S o vs k):∃ us v,k us v∧∀ k':List (Nat×Nat)→AV→Prop,k' us v→evW tb S o vs k':=by
  unfold evW at h
  split at h
  all_goals (try exact h.elim)
  all_goals (try (repeat' (split at h)))
  all_goals (try exact h.elim)
  all_goals (try (refine ⟨_,_,h,fun k' h'=>?_⟩;unfold evW;simp only [*];done))
  all_goals (try (refine ⟨_,_,h,fun k' h'=>?_⟩;unfold evW;simp only [*];exact h'))
  all_goals (try (obtain ⟨hc,hk⟩:=cndF h;clear h;refine ⟨_,_,hk,fun k' h'=>?_⟩;clear hk;unfold evW;simp only [*,cond_true];done))
  all_goals (try (obtain ⟨hc,hk⟩:=cndF h;clear h;refine ⟨_,_,hk,fun k' h'=>?_⟩;clear hk;unfold evW;simp only [*,cond_true];exact h'))
  · obtain ⟨us,h1,h2⟩:=evList_det h
    split at h1
    · rename_i cs hcs
      refine ⟨_,_,h1,fun k' h'=>?_⟩
      unfold evW
      simp only [*]
    · exact h1.elim
  · obtain ⟨us,h1,h2⟩:=evList_det h
    obtain ⟨ws,h3,h4⟩:=evList_det h1
    refine ⟨_,_,h3,fun k' h'=>?_⟩
    unfold evW
    simp only [*]
theorem nfR_ok:∀ {l:List AV} {k:List AV→Prop},nfR l k→k l
  | [],k,h=>h
  | x :: r,k,h=>nfR_ok (l:=r) (k:=fun r'=>k (x :: r')) h
theorem fillK_e {pl:List (Nat×Nat)}:∀ {l:List (Nat×AV)} {cs:List AV} {k:List AV→Prop},fillK pl cs l k→∃ ds,fillA (fun i=>pl[i]?) cs l=some ds∧k ds
  | [],cs,k,h=>⟨cs,rfl,h⟩
  | (i,v) :: r,cs,k,h=>by
    unfold fillK at h;unfold fillA
    split at h
    · exact h.elim
    · rename_i off size hp
      split at h
      · rename_i hc
        simp only [hp,hc,if_true]
        exact fillK_e (nfR_ok h)
      · exact h.elim
theorem evF_e {S:AS} {o:Oper} {vs:List (Nat×Nat)} {k:List (Nat×Nat)→AV→Prop} (h:evF tb S o vs k):evW tb S o vs k:=by
  unfold evF at h
  split at h
  · rename_i T ps ho
    split at h
    · rename_i pl h1
      split at h
      · rename_i zs h2
        split at h
        · rename_i h3
          obtain ⟨us,h,h4⟩:=evList_det h
          obtain ⟨ds,h5,h6⟩:=fillK_e (nfR_ok h)
          unfold evW
          simp only [ho,h1,h2,h3]
          refine h4 _ ?_
          simp only [h5]
          exact h6
        · exact h.elim
      · exact h.elim
    · exact h.elim
  · exact h
theorem nfRR_ok:∀ {l:List (List AV)} {k:List (List AV)→Prop},nfRR l k→k l
  | [],k,h=>h
  | x :: r,k,h=>nfRR_ok (l:=r) (k:=fun r'=>k (x :: r')) h
theorem nfV_ok {v:AV} {k:AV→Prop} (h:nfV v k):k v:=by
  unfold nfV at h
  split at h
  · exact nfR_ok (k:=fun cs=>k (.agg cs)) h
  · exact nfR_ok (k:=fun cs=>k (.pp cs)) h
  · exact h
theorem plainW_ok (ht:Tab2Ok P tb) {f:FS} {hp:AH} {o:Oper} {i:Ix} {t:WT P i} {vs:List (Nat×Nat)} {k:WT P i→List (Nat×Nat)→AV→AH→Option Nat→Prop} (h:plainW tb f hp o t vs k) :
    ∃ t' us Out ch,(∀ r,t.run=some r→t'.run=some r)∧(∃ v H',k t' us v H' ch)∧(∀ v H',Out v H'→k t' us v H' ch)∧(VEq us→VEq vs)∧(VEq us→Yield P o ⟨f,hp⟩ no any Out)∧(∀ v H',Out v H'→∀ j,ch≠some j→H' j=hp j):=by
  unfold plainW at h
  split at h
  · rename_i T ho
    split at h
    · rename_i id t'
      split at h
      · rename_i zs hz
        split at h
        · rename_i h1
          have h:=nfR_ok h
          rw [List.length_map] at h
          exact ⟨t',vs,_,some id,fun r hr=>hr,⟨_,_,h 0⟩,(by rintro _ _ ⟨v,-,rfl,rfl⟩;exact h v),fun e=>e,fun _=>yl_alloc id .any ho (ht.zsv hz) h1,(by rintro _ _ ⟨v,-,rfl,rfl⟩ j hj;exact upd_kp hj)⟩
        · exact h.elim
      · exact h.elim
    · exact h.elim
  · rename_i T x ho
    split at h
    · rename_i id t'
      split at h
      · rename_i v hx
        split at h
        · rename_i h1
          have h:=nfR_ok h
          exact ⟨t',vs,_,some id,fun r hr=>hr,⟨_,_,h 0⟩,(by rintro _ _ ⟨v,-,rfl,rfl⟩;exact h v),fun e=>e,fun _=>yl_box id .any ho hx h1,(by rintro _ _ ⟨v,-,rfl,rfl⟩ j hj;exact upd_kp hj)⟩
        · exact h.elim
      · exact h.elim
    · exact h.elim
  · rename_i T x y ho
    split at h
    · rename_i m b hT
      split at h
      · rename_i id ver row off hx
        split at h
        · rename_i v hy
          split at h
          · rename_i el sz mt app ve rows hob
            split at h
            · rename_i r hr
              split at h
              · rename_i hc
                have h:=nfRR_ok (nfR_ok h)
                simp only [Bool.and_eq_true] at hc
                obtain ⟨⟨⟨c1,c2⟩,c3⟩,c4⟩:=hc
                exact ⟨t,_,_,some id,fun r hr=>hr,⟨_,_,h⟩,(by rintro _ _ ⟨rfl,rfl⟩;exact h),fun e=>e.2,fun e=>(yl_store ho (ht.b.shv hT) hx hy hob e.1 c1 hr (Nat.eq_of_beq_eq_true c2) c3 c4).weak (fun _ h=>h) fun _ h=>h.elim,(by rintro _ _ ⟨rfl,rfl⟩ j hj;exact upd_kp hj)⟩
              · exact h.elim
            · exact h.elim
          · exact h.elim
        · exact h.elim
      · exact h.elim
    · exact h.elim
  · rename_i c ho
    split at h
    · rename_i hc
      split at h
      · rename_i x hx
        split at h
        · rename_i T hT
          have ho':=call_len ho hc hx hT
          split at h
          · rename_i el he
            split at h
            · rename_i sz xs hv
              exact ⟨t,vs,_,none,fun r hr=>hr,⟨_,_,h⟩,(by rintro _ _ ⟨rfl,rfl⟩;exact h),fun e=>e,fun _=>(yv_len_sl ho' (ht.sev he) hv (.list _ _)).weak (fun _ h=>h) fun _ h=>h.elim,(by rintro _ _ ⟨rfl,rfl⟩ j hj;rfl)⟩
            · rename_i id ver off len hv
              split at h
              · rename_i ob hob
                exact ⟨t,_,_,none,fun r hr=>hr,⟨_,_,h⟩,(by rintro _ _ ⟨rfl,rfl⟩;exact h),fun e=>e.2,fun e=>(yv_len_sl ho' (ht.sev he) hv (.sl hob e.1)).weak (fun _ h=>h) fun _ h=>h.elim,(by rintro _ _ ⟨rfl,rfl⟩ j hj;rfl)⟩
              · exact h.elim
            · rename_i a len cap hv
              exact ⟨t,vs,_,none,fun r hr=>hr,⟨_,_,h⟩,(by rintro _ _ ⟨rfl,rfl⟩;exact h),fun e=>e,fun _=>(yv_len_sl ho' (ht.sev he) hv (.nil _ _ _)).weak (fun _ h=>h) fun _ h=>h.elim,(by rintro _ _ ⟨rfl,rfl⟩ j hj;rfl)⟩
            · exact h.elim
          · exact h.elim
        · exact h.elim
      · exact h.elim
    · exact h.elim
  · replace h:=evF_e h
    have h:evW tb ⟨f,hp⟩ o vs fun vs v=>k t vs v hp none:=by
      obtain ⟨us,v,h1,h2⟩:=evW_det h
      refine h2 _ ?_
      split at h1
      · exact nfV_ok h1
      · exact h1
    obtain ⟨v,us,h1,h2,h3⟩:=evW_ok ht h
    exact ⟨t,us,_,none,fun r hr=>hr,⟨_,_,h1⟩,(by rintro _ _ ⟨rfl,rfl⟩;exact h1),h2,fun e=>(h3 e).weak (fun _ h=>h) fun _ h=>h.elim,(by rintro _ _ ⟨rfl,rfl⟩ j hj;rfl)⟩
theorem evList_H {f:FS} {hp H:AH}:∀ {l:List Operand} {k:List AV→Prop},evList ⟨f,hp⟩ l k→evList ⟨f,H⟩ l k
  | [],k,h=>h
  | x :: r,k,h=>by
    unfold evList at h ⊢
    rw [evH (hp:=hp)]
    split at h
    · rename_i v hv;exact evList_H h
    · exact h.elim
theorem evW_H {f:FS} {hp H:AH} {o:Oper} {vs:List (Nat×Nat)} {k:List (Nat×Nat)→AV→Prop} (hag:∀ id,id∈rdsW f o→H id=hp id) (h:evW tb ⟨f,hp⟩ o vs k):evW tb ⟨f,H⟩ o vs k:=by
  have hg:∀ x id ver row off,(AS.mk f hp).ev x=some (.pt id ver row off)→(AS.mk f H0).ev x=some (.pt id ver row off):=fun x id ver row off e=>by rw [evH (hp:=hp)];exact e
  unfold evW at h ⊢
  unfold rdsW at hag
  cases hop:o.op <;> simp only [hop] at h hag ⊢ <;> try exact h.elim
  case move x=>rw [evH (hp:=hp)];exact h
  case assign x=>rw [evH (hp:=hp)];exact h
  case load T x =>
    split at h
    · rw [evH (hp:=hp)]
      split at h
      · rename_i cs hx;exact h
      · rename_i id ver row off hx
        simp only [hg _ _ _ _ _ hx,List.mem_singleton] at hag
        rw [hag id rfl];exact h
      · exact h.elim
    · exact h.elim
  case fieldAddr T x j =>
    split at h
    · rw [evH (hp:=hp)]
      split at h
      · exact h
      · rename_i id ver row off hx
        simp only [hg _ _ _ _ _ hx,List.mem_singleton] at hag
        rw [hag id rfl];exact h
      · exact h.elim
    · exact h.elim
  case nilCheck x =>
    rw [evH (hp:=hp)]
    split at h
    · exact h
    · rename_i id ver row off hx
      simp only [hg _ _ _ _ _ hx,List.mem_singleton] at hag
      rw [hag id rfl];exact h
    · exact h.elim
  case field T x j =>
    rw [evH (hp:=hp)];exact h
  case extract x j=>rw [evH (hp:=hp)];exact h
  case pick c x y=>rw [evH (hp:=hp) c,evH (hp:=hp) x,evH (hp:=hp) y];exact h
  case unOp u T x =>
    cases u <;> simp only at h ⊢ <;> first | exact h.elim | (rw [evH (hp:=hp)];exact h)
  case convert T1 T2 x=>rw [evH (hp:=hp)];exact h
  case binOp b T x y Ty=>rw [evH (hp:=hp) x,evH (hp:=hp) y];exact h
  case build T ps =>
    split at h
    · split at h
      · split at h
        · exact evList_H h
        · exact h.elim
      · exact h.elim
    · exact h.elim
  case makeFunc fn as cs =>
    have go:∀ (l:List Operand) {k1 k2:List AV→Prop},(∀ us,k1 us→k2 us)→evList ⟨f,hp⟩ l k1→evList ⟨f,H⟩ l k2:=by
      intro l
      induction l with
      | nil=>intro k1 k2 hk h;exact hk _ h
      | cons x r ih =>
        intro k1 k2 hk h
        unfold evList at h ⊢
        rw [evH (hp:=hp)]
        split at h
        · exact ih (fun us hu=>hk _ hu) h
        · exact h.elim
    exact go _ (fun us hu=>evList_H hu) h
theorem plainE_ok (ht : Tab2Ok P tb) {f : FS} {hp : AH} {o : Oper} {i : Ix} {t : WT P i} {vs : List (Nat × Nat)} {k : WT P i → List (Nat × Nat) → AV → Prop} (h : plainW tb f hp o t vs fun t' vs v _ ch => match ch with
      | none=>k t' vs v
      | some _=>False) :
    ∃ us v,k t us v∧(VEq us→VEq vs)∧(VEq us→∀ H,(∀ id,id∈rdsW f o→H id=hp id)→YieldV P o ⟨f,H⟩ v):=by
  unfold plainW at h
  split at h
  · split at h
    · split at h
      · split at h
        · exact (nfR_ok h 0).elim
        · exact h.elim
      · exact h.elim
    · exact h.elim
  · split at h
    · split at h
      · split at h
        · exact (nfR_ok h 0).elim
        · exact h.elim
      · exact h.elim
    · exact h.elim
  · split at h
    · split at h
      · split at h
        · split at h
          · split at h
            · split at h
              · exact (nfRR_ok (nfR_ok h)).elim
              · exact h.elim
            · exact h.elim
          · exact h.elim
        · exact h.elim
      · exact h.elim
    · exact h.elim
  · rename_i c ho
    split at h
    · rename_i hc
      split at h
      · rename_i x hx
        split at h
        · rename_i T hT
          have ho':=call_len ho hc hx hT
          split at h
          · rename_i el he
            split at h
            · rename_i sz xs hv
              exact ⟨vs,_,h,fun e=>e,fun _ H _=>yv_len_sl ho' (ht.sev he) ((evH (hp:=hp) x).trans hv) (.list _ _)⟩
            · rename_i id ver off len hv
              split at h
              · rename_i ob hob
                refine ⟨_,_,h,fun e=>e.2,fun e H hag=>?_⟩
                have hm:id∈rdsW f o:=by
                  unfold rdsW
                  simp only [ho',evH (hp:=hp),hv,List.mem_singleton]
                exact yv_len_sl ho' (ht.sev he) ((evH (hp:=hp) x).trans hv) (.sl ((hag id hm).trans hob) e.1)
              · exact h.elim
            · rename_i a len cap hv
              exact ⟨vs,_,h,fun e=>e,fun _ H _=>yv_len_sl ho' (ht.sev he) ((evH (hp:=hp) x).trans hv) (.nil _ _ _)⟩
            · exact h.elim
          · exact h.elim
        · exact h.elim
      · exact h.elim
    · exact h.elim
  · replace h:=evF_e h
    obtain ⟨us,v,h1,h2⟩:=evW_det h
    have h1:k t us v:=by
      split at h1
      · exact nfV_ok h1
      · exact h1
    have q:=evW_ok ht (h2 (fun us' v'=>us'=us∧v'=v) ⟨rfl,rfl⟩)
    obtain ⟨v',us',⟨rfl,rfl⟩,q2,_⟩:=q
    refine ⟨us',v',h1,q2,fun e H hag=>?_⟩
    obtain ⟨v2,us2,⟨rfl,rfl⟩,_,g3⟩:=evW_ok ht (evW_H hag (h2 (fun us1 v1=>us1=us'∧v1=v') ⟨rfl,rfl⟩))
    exact g3 e
end
end Go.Pv
