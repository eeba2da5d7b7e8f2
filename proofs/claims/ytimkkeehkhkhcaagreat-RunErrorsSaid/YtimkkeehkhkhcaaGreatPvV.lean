/- Append, make: cores and typed forms. -/
import Derived.Test.YtimkkeehkhkhcaaGreatPvU
set_option linter.unusedVariables false
set_option linter.unusedSimpArgs false
namespace Go.Pv
section
variable {P:Program} {n:NT} {S:AS} {o:Oper} {T:TypeId} {x y:Operand}
theorem aA2 {e:TypeId} {sz by' ver':Nat} {U:Nat->Prop} {zs:List Value} {id aD k:Nat} {ob:aW} {news:List (List AV)} {s:Sit} {a:Act} {next:Act->World->Prop} {Q:Go.Exit->Act->World->Prop}
    (hH:HR s S.hp) (hxv:VR s (.sl id aD 0 k) (a.eval x)) (hyv:VR s (.list sz news) (a.eval y)) (hU:U ver') (hun:¬ s.used ver')
    (hn:∀ s' v z H',(z=.sl id ver' 0 (k+news.length)/\H'=upd S.hp id (some { ob with aD:=ver',rows:=ob.rows++news }))->VR s' z v->HR s' H'->Fr s S.hp s' H'->(∀ k,s'.used k->s.used k\/U k)->next (a.put o.dst v) s'.w)
    (ho:o.op=.call { callee:=.builtin .append,args:=#[x,y],argTypes:=#[T,T] }) (hT:P.underlying T=some (.slice e)) (hz:iW P e=some (sz,zs)) (hby:jK P e=some by')
    (hob:S.hp id=some ob) (bP:ob.aD=aD) (hmt:ob.mt=true) (happ:ob.app=true) (hel:ob.elem=e) (hosz:ob.sz=sz) (hk:ob.rows.length=k)
    (h1:∀ r∈news,jF r=true) (hfit:(k+news.length)*by'<=140737488355328) (hmax:k+news.length<=9223372036854775807):o.wp P a s.w next Q:=by
  obtain ⟨i,hi,hsz,hzo,hzl,hpos,hzone⟩:=uE hz
  have hiz:∃ z,i.zero=some z/\z.cells.toList=zs:=by
    unfold zeroOf at hzo;rw [hi] at hzo
    simp only [Option.bind_some] at hzo
    cases hz:i.zero with
    | none=>rw [hz] at hzo;cases hzo
    | some z=>rw [hz] at hzo;exact ⟨z,rfl,by simpa using hzo⟩
  obtain ⟨z,hz1,hz2⟩:=hiz
  have hzc:z.cells.size=sz:=by rw [<- Array.length_toList,hz2,hzl]
  have hib:i.bytes=by':=by unfold jK at hby;rw [hi] at hby;simpa using hby
  obtain ⟨m,hm⟩:=hH.obj id ob hob
  generalize hux:a.eval x=ux at hxv
  generalize huy:a.eval y=uy at hyv
  cases hxv with
  | sl hk0 hone hh =>
    have hh:=hh m hm.hm (hm.bP.trans bP)
    have run:∀ {w':World} {r:Value},(Builtin.append_ #[T,T] o.type #[ux,uy]).run P s.w=.ok r w'->(execOp a.eval o).run P s.w=.ok (.value r) w':=λh=>by
      simp only [execOp,ho,resolve,invoke,builtin,List.map_toArray,List.map_cons,List.map_nil,Sem.run_bind,Sem.run_pure,Result.andThen_ok,hux,huy,h]
    rcases UD hpos hyv h1 with ⟨hy0,hnil⟩ | ⟨ad,cap,nv,hy0,hnl,hnc,hn1,hrl,hnv⟩
    · -- nothing is appended
      subst hnil
      have hrun:(Builtin.append_ #[T,T] o.type #[ux,uy]).run P s.w=.ok ux s.w:=by
        rw [hy0]
        rcases hm.body with ⟨hn',_⟩ | ⟨cur,fr,hb⟩
        · obtain ⟨q1,q2⟩:=hh.1 hn'
          rw [q1];simp [Builtin.append_,run_underlying hT,sizeOf,typeInfo,hi,Builtin.lenOf,Builtin.firstCells]
        · obtain ⟨cap,q1,q2,q3⟩:=hh.2 hb.hnil
          rw [q1];simp [Builtin.append_,run_underlying hT,sizeOf,typeInfo,hi,Builtin.lenOf,Builtin.firstCells,q2,storeCells]
      have hrows:({ ob with aD:=ver',rows:=ob.rows++[] }:aW)={ ob with aD:=ver' }:=by simp
      rcases hm.body with ⟨hn',hr0⟩ | ⟨cur,fr,hb⟩
      · obtain ⟨q1,q2⟩:=hh.1 hn'
        obtain ⟨s',g1,g2,g3,g4,g5⟩:=qW hH id { ob with aD:=ver' } hun hr0 (.inr ⟨m,hm.hm,hn'⟩)
        refine jM (w':=s'.w) (by rw [g1];exact run hrun) (hn s' _ (.sl id ver' 0 (k+0)) _ ⟨rfl,by rw [hrows]⟩ ?_ g4 g5 λj hj=>?_)
        · refine .sl (by rw [g2];exact .inr rfl) (by rw [q1];rfl) λm' hm' _=>?_
          rw [g3] at hm';cases hm'
          exact ⟨λ_=>⟨q1,by omega⟩,λh=>by cases h⟩
        · rw [g2] at hj;rcases hj with h | h;exact .inl h;exact .inr (h ▸ hU)
      · obtain ⟨cap,q1,q2,q3⟩:=hh.2 hb.hnil
        obtain ⟨s',g1,g2,g3,g4,g5⟩:=qZ hH id { ob with aD:=ver' } m.b m.ct cur s.w rfl rfl rfl (Nat.le_refl _) (λ_ _ _=>rfl) (by rw [hb.hb,hb.happ happ]) (.inr ⟨ob,m,hob,hmt,hm.hm,hb.hnil,rfl⟩) hun hmt hb.hcs hb.hct hb.hlen hb.hr hb.hv hb.h1
        refine jM (w':=s'.w) (by rw [g1];exact run hrun) (hn s' _ (.sl id ver' 0 (k+0)) _ ⟨rfl,by rw [hrows]⟩ ?_ g4 g5 λj hj=>?_)
        · refine .sl (by rw [g2];exact .inr rfl) (by rw [q1];rfl) λm' hm' _=>?_
          rw [g3] at hm';cases hm'
          exact ⟨λh=>(by cases h),λ_=>⟨cap,by rw [q1,Nat.zero_mul,Nat.zero_mul];rfl,by simpa using q2,by simpa using q3⟩⟩
        · rw [g2] at hj;rcases hj with h | h;exact .inl h;exact .inr (h ▸ hU)
    · -- something is
      have hnl':nv.length=news.length*i.size:=by rw [hnl,hsz]
      have fin:∀ (g ct:Nat) (cur':Array Value) (w':World) (cap':Nat),w'.os=s.w.os->w'.tape=s.w.tape->w'.output=s.w.output->s.w.heap.size<=w'.heap.size ->
          (∀ j,j<s.w.heap.size->j≠g->w'.heap[j]?=s.w.heap[j]?)->w'.heap[g]?=some (.cells cur' e (0,0))->(s.w.heap.size<=g\/∃ o0 m0,S.hp id=some o0/\o0.mt=true/\s.mu id=some m0/\m0.nil=false/\m0.b=g) ->
          cur'.size=ct*sz->ct<=maxLen->k+news.length<=cap'->cap'<=ct ->
          (∀ (i:Nat) (r:List AV) (j:Nat) (x:AV) (v:Value),(ob.rows++news)[i]?=some r->r[j]?=some x->cur'[i*sz+j]?=some v->VR s x v) ->
          (∀ (j:Nat) (v:Value),cur'[j]?=some v->v.oneCell'=true) ->
          (Builtin.append_ #[T,T] o.type #[ux,uy]).run P s.w=.ok (.slice (some ⟨g,0,none⟩) (k+news.length) cap') w'->o.wp P a s.w next Q:=by
        intro g ct cur' w' cap' a1 a2 a3 a4 a5 a6 a7 a8 a9 nQ oK a12 rZ hrun
        have hrowl:∀ (i:Nat) (r:List AV),(ob.rows++news)[i]?=some r->r.length=sz:=λi r hr=>by
          rcases kU hr with ⟨_,h⟩ | ⟨_,h⟩
          · rcases hm.body with ⟨_,h0⟩ | ⟨_,_,hb⟩
            · rw [h0] at h;simp at h
            · rw [<- hosz];exact hb.hr i r h
          · exact hrl r (List.mem_of_getElem? h)
        obtain ⟨s',g1,g2,g3,g4,g5⟩:=qZ hH id { ob with aD:=ver',rows:=ob.rows++news } g ct cur' w' a1 a2 a3 a4 a5 (by rw [a6];simp [hel]) a7 hun hmt (by simpa [hosz] using a8) a9 (by simp only [List.length_append];omega)
          (by simpa [hosz] using hrowl) (by simpa [hosz] using a12) rZ
        refine jM (w':=s'.w) (by rw [g1];exact run hrun) (hn s' _ (.sl id ver' 0 (k+news.length)) _ ⟨rfl,rfl⟩ ?_ g4 g5 λj hj=>?_)
        · refine .sl (by rw [g2];exact .inr rfl) rfl λm' hm' _=>?_
          rw [g3] at hm';cases hm'
          exact ⟨λh=>(by cases h),λ_=>⟨cap',by rw [Nat.zero_mul],nQ,by simpa using oK⟩⟩
        · rw [g2] at hj;rcases hj with h | h;exact .inl h;exact .inr (h ▸ hU)
      have hzcells:∀ (q:Nat) (j:Nat) (v:Value),(Builtin.zeroCells z.cells q)[j]?=some v->v.oneCell'=true:=λq j v hv=>by
        simp only [Builtin.zeroCells,Array.getElem?_map] at hv
        obtain ⟨jj,hjj,rfl⟩:=Option.map_eq_some_iff.1 hv
        have hm':jj % z.cells.size<z.cells.size:=Nat.mod_lt _ (by omega)
        rw [getElem!_pos z.cells _ hm']
        exact qY hzone (jj % z.cells.size) _ (by rw [<- hz2,Array.getElem?_toList];simp [hm'])
      have cells:∀ (olds tail:List Value),olds.length=k*sz->(∀ (i:Nat) (r:List AV) (j:Nat) (x:AV) (v:Value),ob.rows[i]?=some r->r[j]?=some x->olds[i*sz+j]?=some v->VR s x v) ->
          ∀ (i:Nat) (r:List AV) (j:Nat) (x:AV) (v:Value),(ob.rows++news)[i]?=some r->r[j]?=some x->(olds++nv++tail)[i*sz+j]?=some v->VR s x v:=by
        intro olds tail ho1 ho2 i r j x v hr hxx hv
        rcases kU hr with ⟨hi1,h⟩ | ⟨hi1,h⟩
        · have hj:j<sz:=by
            have:=(List.getElem?_eq_some_iff.1 hxx).1
            rcases hm.body with ⟨_,h0⟩ | ⟨_,_,hb⟩
            · rw [h0] at h;simp at h
            · rw [hb.hr i r h,hosz] at this;exact this
          have hlt:i*sz+j<k*sz:=by
            have:(i+1)*sz<=k*sz:=Nat.mul_le_mul_right _ (by omega)
            rw [Nat.add_mul] at this;omega
          rw [List.append_assoc,List.getElem?_append_left (by omega)] at hv
          exact ho2 i r j x v h hxx hv
        · have hj:j<sz:=by have:=(List.getElem?_eq_some_iff.1 hxx).1;rw [hrl r (List.mem_of_getElem? h)] at this;exact this
          have hi2:=(List.getElem?_eq_some_iff.1 h).1
          have hsub:i*sz+j-k*sz=(i-ob.rows.length)*sz+j:=by
            rw [hk,Nat.sub_mul]
            have:k*sz<=i*sz:=Nat.mul_le_mul_right _ (by omega)
            omega
          have hge:k*sz<=i*sz+j:=by
            have:k*sz<=i*sz:=Nat.mul_le_mul_right _ (by omega)
            omega
          have hlt:(i-ob.rows.length)*sz+j<nv.length:=by
            rw [hnl]
            have:(i-ob.rows.length+1)*sz<=news.length*sz:=Nat.mul_le_mul_right _ (by omega)
            rw [Nat.add_mul] at this;omega
          rw [List.append_assoc,List.getElem?_append_right (by omega),ho1,hsub,List.getElem?_append_left hlt] at hv
          exact hnv _ r j x v h hxx hv
      rcases hm.body with ⟨hn',hr0⟩ | ⟨cur,fr,hb⟩
      · -- the nil slice
        obtain ⟨q1,q2⟩:=hh.1 hn'
        subst q2
        by_cases hz0:news.length=0
        · have hnews:news=[]:=List.eq_nil_of_length_eq_zero hz0
          have hrun:(Builtin.append_ #[T,T] o.type #[ux,uy]).run P s.w=.ok ux s.w:=by
            rw [hy0,q1,hz0];simp [Builtin.append_,run_underlying hT,sizeOf,typeInfo,hi,Builtin.lenOf,Builtin.firstCells,loadCells,loadCellsFrom]
          obtain ⟨s',g1,g2,g3,g4,g5⟩:=qW hH id { ob with aD:=ver' } hun hr0 (.inr ⟨m,hm.hm,hn'⟩)
          refine jM (w':=s'.w) (by rw [g1];exact run hrun) (hn s' _ (.sl id ver' 0 (0+news.length)) _ ⟨rfl,by rw [hnews];simp⟩ ?_ g4 g5 λj hj=>?_)
          · refine .sl (by rw [g2];exact .inr rfl) (by rw [q1];rfl) λm' hm' _=>?_
            rw [g3] at hm';cases hm'
            exact ⟨λ_=>⟨q1,by omega⟩,λh=>by cases h⟩
          · rw [g2] at hj;rcases hj with h | h;exact .inl h;exact .inr (h ▸ hU)
        · have hrun:=run_append_nil (P:=P) s.w T o.type e i z hT hi hz1 ad news.length cap nv hnl' hnc (by omega) (by omega) (by rw [hib];simp at hfit;omega)
          have hge:=grownCap_ge s.w news.length 0 e
          refine fin s.w.heap.size (grownCap s.w news.length 0 e) _ (s.w.drew.alloc (.cells (nv.toArray++Builtin.zeroCells z.cells (grownCap s.w news.length 0 e-news.length)) e)) (grownCap s.w news.length 0 e) rfl rfl rfl (by simp) (λj hj _=>alloc_old s.w.drew _ j hj) (mZ s.w.drew _) (.inl (Nat.le_refl _)) ?_ (grownCap_le_maxLen _ _ _ _ (by simp only [maxLen];omega)) (by omega) (Nat.le_refl _) ?_ ?_ (by rw [q1,hy0,hrun];simp)
          · rw [Array.size_append,List.size_toArray,size_zeroCells,hzc,hnl,<- Nat.add_mul];congr 1;omega
          · intro i r j x v hr hxx hv
            refine cells [] (Builtin.zeroCells z.cells (grownCap s.w news.length 0 e-news.length)).toList (by simp) (λi r j x v h=>by rw [hr0] at h;simp at h) i r j x v hr hxx ?_
            rw [<- hv,<- Array.getElem?_toList];simp
          · intro j v hv
            rw [<- Array.getElem?_toList,Array.toList_append] at hv
            rcases kU hv with ⟨_,h⟩ | ⟨_,h⟩
            · exact hn1 v (List.mem_of_getElem? h)
            · exact hzcells _ _ v (by rw [<- Array.getElem?_toList];exact h)
      · obtain ⟨cp,q1,q2,q3⟩:=hh.2 hb.hnil
        rw [Nat.zero_mul] at q1
        simp only [Nat.zero_add] at q3
        have hcur:cur.size=m.ct*sz:=by rw [hb.hcs,hosz]
        have hkc:k*sz<=cur.size:=by rw [hcur];exact Nat.mul_le_mul_right _ (by have:=hb.hlen;omega)
        have holdv:∀ (i:Nat) (r:List AV) (j:Nat) (x:AV) (v:Value),ob.rows[i]?=some r->r[j]?=some x->(cur.toList.take (k*sz))[i*sz+j]?=some v->VR s x v:=λi r j x v h1' h2 h3=>by
          have hlt:i*sz+j<k*sz:=by have:=(List.getElem?_eq_some_iff.1 h3).1;simp at this;omega
          rw [List.getElem?_take_of_lt hlt,Array.getElem?_toList] at h3
          exact hb.hv i r j x v h1' h2 (by rw [hosz];exact h3)
        have hheap:s.w.heap[m.b]?=some (.cells cur e (0,0)):=by rw [hb.hb,hb.happ happ,hel]
        by_cases hroom:k+news.length<=cp
        · have hfits:k*i.size+nv.length<=cur.size:=by
            rw [hsz,hnl,<- Nat.add_mul,hcur];exact Nat.mul_le_mul_right _ (by omega)
          have hrun:=run_append_room (P:=P) s.w T o.type e i hT hi m.b k cp cur hheap ad news.length cap nv hnl' hnc hn1 hroom hfits
          rw [hsz] at hrun hfits
          refine fin m.b m.ct _ (s.w.setRow m.b (cur.toList.take (k*sz)++nv++cur.toList.drop (k*sz+nv.length)).toArray) cp rfl rfl rfl (by simp) (λj hj hne=>setRow_other s.w m.b j _ hne) (setRow_heap s.w m.b cur _ e (0,0) hheap) (.inr ⟨ob,m,hob,hmt,hm.hm,hb.hnil,rfl⟩) ?_ hb.hct (by omega) (by omega) ?_ ?_ (by rw [q1,hy0,hrun])
          · rw [List.size_toArray,<- hcur];simp only [List.length_append,List.length_take,List.length_drop,Array.length_toList];omega
          · intro i r j x v hr hxx hv
            exact cells (cur.toList.take (k*sz)) _ (by simp;omega) holdv i r j x v hr hxx (by rw [<- hv,List.getElem?_toArray])
          · intro j v hv
            rw [List.getElem?_toArray] at hv
            rcases kU hv with ⟨_,h⟩ | ⟨_,h⟩
            · rcases kU h with ⟨_,h⟩ | ⟨_,h⟩
              · have hlt:j<k*sz:=by have:=(List.getElem?_eq_some_iff.1 h).1;simp at this;omega
                rw [List.getElem?_take_of_lt hlt,Array.getElem?_toList] at h
                exact hb.h1 _ v h
              · exact hn1 v (List.mem_of_getElem? h)
            · rw [List.getElem?_drop,Array.getElem?_toList] at h
              exact hb.h1 _ v h
        · have hrun := run_append_grow (P := P) s.w T o.type e i z hT hi hz1 ⟨m.b, 0, none⟩ k cp (cur.toList.take (k * sz)) (by rw [hsz]; simp; omega) (λj v hv => by
              rw [addr_add,rX hheap,Nat.zero_add]
              have hlt:j<k*sz:=by have:=(List.getElem?_eq_some_iff.1 hv).1;simp at this;omega
              rw [List.getElem?_take_of_lt hlt,Array.getElem?_toList] at hv;exact hv)
            ad news.length cap nv hnl' hnc (by omega) (by omega) (growslice_fits (by omega) (by rw [hib];exact hfit))
          have hge:=grownCap_ge s.w (k+news.length) cp e
          refine fin s.w.heap.size (grownCap s.w (k+news.length) cp e) _ (s.w.drew.alloc (.cells ((cur.toList.take (k*sz)).toArray++nv.toArray++Builtin.zeroCells z.cells (grownCap s.w (k+news.length) cp e-(k+news.length))) e)) (grownCap s.w (k+news.length) cp e) rfl rfl rfl (by simp) (λj hj _=>alloc_old s.w.drew _ j hj) (mZ s.w.drew _) (.inl (Nat.le_refl _)) ?_ (grownCap_le_maxLen _ _ _ _ (by simp only [maxLen];omega)) (by omega) (Nat.le_refl _) ?_ ?_ (by rw [q1,hy0,hrun])
          · rw [Array.size_append,Array.size_append,List.size_toArray,List.size_toArray,size_zeroCells,hzc,hnl]
            have:(cur.toList.take (k*sz)).length=k*sz:=by simp;omega
            rw [this,<- Nat.add_mul,<- Nat.add_mul];congr 1;omega
          · intro i r j x v hr hxx hv
            refine cells (cur.toList.take (k*sz)) (Builtin.zeroCells z.cells (grownCap s.w (k+news.length) cp e-(k+news.length))).toList (by simp;omega) holdv i r j x v hr hxx ?_
            rw [<- hv,<- Array.getElem?_toList];simp
          · intro j v hv
            rw [<- Array.getElem?_toList,Array.toList_append,Array.toList_append] at hv
            rcases kU hv with ⟨_,h⟩ | ⟨_,h⟩
            · rcases kU h with ⟨_,h⟩ | ⟨_,h⟩
              · have hlt:j<k*sz:=by have:=(List.getElem?_eq_some_iff.1 h).1;simp at this;omega
                simp only at h
                rw [List.getElem?_take_of_lt hlt,Array.getElem?_toList] at h
                exact hb.h1 _ v h
              · exact hn1 v (List.mem_of_getElem? h)
            · exact hzcells _ _ v (by rw [<- Array.getElem?_toList];exact h)
theorem J7 {f:AH} {i:Nat} {v w:Option aW}:upd (upd f i v) i w=upd f i w:=by
  funext k;by_cases h:k=i
  · subst h;rw [upd_same,upd_same]
  · rw [upd_ne _ _ h,upd_ne _ _ h,upd_ne _ _ h]
theorem aBU {e:TypeId} {sz by':Nat} {zs:List Value} (id:Nat) {p:AV} {news:List (List AV)}
    (ho:o.op=.call { callee:=.builtin .append,args:=#[x,y],argTypes:=#[T,T] }) (hT:P.underlying T=some (.slice e)) (hz:iW P e=some (sz,zs)) (hby:jK P e=some by')
    (hx:S.ev x=some (.sc (.slice none 0 0))) (hy:S.ev y=some p) (hid:S.hp id=none) (hcv:Cv S.hp p (.list sz news)) (h1:∀ r∈news,jF r=true) (hfit:news.length*by'<=140737488355328) (hmax:news.length<=9223372036854775807) :
    bW P o S no any (λz H'=>∃ ver',z=.sl id ver' 0 news.length/\H'=upd S.hp id (some ⟨e,sz,true,true,ver',news⟩)):=by
  intro s a next Q hH hops hF hn
  obtain ⟨C,hC⟩:=hH.fin
  have hxv:=(hops x (by simp [ho,Op.operands,Call.operands]) _ hx).gJ
  have hyv:=hcv s hH _ (hops y (by simp [ho,Op.operands,Call.operands]) _ hy)
  obtain ⟨s1,g1,g2,g3,g4,g5⟩:=qW hH id ⟨e,sz,true,true,C,[]⟩ (hC C (Nat.le_refl _)) rfl (.inl hid)
  have hun:¬ s1.used (C+1):=by
    rw [g2];rintro (h | h)
    · exact hC _ (by omega) h
    · simp at h
  have hxv1:VR s1 (.sl id C 0 0) (a.eval x):=by
    rw [hxv]
    refine .sl (by rw [g2];exact .inr rfl) rfl λm hm _=>?_
    rw [g3] at hm;cases hm
    exact ⟨λ_=>⟨rfl,rfl⟩,λh=>by cases h⟩
  rw [<- g1]
  refine aA2 (S:={ S with hp:=upd S.hp id (some ⟨e,sz,true,true,C,[]⟩) }) (U:=any) (ver':=C+1) (aD:=C) (k:=0) (id:=id) (ob:=⟨e,sz,true,true,C,[]⟩) (news:=news) (o:=o) (x:=x) (y:=y) g4 hxv1 (g5.vals _ _ hyv) trivial hun ?_ ho hT hz hby (upd_same _ _ _) rfl rfl rfl rfl rfl rfl h1 (by simpa using hfit) (by simpa using hmax)
  rintro s2 v z H' ⟨rfl,rfl⟩ q1 q2 q3 q4
  have e1:upd (upd S.hp id (some (⟨e,sz,true,true,C,[]⟩:aW))) id (some ⟨e,sz,true,true,C+1,[]++news⟩)=upd S.hp id (some ⟨e,sz,true,true,C+1,news⟩):=by rw [J7];rfl
  have e2:0+news.length=news.length:=Nat.zero_add _
  simp only [e2] at q1
  have q2':HR s2 (upd S.hp id (some ⟨e,sz,true,true,C+1,news⟩)):=by rw [<- e1];exact q2
  have q3':Fr s S.hp s2 (upd S.hp id (some ⟨e,sz,true,true,C+1,news⟩)):=by rw [<- e1];exact g5.trans q3
  exact hn s2 v _ _ ⟨C+1,rfl,rfl⟩ q1 q2' q3' (λk _=>.inr trivial)
variable {α:Type}
theorem NW {g:α->List AV} (h:∀ a,jF (g a)=true) (l:List α):∀ r∈l.map g,jF r=true:=λr hr=>by
  obtain ⟨a,_,rfl⟩:=List.mem_map.1 hr;exact h a
theorem iP {F U V:Nat->Prop} {e:TypeId} {sz by':Nat} {zs:List Value} {id aD k:Nat} {ob:aW} {p:AV} {g:α->List AV} {l m l':List α} (hp:nY F U V)
    (ho:o.op=.call { callee:=.builtin .append,args:=#[x,y],argTypes:=#[T,T] }) (hT:P.underlying T=some (.slice e)) (hz:iW P e=some (sz,zs)) (hby:jK P e=some by') (hb:Nat.ble by' 2048=true)
    (hx:S.ev x=some (.sl id aD 0 k)) (hy:S.ev y=some p) (hob:S.hp id=some ob) (bP:ob.aD=aD) (hmt:ob.mt=true) (happ:ob.app=true) (hel:ob.elem=e) (hosz:ob.sz=sz) (hr:ob.rows=l.map g) (hk:k=l.length)
    (hcv:Cv S.hp p (aG sz g m)) (h1:∀ a,jF (g a)=true) (hl:l++m=l') (hfit:l'.length<=68719476736) :
    bW P o S F U (λz H'=>∃ ver',V ver'/\z=.sl id ver' 0 l'.length/\H'=upd S.hp id (some ⟨e,sz,true,true,ver',l'.map g⟩)):=by
  subst hl hk
  have hb':=Nat.le_of_ble_eq_true hb
  have e1:l.length+(m.map g).length=(l++m).length:=by rw [List.length_map,List.length_append]
  have hmul:(l++m).length*by'<=68719476736*2048:=Nat.mul_le_mul hfit hb'
  have:=tT (news:=m.map g) hp ho hT hz hby hx hy hob bP hmt happ hel hosz (by rw [hr,List.length_map]) hcv (NW h1 m) (by rw [e1];omega) (by rw [e1];omega)
  intro s a next Q q1 q2 q3 q4
  refine this s a next Q q1 q2 q3 ?_
  rintro s' v z H' ⟨ver',hV,rfl,rfl⟩
  refine q4 s' v _ _ ⟨ver',hV,by rw [e1],?_⟩
  rw [hr,List.map_append]
  obtain ⟨oe,os,om,oa,ov,orr⟩:=ob
  simp only at hmt happ hel hosz hr
  subst hmt happ hel hosz
  rfl
theorem aHX {e:TypeId} {sz by':Nat} {zs:List Value} (id:Nat) {p:AV} {g:α->List AV} {m:List α}
    (ho:o.op=.call { callee:=.builtin .append,args:=#[x,y],argTypes:=#[T,T] }) (hT:P.underlying T=some (.slice e)) (hz:iW P e=some (sz,zs)) (hby:jK P e=some by') (hb:Nat.ble by' 2048=true)
    (hx:S.ev x=some (.sc (.slice none 0 0))) (hy:S.ev y=some p) (hid:S.hp id=none) (hcv:Cv S.hp p (aG sz g m)) (h1:∀ a,jF (g a)=true) (hfit:m.length<=68719476736) :
    bW P o S no any (λz H'=>∃ ver',z=.sl id ver' 0 m.length/\H'=upd S.hp id (some ⟨e,sz,true,true,ver',m.map g⟩)):=by
  have hb':=Nat.le_of_ble_eq_true hb
  have hmul:m.length*by'<=68719476736*2048:=Nat.mul_le_mul hfit hb'
  have:=aBU (news:=m.map g) id ho hT hz hby hx hy hid hcv (NW h1 m) (by rw [List.length_map];omega) (by rw [List.length_map];omega)
  simpa only [List.length_map] using this
theorem iY {e:TypeId} {sz k id aD:Nat} {b:Bool} {kk:IntKind} {i:Int} {ob:aW} {l:List α} {v:α} (ho:o.op=.indexAddr T x y) (hT:P.underlying T=some (.slice e)) (he:gF P e=some (sz,b))
    (hx:S.ev x=some (.sl id aD 0 k)) (hy:S.ev y=some (.sc (.int kk i))) (hob:S.hp id=some ob) (bP:ob.aD=aD) (hsz:ob.sz=sz) (hk:k=l.length) (hrl:ob.rows.length=l.length) (h:ix l i=some v):bS P o S (.pt id aD i.toNat 0):=by
  have hlt:=vV h
  have:=zI.sl (S:=S) (sz:=sz) (id:=id) (aD:=aD) (off:=0) (len:=k) (i:=i.toNat) hob bP hsz (by omega) (by omega)
  rw [Nat.zero_add] at this
  exact dA ho hT he hx hy (nR h).1 this
theorem gT {β:Type} {l l':List β} {i:Int} {v v':β} (h:ix l i=some v) (e:l.set i.toNat v'=l'):ix l' i=some v':=by
  subst e
  have h1:=nR h
  have hlt:=vV h
  unfold ix
  rw [if_neg (by omega),List.getElem?_set_self hlt]
theorem bY {β:Type} {l:List β} {i:Int} {v:β} {g:β->List AV} {c:List AV} (h:ix l i=some v):((l.map g).set i.toNat c)[i.toNat]?=some c :=
  List.getElem?_set_self (by rw [List.length_map];exact vV h)
theorem fQ {T sz aD:Nat} {mt app:Bool} {r r':List (List AV)} (h:r=r'):(⟨T,sz,mt,app,aD,r⟩:aW)=⟨T,sz,mt,app,aD,r'⟩:=by rw [h]
theorem iE {β:Type} {l l':List β} {i:Nat} {v':β} {g:β->List AV} (e:l.set i v'=l'):(l.map g).set i (g v')=l'.map g:=by subst e;rw [List.map_set]
theorem kZ {r:List (List AV)} {i:Nat} {a b:List AV}:(r.set i a).set i b=r.set i b:=by simp
theorem gQ {β:Type} {l l':List β} {i k:Nat} {v':β} (e:l.set i v'=l') (h:l.length=k):l'.length=k:=by subst e;rw [List.length_set];exact h
theorem MN {β:Type} {l:List β} {i:Nat} {g:β->List AV} {c:List AV}:((l.map g).set i c).length=l.length:=by rw [List.length_set,List.length_map]
theorem nL {H:AH} {id aD off a b:Nat} (h:a=b):Cv H (.sl id aD off a) (.sl id aD off b):=by subst h;exact .refl _
theorem gN.list {H:AH} {sz:Nat} {xs ys:List (List AV)} (h:gN H xs ys):Cv H (.list sz xs) (.list sz ys):=λs hs v hv=>by
  obtain ⟨h1,h2⟩:=h.get
  cases hv with
  | nil =>
    have:ys=[]:=List.eq_nil_of_length_eq_zero (by simpa using h1.symm)
    subst this;exact .nil sz
  | emp _ a =>
    have:ys=[]:=List.eq_nil_of_length_eq_zero (by simpa using h1.symm)
    subst this;exact .emp sz a
  | list f hI hc hm hr hf hv =>
    rw [h1]
    refine .list f hI (by omega) hm (λi r hi=>?_) (λi r j x hi hj=>?_) (λi r j x hi hj=>?_)
    · obtain ⟨r0,g1,g2⟩:=h2 i r hi;rw [<- g2.get.1];exact hr i r0 g1
    · obtain ⟨r0,g1,g2⟩:=h2 i r hi
      obtain ⟨x0,g3,_⟩:=g2.get.2 j x hj
      exact hf i r0 j x0 g1 g3
    · obtain ⟨r0,g1,g2⟩:=h2 i r hi
      obtain ⟨x0,g3,g4⟩:=g2.get.2 j x hj
      exact g4 s hs _ (hv i r0 j x0 g1 g3)
theorem vL {H:AH} {id aD len sz:Nat} {ob:aW} {g:α->List AV} {l:List α} {i:Int} {v v':α} {cells:List AV} (ho:H id=some ob) (bP:ob.aD=aD) (hmt:ob.mt=false) (hsz:ob.sz=sz)
    (hr:ob.rows=(l.map g).set i.toNat cells) (hl:len=l.length) (hx:ix l i=some v) (hc:cO H cells (g v')):Cv H (.sl id aD 0 len) (aG sz g (l.set i.toNat v')):=by
  have hlt:=vV hx
  have hrr:gN H ob.rows ((l.set i.toNat v').map g):=by
    rw [hr,List.map_set]
    have:∀ (xs:List (List AV)) (k:Nat) (c c':List AV),cO H c c'->gN H (xs.set k c) (xs.set k c'):=by
      intro xs
      induction xs with
      | nil=>intro k c c' _;simp;exact .nil
      | cons a r ih =>
        intro k c c' h
        cases k with
        | zero=>exact .cons h (gN.refl _)
        | succ k=>exact .cons (cO.refl _) (ih k c c' h)
    exact this _ _ _ _ hc
  have:=Cv.sl (rows:=(l.set i.toNat v').map g) (off:=0) (len:=len) ho bP hmt hrr (by rw [List.length_map,List.length_set];omega)
  rw [hsz] at this
  have e:(((l.set i.toNat v').map g).drop 0).take len=(l.set i.toNat v').map g:=by rw [List.drop_zero,hl,List.take_of_length_le (by rw [List.length_map,List.length_set];exact Nat.le_refl _)]
  rw [e] at this;exact this
inductive ZC:AV->Value->Prop
  | sc (v:Value):ZC (.sc v) v
  | nil (sz:Nat):ZC (.list sz []) (.slice none 0 0)
inductive ZL:List AV->List Value->Prop
  | nil:ZL [] []
  | cons {x:AV} {v:Value} {xs:List AV} {vs:List Value} (h:ZC x v) (t:ZL xs vs):ZL (x :: xs) (v :: vs)
theorem ZL.get {xs:List AV} {vs:List Value} (h:ZL xs vs):xs.length=vs.length/\∀ (s:Sit) (j:Nat) (x:AV) (v:Value),xs[j]?=some x->vs[j]?=some v->VR s x v:=by
  induction h with
  | nil=>exact ⟨rfl,λs j x v h=>by simp at h⟩
  | cons h t ih =>
    refine ⟨by simp [ih.1],λs j x v h1 h2=>?_⟩
    cases j with
    | zero =>
      simp at h1 h2;subst h1 h2
      cases h with
      | sc=>exact .sc _
      | nil=>exact .nil _
    | succ j=>exact ih.2 s j x v (by simpa using h1) (by simpa using h2)
theorem oW {F U V:Nat->Prop} {e:TypeId} {sz by':Nat} {zs:List Value} (id:Nat) {g:α->List AV} {z0:α} {N:Int} {l:List α} (hp:nY F U V)
    (ho:o.op=.makeSlice T x y) (hT:P.underlying T=some (.slice e)) (hz:iW P e=some (sz,zs)) (hby:jK P e=some by') (hb:Nat.ble by' 2048=true)
    (hx:S.ev x=some (.sc (.int .i64 N))) (hy:S.ev y=some (.sc (.int .i64 N))) (hN:0<=N/\N<=1048576) (hg:ZL (g z0) zs) (hl:List.replicate N.toNat z0=l) :
    bW P o S F U (λz H'=>∃ ver',V ver'/\z=.sl id ver' 0 N.toNat/\H'=upd S.hp id (some ⟨e,sz,true,true,ver',l.map g⟩)):=by
  subst hl
  intro s a next Q hH hops hF hn
  obtain ⟨ver',hV,hU,hun⟩:=hp.get hH hF
  obtain ⟨i,hi,hsz,hzo,hzl,hpos,h1⟩:=uE hz
  obtain ⟨z,hz1,hz2⟩:=uY hzo s.w
  have hzc:z.cells.size=sz:=by rw [<- Array.length_toList,hz1,hzl]
  have hib:i.bytes=by':=by unfold jK at hby;rw [hi] at hby;simpa using hby
  have hb':=Nat.le_of_ble_eq_true hb
  have hxv:=(hops x (by simp [ho,Op.operands]) _ hx).gJ
  have hyv:=(hops y (by simp [ho,Op.operands]) _ hy).gJ
  obtain ⟨k,rfl⟩:∃ k:Nat,N=(k:Int):=⟨N.toNat,by omega⟩
  have hk:k<=1048576:=by omega
  obtain ⟨zl,zg⟩:=hg.get
  let z0':Array Value:=(Array.range (k*sz)).map (z.cells[· % z.cells.size]!)
  have hget:∀ j,j<k*sz->z0'[j]?=zs[j % sz]?:=λj hj=>by
    have hm:j % sz<sz:=Nat.mod_lt _ hpos
    simp only [z0',Array.getElem?_map,Array.getElem?_range,hj,if_true,Option.map_some,hzc]
    rw [<- hz1,Array.getElem?_toList]
    rw [getElem!_pos z.cells (j % sz) (by omega),Array.getElem?_eq_getElem (by omega)]
  have hsize:z0'.size=k*sz:=by simp [z0']
  obtain ⟨s',g1,g2,g3,g4,g5⟩:=qZ hH id ⟨e,sz,true,true,ver',(List.replicate k z0).map g⟩ s.w.heap.size k z0' (s.w.alloc (.cells z0' e)) rfl rfl rfl (by simp)
    (λj hj _=>alloc_old s.w _ j hj) (mZ s.w _) (.inl (Nat.le_refl _)) hun rfl (by simp [hsize]) (by simp [maxLen];omega) (by simp)
    (λi r hr=>by
      rw [List.getElem?_map] at hr
      obtain ⟨q,hq,rfl⟩:=Option.map_eq_some_iff.1 hr
      have:=List.mem_of_getElem? hq
      rw [(List.eq_of_mem_replicate this)]
      simp [zl,hzl])
    (λi r j x v hr hxx hv=>by
      rw [List.getElem?_map] at hr
      obtain ⟨q,hq,rfl⟩:=Option.map_eq_some_iff.1 hr
      have hik:i<k:=by have:=(List.getElem?_eq_some_iff.1 hq).1;simpa using this
      rw [List.eq_of_mem_replicate (List.mem_of_getElem? hq)] at hxx
      have hj:j<sz:=by have:=(List.getElem?_eq_some_iff.1 hxx).1;omega
      simp only at hv
      have hlt:i*sz+j<k*sz:=by
        have:(i+1)*sz<=k*sz:=Nat.mul_le_mul_right _ (by omega)
        rw [Nat.add_mul] at this;omega
      rw [hget _ hlt,Nat.mul_comm,Nat.mul_add_mod,Nat.mod_eq_of_lt hj] at hv
      exact zg s j x v hxx hv)
    (λj v hv=>by
      have hj:j<k*sz:=by have:=(Array.getElem?_eq_some_iff.1 hv).1;omega
      rw [hget j hj] at hv
      exact qY h1 _ v hv)
  refine jM (w':=s'.w) (v:=.slice (some ⟨s.w.heap.size,0,none⟩) k k) ?_ (hn s' _ (.sl id ver' 0 k) _ ⟨ver',hV,by simp,by simp⟩ ?_ g4 g5 λj hj=>?_)
  · rw [g1]
    have hty:(typeInfo e).run P s.w=.ok i s.w:=by simp [typeInfo,program,Sem.run,hi]
    have hsz':(sizeOf e).run P s.w=.ok sz s.w:=by simp [sizeOf,typeInfo,program,Sem.run,hi,hsz]
    have hwr:IntKind.i64.wrap (k:Int)=k:=IntWalk.i64_in _ (by omega)
    have hmul:i.bytes*k<=2048*1048576:=by rw [hib];exact Nat.mul_le_mul hb' hk
    have hmulI:((i.bytes:Int)*(k:Int))<=2147483648:=by
      have h:((i.bytes*k:Nat):Int)<=((2048*1048576:Nat):Int):=Int.ofNat_le.2 hmul
      rw [Int.natCast_mul] at h;omega
    have hroom:¬ (k*i.bytes>roomBytes):=by rw [Nat.mul_comm];simp only [roomBytes];omega
    have ht1:¬ ((k:Int)<0):=by omega
    have ht2:¬ ((i.bytes:Int)*(k:Int)>2 ^ 48):=by omega
    simp only [execOp,ho,hxv,hyv,Instr.makeSlice,Sem.run_bind,run_underlying hT,Result.andThen_ok,asInt,asIntOf,Sem.run_pure,hty,hwr]
    simp only [ht1,ht2,decide_false,Bool.or_self,Bool.false_or,Bool.false_eq_true,Int.lt_irrefl,if_false,gt_iff_lt,askRoom,Int.toNat_natCast,hroom,Sem.run_bind,Sem.run_pure,Result.andThen_ok,hsz']
    by_cases h0:k*sz=0
    · have hzz:(Array.range 0).map ((#[]:Array Value)[· % (#[]:Array Value).size]!)=z0':=by simp [z0',h0]
      simp only [h0,if_true,Sem.run_pure,Result.andThen_ok,hzz,newRow,newObj,Sem.run,Sem.run_bind]
      rfl
    · simp only [h0,if_false,Sem.run_bind,hz2,Result.andThen_ok,Sem.run_pure,newRow,newObj,Sem.run]
      rfl
  · refine .sl (by rw [g2];exact .inr rfl) rfl λm hm _=>?_
    rw [g3] at hm;cases hm
    exact ⟨λh=>(by cases h),λ_=>⟨k,by simp,Nat.le_refl _,by simp⟩⟩
  · rw [g2] at hj;rcases hj with h | h;exact .inl h;exact .inr (h ▸ hU)
end
end Go.Pv
