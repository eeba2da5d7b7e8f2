/- The abstract layer, part 10: append, make. -/
import Derived.Test.YtimkkeehkhkhcaaGreatPvI
set_option linter.unusedVariables false
set_option linter.unusedSimpArgs false
namespace Go.Pv
section
variable {P:Program} {n:NT} {S:AS} {o:Oper} {T:TypeId} {x y:Operand}
theorem qW {s:Sit} {H:AH} (hH:HR s H) (id:Nat) (o:aW) (bP:¬ s.used o.aD) (hrows:o.rows=[])
    (hold:H id=none\/∃ m,s.mu id=some m/\m.nil=true) :
    ∃ s':Sit,s'.w=s.w/\s'.used=(λk=>s.used k\/k=o.aD)/\s'.mu id=some ⟨true,0,o.sz,0,o.aD⟩/\HR s' (upd H id (some o))/\Fr s H s' (upd H id (some o)):=by
  let s':Sit:={ w:=s.w,Im:=s.Im,mu:=upd s.mu id (some ⟨true,0,o.sz,0,o.aD⟩),used:=λk=>s.used k\/k=o.aD }
  have hmono:∀ x v,VR s x v->VR s' x v:=λx v h=>VR.mono (s:=s) (s':=s') (λb hi=>⟨hi,rfl⟩) (λi m' hm'=>by
    by_cases hi:i=id
    · subst hi
      simp only [s',upd_same,Option.some.injEq] at hm'
      subst hm';exact .inr bP
    · simp only [s',upd_ne _ _ hi] at hm';exact .inl hm') (λ_ h=>.inl h) h
  refine ⟨s',rfl,rfl,by simp [s',upd_same],⟨?_,?_,hH.im,?_⟩,⟨rfl,rfl,rfl,Nat.le_refl _,λ_ _ _=>rfl,λ_ h=>h,λ_ _ _ h=>h,?_,hmono,λ_ h=>.inl h⟩⟩
  · intro i o' ho'
    by_cases hi:i=id
    · subst hi
      rw [upd_same] at ho';cases ho'
      exact ⟨⟨true,0,o.sz,0,o.aD⟩,⟨upd_same _ _ _,rfl,rfl,.inr rfl,.inl ⟨rfl,hrows⟩⟩⟩
    · rw [upd_ne _ _ hi] at ho'
      obtain ⟨m,hm⟩:=hH.obj i o' ho'
      refine ⟨m,⟨by simp only [s',upd_ne _ _ hi];exact hm.hm,hm.bP,hm.hsz,.inl hm.hk,?_⟩⟩
      rcases hm.body with h | ⟨cur',fr',hb'⟩
      · exact .inl h
      · exact .inr ⟨cur',fr',⟨hb'.hnil,hb'.hb,hb'.hfr,hb'.happ,hb'.hcs,hb'.hct,hb'.hlen,hb'.hr,λi r j x v a b c=>hmono _ _ (hb'.hv i r j x v a b c),hb'.h1,hb'.him,hb'.jI⟩⟩
  · intro i i' o1 o2 m m' h1' h2' hm hm' hn hn' he
    by_cases hi:i=id
    · subst hi
      simp only [s',upd_same,Option.some.injEq] at hm
      subst hm;cases hn
    · rw [upd_ne _ _ hi] at h1'
      simp only [s',upd_ne _ _ hi] at hm
      by_cases hi':i'=id
      · subst hi'
        simp only [s',upd_same,Option.some.injEq] at hm'
        subst hm';cases hn'
      · rw [upd_ne _ _ hi'] at h2'
        simp only [s',upd_ne _ _ hi'] at hm'
        exact hH.jQ i i' o1 o2 m m' h1' h2' hm hm' hn hn' he
  · obtain ⟨C,hC⟩:=hH.fin
    exact ⟨max C (o.aD+1),λk hk h=>by rcases h with h | h;exact hC k (by omega) h;omega⟩
  · rintro b hb' ⟨i,o',m,q1,q2,q3,q4,q5⟩
    by_cases hi:i=id
    · subst hi
      simp only [s',upd_same,Option.some.injEq] at q3
      subst q3;cases q4
    · rw [upd_ne _ _ hi] at q1
      simp only [s',upd_ne _ _ hi] at q3
      exact ⟨i,o',m,q1,q2,q3,q4,q5⟩
theorem sH {c:Code} {cs:List Code} {f:Nat->Option AV} {hp:AH} {Q:Go.Exit->AS->Prop} (t id:Nat) (e:TypeId) (sz:Nat) (h:f t=some (.sc (.slice none 0 0))) (hid:hp id=none)
    (h1:∀ aD,dI P n Q (c :: cs) ⟨upd f t (some (.sl id aD 0 0)),upd hp id (some ⟨e,sz,true,true,aD,[]⟩)⟩):dI P n Q (c :: cs) ⟨f,hp⟩:=by
  intro s a hs
  obtain ⟨C,hC⟩:=hs.heap.fin
  obtain ⟨s',g1,g2,g3,g4,g5⟩:=qW hs.heap id ⟨e,sz,true,true,C,[]⟩ (hC C (Nat.le_refl _)) rfl (.inl hid)
  have hs':SR n s' ⟨upd f t (some (.sl id C 0 0)),upd hp id (some ⟨e,sz,true,true,C,[]⟩)⟩ a:=by
    refine ⟨hs.size,hs.defers,λi z hz=>?_,g4⟩
    by_cases hi:i=t
    · subst hi
      simp only [upd_same,Option.some.injEq] at hz
      subst hz
      obtain ⟨v,q1,q2⟩:=hs.slot i _ h
      have:=q2.gJ;subst this
      refine ⟨_,q1,.sl (by rw [g2];exact .inr rfl) rfl λm hm _=>?_⟩
      rw [g3] at hm;cases hm
      exact ⟨λ_=>⟨rfl,rfl⟩,λh=>by cases h⟩
    · simp only [upd_ne _ _ hi] at hz
      obtain ⟨v,q1,q2⟩:=hs.slot i z hz
      exact ⟨v,q1,g5.vals _ _ q2⟩
  have:=h1 C s' a hs'
  rw [g1] at this
  refine kJ this ?_
  rintro e a' w' ⟨S2,s2,q1,q2,q3,q4⟩
  exact ⟨S2,s2,q1,q2,q3,g5.trans q4⟩
theorem K5 {ops todo:List Oper} {K:AS->Prop} {f:Nat->Option AV} {hp:AH} (t id:Nat) (e:TypeId) (sz:Nat) (h:f t=some (.sc (.slice none 0 0))) (hid:hp id=none)
    (h1:∀ aD,Rg P n ops todo ⟨upd f t (some (.sl id aD 0 0)),upd hp id (some ⟨e,sz,true,true,aD,[]⟩)⟩ K):Rg P n ops todo ⟨f,hp⟩ K:=by
  intro k hk s a hs
  obtain ⟨C,hC⟩:=hs.heap.fin
  obtain ⟨s',g1,g2,g3,g4,g5⟩:=qW hs.heap id ⟨e,sz,true,true,C,[]⟩ (hC C (Nat.le_refl _)) rfl (.inl hid)
  have hs':SR n s' ⟨upd f t (some (.sl id C 0 0)),upd hp id (some ⟨e,sz,true,true,C,[]⟩)⟩ a:=by
    refine ⟨hs.size,hs.defers,λi z hz=>?_,g4⟩
    by_cases hi:i=t
    · subst hi
      simp only [upd_same,Option.some.injEq] at hz
      subst hz
      obtain ⟨v,q1,q2⟩:=hs.slot i _ h
      have:=q2.gJ;subst this
      refine ⟨_,q1,.sl (by rw [g2];exact .inr rfl) rfl λm hm _=>?_⟩
      rw [g3] at hm;cases hm
      exact ⟨λ_=>⟨rfl,rfl⟩,λh=>by cases h⟩
    · simp only [upd_ne _ _ hi] at hz
      obtain ⟨v,q1,q2⟩:=hs.slot i z hz
      exact ⟨v,q1,g5.vals _ _ q2⟩
  have:=h1 C k hk s' a hs'
  rw [g1] at this
  refine xB ?_ _ _ _ this
  rintro e a' w' ⟨rfl,S2,s2,q1,q2,q3,q4⟩
  exact ⟨rfl,S2,s2,q1,q2,q3,g5.trans q4⟩
def jK (P:Program) (e:TypeId):Option Nat:=(P.info? e).map (·.bytes)
theorem ZU {i j sz:Nat} (hj:j<sz):(i*sz+j) / sz=i/\(i*sz+j) % sz=j:=by
  have hp:0<sz:=by omega
  constructor
  · rw [Nat.mul_comm,Nat.mul_add_div hp,Nat.div_eq_of_lt hj,Nat.add_zero]
  · rw [Nat.mul_comm,Nat.mul_add_mod,Nat.mod_eq_of_lt hj]
theorem UD {s:Sit} {sz:Nat} {xs:List (List AV)} {v:Value} (hsz:0<sz) (h:VR s (.list sz xs) v) (h1:∀ r∈xs,jF r=true) :
    (v=.slice none 0 0/\xs=[])\/∃ (ad:Addr) (cap:Nat) (news:List Value),v=.slice (some ad) xs.length cap/\news.length=xs.length*sz/\(∀ (j:Nat) (u:Value),news[j]?=some u->s.w.cell? (ad.add j)=some u) /\
      (∀ u∈news,u.oneCell'=true)/\(∀ r∈xs,r.length=sz)/\∀ (i:Nat) (r:List AV) (j:Nat) (x:AV) (u:Value),xs[i]?=some r->r[j]?=some x->news[i*sz+j]?=some u->VR s x u:=by
  cases h with
  | nil=>exact .inl ⟨rfl,rfl⟩
  | emp _ ad=>exact .inr ⟨ad,0,[],rfl,by simp,by simp,by simp,by simp,by simp⟩
  | list f hI hc hm hr hf hv =>
    rename_i b off cap
    refine .inr ⟨⟨b,off,none⟩,cap,(List.range (xs.length*sz)).map λk=>f (k / sz) (k % sz),rfl,by simp,λj u hu=>?_,λu hu=>?_,λr hr'=>?_,λi r j x u h1' h2 hu=>?_⟩
    · have hj:j<xs.length*sz:=by have:=(List.getElem?_eq_some_iff.1 hu).1;simpa using this
      have hd:j / sz<xs.length:=Nat.div_lt_of_lt_mul (by rw [Nat.mul_comm];exact hj)
      have hmd:j % sz<sz:=Nat.mod_lt _ hsz
      have hxl:xs[j / sz].length=sz:=hr (j / sz) _ (List.getElem?_eq_getElem hd)
      have:=hf (j / sz) xs[j / sz] (j % sz) (xs[j / sz][j % sz]'(by omega)) (List.getElem?_eq_getElem hd) (List.getElem?_eq_getElem (by omega))
      simp only [List.getElem?_map,List.getElem?_range hj,Option.map_some,Option.some.injEq] at hu
      subst hu
      rw [addr_add,<- this]
      congr 2
      have:=Nat.div_add_mod j sz
      rw [Nat.mul_comm] at this;omega
    · obtain ⟨k,hk,rfl⟩:=List.mem_map.1 hu
      have hj:k<xs.length*sz:=by simpa using hk
      have hd:k / sz<xs.length:=Nat.div_lt_of_lt_mul (by rw [Nat.mul_comm];exact hj)
      have hmd:k % sz<sz:=Nat.mod_lt _ hsz
      have hxl:xs[k / sz].length=sz:=hr (k / sz) _ (List.getElem?_eq_getElem hd)
      have hx:=List.getElem?_eq_getElem (l:=xs[k / sz]) (i:=k % sz) (by omega)
      exact (hv (k / sz) xs[k / sz] (k % sz) _ (List.getElem?_eq_getElem hd) hx).one (E4 (h1 _ (List.getElem_mem hd)) _ _ hx)
    · obtain ⟨i,hi,rfl⟩:=List.mem_iff_getElem.1 hr'
      exact hr i _ (List.getElem?_eq_getElem hi)
    · have hi:=(List.getElem?_eq_some_iff.1 h1').1
      have hj:j<sz:=by have:=(List.getElem?_eq_some_iff.1 h2).1;rw [hr i r h1'] at this;exact this
      have hlt:i*sz+j<xs.length*sz:=by
        have:(i+1)*sz<=xs.length*sz:=Nat.mul_le_mul_right _ hi
        rw [Nat.add_mul] at this;omega
      obtain ⟨d1,d2⟩:=ZU (i:=i) hj
      simp only [List.getElem?_map,List.getElem?_range hlt,Option.map_some,Option.some.injEq,d1,d2] at hu
      subst hu
      exact hv i r j x h1' h2
theorem kU {α:Type} {a b:List α} {i:Nat} {r:α} (h:(a++b)[i]?=some r):(i<a.length/\a[i]?=some r)\/(a.length<=i/\b[i-a.length]?=some r):=by
  by_cases hi:i<a.length
  · rw [List.getElem?_append_left hi] at h;exact .inl ⟨hi,h⟩
  · rw [List.getElem?_append_right (by omega)] at h;exact .inr ⟨by omega,h⟩
theorem tT {F U V:Nat->Prop} {e:TypeId} {sz by':Nat} {zs:List Value} {id aD k:Nat} {ob:aW} {p:AV} {news:List (List AV)} (hp:nY F U V)
    (ho:o.op=.call { callee:=.builtin .append,args:=#[x,y],argTypes:=#[T,T] }) (hT:P.underlying T=some (.slice e)) (hz:iW P e=some (sz,zs)) (hby:jK P e=some by')
    (hx:S.ev x=some (.sl id aD 0 k)) (hy:S.ev y=some p) (hob:S.hp id=some ob) (bP:ob.aD=aD) (hmt:ob.mt=true) (happ:ob.app=true) (hel:ob.elem=e) (hosz:ob.sz=sz) (hk:ob.rows.length=k)
    (hcv:Cv S.hp p (.list sz news)) (h1:∀ r∈news,jF r=true) (hfit:(k+news.length)*by'<=140737488355328) (hmax:k+news.length<=9223372036854775807) :
    bW P o S F U (λz H'=>∃ ver',V ver'/\z=.sl id ver' 0 (k+news.length)/\H'=upd S.hp id (some { ob with aD:=ver',rows:=ob.rows++news })):=by
  intro s a next Q hH hops hF hn
  obtain ⟨ver',hV,hU,hun⟩:=hp.get hH hF
  obtain ⟨i,hi,hsz,hzo,hzl,hpos,hzone⟩:=uE hz
  have hiz:∃ z,i.zero=some z/\z.cells.toList=zs:=by
    unfold zeroOf at hzo;rw [hi] at hzo
    simp only [Option.bind_some] at hzo
    cases hz:i.zero with
    | none=>rw [hz] at hzo;cases hzo
    | some z=>rw [hz] at hzo;exact ⟨z,rfl,by simpa using hzo⟩
  obtain ⟨z,hz1,hz2⟩:=hiz
  have hzc:z.cells.size=sz:=by rw [<- Array.length_toList,hz2,hzl]
  have hib:i.bytes=by':=by unfold jK at hby;rw [hi] at hby;simpa using hby
  have hxv:=hops x (by simp [ho,Op.operands,Call.operands]) _ hx
  have hyv:=hcv s hH _ (hops y (by simp [ho,Op.operands,Call.operands]) _ hy)
  obtain ⟨m,hm⟩:=hH.obj id ob hob
  generalize hux:a.eval x=ux at hxv
  generalize huy:a.eval y=uy at hyv
  cases hxv with
  | sl hk0 hone hh =>
    have hh:=hh m hm.hm (hm.bP.trans bP)
    have run:∀ {w':World} {r:Value},(Builtin.append_ #[T,T] o.type #[ux,uy]).run P s.w=.ok r w'->(execOp a.eval o).run P s.w=.ok (.value r) w':=λh=>by
      simp only [execOp,ho,resolve,invoke,builtin,List.map_toArray,List.map_cons,List.map_nil,Sem.run_bind,Sem.run_pure,Result.andThen_ok,hux,huy,h]
    rcases UD hpos hyv h1 with ⟨hy0,hnil⟩ | ⟨ad,cap,nv,hy0,hnl,hnc,hn1,hrl,hnv⟩
    · -- nothing is appended
      subst hnil
      have hrun:(Builtin.append_ #[T,T] o.type #[ux,uy]).run P s.w=.ok ux s.w:=by
        rw [hy0]
        rcases hm.body with ⟨hn',_⟩ | ⟨cur,fr,hb⟩
        · obtain ⟨q1,q2⟩:=hh.1 hn'
          rw [q1];simp [Builtin.append_,run_underlying hT,sizeOf,typeInfo,hi,Builtin.lenOf,Builtin.firstCells]
        · obtain ⟨cap,q1,q2,q3⟩:=hh.2 hb.hnil
          rw [q1];simp [Builtin.append_,run_underlying hT,sizeOf,typeInfo,hi,Builtin.lenOf,Builtin.firstCells,q2,storeCells]
      have hrows:({ ob with aD:=ver',rows:=ob.rows++[] }:aW)={ ob with aD:=ver' }:=by simp
      rcases hm.body with ⟨hn',hr0⟩ | ⟨cur,fr,hb⟩
      · obtain ⟨q1,q2⟩:=hh.1 hn'
        obtain ⟨s',g1,g2,g3,g4,g5⟩:=qW hH id { ob with aD:=ver' } hun hr0 (.inr ⟨m,hm.hm,hn'⟩)
        refine jM (w':=s'.w) (by rw [g1];exact run hrun) (hn s' _ (.sl id ver' 0 (k+0)) _ ⟨ver',hV,rfl,by rw [hrows]⟩ ?_ g4 g5 λj hj=>?_)
        · refine .sl (by rw [g2];exact .inr rfl) (by rw [q1];rfl) λm' hm' _=>?_
          rw [g3] at hm';cases hm'
          exact ⟨λ_=>⟨q1,by omega⟩,λh=>by cases h⟩
        · rw [g2] at hj;rcases hj with h | h;exact .inl h;exact .inr (h ▸ hU)
      · obtain ⟨cap,q1,q2,q3⟩:=hh.2 hb.hnil
        obtain ⟨s',g1,g2,g3,g4,g5⟩:=qZ hH id { ob with aD:=ver' } m.b m.ct cur s.w rfl rfl rfl (Nat.le_refl _) (λ_ _ _=>rfl) (by rw [hb.hb,hb.happ happ]) (.inr ⟨ob,m,hob,hmt,hm.hm,hb.hnil,rfl⟩) hun hmt hb.hcs hb.hct hb.hlen hb.hr hb.hv hb.h1
        refine jM (w':=s'.w) (by rw [g1];exact run hrun) (hn s' _ (.sl id ver' 0 (k+0)) _ ⟨ver',hV,rfl,by rw [hrows]⟩ ?_ g4 g5 λj hj=>?_)
        · refine .sl (by rw [g2];exact .inr rfl) (by rw [q1];rfl) λm' hm' _=>?_
          rw [g3] at hm';cases hm'
          exact ⟨λh=>(by cases h),λ_=>⟨cap,by rw [q1,Nat.zero_mul,Nat.zero_mul];rfl,by simpa using q2,by simpa using q3⟩⟩
        · rw [g2] at hj;rcases hj with h | h;exact .inl h;exact .inr (h ▸ hU)
    · -- something is
      have hnl':nv.length=news.length*i.size:=by rw [hnl,hsz]
      have fin:∀ (g ct:Nat) (cur':Array Value) (w':World) (cap':Nat),w'.os=s.w.os->w'.tape=s.w.tape->w'.output=s.w.output->s.w.heap.size<=w'.heap.size ->
          (∀ j,j<s.w.heap.size->j≠g->w'.heap[j]?=s.w.heap[j]?)->w'.heap[g]?=some (.cells cur' e (0,0))->(s.w.heap.size<=g\/∃ o0 m0,S.hp id=some o0/\o0.mt=true/\s.mu id=some m0/\m0.nil=false/\m0.b=g) ->
          cur'.size=ct*sz->ct<=maxLen->k+news.length<=cap'->cap'<=ct ->
          (∀ (i:Nat) (r:List AV) (j:Nat) (x:AV) (v:Value),(ob.rows++news)[i]?=some r->r[j]?=some x->cur'[i*sz+j]?=some v->VR s x v) ->
          (∀ (j:Nat) (v:Value),cur'[j]?=some v->v.oneCell'=true) ->
          (Builtin.append_ #[T,T] o.type #[ux,uy]).run P s.w=.ok (.slice (some ⟨g,0,none⟩) (k+news.length) cap') w'->o.wp P a s.w next Q:=by
        intro g ct cur' w' cap' a1 a2 a3 a4 a5 a6 a7 a8 a9 nQ oK a12 rZ hrun
        have hrowl:∀ (i:Nat) (r:List AV),(ob.rows++news)[i]?=some r->r.length=sz:=λi r hr=>by
          rcases kU hr with ⟨_,h⟩ | ⟨_,h⟩
          · rcases hm.body with ⟨_,h0⟩ | ⟨_,_,hb⟩
            · rw [h0] at h;simp at h
            · rw [<- hosz];exact hb.hr i r h
          · exact hrl r (List.mem_of_getElem? h)
        obtain ⟨s',g1,g2,g3,g4,g5⟩:=qZ hH id { ob with aD:=ver',rows:=ob.rows++news } g ct cur' w' a1 a2 a3 a4 a5 (by rw [a6];simp [hel]) a7 hun hmt (by simpa [hosz] using a8) a9 (by simp only [List.length_append];omega)
          (by simpa [hosz] using hrowl) (by simpa [hosz] using a12) rZ
        refine jM (w':=s'.w) (by rw [g1];exact run hrun) (hn s' _ (.sl id ver' 0 (k+news.length)) _ ⟨ver',hV,rfl,rfl⟩ ?_ g4 g5 λj hj=>?_)
        · refine .sl (by rw [g2];exact .inr rfl) rfl λm' hm' _=>?_
          rw [g3] at hm';cases hm'
          exact ⟨λh=>(by cases h),λ_=>⟨cap',by rw [Nat.zero_mul],nQ,by simpa using oK⟩⟩
        · rw [g2] at hj;rcases hj with h | h;exact .inl h;exact .inr (h ▸ hU)
      have hzcells:∀ (q:Nat) (j:Nat) (v:Value),(Builtin.zeroCells z.cells q)[j]?=some v->v.oneCell'=true:=λq j v hv=>by
        simp only [Builtin.zeroCells,Array.getElem?_map] at hv
        obtain ⟨jj,hjj,rfl⟩:=Option.map_eq_some_iff.1 hv
        have hm':jj % z.cells.size<z.cells.size:=Nat.mod_lt _ (by omega)
        rw [getElem!_pos z.cells _ hm']
        exact qY hzone (jj % z.cells.size) _ (by rw [<- hz2,Array.getElem?_toList];simp [hm'])
      have cells:∀ (olds tail:List Value),olds.length=k*sz->(∀ (i:Nat) (r:List AV) (j:Nat) (x:AV) (v:Value),ob.rows[i]?=some r->r[j]?=some x->olds[i*sz+j]?=some v->VR s x v) ->
          ∀ (i:Nat) (r:List AV) (j:Nat) (x:AV) (v:Value),(ob.rows++news)[i]?=some r->r[j]?=some x->(olds++nv++tail)[i*sz+j]?=some v->VR s x v:=by
        intro olds tail ho1 ho2 i r j x v hr hxx hv
        rcases kU hr with ⟨hi1,h⟩ | ⟨hi1,h⟩
        · have hj:j<sz:=by
            have:=(List.getElem?_eq_some_iff.1 hxx).1
            rcases hm.body with ⟨_,h0⟩ | ⟨_,_,hb⟩
            · rw [h0] at h;simp at h
            · rw [hb.hr i r h,hosz] at this;exact this
          have hlt:i*sz+j<k*sz:=by
            have:(i+1)*sz<=k*sz:=Nat.mul_le_mul_right _ (by omega)
            rw [Nat.add_mul] at this;omega
          rw [List.append_assoc,List.getElem?_append_left (by omega)] at hv
          exact ho2 i r j x v h hxx hv
        · have hj:j<sz:=by have:=(List.getElem?_eq_some_iff.1 hxx).1;rw [hrl r (List.mem_of_getElem? h)] at this;exact this
          have hi2:=(List.getElem?_eq_some_iff.1 h).1
          have hsub:i*sz+j-k*sz=(i-ob.rows.length)*sz+j:=by
            rw [hk,Nat.sub_mul]
            have:k*sz<=i*sz:=Nat.mul_le_mul_right _ (by omega)
            omega
          have hge:k*sz<=i*sz+j:=by
            have:k*sz<=i*sz:=Nat.mul_le_mul_right _ (by omega)
            omega
          have hlt:(i-ob.rows.length)*sz+j<nv.length:=by
            rw [hnl]
            have:(i-ob.rows.length+1)*sz<=news.length*sz:=Nat.mul_le_mul_right _ (by omega)
            rw [Nat.add_mul] at this;omega
          rw [List.append_assoc,List.getElem?_append_right (by omega),ho1,hsub,List.getElem?_append_left hlt] at hv
          exact hnv _ r j x v h hxx hv
      rcases hm.body with ⟨hn',hr0⟩ | ⟨cur,fr,hb⟩
      · -- the nil slice
        obtain ⟨q1,q2⟩:=hh.1 hn'
        subst q2
        by_cases hz0:news.length=0
        · have hnews:news=[]:=List.eq_nil_of_length_eq_zero hz0
          have hrun:(Builtin.append_ #[T,T] o.type #[ux,uy]).run P s.w=.ok ux s.w:=by
            rw [hy0,q1,hz0];simp [Builtin.append_,run_underlying hT,sizeOf,typeInfo,hi,Builtin.lenOf,Builtin.firstCells,loadCells,loadCellsFrom]
          obtain ⟨s',g1,g2,g3,g4,g5⟩:=qW hH id { ob with aD:=ver' } hun hr0 (.inr ⟨m,hm.hm,hn'⟩)
          refine jM (w':=s'.w) (by rw [g1];exact run hrun) (hn s' _ (.sl id ver' 0 (0+news.length)) _ ⟨ver',hV,rfl,by rw [hnews];simp⟩ ?_ g4 g5 λj hj=>?_)
          · refine .sl (by rw [g2];exact .inr rfl) (by rw [q1];rfl) λm' hm' _=>?_
            rw [g3] at hm';cases hm'
            exact ⟨λ_=>⟨q1,by omega⟩,λh=>by cases h⟩
          · rw [g2] at hj;rcases hj with h | h;exact .inl h;exact .inr (h ▸ hU)
        · have hrun:=run_append_nil (P:=P) s.w T o.type e i z hT hi hz1 ad news.length cap nv hnl' hnc (by omega) (by omega) (by rw [hib];simp at hfit;omega)
          have hge:=grownCap_ge s.w news.length 0 e
          refine fin s.w.heap.size (grownCap s.w news.length 0 e) _ (s.w.drew.alloc (.cells (nv.toArray++Builtin.zeroCells z.cells (grownCap s.w news.length 0 e-news.length)) e)) (grownCap s.w news.length 0 e) rfl rfl rfl (by simp) (λj hj _=>alloc_old s.w.drew _ j hj) (mZ s.w.drew _) (.inl (Nat.le_refl _)) ?_ (grownCap_le_maxLen _ _ _ _ (by simp only [maxLen];omega)) (by omega) (Nat.le_refl _) ?_ ?_ (by rw [q1,hy0,hrun];simp)
          · rw [Array.size_append,List.size_toArray,size_zeroCells,hzc,hnl,<- Nat.add_mul];congr 1;omega
          · intro i r j x v hr hxx hv
            refine cells [] (Builtin.zeroCells z.cells (grownCap s.w news.length 0 e-news.length)).toList (by simp) (λi r j x v h=>by rw [hr0] at h;simp at h) i r j x v hr hxx ?_
            rw [<- hv,<- Array.getElem?_toList];simp
          · intro j v hv
            rw [<- Array.getElem?_toList,Array.toList_append] at hv
            rcases kU hv with ⟨_,h⟩ | ⟨_,h⟩
            · exact hn1 v (List.mem_of_getElem? h)
            · exact hzcells _ _ v (by rw [<- Array.getElem?_toList];exact h)
      · obtain ⟨cp,q1,q2,q3⟩:=hh.2 hb.hnil
        rw [Nat.zero_mul] at q1
        simp only [Nat.zero_add] at q3
        have hcur:cur.size=m.ct*sz:=by rw [hb.hcs,hosz]
        have hkc:k*sz<=cur.size:=by rw [hcur];exact Nat.mul_le_mul_right _ (by have:=hb.hlen;omega)
        have holdv:∀ (i:Nat) (r:List AV) (j:Nat) (x:AV) (v:Value),ob.rows[i]?=some r->r[j]?=some x->(cur.toList.take (k*sz))[i*sz+j]?=some v->VR s x v:=λi r j x v h1' h2 h3=>by
          have hlt:i*sz+j<k*sz:=by have:=(List.getElem?_eq_some_iff.1 h3).1;simp at this;omega
          rw [List.getElem?_take_of_lt hlt,Array.getElem?_toList] at h3
          exact hb.hv i r j x v h1' h2 (by rw [hosz];exact h3)
        have hheap:s.w.heap[m.b]?=some (.cells cur e (0,0)):=by rw [hb.hb,hb.happ happ,hel]
        by_cases hroom:k+news.length<=cp
        · have hfits:k*i.size+nv.length<=cur.size:=by
            rw [hsz,hnl,<- Nat.add_mul,hcur];exact Nat.mul_le_mul_right _ (by omega)
          have hrun:=run_append_room (P:=P) s.w T o.type e i hT hi m.b k cp cur hheap ad news.length cap nv hnl' hnc hn1 hroom hfits
          rw [hsz] at hrun hfits
          refine fin m.b m.ct _ (s.w.setRow m.b (cur.toList.take (k*sz)++nv++cur.toList.drop (k*sz+nv.length)).toArray) cp rfl rfl rfl (by simp) (λj hj hne=>setRow_other s.w m.b j _ hne) (setRow_heap s.w m.b cur _ e (0,0) hheap) (.inr ⟨ob,m,hob,hmt,hm.hm,hb.hnil,rfl⟩) ?_ hb.hct (by omega) (by omega) ?_ ?_ (by rw [q1,hy0,hrun])
          · rw [List.size_toArray,<- hcur];simp only [List.length_append,List.length_take,List.length_drop,Array.length_toList];omega
          · intro i r j x v hr hxx hv
            exact cells (cur.toList.take (k*sz)) _ (by simp;omega) holdv i r j x v hr hxx (by rw [<- hv,List.getElem?_toArray])
          · intro j v hv
            rw [List.getElem?_toArray] at hv
            rcases kU hv with ⟨_,h⟩ | ⟨_,h⟩
            · rcases kU h with ⟨_,h⟩ | ⟨_,h⟩
              · have hlt:j<k*sz:=by have:=(List.getElem?_eq_some_iff.1 h).1;simp at this;omega
                rw [List.getElem?_take_of_lt hlt,Array.getElem?_toList] at h
                exact hb.h1 _ v h
              · exact hn1 v (List.mem_of_getElem? h)
            · rw [List.getElem?_drop,Array.getElem?_toList] at h
              exact hb.h1 _ v h
        · have hrun := run_append_grow (P := P) s.w T o.type e i z hT hi hz1 ⟨m.b, 0, none⟩ k cp (cur.toList.take (k * sz)) (by rw [hsz]; simp; omega) (λj v hv => by
              rw [addr_add,rX hheap,Nat.zero_add]
              have hlt:j<k*sz:=by have:=(List.getElem?_eq_some_iff.1 hv).1;simp at this;omega
              rw [List.getElem?_take_of_lt hlt,Array.getElem?_toList] at hv;exact hv)
            ad news.length cap nv hnl' hnc (by omega) (by omega) (growslice_fits (by omega) (by rw [hib];exact hfit))
          have hge:=grownCap_ge s.w (k+news.length) cp e
          refine fin s.w.heap.size (grownCap s.w (k+news.length) cp e) _ (s.w.drew.alloc (.cells ((cur.toList.take (k*sz)).toArray++nv.toArray++Builtin.zeroCells z.cells (grownCap s.w (k+news.length) cp e-(k+news.length))) e)) (grownCap s.w (k+news.length) cp e) rfl rfl rfl (by simp) (λj hj _=>alloc_old s.w.drew _ j hj) (mZ s.w.drew _) (.inl (Nat.le_refl _)) ?_ (grownCap_le_maxLen _ _ _ _ (by simp only [maxLen];omega)) (by omega) (Nat.le_refl _) ?_ ?_ (by rw [q1,hy0,hrun])
          · rw [Array.size_append,Array.size_append,List.size_toArray,List.size_toArray,size_zeroCells,hzc,hnl]
            have:(cur.toList.take (k*sz)).length=k*sz:=by simp;omega
            rw [this,<- Nat.add_mul,<- Nat.add_mul];congr 1;omega
          · intro i r j x v hr hxx hv
            refine cells (cur.toList.take (k*sz)) (Builtin.zeroCells z.cells (grownCap s.w (k+news.length) cp e-(k+news.length))).toList (by simp;omega) holdv i r j x v hr hxx ?_
            rw [<- hv,<- Array.getElem?_toList];simp
          · intro j v hv
            rw [<- Array.getElem?_toList,Array.toList_append,Array.toList_append] at hv
            rcases kU hv with ⟨_,h⟩ | ⟨_,h⟩
            · rcases kU h with ⟨_,h⟩ | ⟨_,h⟩
              · have hlt:j<k*sz:=by have:=(List.getElem?_eq_some_iff.1 h).1;simp at this;omega
                simp only at h
                rw [List.getElem?_take_of_lt hlt,Array.getElem?_toList] at h
                exact hb.h1 _ v h
              · exact hn1 v (List.mem_of_getElem? h)
            · exact hzcells _ _ v (by rw [<- Array.getElem?_toList];exact h)
end
end Go.Pv
