import Derived.Test.YtimkkeehkhkhcaaGreatPvV
import Derived.WalkSpells
import Derived.Laws.StructEq
import Derived.ChangeKeysEq
set_option linter.unusedVariables false
set_option linter.unusedSimpArgs false
namespace Go.Pv
section
variable {P:Program} {n:NT} {S:AS} {o:Oper} {T:TypeId} {x y:Operand} {α:Type}
theorem aHY {s:Sit} {H:AH} (hH:HR s H) (id:Nat) {ob:aW} {rows:List (List AV)} (ho:H id=some ob) (hl:ob.rows.length=rows.length)
    (hr:∀ (i:Nat) (r':List AV),rows[i]?=some r'->∃ r,ob.rows[i]?=some r/\r.length=r'.length/\∀ (j:Nat) (x':AV),r'[j]?=some x'->∃ x,r[j]?=some x/\∀ v,VR s x v->VR s x' v) :
    HR s (upd H id (some { ob with rows:=rows })):=by
  refine ⟨λi o' ho'=>?_,λi i' o1 o2 m m' h1 h2=>?_,hH.im,hH.fin⟩
  · by_cases hi:i=id
    · subst hi
      rw [upd_same] at ho';cases ho'
      obtain ⟨m,hm⟩:=hH.obj i ob ho
      refine ⟨m,⟨hm.hm,hm.bP,hm.hsz,hm.hk,?_⟩⟩
      rcases hm.body with ⟨a,b⟩ | ⟨cur,fr,hb⟩
      · rw [b] at hl;exact .inl ⟨a,List.eq_nil_of_length_eq_zero (by simpa using hl.symm)⟩
      · refine .inr ⟨cur,fr,⟨hb.hnil,hb.hb,hb.hfr,hb.happ,hb.hcs,hb.hct,by show rows.length<=_;rw [<- hl];exact hb.hlen,λk r' h=>?_,λk r' j x' v h1 h2 h3=>?_,hb.h1,hb.him,hb.jI⟩⟩
        · obtain ⟨r,g1,g2,_⟩:=hr k r' h;rw [<- g2];exact hb.hr k r g1
        · obtain ⟨r,g1,g2,g3⟩:=hr k r' h1
          obtain ⟨z,g4,g5⟩:=g3 j x' h2
          exact g5 v (hb.hv k r j z v g1 g4 h3)
    · rw [upd_ne _ _ hi] at ho';exact hH.obj i o' ho'
  · have conv:∀ i o',upd H id (some { ob with rows:=rows }) i=some o'->∃ o'',H i=some o'':=by
      intro i o' h
      by_cases hi:i=id
      · subst hi;exact ⟨ob,ho⟩
      · rw [upd_ne _ _ hi] at h;exact ⟨o',h⟩
    obtain ⟨o1',g1⟩:=conv i o1 h1
    obtain ⟨o2',g2⟩:=conv i' o2 h2
    exact hH.jQ i i' o1' o2' m m' g1 g2
theorem aFY {c:Code} {cs:List Code} {f:Nat->Option AV} {hp:AH} {Q:Go.Exit->AS->Prop} (id0 row j id:Nat) (e:TypeId) (sz:Nat) {ob:aW} {r:List AV} {rows:Nat->List (List AV)} (hob:hp id0=some ob) (hr:ob.rows[row]?=some r)
    (hj:r[j]?=some (.sc (.slice none 0 0))) (hid:hp id=none) (hrows:∀ aD,rows aD=ob.rows.set row (r.set j (.sl id aD 0 0)))
    (h1:∀ aD,dI P n Q (c :: cs) ⟨f,upd (upd hp id (some ⟨e,sz,true,true,aD,[]⟩)) id0 (some { ob with rows:=rows aD })⟩):dI P n Q (c :: cs) ⟨f,hp⟩:=by
  intro s a hs
  obtain ⟨C,hC⟩:=hs.heap.fin
  obtain ⟨s',g1,g2,g3,g4,g5⟩:=qW hs.heap id ⟨e,sz,true,true,C,[]⟩ (hC C (Nat.le_refl _)) rfl (.inl hid)
  have hne:id0≠id:=λh=>by rw [h,hid] at hob;cases hob
  have hrow:row<ob.rows.length:=(List.getElem?_eq_some_iff.1 hr).1
  have hjl:j<r.length:=(List.getElem?_eq_some_iff.1 hj).1
  have g6:HR s' (upd (upd hp id (some (⟨e,sz,true,true,C,[]⟩:aW))) id0 (some { ob with rows:=rows C })):=by
    refine aHY g4 id0 ((upd_ne _ _ hne).trans hob) (by rw [hrows,List.length_set]) λi r' hi=>?_
    rw [hrows] at hi
    by_cases hir:i=row
    · subst hir
      rw [List.getElem?_set_self hrow] at hi;cases hi
      refine ⟨r,hr,by rw [List.length_set],λq x' hx=>?_⟩
      by_cases hq:q=j
      · subst hq
        rw [List.getElem?_set_self hjl] at hx;cases hx
        refine ⟨_,hj,λv hv=>?_⟩
        rw [hv.gJ]
        refine .sl (by rw [g2];exact .inr rfl) rfl λm hm _=>?_
        rw [g3] at hm;cases hm
        exact ⟨λ_=>⟨rfl,rfl⟩,λh=>by cases h⟩
      · rw [List.getElem?_set_ne (Ne.symm hq)] at hx;exact ⟨x',hx,λ_ h=>h⟩
    · rw [List.getElem?_set_ne (Ne.symm hir)] at hi;exact ⟨r',hi,rfl,λq x' hx=>⟨x',hx,λ_ h=>h⟩⟩
  have hfr:Fr s hp s' (upd (upd hp id (some (⟨e,sz,true,true,C,[]⟩:aW))) id0 (some { ob with rows:=rows C })) :=
    ⟨g5.os,g5.tape,g5.output,g5.size,g5.keep,g5.j5,g5.j4,λb hb ⟨i,o',m,q1,q2,q3⟩=>g5.own b hb (by
      by_cases hi:i=id0
      · subst hi;rw [upd_same] at q1;cases q1;exact ⟨i,ob,m,(upd_ne _ _ hne).trans hob,q2,q3⟩
      · rw [upd_ne _ _ hi] at q1;exact ⟨i,o',m,q1,q2,q3⟩),g5.vals,g5.lY⟩
  have:=h1 C s' a ⟨hs.size,hs.defers,λt x hx=>let ⟨v,a,b⟩:=hs.slot t x hx;⟨v,a,g5.vals _ _ b⟩,g6⟩
  rw [g1] at this
  refine kJ this ?_
  rintro e a' w' ⟨S2,s2,q1,q2,q3,q4⟩
  exact ⟨S2,s2,q1,q2,q3,hfr.trans q4⟩
theorem aEQ {e:TypeId} {sz:Nat} {xs:List (List AV)} {Ty:TypeId} (ho:o.op=.binOp .eql T x y Ty) (hT:P.underlying T=some (.slice e)) (hx:S.ev x=some (.list sz xs)) (hy:S.ev y=some (.sc (.slice none 0 0))) :
    bW P o S no no (λz H'=>∃ b,z=aA b/\(b=true->xs=[])/\H'=S.hp):=by
  intro s a next Q hH hops _ hn
  have hxv:=hops x (by simp [ho,Op.operands]) _ hx
  have hyv:=(hops y (by simp [ho,Op.operands]) _ hy).gJ
  generalize hu:a.eval x=u at hxv
  have key:∀ (ad:Option Addr) (k c:Nat) (w:World),(Op.equal T (.slice ad k c) (.slice none 0 0)).run P w=.ok ad.isNone w:=λad k c w=>by
    simp [Op.equal,Op.maxDepth,Lib.run_equalIn_slice_nil w 9999 T e ad k c 0 0 hT]
  cases hxv with
  | nil =>
    refine jM (w':=s.w) (v:=.bool true) ?_ (hn s _ _ _ ⟨true,rfl,λ_=>rfl,rfl⟩ (.sc _) hH (Fr.refl _ _) λ_ h=>.inl h)
    simp [execOp,ho,hu,hyv,eqGuard,binOp,key]
  | emp _ ad =>
    refine jM (w':=s.w) (v:=.bool false) ?_ (hn s _ _ _ ⟨false,rfl,λh=>(by cases h),rfl⟩ (.sc _) hH (Fr.refl _ _) λ_ h=>.inl h)
    simp [execOp,ho,hu,hyv,eqGuard,binOp,key]
  | list f hI hc hm hr hf hv =>
    refine jM (w':=s.w) (v:=.bool false) ?_ (hn s _ _ _ ⟨false,rfl,λh=>(by cases h),rfl⟩ (.sc _) hH (Fr.refl _ _) λ_ h=>.inl h)
    simp [execOp,ho,hu,hyv,eqGuard,binOp,key]
theorem aAE {F U V:Nat->Prop} {e:TypeId} {sz N:Nat} {zs:List Value} {ps:List (Nat×Operand)} {vs:List AV} (id:Nat) (rows:List (List AV)) (hp:nY F U V) (ho:o.op=.buildSlice T N ps.toArray) (hT:P.underlying T=some (.slice e)) (hz:iW P e=some (sz,zs))
    (he:EvL S (ps.map (·.2)) vs) (hf:pE (λi=>some (i*sz,sz)) (pY zs N) ((ps.map (·.1)).zip vs)=some rows.flatten) (hN:Nat.ble (N*sz) 16777216=true) (hr:(rows.all λr=>Nat.beq r.length sz)=true) (hrl:rows.length=N) :
    bW P o S F U (λz H'=>∃ aD,V aD/\z=.sl id aD 0 N/\H'=upd S.hp id (some ⟨e,sz,true,true,aD,rows⟩)):=by
  intro s a next Q hH hops hF hn
  obtain ⟨ver',hV,hU,hun⟩:=hp.get hH hF
  obtain ⟨i,hi,hsz,hzo,hzl,hpos,h1⟩:=uE hz
  obtain ⟨z,hz1,hz2⟩:=uY hzo s.w
  have hzc:z.cells.size=sz:=by rw [<- Array.length_toList,hz1,hzl]
  have hN':=Nat.le_of_ble_eq_true hN
  have hrr:∀ r∈rows,r.length=sz:=λr hr'=>by rw [List.all_eq_true] at hr;exact Nat.eq_of_beq_eq_true (hr r hr')
  obtain ⟨a1,a2⟩:=he.val (s:=s) (ρ:=a.eval) λq hq=>hops q (by simp only [ho,Op.operands];simpa using hq)
  let z0:Array Value:=(Array.range (N*sz)).map (z.cells[· % z.cells.size]!)
  have hc0:CR s (pY zs N) z0:=by
    have hget:∀ k,k<N*sz->z0[k]?=zs[k % sz]?:=λk hk=>by
      have hm:k % sz<sz:=Nat.mod_lt _ hpos
      simp only [z0,Array.getElem?_map,Array.getElem?_range,hk,if_true,Option.map_some,hzc]
      rw [<- hz1,Array.getElem?_toList]
      rw [getElem!_pos z.cells (k % sz) (by omega),Array.getElem?_eq_getElem (by omega)]
    have hsize:z0.size=N*sz:=by simp [z0]
    refine ⟨by rw [hsize,I6,hzl],λk x v h1' h2=>?_,λk v h2=>?_⟩
    · have hk:k<N*sz:=by have:=(Array.getElem?_eq_some_iff.1 h2).1;omega
      rw [hget k hk] at h2
      rw [FU zs (by omega) N k (by rw [hzl];exact hk),hzl,h2] at h1'
      simp at h1';subst h1';exact .sc _
    · have hk:k<N*sz:=by have:=(Array.getElem?_eq_some_iff.1 h2).1;omega
      rw [hget k hk] at h2
      exact qY h1 _ _ h2
  obtain ⟨cells',g1,g2⟩:=CR.fill (place:=λi=>some (i*sz,sz)) (ρ:=a.eval) ps vs _ rows.flatten z0 (by simpa using a1) (by simpa [Function.comp_def] using a2) hc0 hf
  have hfl:rows.flatten.length=N*sz:=by
    rw [List.length_flatten,<- hrl]
    clear hf g1 g2 hc0 hrl a1 a2 he hn
    induction rows with
    | nil=>simp
    | cons r rs ih=>simp only [List.map_cons,List.sum_cons,List.length_cons,Nat.add_mul];rw [ih (by simp only [List.all_cons,Bool.and_eq_true] at hr;exact hr.2) (λr hr'=>hrr r (List.mem_cons_of_mem _ hr')),hrr _ (List.mem_cons_self ..)];omega
  have hlen:N<=maxLen:=by
    have:N*1<=N*sz:=Nat.mul_le_mul_left _ hpos
    simp only [maxLen];omega
  obtain ⟨s',e1,e2,e3,e4,e5⟩:=qZ hH id ⟨e,sz,true,true,ver',rows⟩ s.w.heap.size N cells' (s.w.alloc (.cells cells' e)) rfl rfl rfl (by simp)
    (λk hk _=>alloc_old s.w _ k hk) (mZ s.w _) (.inl (Nat.le_refl _)) hun rfl (by rw [g2.1,hfl]) hlen (by simp [hrl]) (λi r hr'=>hrr r (List.mem_of_getElem? hr'))
    (λi r j x v h1' h2 h3=>by
      have hfx:=flat_get hrr i j r x h1' h2
      exact g2.2.1 _ x v hfx h3)
    (λk v hv=>g2.2.2 k v hv)
  refine jM (w':=s'.w) (v:=.slice (some ⟨s.w.heap.size,0,none⟩) N N) ?_ (hn s' _ (.sl id ver' 0 N) _ ⟨ver',hV,rfl,rfl⟩ ?_ e4 e5 λk hk=>?_)
  · rw [e1]
    have hsz':(sizeOf e).run P s.w=.ok sz s.w:=by simp [sizeOf,typeInfo,program,Sem.run,hi,hsz]
    have hbig:¬ (N*sz>2 ^ 24):=by omega
    have g1':Instr.fill (λi=>some (i*sz,sz)) z0 (ps.map λ(i,x)=>(i,a.eval x))=some cells':=g1
    by_cases h0:N*sz=0
    · have hzz:(Array.range 0).map ((#[]:Array Value)[· % (#[]:Array Value).size]!)=z0:=by simp [z0,h0]
      simp only [execOp,ho,Instr.buildSlice,Sem.run_bind,run_underlying hT,hsz',Result.andThen_ok,h0,if_true,Sem.run_pure,List.map_toArray]
      rw [if_neg (by simp)]
      simp only [Sem.run_bind,Sem.run_pure,Result.andThen_ok,hzz,g1',newRow,newObj,Sem.run]
      rfl
    · simp only [execOp,ho,Instr.buildSlice,Sem.run_bind,run_underlying hT,hsz',Result.andThen_ok,h0,hbig,if_false,Sem.run_pure,List.map_toArray,hz2]
      have hzz:(Array.range (N*sz)).map (z.cells[· % z.cells.size]!)=z0:=rfl
      simp only [hzz,g1',Sem.run_bind,newRow,newObj,Sem.run,Sem.run_pure]
      rfl
  · refine .sl (by rw [e2];exact .inr rfl) rfl λm hm _=>?_
    rw [e3] at hm;cases hm
    exact ⟨λh=>(by cases h),λ_=>⟨N,by simp,Nat.le_refl _,by simp⟩⟩
  · rw [e2] at hk;rcases hk with h | h;exact .inl h;exact .inr (h ▸ hU)
theorem zY {t:TypeId} {k:Nat} {b:Bool} (h:gF P t=some (k,b)) {s:Sit} {cs:List AV} {vs:Array Value} {off:Nat} {v:AV} (hl:cs.length=vs.size) (hv:∀ (i:Nat) (x:AV) (v:Value),cs[i]?=some x->vs[i]?=some v->VR s x v)
    (hx:jU k b (cs.drop off)=some v):∃ u,VR s v u/\(part t vs off).run P s.w=.ok u s.w:=by
  unfold part
  rw [Sem.run_bind,PX h]
  simp only [Result.andThen_ok]
  cases b with
  | false =>
    simp only [jU,Bool.false_eq_true,if_false] at hx ⊢
    rw [List.head?_drop] at hx
    have hlt:off<vs.size:=by rw [<- hl];exact (List.getElem?_eq_some_iff.1 hx).1
    refine ⟨vs[off],hv off v _ hx (by simp [hlt]),?_⟩
    simp [hlt]
  | true =>
    simp only [jU,if_true] at hx ⊢
    split at hx
    · rename_i hk
      cases hx
      rw [List.length_drop] at hk
      refine ⟨.agg (vs.extract off (off+k)),?_,by simp only [if_true,Sem.run_bind,mG h,Result.andThen_ok,Sem.run_pure]⟩
      refine .agg (by simp;omega) λi x u h1 h2=>?_
      have hi:i<k:=by have:=(List.getElem?_eq_some_iff.1 h1).1;simp at this;omega
      rw [List.getElem?_take_of_lt hi,List.getElem?_drop] at h1
      rw [Array.getElem?_extract] at h2
      split at h2
      · exact hv _ x u h1 h2
      · cases h2
    · simp at hx
theorem aF8 {f off T2 k:Nat} {b:Bool} {cs:List AV} {v:AV} (ho:o.op=.field T x f) (hp:BH P T f=some (off,T2)) (h2:gF P T2=some (k,b)) (hx:S.ev x=some (.agg cs)) (hv:jU k b (cs.drop off)=some v):bS P o S v :=
  iK λs ρ hH h=>by
    have hxv:=h x (by simp [ho,Op.operands]) _ hx
    generalize hu:ρ x=u at hxv
    cases hxv with
    | agg hl hh =>
      obtain ⟨u,g1,g2⟩:=zY h2 hl hh hv
      refine ⟨u,g1,?_⟩
      unfold BH at hp
      cases hd:P.underlying T with
      | none=>rw [hd] at hp;cases hp
      | some d =>
        rw [hd] at hp
        cases d with
        | struct fs =>
          simp only at hp
          cases hf:fs[f]? with
          | none=>rw [hf] at hp;cases hp
          | some fl =>
            rw [hf] at hp
            simp only [Option.map_some,Option.some.injEq,Prod.mk.injEq] at hp
            obtain ⟨e1,e2⟩:=hp
            subst e1 e2
            simp only [execOp,ho,hu,Instr.field,Sem.run_bind,run_underlying hd,Result.andThen_ok,hf,asAgg,Sem.run_pure,g2]
        | _=>simp at hp
theorem mF {e N k:Nat} {b:Bool} {cs:List AV} {v:AV} {kk:IntKind} {i:Int} (ho:o.op=.index T x y) (hT:P.underlying T=some (.array N e)) (he:gF P e=some (k,b)) (hx:S.ev x=some (.agg cs)) (hy:S.ev y=some (.sc (.int kk i)))
    (hi:0<=i/\i<(N:Int)) (hv:jU k b (cs.drop (i.toNat*k))=some v):bS P o S v :=
  iK λs ρ hH h=>by
    have hxv:=h x (by simp [ho,Op.operands]) _ hx
    have hyv:=(h y (by simp [ho,Op.operands]) _ hy).gJ
    generalize hu:ρ x=u at hxv
    cases hxv with
    | agg hl hh =>
      obtain ⟨u,g1,g2⟩:=zY he hl hh hv
      refine ⟨u,g1,?_⟩
      simp only [execOp,ho,hu,hyv,Instr.index,asIntOf,Sem.run_bind,Sem.run_pure,run_underlying hT,Result.andThen_ok,hi,and_self,if_true,mG he,g2]
theorem tZ {e N k id aD row off:Nat} {b:Bool} {ob:aW} {r:List AV} {kk:IntKind} {i:Int} (ho:o.op=.indexAddr T x y) (hT:P.underlying T=some (.array N e)) (he:gF P e=some (k,b)) (hx:S.ev x=some (.pt id aD row off)) (hy:S.ev y=some (.sc (.int kk i)))
    (hob:S.hp id=some ob) (bP:ob.aD=aD) (hr:ob.rows[row]?=some r) (hi:0<=i/\i<(N:Int)):bS P o S (.pt id aD row (off+i.toNat*k)) :=
  iK λs ρ hH h=>by
    have hxv:=h x (by simp [ho,Op.operands]) _ hx
    have hyv:=(h y (by simp [ho,Op.operands]) _ hy).gJ
    obtain ⟨m,cur,fr,hm,hb,h1⟩:=sD hH hob bP (λe=>by rw [e] at hr;simp at hr) hxv
    have hk:s.used aD:=by cases hxv with | pt hk _ _=>exact hk
    have hadr:(Instr.indexAt T (.pointer (some ⟨m.b,row*ob.sz+off,none⟩)) (.int kk i)).run P s.w=.ok (.pointer (some ⟨m.b,row*ob.sz+off+i.toNat*k,none⟩)) s.w:=by
      simp only [Instr.indexAt,asIntOf,Sem.run_bind,Sem.run_pure,run_underlying hT,Result.andThen_ok,Instr.sureAddr,hi,and_self,if_true,mG he,addr_add]
    refine ⟨.pointer (some ⟨m.b,row*ob.sz+(off+i.toNat*k),none⟩),?_,?_⟩
    · refine .pt hk rfl λm' hm' _ _=>?_
      obtain ⟨m0,hm0⟩:=hH.obj id ob hob
      have e1:m0=m:=by have h3:=hm0.hm;rw [hm] at h3;cases h3;rfl
      have e2:m'=m:=by rw [hm] at hm';cases hm';rfl
      rw [e2,<- e1,hm0.hsz]
    · simp only [execOp,ho,h1,hyv,Sem.run_bind,hadr,Nat.add_assoc]
      rfl
end
section
variable {P:Program} {n:NT} {S:AS} {o:Oper} {T:TypeId} {x y:Operand} {α:Type}
theorem LU {N e sz:Nat} {b:Bool} {zs:List Value} {ps:List (Nat×Operand)} {vs cs:List AV} (ho:o.op=.build T ps.toArray) (hT:P.underlying T=some (.array N e)) (he:gF P e=some (sz,b)) (hz:zeroOf P T=some zs) (h1:lF zs=true)
    (hv:EvL S (ps.map (·.2)) vs) (hf:pE (λi=>some (i*sz,sz)) (zs.map .sc) ((ps.map (·.1)).zip vs)=some cs):bS P o S (.agg cs) :=
  iK λs ρ hH h=>by
    obtain ⟨z,hz1,hz2⟩:=uY hz s.w
    obtain ⟨a1,a2⟩:=hv.val (s:=s) (ρ:=ρ) λq hq=>h q (by simp only [ho,Op.operands];simpa using hq)
    obtain ⟨cells',g1,g2⟩:=CR.fill (place:=λi=>some (i*sz,sz)) (ρ:=ρ) ps vs _ cs z.cells (by simpa using a1) (by simpa [Function.comp_def] using a2) (CR.zero s zs h1 hz1) hf
    refine ⟨_,g2.agg,?_⟩
    simp only [execOp,ho,Instr.build,Sem.run_bind,hz2,Result.andThen_ok,run_underlying hT,mG he,List.map_toArray]
    have g1':Instr.fill (λi=>some (i*sz,sz)) z.cells (ps.map λ(i,x)=>(i,ρ x))=some cells':=g1
    rw [g1']
    rfl
theorem NY {sz:Nat} {g:α->List AV} (hg:∀ a,(g a).length=sz):∀ (l:List α) (i:Nat) (v:α),l[i]?=some v->∃ r,((l.map g).flatten).drop (i*sz)=g v++r
  | [],i,v,h=>by simp at h
  | a :: l,0,v,h=>by simp at h;subst h;exact ⟨(l.map g).flatten,by simp⟩
  | a :: l,i+1,v,h=>by
    obtain ⟨r,hr⟩:=NY hg l i v (by simpa using h)
    refine ⟨r,?_⟩
    rw [List.map_cons,List.flatten_cons,Nat.add_mul,Nat.one_mul,Nat.add_comm,<- List.drop_drop,<- hg a,List.drop_left,hg a,hr]
theorem BQ {e N sz:Nat} {b:Bool} {g:α->List AV} {l:List α} {kk:IntKind} {i:Int} {v:α} {w:AV} (ho:o.op=.index T x y) (hT:P.underlying T=some (.array N e)) (he:gF P e=some (sz,b)) (hx:S.ev x=some (.agg ((l.map g).flatten))) (hy:S.ev y=some (.sc (.int kk i)))
    (hN:l.length=N) (h:ix l i=some v) (hg:∀ a,(g a).length=sz) (hw:∀ r,jU sz b (g v++r)=some w):bS P o S w:=by
  obtain ⟨r,hr⟩:=NY hg l i.toNat v (nR h).2
  have hlt:=vV h
  have:=(nR h).1
  exact mF ho hT he hx hy (by omega) (by rw [hr];exact hw r)
theorem hw1 {a:AV}:∀ r,jU 1 false ([a]++r)=some a:=λ_=>rfl
inductive yY (P:Program):TypeId->AV->AV->Bool->Prop
  | int {t:TypeId} {k:IntKind} {a b:Int} (h:P.underlying t=some (.int k)):yY P t (.sc (.int k a)) (.sc (.int k b)) (decide (a=b))
  | bool {t:TypeId} {a b:Bool} (h:P.underlying t=some .bool):yY P t (.sc (.bool a)) (.sc (.bool b)) (decide (a=b))
theorem yY.run {t:TypeId} {a b:AV} {r:Bool} (h:yY P t a b r) {s:Sit} {u v:Value} (hu:VR s a u) (hv:VR s b v) (d:Nat) (w:World):(Op.equalIn (d+1) t u v).run P w=.ok r w:=by
  cases h with
  | int h=>rw [hu.gJ,hv.gJ];simp [Op.equalIn,run_underlying h];rfl
  | bool h=>rw [hu.gJ,hv.gJ];simp [Op.equalIn,run_underlying h];rename_i a b;cases a <;> cases b <;> rfl
inductive tH (P:Program):Nat->List (Nat×Nat)->List AV->List AV->Bool->Prop
  | nil (i:Nat):tH P i [] [] [] true
  | cons {i t:Nat} {ts:List (Nat×Nat)} {a b:AV} {as bs:List AV} {r q:Bool} (h:yY P t a b r) (ht:gF P t=some (1,false)) (hr:tH P (i+1) ts as bs q):tH P i ((t,i) :: ts) (a :: as) (b :: bs) (r && q)
theorem SQ {s:Sit} {xs ys:Array Value} {cs ds:List AV} {e:Nat} (hx:cs.length=xs.size/\∀ (i:Nat) (x:AV) (v:Value),cs[i]?=some x->xs[i]?=some v->VR s x v) (hy:ds.length=ys.size/\∀ (i:Nat) (x:AV) (v:Value),ds[i]?=some x->ys[i]?=some v->VR s x v) (hc1:P.cellsOf e=1) (d:Nat) :
    ∀ (k i:Nat) (r:Bool),tH P i ((List.range' i k).map λj=>(e,j)) (cs.drop i) (ds.drop i) r->(Op.eqItems (d+1) e (P.cellsOf e) xs ys (List.range' i k)).run P s.w=.ok r s.w
  | 0,i,r,h=>by
    cases hc:cs.drop i <;> cases hd:ds.drop i <;> rw [hc,hd] at h <;> cases h
    rfl
  | k+1,i,r,h=>by
    rw [List.range'_succ] at h ⊢
    cases hc:cs.drop i with
    | nil=>rw [hc] at h;cases h
    | cons a as =>
      cases hd:ds.drop i with
      | nil=>rw [hc,hd] at h;cases h
      | cons b bs =>
        rw [hc,hd,List.map_cons] at h
        cases h with
        | cons h1 ht h2 =>
          rename_i r1 q
          obtain ⟨u,g1,g2⟩:=zY (P:=P) (t:=e) (off:=i) (v:=a) ht hx.1 hx.2 (by simp [jU,hc])
          obtain ⟨v,g3,g4⟩:=zY (P:=P) (t:=e) (off:=i) (v:=b) ht hy.1 hy.2 (by simp [jU,hd])
          have g5:=h1.run g1 g3 d s.w
          have ih:=SQ hx hy hc1 d k (i+1) q (by rw [(drop_cons hc).2,(drop_cons hd).2];exact h2)
          have e1:i*P.cellsOf e=i:=by rw [hc1,Nat.mul_one]
          simp only [Op.eqItems,Sem.run_bind,e1,g2,g4,g5,Result.andThen_ok]
          cases r1
          · simp
          · simpa using ih
theorem T9 {s:Sit} {u v:Value} {cs ds:List AV} {e N:Nat} {r:Bool} (hT:P.underlying T=some (.array N e)) (hi:((P.info? e).map (·.size))=some 1) (hc1:P.cellsOf e=1) (hne:0<N) (hu:VR s (.agg cs) u) (hv:VR s (.agg ds) v) (h:tH P 0 ((List.range' 0 N).map λj=>(e,j)) cs ds r) :
    (do eqGuard .eql T x y u v;binOp .eql T u v:Sem Value).run P s.w=.ok (.bool r) s.w/\(do eqGuard .neq T x y u v;binOp .neq T u v:Sem Value).run P s.w=.ok (.bool (!r)) s.w:=by
  obtain ⟨j,hj1,hj2⟩:=AB hi
  cases hu with
  | agg hl1 hh1 =>
    cases hv with
    | agg hl2 hh2 =>
      rename_i xs ys
      have hrun:∀ w,w=s.w->(Op.equal T (.agg xs) (.agg ys)).run P w=.ok r w:=λw hw=>by
        subst hw
        have:=run_equalIn_array s.w 9999 xs ys hT hj1
        simp only [Op.equal,Op.maxDepth]
        rw [this,List.range_eq_range']
        exact SQ ⟨hl1,hh1⟩ ⟨hl2,hh2⟩ hc1 9998 N 0 r (by simpa using h)
      have hg:P.eqGuardType P.depth T=false:=by
        obtain ⟨N',rfl⟩:∃ N',N=N'+1:=⟨N-1,by omega⟩
        rw [List.range'_succ,List.map_cons] at h
        have hdp:P.depth=((2*(P.types.size+Made.depth))+1)+1:=rfl
        rw [hdp]
        cases h with
        | cons h1 ht h2 =>
          cases h1 with
          | int h=>simp [Program.eqGuardType,hT,h]
          | bool h=>simp [Program.eqGuardType,hT,h]
      have hprog:(program).run P s.w=.ok P s.w:=rfl
      constructor
      · simp [eqGuard,binOp,hprog,hg,hrun _ rfl]
      · simp [eqGuard,binOp,hprog,hg,hrun _ rfl]
theorem aCN {cs ds:List AV} {e N:Nat} {r r':Bool} {Ty:TypeId} (ho:o.op=.binOp .eql T x y Ty) (hT:P.underlying T=some (.array N e)) (hi:((P.info? e).map (·.size))=some 1) (hc1:P.cellsOf e=1) (hne:0<N) (hx:S.ev x=some (.agg cs)) (hy:S.ev y=some (.agg ds))
    (h:tH P 0 ((List.range' 0 N).map λj=>(e,j)) cs ds r) (hr:r=r'):bS P o S (aA r') :=
  iK λs ρ hH hh=>⟨.bool r',.sc _,by
    have:=(T9 (x:=x) (y:=y) hT hi hc1 hne (hh x (by simp [ho,Op.operands]) _ hx) (hh y (by simp [ho,Op.operands]) _ hy) h).1
    simp only [execOp,ho,Sem.run_bind] at this ⊢
    rw [this,hr];rfl⟩
theorem aHH {cs ds:List AV} {e N:Nat} {r r':Bool} {Ty:TypeId} (ho:o.op=.binOp .neq T x y Ty) (hT:P.underlying T=some (.array N e)) (hi:((P.info? e).map (·.size))=some 1) (hc1:P.cellsOf e=1) (hne:0<N) (hx:S.ev x=some (.agg cs)) (hy:S.ev y=some (.agg ds))
    (h:tH P 0 ((List.range' 0 N).map λj=>(e,j)) cs ds r) (hr:(!r)=r'):bS P o S (aA r') :=
  iK λs ρ hH hh=>⟨.bool r',.sc _,by
    have:=(T9 (x:=x) (y:=y) hT hi hc1 hne (hh x (by simp [ho,Op.operands]) _ hx) (hh y (by simp [ho,Op.operands]) _ hy) h).2
    simp only [execOp,ho,Sem.run_bind] at this ⊢
    rw [this,hr];rfl⟩
theorem OU {kk:IntKind} {a b r:Int} {ts:Array TypeId} (ho:o.op=.call { callee:=.builtin .max,args:=#[x,y],argTypes:=ts }) (hx:S.ev x=some (.sc (.int kk a))) (hy:S.ev y=some (.sc (.int kk b))) (hr:(if b>a then b else a)=r):bS P o S (.sc (.int kk r)) :=
  zX hx hy (by simp [ho,Op.operands,Call.operands]) (by simp [ho,Op.operands,Call.operands]) fun ρ w h1 h2=>by
    subst hr;simp [execOp,ho,h1,h2,resolve,invoke,builtin,Builtin.max_,Builtin.max2]
theorem DF {kk:IntKind} {a b r:Int} {ts:Array TypeId} (ho:o.op=.call { callee:=.builtin .min,args:=#[x,y],argTypes:=ts }) (hx:S.ev x=some (.sc (.int kk a))) (hy:S.ev y=some (.sc (.int kk b))) (hr:(if b<a then b else a)=r):bS P o S (.sc (.int kk r)) :=
  zX hx hy (by simp [ho,Op.operands,Call.operands]) (by simp [ho,Op.operands,Call.operands]) fun ρ w h1 h2=>by
    subst hr;simp [execOp,ho,h1,h2,resolve,invoke,builtin,Builtin.min_,Builtin.min2]
end
theorem dN {H:AH} {id T aD:Nat} {s s':RS} (h:s=s'):upd H id (some (cK T aD s))=upd H id (some (cK T aD s')):=by rw [h]
end Go.Pv
