import Derived.Test.YtihfgehjjbnffaaGreatPvG
set_option linter.unusedVariables false
set_option linter.unusedSimpArgs false
namespace Go.Pv
section
variable {P:Program} {n:NT} {f:Nat->Option AV} {hp:AH} {ops rest todo:List Oper} {K:AS->Prop} {o:Oper} {Q:Go.Exit->AS->Prop} {x y z:Code} {S:AS}
theorem st {t:Nat} {v:AV} (hw:Wd ops ⟨f,hp⟩ o=some true) (hd:o.dst=some t) (hn:Nat.blt t n.n=true) (hy:bW P o ⟨f,hp⟩ v) (h:Rg P n ops rest ⟨upd f t (some v),hp⟩ K):Rg P n ops (o :: rest) ⟨f,hp⟩ K :=
  aED hw (by rw [hd];exact hn) hy (by rw [hd];exact h)
theorem sk {t:Nat} (hw:Wd ops ⟨f,hp⟩ o=some false) (hd:o.dst=some t) (hn:Nat.blt t n.n=true) (h:Rg P n ops rest ⟨upd f t (some (.sc undef)),hp⟩ K):Rg P n ops (o :: rest) ⟨f,hp⟩ K :=
  aG3 hw (by rw [hd];exact hn) (by rw [hd];exact h)
theorem se {t:Nat} {Out:AV->AH->Prop} (hw:Wd ops ⟨f,hp⟩ o=some true) (hd:o.dst=some t) (hn:Nat.blt t n.n=true) (hy:bY P o ⟨f,hp⟩ no any Out)
    (h:∀ v H',Out v H'->Rg P n ops rest ⟨upd f t (some v),H'⟩ K):Rg P n ops (o :: rest) ⟨f,hp⟩ K :=
  F8 hw (by rw [hd];exact hn) hy λv H' hO=>by rw [hd];exact h v H' hO
theorem aVF {v:AV} {H':AH} (hw:Wd ops ⟨f,hp⟩ o=some true) (hd:o.dst=none) (hy:bY P o ⟨f,hp⟩ no no (λz H=>z=v/\H=H'))
    (h:Rg P n ops rest ⟨f,H'⟩ K):Rg P n ops (o :: rest) ⟨f,hp⟩ K :=
  F8 hw (by rw [hd];rfl) (hy.eX (λ_ h=>h) λ_ h=>h.elim) λv' H2 ⟨_,h2⟩=>by rw [hd,h2];exact h
def dF (P:Program) (n:NT) (Q:Go.Exit->AS->Prop):List Code->AS->Prop
  | [],S=>Q .normal S
  | c :: cs,S=>Tr P n c S (Exit.thn (dF P n Q cs) Q)
variable {cs:List Code}
theorem nD (h:dF P n Q [x] S):Tr P n x S Q:=Tr.mono h λe S hq=>by cases e <;> exact hq
theorem FP (h:Q .normal S):dF P n Q [] S:=h
theorem BG (h:dF P n Q (x :: y :: cs) S):dF P n Q (.seq x y :: cs) S :=
  aQ6 (Tr.mono h λe S hq=>by cases e <;> exact hq)
theorem Q7 (h:dF P n Q cs S):dF P n Q (.skip :: cs) S:=aVU h
theorem aFN {l:Nat} (h:dF P n Q cs S):dF P n Q (.label l :: cs) S:=aX0 h
theorem MU (h:Q .ret S):dF P n Q (.ret :: cs) S:=aT4 h
theorem aGZ {id:Nat} (h:Q (.exit id) S):dF P n Q (.exit id :: cs) S:=aNR h
theorem DK {id:Nat} {l:List Oper} (h:∀ K:AS->Prop,(∀ S',dF P n Q cs S'->K S')->Rg P n l l S K) (hd:l.all mF=true:=by rfl):dF P n Q (.region id l.toArray false :: cs) S :=
  aXW hd (h _ λ_ h=>h)
theorem K4 {id:Nat} {l:List Oper} (bm:List Nat) (rd:Nat->Nat->Bool) (wr:Nat->Option Nat) (hm:P.follows .mixedOrders=true) (hB:NN n l bm rd wr=true)
    (h:∀ C,∀ K:AS->Prop,(∀ S',dF P n Q cs S'->K S')->DG P rd wr C l K l 0 S):dF P n Q (.region id l.toArray true :: cs) S :=
  aNT bm rd wr hm hB λC=>h C _ λ_ h=>h
theorem R5 {c:Operand} {b:Bool} (hc:S.ev c=some (.sc (.bool b))) (ht:b=true->dF P n Q (x :: cs) S) (hf:b=false->dF P n Q (y :: cs) S):dF P n Q (.cond c x y :: cs) S :=
  aM1 hc ht hf
theorem aF7 {c:Operand} (hc:S.ev c=some (.sc (.bool true))) (ht:dF P n Q (x :: cs) S):dF P n Q (.cond c x y :: cs) S:=R5 hc (λ_=>ht) (λe=>by cases e)
theorem aHJ {c:Operand} (hc:S.ev c=some (.sc (.bool false))) (ht:dF P n Q (y :: cs) S):dF P n Q (.cond c x y :: cs) S:=R5 hc (λe=>by cases e) (λ_=>ht)
theorem aPE (id:Nat) {ob:bH} (ho:hp id=some ob) (h:dF P n Q (x :: cs) ⟨f,upd hp id (some { ob with mt:=false })⟩):dF P n Q (x :: cs) ⟨f,hp⟩:=aMU (S:=⟨f,hp⟩) id ho h
theorem aUA {u:AV} (t:Nat) (v:AV) (h:f t=some u) (hc:Cv hp u v) (h1:dF P n Q (x :: cs) ⟨upd f t (some v),hp⟩):dF P n Q (x :: cs) ⟨f,hp⟩:=by
  intro s a hs
  refine h1 s a ⟨hs.size,hs.defers,λi z hz=>?_,hs.heap⟩
  by_cases hi:i=t
  · subst hi
    simp only [upd_same,Option.some.injEq] at hz
    subst hz
    obtain ⟨v',g1,g2⟩:=hs.slot i _ h
    exact ⟨v',g1,hc s hs.heap v' g2⟩
  · simp only [upd_ne _ _ hi] at hz;exact hs.slot i z hz
theorem aSM (id:Nat) {ob:bH} (ho:hp id=some ob) (h:Rg P n ops todo ⟨f,upd hp id (some { ob with mt:=false })⟩ K):Rg P n ops todo ⟨f,hp⟩ K:=aLV (S:=⟨f,hp⟩) id ho h
theorem aHL {u:AV} (t:Nat) (v:AV) (h:f t=some u) (hc:Cv hp u v) (h1:Rg P n ops todo ⟨upd f t (some v),hp⟩ K):Rg P n ops todo ⟨f,hp⟩ K:=aLX (S:=⟨f,hp⟩) v t h hc h1
def kn:List (Nat×AV)->Nat->Option AV
  | []=>λ_=>none
  | (t,v) :: r=>upd (kn r) t (some v)
def hk:List (Nat×bH)->AH
  | []=>H0
  | (t,v) :: r=>upd (hk r) t (some v)
def KN (f:Nat->Option AV):List (Nat×AV)->Prop
  | []=>True
  | (t,v) :: r=>f t=some v/\KN f r
def HK (H:AH):List (Nat×bH)->Prop
  | []=>True
  | (t,v) :: r=>H t=some v/\HK H r
theorem KN.le {l:List (Nat×AV)} (h:KN f l):∀ t v,kn l t=some v->f t=some v:=by
  induction l with
  | nil=>intro t v h;cases h
  | cons p r ih =>
    intro t v hv
    obtain ⟨q,u⟩:=p
    simp only [kn] at hv
    by_cases ht:t=q
    · subst ht;rw [upd_same] at hv;cases hv;exact h.1
    · rw [upd_ne _ _ ht] at hv;exact ih h.2 t v hv
theorem HK.le {H:AH} {l:List (Nat×bH)} (h:HK H l):∀ t v,hk l t=some v->H t=some v:=by
  induction l with
  | nil=>intro t v h;cases h
  | cons p r ih =>
    intro t v hv
    obtain ⟨q,u⟩:=p
    simp only [hk] at hv
    by_cases ht:t=q
    · subst ht;rw [upd_same] at hv;cases hv;exact h.1
    · rw [upd_ne _ _ ht] at hv;exact ih h.2 t v hv
theorem aCN {f:FuncId} {fn:Func} {c:Code} {args:List AV} {H:AH} {R:AV->AH->Prop} (hf:P.funcs[f]?=some fn) (hb:fn.body=some c) (hle:Nat.ble args.length fn.ntmps=true)
    (h:∀ Q:Go.Exit->AS->Prop,(∀ S' vs H2,mO P S' fn.results.toList vs->(∀ t v,H2 t=some v->S'.hp t=some v)->R (o9 vs) H2->Q .ret S')->(∀ S' vs H2,mO P S' fn.results.toList vs->(∀ t v,H2 t=some v->S'.hp t=some v)->R (o9 vs) H2->Q .normal S') ->
      dF P ⟨fn.ntmps,false,[]⟩ Q [c] ⟨λt=>args[t]?,H⟩):PC P f args H R :=
  L9 hf hb (Nat.le_of_ble_eq_true hle) (nD (h _ (λ_ vs H2 h1 hs h2=>⟨.inr rfl,vs,H2,h1,hs,h2⟩) (λ_ vs H2 h1 hs h2=>⟨.inl rfl,vs,H2,h1,hs,h2⟩)))
theorem wrap64 {a:Int} (h:-9223372036854775808<=a/\a<=9223372036854775807):IntKind.i64.wrap a=a:=IntWalk.i64_in a (by omega)
end
section
variable {P:Program} {n:NT} {S:AS} {o:Oper} {T:TypeId} {x y:Operand}
theorem uN {fo:Operand} {as:List Operand} {ts:Array TypeId} {k:FuncId} {first cap vs args:List AV} {v:AV} (ho:o.op=.call { callee:=.value fo,args:=as.toArray,argTypes:=ts })
    (hf:S.ev fo=some (.fn (.func k) first cap)) (ha:EvL S as vs) (hc:bC P k=true) (hcv:bT S.hp (first++vs++cap) args) (hp:PP P k args (λy=>y=v)):bW P o S v :=
  aR5 ho hf ha hc hcv hp
theorem V3 {C i:Nat} {zs:List Value} (id:Nat) (ho:o.op=.alloc T) (hz:zeroOf P T=some zs) (h1:nL zs=true) :
    bY P o S (·=C+i) (·=C+i) (λy H'=>y=.pt id (C+i) 0 0/\H'=upd S.hp id (some ⟨T,zs.length,true,true,C+i,[zs.map .sc]⟩)):=by
  intro s a next Q h1' h2 h3 h4
  exact RU id (.one (C+i)) ho hz h1 s a next Q h1' h2 h3 λs' v x H' ⟨aN,hv,e1,e2⟩=>by
    subst hv;exact h4 s' v x H' ⟨e1,e2⟩
def rV (place:Nat->Option (Nat×Nat)):List AV->List (Nat×AV)->Option (List AV)
  | cs,[]=>some cs
  | cs,(i,v) :: r=>match place i with
    | none=>none
    | some (off,size)=>if Nat.beq v.cells.length size && Nat.ble (off+size) cs.length && iW v.cells then rV place (putRow cs off v.cells) r else none
theorem foldl_set:∀ (l:List (Value×Nat)) (off k0:Nat) (cells:Array Value),(∀ (i:Nat) (p:Value×Nat),l[i]?=some p->p.2=k0+i) ->
    (l.foldl (λ(cs:Array Value) (p:Value×Nat)=>cs.setIfInBounds (off+p.2) p.1) cells).size=cells.size /\
    ∀ (k:Nat),off+k0+l.length<=cells.size->(l.foldl (λ(cs:Array Value) (p:Value×Nat)=>cs.setIfInBounds (off+p.2) p.1) cells)[k]?=if off+k0<=k/\k<off+k0+l.length then (l[k-(off+k0)]?).map (·.1) else cells[k]?
  | [],off,k0,cells,_=>⟨rfl,λk _=>by rw [if_neg (by simp)];rfl⟩
  | p :: l,off,k0,cells,h=>by
    have hp:=h 0 p rfl
    obtain ⟨h1,h2⟩:=foldl_set l off (k0+1) (cells.setIfInBounds (off+p.2) p.1) (λi q hq=>by have:=h (i+1) q (by simpa using hq);omega)
    simp only [List.foldl_cons]
    refine ⟨by rw [h1];simp,λk hk=>?_⟩
    simp only [List.length_cons] at hk
    rw [h2 k (by rw [Array.size_setIfInBounds];omega)]
    simp only [List.length_cons]
    by_cases hk':k=off+k0
    · subst hk'
      rw [if_neg (by omega),if_pos (by omega),hp]
      simp [show off+k0<cells.size by omega]
    · by_cases h3:off+(k0+1)<=k/\k<off+(k0+1)+l.length
      · rw [if_pos h3,if_pos (by omega)]
        have:k-(off+k0)=(k-(off+(k0+1)))+1:=by omega
        rw [this];rfl
      · rw [if_neg h3,if_neg (by omega),Array.getElem?_setIfInBounds_ne (by omega)]
def CR (s:Sit) (cs:List AV) (vs:Array Value):Prop:=vs.size=cs.length/\(∀ (i:Nat) (x:AV) (v:Value),cs[i]?=some x->vs[i]?=some v->VR s x v)/\∀ (i:Nat) (v:Value),vs[i]?=some v->v.oneCell'=true
theorem CR.fill {s:Sit} {place:Nat->Option (Nat×Nat)} {ρ:Operand->Value}:∀ (ps:List (Nat×Operand)) (vs:List AV) (cs cs':List AV) (cells:Array Value),vs.length=ps.length ->
    (∀ (i:Nat) (x:AV) (v:Value),vs[i]?=some x->(ps.map λp=>ρ p.2)[i]?=some v->VR s x v)->CR s cs cells->rV place cs ((ps.map (·.1)).zip vs)=some cs' ->
    ∃ cells',Instr.fill place cells (ps.map λp=>(p.1,ρ p.2))=some cells'/\CR s cs' cells'
  | [],[],cs,cs',cells,_,_,hc,hf=>by
    simp only [List.map_nil,List.zip_nil_left,rV,Option.some.injEq] at hf;subst hf;exact ⟨cells,rfl,hc⟩
  | [],_ :: _,_,_,_,h,_,_,_=>by simp at h
  | _ :: _,[],_,_,_,h,_,_,_=>by simp at h
  | p :: ps,v :: vs,cs,cs',cells,hl,hv,hc,hf=>by
    simp only [List.map_cons,List.zip_cons_cons,rV] at hf
    cases hp:place p.1 with
    | none=>rw [hp] at hf;cases hf
    | some q =>
      obtain ⟨off,size⟩:=q
      rw [hp] at hf
      simp only at hf
      split at hf
      · rename_i hcond
        simp only [Bool.and_eq_true] at hcond
        obtain ⟨⟨e1,e2⟩,e3⟩:=hcond
        have e1:=Nat.eq_of_beq_eq_true e1
        have e2:=Nat.le_of_ble_eq_true e2
        have hvr:=hv 0 v (ρ p.2) rfl rfl
        obtain ⟨c1,c2,c3⟩:=hvr.cells e3
        obtain ⟨f1,f2⟩:=foldl_set (ρ p.2).cells.zipIdx.toList off 0 cells (λi q hq=>by simp at hq;obtain ⟨_,_,h⟩:=hq;rw [<- h];simp)
        have hlen:(ρ p.2).cells.zipIdx.toList.length=size:=by simp [c1,e1]
        have f2:=λk=>f2 k (by rw [hlen,hc.1];omega)
        have hcr:CR s (putRow cs off v.cells) ((ρ p.2).cells.zipIdx.toList.foldl (λ(cs:Array Value) (p:Value×Nat)=>cs.setIfInBounds (off+p.2) p.1) cells):=by
          have hfit:off+v.cells.length<=cs.length:=by omega
          refine ⟨by rw [f1,hc.1,XC hfit],λi y u hy hu=>?_,λi u hu=>?_⟩
          · rw [aHF hfit] at hy
            rw [f2] at hu
            by_cases hi:off<=i/\i<off+v.cells.length
            · rw [if_pos hi] at hy
              rw [if_pos (by rw [hlen];omega)] at hu
              refine c2 (i-off) y u hy ?_
              simpa using hu
            · rw [if_neg hi] at hy
              rw [if_neg (by rw [hlen];omega)] at hu
              exact hc.2.1 i y u hy hu
          · rw [f2] at hu
            split at hu
            · exact c3 (i-off) u (by simpa using hu)
            · exact hc.2.2 i u hu
        obtain ⟨cells',g1,g2⟩:=CR.fill ps vs _ cs' _ (by simpa using hl) (λi x u h1 h2=>hv (i+1) x u (by simpa using h1) (by simpa using h2)) hcr hf
        refine ⟨cells',?_,g2⟩
        simp only [List.map_cons,Instr.fill,hp]
        rw [if_neg (by simp only [Bool.or_eq_true,ne_eq,decide_eq_true_eq,not_or];simp [c1,e1,hc.1];omega)]
        rw [<- g1]
        congr 1
        rw [<- Array.foldl_toList]
      · cases hf
def yN (P:Program) (T:TypeId):Option (List (Nat×Nat)) :=
  match P.underlying T with
  | some (.struct fs)=>fs.toList.mapM λf=>(P.info? f.type).map λi=>(f.offset,i.size)
  | _=>none
theorem run_places {w:World}:∀ (fs:List Field) {pl:List (Nat×Nat)},(fs.mapM λf=>(P.info? f.type).map λi=>(f.offset,i.size))=some pl ->
    (fs.mapM (m:=Sem) λf=>do pure (f.offset,<- sizeOf f.type)).run P w=.ok pl w
  | [],pl,h=>by simp at h;subst h;rfl
  | f :: fs,pl,h=>by
    rw [List.mapM_cons] at h
    cases hi:P.info? f.type with
    | none=>rw [hi] at h;simp at h
    | some i =>
      rw [hi] at h
      cases hr:(fs.mapM λf=>(P.info? f.type).map λi=>(f.offset,i.size)) with
      | none=>rw [hr] at h;simp at h
      | some pr =>
        rw [hr] at h
        simp at h;subst h
        have:=run_places (w:=w) fs hr
        have hsz:(sizeOf f.type).run P w=.ok i.size w:=by simp [sizeOf,typeInfo,program,Sem.run,hi]
        simp only [List.mapM_cons,Sem.run_bind,hsz,Sem.run_pure,Result.andThen_ok,this]
theorem CR.zero (s:Sit) (zs:List Value) (h:nL zs=true) {z:Value} (hz:z.cells.toList=zs):CR s (zs.map .sc) z.cells:=by
  refine ⟨by rw [List.length_map,<- hz,Array.length_toList],λi x v h1 h2=>?_,λi v h2=>vQ h i v (by rw [<- hz,Array.getElem?_toList];exact h2)⟩
  rw [<- Array.getElem?_toList,hz] at h2
  rw [List.getElem?_map,h2] at h1
  simp at h1;subst h1;exact .sc _
theorem CR.agg {s:Sit} {cs:List AV} {vs:Array Value} (h:CR s cs vs):VR s (.agg cs) (.agg vs):=.agg h.1.symm h.2.1
theorem tF {pl:List (Nat×Nat)} {zs:List Value} {ps:List (Nat×Operand)} {vs cs:List AV} (ho:o.op=.build T ps.toArray) (hpl:yN P T=some pl) (hz:zeroOf P T=some zs) (h1:nL zs=true)
    (he:EvL S (ps.map (·.2)) vs) (hf:rV (λi=>pl[i]?) (zs.map .sc) ((ps.map (·.1)).zip vs)=some cs):bW P o S (.agg cs) :=
  iV λs ρ hH h=>by
    obtain ⟨z,hz1,hz2⟩:=y9 hz s.w
    obtain ⟨a1,a2⟩:=he.val (s:=s) (ρ:=ρ) λq hq=>h q (by simp only [ho,Op.operands];simpa using hq)
    obtain ⟨cells',g1,g2⟩:=CR.fill (place:=λi=>pl[i]?) (ρ:=ρ) ps vs _ cs z.cells (by simpa using a1) (by simpa [Function.comp_def] using a2) (CR.zero s zs h1 hz1) hf
    refine ⟨_,g2.agg,?_⟩
    unfold yN at hpl
    cases hu:P.underlying T with
    | none=>rw [hu] at hpl;cases hpl
    | some d =>
      rw [hu] at hpl
      cases d with
      | struct fs =>
        simp only at hpl
        have hpr:=run_places (P:=P) (w:=s.w) fs.toList hpl
        have hpr':(fs.mapM (m:=Sem) λf=>do pure (f.offset,<- sizeOf f.type)).run P s.w=.ok pl.toArray s.w:=by
          rw [Array.mapM_eq_mapM_toList];simp only [Sem.run_map,hpr,Result.andThen_ok]
        simp only [execOp,ho,Instr.build,Sem.run_bind,hz2,Result.andThen_ok,run_underlying hu,hpr',List.map_toArray,List.getElem?_toArray]
        have g1':Instr.fill (λx=>pl[x]?) z.cells (ps.map λ(i,x)=>(i,ρ x))=some cells':=g1
        rw [g1']
        rfl
      | _=>simp at hpl
theorem aIU {s:Sit} {H:AH} (hH:HR s H) (w':World) (hos:w'.os=s.w.os) (htape:w'.tape=s.w.tape) (hout:w'.output=s.w.output) (hsize:w'.heap.size=s.w.heap.size+1)
    (hkeep:∀ k,k<s.w.heap.size->w'.heap[k]?=s.w.heap[k]?) :
    ∃ s':Sit,s'.w=w'/\s'.used=s.used/\s'.Im s.w.heap.size/\HR s' H/\Fr s H s' H:=by
  let s':Sit:={ s with w:=w',Im:=λb=>s.Im b\/b=s.w.heap.size }
  have hmono:∀ x v,VR s x v->VR s' x v:=λx v h=>VR.mono (s:=s) (s':=s') (λb hi=>⟨.inl hi,hkeep b (hH.im b hi)⟩) (λ_ _ h=>.inl h) (λ_ h=>h) h
  refine ⟨s',rfl,rfl,.inr rfl,⟨λi o' ho'=>?_,hH.lH,λb hb=>?_,hH.fin⟩,⟨hos,htape,hout,by simp [s',hsize],λb hb _=>hkeep b hb,λ_ h=>.inl h,λb hb _ hi=>?_,λ_ _ h=>h,hmono,λ_ h=>h⟩⟩
  · obtain ⟨m,hm⟩:=hH.obj i o' ho'
    refine ⟨m,⟨hm.hm,hm.bX,hm.hsz,hm.hk,?_⟩⟩
    rcases hm.body with hb | ⟨cur,fr,hb⟩
    · exact .inl hb
    · have hlt:m.b<s.w.heap.size:=(Array.getElem?_eq_some_iff.1 hb.hb).1
      exact .inr ⟨cur,fr,⟨hb.hnil,(hkeep m.b hlt).trans hb.hb,hb.hfr,hb.happ,hb.hcs,hb.hct,hb.hlen,hb.hr,λi r j x v a b c=>hmono _ _ (hb.hv i r j x v a b c),hb.h1,λh=>.inl (hb.him h),λh hi=>by
        rcases hi with hi | hi
        · exact hb.l7 h hi
        · omega⟩⟩
  · rcases hb with hb | hb
    · have:=hH.im b hb;simp only [s',hsize];omega
    · simp only [s',hsize];omega
  · rcases hi with hi | hi
    · exact hi
    · omega
theorem flat_get {α:Type} {sz:Nat}:∀ {rows:List (List α)} (_:∀ r∈rows,r.length=sz) (i j:Nat) (r:List α) (x:α),rows[i]?=some r->r[j]?=some x->rows.flatten[i*sz+j]?=some x
  | [],_,_,_,_,_,h,_=>by simp at h
  | q :: rows,hl,i,j,r,x,h1,h2=>by
    have hq:=hl q (List.mem_cons_self ..)
    rw [List.flatten_cons]
    cases i with
    | zero =>
      simp at h1;subst h1
      rw [Nat.zero_mul,Nat.zero_add,List.getElem?_append_left (List.getElem?_eq_some_iff.1 h2).1];exact h2
    | succ i =>
      rw [Nat.add_mul,Nat.one_mul,List.getElem?_append_right (by omega)]
      rw [show i*sz+sz+j-q.length=i*sz+j by omega]
      exact flat_get (λr hr=>hl r (List.mem_cons_of_mem _ hr)) i j r x (by simpa using h1) h2
def iR (P:Program) (e:TypeId):Option (Nat×List Value) :=
  match P.info? e,zeroOf P e with
  | some i,some zs=>if Nat.beq zs.length i.size && Nat.blt 0 i.size && nL zs then some (i.size,zs) else none
  | _,_=>none
theorem CQ {e:TypeId} {sz:Nat} {zs:List Value} (h:iR P e=some (sz,zs)):∃ i,P.info? e=some i/\i.size=sz/\zeroOf P e=some zs/\zs.length=sz/\0<sz/\nL zs=true:=by
  unfold iR at h
  split at h
  · rename_i i zs' hi hz
    split at h
    · rename_i hc
      simp only [Bool.and_eq_true] at hc
      cases h
      exact ⟨i,hi,rfl,hz,Nat.eq_of_beq_eq_true hc.1.1,by simpa [Nat.blt_eq] using hc.1.2,hc.2⟩
    · cases h
  · cases h
def sU (zs:List Value):Nat->List AV
  | 0=>[]
  | n+1=>zs.map .sc++sU zs n
theorem O6 (zs:List Value):∀ n,(sU zs n).length=n*zs.length
  | 0=>by simp [sU]
  | n+1=>by simp [sU,O6 zs n,Nat.add_mul];omega
theorem U3 (zs:List Value) (hz:0<zs.length):∀ (n k:Nat),k<n*zs.length->(sU zs n)[k]?=(zs[k % zs.length]?).map .sc
  | 0,k,h=>by simp at h
  | n+1,k,h=>by
    simp only [sU]
    by_cases hk:k<zs.length
    · rw [List.getElem?_append_left (by simpa using hk),List.getElem?_map,Nat.mod_eq_of_lt hk]
    · have h':k<n*zs.length+zs.length:=by rw [Nat.add_mul,Nat.one_mul] at h;exact h
      have hm:k % zs.length=(k-zs.length) % zs.length:=Nat.mod_eq_sub_mod (by omega)
      rw [List.getElem?_append_right (by rw [List.length_map];omega),List.length_map,U3 zs hz n (k-zs.length) (by omega),hm]
theorem gM {e:TypeId} {sz N:Nat} {zs:List Value} {ps:List (Nat×Operand)} {vs:List AV} {rows:List (List AV)} (ho:o.op=.buildSlice T N ps.toArray) (hT:P.underlying T=some (.slice e)) (hz:iR P e=some (sz,zs))
    (he:EvL S (ps.map (·.2)) vs) (hf:rV (λi=>some (i*sz,sz)) (sU zs N) ((ps.map (·.1)).zip vs)=some rows.flatten) (hN:Nat.ble (N*sz) 16777216=true) (hr:(rows.all λr=>Nat.beq r.length sz)=true) (hrl:rows.length=N) :
    bW P o S (.list sz rows):=by
  intro s a next Q hH hops _ hn
  obtain ⟨i,hi,hsz,hzo,hzl,hpos,h1⟩:=CQ hz
  obtain ⟨z,hz1,hz2⟩:=y9 hzo s.w
  have hzc:z.cells.size=sz:=by rw [<- Array.length_toList,hz1,hzl]
  have hN':=Nat.le_of_ble_eq_true hN
  have hrr:∀ r∈rows,r.length=sz:=λr hr'=>by rw [List.all_eq_true] at hr;exact Nat.eq_of_beq_eq_true (hr r hr')
  obtain ⟨a1,a2⟩:=he.val (s:=s) (ρ:=a.eval) λq hq=>hops q (by simp only [ho,Op.operands];simpa using hq)
  let z0:Array Value:=(Array.range (N*sz)).map (z.cells[· % z.cells.size]!)
  have hc0:CR s (sU zs N) z0:=by
    have hget:∀ k,k<N*sz->z0[k]?=zs[k % sz]?:=λk hk=>by
      have hm:k % sz<sz:=Nat.mod_lt _ hpos
      simp only [z0,Array.getElem?_map,Array.getElem?_range,hk,if_true,Option.map_some,hzc]
      rw [<- hz1,Array.getElem?_toList]
      rw [getElem!_pos z.cells (k % sz) (by omega),Array.getElem?_eq_getElem (by omega)]
    have hsize:z0.size=N*sz:=by simp [z0]
    refine ⟨by rw [hsize,O6,hzl],λk x v h1' h2=>?_,λk v h2=>?_⟩
    · have hk:k<N*sz:=by have:=(Array.getElem?_eq_some_iff.1 h2).1;omega
      rw [hget k hk] at h2
      rw [U3 zs (by omega) N k (by rw [hzl];exact hk),hzl,h2] at h1'
      simp at h1';subst h1';exact .sc _
    · have hk:k<N*sz:=by have:=(Array.getElem?_eq_some_iff.1 h2).1;omega
      rw [hget k hk] at h2
      exact vQ h1 _ _ h2
  obtain ⟨cells',g1,g2⟩:=CR.fill (place:=λi=>some (i*sz,sz)) (ρ:=a.eval) ps vs _ rows.flatten z0 (by simpa using a1) (by simpa [Function.comp_def] using a2) hc0 hf
  obtain ⟨s',e1,e2,e3,e4,e5⟩:=aIU hH (s.w.alloc (.cells cells' e)) rfl rfl rfl (by simp) (λk hk=>alloc_old s.w _ k hk)
  have hfl:rows.flatten.length=N*sz:=by
    rw [List.length_flatten,<- hrl]
    clear hf g1 g2 hc0 hrl a1 a2 he hn
    induction rows with
    | nil=>simp
    | cons r rs ih=>simp only [List.map_cons,List.sum_cons,List.length_cons,Nat.add_mul];rw [ih (by simp only [List.all_cons,Bool.and_eq_true] at hr;exact hr.2) (λr hr'=>hrr r (List.mem_cons_of_mem _ hr')),hrr _ (List.mem_cons_self ..)];omega
  refine kP (w':=s'.w) (v:=.slice (some ⟨s.w.heap.size,0,none⟩) N N) ?_ (hn s' _ (.list sz rows) _ ⟨rfl,rfl⟩ ?_ e4 e5 λk hk=>.inl (e2 ▸ hk))
  · rw [e1]
    have hsz':(sizeOf e).run P s.w=.ok sz s.w:=by simp [sizeOf,typeInfo,program,Sem.run,hi,hsz]
    have hbig:¬ (N*sz>2 ^ 24):=by omega
    have g1':Instr.fill (λi=>some (i*sz,sz)) z0 (ps.map λ(i,x)=>(i,a.eval x))=some cells':=g1
    by_cases h0:N*sz=0
    · have hzz:(Array.range 0).map ((#[]:Array Value)[· % (#[]:Array Value).size]!)=z0:=by simp [z0,h0]
      simp only [execOp,ho,Instr.buildSlice,Sem.run_bind,run_underlying hT,hsz',Result.andThen_ok,h0,if_true,Sem.run_pure,List.map_toArray]
      rw [if_neg (by simp)]
      simp only [Sem.run_bind,Sem.run_pure,Result.andThen_ok,hzz,g1',newRow,newObj,Sem.run]
      rfl
    · simp only [execOp,ho,Instr.buildSlice,Sem.run_bind,run_underlying hT,hsz',Result.andThen_ok,h0,hbig,if_false,Sem.run_pure,List.map_toArray,hz2]
      have hzz:(Array.range (N*sz)).map (z.cells[· % z.cells.size]!)=z0:=rfl
      simp only [hzz,g1',Sem.run_bind,newRow,newObj,Sem.run,Sem.run_pure]
      rfl
  · have hnew:(s'.w).heap[s.w.heap.size]?=some (.cells cells' e (0,0)):=by rw [e1];exact qP s.w _
    have hcell:∀ k,s'.w.cell? ⟨s.w.heap.size,k,none⟩=cells'[k]?:=λk=>ED hnew
    have hat:∀ (i:Nat) (r:List AV) (j:Nat) (x:AV),rows[i]?=some r->r[j]?=some x->∃ v,cells'[0+i*sz+j]?=some v/\VR s' x v:=λi r j x h1' h2=>by
      have hfx:=flat_get hrr i j r x h1' h2
      have hlt:i*sz+j<cells'.size:=by rw [g2.1];exact (List.getElem?_eq_some_iff.1 hfx).1
      exact ⟨cells'[i*sz+j],by simp [hlt],e5.vals _ _ (g2.2.1 _ x _ hfx (by simp [hlt]))⟩
    have hlen:N<=maxLen:=by
      have:N*1<=N*sz:=Nat.mul_le_mul_left _ hpos
      simp only [maxLen];omega
    have:=VR.list (s:=s') (sz:=sz) (xs:=rows) (b:=s.w.heap.size) (off:=0) (cap:=N) (λi j=>(cells'[0+i*sz+j]?).getD undef) e3 (by omega) hlen
      (λi r hir=>hrr r (List.mem_of_getElem? hir)) (λi r j x h1' h2=>by obtain ⟨v,q1,_⟩:=hat i r j x h1' h2;rw [hcell,q1];rfl) (λi r j x h1' h2=>by obtain ⟨v,q1,q2⟩:=hat i r j x h1' h2;rw [q1];exact q2)
    rw [hrl] at this
    exact this
end
section
variable {P:Program} {n:NT} {S:AS} {o:Oper} {T:TypeId} {x y:Operand}
theorem xA {s:Sit} {H:AH} (hH:HR s H) (id:Nat) (o:bH) (bX:¬ s.used o.aN) (hrows:o.rows=[])
    (hold:H id=none\/∃ m,s.mu id=some m/\m.nil=true) :
    ∃ s':Sit,s'.w=s.w/\s'.used=(λk=>s.used k\/k=o.aN)/\s'.mu id=some ⟨true,0,o.sz,0,o.aN⟩/\HR s' (upd H id (some o))/\Fr s H s' (upd H id (some o)):=by
  let s':Sit:={ w:=s.w,Im:=s.Im,mu:=upd s.mu id (some ⟨true,0,o.sz,0,o.aN⟩),used:=λk=>s.used k\/k=o.aN }
  have hmono:∀ x v,VR s x v->VR s' x v:=λx v h=>VR.mono (s:=s) (s':=s') (λb hi=>⟨hi,rfl⟩) (λi m' hm'=>by
    by_cases hi:i=id
    · subst hi
      simp only [s',upd_same,Option.some.injEq] at hm'
      subst hm';exact .inr bX
    · simp only [s',upd_ne _ _ hi] at hm';exact .inl hm') (λ_ h=>.inl h) h
  refine ⟨s',rfl,rfl,by simp [s',upd_same],⟨?_,?_,hH.im,?_⟩,⟨rfl,rfl,rfl,Nat.le_refl _,λ_ _ _=>rfl,λ_ h=>h,λ_ _ _ h=>h,?_,hmono,λ_ h=>.inl h⟩⟩
  · intro i o' ho'
    by_cases hi:i=id
    · subst hi
      rw [upd_same] at ho';cases ho'
      exact ⟨⟨true,0,o.sz,0,o.aN⟩,⟨upd_same _ _ _,rfl,rfl,.inr rfl,.inl ⟨rfl,hrows⟩⟩⟩
    · rw [upd_ne _ _ hi] at ho'
      obtain ⟨m,hm⟩:=hH.obj i o' ho'
      refine ⟨m,⟨by simp only [s',upd_ne _ _ hi];exact hm.hm,hm.bX,hm.hsz,.inl hm.hk,?_⟩⟩
      rcases hm.body with h | ⟨cur',fr',hb'⟩
      · exact .inl h
      · exact .inr ⟨cur',fr',⟨hb'.hnil,hb'.hb,hb'.hfr,hb'.happ,hb'.hcs,hb'.hct,hb'.hlen,hb'.hr,λi r j x v a b c=>hmono _ _ (hb'.hv i r j x v a b c),hb'.h1,hb'.him,hb'.l7⟩⟩
  · intro i i' o1 o2 m m' h1' h2' hm hm' hn hn' he
    by_cases hi:i=id
    · subst hi
      simp only [s',upd_same,Option.some.injEq] at hm
      subst hm;cases hn
    · rw [upd_ne _ _ hi] at h1'
      simp only [s',upd_ne _ _ hi] at hm
      by_cases hi':i'=id
      · subst hi'
        simp only [s',upd_same,Option.some.injEq] at hm'
        subst hm';cases hn'
      · rw [upd_ne _ _ hi'] at h2'
        simp only [s',upd_ne _ _ hi'] at hm'
        exact hH.lH i i' o1 o2 m m' h1' h2' hm hm' hn hn' he
  · obtain ⟨C,hC⟩:=hH.fin
    exact ⟨max C (o.aN+1),λk hk h=>by rcases h with h | h;exact hC k (by omega) h;omega⟩
  · rintro b hb' ⟨i,o',m,q1,q2,q3,q4,q5⟩
    by_cases hi:i=id
    · subst hi
      simp only [s',upd_same,Option.some.injEq] at q3
      subst q3;cases q4
    · rw [upd_ne _ _ hi] at q1
      simp only [s',upd_ne _ _ hi] at q3
      exact ⟨i,o',m,q1,q2,q3,q4,q5⟩
theorem WO {c:Code} {cs:List Code} {f:Nat->Option AV} {hp:AH} {Q:Go.Exit->AS->Prop} (t id:Nat) (e:TypeId) (sz:Nat) (h:f t=some (.sc (.slice none 0 0))) (hid:hp id=none)
    (h1:∀ aN,dF P n Q (c :: cs) ⟨upd f t (some (.sl id aN 0 0)),upd hp id (some ⟨e,sz,true,true,aN,[]⟩)⟩):dF P n Q (c :: cs) ⟨f,hp⟩:=by
  intro s a hs
  obtain ⟨C,hC⟩:=hs.heap.fin
  obtain ⟨s',g1,g2,g3,g4,g5⟩:=xA hs.heap id ⟨e,sz,true,true,C,[]⟩ (hC C (Nat.le_refl _)) rfl (.inl hid)
  have hs':SR n s' ⟨upd f t (some (.sl id C 0 0)),upd hp id (some ⟨e,sz,true,true,C,[]⟩)⟩ a:=by
    refine ⟨hs.size,hs.defers,λi z hz=>?_,g4⟩
    by_cases hi:i=t
    · subst hi
      simp only [upd_same,Option.some.injEq] at hz
      subst hz
      obtain ⟨v,q1,q2⟩:=hs.slot i _ h
      have:=q2.fF;subst this
      refine ⟨_,q1,.sl (by rw [g2];exact .inr rfl) rfl λm hm _=>?_⟩
      rw [g3] at hm;cases hm
      exact ⟨λ_=>⟨rfl,rfl⟩,λh=>by cases h⟩
    · simp only [upd_ne _ _ hi] at hz
      obtain ⟨v,q1,q2⟩:=hs.slot i z hz
      exact ⟨v,q1,g5.vals _ _ q2⟩
  have:=h1 C s' a hs'
  rw [g1] at this
  refine mV this ?_
  rintro e a' w' ⟨S2,s2,q1,q2,q3,q4⟩
  exact ⟨S2,s2,q1,q2,q3,g5.trans q4⟩
def lX (P:Program) (e:TypeId):Option Nat:=(P.info? e).map (·.bytes)
theorem aKJ {i j sz:Nat} (hj:j<sz):(i*sz+j) / sz=i/\(i*sz+j) % sz=j:=by
  have hp:0<sz:=by omega
  constructor
  · rw [Nat.mul_comm,Nat.mul_add_div hp,Nat.div_eq_of_lt hj,Nat.add_zero]
  · rw [Nat.mul_comm,Nat.mul_add_mod,Nat.mod_eq_of_lt hj]
theorem ZA {s:Sit} {sz:Nat} {xs:List (List AV)} {v:Value} (hsz:0<sz) (h:VR s (.list sz xs) v) (h1:∀ r∈xs,iW r=true) :
    (v=.slice none 0 0/\xs=[])\/∃ (ad:Addr) (cap:Nat) (news:List Value),v=.slice (some ad) xs.length cap/\news.length=xs.length*sz/\(∀ (j:Nat) (u:Value),news[j]?=some u->s.w.cell? (ad.add j)=some u) /\
      (∀ u∈news,u.oneCell'=true)/\(∀ r∈xs,r.length=sz)/\∀ (i:Nat) (r:List AV) (j:Nat) (x:AV) (u:Value),xs[i]?=some r->r[j]?=some x->news[i*sz+j]?=some u->VR s x u:=by
  cases h with
  | nil=>exact .inl ⟨rfl,rfl⟩
  | emp _ ad=>exact .inr ⟨ad,0,[],rfl,by simp,by simp,by simp,by simp,by simp⟩
  | list f hI hc hm hr hf hv =>
    rename_i b off cap
    refine .inr ⟨⟨b,off,none⟩,cap,(List.range (xs.length*sz)).map λk=>f (k / sz) (k % sz),rfl,by simp,λj u hu=>?_,λu hu=>?_,λr hr'=>?_,λi r j x u h1' h2 hu=>?_⟩
    · have hj:j<xs.length*sz:=by have:=(List.getElem?_eq_some_iff.1 hu).1;simpa using this
      have hd:j / sz<xs.length:=Nat.div_lt_of_lt_mul (by rw [Nat.mul_comm];exact hj)
      have hmd:j % sz<sz:=Nat.mod_lt _ hsz
      have hxl:xs[j / sz].length=sz:=hr (j / sz) _ (List.getElem?_eq_getElem hd)
      have:=hf (j / sz) xs[j / sz] (j % sz) (xs[j / sz][j % sz]'(by omega)) (List.getElem?_eq_getElem hd) (List.getElem?_eq_getElem (by omega))
      simp only [List.getElem?_map,List.getElem?_range hj,Option.map_some,Option.some.injEq] at hu
      subst hu
      rw [addr_add,<- this]
      congr 2
      have:=Nat.div_add_mod j sz
      rw [Nat.mul_comm] at this;omega
    · obtain ⟨k,hk,rfl⟩:=List.mem_map.1 hu
      have hj:k<xs.length*sz:=by simpa using hk
      have hd:k / sz<xs.length:=Nat.div_lt_of_lt_mul (by rw [Nat.mul_comm];exact hj)
      have hmd:k % sz<sz:=Nat.mod_lt _ hsz
      have hxl:xs[k / sz].length=sz:=hr (k / sz) _ (List.getElem?_eq_getElem hd)
      have hx:=List.getElem?_eq_getElem (l:=xs[k / sz]) (i:=k % sz) (by omega)
      exact (hv (k / sz) xs[k / sz] (k % sz) _ (List.getElem?_eq_getElem hd) hx).one (TU (h1 _ (List.getElem_mem hd)) _ _ hx)
    · obtain ⟨i,hi,rfl⟩:=List.mem_iff_getElem.1 hr'
      exact hr i _ (List.getElem?_eq_getElem hi)
    · have hi:=(List.getElem?_eq_some_iff.1 h1').1
      have hj:j<sz:=by have:=(List.getElem?_eq_some_iff.1 h2).1;rw [hr i r h1'] at this;exact this
      have hlt:i*sz+j<xs.length*sz:=by
        have:(i+1)*sz<=xs.length*sz:=Nat.mul_le_mul_right _ hi
        rw [Nat.add_mul] at this;omega
      obtain ⟨d1,d2⟩:=aKJ (i:=i) hj
      simp only [List.getElem?_map,List.getElem?_range hlt,Option.map_some,Option.some.injEq,d1,d2] at hu
      subst hu
      exact hv i r j x h1' h2
theorem qC {α:Type} {a b:List α} {i:Nat} {r:α} (h:(a++b)[i]?=some r):(i<a.length/\a[i]?=some r)\/(a.length<=i/\b[i-a.length]?=some r):=by
  by_cases hi:i<a.length
  · rw [List.getElem?_append_left hi] at h;exact .inl ⟨hi,h⟩
  · rw [List.getElem?_append_right (by omega)] at h;exact .inr ⟨by omega,h⟩
theorem aNZ {F U V:Nat->Prop} {e:TypeId} {sz by':Nat} {zs:List Value} {id aN k:Nat} {ob:bH} {p:AV} {news:List (List AV)} (hp:rJ F U V)
    (ho:o.op=.call { callee:=.builtin .append,args:=#[x,y],argTypes:=#[T,T] }) (hT:P.underlying T=some (.slice e)) (hz:iR P e=some (sz,zs)) (hby:lX P e=some by')
    (hx:S.ev x=some (.sl id aN 0 k)) (hy:S.ev y=some p) (hob:S.hp id=some ob) (bX:ob.aN=aN) (hmt:ob.mt=true) (happ:ob.app=true) (hel:ob.elem=e) (hosz:ob.sz=sz) (hk:ob.rows.length=k)
    (hcv:Cv S.hp p (.list sz news)) (h1:∀ r∈news,iW r=true) (hfit:(k+news.length)*by'<=140737488355328) (hmax:k+news.length<=9223372036854775807) :
    bY P o S F U (λz H'=>∃ ver',V ver'/\z=.sl id ver' 0 (k+news.length)/\H'=upd S.hp id (some { ob with aN:=ver',rows:=ob.rows++news })):=by
  intro s a next Q hH hops hF hn
  obtain ⟨ver',hV,hU,hun⟩:=hp.get hH hF
  obtain ⟨i,hi,hsz,hzo,hzl,hpos,hzone⟩:=CQ hz
  have hiz:∃ z,i.zero=some z/\z.cells.toList=zs:=by
    unfold zeroOf at hzo;rw [hi] at hzo
    simp only [Option.bind_some] at hzo
    cases hz:i.zero with
    | none=>rw [hz] at hzo;cases hzo
    | some z=>rw [hz] at hzo;exact ⟨z,rfl,by simpa using hzo⟩
  obtain ⟨z,hz1,hz2⟩:=hiz
  have hzc:z.cells.size=sz:=by rw [<- Array.length_toList,hz2,hzl]
  have hib:i.bytes=by':=by unfold lX at hby;rw [hi] at hby;simpa using hby
  have hxv:=hops x (by simp [ho,Op.operands,Call.operands]) _ hx
  have hyv:=hcv s hH _ (hops y (by simp [ho,Op.operands,Call.operands]) _ hy)
  obtain ⟨m,hm⟩:=hH.obj id ob hob
  generalize hux:a.eval x=ux at hxv
  generalize huy:a.eval y=uy at hyv
  cases hxv with
  | sl hk0 hone hh =>
    have hh:=hh m hm.hm (hm.bX.trans bX)
    have run:∀ {w':World} {r:Value},(Builtin.append_ #[T,T] o.type #[ux,uy]).run P s.w=.ok r w'->(execOp a.eval o).run P s.w=.ok (.value r) w':=λh=>by
      simp only [execOp,ho,resolve,invoke,builtin,List.map_toArray,List.map_cons,List.map_nil,Sem.run_bind,Sem.run_pure,Result.andThen_ok,hux,huy,h]
    rcases ZA hpos hyv h1 with ⟨hy0,hnil⟩ | ⟨ad,cap,nv,hy0,hnl,hnc,hn1,hrl,hnv⟩
    · -- nothing is appended
      subst hnil
      have hrun:(Builtin.append_ #[T,T] o.type #[ux,uy]).run P s.w=.ok ux s.w:=by
        rw [hy0]
        rcases hm.body with ⟨hn',_⟩ | ⟨cur,fr,hb⟩
        · obtain ⟨q1,q2⟩:=hh.1 hn'
          rw [q1];simp [Builtin.append_,run_underlying hT,sizeOf,typeInfo,hi,Builtin.lenOf,Builtin.firstCells]
        · obtain ⟨cap,q1,q2,q3⟩:=hh.2 hb.hnil
          rw [q1];simp [Builtin.append_,run_underlying hT,sizeOf,typeInfo,hi,Builtin.lenOf,Builtin.firstCells,q2,storeCells]
      have hrows:({ ob with aN:=ver',rows:=ob.rows++[] }:bH)={ ob with aN:=ver' }:=by simp
      rcases hm.body with ⟨hn',hr0⟩ | ⟨cur,fr,hb⟩
      · obtain ⟨q1,q2⟩:=hh.1 hn'
        obtain ⟨s',g1,g2,g3,g4,g5⟩:=xA hH id { ob with aN:=ver' } hun hr0 (.inr ⟨m,hm.hm,hn'⟩)
        refine kP (w':=s'.w) (by rw [g1];exact run hrun) (hn s' _ (.sl id ver' 0 (k+0)) _ ⟨ver',hV,rfl,by rw [hrows]⟩ ?_ g4 g5 λj hj=>?_)
        · refine .sl (by rw [g2];exact .inr rfl) (by rw [q1];rfl) λm' hm' _=>?_
          rw [g3] at hm';cases hm'
          exact ⟨λ_=>⟨q1,by omega⟩,λh=>by cases h⟩
        · rw [g2] at hj;rcases hj with h | h;exact .inl h;exact .inr (h ▸ hU)
      · obtain ⟨cap,q1,q2,q3⟩:=hh.2 hb.hnil
        obtain ⟨s',g1,g2,g3,g4,g5⟩:=xU hH id { ob with aN:=ver' } m.b m.ct cur s.w rfl rfl rfl (Nat.le_refl _) (λ_ _ _=>rfl) (by rw [hb.hb,hb.happ happ]) (.inr ⟨ob,m,hob,hmt,hm.hm,hb.hnil,rfl⟩) hun hmt hb.hcs hb.hct hb.hlen hb.hr hb.hv hb.h1
        refine kP (w':=s'.w) (by rw [g1];exact run hrun) (hn s' _ (.sl id ver' 0 (k+0)) _ ⟨ver',hV,rfl,by rw [hrows]⟩ ?_ g4 g5 λj hj=>?_)
        · refine .sl (by rw [g2];exact .inr rfl) (by rw [q1];rfl) λm' hm' _=>?_
          rw [g3] at hm';cases hm'
          exact ⟨λh=>(by cases h),λ_=>⟨cap,by rw [q1,Nat.zero_mul,Nat.zero_mul];rfl,by simpa using q2,by simpa using q3⟩⟩
        · rw [g2] at hj;rcases hj with h | h;exact .inl h;exact .inr (h ▸ hU)
    · -- something is
      have hnl':nv.length=news.length*i.size:=by rw [hnl,hsz]
      have fin:∀ (g ct:Nat) (cur':Array Value) (w':World) (cap':Nat),w'.os=s.w.os->w'.tape=s.w.tape->w'.output=s.w.output->s.w.heap.size<=w'.heap.size ->
          (∀ j,j<s.w.heap.size->j≠g->w'.heap[j]?=s.w.heap[j]?)->w'.heap[g]?=some (.cells cur' e (0,0))->(s.w.heap.size<=g\/∃ o0 m0,S.hp id=some o0/\o0.mt=true/\s.mu id=some m0/\m0.nil=false/\m0.b=g) ->
          cur'.size=ct*sz->ct<=maxLen->k+news.length<=cap'->cap'<=ct ->
          (∀ (i:Nat) (r:List AV) (j:Nat) (x:AV) (v:Value),(ob.rows++news)[i]?=some r->r[j]?=some x->cur'[i*sz+j]?=some v->VR s x v) ->
          (∀ (j:Nat) (v:Value),cur'[j]?=some v->v.oneCell'=true) ->
          (Builtin.append_ #[T,T] o.type #[ux,uy]).run P s.w=.ok (.slice (some ⟨g,0,none⟩) (k+news.length) cap') w'->o.wp P a s.w next Q:=by
        intro g ct cur' w' cap' a1 a2 a3 a4 a5 a6 a7 a8 a9 pQ oL a12 yF hrun
        have hrowl:∀ (i:Nat) (r:List AV),(ob.rows++news)[i]?=some r->r.length=sz:=λi r hr=>by
          rcases qC hr with ⟨_,h⟩ | ⟨_,h⟩
          · rcases hm.body with ⟨_,h0⟩ | ⟨_,_,hb⟩
            · rw [h0] at h;simp at h
            · rw [<- hosz];exact hb.hr i r h
          · exact hrl r (List.mem_of_getElem? h)
        obtain ⟨s',g1,g2,g3,g4,g5⟩:=xU hH id { ob with aN:=ver',rows:=ob.rows++news } g ct cur' w' a1 a2 a3 a4 a5 (by rw [a6];simp [hel]) a7 hun hmt (by simpa [hosz] using a8) a9 (by simp only [List.length_append];omega)
          (by simpa [hosz] using hrowl) (by simpa [hosz] using a12) yF
        refine kP (w':=s'.w) (by rw [g1];exact run hrun) (hn s' _ (.sl id ver' 0 (k+news.length)) _ ⟨ver',hV,rfl,rfl⟩ ?_ g4 g5 λj hj=>?_)
        · refine .sl (by rw [g2];exact .inr rfl) rfl λm' hm' _=>?_
          rw [g3] at hm';cases hm'
          exact ⟨λh=>(by cases h),λ_=>⟨cap',by rw [Nat.zero_mul],pQ,by simpa using oL⟩⟩
        · rw [g2] at hj;rcases hj with h | h;exact .inl h;exact .inr (h ▸ hU)
      have hzcells:∀ (q:Nat) (j:Nat) (v:Value),(Builtin.zeroCells z.cells q)[j]?=some v->v.oneCell'=true:=λq j v hv=>by
        simp only [Builtin.zeroCells,Array.getElem?_map] at hv
        obtain ⟨jj,hjj,rfl⟩:=Option.map_eq_some_iff.1 hv
        have hm':jj % z.cells.size<z.cells.size:=Nat.mod_lt _ (by omega)
        rw [getElem!_pos z.cells _ hm']
        exact vQ hzone (jj % z.cells.size) _ (by rw [<- hz2,Array.getElem?_toList];simp [hm'])
      have cells:∀ (olds tail:List Value),olds.length=k*sz->(∀ (i:Nat) (r:List AV) (j:Nat) (x:AV) (v:Value),ob.rows[i]?=some r->r[j]?=some x->olds[i*sz+j]?=some v->VR s x v) ->
          ∀ (i:Nat) (r:List AV) (j:Nat) (x:AV) (v:Value),(ob.rows++news)[i]?=some r->r[j]?=some x->(olds++nv++tail)[i*sz+j]?=some v->VR s x v:=by
        intro olds tail ho1 ho2 i r j x v hr hxx hv
        rcases qC hr with ⟨hi1,h⟩ | ⟨hi1,h⟩
        · have hj:j<sz:=by
            have:=(List.getElem?_eq_some_iff.1 hxx).1
            rcases hm.body with ⟨_,h0⟩ | ⟨_,_,hb⟩
            · rw [h0] at h;simp at h
            · rw [hb.hr i r h,hosz] at this;exact this
          have hlt:i*sz+j<k*sz:=by
            have:(i+1)*sz<=k*sz:=Nat.mul_le_mul_right _ (by omega)
            rw [Nat.add_mul] at this;omega
          rw [List.append_assoc,List.getElem?_append_left (by omega)] at hv
          exact ho2 i r j x v h hxx hv
        · have hj:j<sz:=by have:=(List.getElem?_eq_some_iff.1 hxx).1;rw [hrl r (List.mem_of_getElem? h)] at this;exact this
          have hi2:=(List.getElem?_eq_some_iff.1 h).1
          have hsub:i*sz+j-k*sz=(i-ob.rows.length)*sz+j:=by
            rw [hk,Nat.sub_mul]
            have:k*sz<=i*sz:=Nat.mul_le_mul_right _ (by omega)
            omega
          have hge:k*sz<=i*sz+j:=by
            have:k*sz<=i*sz:=Nat.mul_le_mul_right _ (by omega)
            omega
          have hlt:(i-ob.rows.length)*sz+j<nv.length:=by
            rw [hnl]
            have:(i-ob.rows.length+1)*sz<=news.length*sz:=Nat.mul_le_mul_right _ (by omega)
            rw [Nat.add_mul] at this;omega
          rw [List.append_assoc,List.getElem?_append_right (by omega),ho1,hsub,List.getElem?_append_left hlt] at hv
          exact hnv _ r j x v h hxx hv
      rcases hm.body with ⟨hn',hr0⟩ | ⟨cur,fr,hb⟩
      · -- the nil slice
        obtain ⟨q1,q2⟩:=hh.1 hn'
        subst q2
        by_cases hz0:news.length=0
        · have hnews:news=[]:=List.eq_nil_of_length_eq_zero hz0
          have hrun:(Builtin.append_ #[T,T] o.type #[ux,uy]).run P s.w=.ok ux s.w:=by
            rw [hy0,q1,hz0];simp [Builtin.append_,run_underlying hT,sizeOf,typeInfo,hi,Builtin.lenOf,Builtin.firstCells,loadCells,loadCellsFrom]
          obtain ⟨s',g1,g2,g3,g4,g5⟩:=xA hH id { ob with aN:=ver' } hun hr0 (.inr ⟨m,hm.hm,hn'⟩)
          refine kP (w':=s'.w) (by rw [g1];exact run hrun) (hn s' _ (.sl id ver' 0 (0+news.length)) _ ⟨ver',hV,rfl,by rw [hnews];simp⟩ ?_ g4 g5 λj hj=>?_)
          · refine .sl (by rw [g2];exact .inr rfl) (by rw [q1];rfl) λm' hm' _=>?_
            rw [g3] at hm';cases hm'
            exact ⟨λ_=>⟨q1,by omega⟩,λh=>by cases h⟩
          · rw [g2] at hj;rcases hj with h | h;exact .inl h;exact .inr (h ▸ hU)
        · have hrun:=run_append_nil (P:=P) s.w T o.type e i z hT hi hz1 ad news.length cap nv hnl' hnc (by omega) (by omega) (by rw [hib];simp at hfit;omega)
          have hge:=grownCap_ge s.w news.length 0 e
          refine fin s.w.heap.size (grownCap s.w news.length 0 e) _ (s.w.drew.alloc (.cells (nv.toArray++Builtin.zeroCells z.cells (grownCap s.w news.length 0 e-news.length)) e)) (grownCap s.w news.length 0 e) rfl rfl rfl (by simp) (λj hj _=>alloc_old s.w.drew _ j hj) (qP s.w.drew _) (.inl (Nat.le_refl _)) ?_ (grownCap_le_maxLen _ _ _ _ (by simp only [maxLen];omega)) (by omega) (Nat.le_refl _) ?_ ?_ (by rw [q1,hy0,hrun];simp)
          · rw [Array.size_append,List.size_toArray,size_zeroCells,hzc,hnl,<- Nat.add_mul];congr 1;omega
          · intro i r j x v hr hxx hv
            refine cells [] (Builtin.zeroCells z.cells (grownCap s.w news.length 0 e-news.length)).toList (by simp) (λi r j x v h=>by rw [hr0] at h;simp at h) i r j x v hr hxx ?_
            rw [<- hv,<- Array.getElem?_toList];simp
          · intro j v hv
            rw [<- Array.getElem?_toList,Array.toList_append] at hv
            rcases qC hv with ⟨_,h⟩ | ⟨_,h⟩
            · exact hn1 v (List.mem_of_getElem? h)
            · exact hzcells _ _ v (by rw [<- Array.getElem?_toList];exact h)
      · obtain ⟨cp,q1,q2,q3⟩:=hh.2 hb.hnil
        rw [Nat.zero_mul] at q1
        simp only [Nat.zero_add] at q3
        have hcur:cur.size=m.ct*sz:=by rw [hb.hcs,hosz]
        have hkc:k*sz<=cur.size:=by rw [hcur];exact Nat.mul_le_mul_right _ (by have:=hb.hlen;omega)
        have holdv:∀ (i:Nat) (r:List AV) (j:Nat) (x:AV) (v:Value),ob.rows[i]?=some r->r[j]?=some x->(cur.toList.take (k*sz))[i*sz+j]?=some v->VR s x v:=λi r j x v h1' h2 h3=>by
          have hlt:i*sz+j<k*sz:=by have:=(List.getElem?_eq_some_iff.1 h3).1;simp at this;omega
          rw [List.getElem?_take_of_lt hlt,Array.getElem?_toList] at h3
          exact hb.hv i r j x v h1' h2 (by rw [hosz];exact h3)
        have hheap:s.w.heap[m.b]?=some (.cells cur e (0,0)):=by rw [hb.hb,hb.happ happ,hel]
        by_cases hroom:k+news.length<=cp
        · have hfits:k*i.size+nv.length<=cur.size:=by
            rw [hsz,hnl,<- Nat.add_mul,hcur];exact Nat.mul_le_mul_right _ (by omega)
          have hrun:=run_append_room (P:=P) s.w T o.type e i hT hi m.b k cp cur hheap ad news.length cap nv hnl' hnc hn1 hroom hfits
          rw [hsz] at hrun hfits
          refine fin m.b m.ct _ (s.w.setRow m.b (cur.toList.take (k*sz)++nv++cur.toList.drop (k*sz+nv.length)).toArray) cp rfl rfl rfl (by simp) (λj hj hne=>setRow_other s.w m.b j _ hne) (setRow_heap s.w m.b cur _ e (0,0) hheap) (.inr ⟨ob,m,hob,hmt,hm.hm,hb.hnil,rfl⟩) ?_ hb.hct (by omega) (by omega) ?_ ?_ (by rw [q1,hy0,hrun])
          · rw [List.size_toArray,<- hcur];simp only [List.length_append,List.length_take,List.length_drop,Array.length_toList];omega
          · intro i r j x v hr hxx hv
            exact cells (cur.toList.take (k*sz)) _ (by simp;omega) holdv i r j x v hr hxx (by rw [<- hv,List.getElem?_toArray])
          · intro j v hv
            rw [List.getElem?_toArray] at hv
            rcases qC hv with ⟨_,h⟩ | ⟨_,h⟩
            · rcases qC h with ⟨_,h⟩ | ⟨_,h⟩
              · have hlt:j<k*sz:=by have:=(List.getElem?_eq_some_iff.1 h).1;simp at this;omega
                rw [List.getElem?_take_of_lt hlt,Array.getElem?_toList] at h
                exact hb.h1 _ v h
              · exact hn1 v (List.mem_of_getElem? h)
            · rw [List.getElem?_drop,Array.getElem?_toList] at h
              exact hb.h1 _ v h
        · have hrun := run_append_grow (P := P) s.w T o.type e i z hT hi hz1 ⟨m.b, 0, none⟩ k cp (cur.toList.take (k * sz)) (by rw [hsz]; simp; omega) (λj v hv => by
              rw [addr_add,ED hheap,Nat.zero_add]
              have hlt:j<k*sz:=by have:=(List.getElem?_eq_some_iff.1 hv).1;simp at this;omega
              rw [List.getElem?_take_of_lt hlt,Array.getElem?_toList] at hv;exact hv)
            ad news.length cap nv hnl' hnc (by omega) (by omega) (growslice_fits (by omega) (by rw [hib];exact hfit))
          have hge:=grownCap_ge s.w (k+news.length) cp e
          refine fin s.w.heap.size (grownCap s.w (k+news.length) cp e) _ (s.w.drew.alloc (.cells ((cur.toList.take (k*sz)).toArray++nv.toArray++Builtin.zeroCells z.cells (grownCap s.w (k+news.length) cp e-(k+news.length))) e)) (grownCap s.w (k+news.length) cp e) rfl rfl rfl (by simp) (λj hj _=>alloc_old s.w.drew _ j hj) (qP s.w.drew _) (.inl (Nat.le_refl _)) ?_ (grownCap_le_maxLen _ _ _ _ (by simp only [maxLen];omega)) (by omega) (Nat.le_refl _) ?_ ?_ (by rw [q1,hy0,hrun])
          · rw [Array.size_append,Array.size_append,List.size_toArray,List.size_toArray,size_zeroCells,hzc,hnl]
            have:(cur.toList.take (k*sz)).length=k*sz:=by simp;omega
            rw [this,<- Nat.add_mul,<- Nat.add_mul];congr 1;omega
          · intro i r j x v hr hxx hv
            refine cells (cur.toList.take (k*sz)) (Builtin.zeroCells z.cells (grownCap s.w (k+news.length) cp e-(k+news.length))).toList (by simp;omega) holdv i r j x v hr hxx ?_
            rw [<- hv,<- Array.getElem?_toList];simp
          · intro j v hv
            rw [<- Array.getElem?_toList,Array.toList_append,Array.toList_append] at hv
            rcases qC hv with ⟨_,h⟩ | ⟨_,h⟩
            · rcases qC h with ⟨_,h⟩ | ⟨_,h⟩
              · have hlt:j<k*sz:=by have:=(List.getElem?_eq_some_iff.1 h).1;simp at this;omega
                simp only at h
                rw [List.getElem?_take_of_lt hlt,Array.getElem?_toList] at h
                exact hb.h1 _ v h
              · exact hn1 v (List.mem_of_getElem? h)
            · exact hzcells _ _ v (by rw [<- Array.getElem?_toList];exact h)
end
end Go.Pv
