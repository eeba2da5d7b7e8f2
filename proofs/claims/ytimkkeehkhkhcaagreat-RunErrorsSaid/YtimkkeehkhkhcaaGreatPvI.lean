import Derived.Test.YtimkkeehkhkhcaaGreatPvG
set_option linter.unusedVariables false
set_option linter.unusedSimpArgs false
namespace Go.Pv
section
variable {P:Program} {n:NT} {f:Nat->Option AV} {hp:AH} {ops rest todo:List Oper} {K:AS->Prop} {o:Oper} {Q:Go.Exit->AS->Prop} {x y z:Code} {S:AS}
theorem st {t:Nat} {v:AV} (hw:Wd ops ⟨f,hp⟩ o=some true) (hd:o.dst=some t) (hn:Nat.blt t n.n=true) (hy:bS P o ⟨f,hp⟩ v) (h:Rg P n ops rest ⟨upd f t (some v),hp⟩ K):Rg P n ops (o :: rest) ⟨f,hp⟩ K :=
  TH hw (by rw [hd];exact hn) hy (by rw [hd];exact h)
theorem sk {t:Nat} (hw:Wd ops ⟨f,hp⟩ o=some false) (hd:o.dst=some t) (hn:Nat.blt t n.n=true) (h:Rg P n ops rest ⟨upd f t (some (.sc undef)),hp⟩ K):Rg P n ops (o :: rest) ⟨f,hp⟩ K :=
  V6 hw (by rw [hd];exact hn) (by rw [hd];exact h)
theorem se {t:Nat} {Out:AV->AH->Prop} (hw:Wd ops ⟨f,hp⟩ o=some true) (hd:o.dst=some t) (hn:Nat.blt t n.n=true) (hy:bW P o ⟨f,hp⟩ no any Out)
    (h:∀ v H',Out v H'->Rg P n ops rest ⟨upd f t (some v),H'⟩ K):Rg P n ops (o :: rest) ⟨f,hp⟩ K :=
  yR hw (by rw [hd];exact hn) hy λv H' hO=>by rw [hd];exact h v H' hO
theorem nS {v:AV} {H':AH} (hw:Wd ops ⟨f,hp⟩ o=some true) (hd:o.dst=none) (hy:bW P o ⟨f,hp⟩ no no (λz H=>z=v/\H=H'))
    (h:Rg P n ops rest ⟨f,H'⟩ K):Rg P n ops (o :: rest) ⟨f,hp⟩ K :=
  yR hw (by rw [hd];rfl) (hy.d9 (λ_ h=>h) λ_ h=>h.elim) λv' H2 ⟨_,h2⟩=>by rw [hd,h2];exact h
theorem CZ {p:Prop} [Decidable p] (t:Nat) (h:f t=some (.sc (.bool (decide p)))) (h1:p->Rg P n ops todo ⟨upd f t (some (.sc (.bool true))),hp⟩ K)
    (h2:¬ p->Rg P n ops todo ⟨upd f t (some (.sc (.bool false))),hp⟩ K):Rg P n ops todo ⟨f,hp⟩ K:=aI0 t h h1 h2
theorem XC {b:Bool} (t:Nat) (c:Bool) (h:f t=some (.sc (.bool b))) (e:b=c) (h1:Rg P n ops todo ⟨upd f t (some (.sc (.bool c))),hp⟩ K):Rg P n ops todo ⟨f,hp⟩ K :=
  UK (S:=⟨f,hp⟩) _ t h (by rw [e]) h1
theorem sas {u:AV} (t:Nat) (v:AV) (h:f t=some u) (e:u=v) (h1:Rg P n ops todo ⟨upd f t (some v),hp⟩ K):Rg P n ops todo ⟨f,hp⟩ K :=
  UK (S:=⟨f,hp⟩) v t h e h1
def dI (P:Program) (n:NT) (Q:Go.Exit->AS->Prop):List Code->AS->Prop
  | [],S=>Q .normal S
  | c :: cs,S=>Tr P n c S (Exit.thn (dI P n Q cs) Q)
variable {cs:List Code}
theorem kY (h:dI P n Q [x] S):Tr P n x S Q:=Tr.mono h λe S hq=>by cases e <;> exact hq
theorem lS (h:Q .normal S):dI P n Q [] S:=h
theorem bR (h:dI P n Q (x :: y :: cs) S):dI P n Q (.seq x y :: cs) S :=
  aAN (Tr.mono h λe S hq=>by cases e <;> exact hq)
theorem kE (h:dI P n Q cs S):dI P n Q (.skip :: cs) S:=aDC h
theorem V8 {l:Nat} (h:dI P n Q cs S):dI P n Q (.label l :: cs) S:=YV h
theorem iZ (h:Q .ret S):dI P n Q (.ret :: cs) S:=aG5 h
theorem oV {id:Nat} (h:Q (.exit id) S):dI P n Q (.exit id :: cs) S:=Y8 h
theorem cB {id:Nat} {l:List Oper} (h:∀ K:AS->Prop,(∀ S',dI P n Q cs S'->K S')->Rg P n l l S K) (hd:l.all kN=true:=by rfl):dI P n Q (.region id l.toArray false :: cs) S :=
  aD0 hd (h _ λ_ h=>h)
theorem AM {id:Nat} {l:List Oper} (bm:List Nat) (rd:Nat->Nat->Bool) (wr:Nat->Option Nat) (hm:P.follows .mixedOrders=true) (hB:D6 n l bm rd wr=true)
    (h:∀ C,∀ K:AS->Prop,(∀ S',dI P n Q cs S'->K S')->DG P rd wr C l K l 0 S):dI P n Q (.region id l.toArray true :: cs) S :=
  aBS bm rd wr hm hB λC=>h C _ λ_ h=>h
theorem yL {c:Operand} {b:Bool} (hc:S.ev c=some (.sc (.bool b))) (ht:b=true->dI P n Q (x :: cs) S) (hf:b=false->dI P n Q (y :: cs) S):dI P n Q (.cond c x y :: cs) S :=
  aCR hc ht hf
theorem nV {c:Operand} {p:Prop} [Decidable p] (hc:S.ev c=some (.sc (.bool (decide p)))) (ht:p->dI P n Q (x :: cs) S) (hf:¬ p->dI P n Q (y :: cs) S):dI P n Q (.cond c x y :: cs) S :=
  yL hc (λe=>ht (of_decide_eq_true e)) (λe=>hf (of_decide_eq_false e))
theorem yJ {c:Operand} (hc:S.ev c=some (.sc (.bool true))) (ht:dI P n Q (x :: cs) S):dI P n Q (.cond c x y :: cs) S:=yL hc (λ_=>ht) (λe=>by cases e)
theorem rA {c:Operand} (hc:S.ev c=some (.sc (.bool false))) (ht:dI P n Q (y :: cs) S):dI P n Q (.cond c x y :: cs) S:=yL hc (λe=>by cases e) (λ_=>ht)
theorem pU {id:Nat} (h:∀ Q1:Go.Exit->AS->Prop,(∀ S',dI P n Q cs S'->Q1 .normal S')->(∀ S',dI P n Q cs S'->Q1 (.exit id) S')->(∀ S',Q .ret S'->Q1 .ret S') ->
    (∀ i S',i≠id->Q (.exit i) S'->Q1 (.exit i) S')->dI P n Q1 [x] S):dI P n Q (.block id x :: cs) S :=
  IR (kY (h (Exit.yD id (Exit.thn (dI P n Q cs) Q)) (λ_ h=>h) (λS' h=>by simp only [Exit.yD,if_true];exact h) (λ_ h=>h)
    (λi S' hi h=>by simp only [Exit.yD,if_neg hi];exact h)))
theorem QA {ι:Type} (St:ι->AS) (I:ι->Prop) (μ:ι->Nat) (i₀:ι) (hI:I i₀) (h₀:S.le (St i₀))
    (round:∀ i,I i->∀ Q1:Go.Exit->AS->Prop,(∀ S',(∃ j,I j/\μ j<μ i/\S'.le (St j))->Q1 .normal S')->(∀ id S',Q (.exit id) S'->Q1 (.exit id) S')->(∀ S',Q .ret S'->Q1 .ret S')->dI P n Q1 [x] (St i)) :
    dI P n Q (.loop x :: cs) S :=
  ES (ι:={ i:ι // I i }) (λi=>St i.1) (λi=>μ i.1) ⟨i₀,hI⟩ h₀ λi=>kY (round i.1 i.2 _ (λ_ ⟨j,h1,h2,h3⟩=>⟨⟨j,h1⟩,h2,h3⟩) (λ_ _ h=>h) (λ_ h=>h))
theorem yQ {ι κ:Type} (St:ι->κ->AS) (I:ι->κ->Prop) (μ:ι->κ->Nat) (i₀:ι) (j₀:κ) (hI:I i₀ j₀) (h₀:S.le (St i₀ j₀))
    (round:∀ i j,I i j->∀ Q1:Go.Exit->AS->Prop,(∀ S',(∃ i' j',I i' j'/\μ i' j' < μ i j/\S'.le (St i' j'))->Q1 .normal S')->(∀ id S',Q (.exit id) S'->Q1 (.exit id) S')->(∀ S',Q .ret S'->Q1 .ret S')->dI P n Q1 [x] (St i j)) :
    dI P n Q (.loop x :: cs) S :=
  QA (ι:=ι×κ) (λp=>St p.1 p.2) (λp=>I p.1 p.2) (λp=>μ p.1 p.2) ⟨i₀,j₀⟩ hI h₀ λp hp Q1 h1 h2 h3 =>
    round p.1 p.2 hp Q1 (λS' ⟨i',j',a,b,c⟩=>h1 S' ⟨⟨i',j'⟩,a,b,c⟩) h2 h3
theorem RE (id:Nat) {ob:aW} (ho:hp id=some ob) (h:dI P n Q (x :: cs) ⟨f,upd hp id (some { ob with mt:=false })⟩):dI P n Q (x :: cs) ⟨f,hp⟩:=aEV (S:=⟨f,hp⟩) id ho h
theorem JD {u:AV} (t:Nat) (v:AV) (h:f t=some u) (hc:Cv hp u v) (h1:dI P n Q (x :: cs) ⟨upd f t (some v),hp⟩):dI P n Q (x :: cs) ⟨f,hp⟩:=by
  intro s a hs
  refine h1 s a ⟨hs.size,hs.defers,λi z hz=>?_,hs.heap⟩
  by_cases hi:i=t
  · subst hi
    simp only [upd_same,Option.some.injEq] at hz
    subst hz
    obtain ⟨v',g1,g2⟩:=hs.slot i _ h
    exact ⟨v',g1,hc s hs.heap v' g2⟩
  · simp only [upd_ne _ _ hi] at hz;exact hs.slot i z hz
theorem aIY (id:Nat) {ob:aW} (ho:hp id=some ob) (h:Rg P n ops todo ⟨f,upd hp id (some { ob with mt:=false })⟩ K):Rg P n ops todo ⟨f,hp⟩ K:=aKK (S:=⟨f,hp⟩) id ho h
theorem aK4 {u:AV} (t:Nat) (v:AV) (h:f t=some u) (hc:Cv hp u v) (h1:Rg P n ops todo ⟨upd f t (some v),hp⟩ K):Rg P n ops todo ⟨f,hp⟩ K:=aFX (S:=⟨f,hp⟩) v t h hc h1
def kn:List (Nat×AV)->Nat->Option AV
  | []=>λ_=>none
  | (t,v) :: r=>upd (kn r) t (some v)
def hk:List (Nat×aW)->AH
  | []=>H0
  | (t,v) :: r=>upd (hk r) t (some v)
def KN (f:Nat->Option AV):List (Nat×AV)->Prop
  | []=>True
  | (t,v) :: r=>f t=some v/\KN f r
def HK (H:AH):List (Nat×aW)->Prop
  | []=>True
  | (t,v) :: r=>H t=some v/\HK H r
theorem KN.le {l:List (Nat×AV)} (h:KN f l):∀ t v,kn l t=some v->f t=some v:=by
  induction l with
  | nil=>intro t v h;cases h
  | cons p r ih =>
    intro t v hv
    obtain ⟨q,u⟩:=p
    simp only [kn] at hv
    by_cases ht:t=q
    · subst ht;rw [upd_same] at hv;cases hv;exact h.1
    · rw [upd_ne _ _ ht] at hv;exact ih h.2 t v hv
theorem HK.le {H:AH} {l:List (Nat×aW)} (h:HK H l):∀ t v,hk l t=some v->H t=some v:=by
  induction l with
  | nil=>intro t v h;cases h
  | cons p r ih =>
    intro t v hv
    obtain ⟨q,u⟩:=p
    simp only [hk] at hv
    by_cases ht:t=q
    · subst ht;rw [upd_same] at hv;cases hv;exact h.1
    · rw [upd_ne _ _ ht] at hv;exact ih h.2 t v hv
theorem CV {g:Nat->Option AV} {H H':AH} (h1:∀ t v,g t=some v->f t=some v) (h2:∀ t v,H' t=some v->H t=some v):AS.le ⟨f,H⟩ ⟨g,H'⟩:=λ_ =>
  ⟨λt x hx=>⟨x,h1 t x hx,λ_ h=>h⟩,
   λhs=>⟨λid o ho=>hs.obj id o (h2 id o ho),λi i' o o' m m' a b=>hs.jQ i i' o o' m m' (h2 _ _ a) (h2 _ _ b),hs.im,hs.fin⟩,
   λ_ ⟨id,o,m,a,r⟩=>⟨id,o,m,h2 _ _ a,r⟩⟩
theorem pF {H:AH} {l:List (Nat×AV)} (h1:KN f l):AS.le ⟨f,H⟩ ⟨kn l,H⟩:=CV h1.le λ_ _ h=>h
theorem jZ {f:FuncId} {fn:Func} {c:Code} {args:List AV} {H:AH} {R:AV->AH->Prop} (hf:P.funcs[f]?=some fn) (hb:fn.body=some c) (hle:Nat.ble args.length fn.ntmps=true)
    (h:∀ Q:Go.Exit->AS->Prop,(∀ S' vs H2,kX P S' fn.results.toList vs->(∀ t v,H2 t=some v->S'.hp t=some v)->R (l8 vs) H2->Q .ret S')->(∀ S' vs H2,kX P S' fn.results.toList vs->(∀ t v,H2 t=some v->S'.hp t=some v)->R (l8 vs) H2->Q .normal S') ->
      dI P ⟨fn.ntmps,false,[]⟩ Q [c] ⟨λt=>args[t]?,H⟩):PC P f args H R :=
  C4 hf hb (Nat.le_of_ble_eq_true hle) (kY (h _ (λ_ vs H2 h1 hs h2=>⟨.inr rfl,vs,H2,h1,hs,h2⟩) (λ_ vs H2 h1 hs h2=>⟨.inl rfl,vs,H2,h1,hs,h2⟩)))
theorem wrap64 {a:Int} (h:-9223372036854775808<=a/\a<=9223372036854775807):IntKind.i64.wrap a=a:=IntWalk.i64_in a (by omega)
end
section
variable {P:Program} {n:NT} {S:AS} {o:Oper} {T:TypeId} {x y:Operand}
theorem iO {fo:Operand} {as:List Operand} {ts:Array TypeId} {k:FuncId} {first cap vs args:List AV} {v:AV} (ho:o.op=.call { callee:=.value fo,args:=as.toArray,argTypes:=ts })
    (hf:S.ev fo=some (.fn (.func k) first cap)) (ha:EvL S as vs) (hc:bD P k=true) (hcv:cO S.hp (first++vs++cap) args) (hp:PP P k args (λy=>y=v)):bS P o S v :=
  aAJ ho hf ha hc hcv hp
theorem MZ {C i:Nat} {zs:List Value} (id:Nat) (ho:o.op=.alloc T) (hz:zeroOf P T=some zs) (h1:lF zs=true) :
    bW P o S (·=C+i) (·=C+i) (λy H'=>y=.pt id (C+i) 0 0/\H'=upd S.hp id (some ⟨T,zs.length,true,true,C+i,[zs.map .sc]⟩)):=by
  intro s a next Q h1' h2 h3 h4
  exact xZ id (.one (C+i)) ho hz h1 s a next Q h1' h2 h3 λs' v x H' ⟨aD,hv,e1,e2⟩=>by
    subst hv;exact h4 s' v x H' ⟨e1,e2⟩
def pE (place:Nat->Option (Nat×Nat)):List AV->List (Nat×AV)->Option (List AV)
  | cs,[]=>some cs
  | cs,(i,v) :: r=>match place i with
    | none=>none
    | some (off,size)=>if Nat.beq v.cells.length size && Nat.ble (off+size) cs.length && jF v.cells then pE place (putRow cs off v.cells) r else none
theorem foldl_set:∀ (l:List (Value×Nat)) (off k0:Nat) (cells:Array Value),(∀ (i:Nat) (p:Value×Nat),l[i]?=some p->p.2=k0+i) ->
    (l.foldl (λ(cs:Array Value) (p:Value×Nat)=>cs.setIfInBounds (off+p.2) p.1) cells).size=cells.size /\
    ∀ (k:Nat),off+k0+l.length<=cells.size->(l.foldl (λ(cs:Array Value) (p:Value×Nat)=>cs.setIfInBounds (off+p.2) p.1) cells)[k]?=if off+k0<=k/\k<off+k0+l.length then (l[k-(off+k0)]?).map (·.1) else cells[k]?
  | [],off,k0,cells,_=>⟨rfl,λk _=>by rw [if_neg (by simp)];rfl⟩
  | p :: l,off,k0,cells,h=>by
    have hp:=h 0 p rfl
    obtain ⟨h1,h2⟩:=foldl_set l off (k0+1) (cells.setIfInBounds (off+p.2) p.1) (λi q hq=>by have:=h (i+1) q (by simpa using hq);omega)
    simp only [List.foldl_cons]
    refine ⟨by rw [h1];simp,λk hk=>?_⟩
    simp only [List.length_cons] at hk
    rw [h2 k (by rw [Array.size_setIfInBounds];omega)]
    simp only [List.length_cons]
    by_cases hk':k=off+k0
    · subst hk'
      rw [if_neg (by omega),if_pos (by omega),hp]
      simp [show off+k0<cells.size by omega]
    · by_cases h3:off+(k0+1)<=k/\k<off+(k0+1)+l.length
      · rw [if_pos h3,if_pos (by omega)]
        have:k-(off+k0)=(k-(off+(k0+1)))+1:=by omega
        rw [this];rfl
      · rw [if_neg h3,if_neg (by omega),Array.getElem?_setIfInBounds_ne (by omega)]
def CR (s:Sit) (cs:List AV) (vs:Array Value):Prop:=vs.size=cs.length/\(∀ (i:Nat) (x:AV) (v:Value),cs[i]?=some x->vs[i]?=some v->VR s x v)/\∀ (i:Nat) (v:Value),vs[i]?=some v->v.oneCell'=true
theorem CR.fill {s:Sit} {place:Nat->Option (Nat×Nat)} {ρ:Operand->Value}:∀ (ps:List (Nat×Operand)) (vs:List AV) (cs cs':List AV) (cells:Array Value),vs.length=ps.length ->
    (∀ (i:Nat) (x:AV) (v:Value),vs[i]?=some x->(ps.map λp=>ρ p.2)[i]?=some v->VR s x v)->CR s cs cells->pE place cs ((ps.map (·.1)).zip vs)=some cs' ->
    ∃ cells',Instr.fill place cells (ps.map λp=>(p.1,ρ p.2))=some cells'/\CR s cs' cells'
  | [],[],cs,cs',cells,_,_,hc,hf=>by
    simp only [List.map_nil,List.zip_nil_left,pE,Option.some.injEq] at hf;subst hf;exact ⟨cells,rfl,hc⟩
  | [],_ :: _,_,_,_,h,_,_,_=>by simp at h
  | _ :: _,[],_,_,_,h,_,_,_=>by simp at h
  | p :: ps,v :: vs,cs,cs',cells,hl,hv,hc,hf=>by
    simp only [List.map_cons,List.zip_cons_cons,pE] at hf
    cases hp:place p.1 with
    | none=>rw [hp] at hf;cases hf
    | some q =>
      obtain ⟨off,size⟩:=q
      rw [hp] at hf
      simp only at hf
      split at hf
      · rename_i hcond
        simp only [Bool.and_eq_true] at hcond
        obtain ⟨⟨e1,e2⟩,e3⟩:=hcond
        have e1:=Nat.eq_of_beq_eq_true e1
        have e2:=Nat.le_of_ble_eq_true e2
        have hvr:=hv 0 v (ρ p.2) rfl rfl
        obtain ⟨c1,c2,c3⟩:=hvr.cells e3
        obtain ⟨f1,f2⟩:=foldl_set (ρ p.2).cells.zipIdx.toList off 0 cells (λi q hq=>by simp at hq;obtain ⟨_,_,h⟩:=hq;rw [<- h];simp)
        have hlen:(ρ p.2).cells.zipIdx.toList.length=size:=by simp [c1,e1]
        have f2:=λk=>f2 k (by rw [hlen,hc.1];omega)
        have hcr:CR s (putRow cs off v.cells) ((ρ p.2).cells.zipIdx.toList.foldl (λ(cs:Array Value) (p:Value×Nat)=>cs.setIfInBounds (off+p.2) p.1) cells):=by
          have hfit:off+v.cells.length<=cs.length:=by omega
          refine ⟨by rw [f1,hc.1,M0 hfit],λi y u hy hu=>?_,λi u hu=>?_⟩
          · rw [QY hfit] at hy
            rw [f2] at hu
            by_cases hi:off<=i/\i<off+v.cells.length
            · rw [if_pos hi] at hy
              rw [if_pos (by rw [hlen];omega)] at hu
              refine c2 (i-off) y u hy ?_
              simpa using hu
            · rw [if_neg hi] at hy
              rw [if_neg (by rw [hlen];omega)] at hu
              exact hc.2.1 i y u hy hu
          · rw [f2] at hu
            split at hu
            · exact c3 (i-off) u (by simpa using hu)
            · exact hc.2.2 i u hu
        obtain ⟨cells',g1,g2⟩:=CR.fill ps vs _ cs' _ (by simpa using hl) (λi x u h1 h2=>hv (i+1) x u (by simpa using h1) (by simpa using h2)) hcr hf
        refine ⟨cells',?_,g2⟩
        simp only [List.map_cons,Instr.fill,hp]
        rw [if_neg (by simp only [Bool.or_eq_true,ne_eq,decide_eq_true_eq,not_or];simp [c1,e1,hc.1];omega)]
        rw [<- g1]
        congr 1
        rw [<- Array.foldl_toList]
      · cases hf
def vZ (P:Program) (T:TypeId):Option (List (Nat×Nat)) :=
  match P.underlying T with
  | some (.struct fs)=>fs.toList.mapM λf=>(P.info? f.type).map λi=>(f.offset,i.size)
  | _=>none
theorem run_places {w:World}:∀ (fs:List Field) {pl:List (Nat×Nat)},(fs.mapM λf=>(P.info? f.type).map λi=>(f.offset,i.size))=some pl ->
    (fs.mapM (m:=Sem) λf=>do pure (f.offset,<- sizeOf f.type)).run P w=.ok pl w
  | [],pl,h=>by simp at h;subst h;rfl
  | f :: fs,pl,h=>by
    rw [List.mapM_cons] at h
    cases hi:P.info? f.type with
    | none=>rw [hi] at h;simp at h
    | some i =>
      rw [hi] at h
      cases hr:(fs.mapM λf=>(P.info? f.type).map λi=>(f.offset,i.size)) with
      | none=>rw [hr] at h;simp at h
      | some pr =>
        rw [hr] at h
        simp at h;subst h
        have:=run_places (w:=w) fs hr
        have hsz:(sizeOf f.type).run P w=.ok i.size w:=by simp [sizeOf,typeInfo,program,Sem.run,hi]
        simp only [List.mapM_cons,Sem.run_bind,hsz,Sem.run_pure,Result.andThen_ok,this]
theorem CR.zero (s:Sit) (zs:List Value) (h:lF zs=true) {z:Value} (hz:z.cells.toList=zs):CR s (zs.map .sc) z.cells:=by
  refine ⟨by rw [List.length_map,<- hz,Array.length_toList],λi x v h1 h2=>?_,λi v h2=>qY h i v (by rw [<- hz,Array.getElem?_toList];exact h2)⟩
  rw [<- Array.getElem?_toList,hz] at h2
  rw [List.getElem?_map,h2] at h1
  simp at h1;subst h1;exact .sc _
theorem CR.agg {s:Sit} {cs:List AV} {vs:Array Value} (h:CR s cs vs):VR s (.agg cs) (.agg vs):=.agg h.1.symm h.2.1
theorem F9 {pl:List (Nat×Nat)} {zs:List Value} {ps:List (Nat×Operand)} {vs cs:List AV} (ho:o.op=.build T ps.toArray) (hpl:vZ P T=some pl) (hz:zeroOf P T=some zs) (h1:lF zs=true)
    (he:EvL S (ps.map (·.2)) vs) (hf:pE (λi=>pl[i]?) (zs.map .sc) ((ps.map (·.1)).zip vs)=some cs):bS P o S (.agg cs) :=
  iK λs ρ hH h=>by
    obtain ⟨z,hz1,hz2⟩:=uY hz s.w
    obtain ⟨a1,a2⟩:=he.val (s:=s) (ρ:=ρ) λq hq=>h q (by simp only [ho,Op.operands];simpa using hq)
    obtain ⟨cells',g1,g2⟩:=CR.fill (place:=λi=>pl[i]?) (ρ:=ρ) ps vs _ cs z.cells (by simpa using a1) (by simpa [Function.comp_def] using a2) (CR.zero s zs h1 hz1) hf
    refine ⟨_,g2.agg,?_⟩
    unfold vZ at hpl
    cases hu:P.underlying T with
    | none=>rw [hu] at hpl;cases hpl
    | some d =>
      rw [hu] at hpl
      cases d with
      | struct fs =>
        simp only at hpl
        have hpr:=run_places (P:=P) (w:=s.w) fs.toList hpl
        have hpr':(fs.mapM (m:=Sem) λf=>do pure (f.offset,<- sizeOf f.type)).run P s.w=.ok pl.toArray s.w:=by
          rw [Array.mapM_eq_mapM_toList];simp only [Sem.run_map,hpr,Result.andThen_ok]
        simp only [execOp,ho,Instr.build,Sem.run_bind,hz2,Result.andThen_ok,run_underlying hu,hpr',List.map_toArray,List.getElem?_toArray]
        have g1':Instr.fill (λx=>pl[x]?) z.cells (ps.map λ(i,x)=>(i,ρ x))=some cells':=g1
        rw [g1']
        rfl
      | _=>simp at hpl
theorem TB {s:Sit} {H:AH} (hH:HR s H) (w':World) (hos:w'.os=s.w.os) (htape:w'.tape=s.w.tape) (hout:w'.output=s.w.output) (hsize:w'.heap.size=s.w.heap.size+1)
    (hkeep:∀ k,k<s.w.heap.size->w'.heap[k]?=s.w.heap[k]?) :
    ∃ s':Sit,s'.w=w'/\s'.used=s.used/\s'.Im s.w.heap.size/\HR s' H/\Fr s H s' H:=by
  let s':Sit:={ s with w:=w',Im:=λb=>s.Im b\/b=s.w.heap.size }
  have hmono:∀ x v,VR s x v->VR s' x v:=λx v h=>VR.mono (s:=s) (s':=s') (λb hi=>⟨.inl hi,hkeep b (hH.im b hi)⟩) (λ_ _ h=>.inl h) (λ_ h=>h) h
  refine ⟨s',rfl,rfl,.inr rfl,⟨λi o' ho'=>?_,hH.jQ,λb hb=>?_,hH.fin⟩,⟨hos,htape,hout,by simp [s',hsize],λb hb _=>hkeep b hb,λ_ h=>.inl h,λb hb _ hi=>?_,λ_ _ h=>h,hmono,λ_ h=>h⟩⟩
  · obtain ⟨m,hm⟩:=hH.obj i o' ho'
    refine ⟨m,⟨hm.hm,hm.bP,hm.hsz,hm.hk,?_⟩⟩
    rcases hm.body with hb | ⟨cur,fr,hb⟩
    · exact .inl hb
    · have hlt:m.b<s.w.heap.size:=(Array.getElem?_eq_some_iff.1 hb.hb).1
      exact .inr ⟨cur,fr,⟨hb.hnil,(hkeep m.b hlt).trans hb.hb,hb.hfr,hb.happ,hb.hcs,hb.hct,hb.hlen,hb.hr,λi r j x v a b c=>hmono _ _ (hb.hv i r j x v a b c),hb.h1,λh=>.inl (hb.him h),λh hi=>by
        rcases hi with hi | hi
        · exact hb.jI h hi
        · omega⟩⟩
  · rcases hb with hb | hb
    · have:=hH.im b hb;simp only [s',hsize];omega
    · simp only [s',hsize];omega
  · rcases hi with hi | hi
    · exact hi
    · omega
theorem flat_get {α:Type} {sz:Nat}:∀ {rows:List (List α)} (_:∀ r∈rows,r.length=sz) (i j:Nat) (r:List α) (x:α),rows[i]?=some r->r[j]?=some x->rows.flatten[i*sz+j]?=some x
  | [],_,_,_,_,_,h,_=>by simp at h
  | q :: rows,hl,i,j,r,x,h1,h2=>by
    have hq:=hl q (List.mem_cons_self ..)
    rw [List.flatten_cons]
    cases i with
    | zero =>
      simp at h1;subst h1
      rw [Nat.zero_mul,Nat.zero_add,List.getElem?_append_left (List.getElem?_eq_some_iff.1 h2).1];exact h2
    | succ i =>
      rw [Nat.add_mul,Nat.one_mul,List.getElem?_append_right (by omega)]
      rw [show i*sz+sz+j-q.length=i*sz+j by omega]
      exact flat_get (λr hr=>hl r (List.mem_cons_of_mem _ hr)) i j r x (by simpa using h1) h2
def iW (P:Program) (e:TypeId):Option (Nat×List Value) :=
  match P.info? e,zeroOf P e with
  | some i,some zs=>if Nat.beq zs.length i.size && Nat.blt 0 i.size && lF zs then some (i.size,zs) else none
  | _,_=>none
theorem uE {e:TypeId} {sz:Nat} {zs:List Value} (h:iW P e=some (sz,zs)):∃ i,P.info? e=some i/\i.size=sz/\zeroOf P e=some zs/\zs.length=sz/\0<sz/\lF zs=true:=by
  unfold iW at h
  split at h
  · rename_i i zs' hi hz
    split at h
    · rename_i hc
      simp only [Bool.and_eq_true] at hc
      cases h
      exact ⟨i,hi,rfl,hz,Nat.eq_of_beq_eq_true hc.1.1,by simpa [Nat.blt_eq] using hc.1.2,hc.2⟩
    · cases h
  · cases h
def pY (zs:List Value):Nat->List AV
  | 0=>[]
  | n+1=>zs.map .sc++pY zs n
theorem I6 (zs:List Value):∀ n,(pY zs n).length=n*zs.length
  | 0=>by simp [pY]
  | n+1=>by simp [pY,I6 zs n,Nat.add_mul];omega
theorem FU (zs:List Value) (hz:0<zs.length):∀ (n k:Nat),k<n*zs.length->(pY zs n)[k]?=(zs[k % zs.length]?).map .sc
  | 0,k,h=>by simp at h
  | n+1,k,h=>by
    simp only [pY]
    by_cases hk:k<zs.length
    · rw [List.getElem?_append_left (by simpa using hk),List.getElem?_map,Nat.mod_eq_of_lt hk]
    · have h':k<n*zs.length+zs.length:=by rw [Nat.add_mul,Nat.one_mul] at h;exact h
      have hm:k % zs.length=(k-zs.length) % zs.length:=Nat.mod_eq_sub_mod (by omega)
      rw [List.getElem?_append_right (by rw [List.length_map];omega),List.length_map,FU zs hz n (k-zs.length) (by omega),hm]
theorem dY {e:TypeId} {sz N:Nat} {zs:List Value} {ps:List (Nat×Operand)} {vs:List AV} {rows:List (List AV)} (ho:o.op=.buildSlice T N ps.toArray) (hT:P.underlying T=some (.slice e)) (hz:iW P e=some (sz,zs))
    (he:EvL S (ps.map (·.2)) vs) (hf:pE (λi=>some (i*sz,sz)) (pY zs N) ((ps.map (·.1)).zip vs)=some rows.flatten) (hN:Nat.ble (N*sz) 16777216=true) (hr:(rows.all λr=>Nat.beq r.length sz)=true) (hrl:rows.length=N) :
    bS P o S (.list sz rows):=by
  intro s a next Q hH hops _ hn
  obtain ⟨i,hi,hsz,hzo,hzl,hpos,h1⟩:=uE hz
  obtain ⟨z,hz1,hz2⟩:=uY hzo s.w
  have hzc:z.cells.size=sz:=by rw [<- Array.length_toList,hz1,hzl]
  have hN':=Nat.le_of_ble_eq_true hN
  have hrr:∀ r∈rows,r.length=sz:=λr hr'=>by rw [List.all_eq_true] at hr;exact Nat.eq_of_beq_eq_true (hr r hr')
  obtain ⟨a1,a2⟩:=he.val (s:=s) (ρ:=a.eval) λq hq=>hops q (by simp only [ho,Op.operands];simpa using hq)
  let z0:Array Value:=(Array.range (N*sz)).map (z.cells[· % z.cells.size]!)
  have hc0:CR s (pY zs N) z0:=by
    have hget:∀ k,k<N*sz->z0[k]?=zs[k % sz]?:=λk hk=>by
      have hm:k % sz<sz:=Nat.mod_lt _ hpos
      simp only [z0,Array.getElem?_map,Array.getElem?_range,hk,if_true,Option.map_some,hzc]
      rw [<- hz1,Array.getElem?_toList]
      rw [getElem!_pos z.cells (k % sz) (by omega),Array.getElem?_eq_getElem (by omega)]
    have hsize:z0.size=N*sz:=by simp [z0]
    refine ⟨by rw [hsize,I6,hzl],λk x v h1' h2=>?_,λk v h2=>?_⟩
    · have hk:k<N*sz:=by have:=(Array.getElem?_eq_some_iff.1 h2).1;omega
      rw [hget k hk] at h2
      rw [FU zs (by omega) N k (by rw [hzl];exact hk),hzl,h2] at h1'
      simp at h1';subst h1';exact .sc _
    · have hk:k<N*sz:=by have:=(Array.getElem?_eq_some_iff.1 h2).1;omega
      rw [hget k hk] at h2
      exact qY h1 _ _ h2
  obtain ⟨cells',g1,g2⟩:=CR.fill (place:=λi=>some (i*sz,sz)) (ρ:=a.eval) ps vs _ rows.flatten z0 (by simpa using a1) (by simpa [Function.comp_def] using a2) hc0 hf
  obtain ⟨s',e1,e2,e3,e4,e5⟩:=TB hH (s.w.alloc (.cells cells' e)) rfl rfl rfl (by simp) (λk hk=>alloc_old s.w _ k hk)
  have hfl:rows.flatten.length=N*sz:=by
    rw [List.length_flatten,<- hrl]
    clear hf g1 g2 hc0 hrl a1 a2 he hn
    induction rows with
    | nil=>simp
    | cons r rs ih=>simp only [List.map_cons,List.sum_cons,List.length_cons,Nat.add_mul];rw [ih (by simp only [List.all_cons,Bool.and_eq_true] at hr;exact hr.2) (λr hr'=>hrr r (List.mem_cons_of_mem _ hr')),hrr _ (List.mem_cons_self ..)];omega
  refine jM (w':=s'.w) (v:=.slice (some ⟨s.w.heap.size,0,none⟩) N N) ?_ (hn s' _ (.list sz rows) _ ⟨rfl,rfl⟩ ?_ e4 e5 λk hk=>.inl (e2 ▸ hk))
  · rw [e1]
    have hsz':(sizeOf e).run P s.w=.ok sz s.w:=by simp [sizeOf,typeInfo,program,Sem.run,hi,hsz]
    have hbig:¬ (N*sz>2 ^ 24):=by omega
    have g1':Instr.fill (λi=>some (i*sz,sz)) z0 (ps.map λ(i,x)=>(i,a.eval x))=some cells':=g1
    by_cases h0:N*sz=0
    · have hzz:(Array.range 0).map ((#[]:Array Value)[· % (#[]:Array Value).size]!)=z0:=by simp [z0,h0]
      simp only [execOp,ho,Instr.buildSlice,Sem.run_bind,run_underlying hT,hsz',Result.andThen_ok,h0,if_true,Sem.run_pure,List.map_toArray]
      rw [if_neg (by simp)]
      simp only [Sem.run_bind,Sem.run_pure,Result.andThen_ok,hzz,g1',newRow,newObj,Sem.run]
      rfl
    · simp only [execOp,ho,Instr.buildSlice,Sem.run_bind,run_underlying hT,hsz',Result.andThen_ok,h0,hbig,if_false,Sem.run_pure,List.map_toArray,hz2]
      have hzz:(Array.range (N*sz)).map (z.cells[· % z.cells.size]!)=z0:=rfl
      simp only [hzz,g1',Sem.run_bind,newRow,newObj,Sem.run,Sem.run_pure]
      rfl
  · have hnew:(s'.w).heap[s.w.heap.size]?=some (.cells cells' e (0,0)):=by rw [e1];exact mZ s.w _
    have hcell:∀ k,s'.w.cell? ⟨s.w.heap.size,k,none⟩=cells'[k]?:=λk=>rX hnew
    have hat:∀ (i:Nat) (r:List AV) (j:Nat) (x:AV),rows[i]?=some r->r[j]?=some x->∃ v,cells'[0+i*sz+j]?=some v/\VR s' x v:=λi r j x h1' h2=>by
      have hfx:=flat_get hrr i j r x h1' h2
      have hlt:i*sz+j<cells'.size:=by rw [g2.1];exact (List.getElem?_eq_some_iff.1 hfx).1
      exact ⟨cells'[i*sz+j],by simp [hlt],e5.vals _ _ (g2.2.1 _ x _ hfx (by simp [hlt]))⟩
    have hlen:N<=maxLen:=by
      have:N*1<=N*sz:=Nat.mul_le_mul_left _ hpos
      simp only [maxLen];omega
    have:=VR.list (s:=s') (sz:=sz) (xs:=rows) (b:=s.w.heap.size) (off:=0) (cap:=N) (λi j=>(cells'[0+i*sz+j]?).getD undef) e3 (by omega) hlen
      (λi r hir=>hrr r (List.mem_of_getElem? hir)) (λi r j x h1' h2=>by obtain ⟨v,q1,_⟩:=hat i r j x h1' h2;rw [hcell,q1];rfl) (λi r j x h1' h2=>by obtain ⟨v,q1,q2⟩:=hat i r j x h1' h2;rw [q1];exact q2)
    rw [hrl] at this
    exact this
end
end Go.Pv
