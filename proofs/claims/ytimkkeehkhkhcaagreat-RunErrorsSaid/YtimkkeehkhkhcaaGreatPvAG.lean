import Derived.Test.YtimkkeehkhkhcaaGreatPvAE
set_option linter.unusedVariables false
set_option linter.unusedSimpArgs false
namespace Go.Pv
def rl {α:Type}:List (Nat×α)->α->Nat->α
  | [],d,_=>d
  | (j,v) :: r,d,i=>bif Nat.beq i j then v else rl r d i
section
variable {P:Program} {n:NT} {ops:List Oper} {rdl kpl:Nat->List Nat} {pu:Nat->Bool} {K:AS->Prop} {pi:List Nat} {i t:Nat} {o:Oper} {f:Nat->Option AV} {hp:AH} {x y:Operand} {v:AV}
theorem eP (hy:∀ H,(∀ k,k∈rdl i->H k=hp k)->bS P o ⟨f,H⟩ v) (h:DE P ops rdl kpl pu K pi ⟨upd f t (some v),hp⟩) (ho:ops[i]?=some o:=by rfl) (hpu:pu i=true:=by rfl) (hw:Wd ops ⟨f,hp⟩ o=some true:=by rfl) (hd:o.dst=some t:=by rfl) (hs:qQ (rdl i)=true:=by rfl) :
    DE P ops rdl kpl pu K (i :: pi) ⟨f,hp⟩:=kT ho hpu hw hd hy h hs
theorem eM (h:DE P ops rdl kpl pu K pi ⟨upd f t (some v),hp⟩) (ho:ops[i]?=some o:=by rfl) (hm:o.op=.move x:=by rfl) (hx:(AS.mk f hp).ev x=some v:=by rfl) (hpu:pu i=true:=by rfl) (hw:Wd ops ⟨f,hp⟩ o=some true:=by rfl) (hd:o.dst=some t:=by rfl) (hs:qQ (rdl i)=true:=by rfl) :
    DE P ops rdl kpl pu K (i :: pi) ⟨f,hp⟩:=kT ho hpu hw hd (λH hH=>bM hm hx) h hs
theorem eA (h:DE P ops rdl kpl pu K pi ⟨upd f t (some v),hp⟩) (ho:ops[i]?=some o:=by rfl) (hm:o.op=.assign x:=by rfl) (hx:(AS.mk f hp).ev x=some v:=by rfl) (hpu:pu i=true:=by rfl) (hw:Wd ops ⟨f,hp⟩ o=some true:=by rfl) (hd:o.dst=some t:=by rfl) (hs:qQ (rdl i)=true:=by rfl) :
    DE P ops rdl kpl pu K (i :: pi) ⟨f,hp⟩:=kT ho hpu hw hd (λH hH=>eO hm hx) h hs
theorem eL {T k id aD row off:Nat} {b:Bool} {ob:aW} {r:List AV} (hT:gF P T=some (k,b)) (h:DE P ops rdl kpl pu K pi ⟨upd f t (some v),hp⟩) (ho:ops[i]?=some o:=by rfl) (hm:o.op=.load T x:=by rfl)
    (hx:(AS.mk f hp).ev x=some (.pt id aD row off):=by rfl) (hi:id∈rdl i:=by decide) (hb:hp id=some ob:=by rfl) (hr:ob.rows[row]?=some r:=by rfl) (he:ob.aD=aD:=by rfl) (hv:jU k b (r.drop off)=some v:=by rfl)
    (hpu:pu i=true:=by rfl) (hw:Wd ops ⟨f,hp⟩ o=some true:=by rfl) (hd:o.dst=some t:=by rfl) (hs:qQ (rdl i)=true:=by rfl) :
    DE P ops rdl kpl pu K (i :: pi) ⟨f,hp⟩:=kT ho hpu hw hd (λH hH=>fG hm hT hx (.pt ((hH _ hi).trans hb) he hr) hv) h hs
theorem eF {T k id aD row off j:Nat} {ob:aW} {r:List AV} (hT:jC P T j=some k) (h:DE P ops rdl kpl pu K pi ⟨upd f t (some (.pt id aD row (off+k))),hp⟩) (ho:ops[i]?=some o:=by rfl) (hm:o.op=.fieldAddr T x j:=by rfl)
    (hx:(AS.mk f hp).ev x=some (.pt id aD row off):=by rfl) (hi:id∈rdl i:=by decide) (hb:hp id=some ob:=by rfl) (hr:ob.rows[row]?=some r:=by rfl) (he:ob.aD=aD:=by rfl)
    (hpu:pu i=true:=by rfl) (hw:Wd ops ⟨f,hp⟩ o=some true:=by rfl) (hd:o.dst=some t:=by rfl) (hs:qQ (rdl i)=true:=by rfl) :
    DE P ops rdl kpl pu K (i :: pi) ⟨f,hp⟩:=kT ho hpu hw hd (λH hH=>dX hm hT hx (.pt ((hH _ hi).trans hb) he hr) (.pt _ _ _ _ _)) h hs
end
section
variable {P:Program} {n:NT} {Q0:Go.Exit->AS->Prop} {st:List Fm} {cs:List Code} {f:Nat->Option AV} {hp:AH} {ops rest:List Oper} {o:Oper} {x y:Operand}
theorem sS (ob':aW) {T id aD row off k:Nat} {b:Bool} {ob:aW} {r:List AV} {v:AV} (hT0:gF P T=some (k,b)) (h:RR P n Q0 st ops rest cs ⟨f,upd hp id (some ob')⟩) (ho:o.op=.store T x y:=by rfl) (hx:(AS.mk f hp).ev x=some (.pt id aD row off):=by rfl) (hy:(AS.mk f hp).ev y=some v:=by rfl)
    (hob:hp id=some ob:=by rfl) (bP:ob.aD=aD:=by rfl) (hmt:ob.mt=true:=by rfl) (hr:ob.rows[row]?=some r:=by rfl) (hcl:v.cells.length=k:=by rfl) (hfit0:Nat.ble (off+k) r.length=true:=by rfl) (h1:jF v.cells=true:=by rfl)
    (e:{ ob with rows:=ob.rows.set row (putRow r off v.cells) }=ob':=by rfl) (hw:Wd ops ⟨f,hp⟩ o=some true:=by rfl) (hd:o.dst=none:=by rfl):RR P n Q0 st ops (o :: rest) cs ⟨f,hp⟩ :=
  aGZ hw hd (fH (dZ ho hT0 hx hy hob bP hmt hr hcl hfit0 h1) e) h
theorem sA (id:Nat) {T t:Nat} {zs:List Value} (hz:zeroOf P T=some zs) (h:∀ aD,RR P n Q0 st ops rest cs ⟨upd f t (some (.pt id aD 0 0)),upd hp id (some ⟨T,zs.length,true,true,aD,[zs.map .sc]⟩)⟩)
    (ho:o.op=.alloc T:=by rfl) (h1:lF zs=true:=by rfl) (hw:Wd ops ⟨f,hp⟩ o=some true:=by rfl) (hd:o.dst=some t:=by rfl) (hn:Nat.blt t n.n=true:=by rfl):RR P n Q0 st ops (o :: rest) cs ⟨f,hp⟩ :=
  bO hw hd hn (xZ id .any ho hz h1) (by rintro _ _ ⟨v,-,rfl,rfl⟩;exact h v)
theorem sB (id:Nat) {T t:Nat} {v:AV} (h:∀ aD,RR P n Q0 st ops rest cs ⟨upd f t (some (.pt id aD 0 0)),upd hp id (some ⟨T,v.cells.length,true,true,aD,[v.cells]⟩)⟩)
    (ho:o.op=.box T x:=by rfl) (hx:(AS.mk f hp).ev x=some v:=by rfl) (h1:jF v.cells=true:=by rfl) (hw:Wd ops ⟨f,hp⟩ o=some true:=by rfl) (hd:o.dst=some t:=by rfl) (hn:Nat.blt t n.n=true:=by rfl):RR P n Q0 st ops (o :: rest) cs ⟨f,hp⟩ :=
  bO hw hd hn (BD id .any ho hx h1) (by rintro _ _ ⟨v,-,rfl,rfl⟩;exact h v)
def evs (S:AS):List Operand->Option (List AV)
  | []=>some []
  | x :: r=>match S.ev x with
    | some v=>match evs S r with
      | some vs=>some (v :: vs)
      | none=>none
    | none=>none
theorem EB {S:AS}:∀ {as:List Operand} {vs:List AV},evs S as=some vs->EvL S as vs
  | [],vs,h=>by simp only [evs,Option.some.injEq] at h;subst h;exact .nil
  | x :: r,vs,h=>by
    unfold evs at h
    split at h
    · rename_i v hv
      split at h
      · rename_i us hu
        simp only [Option.some.injEq] at h;subst h;exact .cons hv (EB hu)
      · cases h
    · cases h
theorem sC {fo:Operand} {as:List Operand} {ts:Array TypeId} {k t:Nat} {first cap vs args:List AV} {v:AV} (hc:bD P k=true) (hp':PP P k args (λy=>y=v)) (h:RR P n Q0 st ops rest cs ⟨upd f t (some v),hp⟩)
    (ho:o.op=.call { callee:=.value fo,args:=as.toArray,argTypes:=ts }:=by rfl) (hf:(AS.mk f hp).ev fo=some (.fn (.func k) first cap):=by rfl) (ha:evs (AS.mk f hp) as=some vs:=by rfl)
    (hcv:first++vs++cap=args:=by rfl) (hw:Wd ops ⟨f,hp⟩ o=some true:=by rfl) (hd:o.dst=some t:=by rfl) (hn:Nat.blt t n.n=true:=by rfl):RR P n Q0 st ops (o :: rest) cs ⟨f,hp⟩ :=
  E7 hw hd hn (iO ho hf (EB ha) hc (by rw [hcv];exact cO.refl _) hp') h
theorem sY {t:Nat} {v:AV} (hy:bS P o ⟨f,hp⟩ v) (h:RR P n Q0 st ops rest cs ⟨upd f t (some v),hp⟩) (hw:Wd ops ⟨f,hp⟩ o=some true:=by rfl) (hd:o.dst=some t:=by rfl) (hn:Nat.blt t n.n=true:=by rfl):RR P n Q0 st ops (o :: rest) cs ⟨f,hp⟩:=E7 hw hd hn hy h
theorem wR {S:AS} {rs:List ResultVar} {vs:List AV} {G:List AV->AH->Prop} (hret:∀ (S':AS) (vs:List AV) (H2:AH),kX P S' rs vs->(∀ t v,H2 t=some v->S'.hp t=some v)->G vs H2->Q0 .ret S') (hR:kX P S rs vs) (h:G vs S.hp):dI P n (QQ P n Q0 st) (.ret :: cs) S :=
  fF (hret S vs S.hp hR (λ_ _ h=>h) h)
theorem rC {S:AS} {t T k id aD row off:Nat} {b:Bool} {v:AV} {ob:aW} {r:List AV} {rs:List ResultVar} {vs:List AV} (hT:gF P T=some (k,b)) (hr:kX P S rs vs) (h:S.sl t=some (.pt id aD row off):=by rfl) (ho:S.hp id=some ob:=by rfl) (hv:ob.aD=aD:=by rfl)
    (hw:ob.rows[row]?=some r:=by rfl) (hc:jU k b (r.drop off)=some v:=by rfl):kX P S (.cell t T :: rs) (v :: vs):=.cell h (.pt ho hv hw) hT hc hr
theorem rT {S:AS} {t:Nat} {v:AV} {rs:List ResultVar} {vs:List AV} (hr:kX P S rs vs) (h:S.sl t=some v:=by rfl):kX P S (.tmp t :: rs) (v :: vs):=.tmp h hr
end
section
variable {P:Program} {S:AS} {o:Oper} {T K E:TypeId} {x y:Operand}
theorem aKY {l:List Int} {k:Nat} (h:l.length=k):l.map int=(List.range k).map λi=>int (l.getD i 0):=by
  subst h
  refine List.ext_getElem (by simp) λi h1 h2=>?_
  simp only [List.getElem_map,List.getElem_range]
  have h3:i<l.length:=by simpa using h1
  simp [List.getD,List.getElem?_eq_getElem h3]
theorem aEK {id aD k:Nat} {ob:aW} {l:List Int} (ho:o.op=.load T x) (hT:gF P T=some (k,true)) (hx:S.ev x=some (.pt id aD 0 0))
    (hob:S.hp id=some ob) (bP:ob.aD=aD) (hr:ob.rows=[l.map int]) (hl:l.length=k):bS P o S (.agg ((List.range k).map λi=>int (l.getD i 0))) :=
  fG ho hT hx (.pt hob bP (r:=l.map int) (by rw [hr];rfl)) (by
    rw [<- aKY hl]
    show jU k true (l.map int)=_
    unfold jU
    rw [if_pos rfl,if_pos (by simp [hl]),List.take_of_length_le (by simp [hl])])
structure MapAt (s:Sit) (H:AH) (b:Nat) (ks:List Int) (xs:List AV):Prop where
  him:¬ s.Im b
  hno:¬ jY s H b
  at':∃ es clock,s.w.heap[b]?=some (.map es clock)/\es.toList.map (·.key)=ks.map (Value.int .i64)/\xs.length=es.toList.length/\∀ (i:Nat) (x:AV) (e:MapEntry),xs[i]?=some x->es.toList[i]?=some e->VR s x e.val
theorem aGW {s:Sit} {H:AH} {b id:Nat} {ob:aW} {m:Mu} {cur:Array Value} {fr:Nat×Nat} (him:¬ s.Im b) (hno:¬ jY s H b) (h:H id=some ob) (hm:s.mu id=some m) (hb:rJ s ob m cur fr):m.b≠b:=by
  intro e
  cases hmt:ob.mt with
  | true=>exact hno ⟨id,ob,m,h,hmt,hm,hb.hnil,e⟩
  | false=>exact him (e ▸ hb.him hmt)
theorem yS {s:Sit} {H:AH} (hH:HR s H) (w':World) (hsize:s.w.heap.size<=w'.heap.size) (hk:∀ j,(s.Im j\/∃ id o m,H id=some o/\s.mu id=some m/\m.nil=false/\m.b=j)->w'.heap[j]?=s.w.heap[j]?) :
    HR { s with w:=w' } H/\∀ x v,VR s x v->VR { s with w:=w' } x v:=by
  have hmono:∀ x v,VR s x v->VR { s with w:=w' } x v:=λx v h=>VR.mono (s:=s) (s':={ s with w:=w' }) (λb hi=>⟨hi,hk b (.inl hi)⟩) (λi m' hm'=>.inl hm') (λ_ h=>h) h
  refine ⟨⟨λid o ho=>?_,hH.jQ,λb hb=>Nat.lt_of_lt_of_le (hH.im b hb) hsize,hH.fin⟩,hmono⟩
  obtain ⟨m,hm⟩:=hH.obj id o ho
  refine ⟨m,hm.hm,hm.bP,hm.hsz,hm.hk,?_⟩
  rcases hm.body with h | ⟨cur,fr,hb⟩
  · exact .inl h
  · exact .inr ⟨cur,fr,⟨hb.hnil,(hk _ (.inr ⟨id,o,m,ho,hm.hm,hb.hnil,rfl⟩)).trans hb.hb,hb.hfr,hb.happ,hb.hcs,hb.hct,hb.hlen,hb.hr,λi r j x v a b c=>hmono _ _ (hb.hv i r j x v a b c),hb.h1,hb.him,hb.jI⟩⟩
theorem SR.vals {n:NT} {s s':Sit} {S:AS} {a:Act} (hs:SR n s S a) (hH:HR s' S.hp) (hv:∀ x v,VR s x v->VR s' x v):SR n s' S a :=
  ⟨hs.size,hs.defers,λt x hx=>let ⟨v,h1,h2⟩:=hs.slot t x hx;⟨v,h1,hv _ _ h2⟩,hH⟩
variable {n:NT} {ops rest:List Oper} {K':AS->Prop}
variable {Q0:Go.Exit->AS->Prop} {st:List Fm} {cs:List Code} {b:Nat} {ks:List Int} {xs:List AV}
end
end Go.Pv
