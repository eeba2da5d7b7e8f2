import Derived.Test.YtidcjedeacampaaGreatPwD
set_option linter.unusedVariables false
set_option linter.unusedSimpArgs false
namespace Go.Pv
theorem fK {P:Program} {o:Oper} {f:FS} {hp:AH} {v:AV} {tb:iU} (h:eH P o ⟨f,hp⟩ v):∀ H,H=hp->gH P tb->eH P o ⟨f,H⟩ v:=λH e _=>by rw [e];exact h
def pw {α β:Type} {γ:Type 1} (f:α->β->γ) (p:α×β):γ:=f p.1 p.2
theorem bT {P:Program} {i:Ix} {α β:Type} (f:α->β->WT P i) (p:α×β):(pw f p).run=p2 (λa b=>(f a b).run) p:=rfl
section
variable {P:Program} {tb:iU} {f:FS} {hp:AH} {vs:List (Nat×Nat)} {o:Oper} {T:TypeId} {x y:Operand} {Ag:AH->Prop} {k:AV->Prop}
theorem ZR {fl m id aU row off:Nat} {ob:cO} {r:List AV} (ho:o.op=.fieldAddr T x fl) (hT:sW tb.fo T fl=some m) (hx:(AS.mk f hp).ev x=some (.pt id aU row off)) (hob:hp id=some ob) (hv:ob.aU=aU)
    (hr:ob.rows[row]?=some r) (hag:∀ H,Ag H->H id=hp id) (a:fF vs) (g:k (.pt id aU row (off+m))):Ev vs (λv=>∀ H,Ag H->gH P tb->eH P o ⟨f,H⟩ v) k :=
  .mk _ (λH hA ht=>iC ho (ht.b.PT hT) ((iY x).trans hx) (.pt ((hag H hA).trans hob) hv hr) (.pt _ _ _ _ _)) g a
theorem Z9 {id aU row off:Nat} {ob:cO} {r:List AV} (ho:o.op=.nilCheck x) (hx:(AS.mk f hp).ev x=some (.pt id aU row off)) (hob:hp id=some ob) (hv:ob.aU=aU)
    (hr:ob.rows[row]?=some r) (hag:∀ H,Ag H->H id=hp id) (a:fF vs) (g:k (.pt id aU row off)):Ev vs (λv=>∀ H,Ag H->gH P tb->eH P o ⟨f,H⟩ v) k :=
  .mk _ (λH hA ht=>mI ho ((iY x).trans hx) (.pt ((hag H hA).trans hob) hv hr)) g a
theorem UT {m id aU row off:Nat} {b:Bool} {ob:cO} {r:List AV} (ho:o.op=.load T x) (hT:gD tb.sh T=some (m,b)) (hx:(AS.mk f hp).ev x=some (.pt id aU row off)) (hob:hp id=some ob) (hv:ob.aU=aU)
    (hr:ob.rows[row]?=some r) (hag:∀ H,Ag H->H id=hp id) (a:fF vs) (g:match kP m b (r.drop off) with | some v=>B7 v k | none=>False):Ev vs (λv=>∀ H,Ag H->gH P tb->eH P o ⟨f,H⟩ v) k:=by
  split at g
  · rename_i v hc
    exact .mk _ (λH hA ht=>gQ ho (ht.b.pG hT) ((iY x).trans hx) (.pt ((hag H hA).trans hob) hv hr) hc) (RB g) a
  · exact g.elim
theorem YV {α:Type} {e sz kk id aU:Nat} {b:Bool} {ik:IntKind} {i:Int} {ob:cO} {l:List α} {v:α} (ho:o.op=.indexAddr T x y) (hT:gD tb.se T=some e) (he:gD tb.sh e=some (sz,b))
    (hx:(AS.mk f hp).ev x=some (.sl id aU 0 kk)) (hy:(AS.mk f hp).ev y=some (.sc (.int ik i))) (hob:hp id=some ob) (eO:ob.aU=aU) (hsz:ob.sz=sz) (hrl:ob.rows.length=l.length) (h:ix l i=some v) (hk:kk=l.length)
    (hag:∀ H,Ag H->H id=hp id) (a:fF vs) (g:k (.pt id aU i.toNat 0)):Ev vs (λv=>∀ H,Ag H->gH P tb->eH P o ⟨f,H⟩ v) k :=
  .mk _ (λH hA ht=>iT ho (ht.qQ hT) (ht.b.pG he) ((iY x).trans hx) ((iY y).trans hy) ((hag H hA).trans hob) eO hsz hk hrl h) g a
theorem X7 {N e m id aU row off:Nat} {b:Bool} {ob:cO} {r:List AV} {ik:IntKind} {i:Int} (ho:o.op=.indexAddr T x y) (hT:gD tb.ar T=some (N,e)) (he:gD tb.sh e=some (m,b)) (hx:(AS.mk f hp).ev x=some (.pt id aU row off)) (hy:(AS.mk f hp).ev y=some (.sc (.int ik i)))
    (hob:hp id=some ob) (eO:ob.aU=aU) (hr:ob.rows[row]?=some r) (hi:0<=i/\i<(N:Int)) (hag:∀ H,Ag H->H id=hp id) (a:fF vs) (g:k (.pt id aU row (off+i.toNat*m))):Ev vs (λv=>∀ H,Ag H->gH P tb->eH P o ⟨f,H⟩ v) k :=
  .mk _ (λH hA ht=>iJ ho (ht.arv hT) (ht.b.pG he) ((iY x).trans hx) ((iY y).trans hy) ((hag H hA).trans hob) eO hr hi) g a
theorem VO {N e id aU:Nat} {b:Bool} {ob:cO} {ik:IntKind} {i:Int} {r:List AV} (ho:o.op=.indexAddr T x y) (hT:gD tb.ar T=some (N,e)) (he:gD tb.sh e=some (1,b)) (hx:(AS.mk f hp).ev x=some (.pt id aU 0 0)) (hy:(AS.mk f hp).ev y=some (.sc (.int ik i)))
    (hob:hp id=some ob) (eO:ob.aU=aU) (hr:ob.rows=[r]) (hi:0<=i/\i<(N:Int)) (hag:∀ H,Ag H->H id=hp id) (a:fF vs) (g:k (.pt id aU 0 i.toNat)):Ev vs (λv=>∀ H,Ag H->gH P tb->eH P o ⟨f,H⟩ v) k :=
  .mk _ (λH hA ht=>xB ho (ht.arv hT) (ht.b.pG he) ((iY x).trans hx) ((iY y).trans hy) ((hag H hA).trans hob) eO hr hi) g a
theorem aDK {id aU:Nat} {ob:cO} {l:List Int} {i v:Int} (ho:o.op=.load T x) (hT:gD tb.sh T=some (1,false)) (hx:(AS.mk f hp).ev x=some (.pt id aU 0 i.toNat)) (hob:hp id=some ob) (eO:ob.aU=aU) (hr:ob.rows=[l.map int]) (h:ix l i=some v)
    (hag:∀ H,Ag H->H id=hp id) (a:fF vs) (g:k (int v)):Ev vs (λv=>∀ H,Ag H->gH P tb->eH P o ⟨f,H⟩ v) k :=
  .mk _ (λH hA ht=>AI ho (ht.b.pG hT) ((iY x).trans hx) ((hag H hA).trans hob) eO hr h) g a
theorem aUW {fl m id aU row off:Nat} {ob:cO} {r:List AV} (ho:o.op=.fieldAddr T x fl) (hT:sW tb.fo T fl=some m) (hx:(AS.mk f hp).ev x=some (.pt id aU row off)) (hob:hp id=some ob) (hv:ob.aU=aU) (hr:ob.rows[row]?=some r) (a:fF vs) (g:k (.pt id aU row (off+m))):Ev vs (λv=>∀ H,H=hp->gH P tb->eH P o ⟨f,H⟩ v) k :=
  ZR ho hT hx hob hv hr (λ_ h=>congrFun h _) a g
theorem aM3 {ds:List Nat} {fl m id aU row off:Nat} {ob:cO} {r:List AV} (ho:o.op=.fieldAddr T x fl) (hT:sW tb.fo T fl=some m) (hx:(AS.mk f hp).ev x=some (.pt id aU row off)) (hob:hp id=some ob) (hv:ob.aU=aU) (hr:ob.rows[row]?=some r) (hm:id∈ds) (a:fF vs) (g:k (.pt id aU row (off+m))):Ev vs (λv=>∀ H,(∀ k,k∈ds->H k=hp k)->gH P tb->eH P o ⟨f,H⟩ v) k :=
  ZR ho hT hx hob hv hr (λ_ h=>h _ hm) a g
theorem aHS {id aU row off:Nat} {ob:cO} {r:List AV} (ho:o.op=.nilCheck x) (hx:(AS.mk f hp).ev x=some (.pt id aU row off)) (hob:hp id=some ob) (hv:ob.aU=aU) (hr:ob.rows[row]?=some r) (a:fF vs) (g:k (.pt id aU row off)):Ev vs (λv=>∀ H,H=hp->gH P tb->eH P o ⟨f,H⟩ v) k :=
  Z9 ho hx hob hv hr (λ_ h=>congrFun h _) a g
theorem aKA {ds:List Nat} {id aU row off:Nat} {ob:cO} {r:List AV} (ho:o.op=.nilCheck x) (hx:(AS.mk f hp).ev x=some (.pt id aU row off)) (hob:hp id=some ob) (hv:ob.aU=aU) (hr:ob.rows[row]?=some r) (hm:id∈ds) (a:fF vs) (g:k (.pt id aU row off)):Ev vs (λv=>∀ H,(∀ k,k∈ds->H k=hp k)->gH P tb->eH P o ⟨f,H⟩ v) k :=
  Z9 ho hx hob hv hr (λ_ h=>h _ hm) a g
theorem aTR {m id aU row off:Nat} {b:Bool} {ob:cO} {r:List AV} (ho:o.op=.load T x) (hT:gD tb.sh T=some (m,b)) (hx:(AS.mk f hp).ev x=some (.pt id aU row off)) (hob:hp id=some ob) (hv:ob.aU=aU) (hr:ob.rows[row]?=some r) (a:fF vs) (g:match kP m b (r.drop off) with | some v=>B7 v k | none=>False):Ev vs (λv=>∀ H,H=hp->gH P tb->eH P o ⟨f,H⟩ v) k :=
  UT ho hT hx hob hv hr (λ_ h=>congrFun h _) a g
theorem aE1 {ds:List Nat} {m id aU row off:Nat} {b:Bool} {ob:cO} {r:List AV} (ho:o.op=.load T x) (hT:gD tb.sh T=some (m,b)) (hx:(AS.mk f hp).ev x=some (.pt id aU row off)) (hob:hp id=some ob) (hv:ob.aU=aU) (hr:ob.rows[row]?=some r) (hm:id∈ds) (a:fF vs) (g:match kP m b (r.drop off) with | some v=>B7 v k | none=>False):Ev vs (λv=>∀ H,(∀ k,k∈ds->H k=hp k)->gH P tb->eH P o ⟨f,H⟩ v) k :=
  UT ho hT hx hob hv hr (λ_ h=>h _ hm) a g
theorem aF1 {α:Type} {e sz kk id aU:Nat} {b:Bool} {ik:IntKind} {i:Int} {ob:cO} {l:List α} {v:α} (ho:o.op=.indexAddr T x y) (hT:gD tb.se T=some e) (he:gD tb.sh e=some (sz,b)) (hx:(AS.mk f hp).ev x=some (.sl id aU 0 kk)) (hy:(AS.mk f hp).ev y=some (.sc (.int ik i))) (hob:hp id=some ob) (eO:ob.aU=aU) (hsz:ob.sz=sz) (hrl:ob.rows.length=l.length) (h:ix l i=some v) (hk:kk=l.length) (a:fF vs) (g:k (.pt id aU i.toNat 0)):Ev vs (λv=>∀ H,H=hp->gH P tb->eH P o ⟨f,H⟩ v) k :=
  YV ho hT he hx hy hob eO hsz hrl h hk (λ_ h=>congrFun h _) a g
theorem aL9 {ds:List Nat} {α:Type} {e sz kk id aU:Nat} {b:Bool} {ik:IntKind} {i:Int} {ob:cO} {l:List α} {v:α} (ho:o.op=.indexAddr T x y) (hT:gD tb.se T=some e) (he:gD tb.sh e=some (sz,b)) (hx:(AS.mk f hp).ev x=some (.sl id aU 0 kk)) (hy:(AS.mk f hp).ev y=some (.sc (.int ik i))) (hob:hp id=some ob) (eO:ob.aU=aU) (hsz:ob.sz=sz) (hrl:ob.rows.length=l.length) (h:ix l i=some v) (hk:kk=l.length) (hm:id∈ds) (a:fF vs) (g:k (.pt id aU i.toNat 0)):Ev vs (λv=>∀ H,(∀ k,k∈ds->H k=hp k)->gH P tb->eH P o ⟨f,H⟩ v) k :=
  YV ho hT he hx hy hob eO hsz hrl h hk (λ_ h=>h _ hm) a g
theorem aNO {N e m id aU row off:Nat} {b:Bool} {ob:cO} {r:List AV} {ik:IntKind} {i:Int} (ho:o.op=.indexAddr T x y) (hT:gD tb.ar T=some (N,e)) (he:gD tb.sh e=some (m,b)) (hx:(AS.mk f hp).ev x=some (.pt id aU row off)) (hy:(AS.mk f hp).ev y=some (.sc (.int ik i))) (hob:hp id=some ob) (eO:ob.aU=aU) (hr:ob.rows[row]?=some r) (hi:0<=i/\i<(N:Int)) (a:fF vs) (g:k (.pt id aU row (off+i.toNat*m))):Ev vs (λv=>∀ H,H=hp->gH P tb->eH P o ⟨f,H⟩ v) k :=
  X7 ho hT he hx hy hob eO hr hi (λ_ h=>congrFun h _) a g
theorem aHZ {ds:List Nat} {N e m id aU row off:Nat} {b:Bool} {ob:cO} {r:List AV} {ik:IntKind} {i:Int} (ho:o.op=.indexAddr T x y) (hT:gD tb.ar T=some (N,e)) (he:gD tb.sh e=some (m,b)) (hx:(AS.mk f hp).ev x=some (.pt id aU row off)) (hy:(AS.mk f hp).ev y=some (.sc (.int ik i))) (hob:hp id=some ob) (eO:ob.aU=aU) (hr:ob.rows[row]?=some r) (hi:0<=i/\i<(N:Int)) (hm:id∈ds) (a:fF vs) (g:k (.pt id aU row (off+i.toNat*m))):Ev vs (λv=>∀ H,(∀ k,k∈ds->H k=hp k)->gH P tb->eH P o ⟨f,H⟩ v) k :=
  X7 ho hT he hx hy hob eO hr hi (λ_ h=>h _ hm) a g
theorem aPV {N e id aU:Nat} {b:Bool} {ob:cO} {ik:IntKind} {i:Int} {r:List AV} (ho:o.op=.indexAddr T x y) (hT:gD tb.ar T=some (N,e)) (he:gD tb.sh e=some (1,b)) (hx:(AS.mk f hp).ev x=some (.pt id aU 0 0)) (hy:(AS.mk f hp).ev y=some (.sc (.int ik i))) (hob:hp id=some ob) (eO:ob.aU=aU) (hr:ob.rows=[r]) (hi:0<=i/\i<(N:Int)) (a:fF vs) (g:k (.pt id aU 0 i.toNat)):Ev vs (λv=>∀ H,H=hp->gH P tb->eH P o ⟨f,H⟩ v) k :=
  VO ho hT he hx hy hob eO hr hi (λ_ h=>congrFun h _) a g
theorem aNF {ds:List Nat} {N e id aU:Nat} {b:Bool} {ob:cO} {ik:IntKind} {i:Int} {r:List AV} (ho:o.op=.indexAddr T x y) (hT:gD tb.ar T=some (N,e)) (he:gD tb.sh e=some (1,b)) (hx:(AS.mk f hp).ev x=some (.pt id aU 0 0)) (hy:(AS.mk f hp).ev y=some (.sc (.int ik i))) (hob:hp id=some ob) (eO:ob.aU=aU) (hr:ob.rows=[r]) (hi:0<=i/\i<(N:Int)) (hm:id∈ds) (a:fF vs) (g:k (.pt id aU 0 i.toNat)):Ev vs (λv=>∀ H,(∀ k,k∈ds->H k=hp k)->gH P tb->eH P o ⟨f,H⟩ v) k :=
  VO ho hT he hx hy hob eO hr hi (λ_ h=>h _ hm) a g
theorem aTJ {id aU:Nat} {ob:cO} {l:List Int} {i v:Int} (ho:o.op=.load T x) (hT:gD tb.sh T=some (1,false)) (hx:(AS.mk f hp).ev x=some (.pt id aU 0 i.toNat)) (hob:hp id=some ob) (eO:ob.aU=aU) (hr:ob.rows=[l.map int]) (h:ix l i=some v) (a:fF vs) (g:k (int v)):Ev vs (λv=>∀ H,H=hp->gH P tb->eH P o ⟨f,H⟩ v) k :=
  aDK ho hT hx hob eO hr h (λ_ h=>congrFun h _) a g
theorem aOL {ds:List Nat} {id aU:Nat} {ob:cO} {l:List Int} {i v:Int} (ho:o.op=.load T x) (hT:gD tb.sh T=some (1,false)) (hx:(AS.mk f hp).ev x=some (.pt id aU 0 i.toNat)) (hob:hp id=some ob) (eO:ob.aU=aU) (hr:ob.rows=[l.map int]) (h:ix l i=some v) (hm:id∈ds) (a:fF vs) (g:k (int v)):Ev vs (λv=>∀ H,(∀ k,k∈ds->H k=hp k)->gH P tb->eH P o ⟨f,H⟩ v) k :=
  aDK ho hT hx hob eO hr h (λ_ h=>h _ hm) a g
variable {p:Prop} {v:AV}
theorem aEF {S:AS}:∀ {l:List Operand} {us:List AV},evs S l=some us->EvL S l us
  | [],_,h=>by cases h;exact .nil
  | x :: r,_,h=>by
    unfold evs at h
    split at h
    · rename_i v hv
      split at h
      · rename_i vs hvs;cases h;exact .cons hv (aEF hvs)
      · cases h
    · cases h
theorem aCD {f:FS} {hp H:AH}:∀ (l:List Operand),evs ⟨f,H⟩ l=evs ⟨f,hp⟩ l
  | []=>rfl
  | x :: r=>by unfold evs;rw [iY (hp:=hp) x,aCD r]
theorem WE {e sz N:Nat} {zs:List Value} {ps:Array (Nat×Operand)} {us:List AV} {rows:List (List AV)} (ho:o.op=.buildSlice T N ps) (hT:gD tb.se T=some e) (hz:gD tb.bz e=some sz) (hz2:gD tb.zs e=some zs) (hz3:(Nat.beq zs.length sz && nL zs)=true)
    (he:evs ⟨f,hp⟩ (ps.toList.map (·.2))=some us) (hv:.list sz rows=v) (hf:rJ (λi=>some (i*sz,sz)) (sN zs N) ((ps.toList.map (·.1)).zip us)=some rows.flatten) (hN:(Nat.ble (N*sz) 16777216 && (rows.all λr=>Nat.beq r.length sz))=true) (hrl:rows.length=N)
    (a:fF vs) (g:p):Et vs (∀ H,Ag H->gH P tb->eH P o ⟨f,H⟩ v) p :=
  .mk (λH hA ht=>by
    rw [Bool.and_eq_true] at hN
    exact hv ▸ jP (ps:=ps.toList) (by rw [ho]) (ht.qQ hT) (ht.OB hz hz2 hz3) (aEF ((aCD _).trans he)) hf hN.1 hN.2 hrl) g a
variable {id0:Nat} {kp:AH->Prop} {k2:AV->AH->Prop}
theorem aNC {α:Type} {e sz b':Nat} {zs:List Value} {q:AV} {g:α->List AV} {m:List α} (ho:o.op=.call { callee:=.builtin .append,args:=#[x,y],argTypes:=#[T,T] }) (hT:gD tb.se T=some e) (hz:gD tb.bz e=some sz) (hz2:gD tb.zs e=some zs) (hz3:(Nat.beq zs.length sz && nL zs)=true) (hb:gD tb.bb e=some b')
    (hx:(AS.mk f hp).ev x=some (.sc (.slice none 0 0))) (hy:(AS.mk f hp).ev y=some q) (hid:hp id0=none) (hcv:Cv hp q (aH sz g m)) (h1:∀ a,kL (g a)=true) (hfit:m.length<=68719476736)
    (hk:∀ ver',kp (upd hp id0 (some ⟨e,sz,true,true,ver',m.map g⟩))) (a:fF vs) (h:∀ ver',k2 (.sl id0 ver' 0 m.length) (upd hp id0 (some ⟨e,sz,true,true,ver',m.map g⟩))) :
    Ee id0 vs (λOut=>(gH P tb->eG P o ⟨f,hp⟩ no any Out)/\∀ v H',Out v H'->kp H') k2 :=
  .mk _ ⟨λht=>nU id0 ho (ht.qQ hT) (ht.OB hz hz2 hz3) (ht.H6 hb).1 (ht.H6 hb).2 hx hy hid hcv h1 hfit,by rintro _ _ ⟨v',rfl,rfl⟩;exact hk v'⟩ (by rintro _ _ ⟨v',rfl,rfl⟩;exact h v') a
theorem aSL {α:Type} {e sz b' id aU kk:Nat} {zs:List Value} {q:AV} {g:α->List AV} {l m l':List α} {ob:cO} (ho:o.op=.call { callee:=.builtin .append,args:=#[x,y],argTypes:=#[T,T] }) (hT:gD tb.se T=some e) (hz:gD tb.bz e=some sz) (hz2:gD tb.zs e=some zs) (hz3:(Nat.beq zs.length sz && nL zs)=true) (hb:gD tb.bb e=some b')
    (hx:(AS.mk f hp).ev x=some (.sl id aU 0 kk)) (hy:(AS.mk f hp).ev y=some q) (hob:hp id=some ob) (eO:ob.aU=aU) (hmt:ob.mt=true) (happ:ob.app=true) (hel:ob.elem=e) (hsz:ob.sz=sz) (hr:ob.rows=l.map g) (hcv:Cv hp q (aH sz g m)) (hl:l++m=l') (hk0:kk=l.length) (h1:∀ a,kL (g a)=true) (hfit:l'.length<=68719476736)
    (hk:∀ ver',kp (upd hp id (some ⟨e,sz,true,true,ver',l'.map g⟩))) (a:fF vs) (h:∀ ver',k2 (.sl id ver' 0 l'.length) (upd hp id (some ⟨e,sz,true,true,ver',l'.map g⟩))) :
    Ee id0 vs (λOut=>(gH P tb->eG P o ⟨f,hp⟩ no any Out)/\∀ v H',Out v H'->kp H') k2 :=
  .mk _ ⟨λht=>lV .any ho (ht.qQ hT) (ht.OB hz hz2 hz3) (ht.H6 hb).1 (ht.H6 hb).2 hx hy hob eO hmt happ hel hsz hr hk0 hcv h1 hl hfit,by rintro _ _ ⟨v',-,rfl,rfl⟩;exact hk v'⟩ (by rintro _ _ ⟨v',-,rfl,rfl⟩;exact h v') a
theorem aKG {m id aU row off:Nat} {b:Bool} {el sz ve:Nat} {mt app:Bool} {rows base:List (List AV)} {r:List AV} {q:AV} (ho:o.op=.store T x y) (hT:gD tb.sh T=some (m,b)) (hx:(AS.mk f hp).ev x=some (.pt id aU row off)) (hy:(AS.mk f hp).ev y=some q)
    (hob:hp id=some ⟨el,sz,mt,app,ve,rows⟩) (hv:ve=aU) (hmt:mt=true) (hr:rows[row]?=some r) (hf:(Nat.beq q.cells.length m && (Nat.ble (off+m) r.length && kL q.cells))=true) (hb:∀ c,rows.set row c=base.set row c)
    (hk:∀ c,kp (upd hp id (some ⟨el,sz,mt,app,ve,base.set row c⟩))) (a:fF vs) (h:vC (putRow r off q.cells) λc=>k2 (.sc undef) (upd hp id (some ⟨el,sz,mt,app,ve,base.set row c⟩))) :
    Ee id0 vs (λOut=>(gH P tb->eG P o ⟨f,hp⟩ no any Out)/\∀ v H',Out v H'->kp H') k2:=by
  rw [Bool.and_eq_true,Bool.and_eq_true] at hf
  refine .mk _ ⟨λht=>eG.iA (iL ho (ht.b.pG hT) hx hy hob hv hmt hr (Nat.eq_of_beq_eq_true hf.1) hf.2.1 hf.2.2) (λ_ h=>h) (λ_ _=>trivial),?_⟩ ?_ a
  · rintro _ _ ⟨rfl,rfl⟩;simp only [hb];exact hk _
  · rintro _ _ ⟨rfl,rfl⟩;simp only [hb];exact rV h
theorem aRD {α:Type} {m id aU row off:Nat} {b:Bool} {el sz ve:Nat} {mt app:Bool} {l l':List α} {g:α->List AV} {v':α} {r:List AV} {q:AV} (ho:o.op=.store T x y) (hT:gD tb.sh T=some (m,b)) (hx:(AS.mk f hp).ev x=some (.pt id aU row off)) (hy:(AS.mk f hp).ev y=some q)
    (hob:hp id=some ⟨el,sz,mt,app,ve,l.map g⟩) (hl:l.set row v'=l') (hr:(l.map g)[row]?=some r) (hq:putRow r off q.cells=g v') (hv:ve=aU) (hmt:mt=true) (hf:(Nat.beq q.cells.length m && (Nat.ble (off+m) r.length && kL q.cells))=true)
    (hk:kp (upd hp id (some ⟨el,sz,mt,app,ve,l'.map g⟩))) (a:fF vs) (h:l'.length=l.length->k2 (.sc undef) (upd hp id (some ⟨el,sz,mt,app,ve,l'.map g⟩))) :
    Ee id0 vs (λOut=>(gH P tb->eG P o ⟨f,hp⟩ no any Out)/\∀ v H',Out v H'->kp H') k2:=by
  rw [Bool.and_eq_true,Bool.and_eq_true] at hf
  refine .mk _ ⟨λht=>eG.iA (iL ho (ht.b.pG hT) hx hy hob hv hmt hr (Nat.eq_of_beq_eq_true hf.1) hf.2.1 hf.2.2) (λ_ h=>h) (λ_ _=>trivial),?_⟩ ?_ a
  · rintro _ _ ⟨rfl,rfl⟩;simp only [hq,oI hl];exact hk
  · rintro _ _ ⟨rfl,rfl⟩;simp only [hq,oI hl];exact h (by rw [<- hl,List.length_set])
theorem aTP {id aU:Nat} {ob:cO} {l l':List Int} {i v w:Int} (ho:o.op=.store T x y) (hT:gD tb.sh T=some (1,false)) (hx:(AS.mk f hp).ev x=some (.pt id aU 0 i.toNat)) (hy:(AS.mk f hp).ev y=some (int v)) (hob:hp id=some ob) (eO:ob.aU=aU) (hmt:ob.mt=true) (hr:ob.rows=[l.map int]) (h:ix l i=some w) (hl:l.set i.toNat v=l')
    (hk:kp (upd hp id (some { ob with rows:=[l'.map int] }))) (a:fF vs) (g:k2 (.sc undef) (upd hp id (some { ob with rows:=[l'.map int] }))) :
    Ee id0 vs (λOut=>(gH P tb->eG P o ⟨f,hp⟩ no any Out)/\∀ v H',Out v H'->kp H') k2 :=
  .mk _ ⟨λht=>eG.iA (aAZ ho (ht.b.pG hT) hx hy hob eO hmt hr h hl) (λ_ h=>h) (λ_ _=>trivial),by rintro _ _ ⟨rfl,rfl⟩;exact hk⟩ (by rintro _ _ ⟨rfl,rfl⟩;exact g) a
theorem aUS {α β:Type} {p:α⊕β->Prop} (h1:∀ a,p (.inl a)) (h2:∀ b,p (.inr b)):∀ x,p x:=λx=>by cases x with | inl a=>exact h1 a | inr b=>exact h2 b
theorem V6 {α:Type} {n:Nat} {a:α} {l:List α} (e:List.replicate n a=l):n=l.length:=by rw [<- e,List.length_replicate]
end
theorem aV {p:Prop} (h:p:=by first | exact trivial | ((repeat (first | exact trivial | refine ⟨rfl,?_⟩));done) | fail):p:=h
theorem aL {p:Prop} (h:p:=by first | rfl | exact Eq.symm (by assumption) | exact (l6 (by assumption) rfl).symm | exact V6 (by assumption) | exact (l6 (by assumption) (l6 (by assumption) rfl)).symm | exact (l6 (by assumption) (Eq.symm (V6 (by assumption)))).symm):p:=h
theorem aX {p:Prop} (h:p:=by first | assumption | exact mX (by assumption) (by assumption)):p:=h
theorem aR {p:Prop} (h:p:=by first | rfl | exact iG (by assumption) | exact iM (by assumption) (aP.fB _) | exact iN (by assumption) | exact iN (mX (by assumption) (by assumption))):p:=h
theorem aC {p:Prop} (h:p:=by first | exact .refl _ | ((repeat' (first | exact .refl _ | exact dG.nil | exact Cv.nil _ | refine uO ?_ (aP.fB _) | refine dG.cons ?_ ?_ | refine dG.agg ?_ | refine dG.bD ?_ | exact kJ.nil | refine kJ.cons ?_ ?_ | refine JH ?_ | exact gY rfl rfl rfl rfl rfl aL | exact rA aL | refine wX rfl rfl rfl rfl rfl aL (by assumption) ?_));done) | fail):p:=h
theorem aY {p:Prop} (h:p:=by first | exact λ_ _=>.refl _ | (rintro _ rfl;(repeat' (first | exact .refl _ | exact dG.nil | exact Cv.nil _ | refine uO ?_ (aP.fB _) | refine dG.cons ?_ ?_ | refine dG.agg ?_ | refine dG.bD ?_ | exact kJ.nil | refine kJ.cons ?_ ?_ | refine JH ?_ | exact gY rfl rfl rfl rfl rfl aL | exact rA aL | refine wX rfl rfl rfl rfl rfl aL (by assumption) ?_));done) | (intro H hH;(repeat' (first | exact .refl _ | exact dG.nil | exact Cv.nil _ | refine uO ?_ (aP.fB _) | refine dG.cons ?_ ?_ | refine dG.agg ?_ | refine dG.bD ?_ | exact kJ.nil | refine kJ.cons ?_ ?_ | refine JH ?_ | exact gY (by first | rfl | exact (hH _ (by decide)).trans rfl) rfl rfl rfl rfl aL | exact rA aL | refine wX (by first | rfl | exact (hH _ (by decide)).trans rfl) rfl rfl rfl rfl aL (by assumption) ?_));done) | fail):p:=h
theorem aJ {p:Prop} (h:p:=by first | ((refine ⟨?_,?_⟩ <;> (repeat (first | exact trivial | refine ⟨⟨_,rfl,.refl _⟩,?_⟩ | refine ⟨⟨_,rfl,aC⟩,?_⟩ | refine ⟨⟨_,rfl,⟨rfl,aC⟩⟩,?_⟩)));done) | fail):p:=h
theorem aK {p:Prop} (h:p:=by first | exact λ_=>trivial | exact λ_=>⟨rfl,trivial⟩ | exact λ_=>⟨rfl,rfl,trivial⟩ | exact λ_=>⟨rfl,rfl,rfl,trivial⟩ | exact λ_=>⟨rfl,rfl,rfl,rfl,trivial⟩):p:=h
theorem aO {p:Prop} (h:p:=by first | exact trivial | exact ⟨rfl,trivial⟩ | exact ⟨rfl,rfl,trivial⟩ | exact ⟨rfl,rfl,rfl,trivial⟩ | exact ⟨rfl,rfl,rfl,rfl,trivial⟩):p:=h
theorem au {p:Prop} (h:p:=by
  repeat' (first
    | ((conv=>whnf);first
      | refine aUS ?_ ?_
      | intro _
      | (show oV _ _ _ _;refine oV.mk ?_ rfl aV)
      | (show wV _ _ _ _ _;refine wV.mk ?_ ?_ rfl aV)
      | (show EJ _ _;exact EJ.mk aJ aV)
      | (show Ek _ _ _;refine Ek.mk ?_ (by kernel_rfl) aV)
      | (show Ev _ (λv=>∀ H,H=_->_->_) _;first
        | (apply aUW ;(iterate 5 exact rfl);exact aR;exact aV)
        | (apply aHS ;(iterate 4 exact rfl);exact aR;exact aV)
        | (apply aTJ ;(iterate 6 exact rfl);exact aX;exact aV)
        | (apply aTR ;(iterate 5 exact rfl);exact aR;exact aV)
        | (apply aF1 ;(iterate 4 exact rfl);(focus (rfl));(iterate 3 exact rfl);(focus (first | exact List.length_map _ | exact FM | rfl));exact aX;exact aL;exact aV)
        | (apply aNO ;(iterate 4 exact rfl);(focus (rfl));(iterate 3 exact rfl);(focus (decide));exact aV)
        | (apply aPV ;(iterate 4 exact rfl);(focus (rfl));(iterate 3 exact rfl);(focus (assumption));exact aV)
        | refine Ev.mk _ (λH hH _=>YQ rfl rfl rfl (by assumption)) ?_ aV
        | refine Ev.mk _ (λH hH _=>U4 rfl rfl rfl (by assumption)) ?_ aV
        | refine Ev.mk _ (λH hH _=>aD7 rfl rfl rfl rfl (by assumption)) ?_ aV
        | refine Ev.mk _ (λH hH _=>xQ rfl rfl rfl (by assumption) (by assumption)) ?_ aV
        | refine Ev.mk _ (λH hH _=>AL rfl rfl rfl (by assumption) (by assumption)) ?_ aV
        | refine Ev.mk _ (λH hH _=>KB rfl rfl rfl (by assumption)) ?_ aV
        | refine Ev.mk _ (λH hH _=>Q5 rfl rfl rfl (by assumption)) ?_ aV
        | refine Ev.mk _ (λH hH _=>ER rfl rfl rfl (by assumption) (by assumption)) ?_ aV
        | refine Ev.mk _ (λH hH _=>DI rfl rfl rfl (by assumption) (by assumption)) ?_ aV
        | refine Ev.mk _ (λH hH _=>fT (aA6 rfl rfl rfl) (congrArg aZ (by assumption))) ?_ aV
        | refine Ev.mk _ (λH hH _=>fT (aCV rfl (by kernel_rfl) rfl rfl) (congrArg aZ (by assumption))) ?_ aV
        | refine Ev.mk _ (λH hH _=>aA1 rfl (by kernel_rfl) rfl) ?_ aV
        | refine Ev.mk _ (λH hH _=>SH rfl (by kernel_rfl) rfl rfl (qT (by assumption)).1 (qT (by assumption)).2) ?_ aV)
      | (show Ev _ _ _;first
        | (apply aM3 ;(iterate 5 exact rfl);exact aR;(focus (decide));exact aV)
        | (apply aKA ;(iterate 4 exact rfl);exact aR;(focus (decide));exact aV)
        | (apply aOL ;(iterate 6 exact rfl);exact aX;(focus (decide));exact aV)
        | (apply aE1 ;(iterate 5 exact rfl);exact aR;(focus (decide));exact aV)
        | (apply aL9 ;(iterate 4 exact rfl);(focus (rfl));(iterate 3 exact rfl);(focus (first | exact List.length_map _ | exact FM | rfl));exact aX;exact aL;(focus (decide));exact aV)
        | (apply aHZ ;(iterate 4 exact rfl);(focus (rfl));(iterate 3 exact rfl);(iterate 2 (focus (decide)));exact aV)
        | (apply aNF ;(iterate 4 exact rfl);(focus (rfl));(iterate 3 exact rfl);(focus (assumption));(focus (decide));exact aV)
        | refine Ev.mk _ (λH hH _=>YQ rfl rfl rfl (by assumption)) ?_ aV
        | refine Ev.mk _ (λH hH _=>U4 rfl rfl rfl (by assumption)) ?_ aV
        | refine Ev.mk _ (λH hH _=>aD7 rfl rfl rfl rfl (by assumption)) ?_ aV
        | refine Ev.mk _ (λH hH _=>xQ rfl rfl rfl (by assumption) (by assumption)) ?_ aV
        | refine Ev.mk _ (λH hH _=>AL rfl rfl rfl (by assumption) (by assumption)) ?_ aV
        | refine Ev.mk _ (λH hH _=>KB rfl rfl rfl (by assumption)) ?_ aV
        | refine Ev.mk _ (λH hH _=>Q5 rfl rfl rfl (by assumption)) ?_ aV
        | refine Ev.mk _ (λH hH _=>ER rfl rfl rfl (by assumption) (by assumption)) ?_ aV
        | refine Ev.mk _ (λH hH _=>DI rfl rfl rfl (by assumption) (by assumption)) ?_ aV
        | refine Ev.mk _ (λH hH _=>fT (aA6 rfl rfl rfl) (congrArg aZ (by assumption))) ?_ aV
        | refine Ev.mk _ (λH hH _=>fT (aCV rfl (by kernel_rfl) rfl rfl) (congrArg aZ (by assumption))) ?_ aV
        | refine Ev.mk _ (λH hH _=>aA1 rfl (by kernel_rfl) rfl) ?_ aV
        | refine Ev.mk _ (λH hH _=>SH rfl (by kernel_rfl) rfl rfl (qT (by assumption)).1 (qT (by assumption)).2) ?_ aV)
      | (show Ed _ _ _ _ _;refine Ed.mk ?_ rfl aY aV)
      | (show Em _ _;refine Em.mk ?_ aV)
      | (show J2 _ _ _ _;refine J2.mk ?_ (by first | exact rfl | decide) aV)
      | (show E0 _ _;exact E0.mk aC aV)
      | (show Ei _ _ _ _ _;exact Ei.mk rfl aV aV)
      | (show EL _ _ _;refine EL.mk ?_ aJ aV)
      | (show Ec _ _ _;refine Ec.mk ?_ aC aV)
      | (show Et _ (∀ H,H=_->_->_) _;(apply WE (hp:=H0);(iterate 7 exact rfl);(focus (kernel_rfl));(iterate 2 exact rfl);exact aV))
      | (show Et _ (∀ H,_) _;first
        | (apply WE (hp:=H0);(iterate 7 exact rfl);(focus (kernel_rfl));(iterate 2 exact rfl);exact aV)
        | refine Et.mk aO ?_ aV)
      | (show Et _ _ _;refine Et.mk aO ?_ aV)
      | (show Ee _ _ _ _;first
        | (apply aNC ;(iterate 9 exact rfl);exact aC;(focus (first | exact aP.one | exact λ_=>rfl));(focus (assumption));exact aK;exact aV)
        | (apply aSL ;(iterate 15 exact rfl);exact aC;(focus (assumption));exact aL;(focus (first | exact aP.one | exact λ_=>rfl));(focus (assumption));exact aK;exact aV)
        | (apply aTP ;(iterate 8 exact rfl);exact aX;(focus (assumption));exact aO;exact aV)
        | (apply aRD ;(iterate 5 exact rfl);(focus (assumption));exact aR;(iterate 4 exact rfl);exact aO;exact aV)
        | (apply aKG ;(iterate 7 exact rfl);exact aR;exact rfl;(focus (first | exact λ_=>sQ | exact λ_=>rfl));exact aK;exact aV))
      | refine E2.mk ?_ ?_
      | exact True.intro))):p:=h
end Go.Pv
