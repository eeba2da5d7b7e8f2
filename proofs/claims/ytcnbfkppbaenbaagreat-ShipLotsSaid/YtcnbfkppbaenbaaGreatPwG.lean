import Derived.Test.YtcnbfkppbaenbaaGreatPwD
set_option linter.unusedVariables false
set_option linter.unusedSimpArgs false
namespace Go.Pv
theorem eH {P:Program} {o:Oper} {f:FS} {hp:AH} {v:AV} {tb:gZ} (h:eB P o ⟨f,hp⟩ v):∀ H,H=hp->fP P tb->eB P o ⟨f,H⟩ v:=λH e _=>by rw [e];exact h
def pw {α β:Type} {γ:Type 1} (f:α->β->γ) (p:α×β):γ:=f p.1 p.2
theorem bS {P:Program} {i:Ix} {α β:Type} (f:α->β->WT P i) (p:α×β):(pw f p).run=p2 (λa b=>(f a b).run) p:=rfl
section
variable {P:Program} {tb:gZ} {f:FS} {hp:AH} {vs:List (Nat×Nat)} {o:Oper} {T:TypeId} {x y:Operand} {Ag:AH->Prop} {k:AV->Prop}
theorem aER {fl m id aS row off:Nat} {ob:cB} {r:List AV} (ho:o.op=.fieldAddr T x fl) (hT:qZ tb.fo T fl=some m) (hx:(AS.mk f hp).ev x=some (.pt id aS row off)) (hob:hp id=some ob) (hv:ob.aS=aS)
    (hr:ob.rows[row]?=some r) (hag:∀ H,Ag H->H id=hp id) (a:eG vs) (g:k (.pt id aS row (off+m))):Ev vs (λv=>∀ H,Ag H->fP P tb->eB P o ⟨f,H⟩ v) k :=
  .mk _ (λH hA ht=>gN ho (ht.b.NK hT) ((gX x).trans hx) (.pt ((hag H hA).trans hob) hv hr) (.pt _ _ _ _ _)) g a
theorem VN {id aS row off:Nat} {ob:cB} {r:List AV} (ho:o.op=.nilCheck x) (hx:(AS.mk f hp).ev x=some (.pt id aS row off)) (hob:hp id=some ob) (hv:ob.aS=aS)
    (hr:ob.rows[row]?=some r) (hag:∀ H,Ag H->H id=hp id) (a:eG vs) (g:k (.pt id aS row off)):Ev vs (λv=>∀ H,Ag H->fP P tb->eB P o ⟨f,H⟩ v) k :=
  .mk _ (λH hA ht=>lJ ho ((gX x).trans hx) (.pt ((hag H hA).trans hob) hv hr)) g a
theorem U9 {m id aS row off:Nat} {b:Bool} {ob:cB} {r:List AV} (ho:o.op=.load T x) (hT:fG tb.sh T=some (m,b)) (hx:(AS.mk f hp).ev x=some (.pt id aS row off)) (hob:hp id=some ob) (hv:ob.aS=aS)
    (hr:ob.rows[row]?=some r) (hag:∀ H,Ag H->H id=hp id) (a:eG vs) (g:match jZ m b (r.drop off) with | some v=>tX v k | none=>False):Ev vs (λv=>∀ H,Ag H->fP P tb->eB P o ⟨f,H⟩ v) k:=by
  split at g
  · rename_i v hc
    exact .mk _ (λH hA ht=>iK ho (ht.b.mW hT) ((gX x).trans hx) (.pt ((hag H hA).trans hob) hv hr) hc) (JE g) a
  · exact g.elim
theorem aFX {α:Type} {e sz kk id aS:Nat} {b:Bool} {ik:IntKind} {i:Int} {ob:cB} {l:List α} {v:α} (ho:o.op=.indexAddr T x y) (hT:fG tb.se T=some e) (he:fG tb.sh e=some (sz,b))
    (hx:(AS.mk f hp).ev x=some (.sl id aS 0 kk)) (hy:(AS.mk f hp).ev y=some (.sc (.int ik i))) (hob:hp id=some ob) (dP:ob.aS=aS) (hsz:ob.sz=sz) (hrl:ob.rows.length=l.length) (h:ix l i=some v) (hk:kk=l.length)
    (hag:∀ H,Ag H->H id=hp id) (a:eG vs) (g:k (.pt id aS i.toNat 0)):Ev vs (λv=>∀ H,Ag H->fP P tb->eB P o ⟨f,H⟩ v) k :=
  .mk _ (λH hA ht=>iL ho (ht.oQ hT) (ht.b.mW he) ((gX x).trans hx) ((gX y).trans hy) ((hag H hA).trans hob) dP hsz hk hrl h) g a
theorem YB {N e m id aS row off:Nat} {b:Bool} {ob:cB} {r:List AV} {ik:IntKind} {i:Int} (ho:o.op=.indexAddr T x y) (hT:fG tb.ar T=some (N,e)) (he:fG tb.sh e=some (m,b)) (hx:(AS.mk f hp).ev x=some (.pt id aS row off)) (hy:(AS.mk f hp).ev y=some (.sc (.int ik i)))
    (hob:hp id=some ob) (dP:ob.aS=aS) (hr:ob.rows[row]?=some r) (hi:0<=i/\i<(N:Int)) (hag:∀ H,Ag H->H id=hp id) (a:eG vs) (g:k (.pt id aS row (off+i.toNat*m))):Ev vs (λv=>∀ H,Ag H->fP P tb->eB P o ⟨f,H⟩ v) k :=
  .mk _ (λH hA ht=>lV ho (ht.TH hT) (ht.b.mW he) ((gX x).trans hx) ((gX y).trans hy) ((hag H hA).trans hob) dP hr hi) g a
theorem WB {N e id aS:Nat} {b:Bool} {ob:cB} {ik:IntKind} {i:Int} {r:List AV} (ho:o.op=.indexAddr T x y) (hT:fG tb.ar T=some (N,e)) (he:fG tb.sh e=some (1,b)) (hx:(AS.mk f hp).ev x=some (.pt id aS 0 0)) (hy:(AS.mk f hp).ev y=some (.sc (.int ik i)))
    (hob:hp id=some ob) (dP:ob.aS=aS) (hr:ob.rows=[r]) (hi:0<=i/\i<(N:Int)) (hag:∀ H,Ag H->H id=hp id) (a:eG vs) (g:k (.pt id aS 0 i.toNat)):Ev vs (λv=>∀ H,Ag H->fP P tb->eB P o ⟨f,H⟩ v) k :=
  .mk _ (λH hA ht=>JR ho (ht.TH hT) (ht.b.mW he) ((gX x).trans hx) ((gX y).trans hy) ((hag H hA).trans hob) dP hr hi) g a
theorem LQ {id aS:Nat} {ob:cB} {l:List Int} {i v:Int} (ho:o.op=.load T x) (hT:fG tb.sh T=some (1,false)) (hx:(AS.mk f hp).ev x=some (.pt id aS 0 i.toNat)) (hob:hp id=some ob) (dP:ob.aS=aS) (hr:ob.rows=[l.map int]) (h:ix l i=some v)
    (hag:∀ H,Ag H->H id=hp id) (a:eG vs) (g:k (int v)):Ev vs (λv=>∀ H,Ag H->fP P tb->eB P o ⟨f,H⟩ v) k :=
  .mk _ (λH hA ht=>IQ ho (ht.b.mW hT) ((gX x).trans hx) ((hag H hA).trans hob) dP hr h) g a
theorem aOA {fl m id aS row off:Nat} {ob:cB} {r:List AV} (ho:o.op=.fieldAddr T x fl) (hT:qZ tb.fo T fl=some m) (hx:(AS.mk f hp).ev x=some (.pt id aS row off)) (hob:hp id=some ob) (hv:ob.aS=aS) (hr:ob.rows[row]?=some r) (a:eG vs) (g:k (.pt id aS row (off+m))):Ev vs (λv=>∀ H,H=hp->fP P tb->eB P o ⟨f,H⟩ v) k :=
  aER ho hT hx hob hv hr (λ_ h=>congrFun h _) a g
theorem aRQ {ds:List Nat} {fl m id aS row off:Nat} {ob:cB} {r:List AV} (ho:o.op=.fieldAddr T x fl) (hT:qZ tb.fo T fl=some m) (hx:(AS.mk f hp).ev x=some (.pt id aS row off)) (hob:hp id=some ob) (hv:ob.aS=aS) (hr:ob.rows[row]?=some r) (hm:id∈ds) (a:eG vs) (g:k (.pt id aS row (off+m))):Ev vs (λv=>∀ H,(∀ k,k∈ds->H k=hp k)->fP P tb->eB P o ⟨f,H⟩ v) k :=
  aER ho hT hx hob hv hr (λ_ h=>h _ hm) a g
theorem aOX {id aS row off:Nat} {ob:cB} {r:List AV} (ho:o.op=.nilCheck x) (hx:(AS.mk f hp).ev x=some (.pt id aS row off)) (hob:hp id=some ob) (hv:ob.aS=aS) (hr:ob.rows[row]?=some r) (a:eG vs) (g:k (.pt id aS row off)):Ev vs (λv=>∀ H,H=hp->fP P tb->eB P o ⟨f,H⟩ v) k :=
  VN ho hx hob hv hr (λ_ h=>congrFun h _) a g
theorem aOP {ds:List Nat} {id aS row off:Nat} {ob:cB} {r:List AV} (ho:o.op=.nilCheck x) (hx:(AS.mk f hp).ev x=some (.pt id aS row off)) (hob:hp id=some ob) (hv:ob.aS=aS) (hr:ob.rows[row]?=some r) (hm:id∈ds) (a:eG vs) (g:k (.pt id aS row off)):Ev vs (λv=>∀ H,(∀ k,k∈ds->H k=hp k)->fP P tb->eB P o ⟨f,H⟩ v) k :=
  VN ho hx hob hv hr (λ_ h=>h _ hm) a g
theorem aU6 {m id aS row off:Nat} {b:Bool} {ob:cB} {r:List AV} (ho:o.op=.load T x) (hT:fG tb.sh T=some (m,b)) (hx:(AS.mk f hp).ev x=some (.pt id aS row off)) (hob:hp id=some ob) (hv:ob.aS=aS) (hr:ob.rows[row]?=some r) (a:eG vs) (g:match jZ m b (r.drop off) with | some v=>tX v k | none=>False):Ev vs (λv=>∀ H,H=hp->fP P tb->eB P o ⟨f,H⟩ v) k :=
  U9 ho hT hx hob hv hr (λ_ h=>congrFun h _) a g
theorem aIP {ds:List Nat} {m id aS row off:Nat} {b:Bool} {ob:cB} {r:List AV} (ho:o.op=.load T x) (hT:fG tb.sh T=some (m,b)) (hx:(AS.mk f hp).ev x=some (.pt id aS row off)) (hob:hp id=some ob) (hv:ob.aS=aS) (hr:ob.rows[row]?=some r) (hm:id∈ds) (a:eG vs) (g:match jZ m b (r.drop off) with | some v=>tX v k | none=>False):Ev vs (λv=>∀ H,(∀ k,k∈ds->H k=hp k)->fP P tb->eB P o ⟨f,H⟩ v) k :=
  U9 ho hT hx hob hv hr (λ_ h=>h _ hm) a g
theorem aUF {α:Type} {e sz kk id aS:Nat} {b:Bool} {ik:IntKind} {i:Int} {ob:cB} {l:List α} {v:α} (ho:o.op=.indexAddr T x y) (hT:fG tb.se T=some e) (he:fG tb.sh e=some (sz,b)) (hx:(AS.mk f hp).ev x=some (.sl id aS 0 kk)) (hy:(AS.mk f hp).ev y=some (.sc (.int ik i))) (hob:hp id=some ob) (dP:ob.aS=aS) (hsz:ob.sz=sz) (hrl:ob.rows.length=l.length) (h:ix l i=some v) (hk:kk=l.length) (a:eG vs) (g:k (.pt id aS i.toNat 0)):Ev vs (λv=>∀ H,H=hp->fP P tb->eB P o ⟨f,H⟩ v) k :=
  aFX ho hT he hx hy hob dP hsz hrl h hk (λ_ h=>congrFun h _) a g
theorem aV4 {ds:List Nat} {α:Type} {e sz kk id aS:Nat} {b:Bool} {ik:IntKind} {i:Int} {ob:cB} {l:List α} {v:α} (ho:o.op=.indexAddr T x y) (hT:fG tb.se T=some e) (he:fG tb.sh e=some (sz,b)) (hx:(AS.mk f hp).ev x=some (.sl id aS 0 kk)) (hy:(AS.mk f hp).ev y=some (.sc (.int ik i))) (hob:hp id=some ob) (dP:ob.aS=aS) (hsz:ob.sz=sz) (hrl:ob.rows.length=l.length) (h:ix l i=some v) (hk:kk=l.length) (hm:id∈ds) (a:eG vs) (g:k (.pt id aS i.toNat 0)):Ev vs (λv=>∀ H,(∀ k,k∈ds->H k=hp k)->fP P tb->eB P o ⟨f,H⟩ v) k :=
  aFX ho hT he hx hy hob dP hsz hrl h hk (λ_ h=>h _ hm) a g
theorem aT5 {N e m id aS row off:Nat} {b:Bool} {ob:cB} {r:List AV} {ik:IntKind} {i:Int} (ho:o.op=.indexAddr T x y) (hT:fG tb.ar T=some (N,e)) (he:fG tb.sh e=some (m,b)) (hx:(AS.mk f hp).ev x=some (.pt id aS row off)) (hy:(AS.mk f hp).ev y=some (.sc (.int ik i))) (hob:hp id=some ob) (dP:ob.aS=aS) (hr:ob.rows[row]?=some r) (hi:0<=i/\i<(N:Int)) (a:eG vs) (g:k (.pt id aS row (off+i.toNat*m))):Ev vs (λv=>∀ H,H=hp->fP P tb->eB P o ⟨f,H⟩ v) k :=
  YB ho hT he hx hy hob dP hr hi (λ_ h=>congrFun h _) a g
theorem aUH {ds:List Nat} {N e m id aS row off:Nat} {b:Bool} {ob:cB} {r:List AV} {ik:IntKind} {i:Int} (ho:o.op=.indexAddr T x y) (hT:fG tb.ar T=some (N,e)) (he:fG tb.sh e=some (m,b)) (hx:(AS.mk f hp).ev x=some (.pt id aS row off)) (hy:(AS.mk f hp).ev y=some (.sc (.int ik i))) (hob:hp id=some ob) (dP:ob.aS=aS) (hr:ob.rows[row]?=some r) (hi:0<=i/\i<(N:Int)) (hm:id∈ds) (a:eG vs) (g:k (.pt id aS row (off+i.toNat*m))):Ev vs (λv=>∀ H,(∀ k,k∈ds->H k=hp k)->fP P tb->eB P o ⟨f,H⟩ v) k :=
  YB ho hT he hx hy hob dP hr hi (λ_ h=>h _ hm) a g
theorem aVI {N e id aS:Nat} {b:Bool} {ob:cB} {ik:IntKind} {i:Int} {r:List AV} (ho:o.op=.indexAddr T x y) (hT:fG tb.ar T=some (N,e)) (he:fG tb.sh e=some (1,b)) (hx:(AS.mk f hp).ev x=some (.pt id aS 0 0)) (hy:(AS.mk f hp).ev y=some (.sc (.int ik i))) (hob:hp id=some ob) (dP:ob.aS=aS) (hr:ob.rows=[r]) (hi:0<=i/\i<(N:Int)) (a:eG vs) (g:k (.pt id aS 0 i.toNat)):Ev vs (λv=>∀ H,H=hp->fP P tb->eB P o ⟨f,H⟩ v) k :=
  WB ho hT he hx hy hob dP hr hi (λ_ h=>congrFun h _) a g
theorem aS8 {ds:List Nat} {N e id aS:Nat} {b:Bool} {ob:cB} {ik:IntKind} {i:Int} {r:List AV} (ho:o.op=.indexAddr T x y) (hT:fG tb.ar T=some (N,e)) (he:fG tb.sh e=some (1,b)) (hx:(AS.mk f hp).ev x=some (.pt id aS 0 0)) (hy:(AS.mk f hp).ev y=some (.sc (.int ik i))) (hob:hp id=some ob) (dP:ob.aS=aS) (hr:ob.rows=[r]) (hi:0<=i/\i<(N:Int)) (hm:id∈ds) (a:eG vs) (g:k (.pt id aS 0 i.toNat)):Ev vs (λv=>∀ H,(∀ k,k∈ds->H k=hp k)->fP P tb->eB P o ⟨f,H⟩ v) k :=
  WB ho hT he hx hy hob dP hr hi (λ_ h=>h _ hm) a g
theorem aQM {id aS:Nat} {ob:cB} {l:List Int} {i v:Int} (ho:o.op=.load T x) (hT:fG tb.sh T=some (1,false)) (hx:(AS.mk f hp).ev x=some (.pt id aS 0 i.toNat)) (hob:hp id=some ob) (dP:ob.aS=aS) (hr:ob.rows=[l.map int]) (h:ix l i=some v) (a:eG vs) (g:k (int v)):Ev vs (λv=>∀ H,H=hp->fP P tb->eB P o ⟨f,H⟩ v) k :=
  LQ ho hT hx hob dP hr h (λ_ h=>congrFun h _) a g
theorem aTY {ds:List Nat} {id aS:Nat} {ob:cB} {l:List Int} {i v:Int} (ho:o.op=.load T x) (hT:fG tb.sh T=some (1,false)) (hx:(AS.mk f hp).ev x=some (.pt id aS 0 i.toNat)) (hob:hp id=some ob) (dP:ob.aS=aS) (hr:ob.rows=[l.map int]) (h:ix l i=some v) (hm:id∈ds) (a:eG vs) (g:k (int v)):Ev vs (λv=>∀ H,(∀ k,k∈ds->H k=hp k)->fP P tb->eB P o ⟨f,H⟩ v) k :=
  LQ ho hT hx hob dP hr h (λ_ h=>h _ hm) a g
theorem aVB {id aS:Nat} {ob:cB} {l:List Int} {i v:Int} (h:ix l i=some v) (ho:o.op=.load T x) (hT:fG tb.sh T=some (1,false)) (hx:(AS.mk f hp).ev x=some (.pt id aS 0 i.toNat)) (hob:hp id=some ob) (dP:ob.aS=aS) (hr:ob.rows=[l.map int]) (a:eG vs) (g:k (int v)):Ev vs (λv=>∀ H,H=hp->fP P tb->eB P o ⟨f,H⟩ v) k :=
  LQ ho hT hx hob dP hr h (λ_ h=>congrFun h _) a g
theorem aOW {ds:List Nat} {id aS:Nat} {ob:cB} {l:List Int} {i v:Int} (h:ix l i=some v) (ho:o.op=.load T x) (hT:fG tb.sh T=some (1,false)) (hx:(AS.mk f hp).ev x=some (.pt id aS 0 i.toNat)) (hob:hp id=some ob) (dP:ob.aS=aS) (hr:ob.rows=[l.map int]) (hm:id∈ds) (a:eG vs) (g:k (int v)):Ev vs (λv=>∀ H,(∀ k,k∈ds->H k=hp k)->fP P tb->eB P o ⟨f,H⟩ v) k :=
  LQ ho hT hx hob dP hr h (λ_ h=>h _ hm) a g
def FP (P:Program) (T:TypeId):Bool:=match P.underlying T with
  | some (.interface _)=>true
  | _=>false
def NS (P:Program) (T:TypeId):Bool:=match P.underlying T with
  | some (.interface _)=>false
  | some _=>true
  | none=>false
theorem XY {T:TypeId} (h:FP P T=true):∃ ms,P.underlying T=some (.interface ms):=by
  unfold FP at h
  split at h
  · rename_i ms e;exact ⟨ms,e⟩
  · cases h
theorem aSB {T:TypeId} (h:NS P T=true):∃ d,P.underlying T=some d/\∀ ms,d≠.interface ms:=by
  unfold NS at h
  split at h
  · cases h
  · rename_i d hd e;exact ⟨d,e,λms q=>hd ms q⟩
  · cases h
theorem aB0 {S:AS} {Ty:TypeId} {t:TypeId} {v:AV} (ho:o.op=.binOp .eql T x y Ty) (hT:FP P T=true) (hx:S.ev x=some (.iM t v)) (hy:S.ev y=some (.sc .nilIface)):eB P o S (aT false):=by
  obtain ⟨ms,h⟩:=XY hT;exact FK ho h hx hy
theorem aEE {S:AS} {Ty:TypeId} {c:Value} (ho:o.op=.binOp .eql T x (.const c) Ty) (hT:FP P T=true) (hx:S.ev x=some (.sc .nilIface)) (hc:c=.nilIface):eB P o S (aT true):=by
  obtain ⟨ms,h⟩:=XY hT;exact aDT ho h hx hc
theorem UO {S:AS} {v:AV} (ho:o.op=.makeInterface T x) (hT:NS P T=true) (hx:S.ev x=some v):eB P o S (.iM T v):=by
  obtain ⟨d,h,hd⟩:=aSB hT;exact CY ho h hd hx
theorem aCL {id aS kk:Nat} {ob:cB} {l:List Int} (hl:l.length=kk) (ho:o.op=.load T x) (hT:fG tb.sh T=some (kk,true)) (hx:(AS.mk f hp).ev x=some (.pt id aS 0 0)) (hob:hp id=some ob) (dP:ob.aS=aS) (hr:ob.rows=[l.map int])
    (hag:∀ H,Ag H->H id=hp id) (a:eG vs) (g:tX (.agg ((List.range kk).map λi=>int (l.getD i 0))) k):Ev vs (λv=>∀ H,Ag H->fP P tb->eB P o ⟨f,H⟩ v) k :=
  .mk _ (λH hA ht=>aJF ho (ht.b.mW hT) ((gX x).trans hx) ((hag H hA).trans hob) dP hr hl) (JE g) a
theorem aT4 {id aS kk:Nat} {ob:cB} {l:List Int} (hl:l.length=kk) (ho:o.op=.load T x) (hT:fG tb.sh T=some (kk,true)) (hx:(AS.mk f hp).ev x=some (.pt id aS 0 0)) (hob:hp id=some ob) (dP:ob.aS=aS) (hr:ob.rows=[l.map int]) (a:eG vs) (g:tX (.agg ((List.range kk).map λi=>int (l.getD i 0))) k):Ev vs (λv=>∀ H,H=hp->fP P tb->eB P o ⟨f,H⟩ v) k :=
  aCL hl ho hT hx hob dP hr (λ_ h=>congrFun h _) a g
theorem aXF {ds:List Nat} {id aS kk:Nat} {ob:cB} {l:List Int} (hl:l.length=kk) (ho:o.op=.load T x) (hT:fG tb.sh T=some (kk,true)) (hx:(AS.mk f hp).ev x=some (.pt id aS 0 0)) (hob:hp id=some ob) (dP:ob.aS=aS) (hr:ob.rows=[l.map int]) (hm:id∈ds) (a:eG vs) (g:tX (.agg ((List.range kk).map λi=>int (l.getD i 0))) k):Ev vs (λv=>∀ H,(∀ k,k∈ds->H k=hp k)->fP P tb->eB P o ⟨f,H⟩ v) k :=
  aCL hl ho hT hx hob dP hr (λ_ h=>h _ hm) a g
theorem aGF {S:AS} {cs ds:List AV} {e N:Nat} {r r':Bool} {Ty:TypeId} (ht:fP P tb) (ho:o.op=.binOp .neq T x y Ty) (hA:fG tb.ar T=some (N,e)) (hc:(decide (((P.info? e).map (·.size))=some 1) && (decide (P.cellsOf e=1) && decide (0<N)))=true) (hx:S.ev x=some (.agg cs)) (hy:S.ev y=some (.agg ds))
    (h:qN P 0 ((List.range' 0 N).map λj=>(e,j)) cs ds r) (hr:(!r)=r'):eB P o S (aT r'):=by
  simp only [Bool.and_eq_true,decide_eq_true_eq] at hc
  exact aTX ho (ht.TH hA) hc.1 hc.2.1 hc.2.2 hx hy h hr
variable {p:Prop} {v:AV}
theorem U6 {S:AS}:∀ {l:List Operand} {us:List AV},evs S l=some us->EvL S l us
  | [],_,h=>by cases h;exact .nil
  | x :: r,_,h=>by
    unfold evs at h
    split at h
    · rename_i v hv
      split at h
      · rename_i vs hvs;cases h;exact .cons hv (U6 hvs)
      · cases h
    · cases h
theorem YY {f:FS} {hp H:AH}:∀ (l:List Operand),evs ⟨f,H⟩ l=evs ⟨f,hp⟩ l
  | []=>rfl
  | x :: r=>by unfold evs;rw [gX (hp:=hp) x,YY r]
theorem Z9 {e sz N:Nat} {zs:List Value} {ps:Array (Nat×Operand)} {us:List AV} {rows:List (List AV)} (ho:o.op=.buildSlice T N ps) (hT:fG tb.se T=some e) (hz:fG tb.bz e=some sz) (hz2:fG tb.zs e=some zs) (hz3:(Nat.beq zs.length sz && lI zs)=true)
    (he:evs ⟨f,hp⟩ (ps.toList.map (·.2))=some us) (hv:.list sz rows=v) (hf:pY (λi=>some (i*sz,sz)) (rA zs N) ((ps.toList.map (·.1)).zip us)=some rows.flatten) (hN:(Nat.ble (N*sz) 16777216 && (rows.all λr=>Nat.beq r.length sz))=true) (hrl:rows.length=N)
    (a:eG vs) (g:p):Et vs (∀ H,Ag H->fP P tb->eB P o ⟨f,H⟩ v) p :=
  .mk (λH hA ht=>by
    rw [Bool.and_eq_true] at hN
    exact hv ▸ jK (ps:=ps.toList) (by rw [ho]) (ht.oQ hT) (ht.FT hz hz2 hz3) (U6 ((YY _).trans he)) hf hN.1 hN.2 hrl) g a
variable {id0:Nat} {kp:AH->Prop} {k2:AV->AH->Prop}
theorem aSX {α:Type} {e sz b':Nat} {zs:List Value} {q:AV} {g:α->List AV} {m:List α} (ho:o.op=.call { callee:=.builtin .append,args:=#[x,y],argTypes:=#[T,T] }) (hT:fG tb.se T=some e) (hz:fG tb.bz e=some sz) (hz2:fG tb.zs e=some zs) (hz3:(Nat.beq zs.length sz && lI zs)=true) (hb:fG tb.bb e=some b')
    (hx:(AS.mk f hp).ev x=some (.sc (.slice none 0 0))) (hy:(AS.mk f hp).ev y=some q) (hid:hp id0=none) (hcv:Cv hp q (aP sz g m)) (h1:∀ a,jS (g a)=true) (hfit:m.length<=68719476736)
    (hk:∀ ver',kp (upd hp id0 (some ⟨e,sz,true,true,ver',m.map g⟩))) (a:eG vs) (h:∀ ver',k2 (.sl id0 ver' 0 m.length) (upd hp id0 (some ⟨e,sz,true,true,ver',m.map g⟩))) :
    Ee id0 vs (λOut=>(fP P tb->eO P o ⟨f,hp⟩ no any Out)/\∀ v H',Out v H'->kp H') k2 :=
  .mk _ ⟨λht=>pQ id0 ho (ht.oQ hT) (ht.FT hz hz2 hz3) (ht.yX hb).1 (ht.yX hb).2 hx hy hid hcv h1 hfit,by rintro _ _ ⟨v',rfl,rfl⟩;exact hk v'⟩ (by rintro _ _ ⟨v',rfl,rfl⟩;exact h v') a
theorem aNN {α:Type} {e sz b' id aS kk:Nat} {zs:List Value} {q:AV} {g:α->List AV} {l m l':List α} {ob:cB} (ho:o.op=.call { callee:=.builtin .append,args:=#[x,y],argTypes:=#[T,T] }) (hT:fG tb.se T=some e) (hz:fG tb.bz e=some sz) (hz2:fG tb.zs e=some zs) (hz3:(Nat.beq zs.length sz && lI zs)=true) (hb:fG tb.bb e=some b')
    (hx:(AS.mk f hp).ev x=some (.sl id aS 0 kk)) (hy:(AS.mk f hp).ev y=some q) (hob:hp id=some ob) (dP:ob.aS=aS) (hmt:ob.mt=true) (happ:ob.app=true) (hel:ob.elem=e) (hsz:ob.sz=sz) (hr:ob.rows=l.map g) (hcv:Cv hp q (aP sz g m)) (hl:l++m=l') (hk0:kk=l.length) (h1:∀ a,jS (g a)=true) (hfit:l'.length<=68719476736)
    (hk:∀ ver',kp (upd hp id (some ⟨e,sz,true,true,ver',l'.map g⟩))) (a:eG vs) (h:∀ ver',k2 (.sl id ver' 0 l'.length) (upd hp id (some ⟨e,sz,true,true,ver',l'.map g⟩))) :
    Ee id0 vs (λOut=>(fP P tb->eO P o ⟨f,hp⟩ no any Out)/\∀ v H',Out v H'->kp H') k2 :=
  .mk _ ⟨λht=>kY .any ho (ht.oQ hT) (ht.FT hz hz2 hz3) (ht.yX hb).1 (ht.yX hb).2 hx hy hob dP hmt happ hel hsz hr hk0 hcv h1 hl hfit,by rintro _ _ ⟨v',-,rfl,rfl⟩;exact hk v'⟩ (by rintro _ _ ⟨v',-,rfl,rfl⟩;exact h v') a
theorem aQR {m id aS row off:Nat} {b:Bool} {el sz ve:Nat} {mt app:Bool} {rows base:List (List AV)} {r:List AV} {q:AV} (ho:o.op=.store T x y) (hT:fG tb.sh T=some (m,b)) (hx:(AS.mk f hp).ev x=some (.pt id aS row off)) (hy:(AS.mk f hp).ev y=some q)
    (hob:hp id=some ⟨el,sz,mt,app,ve,rows⟩) (hv:ve=aS) (hmt:mt=true) (hr:rows[row]?=some r) (hf:(Nat.beq q.cells.length m && (Nat.ble (off+m) r.length && jS q.cells))=true) (hb:∀ c,rows.set row c=base.set row c)
    (hk:∀ c,kp (upd hp id (some ⟨el,sz,mt,app,ve,base.set row c⟩))) (a:eG vs) (h:oW (putRow r off q.cells) λc=>k2 (.sc undef) (upd hp id (some ⟨el,sz,mt,app,ve,base.set row c⟩))) :
    Ee id0 vs (λOut=>(fP P tb->eO P o ⟨f,hp⟩ no any Out)/\∀ v H',Out v H'->kp H') k2:=by
  rw [Bool.and_eq_true,Bool.and_eq_true] at hf
  refine .mk _ ⟨λht=>eO.gK (iG ho (ht.b.mW hT) hx hy hob hv hmt hr (Nat.eq_of_beq_eq_true hf.1) hf.2.1 hf.2.2) (λ_ h=>h) (λ_ _=>trivial),?_⟩ ?_ a
  · rintro _ _ ⟨rfl,rfl⟩;simp only [hb];exact hk _
  · rintro _ _ ⟨rfl,rfl⟩;simp only [hb];exact nZ h
theorem aIO {α:Type} {m id aS row off:Nat} {b:Bool} {el sz ve:Nat} {mt app:Bool} {l l':List α} {g:α->List AV} {v':α} {r:List AV} {q:AV} (ho:o.op=.store T x y) (hT:fG tb.sh T=some (m,b)) (hx:(AS.mk f hp).ev x=some (.pt id aS row off)) (hy:(AS.mk f hp).ev y=some q)
    (hob:hp id=some ⟨el,sz,mt,app,ve,l.map g⟩) (hl:l.set row v'=l') (hr:(l.map g)[row]?=some r) (hq:putRow r off q.cells=g v') (hv:ve=aS) (hmt:mt=true) (hf:(Nat.beq q.cells.length m && (Nat.ble (off+m) r.length && jS q.cells))=true)
    (hk:kp (upd hp id (some ⟨el,sz,mt,app,ve,l'.map g⟩))) (a:eG vs) (h:l'.length=l.length->k2 (.sc undef) (upd hp id (some ⟨el,sz,mt,app,ve,l'.map g⟩))) :
    Ee id0 vs (λOut=>(fP P tb->eO P o ⟨f,hp⟩ no any Out)/\∀ v H',Out v H'->kp H') k2:=by
  rw [Bool.and_eq_true,Bool.and_eq_true] at hf
  refine .mk _ ⟨λht=>eO.gK (iG ho (ht.b.mW hT) hx hy hob hv hmt hr (Nat.eq_of_beq_eq_true hf.1) hf.2.1 hf.2.2) (λ_ h=>h) (λ_ _=>trivial),?_⟩ ?_ a
  · rintro _ _ ⟨rfl,rfl⟩;simp only [hq,kL hl];exact hk
  · rintro _ _ ⟨rfl,rfl⟩;simp only [hq,kL hl];exact h (by rw [<- hl,List.length_set])
theorem aW5 {id aS:Nat} {ob:cB} {l l':List Int} {i v w:Int} (ho:o.op=.store T x y) (hT:fG tb.sh T=some (1,false)) (hx:(AS.mk f hp).ev x=some (.pt id aS 0 i.toNat)) (hy:(AS.mk f hp).ev y=some (int v)) (hob:hp id=some ob) (dP:ob.aS=aS) (hmt:ob.mt=true) (hr:ob.rows=[l.map int]) (h:ix l i=some w) (hl:l.set i.toNat v=l')
    (hk:kp (upd hp id (some { ob with rows:=[l'.map int] }))) (a:eG vs) (g:k2 (.sc undef) (upd hp id (some { ob with rows:=[l'.map int] }))) :
    Ee id0 vs (λOut=>(fP P tb->eO P o ⟨f,hp⟩ no any Out)/\∀ v H',Out v H'->kp H') k2 :=
  .mk _ ⟨λht=>eO.gK (aOQ ho (ht.b.mW hT) hx hy hob dP hmt hr h hl) (λ_ h=>h) (λ_ _=>trivial),by rintro _ _ ⟨rfl,rfl⟩;exact hk⟩ (by rintro _ _ ⟨rfl,rfl⟩;exact g) a
theorem aPY {α β:Type} {p:α⊕β->Prop} (h1:∀ a,p (.inl a)) (h2:∀ b,p (.inr b)):∀ x,p x:=λx=>by cases x with | inl a=>exact h1 a | inr b=>exact h2 b
theorem V3 {α:Type} {n:Nat} {a:α} {l:List α} (e:List.replicate n a=l):n=l.length:=by rw [<- e,List.length_replicate]
end
theorem aV {p:Prop} (h:p:=by first | exact trivial | ((repeat (first | exact trivial | refine ⟨rfl,?_⟩));done) | fail):p:=h
theorem aL {p:Prop} (h:p:=by first | rfl | exact Eq.symm (by assumption) | exact (jX (by assumption) rfl).symm | exact V3 (by assumption) | exact (jX (by assumption) (jX (by assumption) rfl)).symm | exact (jX (by assumption) (Eq.symm (V3 (by assumption)))).symm):p:=h
theorem aX {p:Prop} (h:p:=by first | assumption | exact j6 (by assumption) (by assumption)):p:=h
theorem aR {p:Prop} (h:p:=by first | rfl | exact jV (by assumption) | exact jL (by assumption) (aQ.fF _) | exact fM (by assumption) | exact fM (j6 (by assumption) (by assumption))):p:=h
theorem aC {p:Prop} (h:p:=by first | exact .refl _ | ((repeat' (first | exact .refl _ | exact dX.nil | exact Cv.nil _ | refine yA ?_ (aQ.fF _) | refine dX.cons ?_ ?_ | refine dX.agg ?_ | refine dX.bC ?_ | exact jN.nil | refine jN.cons ?_ ?_ | refine GZ ?_ | exact gJ rfl rfl rfl rfl rfl aL | exact qJ aL | refine AP rfl rfl rfl rfl rfl aL (by assumption) ?_));done) | fail):p:=h
theorem aY {p:Prop} (h:p:=by first | exact λ_ _=>.refl _ | (rintro _ rfl;(repeat' (first | exact .refl _ | exact dX.nil | exact Cv.nil _ | refine yA ?_ (aQ.fF _) | refine dX.cons ?_ ?_ | refine dX.agg ?_ | refine dX.bC ?_ | exact jN.nil | refine jN.cons ?_ ?_ | refine GZ ?_ | exact gJ rfl rfl rfl rfl rfl aL | exact qJ aL | refine AP rfl rfl rfl rfl rfl aL (by assumption) ?_));done) | (intro H hH;(repeat' (first | exact .refl _ | exact dX.nil | exact Cv.nil _ | refine yA ?_ (aQ.fF _) | refine dX.cons ?_ ?_ | refine dX.agg ?_ | refine dX.bC ?_ | exact jN.nil | refine jN.cons ?_ ?_ | refine GZ ?_ | exact gJ (by first | rfl | exact (hH _ (by decide)).trans rfl) rfl rfl rfl rfl aL | exact qJ aL | refine AP (by first | rfl | exact (hH _ (by decide)).trans rfl) rfl rfl rfl rfl aL (by assumption) ?_));done) | fail):p:=h
theorem aJ {p:Prop} (h:p:=by first | ((refine ⟨?_,?_⟩ <;> (repeat (first | exact trivial | refine ⟨⟨_,rfl,.refl _⟩,?_⟩ | refine ⟨⟨_,rfl,aC⟩,?_⟩ | refine ⟨⟨_,rfl,⟨rfl,aC⟩⟩,?_⟩)));done) | fail):p:=h
theorem aK {p:Prop} (h:p:=by first | exact λ_=>trivial | exact λ_=>⟨rfl,trivial⟩ | exact λ_=>⟨rfl,rfl,trivial⟩ | exact λ_=>⟨rfl,rfl,rfl,trivial⟩ | exact λ_=>⟨rfl,rfl,rfl,rfl,trivial⟩):p:=h
theorem aO {p:Prop} (h:p:=by first | exact trivial | exact ⟨rfl,trivial⟩ | exact ⟨rfl,rfl,trivial⟩ | exact ⟨rfl,rfl,rfl,trivial⟩ | exact ⟨rfl,rfl,rfl,rfl,trivial⟩):p:=h
theorem aZ {p:Prop} (h:p:=by repeat (first | exact ZL.nil | refine ZL.cons ?_ ?_ | exact .sc _ | exact .nil _)):p:=h
theorem aBU {i v o k q:Nat} {r:List AV} (h:k=q):AV.bC (.sl i v o k :: r)=.bC (.sl i v o q :: r):=by rw [h]
theorem au {p:Prop} (h:p:=by
  repeat' (first
    | ((conv=>whnf);first
      | refine aPY ?_ ?_
      | intro _
      | (show kP _ _ _ _;refine kP.mk ?_ rfl aV)
      | (show nK _ _ _ _ _;refine nK.mk ?_ ?_ rfl aV)
      | (show EJ _ _;exact EJ.mk aJ aV)
      | (show Ek _ _ _;refine Ek.mk ?_ (by kernel_rfl) aV)
      | (show Ev _ (λv=>∀ H,H=_->_->_) _;first
        | (apply aOA ;(iterate 5 exact rfl);exact aR;exact aV)
        | (apply aOX ;(iterate 4 exact rfl);exact aR;exact aV)
        | (apply aQM ;(iterate 6 exact rfl);exact aX;exact aV)
        | (apply aVB ;(focus (assumption));(iterate 6 exact rfl);exact aV)
        | (apply aT4 ;(focus (assumption));(iterate 6 exact rfl);exact aV)
        | (apply aU6 ;(iterate 5 exact rfl);exact aR;exact aV)
        | (apply aUF ;(iterate 4 exact rfl);(focus (rfl));(iterate 3 exact rfl);(focus (first | exact List.length_map _ | exact M5 | rfl));exact aX;exact aL;exact aV)
        | (apply aT5 ;(iterate 4 exact rfl);(focus (rfl));(iterate 3 exact rfl);(focus (decide));exact aV)
        | (apply aVI ;(iterate 4 exact rfl);(focus (rfl));(iterate 3 exact rfl);(focus (assumption));exact aV)
        | refine Ev.mk _ (λH hH ht=>iH (aCF rfl (by kernel_rfl) rfl rfl) (congrArg aT (by assumption))) ?_ aV
        | refine Ev.mk _ (λH hH ht=>aGF ht rfl rfl (by kernel_rfl) rfl rfl (by repeat (first | exact .nil _ | refine .cons (.int (by kernel_rfl)) (by kernel_rfl) ?_)) ((congrArg Bool.not (jQ.eqv _ _)).trans (by assumption))) ?_ aV
        | refine Ev.mk _ (λH hH ht=>aB0 rfl (by kernel_rfl) rfl rfl) ?_ aV
        | refine Ev.mk _ (λH hH ht=>aEE rfl (by kernel_rfl) rfl rfl) ?_ aV
        | refine Ev.mk _ (λH hH ht=>UO rfl (by kernel_rfl) rfl) ?_ aV
        | refine Ev.mk _ (λH hH ht=>aAV rfl rfl rfl (by assumption)) ?_ aV
        | refine Ev.mk _ (λH hH ht=>aGV rfl rfl rfl (by assumption)) ?_ aV
        | refine Ev.mk _ (λH hH ht=>aAL rfl rfl rfl rfl (by assumption)) ?_ aV
        | refine Ev.mk _ (λH hH ht=>xG rfl rfl rfl (by assumption) (by assumption)) ?_ aV
        | refine Ev.mk _ (λH hH ht=>SL rfl rfl rfl (by assumption) (by assumption)) ?_ aV
        | refine Ev.mk _ (λH hH ht=>aFQ rfl rfl rfl (by assumption)) ?_ aV
        | refine Ev.mk _ (λH hH ht=>aDE rfl rfl rfl (by assumption)) ?_ aV
        | refine Ev.mk _ (λH hH ht=>O0 rfl rfl rfl (by assumption) (by assumption)) ?_ aV
        | refine Ev.mk _ (λH hH ht=>ON rfl rfl rfl (by assumption) (by assumption)) ?_ aV
        | refine Ev.mk _ (λH hH ht=>iH (VP rfl rfl rfl) (congrArg aT (by assumption))) ?_ aV
        | refine Ev.mk _ (λH hH ht=>iH (Z6 rfl (by kernel_rfl) rfl rfl) (congrArg aT (by assumption))) ?_ aV
        | refine Ev.mk _ (λH hH ht=>aGP rfl (by kernel_rfl) rfl) ?_ aV
        | refine Ev.mk _ (λH hH ht=>WR rfl (by kernel_rfl) rfl rfl (rG (by assumption)).1 (rG (by assumption)).2) ?_ aV)
      | (show Ev _ _ _;first
        | (apply aRQ ;(iterate 5 exact rfl);exact aR;(focus (decide));exact aV)
        | (apply aOP ;(iterate 4 exact rfl);exact aR;(focus (decide));exact aV)
        | (apply aTY ;(iterate 6 exact rfl);exact aX;(focus (decide));exact aV)
        | (apply aOW ;(focus (assumption));(iterate 6 exact rfl);(focus (decide));exact aV)
        | (apply aXF ;(focus (assumption));(iterate 6 exact rfl);(focus (decide));exact aV)
        | (apply aIP ;(iterate 5 exact rfl);exact aR;(focus (decide));exact aV)
        | (apply aV4 ;(iterate 4 exact rfl);(focus (rfl));(iterate 3 exact rfl);(focus (first | exact List.length_map _ | exact M5 | rfl));exact aX;exact aL;(focus (decide));exact aV)
        | (apply aUH ;(iterate 4 exact rfl);(focus (rfl));(iterate 3 exact rfl);(iterate 2 (focus (decide)));exact aV)
        | (apply aS8 ;(iterate 4 exact rfl);(focus (rfl));(iterate 3 exact rfl);(focus (assumption));(focus (decide));exact aV)
        | refine Ev.mk _ (λH hH ht=>iH (aCF rfl (by kernel_rfl) rfl rfl) (congrArg aT (by assumption))) ?_ aV
        | refine Ev.mk _ (λH hH ht=>aGF ht rfl rfl (by kernel_rfl) rfl rfl (by repeat (first | exact .nil _ | refine .cons (.int (by kernel_rfl)) (by kernel_rfl) ?_)) ((congrArg Bool.not (jQ.eqv _ _)).trans (by assumption))) ?_ aV
        | refine Ev.mk _ (λH hH ht=>aB0 rfl (by kernel_rfl) rfl rfl) ?_ aV
        | refine Ev.mk _ (λH hH ht=>aEE rfl (by kernel_rfl) rfl rfl) ?_ aV
        | refine Ev.mk _ (λH hH ht=>UO rfl (by kernel_rfl) rfl) ?_ aV
        | refine Ev.mk _ (λH hH ht=>aAV rfl rfl rfl (by assumption)) ?_ aV
        | refine Ev.mk _ (λH hH ht=>aGV rfl rfl rfl (by assumption)) ?_ aV
        | refine Ev.mk _ (λH hH ht=>aAL rfl rfl rfl rfl (by assumption)) ?_ aV
        | refine Ev.mk _ (λH hH ht=>xG rfl rfl rfl (by assumption) (by assumption)) ?_ aV
        | refine Ev.mk _ (λH hH ht=>SL rfl rfl rfl (by assumption) (by assumption)) ?_ aV
        | refine Ev.mk _ (λH hH ht=>aFQ rfl rfl rfl (by assumption)) ?_ aV
        | refine Ev.mk _ (λH hH ht=>aDE rfl rfl rfl (by assumption)) ?_ aV
        | refine Ev.mk _ (λH hH ht=>O0 rfl rfl rfl (by assumption) (by assumption)) ?_ aV
        | refine Ev.mk _ (λH hH ht=>ON rfl rfl rfl (by assumption) (by assumption)) ?_ aV
        | refine Ev.mk _ (λH hH ht=>iH (VP rfl rfl rfl) (congrArg aT (by assumption))) ?_ aV
        | refine Ev.mk _ (λH hH ht=>iH (Z6 rfl (by kernel_rfl) rfl rfl) (congrArg aT (by assumption))) ?_ aV
        | refine Ev.mk _ (λH hH ht=>aGP rfl (by kernel_rfl) rfl) ?_ aV
        | refine Ev.mk _ (λH hH ht=>WR rfl (by kernel_rfl) rfl rfl (rG (by assumption)).1 (rG (by assumption)).2) ?_ aV)
      | (show Ed _ _ _ _ _;refine Ed.mk ?_ rfl aY aV)
      | (show Em _ _;refine Em.mk ?_ aV)
      | (show NB _ _ _ _;refine NB.mk ?_ (by first | exact rfl | decide) aV)
      | (show Es _ _ _;refine Es.mk aZ ⟨by assumption,by assumption⟩ ?_)
      | (show E0 _ _;exact E0.mk aC aV)
      | (show Ei _ _ _ _ _;first
        | exact Ei.mk rfl aV aV
        | exact Ei.mk (aBU aL) aV aV)
      | (show EL _ _ _;refine EL.mk ?_ aJ aV)
      | (show Ec _ _ _;refine Ec.mk ?_ aC aV)
      | (show Et _ (∀ H,H=_->_->_) _;(apply Z9 (hp:=H0);(iterate 7 exact rfl);(focus (kernel_rfl));(iterate 2 exact rfl);exact aV))
      | (show Et _ (∀ H,_) _;first
        | (apply Z9 (hp:=H0);(iterate 7 exact rfl);(focus (kernel_rfl));(iterate 2 exact rfl);exact aV)
        | refine Et.mk aO ?_ aV)
      | (show Et _ _ _;refine Et.mk aO ?_ aV)
      | (show Ee _ _ _ _;first
        | (apply aSX ;(iterate 9 exact rfl);exact aC;(focus (first | exact aQ.one | exact λ_=>rfl));(focus (assumption));exact aK;exact aV)
        | (apply aNN ;(iterate 15 exact rfl);exact aC;(focus (assumption));exact aL;(focus (first | exact aQ.one | exact λ_=>rfl));(focus (assumption));exact aK;exact aV)
        | (apply aW5 ;(iterate 8 exact rfl);exact aX;(focus (assumption));exact aO;exact aV)
        | (apply aIO ;(iterate 5 exact rfl);(focus (assumption));exact aR;(iterate 4 exact rfl);exact aO;exact aV)
        | (apply aQR ;(iterate 7 exact rfl);exact aR;exact rfl;(focus (first | exact λ_=>yD | exact λ_=>rfl));exact aK;exact aV))
      | refine E2.mk ?_ ?_
      | exact True.intro))):p:=h
end Go.Pv
