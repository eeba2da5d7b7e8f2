import Derived.Test.YtfamehgkphejnaaGreatPwD
import Derived.Test.YtfamehgkphejnaaGreatPvAH
set_option linter.unusedVariables false
set_option linter.unusedSimpArgs false
namespace Go.Pv
theorem bE {P:Program} {o:Oper} {f:FS} {hp:AH} {v:AV} {tb:dX} (h:bJ P o ⟨f,hp⟩ v):∀ H,H=hp->cK P tb->bJ P o ⟨f,H⟩ v:=λH e _=>by rw [e];exact h
theorem SS {a:AV} {l:List AV} (ha:PV a) (hl:∀ x∈l,PV x):∀ x∈a :: l,PV x:=by
  intro x hx;rcases List.mem_cons.1 hx with rfl | h
  · exact ha
  · exact hl x h
def pw {α β:Type} {γ:Type 1} (f:α->β->γ) (p:α×β):γ:=f p.1 p.2
theorem O9 {P:Program} {i:Ix} {α β:Type} (f:α->β->WT P i) (p:α×β):(pw f p).run=p2 (λa b=>(f a b).run) p:=rfl
section
variable {P:Program} {tb:dX} {f:FS} {hp:AH} {vs:List (Nat×Nat)} {o:Oper} {T:TypeId} {x y:Operand} {Ag:AH->Prop} {k:AV->Prop}
theorem TX {fl m id aG row off:Nat} {ob:bC} {r:List AV} (ho:o.op=.fieldAddr T x fl) (hT:mV tb.fo T fl=some m) (hx:(AS.mk f hp).ev x=some (.pt id aG row off)) (hob:hp id=some ob) (hv:ob.aG=aG)
    (hr:ob.rows[row]?=some r) (hag:∀ H,Ag H->H id=hp id) (a:bN vs) (g:k (.pt id aG row (off+m))):Ev vs (λv=>∀ H,Ag H->cK P tb->bJ P o ⟨f,H⟩ v) k :=
  .mk _ (λH hA ht=>dK ho (ht.b.DX hT) ((dY x).trans hx) (.pt ((hag H hA).trans hob) hv hr) (.pt _ _ _ _ _)) g a
theorem NE {id aG row off:Nat} {ob:bC} {r:List AV} (ho:o.op=.nilCheck x) (hx:(AS.mk f hp).ev x=some (.pt id aG row off)) (hob:hp id=some ob) (hv:ob.aG=aG)
    (hr:ob.rows[row]?=some r) (hag:∀ H,Ag H->H id=hp id) (a:bN vs) (g:k (.pt id aG row off)):Ev vs (λv=>∀ H,Ag H->cK P tb->bJ P o ⟨f,H⟩ v) k :=
  .mk _ (λH hA ht=>iH ho ((dY x).trans hx) (.pt ((hag H hA).trans hob) hv hr)) g a
theorem O1 {m id aG row off:Nat} {b:Bool} {ob:bC} {r:List AV} (ho:o.op=.load T x) (hT:bZ tb.sh T=some (m,b)) (hx:(AS.mk f hp).ev x=some (.pt id aG row off)) (hob:hp id=some ob) (hv:ob.aG=aG)
    (hr:ob.rows[row]?=some r) (hag:∀ H,Ag H->H id=hp id) (a:bN vs) (g:match gD m b (r.drop off) with | some v=>oW v k | none=>False):Ev vs (λv=>∀ H,Ag H->cK P tb->bJ P o ⟨f,H⟩ v) k:=by
  split at g
  · rename_i v hc
    exact .mk _ (λH hA ht=>dV ho (ht.b.jO hT) ((dY x).trans hx) (.pt ((hag H hA).trans hob) hv hr) hc) (CE g) a
  · exact g.elim
theorem T4 {α:Type} {e sz kk id aG:Nat} {b:Bool} {ik:IntKind} {i:Int} {ob:bC} {l:List α} {v:α} (ho:o.op=.indexAddr T x y) (hT:bZ tb.se T=some e) (he:bZ tb.sh e=some (sz,b))
    (hx:(AS.mk f hp).ev x=some (.sl id aG 0 kk)) (hy:(AS.mk f hp).ev y=some (.sc (.int ik i))) (hob:hp id=some ob) (bL:ob.aG=aG) (hsz:ob.sz=sz) (hrl:ob.rows.length=l.length) (h:ix l i=some v) (hk:kk=l.length)
    (hag:∀ H,Ag H->H id=hp id) (a:bN vs) (g:k (.pt id aG i.toNat 0)):Ev vs (λv=>∀ H,Ag H->cK P tb->bJ P o ⟨f,H⟩ v) k :=
  .mk _ (λH hA ht=>aP4 ho (ht.kM hT) (ht.b.jO he) ((dY x).trans hx) ((dY y).trans hy) ((hag H hA).trans hob) bL hsz hk hrl h) g a
theorem K8 {N e m id aG row off:Nat} {b:Bool} {ob:bC} {r:List AV} {ik:IntKind} {i:Int} (ho:o.op=.indexAddr T x y) (hT:bZ tb.ar T=some (N,e)) (he:bZ tb.sh e=some (m,b)) (hx:(AS.mk f hp).ev x=some (.pt id aG row off)) (hy:(AS.mk f hp).ev y=some (.sc (.int ik i)))
    (hob:hp id=some ob) (bL:ob.aG=aG) (hr:ob.rows[row]?=some r) (hi:0<=i/\i<(N:Int)) (hag:∀ H,Ag H->H id=hp id) (a:bN vs) (g:k (.pt id aG row (off+i.toNat*m))):Ev vs (λv=>∀ H,Ag H->cK P tb->bJ P o ⟨f,H⟩ v) k :=
  .mk _ (λH hA ht=>pQ ho (ht.E5 hT) (ht.b.jO he) ((dY x).trans hx) ((dY y).trans hy) ((hag H hA).trans hob) bL hr hi) g a
theorem V4 {N e id aG:Nat} {b:Bool} {ob:bC} {ik:IntKind} {i:Int} {r:List AV} (ho:o.op=.indexAddr T x y) (hT:bZ tb.ar T=some (N,e)) (he:bZ tb.sh e=some (1,b)) (hx:(AS.mk f hp).ev x=some (.pt id aG 0 0)) (hy:(AS.mk f hp).ev y=some (.sc (.int ik i)))
    (hob:hp id=some ob) (bL:ob.aG=aG) (hr:ob.rows=[r]) (hi:0<=i/\i<(N:Int)) (hag:∀ H,Ag H->H id=hp id) (a:bN vs) (g:k (.pt id aG 0 i.toNat)):Ev vs (λv=>∀ H,Ag H->cK P tb->bJ P o ⟨f,H⟩ v) k :=
  .mk _ (λH hA ht=>FM ho (ht.E5 hT) (ht.b.jO he) ((dY x).trans hx) ((dY y).trans hy) ((hag H hA).trans hob) bL hr hi) g a
theorem zG {id aG:Nat} {ob:bC} {l:List Int} {i v:Int} (ho:o.op=.load T x) (hT:bZ tb.sh T=some (1,false)) (hx:(AS.mk f hp).ev x=some (.pt id aG 0 i.toNat)) (hob:hp id=some ob) (bL:ob.aG=aG) (hr:ob.rows=[l.map int]) (h:ix l i=some v)
    (hag:∀ H,Ag H->H id=hp id) (a:bN vs) (g:k (int v)):Ev vs (λv=>∀ H,Ag H->cK P tb->bJ P o ⟨f,H⟩ v) k :=
  .mk _ (λH hA ht=>aNS ho (ht.b.jO hT) ((dY x).trans hx) ((hag H hA).trans hob) bL hr h) g a
theorem KH {fl m id aG row off:Nat} {ob:bC} {r:List AV} (ho:o.op=.fieldAddr T x fl) (hT:mV tb.fo T fl=some m) (hx:(AS.mk f hp).ev x=some (.pt id aG row off)) (hob:hp id=some ob) (hv:ob.aG=aG) (hr:ob.rows[row]?=some r) (a:bN vs) (g:k (.pt id aG row (off+m))):Ev vs (λv=>∀ H,H=hp->cK P tb->bJ P o ⟨f,H⟩ v) k :=
  TX ho hT hx hob hv hr (λ_ h=>congrFun h _) a g
theorem UF {ds:List Nat} {fl m id aG row off:Nat} {ob:bC} {r:List AV} (ho:o.op=.fieldAddr T x fl) (hT:mV tb.fo T fl=some m) (hx:(AS.mk f hp).ev x=some (.pt id aG row off)) (hob:hp id=some ob) (hv:ob.aG=aG) (hr:ob.rows[row]?=some r) (hm:id∈ds) (a:bN vs) (g:k (.pt id aG row (off+m))):Ev vs (λv=>∀ H,(∀ k,k∈ds->H k=hp k)->cK P tb->bJ P o ⟨f,H⟩ v) k :=
  TX ho hT hx hob hv hr (λ_ h=>h _ hm) a g
theorem TV {id aG row off:Nat} {ob:bC} {r:List AV} (ho:o.op=.nilCheck x) (hx:(AS.mk f hp).ev x=some (.pt id aG row off)) (hob:hp id=some ob) (hv:ob.aG=aG) (hr:ob.rows[row]?=some r) (a:bN vs) (g:k (.pt id aG row off)):Ev vs (λv=>∀ H,H=hp->cK P tb->bJ P o ⟨f,H⟩ v) k :=
  NE ho hx hob hv hr (λ_ h=>congrFun h _) a g
theorem LV {ds:List Nat} {id aG row off:Nat} {ob:bC} {r:List AV} (ho:o.op=.nilCheck x) (hx:(AS.mk f hp).ev x=some (.pt id aG row off)) (hob:hp id=some ob) (hv:ob.aG=aG) (hr:ob.rows[row]?=some r) (hm:id∈ds) (a:bN vs) (g:k (.pt id aG row off)):Ev vs (λv=>∀ H,(∀ k,k∈ds->H k=hp k)->cK P tb->bJ P o ⟨f,H⟩ v) k :=
  NE ho hx hob hv hr (λ_ h=>h _ hm) a g
theorem NP {m id aG row off:Nat} {b:Bool} {ob:bC} {r:List AV} (ho:o.op=.load T x) (hT:bZ tb.sh T=some (m,b)) (hx:(AS.mk f hp).ev x=some (.pt id aG row off)) (hob:hp id=some ob) (hv:ob.aG=aG) (hr:ob.rows[row]?=some r) (a:bN vs) (g:match gD m b (r.drop off) with | some v=>oW v k | none=>False):Ev vs (λv=>∀ H,H=hp->cK P tb->bJ P o ⟨f,H⟩ v) k :=
  O1 ho hT hx hob hv hr (λ_ h=>congrFun h _) a g
theorem NH {ds:List Nat} {m id aG row off:Nat} {b:Bool} {ob:bC} {r:List AV} (ho:o.op=.load T x) (hT:bZ tb.sh T=some (m,b)) (hx:(AS.mk f hp).ev x=some (.pt id aG row off)) (hob:hp id=some ob) (hv:ob.aG=aG) (hr:ob.rows[row]?=some r) (hm:id∈ds) (a:bN vs) (g:match gD m b (r.drop off) with | some v=>oW v k | none=>False):Ev vs (λv=>∀ H,(∀ k,k∈ds->H k=hp k)->cK P tb->bJ P o ⟨f,H⟩ v) k :=
  O1 ho hT hx hob hv hr (λ_ h=>h _ hm) a g
theorem NW {α:Type} {e sz kk id aG:Nat} {b:Bool} {ik:IntKind} {i:Int} {ob:bC} {l:List α} {v:α} (ho:o.op=.indexAddr T x y) (hT:bZ tb.se T=some e) (he:bZ tb.sh e=some (sz,b)) (hx:(AS.mk f hp).ev x=some (.sl id aG 0 kk)) (hy:(AS.mk f hp).ev y=some (.sc (.int ik i))) (hob:hp id=some ob) (bL:ob.aG=aG) (hsz:ob.sz=sz) (hrl:ob.rows.length=l.length) (h:ix l i=some v) (hk:kk=l.length) (a:bN vs) (g:k (.pt id aG i.toNat 0)):Ev vs (λv=>∀ H,H=hp->cK P tb->bJ P o ⟨f,H⟩ v) k :=
  T4 ho hT he hx hy hob bL hsz hrl h hk (λ_ h=>congrFun h _) a g
theorem NG {ds:List Nat} {α:Type} {e sz kk id aG:Nat} {b:Bool} {ik:IntKind} {i:Int} {ob:bC} {l:List α} {v:α} (ho:o.op=.indexAddr T x y) (hT:bZ tb.se T=some e) (he:bZ tb.sh e=some (sz,b)) (hx:(AS.mk f hp).ev x=some (.sl id aG 0 kk)) (hy:(AS.mk f hp).ev y=some (.sc (.int ik i))) (hob:hp id=some ob) (bL:ob.aG=aG) (hsz:ob.sz=sz) (hrl:ob.rows.length=l.length) (h:ix l i=some v) (hk:kk=l.length) (hm:id∈ds) (a:bN vs) (g:k (.pt id aG i.toNat 0)):Ev vs (λv=>∀ H,(∀ k,k∈ds->H k=hp k)->cK P tb->bJ P o ⟨f,H⟩ v) k :=
  T4 ho hT he hx hy hob bL hsz hrl h hk (λ_ h=>h _ hm) a g
theorem R9 {N e m id aG row off:Nat} {b:Bool} {ob:bC} {r:List AV} {ik:IntKind} {i:Int} (ho:o.op=.indexAddr T x y) (hT:bZ tb.ar T=some (N,e)) (he:bZ tb.sh e=some (m,b)) (hx:(AS.mk f hp).ev x=some (.pt id aG row off)) (hy:(AS.mk f hp).ev y=some (.sc (.int ik i))) (hob:hp id=some ob) (bL:ob.aG=aG) (hr:ob.rows[row]?=some r) (hi:0<=i/\i<(N:Int)) (a:bN vs) (g:k (.pt id aG row (off+i.toNat*m))):Ev vs (λv=>∀ H,H=hp->cK P tb->bJ P o ⟨f,H⟩ v) k :=
  K8 ho hT he hx hy hob bL hr hi (λ_ h=>congrFun h _) a g
theorem M9 {ds:List Nat} {N e m id aG row off:Nat} {b:Bool} {ob:bC} {r:List AV} {ik:IntKind} {i:Int} (ho:o.op=.indexAddr T x y) (hT:bZ tb.ar T=some (N,e)) (he:bZ tb.sh e=some (m,b)) (hx:(AS.mk f hp).ev x=some (.pt id aG row off)) (hy:(AS.mk f hp).ev y=some (.sc (.int ik i))) (hob:hp id=some ob) (bL:ob.aG=aG) (hr:ob.rows[row]?=some r) (hi:0<=i/\i<(N:Int)) (hm:id∈ds) (a:bN vs) (g:k (.pt id aG row (off+i.toNat*m))):Ev vs (λv=>∀ H,(∀ k,k∈ds->H k=hp k)->cK P tb->bJ P o ⟨f,H⟩ v) k :=
  K8 ho hT he hx hy hob bL hr hi (λ_ h=>h _ hm) a g
theorem RV {N e id aG:Nat} {b:Bool} {ob:bC} {ik:IntKind} {i:Int} {r:List AV} (ho:o.op=.indexAddr T x y) (hT:bZ tb.ar T=some (N,e)) (he:bZ tb.sh e=some (1,b)) (hx:(AS.mk f hp).ev x=some (.pt id aG 0 0)) (hy:(AS.mk f hp).ev y=some (.sc (.int ik i))) (hob:hp id=some ob) (bL:ob.aG=aG) (hr:ob.rows=[r]) (hi:0<=i/\i<(N:Int)) (a:bN vs) (g:k (.pt id aG 0 i.toNat)):Ev vs (λv=>∀ H,H=hp->cK P tb->bJ P o ⟨f,H⟩ v) k :=
  V4 ho hT he hx hy hob bL hr hi (λ_ h=>congrFun h _) a g
theorem SL {ds:List Nat} {N e id aG:Nat} {b:Bool} {ob:bC} {ik:IntKind} {i:Int} {r:List AV} (ho:o.op=.indexAddr T x y) (hT:bZ tb.ar T=some (N,e)) (he:bZ tb.sh e=some (1,b)) (hx:(AS.mk f hp).ev x=some (.pt id aG 0 0)) (hy:(AS.mk f hp).ev y=some (.sc (.int ik i))) (hob:hp id=some ob) (bL:ob.aG=aG) (hr:ob.rows=[r]) (hi:0<=i/\i<(N:Int)) (hm:id∈ds) (a:bN vs) (g:k (.pt id aG 0 i.toNat)):Ev vs (λv=>∀ H,(∀ k,k∈ds->H k=hp k)->cK P tb->bJ P o ⟨f,H⟩ v) k :=
  V4 ho hT he hx hy hob bL hr hi (λ_ h=>h _ hm) a g
theorem R3 {id aG:Nat} {ob:bC} {l:List Int} {i v:Int} (ho:o.op=.load T x) (hT:bZ tb.sh T=some (1,false)) (hx:(AS.mk f hp).ev x=some (.pt id aG 0 i.toNat)) (hob:hp id=some ob) (bL:ob.aG=aG) (hr:ob.rows=[l.map int]) (h:ix l i=some v) (a:bN vs) (g:k (int v)):Ev vs (λv=>∀ H,H=hp->cK P tb->bJ P o ⟨f,H⟩ v) k :=
  zG ho hT hx hob bL hr h (λ_ h=>congrFun h _) a g
theorem R5 {ds:List Nat} {id aG:Nat} {ob:bC} {l:List Int} {i v:Int} (ho:o.op=.load T x) (hT:bZ tb.sh T=some (1,false)) (hx:(AS.mk f hp).ev x=some (.pt id aG 0 i.toNat)) (hob:hp id=some ob) (bL:ob.aG=aG) (hr:ob.rows=[l.map int]) (h:ix l i=some v) (hm:id∈ds) (a:bN vs) (g:k (int v)):Ev vs (λv=>∀ H,(∀ k,k∈ds->H k=hp k)->cK P tb->bJ P o ⟨f,H⟩ v) k :=
  zG ho hT hx hob bL hr h (λ_ h=>h _ hm) a g
theorem SN {id aG:Nat} {ob:bC} {l:List Int} {i v:Int} (h:ix l i=some v) (ho:o.op=.load T x) (hT:bZ tb.sh T=some (1,false)) (hx:(AS.mk f hp).ev x=some (.pt id aG 0 i.toNat)) (hob:hp id=some ob) (bL:ob.aG=aG) (hr:ob.rows=[l.map int]) (a:bN vs) (g:k (int v)):Ev vs (λv=>∀ H,H=hp->cK P tb->bJ P o ⟨f,H⟩ v) k :=
  zG ho hT hx hob bL hr h (λ_ h=>congrFun h _) a g
theorem MW {ds:List Nat} {id aG:Nat} {ob:bC} {l:List Int} {i v:Int} (h:ix l i=some v) (ho:o.op=.load T x) (hT:bZ tb.sh T=some (1,false)) (hx:(AS.mk f hp).ev x=some (.pt id aG 0 i.toNat)) (hob:hp id=some ob) (bL:ob.aG=aG) (hr:ob.rows=[l.map int]) (hm:id∈ds) (a:bN vs) (g:k (int v)):Ev vs (λv=>∀ H,(∀ k,k∈ds->H k=hp k)->cK P tb->bJ P o ⟨f,H⟩ v) k :=
  zG ho hT hx hob bL hr h (λ_ h=>h _ hm) a g
def AF (P:Program) (T:TypeId):Bool:=match P.underlying T with
  | some (.interface _)=>true
  | _=>false
def EH (P:Program) (T:TypeId):Bool:=match P.underlying T with
  | some (.interface _)=>false
  | some _=>true
  | none=>false
theorem NI {T:TypeId} (h:AF P T=true):∃ ms,P.underlying T=some (.interface ms):=by
  unfold AF at h
  split at h
  · rename_i ms e;exact ⟨ms,e⟩
  · cases h
theorem aOO {T:TypeId} (h:EH P T=true):∃ d,P.underlying T=some d/\∀ ms,d≠.interface ms:=by
  unfold EH at h
  split at h
  · cases h
  · rename_i d hd e;exact ⟨d,e,λms q=>hd ms q⟩
  · cases h
theorem bBL {S:AS} {Ty:TypeId} {t:TypeId} {v:AV} (ho:o.op=.binOp .eql T x y Ty) (hT:AF P T=true) (hx:S.ev x=some (.dW t v)) (hy:S.ev y=some (.sc .nilIface)):bJ P o S (aF false):=by
  obtain ⟨ms,h⟩:=NI hT;exact qU ho h hx hy
theorem zX {S:AS} {Ty:TypeId} {c:Value} (ho:o.op=.binOp .eql T x (.const c) Ty) (hT:AF P T=true) (hx:S.ev x=some (.sc .nilIface)) (hc:c=.nilIface):bJ P o S (aF true):=by
  obtain ⟨ms,h⟩:=NI hT;exact U0 ho h hx hc
theorem zR {S:AS} {v:AV} (ho:o.op=.makeInterface T x) (hT:EH P T=true) (hx:S.ev x=some v):bJ P o S (.dW T v):=by
  obtain ⟨d,h,hd⟩:=aOO hT;exact qR ho h hd hx
theorem UD {id aG kk:Nat} {ob:bC} {l:List Int} (hl:l.length=kk) (ho:o.op=.load T x) (hT:bZ tb.sh T=some (kk,true)) (hx:(AS.mk f hp).ev x=some (.pt id aG 0 0)) (hob:hp id=some ob) (bL:ob.aG=aG) (hr:ob.rows=[l.map int])
    (hag:∀ H,Ag H->H id=hp id) (a:bN vs) (g:oW (.agg ((List.range kk).map λi=>int (l.getD i 0))) k):Ev vs (λv=>∀ H,Ag H->cK P tb->bJ P o ⟨f,H⟩ v) k :=
  .mk _ (λH hA ht=>WL ho (ht.b.jO hT) ((dY x).trans hx) ((hag H hA).trans hob) bL hr hl) (CE g) a
theorem OP {id aG kk:Nat} {ob:bC} {l:List Int} (hl:l.length=kk) (ho:o.op=.load T x) (hT:bZ tb.sh T=some (kk,true)) (hx:(AS.mk f hp).ev x=some (.pt id aG 0 0)) (hob:hp id=some ob) (bL:ob.aG=aG) (hr:ob.rows=[l.map int]) (a:bN vs) (g:oW (.agg ((List.range kk).map λi=>int (l.getD i 0))) k):Ev vs (λv=>∀ H,H=hp->cK P tb->bJ P o ⟨f,H⟩ v) k :=
  UD hl ho hT hx hob bL hr (λ_ h=>congrFun h _) a g
theorem U3 {ds:List Nat} {id aG kk:Nat} {ob:bC} {l:List Int} (hl:l.length=kk) (ho:o.op=.load T x) (hT:bZ tb.sh T=some (kk,true)) (hx:(AS.mk f hp).ev x=some (.pt id aG 0 0)) (hob:hp id=some ob) (bL:ob.aG=aG) (hr:ob.rows=[l.map int]) (hm:id∈ds) (a:bN vs) (g:oW (.agg ((List.range kk).map λi=>int (l.getD i 0))) k):Ev vs (λv=>∀ H,(∀ k,k∈ds->H k=hp k)->cK P tb->bJ P o ⟨f,H⟩ v) k :=
  UD hl ho hT hx hob bL hr (λ_ h=>h _ hm) a g
theorem bDP {S:AS} {cs ds:List AV} {e N:Nat} {r r':Bool} {Ty:TypeId} (ht:cK P tb) (ho:o.op=.binOp .neq T x y Ty) (hA:bZ tb.ar T=some (N,e)) (hc:(decide (((P.info? e).map (·.size))=some 1) && (decide (P.cellsOf e=1) && decide (0<N)))=true) (hx:S.ev x=some (.agg cs)) (hy:S.ev y=some (.agg ds))
    (h:rJ P 0 ((List.range' 0 N).map λj=>(e,j)) cs ds r) (hr:(!r)=r'):bJ P o S (aF r'):=by
  simp only [Bool.and_eq_true,decide_eq_true_eq] at hc
  exact aOI ho (ht.E5 hA) hc.1 hc.2.1 hc.2.2 hx hy h hr
variable {p:Prop} {v:AV}
theorem NK {S:AS}:∀ {l:List Operand} {us:List AV},evs S l=some us->EvL S l us
  | [],_,h=>by cases h;exact .nil
  | x :: r,_,h=>by
    unfold evs at h
    split at h
    · rename_i v hv
      split at h
      · rename_i vs hvs;cases h;exact .cons hv (NK hvs)
      · cases h
    · cases h
theorem VI {f:FS} {hp H:AH}:∀ (l:List Operand),evs ⟨f,H⟩ l=evs ⟨f,hp⟩ l
  | []=>rfl
  | x :: r=>by unfold evs;rw [dY (hp:=hp) x,VI r]
theorem CZ {e sz N:Nat} {zs:List Value} {ps:Array (Nat×Operand)} {us:List AV} {rows:List (List AV)} (ho:o.op=.buildSlice T N ps) (hT:bZ tb.se T=some e) (hz:bZ tb.bz e=some sz) (hz2:bZ tb.zs e=some zs) (hz3:(Nat.beq zs.length sz && iX zs)=true)
    (he:evs ⟨f,hp⟩ (ps.toList.map (·.2))=some us) (hv:.list sz rows=v) (hf:lJ (λi=>some (i*sz,sz)) (mE zs N) ((ps.toList.map (·.1)).zip us)=some rows.flatten) (hN:(Nat.ble (N*sz) 16777216 && (rows.all λr=>Nat.beq r.length sz))=true) (hrl:rows.length=N)
    (a:bN vs) (g:p):Et vs (∀ H,Ag H->cK P tb->bJ P o ⟨f,H⟩ v) p :=
  .mk (λH hA ht=>by
    rw [Bool.and_eq_true] at hN
    exact hv ▸ dQ (ps:=ps.toList) (by rw [ho]) (ht.kM hT) (ht.BL hz hz2 hz3) (NK ((VI _).trans he)) hf hN.1 hN.2 hrl) g a
variable {id0:Nat} {kp:AH->Prop} {k2:AV->AH->Prop}
theorem PU {α:Type} {e sz b':Nat} {zs:List Value} {q:AV} {g:α->List AV} {m:List α} (ho:o.op=.call { callee:=.builtin .append,args:=#[x,y],argTypes:=#[T,T] }) (hT:bZ tb.se T=some e) (hz:bZ tb.bz e=some sz) (hz2:bZ tb.zs e=some zs) (hz3:(Nat.beq zs.length sz && iX zs)=true) (hb:bZ tb.bb e=some b')
    (hx:(AS.mk f hp).ev x=some (.sc (.slice none 0 0))) (hy:(AS.mk f hp).ev y=some q) (hid:hp id0=none) (hcv:Cv hp q (aD sz g m)) (h1:∀ a,fE (g a)=true) (hfit:m.length<=68719476736)
    (hk:∀ ver',kp (upd hp id0 (some ⟨e,sz,true,true,ver',m.map g⟩))) (a:bN vs) (h:∀ ver',k2 (.sl id0 ver' 0 m.length) (upd hp id0 (some ⟨e,sz,true,true,ver',m.map g⟩))) :
    Ee id0 vs (λOut=>(cK P tb->bQ P o ⟨f,hp⟩ no any Out)/\∀ v H',Out v H'->kp H') k2 :=
  .mk _ ⟨λht=>nW id0 ho (ht.kM hT) (ht.BL hz hz2 hz3) (ht.uW hb).1 (ht.uW hb).2 hx hy hid hcv h1 hfit,by rintro _ _ ⟨v',rfl,rfl⟩;exact hk v'⟩ (by rintro _ _ ⟨v',rfl,rfl⟩;exact h v') a
theorem UL {α:Type} {e sz b' id aG kk:Nat} {zs:List Value} {q:AV} {g:α->List AV} {l m l':List α} {ob:bC} (ho:o.op=.call { callee:=.builtin .append,args:=#[x,y],argTypes:=#[T,T] }) (hT:bZ tb.se T=some e) (hz:bZ tb.bz e=some sz) (hz2:bZ tb.zs e=some zs) (hz3:(Nat.beq zs.length sz && iX zs)=true) (hb:bZ tb.bb e=some b')
    (hx:(AS.mk f hp).ev x=some (.sl id aG 0 kk)) (hy:(AS.mk f hp).ev y=some q) (hob:hp id=some ob) (bL:ob.aG=aG) (hmt:ob.mt=true) (happ:ob.app=true) (hel:ob.elem=e) (hsz:ob.sz=sz) (hr:ob.rows=l.map g) (hcv:Cv hp q (aD sz g m)) (hl:l++m=l') (hk0:kk=l.length) (h1:∀ a,fE (g a)=true) (hfit:l'.length<=68719476736)
    (hk:∀ ver',kp (upd hp id (some ⟨e,sz,true,true,ver',l'.map g⟩))) (a:bN vs) (h:∀ ver',k2 (.sl id ver' 0 l'.length) (upd hp id (some ⟨e,sz,true,true,ver',l'.map g⟩))) :
    Ee id0 vs (λOut=>(cK P tb->bQ P o ⟨f,hp⟩ no any Out)/\∀ v H',Out v H'->kp H') k2 :=
  .mk _ ⟨λht=>jU .any ho (ht.kM hT) (ht.BL hz hz2 hz3) (ht.uW hb).1 (ht.uW hb).2 hx hy hob bL hmt happ hel hsz hr hk0 hcv h1 hl hfit,by rintro _ _ ⟨v',-,rfl,rfl⟩;exact hk v'⟩ (by rintro _ _ ⟨v',-,rfl,rfl⟩;exact h v') a
theorem RO {m id aG row off:Nat} {b:Bool} {el sz ve:Nat} {mt app:Bool} {rows base:List (List AV)} {r:List AV} {q:AV} (ho:o.op=.store T x y) (hT:bZ tb.sh T=some (m,b)) (hx:(AS.mk f hp).ev x=some (.pt id aG row off)) (hy:(AS.mk f hp).ev y=some q)
    (hob:hp id=some ⟨el,sz,mt,app,ve,rows⟩) (hv:ve=aG) (hmt:mt=true) (hr:rows[row]?=some r) (hf:(Nat.beq q.cells.length m && (Nat.ble (off+m) r.length && fE q.cells))=true) (hb:∀ c,rows.set row c=base.set row c)
    (hk:∀ c,kp (upd hp id (some ⟨el,sz,mt,app,ve,base.set row c⟩))) (a:bN vs) (h:lD (putRow r off q.cells) λc=>k2 (.sc undef) (upd hp id (some ⟨el,sz,mt,app,ve,base.set row c⟩))) :
    Ee id0 vs (λOut=>(cK P tb->bQ P o ⟨f,hp⟩ no any Out)/\∀ v H',Out v H'->kp H') k2:=by
  rw [Bool.and_eq_true,Bool.and_eq_true] at hf
  refine .mk _ ⟨λht=>bQ.dM (dZ ho (ht.b.jO hT) hx hy hob hv hmt hr (Nat.eq_of_beq_eq_true hf.1) hf.2.1 hf.2.2) (λ_ h=>h) (λ_ _=>trivial),?_⟩ ?_ a
  · rintro _ _ ⟨rfl,rfl⟩;simp only [hb];exact hk _
  · rintro _ _ ⟨rfl,rfl⟩;simp only [hb];exact kF h
theorem TB {α:Type} {m id aG row off:Nat} {b:Bool} {el sz ve:Nat} {mt app:Bool} {l l':List α} {g:α->List AV} {v':α} {r:List AV} {q:AV} (ho:o.op=.store T x y) (hT:bZ tb.sh T=some (m,b)) (hx:(AS.mk f hp).ev x=some (.pt id aG row off)) (hy:(AS.mk f hp).ev y=some q)
    (hob:hp id=some ⟨el,sz,mt,app,ve,l.map g⟩) (hl:l.set row v'=l') (hr:(l.map g)[row]?=some r) (hq:putRow r off q.cells=g v') (hv:ve=aG) (hmt:mt=true) (hf:(Nat.beq q.cells.length m && (Nat.ble (off+m) r.length && fE q.cells))=true)
    (hk:kp (upd hp id (some ⟨el,sz,mt,app,ve,l'.map g⟩))) (a:bN vs) (h:l'.length=l.length->k2 (.sc undef) (upd hp id (some ⟨el,sz,mt,app,ve,l'.map g⟩))) :
    Ee id0 vs (λOut=>(cK P tb->bQ P o ⟨f,hp⟩ no any Out)/\∀ v H',Out v H'->kp H') k2:=by
  rw [Bool.and_eq_true,Bool.and_eq_true] at hf
  refine .mk _ ⟨λht=>bQ.dM (dZ ho (ht.b.jO hT) hx hy hob hv hmt hr (Nat.eq_of_beq_eq_true hf.1) hf.2.1 hf.2.2) (λ_ h=>h) (λ_ _=>trivial),?_⟩ ?_ a
  · rintro _ _ ⟨rfl,rfl⟩;simp only [hq,iI hl];exact hk
  · rintro _ _ ⟨rfl,rfl⟩;simp only [hq,iI hl];exact h (by rw [<- hl,List.length_set])
theorem LG {id aG:Nat} {ob:bC} {l l':List Int} {i v w:Int} (ho:o.op=.store T x y) (hT:bZ tb.sh T=some (1,false)) (hx:(AS.mk f hp).ev x=some (.pt id aG 0 i.toNat)) (hy:(AS.mk f hp).ev y=some (int v)) (hob:hp id=some ob) (bL:ob.aG=aG) (hmt:ob.mt=true) (hr:ob.rows=[l.map int]) (h:ix l i=some w) (hl:l.set i.toNat v=l')
    (hk:kp (upd hp id (some { ob with rows:=[l'.map int] }))) (a:bN vs) (g:k2 (.sc undef) (upd hp id (some { ob with rows:=[l'.map int] }))) :
    Ee id0 vs (λOut=>(cK P tb->bQ P o ⟨f,hp⟩ no any Out)/\∀ v H',Out v H'->kp H') k2 :=
  .mk _ ⟨λht=>bQ.dM (aMJ ho (ht.b.jO hT) hx hy hob bL hmt hr h hl) (λ_ h=>h) (λ_ _=>trivial),by rintro _ _ ⟨rfl,rfl⟩;exact hk⟩ (by rintro _ _ ⟨rfl,rfl⟩;exact g) a
theorem OK {α β:Type} {p:α⊕β->Prop} (h1:∀ a,p (.inl a)) (h2:∀ b,p (.inr b)):∀ x,p x:=λx=>by cases x with | inl a=>exact h1 a | inr b=>exact h2 b
theorem NU {α:Type} {n:Nat} {a:α} {l:List α} (e:List.replicate n a=l):n=l.length:=by rw [<- e,List.length_replicate]
end
def notP (P:Program) (t:TypeId):Bool:=match P.underlying t with
  | some d=>wN d
  | none=>false
theorem aUW {P:Program} {t:TypeId} (h:notP P t=true):∃ d,P.underlying t=some d/\wN d=true:=by
  unfold notP at h
  split at h
  · exact ⟨_,by assumption,h⟩
  · cases h
theorem BC {P:Program} {o:Oper} {S:AS} {T:TypeId} {x:Operand} {t:TypeId} {v:AV} (ho:o.op=.typeAssert x T t true) (hd:notP P t=true) (hx:S.ev x=some (.dW t v)):bJ P o S (.aU [v,aF true]):=by
  obtain ⟨d,h1,h2⟩:=aUW hd;exact aHG ho h1 h2 hx
theorem CX {P:Program} {o:Oper} {S:AS} {T:TypeId} {x:Operand} {t tx:TypeId} {v:AV} (ho:o.op=.typeAssert x T t true) (hd:notP P t=true) (hx:S.ev x=some (.dW tx v)) (hne:Nat.beq tx t=false) (hz:CO P t=true):bJ P o S (.aU [.agg [],aF false]):=by
  obtain ⟨d,h1,h2⟩:=aUW hd;exact YF ho h1 h2 hx hne hz
structure lK (P:Program) (k:FuncId) (el sz:Nat) {α:Type} (F:α->List AV):Prop where
  aT:aT P k=true
  pc:∀ {H:AH} {id:Nat} {l:List α},H id=none->l.length<=68719476736->PC P k [aD sz F l] H (λy H'=>∃ aG,y=.sl id aG 0 l.length/\H'=upd H id (some ⟨el,sz,true,true,aG,l.map F⟩))
section
variable {P:Program} {tb:dX} {o:Oper} {f:Nat->Option AV} {hp:AH} {x fo:Operand} {vs:List (Nat×Nat)} {kp:AH->Prop} {k2:AV->AH->Prop}
theorem MV {k:FuncId} {el sz id:Nat} {α:Type} {F:α->List AV} {l:List α} {y0:AV} {ts:Array TypeId} (ho:o.op=.call { callee:=.value fo,args:=[x].toArray,argTypes:=ts }) (hf:(AS.mk f hp).ev fo=some (.fn (.func k) [] [])) (hx:(AS.mk f hp).ev x=some y0)
    (c:@lK P k el sz α F) (hc:Cv hp y0 (aD sz F l)) (hid:hp id=none) (hl:l.length<=68719476736) (hk:∀ aG,kp (upd hp id (some ⟨el,sz,true,true,aG,l.map F⟩))) (a:bN vs)
    (g:∀ aG,k2 (.sl id aG 0 l.length) (upd hp id (some ⟨el,sz,true,true,aG,l.map F⟩))) :
    Ee id vs (λOut=>(cK P tb->bQ P o ⟨f,hp⟩ no any Out)/\∀ v H',Out v H'->kp H') k2 :=
  .mk _ ⟨λht=>d9 ho hf (.cons hx .nil) c.aT (iK (c.pc (id:=id) (l:=l) hid hl) (.cons hc .nil)),by rintro _ _ ⟨aG,rfl,rfl⟩;exact hk aG⟩ (by rintro _ _ ⟨aG,rfl,rfl⟩;exact g aG) a
end
theorem aV {p:Prop} (h:p:=by first | exact trivial | ((repeat (first | exact trivial | refine ⟨rfl,?_⟩));done) | fail):p:=h
theorem aL {p:Prop} (h:p:=by first | rfl | exact Eq.symm (by assumption) | exact (fH (by assumption) rfl).symm | exact NU (by assumption) | exact (fH (by assumption) (fH (by assumption) rfl)).symm | exact (fH (by assumption) (fH (by assumption) (fH (by assumption) rfl))).symm | exact (fH (by assumption) (Eq.symm (NU (by assumption)))).symm):p:=h
theorem aX {p:Prop} (h:p:=by first | assumption | exact aQC (by assumption) (by assumption) | exact aQC (aQC (by assumption) (by assumption)) (by assumption)):p:=h
theorem aR {p:Prop} (h:p:=by first | rfl | exact eY (by assumption) | exact dR (by assumption) (aP.bW _) | exact cZ (by assumption) | exact cZ (aQC (by assumption) (by assumption)) | exact cZ (aQC (aQC (by assumption) (by assumption)) (by assumption))):p:=h
theorem aC {p:Prop} (h:p:=by first | exact .refl _ | ((repeat' (first | exact .refl _ | exact bK.nil | exact Cv.nil _ | refine lW ?_ (aP.bW _) | refine bK.cons ?_ ?_ | refine bK.agg ?_ | refine bK.aU ?_ | exact fD.nil | refine fD.cons ?_ ?_ | refine yZ ?_ | exact dH rfl rfl rfl rfl rfl aL | exact nC aL | refine kZ rfl rfl rfl rfl rfl aL (by assumption) ?_));done) | fail):p:=h
theorem aY {p:Prop} (h:p:=by first | exact λ_ _=>.refl _ | (rintro _ rfl;(repeat' (first | exact .refl _ | exact bK.nil | exact Cv.nil _ | refine lW ?_ (aP.bW _) | refine bK.cons ?_ ?_ | refine bK.agg ?_ | refine bK.aU ?_ | exact fD.nil | refine fD.cons ?_ ?_ | refine yZ ?_ | exact dH rfl rfl rfl rfl rfl aL | exact nC aL | refine kZ rfl rfl rfl rfl rfl aL (by assumption) ?_));done) | (intro H hH;(repeat' (first | exact .refl _ | exact bK.nil | exact Cv.nil _ | refine lW ?_ (aP.bW _) | refine bK.cons ?_ ?_ | refine bK.agg ?_ | refine bK.aU ?_ | exact fD.nil | refine fD.cons ?_ ?_ | refine yZ ?_ | exact dH (by first | rfl | exact (hH _ (by decide)).trans rfl) rfl rfl rfl rfl aL | exact nC aL | refine kZ (by first | rfl | exact (hH _ (by decide)).trans rfl) rfl rfl rfl rfl aL (by assumption) ?_));done) | fail):p:=h
theorem aJ {p:Prop} (h:p:=by first | ((refine ⟨?_,?_⟩ <;> (repeat (first | exact trivial | refine ⟨⟨_,rfl,.refl _⟩,?_⟩ | refine ⟨⟨_,rfl,aC⟩,?_⟩ | refine ⟨⟨_,rfl,⟨rfl,aC⟩⟩,?_⟩)));done) | fail):p:=h
theorem aK {p:Prop} (h:p:=by first | exact λ_=>trivial | exact λ_=>⟨rfl,trivial⟩ | exact λ_=>⟨rfl,rfl,trivial⟩ | exact λ_=>⟨rfl,rfl,rfl,trivial⟩ | exact λ_=>⟨rfl,rfl,rfl,rfl,trivial⟩):p:=h
theorem aO {p:Prop} (h:p:=by first | exact trivial | exact ⟨rfl,trivial⟩ | exact ⟨rfl,rfl,trivial⟩ | exact ⟨rfl,rfl,rfl,trivial⟩ | exact ⟨rfl,rfl,rfl,rfl,trivial⟩):p:=h
theorem aZ {p:Prop} (h:p:=by repeat (first | exact ZL.nil | refine ZL.cons ?_ ?_ | exact .sc _ | exact .nil _)):p:=h
theorem GQ {i v o k q:Nat} {r:List AV} (h:k=q):AV.aU (.sl i v o k :: r)=.aU (.sl i v o q :: r):=by rw [h]
theorem au {p:Prop} (h:p:=by
  repeat' (first
    | ((conv=>whnf);first
      | refine OK ?_ ?_
      | intro _
      | (show Eq1 _ _ _ _;refine Eq1.mk ?_ rfl aV)
      | (show jL _ _ _ _ _;refine jL.mk ?_ ?_ rfl aV)
      | (show EJ _ _;exact EJ.mk aJ aV)
      | (show Ek _ _ _;refine Ek.mk ?_ (by kernel_rfl) aV)
      | (show Ev _ (λv=>∀ H,H=_->_->_) _;first
        | (apply KH ;(iterate 5 exact rfl);exact aR;exact aV)
        | (apply TV ;(iterate 4 exact rfl);exact aR;exact aV)
        | (apply R3 ;(iterate 6 exact rfl);exact aX;exact aV)
        | (apply SN ;(focus (assumption));(iterate 6 exact rfl);exact aV)
        | (apply OP ;(focus (assumption));(iterate 6 exact rfl);exact aV)
        | (apply NP ;(iterate 5 exact rfl);exact aR;exact aV)
        | (apply NW ;(iterate 4 exact rfl);(focus (rfl));(iterate 3 exact rfl);(focus (first | exact List.length_map _ | exact qH | rfl));exact aX;exact aL;exact aV)
        | (apply R9 ;(iterate 4 exact rfl);(focus (rfl));(iterate 3 exact rfl);(focus (decide));exact aV)
        | (apply RV ;(iterate 4 exact rfl);(focus (rfl));(iterate 3 exact rfl);(focus (assumption));exact aV)
        | refine Ev.mk _ (λH hH ht=>BC rfl (by kernel_rfl) rfl) ?_ aV
        | refine Ev.mk _ (λH hH ht=>CX rfl (by kernel_rfl) rfl rfl (by kernel_rfl)) ?_ aV
        | refine Ev.mk _ (λH hH ht=>bX (zJ rfl (by kernel_rfl) rfl rfl) (congrArg aF (by assumption))) ?_ aV
        | refine Ev.mk _ (λH hH ht=>bDP ht rfl rfl (by kernel_rfl) rfl rfl (by repeat (first | exact .nil _ | refine .cons (.int (by kernel_rfl)) (by kernel_rfl) ?_)) ((congrArg Bool.not (A11_Int.eqv _ _)).trans (by assumption))) ?_ aV
        | refine Ev.mk _ (λH hH ht=>bBL rfl (by kernel_rfl) rfl rfl) ?_ aV
        | refine Ev.mk _ (λH hH ht=>zX rfl (by kernel_rfl) rfl rfl) ?_ aV
        | refine Ev.mk _ (λH hH ht=>zR rfl (by kernel_rfl) rfl) ?_ aV
        | refine Ev.mk _ (λH hH ht=>DN rfl rfl rfl (by assumption)) ?_ aV
        | refine Ev.mk _ (λH hH ht=>aQR rfl rfl rfl (by assumption)) ?_ aV
        | refine Ev.mk _ (λH hH ht=>zP rfl rfl rfl rfl (by assumption)) ?_ aV
        | refine Ev.mk _ (λH hH ht=>oC rfl rfl rfl (by assumption) (by assumption)) ?_ aV
        | refine Ev.mk _ (λH hH ht=>yI rfl rfl rfl (by assumption) (by assumption)) ?_ aV
        | refine Ev.mk _ (λH hH ht=>zF rfl rfl rfl (by assumption)) ?_ aV
        | refine Ev.mk _ (λH hH ht=>BZ rfl rfl rfl (by assumption)) ?_ aV
        | refine Ev.mk _ (λH hH ht=>xM rfl rfl rfl (by assumption) (by assumption)) ?_ aV
        | refine Ev.mk _ (λH hH ht=>yY rfl rfl rfl (by assumption) (by assumption)) ?_ aV
        | refine Ev.mk _ (λH hH ht=>bX (CY rfl rfl rfl) (congrArg aF (by assumption))) ?_ aV
        | refine Ev.mk _ (λH hH ht=>bX (zZ rfl (by kernel_rfl) rfl rfl) (congrArg aF (by assumption))) ?_ aV
        | refine Ev.mk _ (λH hH ht=>DR rfl (by kernel_rfl) rfl) ?_ aV
        | refine Ev.mk _ (λH hH ht=>CK rfl (by kernel_rfl) rfl rfl (jX (by assumption)).1 (jX (by assumption)).2) ?_ aV)
      | (show Ev _ _ _;first
        | (apply UF ;(iterate 5 exact rfl);exact aR;(focus (decide));exact aV)
        | (apply LV ;(iterate 4 exact rfl);exact aR;(focus (decide));exact aV)
        | (apply R5 ;(iterate 6 exact rfl);exact aX;(focus (decide));exact aV)
        | (apply MW ;(focus (assumption));(iterate 6 exact rfl);(focus (decide));exact aV)
        | (apply U3 ;(focus (assumption));(iterate 6 exact rfl);(focus (decide));exact aV)
        | (apply NH ;(iterate 5 exact rfl);exact aR;(focus (decide));exact aV)
        | (apply NG ;(iterate 4 exact rfl);(focus (rfl));(iterate 3 exact rfl);(focus (first | exact List.length_map _ | exact qH | rfl));exact aX;exact aL;(focus (decide));exact aV)
        | (apply M9 ;(iterate 4 exact rfl);(focus (rfl));(iterate 3 exact rfl);(iterate 2 (focus (decide)));exact aV)
        | (apply SL ;(iterate 4 exact rfl);(focus (rfl));(iterate 3 exact rfl);(focus (assumption));(focus (decide));exact aV)
        | refine Ev.mk _ (λH hH ht=>BC rfl (by kernel_rfl) rfl) ?_ aV
        | refine Ev.mk _ (λH hH ht=>CX rfl (by kernel_rfl) rfl rfl (by kernel_rfl)) ?_ aV
        | refine Ev.mk _ (λH hH ht=>bX (zJ rfl (by kernel_rfl) rfl rfl) (congrArg aF (by assumption))) ?_ aV
        | refine Ev.mk _ (λH hH ht=>bDP ht rfl rfl (by kernel_rfl) rfl rfl (by repeat (first | exact .nil _ | refine .cons (.int (by kernel_rfl)) (by kernel_rfl) ?_)) ((congrArg Bool.not (A11_Int.eqv _ _)).trans (by assumption))) ?_ aV
        | refine Ev.mk _ (λH hH ht=>bBL rfl (by kernel_rfl) rfl rfl) ?_ aV
        | refine Ev.mk _ (λH hH ht=>zX rfl (by kernel_rfl) rfl rfl) ?_ aV
        | refine Ev.mk _ (λH hH ht=>zR rfl (by kernel_rfl) rfl) ?_ aV
        | refine Ev.mk _ (λH hH ht=>DN rfl rfl rfl (by assumption)) ?_ aV
        | refine Ev.mk _ (λH hH ht=>aQR rfl rfl rfl (by assumption)) ?_ aV
        | refine Ev.mk _ (λH hH ht=>zP rfl rfl rfl rfl (by assumption)) ?_ aV
        | refine Ev.mk _ (λH hH ht=>oC rfl rfl rfl (by assumption) (by assumption)) ?_ aV
        | refine Ev.mk _ (λH hH ht=>yI rfl rfl rfl (by assumption) (by assumption)) ?_ aV
        | refine Ev.mk _ (λH hH ht=>zF rfl rfl rfl (by assumption)) ?_ aV
        | refine Ev.mk _ (λH hH ht=>BZ rfl rfl rfl (by assumption)) ?_ aV
        | refine Ev.mk _ (λH hH ht=>xM rfl rfl rfl (by assumption) (by assumption)) ?_ aV
        | refine Ev.mk _ (λH hH ht=>yY rfl rfl rfl (by assumption) (by assumption)) ?_ aV
        | refine Ev.mk _ (λH hH ht=>bX (CY rfl rfl rfl) (congrArg aF (by assumption))) ?_ aV
        | refine Ev.mk _ (λH hH ht=>bX (zZ rfl (by kernel_rfl) rfl rfl) (congrArg aF (by assumption))) ?_ aV
        | refine Ev.mk _ (λH hH ht=>DR rfl (by kernel_rfl) rfl) ?_ aV
        | refine Ev.mk _ (λH hH ht=>CK rfl (by kernel_rfl) rfl rfl (jX (by assumption)).1 (jX (by assumption)).2) ?_ aV)
      | (show Ed _ _ _ _ _;refine Ed.mk ?_ rfl aY aV)
      | (show Em _ _;refine Em.mk ?_ aV)
      | (show Eq3 _ _ _ _;refine Eq3.mk ?_ (by first | exact rfl | decide) aV)
      | (show Es _ _ _;refine Es.mk aZ ⟨by assumption,by assumption⟩ ?_)
      | (show E0 _ _;exact E0.mk aC aV)
      | (show Ei _ _ _ _ _;first
        | exact Ei.mk rfl aV aV
        | exact Ei.mk (GQ aL) aV aV)
      | (show EL _ _ _;refine EL.mk ?_ aJ aV)
      | (show Ec _ _ _;refine Ec.mk ?_ aC aV)
      | (show Et _ (∀ H,H=_->_->_) _;(apply CZ (hp:=H0);(iterate 7 exact rfl);(focus (kernel_rfl));(iterate 2 exact rfl);exact aV))
      | (show Et _ (∀ H,_) _;first
        | (apply CZ (hp:=H0);(iterate 7 exact rfl);(focus (kernel_rfl));(iterate 2 exact rfl);exact aV)
        | refine Et.mk aO ?_ aV)
      | (show Et _ _ _;refine Et.mk aO ?_ aV)
      | (show Ee _ _ _ _;first
        | (apply MV ;(iterate 3 exact rfl);exact PD;exact aC;exact rfl;(focus (assumption));exact aK;exact aV)
        | (apply PU ;(iterate 9 exact rfl);exact aC;(focus (first | exact aP.one | exact λ_=>rfl));(focus (assumption));exact aK;exact aV)
        | (apply UL ;(iterate 15 exact rfl);exact aC;(focus (assumption));exact aL;(focus (first | exact aP.one | exact λ_=>rfl));(focus (assumption));exact aK;exact aV)
        | (apply LG ;(iterate 8 exact rfl);exact aX;(focus (assumption));exact aO;exact aV)
        | (apply TB ;(iterate 5 exact rfl);(focus (assumption));exact aR;(iterate 4 exact rfl);exact aO;exact aV)
        | (apply RO ;(iterate 7 exact rfl);exact aR;exact rfl;(focus (first | exact λ_=>pR | exact λ_=>rfl));exact aK;exact aV))
      | refine E2.mk ?_ ?_
      | exact True.intro))):p:=h
section
variable {P:Program} {n:NT} {S:AS} {o:Oper} {T K E:TypeId} {x y:Operand}
theorem aLL {ks:List Int} {vs:List AV} {k:Int} {z:Value} (ho:o.op=.lookup T x y true) (hT:P.underlying T=some (.map K E)) (hK:P.underlying K=some (.int .i64))
    (hx:S.ev x=some (.mp ks vs)) (hy:S.ev y=some (.sc (.int .i64 k))) (hj:fix k ks=none) (hz:(P.info? E).bind (·.zero)=some (.agg #[z])):bJ P o S (.aU [.agg [.sc z],.sc (.bool false)]) :=
  aQM λs ρ _ h=>by
    have h1:=h x (by simp [ho,Op.operands]) _ hx
    have h2:=(h y (by simp [ho,Op.operands]) _ hy).dP
    generalize hu:ρ x=u at h1
    cases h1 with
    | mp hI hb hk hl hvv =>
      rename_i b clock es
      have g2:=FJ k es.toList ks 0 hk hj
      refine ⟨.tuple #[.agg #[z],.bool false],.aU rfl λi y w hy hw=>?_,?_⟩
      · cases i with
        | zero =>
          simp at hy hw;subst hy hw
          exact .agg rfl λi y w hy hw=>by
            cases i with
            | zero=>simp at hy hw;subst hy hw;exact .sc _
            | succ i=>simp at hy
        | succ i=>cases i with
          | zero=>simp at hy hw;subst hy hw;exact .sc _
          | succ i=>simp at hy
      · have hc:=yS (P:=P) (K:=K) (b:=es.isEmpty) (n:=9999) (v:=.int .i64 k) hK s.w
        simp only [execOp,ho,hu,h2,Instr.lookup,Sem.run_bind,run_underlying hT,Result.andThen_ok,run_getObj_map s.w _ _ _ hb,hc,Instr.findKey,run_underlying hK,g2,Sem.run_pure,aVR hz]
        rfl
theorem aFV {k a b c d:Int} (h:k≠a/\k≠b/\k≠c/\k≠d):fix k [a,b,c,d]=none:=by
  obtain ⟨h1,h2,h3,h4⟩:=h
  simp [fix,h1,h2,h3,h4]
end
theorem iP {p:Prop} (h:p:=by repeat' (first | exact qX _ | exact yD _ | exact FD _ | exact F7 _ _ | exact KF | exact aP.dA _ | refine SS ?_ ?_ | refine o8 ?_ _ | exact vI | exact QI | exact NC | exact QU _ | refine PI ?_ | intro _)):p:=h
theorem aH9 {P:Program} {n:NT} {c:Code} {cs:List Code} {f:Nat->Option AV} {hp:AH} {Q:Go.Exit->AS->Prop} {e:TypeId} {sz:Nat} {zs:List Value} (hz:fJ P e=some (sz,zs)) (t id:Nat) (h:f t=some (.sc (.slice none 0 0))) (hid:hp id=none)
    (h1:∀ aG,bR P n Q (c :: cs) ⟨upd f t (some (.sl id aG 0 0)),upd hp id (some ⟨e,sz,true,true,aG,[]⟩)⟩):bR P n Q (c :: cs) ⟨f,hp⟩:=QN t id e sz h hid h1
theorem nT {P:Program} {k T el sz b:Nat} {zs:List Value} {α:Type} {F:α->List AV} {fn:Func} (hf:P.funcs[k]?=some fn) (hc:aT P k=true) (hu:P.underlying T=some (.slice el)) (hz:fJ P el=some (sz,zs)) (hy:iE P el=some b) (h1:∀ a,fE (F a)=true:=by first | exact λ_=>rfl | exact aP.one)
    (h:P.funcs[k]?=some fn->P.underlying T=some (.slice el)->fJ P el=some (sz,zs)->iE P el=some b->(∀ a,fE (F a)=true)->∀ (H:AH) (id:Nat) (l:List α),H id=none->l.length<=68719476736->PC P k [aD sz F l] H (λy H'=>∃ aG,y=.sl id aG 0 l.length/\H'=upd H id (some ⟨el,sz,true,true,aG,l.map F⟩)):=by
      intro hf hu hz hy h1 H id l hid hl
      refine RH (c:=_) hf rfl rfl ?_;intro Q hret hnorm
      repeat (refine wL ?_)
      refine wM ?_;intro K hK
      refine st rfl rfl rfl (sD rfl rfl) ?_
      refine uX (hK _ ?_)
      repeat (refine wL ?_)
      refine wM ?_;intro K hK
      refine st rfl rfl rfl (kV rfl rfl) ?_
      refine se rfl rfl rfl (bQ.dM (aOS (xs:=l.map _) (sz:=_) rfl hu rfl rfl) (λ_ h=>h) (λ_ _=>trivial)) ?_;rintro _ _ ⟨b,rfl,hb,rfl⟩
      refine uX (hK _ ?_)
      refine E8 (b:=b) rfl ?_ ?_
      · intro h;subst h
        have hl0:l=[]:=List.map_eq_nil_iff.1 (hb rfl)
        subst hl0
        repeat (refine wL ?_)
        refine wM ?_;intro K hK
        refine st rfl rfl rfl (sD rfl rfl) ?_
        refine uX (hK _ ?_)
        refine aH9 hz 2 id rfl hid ?_;intro v
        refine B5 (hret _ _ _ (.tmp rfl .nil) (λ_ _ h=>h) ?_)
        exact ⟨v,rfl,rfl⟩
      · intro h;subst h
        refine H8 ?_
        repeat (refine wL ?_)
        refine wM ?_;intro K hK
        refine se rfl rfl rfl (MI (ps:=[]) id [] .any rfl hu hz .nil rfl rfl rfl rfl) ?_;rintro _ _ ⟨v,-,rfl,rfl⟩
        refine st rfl rfl rfl (kV rfl rfl) ?_
        refine se rfl rfl rfl (jU (l:=[]) (m:=l) (l':=l) .any rfl hu hz hy rfl rfl rfl (upd_same _ _ _) rfl rfl rfl rfl rfl rfl rfl (.refl _) h1 rfl hl) ?_;rintro _ _ ⟨v2,-,rfl,rfl⟩
        refine st rfl rfl rfl (sD rfl rfl) ?_
        refine uX (hK _ ?_)
        refine B5 (hret _ _ _ (.tmp rfl .nil) (λ_ _ h=>h) ?_)
        exact ⟨v2,rfl,pJ⟩):lK P k el sz F:=⟨hc,λh2 h3=>h hf hu hz hy h1 _ _ _ h2 h3⟩
end Go.Pv
