import Derived.Test.YtgoihillpibdjaaGreatPwD
import Derived.Test.YtgoihillpibdjaaGreatPvAM
set_option linter.unusedVariables false
set_option linter.unusedSimpArgs false
namespace Go.Pv
theorem fD {P:Program} {o:Oper} {f:FS} {hp:AH} {v:AV} {tb:gY} (h:dW P o ⟨f,hp⟩ v):∀ H,H=hp->fQ P tb->dW P o ⟨f,H⟩ v:=λH e _=>by rw [e];exact h
theorem aY9 {a:AV} {l:List AV} (ha:PV a) (hl:∀ x∈l,PV x):∀ x∈a :: l,PV x:=by
  intro x hx;rcases List.mem_cons.1 hx with rfl | h
  · exact ha
  · exact hl x h
def pw {α β:Type} {γ:Type 1} (f:α->β->γ) (p:α×β):γ:=f p.1 p.2
theorem bR {P:Program} {i:Ix} {α β:Type} (f:α->β->WT P i) (p:α×β):(pw f p).run=p2 (λa b=>(f a b).run) p:=rfl
section
variable {P:Program} {tb:gY} {f:FS} {hp:AH} {vs:List (Nat×Nat)} {o:Oper} {T:TypeId} {x y:Operand} {Ag:AH->Prop} {k:AV->Prop}
theorem VW {fl m id aU row off:Nat} {ob:bZ} {r:List AV} (ho:o.op=.fieldAddr T x fl) (hT:qX tb.fo T fl=some m) (hx:(AS.mk f hp).ev x=some (.pt id aU row off)) (hob:hp id=some ob) (hv:ob.aU=aU)
    (hr:ob.rows[row]?=some r) (hag:∀ H,Ag H->H id=hp id) (a:d9 vs) (g:k (.pt id aU row (off+m))):Ev vs (λv=>∀ H,Ag H->fQ P tb->dW P o ⟨f,H⟩ v) k :=
  .mk _ (λH hA ht=>gT ho (ht.b.VH hT) ((gX x).trans hx) (.pt ((hag H hA).trans hob) hv hr) (.pt _ _ _ _ _)) g a
theorem aHK {id aU row off:Nat} {ob:bZ} {r:List AV} (ho:o.op=.nilCheck x) (hx:(AS.mk f hp).ev x=some (.pt id aU row off)) (hob:hp id=some ob) (hv:ob.aU=aU)
    (hr:ob.rows[row]?=some r) (hag:∀ H,Ag H->H id=hp id) (a:d9 vs) (g:k (.pt id aU row off)):Ev vs (λv=>∀ H,Ag H->fQ P tb->dW P o ⟨f,H⟩ v) k :=
  .mk _ (λH hA ht=>kR ho ((gX x).trans hx) (.pt ((hag H hA).trans hob) hv hr)) g a
theorem aAG {m id aU row off:Nat} {b:Bool} {ob:bZ} {r:List AV} (ho:o.op=.load T x) (hT:fH tb.sh T=some (m,b)) (hx:(AS.mk f hp).ev x=some (.pt id aU row off)) (hob:hp id=some ob) (hv:ob.aU=aU)
    (hr:ob.rows[row]?=some r) (hag:∀ H,Ag H->H id=hp id) (a:d9 vs) (g:match kD m b (r.drop off) with | some v=>uO v k | none=>False):Ev vs (λv=>∀ H,Ag H->fQ P tb->dW P o ⟨f,H⟩ v) k:=by
  split at g
  · rename_i v hc
    exact .mk _ (λH hA ht=>iB ho (ht.b.nE hT) ((gX x).trans hx) (.pt ((hag H hA).trans hob) hv hr) hc) (LX g) a
  · exact g.elim
theorem aHR {α:Type} {e sz kk id aU:Nat} {b:Bool} {ik:IntKind} {i:Int} {ob:bZ} {l:List α} {v:α} (ho:o.op=.indexAddr T x y) (hT:fH tb.se T=some e) (he:fH tb.sh e=some (sz,b))
    (hx:(AS.mk f hp).ev x=some (.sl id aU 0 kk)) (hy:(AS.mk f hp).ev y=some (.sc (.int ik i))) (hob:hp id=some ob) (dV:ob.aU=aU) (hsz:ob.sz=sz) (hrl:ob.rows.length=l.length) (h:ix l i=some v) (hk:kk=l.length)
    (hag:∀ H,Ag H->H id=hp id) (a:d9 vs) (g:k (.pt id aU i.toNat 0)):Ev vs (λv=>∀ H,Ag H->fQ P tb->dW P o ⟨f,H⟩ v) k :=
  .mk _ (λH hA ht=>iJ ho (ht.oQ hT) (ht.b.nE he) ((gX x).trans hx) ((gX y).trans hy) ((hag H hA).trans hob) dV hsz hk hrl h) g a
theorem aJH {N e m id aU row off:Nat} {b:Bool} {ob:bZ} {r:List AV} {ik:IntKind} {i:Int} (ho:o.op=.indexAddr T x y) (hT:fH tb.ar T=some (N,e)) (he:fH tb.sh e=some (m,b)) (hx:(AS.mk f hp).ev x=some (.pt id aU row off)) (hy:(AS.mk f hp).ev y=some (.sc (.int ik i)))
    (hob:hp id=some ob) (dV:ob.aU=aU) (hr:ob.rows[row]?=some r) (hi:0<=i/\i<(N:Int)) (hag:∀ H,Ag H->H id=hp id) (a:d9 vs) (g:k (.pt id aU row (off+i.toNat*m))):Ev vs (λv=>∀ H,Ag H->fQ P tb->dW P o ⟨f,H⟩ v) k :=
  .mk _ (λH hA ht=>xE ho (ht.RV hT) (ht.b.nE he) ((gX x).trans hx) ((gX y).trans hy) ((hag H hA).trans hob) dV hr hi) g a
theorem aGH {N e id aU:Nat} {b:Bool} {ob:bZ} {ik:IntKind} {i:Int} {r:List AV} (ho:o.op=.indexAddr T x y) (hT:fH tb.ar T=some (N,e)) (he:fH tb.sh e=some (1,b)) (hx:(AS.mk f hp).ev x=some (.pt id aU 0 0)) (hy:(AS.mk f hp).ev y=some (.sc (.int ik i)))
    (hob:hp id=some ob) (dV:ob.aU=aU) (hr:ob.rows=[r]) (hi:0<=i/\i<(N:Int)) (hag:∀ H,Ag H->H id=hp id) (a:d9 vs) (g:k (.pt id aU 0 i.toNat)):Ev vs (λv=>∀ H,Ag H->fQ P tb->dW P o ⟨f,H⟩ v) k :=
  .mk _ (λH hA ht=>NS ho (ht.RV hT) (ht.b.nE he) ((gX x).trans hx) ((gX y).trans hy) ((hag H hA).trans hob) dV hr hi) g a
theorem KO {id aU:Nat} {ob:bZ} {l:List Int} {i v:Int} (ho:o.op=.load T x) (hT:fH tb.sh T=some (1,false)) (hx:(AS.mk f hp).ev x=some (.pt id aU 0 i.toNat)) (hob:hp id=some ob) (dV:ob.aU=aU) (hr:ob.rows=[l.map int]) (h:ix l i=some v)
    (hag:∀ H,Ag H->H id=hp id) (a:d9 vs) (g:k (int v)):Ev vs (λv=>∀ H,Ag H->fQ P tb->dW P o ⟨f,H⟩ v) k :=
  .mk _ (λH hA ht=>ND ho (ht.b.nE hT) ((gX x).trans hx) ((hag H hA).trans hob) dV hr h) g a
theorem a0B {fl m id aU row off:Nat} {ob:bZ} {r:List AV} (ho:o.op=.fieldAddr T x fl) (hT:qX tb.fo T fl=some m) (hx:(AS.mk f hp).ev x=some (.pt id aU row off)) (hob:hp id=some ob) (hv:ob.aU=aU) (hr:ob.rows[row]?=some r) (a:d9 vs) (g:k (.pt id aU row (off+m))):Ev vs (λv=>∀ H,H=hp->fQ P tb->dW P o ⟨f,H⟩ v) k :=
  VW ho hT hx hob hv hr (λ_ h=>congrFun h _) a g
theorem aT4 {ds:List Nat} {fl m id aU row off:Nat} {ob:bZ} {r:List AV} (ho:o.op=.fieldAddr T x fl) (hT:qX tb.fo T fl=some m) (hx:(AS.mk f hp).ev x=some (.pt id aU row off)) (hob:hp id=some ob) (hv:ob.aU=aU) (hr:ob.rows[row]?=some r) (hm:id∈ds) (a:d9 vs) (g:k (.pt id aU row (off+m))):Ev vs (λv=>∀ H,(∀ k,k∈ds->H k=hp k)->fQ P tb->dW P o ⟨f,H⟩ v) k :=
  VW ho hT hx hob hv hr (λ_ h=>h _ hm) a g
theorem aN5 {id aU row off:Nat} {ob:bZ} {r:List AV} (ho:o.op=.nilCheck x) (hx:(AS.mk f hp).ev x=some (.pt id aU row off)) (hob:hp id=some ob) (hv:ob.aU=aU) (hr:ob.rows[row]?=some r) (a:d9 vs) (g:k (.pt id aU row off)):Ev vs (λv=>∀ H,H=hp->fQ P tb->dW P o ⟨f,H⟩ v) k :=
  aHK ho hx hob hv hr (λ_ h=>congrFun h _) a g
theorem aSE {ds:List Nat} {id aU row off:Nat} {ob:bZ} {r:List AV} (ho:o.op=.nilCheck x) (hx:(AS.mk f hp).ev x=some (.pt id aU row off)) (hob:hp id=some ob) (hv:ob.aU=aU) (hr:ob.rows[row]?=some r) (hm:id∈ds) (a:d9 vs) (g:k (.pt id aU row off)):Ev vs (λv=>∀ H,(∀ k,k∈ds->H k=hp k)->fQ P tb->dW P o ⟨f,H⟩ v) k :=
  aHK ho hx hob hv hr (λ_ h=>h _ hm) a g
theorem aU3 {m id aU row off:Nat} {b:Bool} {ob:bZ} {r:List AV} (ho:o.op=.load T x) (hT:fH tb.sh T=some (m,b)) (hx:(AS.mk f hp).ev x=some (.pt id aU row off)) (hob:hp id=some ob) (hv:ob.aU=aU) (hr:ob.rows[row]?=some r) (a:d9 vs) (g:match kD m b (r.drop off) with | some v=>uO v k | none=>False):Ev vs (λv=>∀ H,H=hp->fQ P tb->dW P o ⟨f,H⟩ v) k :=
  aAG ho hT hx hob hv hr (λ_ h=>congrFun h _) a g
theorem aLD {ds:List Nat} {m id aU row off:Nat} {b:Bool} {ob:bZ} {r:List AV} (ho:o.op=.load T x) (hT:fH tb.sh T=some (m,b)) (hx:(AS.mk f hp).ev x=some (.pt id aU row off)) (hob:hp id=some ob) (hv:ob.aU=aU) (hr:ob.rows[row]?=some r) (hm:id∈ds) (a:d9 vs) (g:match kD m b (r.drop off) with | some v=>uO v k | none=>False):Ev vs (λv=>∀ H,(∀ k,k∈ds->H k=hp k)->fQ P tb->dW P o ⟨f,H⟩ v) k :=
  aAG ho hT hx hob hv hr (λ_ h=>h _ hm) a g
theorem aPK {α:Type} {e sz kk id aU:Nat} {b:Bool} {ik:IntKind} {i:Int} {ob:bZ} {l:List α} {v:α} (ho:o.op=.indexAddr T x y) (hT:fH tb.se T=some e) (he:fH tb.sh e=some (sz,b)) (hx:(AS.mk f hp).ev x=some (.sl id aU 0 kk)) (hy:(AS.mk f hp).ev y=some (.sc (.int ik i))) (hob:hp id=some ob) (dV:ob.aU=aU) (hsz:ob.sz=sz) (hrl:ob.rows.length=l.length) (h:ix l i=some v) (hk:kk=l.length) (a:d9 vs) (g:k (.pt id aU i.toNat 0)):Ev vs (λv=>∀ H,H=hp->fQ P tb->dW P o ⟨f,H⟩ v) k :=
  aHR ho hT he hx hy hob dV hsz hrl h hk (λ_ h=>congrFun h _) a g
theorem aY5 {ds:List Nat} {α:Type} {e sz kk id aU:Nat} {b:Bool} {ik:IntKind} {i:Int} {ob:bZ} {l:List α} {v:α} (ho:o.op=.indexAddr T x y) (hT:fH tb.se T=some e) (he:fH tb.sh e=some (sz,b)) (hx:(AS.mk f hp).ev x=some (.sl id aU 0 kk)) (hy:(AS.mk f hp).ev y=some (.sc (.int ik i))) (hob:hp id=some ob) (dV:ob.aU=aU) (hsz:ob.sz=sz) (hrl:ob.rows.length=l.length) (h:ix l i=some v) (hk:kk=l.length) (hm:id∈ds) (a:d9 vs) (g:k (.pt id aU i.toNat 0)):Ev vs (λv=>∀ H,(∀ k,k∈ds->H k=hp k)->fQ P tb->dW P o ⟨f,H⟩ v) k :=
  aHR ho hT he hx hy hob dV hsz hrl h hk (λ_ h=>h _ hm) a g
theorem aN8 {N e m id aU row off:Nat} {b:Bool} {ob:bZ} {r:List AV} {ik:IntKind} {i:Int} (ho:o.op=.indexAddr T x y) (hT:fH tb.ar T=some (N,e)) (he:fH tb.sh e=some (m,b)) (hx:(AS.mk f hp).ev x=some (.pt id aU row off)) (hy:(AS.mk f hp).ev y=some (.sc (.int ik i))) (hob:hp id=some ob) (dV:ob.aU=aU) (hr:ob.rows[row]?=some r) (hi:0<=i/\i<(N:Int)) (a:d9 vs) (g:k (.pt id aU row (off+i.toNat*m))):Ev vs (λv=>∀ H,H=hp->fQ P tb->dW P o ⟨f,H⟩ v) k :=
  aJH ho hT he hx hy hob dV hr hi (λ_ h=>congrFun h _) a g
theorem aJW {ds:List Nat} {N e m id aU row off:Nat} {b:Bool} {ob:bZ} {r:List AV} {ik:IntKind} {i:Int} (ho:o.op=.indexAddr T x y) (hT:fH tb.ar T=some (N,e)) (he:fH tb.sh e=some (m,b)) (hx:(AS.mk f hp).ev x=some (.pt id aU row off)) (hy:(AS.mk f hp).ev y=some (.sc (.int ik i))) (hob:hp id=some ob) (dV:ob.aU=aU) (hr:ob.rows[row]?=some r) (hi:0<=i/\i<(N:Int)) (hm:id∈ds) (a:d9 vs) (g:k (.pt id aU row (off+i.toNat*m))):Ev vs (λv=>∀ H,(∀ k,k∈ds->H k=hp k)->fQ P tb->dW P o ⟨f,H⟩ v) k :=
  aJH ho hT he hx hy hob dV hr hi (λ_ h=>h _ hm) a g
theorem aN9 {N e id aU:Nat} {b:Bool} {ob:bZ} {ik:IntKind} {i:Int} {r:List AV} (ho:o.op=.indexAddr T x y) (hT:fH tb.ar T=some (N,e)) (he:fH tb.sh e=some (1,b)) (hx:(AS.mk f hp).ev x=some (.pt id aU 0 0)) (hy:(AS.mk f hp).ev y=some (.sc (.int ik i))) (hob:hp id=some ob) (dV:ob.aU=aU) (hr:ob.rows=[r]) (hi:0<=i/\i<(N:Int)) (a:d9 vs) (g:k (.pt id aU 0 i.toNat)):Ev vs (λv=>∀ H,H=hp->fQ P tb->dW P o ⟨f,H⟩ v) k :=
  aGH ho hT he hx hy hob dV hr hi (λ_ h=>congrFun h _) a g
theorem aQ5 {ds:List Nat} {N e id aU:Nat} {b:Bool} {ob:bZ} {ik:IntKind} {i:Int} {r:List AV} (ho:o.op=.indexAddr T x y) (hT:fH tb.ar T=some (N,e)) (he:fH tb.sh e=some (1,b)) (hx:(AS.mk f hp).ev x=some (.pt id aU 0 0)) (hy:(AS.mk f hp).ev y=some (.sc (.int ik i))) (hob:hp id=some ob) (dV:ob.aU=aU) (hr:ob.rows=[r]) (hi:0<=i/\i<(N:Int)) (hm:id∈ds) (a:d9 vs) (g:k (.pt id aU 0 i.toNat)):Ev vs (λv=>∀ H,(∀ k,k∈ds->H k=hp k)->fQ P tb->dW P o ⟨f,H⟩ v) k :=
  aGH ho hT he hx hy hob dV hr hi (λ_ h=>h _ hm) a g
theorem aUB {id aU:Nat} {ob:bZ} {l:List Int} {i v:Int} (ho:o.op=.load T x) (hT:fH tb.sh T=some (1,false)) (hx:(AS.mk f hp).ev x=some (.pt id aU 0 i.toNat)) (hob:hp id=some ob) (dV:ob.aU=aU) (hr:ob.rows=[l.map int]) (h:ix l i=some v) (a:d9 vs) (g:k (int v)):Ev vs (λv=>∀ H,H=hp->fQ P tb->dW P o ⟨f,H⟩ v) k :=
  KO ho hT hx hob dV hr h (λ_ h=>congrFun h _) a g
theorem aZM {ds:List Nat} {id aU:Nat} {ob:bZ} {l:List Int} {i v:Int} (ho:o.op=.load T x) (hT:fH tb.sh T=some (1,false)) (hx:(AS.mk f hp).ev x=some (.pt id aU 0 i.toNat)) (hob:hp id=some ob) (dV:ob.aU=aU) (hr:ob.rows=[l.map int]) (h:ix l i=some v) (hm:id∈ds) (a:d9 vs) (g:k (int v)):Ev vs (λv=>∀ H,(∀ k,k∈ds->H k=hp k)->fQ P tb->dW P o ⟨f,H⟩ v) k :=
  KO ho hT hx hob dV hr h (λ_ h=>h _ hm) a g
theorem aWE {id aU:Nat} {ob:bZ} {l:List Int} {i v:Int} (h:ix l i=some v) (ho:o.op=.load T x) (hT:fH tb.sh T=some (1,false)) (hx:(AS.mk f hp).ev x=some (.pt id aU 0 i.toNat)) (hob:hp id=some ob) (dV:ob.aU=aU) (hr:ob.rows=[l.map int]) (a:d9 vs) (g:k (int v)):Ev vs (λv=>∀ H,H=hp->fQ P tb->dW P o ⟨f,H⟩ v) k :=
  KO ho hT hx hob dV hr h (λ_ h=>congrFun h _) a g
theorem aKJ {ds:List Nat} {id aU:Nat} {ob:bZ} {l:List Int} {i v:Int} (h:ix l i=some v) (ho:o.op=.load T x) (hT:fH tb.sh T=some (1,false)) (hx:(AS.mk f hp).ev x=some (.pt id aU 0 i.toNat)) (hob:hp id=some ob) (dV:ob.aU=aU) (hr:ob.rows=[l.map int]) (hm:id∈ds) (a:d9 vs) (g:k (int v)):Ev vs (λv=>∀ H,(∀ k,k∈ds->H k=hp k)->fQ P tb->dW P o ⟨f,H⟩ v) k :=
  KO ho hT hx hob dV hr h (λ_ h=>h _ hm) a g
def KV (P:Program) (T:TypeId):Bool:=match P.underlying T with
  | some (.interface _)=>true
  | _=>false
def QD (P:Program) (T:TypeId):Bool:=match P.underlying T with
  | some (.interface _)=>false
  | some _=>true
  | none=>false
theorem aIC {T:TypeId} (h:KV P T=true):∃ ms,P.underlying T=some (.interface ms):=by
  unfold KV at h
  split at h
  · rename_i ms e;exact ⟨ms,e⟩
  · cases h
theorem aJ5 {T:TypeId} (h:QD P T=true):∃ d,P.underlying T=some d/\∀ ms,d≠.interface ms:=by
  unfold QD at h
  split at h
  · cases h
  · rename_i d hd e;exact ⟨d,e,λms q=>hd ms q⟩
  · cases h
theorem aAB {S:AS} {Ty:TypeId} {t:TypeId} {v:AV} (ho:o.op=.binOp .eql T x y Ty) (hT:KV P T=true) (hx:S.ev x=some (.iK t v)) (hy:S.ev y=some (.sc .nilIface)):dW P o S (bD false):=by
  obtain ⟨ms,h⟩:=aIC hT;exact aPE ho h hx hy
theorem XN {S:AS} {Ty:TypeId} {c:Value} (ho:o.op=.binOp .eql T x (.const c) Ty) (hT:KV P T=true) (hx:S.ev x=some (.sc .nilIface)) (hc:c=.nilIface):dW P o S (bD true):=by
  obtain ⟨ms,h⟩:=aIC hT;exact aMN ho h hx hc
theorem Y5 {S:AS} {v:AV} (ho:o.op=.makeInterface T x) (hT:QD P T=true) (hx:S.ev x=some v):dW P o S (.iK T v):=by
  obtain ⟨d,h,hd⟩:=aJ5 hT;exact aZS ho h hd hx
theorem aCB {id aU kk:Nat} {ob:bZ} {l:List Int} (hl:l.length=kk) (ho:o.op=.load T x) (hT:fH tb.sh T=some (kk,true)) (hx:(AS.mk f hp).ev x=some (.pt id aU 0 0)) (hob:hp id=some ob) (dV:ob.aU=aU) (hr:ob.rows=[l.map int])
    (hag:∀ H,Ag H->H id=hp id) (a:d9 vs) (g:uO (.agg ((List.range kk).map λi=>int (l.getD i 0))) k):Ev vs (λv=>∀ H,Ag H->fQ P tb->dW P o ⟨f,H⟩ v) k :=
  .mk _ (λH hA ht=>aUE ho (ht.b.nE hT) ((gX x).trans hx) ((hag H hA).trans hob) dV hr hl) (LX g) a
theorem aPU {id aU kk:Nat} {ob:bZ} {l:List Int} (hl:l.length=kk) (ho:o.op=.load T x) (hT:fH tb.sh T=some (kk,true)) (hx:(AS.mk f hp).ev x=some (.pt id aU 0 0)) (hob:hp id=some ob) (dV:ob.aU=aU) (hr:ob.rows=[l.map int]) (a:d9 vs) (g:uO (.agg ((List.range kk).map λi=>int (l.getD i 0))) k):Ev vs (λv=>∀ H,H=hp->fQ P tb->dW P o ⟨f,H⟩ v) k :=
  aCB hl ho hT hx hob dV hr (λ_ h=>congrFun h _) a g
theorem aOQ {ds:List Nat} {id aU kk:Nat} {ob:bZ} {l:List Int} (hl:l.length=kk) (ho:o.op=.load T x) (hT:fH tb.sh T=some (kk,true)) (hx:(AS.mk f hp).ev x=some (.pt id aU 0 0)) (hob:hp id=some ob) (dV:ob.aU=aU) (hr:ob.rows=[l.map int]) (hm:id∈ds) (a:d9 vs) (g:uO (.agg ((List.range kk).map λi=>int (l.getD i 0))) k):Ev vs (λv=>∀ H,(∀ k,k∈ds->H k=hp k)->fQ P tb->dW P o ⟨f,H⟩ v) k :=
  aCB hl ho hT hx hob dV hr (λ_ h=>h _ hm) a g
theorem Z8 {S:AS} {cs ds:List AV} {e N:Nat} {r r':Bool} {Ty:TypeId} (ht:fQ P tb) (ho:o.op=.binOp .neq T x y Ty) (hA:fH tb.ar T=some (N,e)) (hc:(decide (((P.info? e).map (·.size))=some 1) && (decide (P.cellsOf e=1) && decide (0<N)))=true) (hx:S.ev x=some (.agg cs)) (hy:S.ev y=some (.agg ds))
    (h:qR P 0 ((List.range' 0 N).map λj=>(e,j)) cs ds r) (hr:(!r)=r'):dW P o S (bD r'):=by
  simp only [Bool.and_eq_true,decide_eq_true_eq] at hc
  exact aXZ ho (ht.RV hA) hc.1 hc.2.1 hc.2.2 hx hy h hr
variable {p:Prop} {v:AV}
theorem Z7 {S:AS}:∀ {l:List Operand} {us:List AV},evs S l=some us->EvL S l us
  | [],_,h=>by cases h;exact .nil
  | x :: r,_,h=>by
    unfold evs at h
    split at h
    · rename_i v hv
      split at h
      · rename_i vs hvs;cases h;exact .cons hv (Z7 hvs)
      · cases h
    · cases h
theorem XF {f:FS} {hp H:AH}:∀ (l:List Operand),evs ⟨f,H⟩ l=evs ⟨f,hp⟩ l
  | []=>rfl
  | x :: r=>by unfold evs;rw [gX (hp:=hp) x,XF r]
theorem Z5 {e sz N:Nat} {zs:List Value} {ps:Array (Nat×Operand)} {us:List AV} {rows:List (List AV)} (ho:o.op=.buildSlice T N ps) (hT:fH tb.se T=some e) (hz:fH tb.bz e=some sz) (hz2:fH tb.zs e=some zs) (hz3:(Nat.beq zs.length sz && lK zs)=true)
    (he:evs ⟨f,hp⟩ (ps.toList.map (·.2))=some us) (hv:.list sz rows=v) (hf:qM (λi=>some (i*sz,sz)) (qU zs N) ((ps.toList.map (·.1)).zip us)=some rows.flatten) (hN:(Nat.ble (N*sz) 16777216 && (rows.all λr=>Nat.beq r.length sz))=true) (hrl:rows.length=N)
    (a:d9 vs) (g:p):Et vs (∀ H,Ag H->fQ P tb->dW P o ⟨f,H⟩ v) p :=
  .mk (λH hA ht=>by
    rw [Bool.and_eq_true] at hN
    exact hv ▸ jM (ps:=ps.toList) (by rw [ho]) (ht.oQ hT) (ht.JY hz hz2 hz3) (Z7 ((XF _).trans he)) hf hN.1 hN.2 hrl) g a
variable {id0:Nat} {kp:AH->Prop} {k2:AV->AH->Prop}
theorem aWL {α:Type} {e sz b':Nat} {zs:List Value} {q:AV} {g:α->List AV} {m:List α} (ho:o.op=.call { callee:=.builtin .append,args:=#[x,y],argTypes:=#[T,T] }) (hT:fH tb.se T=some e) (hz:fH tb.bz e=some sz) (hz2:fH tb.zs e=some zs) (hz3:(Nat.beq zs.length sz && lK zs)=true) (hb:fH tb.bb e=some b')
    (hx:(AS.mk f hp).ev x=some (.sc (.slice none 0 0))) (hy:(AS.mk f hp).ev y=some q) (hid:hp id0=none) (hcv:Cv hp q (aN sz g m)) (h1:∀ a,jO (g a)=true) (hfit:m.length<=68719476736)
    (hk:∀ ver',kp (upd hp id0 (some ⟨e,sz,true,true,ver',m.map g⟩))) (a:d9 vs) (h:∀ ver',k2 (.sl id0 ver' 0 m.length) (upd hp id0 (some ⟨e,sz,true,true,ver',m.map g⟩))) :
    Ee id0 vs (λOut=>(fQ P tb->eG P o ⟨f,hp⟩ no any Out)/\∀ v H',Out v H'->kp H') k2 :=
  .mk _ ⟨λht=>tK id0 ho (ht.oQ hT) (ht.JY hz hz2 hz3) (ht.CF hb).1 (ht.CF hb).2 hx hy hid hcv h1 hfit,by rintro _ _ ⟨v',rfl,rfl⟩;exact hk v'⟩ (by rintro _ _ ⟨v',rfl,rfl⟩;exact h v') a
theorem aRD {α:Type} {e sz b' id aU kk:Nat} {zs:List Value} {q:AV} {g:α->List AV} {l m l':List α} {ob:bZ} (ho:o.op=.call { callee:=.builtin .append,args:=#[x,y],argTypes:=#[T,T] }) (hT:fH tb.se T=some e) (hz:fH tb.bz e=some sz) (hz2:fH tb.zs e=some zs) (hz3:(Nat.beq zs.length sz && lK zs)=true) (hb:fH tb.bb e=some b')
    (hx:(AS.mk f hp).ev x=some (.sl id aU 0 kk)) (hy:(AS.mk f hp).ev y=some q) (hob:hp id=some ob) (dV:ob.aU=aU) (hmt:ob.mt=true) (happ:ob.app=true) (hel:ob.elem=e) (hsz:ob.sz=sz) (hr:ob.rows=l.map g) (hcv:Cv hp q (aN sz g m)) (hl:l++m=l') (hk0:kk=l.length) (h1:∀ a,jO (g a)=true) (hfit:l'.length<=68719476736)
    (hk:∀ ver',kp (upd hp id (some ⟨e,sz,true,true,ver',l'.map g⟩))) (a:d9 vs) (h:∀ ver',k2 (.sl id ver' 0 l'.length) (upd hp id (some ⟨e,sz,true,true,ver',l'.map g⟩))) :
    Ee id0 vs (λOut=>(fQ P tb->eG P o ⟨f,hp⟩ no any Out)/\∀ v H',Out v H'->kp H') k2 :=
  .mk _ ⟨λht=>oH .any ho (ht.oQ hT) (ht.JY hz hz2 hz3) (ht.CF hb).1 (ht.CF hb).2 hx hy hob dV hmt happ hel hsz hr hk0 hcv h1 hl hfit,by rintro _ _ ⟨v',-,rfl,rfl⟩;exact hk v'⟩ (by rintro _ _ ⟨v',-,rfl,rfl⟩;exact h v') a
theorem aME {m id aU row off:Nat} {b:Bool} {el sz ve:Nat} {mt app:Bool} {rows base:List (List AV)} {r:List AV} {q:AV} (ho:o.op=.store T x y) (hT:fH tb.sh T=some (m,b)) (hx:(AS.mk f hp).ev x=some (.pt id aU row off)) (hy:(AS.mk f hp).ev y=some q)
    (hob:hp id=some ⟨el,sz,mt,app,ve,rows⟩) (hv:ve=aU) (hmt:mt=true) (hr:rows[row]?=some r) (hf:(Nat.beq q.cells.length m && (Nat.ble (off+m) r.length && jO q.cells))=true) (hb:∀ c,rows.set row c=base.set row c)
    (hk:∀ c,kp (upd hp id (some ⟨el,sz,mt,app,ve,base.set row c⟩))) (a:d9 vs) (h:o8 (putRow r off q.cells) λc=>k2 (.sc undef) (upd hp id (some ⟨el,sz,mt,app,ve,base.set row c⟩))) :
    Ee id0 vs (λOut=>(fQ P tb->eG P o ⟨f,hp⟩ no any Out)/\∀ v H',Out v H'->kp H') k2:=by
  rw [Bool.and_eq_true,Bool.and_eq_true] at hf
  refine .mk _ ⟨λht=>eG.gV (iH ho (ht.b.nE hT) hx hy hob hv hmt hr (Nat.eq_of_beq_eq_true hf.1) hf.2.1 hf.2.2) (λ_ h=>h) (λ_ _=>trivial),?_⟩ ?_ a
  · rintro _ _ ⟨rfl,rfl⟩;simp only [hb];exact hk _
  · rintro _ _ ⟨rfl,rfl⟩;simp only [hb];exact nV h
theorem aMD {α:Type} {m id aU row off:Nat} {b:Bool} {el sz ve:Nat} {mt app:Bool} {l l':List α} {g:α->List AV} {v':α} {r:List AV} {q:AV} (ho:o.op=.store T x y) (hT:fH tb.sh T=some (m,b)) (hx:(AS.mk f hp).ev x=some (.pt id aU row off)) (hy:(AS.mk f hp).ev y=some q)
    (hob:hp id=some ⟨el,sz,mt,app,ve,l.map g⟩) (hl:l.set row v'=l') (hr:(l.map g)[row]?=some r) (hq:putRow r off q.cells=g v') (hv:ve=aU) (hmt:mt=true) (hf:(Nat.beq q.cells.length m && (Nat.ble (off+m) r.length && jO q.cells))=true)
    (hk:kp (upd hp id (some ⟨el,sz,mt,app,ve,l'.map g⟩))) (a:d9 vs) (h:l'.length=l.length->k2 (.sc undef) (upd hp id (some ⟨el,sz,mt,app,ve,l'.map g⟩))) :
    Ee id0 vs (λOut=>(fQ P tb->eG P o ⟨f,hp⟩ no any Out)/\∀ v H',Out v H'->kp H') k2:=by
  rw [Bool.and_eq_true,Bool.and_eq_true] at hf
  refine .mk _ ⟨λht=>eG.gV (iH ho (ht.b.nE hT) hx hy hob hv hmt hr (Nat.eq_of_beq_eq_true hf.1) hf.2.1 hf.2.2) (λ_ h=>h) (λ_ _=>trivial),?_⟩ ?_ a
  · rintro _ _ ⟨rfl,rfl⟩;simp only [hq,kU hl];exact hk
  · rintro _ _ ⟨rfl,rfl⟩;simp only [hq,kU hl];exact h (by rw [<- hl,List.length_set])
theorem aPS {id aU:Nat} {ob:bZ} {l l':List Int} {i v w:Int} (ho:o.op=.store T x y) (hT:fH tb.sh T=some (1,false)) (hx:(AS.mk f hp).ev x=some (.pt id aU 0 i.toNat)) (hy:(AS.mk f hp).ev y=some (int v)) (hob:hp id=some ob) (dV:ob.aU=aU) (hmt:ob.mt=true) (hr:ob.rows=[l.map int]) (h:ix l i=some w) (hl:l.set i.toNat v=l')
    (hk:kp (upd hp id (some { ob with rows:=[l'.map int] }))) (a:d9 vs) (g:k2 (.sc undef) (upd hp id (some { ob with rows:=[l'.map int] }))) :
    Ee id0 vs (λOut=>(fQ P tb->eG P o ⟨f,hp⟩ no any Out)/\∀ v H',Out v H'->kp H') k2 :=
  .mk _ ⟨λht=>eG.gV (aLX ho (ht.b.nE hT) hx hy hob dV hmt hr h hl) (λ_ h=>h) (λ_ _=>trivial),by rintro _ _ ⟨rfl,rfl⟩;exact hk⟩ (by rintro _ _ ⟨rfl,rfl⟩;exact g) a
theorem aPJ {α β:Type} {p:α⊕β->Prop} (h1:∀ a,p (.inl a)) (h2:∀ b,p (.inr b)):∀ x,p x:=λx=>by cases x with | inl a=>exact h1 a | inr b=>exact h2 b
theorem aB2 {α:Type} {n:Nat} {a:α} {l:List α} (e:List.replicate n a=l):n=l.length:=by rw [<- e,List.length_replicate]
end
def notP (P:Program) (t:TypeId):Bool:=match P.underlying t with
  | some d=>BJ d
  | none=>false
theorem aFP {P:Program} {t:TypeId} (h:notP P t=true):∃ d,P.underlying t=some d/\BJ d=true:=by
  unfold notP at h
  split at h
  · exact ⟨_,by assumption,h⟩
  · cases h
theorem XL {P:Program} {o:Oper} {S:AS} {T:TypeId} {x:Operand} {t:TypeId} {v:AV} (ho:o.op=.typeAssert x T t true) (hd:notP P t=true) (hx:S.ev x=some (.iK t v)):dW P o S (.bT [v,bD true]):=by
  obtain ⟨d,h1,h2⟩:=aFP hd;exact aTI ho h1 h2 hx
theorem aCF {P:Program} {o:Oper} {S:AS} {T:TypeId} {x:Operand} {t tx:TypeId} {v:AV} (ho:o.op=.typeAssert x T t true) (hd:notP P t=true) (hx:S.ev x=some (.iK tx v)) (hne:Nat.beq tx t=false) (hz:N5 P t=true):dW P o S (.bT [.agg [],bD false]):=by
  obtain ⟨d,h1,h2⟩:=aFP hd;exact aMP ho h1 h2 hx hne hz
structure uN (P:Program) (k:FuncId) (el sz:Nat) {α:Type} (F:α->List AV):Prop where
  bP:bP P k=true
  pc:∀ {H:AH} {id:Nat} {l:List α},H id=none->l.length<=68719476736->PC P k [aN sz F l] H (λy H'=>∃ aU,y=.sl id aU 0 l.length/\H'=upd H id (some ⟨el,sz,true,true,aU,l.map F⟩))
section
variable {P:Program} {tb:gY} {o:Oper} {f:Nat->Option AV} {hp:AH} {x fo:Operand} {vs:List (Nat×Nat)} {kp:AH->Prop} {k2:AV->AH->Prop}
theorem aQF {k:FuncId} {el sz id:Nat} {α:Type} {F:α->List AV} {l:List α} {y0:AV} {ts:Array TypeId} (ho:o.op=.call { callee:=.value fo,args:=[x].toArray,argTypes:=ts }) (hf:(AS.mk f hp).ev fo=some (.fn (.func k) [] [])) (hx:(AS.mk f hp).ev x=some y0)
    (c:@uN P k el sz α F) (hc:Cv hp y0 (aN sz F l)) (hid:hp id=none) (hl:l.length<=68719476736) (hk:∀ aU,kp (upd hp id (some ⟨el,sz,true,true,aU,l.map F⟩))) (a:d9 vs)
    (g:∀ aU,k2 (.sl id aU 0 l.length) (upd hp id (some ⟨el,sz,true,true,aU,l.map F⟩))) :
    Ee id vs (λOut=>(fQ P tb->eG P o ⟨f,hp⟩ no any Out)/\∀ v H',Out v H'->kp H') k2 :=
  .mk _ ⟨λht=>kZ ho hf (.cons hx .nil) c.bP (lT (c.pc (id:=id) (l:=l) hid hl) (.cons hc .nil)),by rintro _ _ ⟨aU,rfl,rfl⟩;exact hk aU⟩ (by rintro _ _ ⟨aU,rfl,rfl⟩;exact g aU) a
end
theorem aV {p:Prop} (h:p:=by first | exact trivial | ((repeat (first | exact trivial | refine ⟨rfl,?_⟩));done) | fail):p:=h
theorem aL {p:Prop} (h:p:=by first | rfl | exact Eq.symm (by assumption) | exact (jU (by assumption) rfl).symm | exact aB2 (by assumption) | exact (jU (by assumption) (jU (by assumption) rfl)).symm | exact (jU (by assumption) (jU (by assumption) (jU (by assumption) rfl))).symm | exact (jU (by assumption) (Eq.symm (aB2 (by assumption)))).symm):p:=h
theorem aX {p:Prop} (h:p:=by first | assumption | exact jW (by assumption) (by assumption) | exact jW (jW (by assumption) (by assumption)) (by assumption)):p:=h
theorem aR {p:Prop} (h:p:=by first | rfl | exact iW (by assumption) | exact iE (by assumption) (aP.eP _) | exact fV (by assumption) | exact fV (jW (by assumption) (by assumption)) | exact fV (jW (jW (by assumption) (by assumption)) (by assumption))):p:=h
theorem aC {p:Prop} (h:p:=by first | exact .refl _ | ((repeat' (first | exact .refl _ | exact dX.nil | exact Cv.nil _ | refine qG ?_ (aP.eP _) | refine dX.cons ?_ ?_ | refine dX.agg ?_ | refine dX.bT ?_ | exact jN.nil | refine jN.cons ?_ ?_ | refine E9 ?_ | exact gQ rfl rfl rfl rfl rfl aL | exact sM aL | refine pO rfl rfl rfl rfl rfl aL (by assumption) ?_));done) | fail):p:=h
theorem aY {p:Prop} (h:p:=by first | exact λ_ _=>.refl _ | (rintro _ rfl;(repeat' (first | exact .refl _ | exact dX.nil | exact Cv.nil _ | refine qG ?_ (aP.eP _) | refine dX.cons ?_ ?_ | refine dX.agg ?_ | refine dX.bT ?_ | exact jN.nil | refine jN.cons ?_ ?_ | refine E9 ?_ | exact gQ rfl rfl rfl rfl rfl aL | exact sM aL | refine pO rfl rfl rfl rfl rfl aL (by assumption) ?_));done) | (intro H hH;(repeat' (first | exact .refl _ | exact dX.nil | exact Cv.nil _ | refine qG ?_ (aP.eP _) | refine dX.cons ?_ ?_ | refine dX.agg ?_ | refine dX.bT ?_ | exact jN.nil | refine jN.cons ?_ ?_ | refine E9 ?_ | exact gQ (by first | rfl | exact (hH _ (by decide)).trans rfl) rfl rfl rfl rfl aL | exact sM aL | refine pO (by first | rfl | exact (hH _ (by decide)).trans rfl) rfl rfl rfl rfl aL (by assumption) ?_));done) | fail):p:=h
theorem aJ {p:Prop} (h:p:=by first | ((refine ⟨?_,?_⟩ <;> (repeat (first | exact trivial | refine ⟨⟨_,rfl,.refl _⟩,?_⟩ | refine ⟨⟨_,rfl,aC⟩,?_⟩ | refine ⟨⟨_,rfl,⟨rfl,aC⟩⟩,?_⟩)));done) | fail):p:=h
theorem aK {p:Prop} (h:p:=by first | exact λ_=>trivial | exact λ_=>⟨rfl,trivial⟩ | exact λ_=>⟨rfl,rfl,trivial⟩ | exact λ_=>⟨rfl,rfl,rfl,trivial⟩ | exact λ_=>⟨rfl,rfl,rfl,rfl,trivial⟩):p:=h
theorem aO {p:Prop} (h:p:=by first | exact trivial | exact ⟨rfl,trivial⟩ | exact ⟨rfl,rfl,trivial⟩ | exact ⟨rfl,rfl,rfl,trivial⟩ | exact ⟨rfl,rfl,rfl,rfl,trivial⟩):p:=h
theorem aZ {p:Prop} (h:p:=by repeat (first | exact ZL.nil | refine ZL.cons ?_ ?_ | exact .sc _ | exact .nil _)):p:=h
theorem aFG {i v o k q:Nat} {r:List AV} (h:k=q):AV.bT (.sl i v o k :: r)=.bT (.sl i v o q :: r):=by rw [h]
theorem au {p:Prop} (h:p:=by
  repeat' (first
    | ((conv=>whnf);first
      | refine aPJ ?_ ?_
      | intro _
      | (show kN _ _ _ _;refine kN.mk ?_ rfl aV)
      | (show nQ _ _ _ _ _;refine nQ.mk ?_ ?_ rfl aV)
      | (show EJ _ _;exact EJ.mk aJ aV)
      | (show Ek _ _ _;refine Ek.mk ?_ (by kernel_rfl) aV)
      | (show Ev _ (λv=>∀ H,H=_->_->_) _;first
        | (apply a0B ;(iterate 5 exact rfl);exact aR;exact aV)
        | (apply aN5 ;(iterate 4 exact rfl);exact aR;exact aV)
        | (apply aUB ;(iterate 6 exact rfl);exact aX;exact aV)
        | (apply aWE ;(focus (assumption));(iterate 6 exact rfl);exact aV)
        | (apply aPU ;(focus (assumption));(iterate 6 exact rfl);exact aV)
        | (apply aU3 ;(iterate 5 exact rfl);exact aR;exact aV)
        | (apply aPK ;(iterate 4 exact rfl);(focus (rfl));(iterate 3 exact rfl);(focus (first | exact List.length_map _ | exact AA | rfl));exact aX;exact aL;exact aV)
        | (apply aN8 ;(iterate 4 exact rfl);(focus (rfl));(iterate 3 exact rfl);(focus (decide));exact aV)
        | (apply aN9 ;(iterate 4 exact rfl);(focus (rfl));(iterate 3 exact rfl);(focus (assumption));exact aV)
        | refine Ev.mk _ (λH hH ht=>XL rfl (by kernel_rfl) rfl) ?_ aV
        | refine Ev.mk _ (λH hH ht=>aCF rfl (by kernel_rfl) rfl rfl (by kernel_rfl)) ?_ aV
        | refine Ev.mk _ (λH hH ht=>jY (aF5 rfl (by kernel_rfl) rfl rfl) (congrArg bD (by assumption))) ?_ aV
        | refine Ev.mk _ (λH hH ht=>Z8 ht rfl rfl (by kernel_rfl) rfl rfl (by repeat (first | exact .nil _ | refine .cons (.int (by kernel_rfl)) (by kernel_rfl) ?_)) ((congrArg Bool.not (kH.eqv _ _)).trans (by assumption))) ?_ aV
        | refine Ev.mk _ (λH hH ht=>aAB rfl (by kernel_rfl) rfl rfl) ?_ aV
        | refine Ev.mk _ (λH hH ht=>XN rfl (by kernel_rfl) rfl rfl) ?_ aV
        | refine Ev.mk _ (λH hH ht=>Y5 rfl (by kernel_rfl) rfl) ?_ aV
        | refine Ev.mk _ (λH hH ht=>V7 rfl rfl rfl (by assumption)) ?_ aV
        | refine Ev.mk _ (λH hH ht=>Z6 rfl rfl rfl (by assumption)) ?_ aV
        | refine Ev.mk _ (λH hH ht=>aCG rfl rfl rfl rfl (by assumption)) ?_ aV
        | refine Ev.mk _ (λH hH ht=>yV rfl rfl rfl (by assumption) (by assumption)) ?_ aV
        | refine Ev.mk _ (λH hH ht=>QC rfl rfl rfl (by assumption) (by assumption)) ?_ aV
        | refine Ev.mk _ (λH hH ht=>aFH rfl rfl rfl (by assumption)) ?_ aV
        | refine Ev.mk _ (λH hH ht=>aHN rfl rfl rfl (by assumption)) ?_ aV
        | refine Ev.mk _ (λH hH ht=>UY rfl rfl rfl (by assumption) (by assumption)) ?_ aV
        | refine Ev.mk _ (λH hH ht=>RG rfl rfl rfl (by assumption) (by assumption)) ?_ aV
        | refine Ev.mk _ (λH hH ht=>jY (aD3 rfl rfl rfl) (congrArg bD (by assumption))) ?_ aV
        | refine Ev.mk _ (λH hH ht=>jY (X9 rfl (by kernel_rfl) rfl rfl) (congrArg bD (by assumption))) ?_ aV
        | refine Ev.mk _ (λH hH ht=>aG2 rfl (by kernel_rfl) rfl) ?_ aV
        | refine Ev.mk _ (λH hH ht=>WK rfl (by kernel_rfl) rfl rfl (qW (by assumption)).1 (qW (by assumption)).2) ?_ aV)
      | (show Ev _ _ _;first
        | (apply aT4 ;(iterate 5 exact rfl);exact aR;(focus (decide));exact aV)
        | (apply aSE ;(iterate 4 exact rfl);exact aR;(focus (decide));exact aV)
        | (apply aZM ;(iterate 6 exact rfl);exact aX;(focus (decide));exact aV)
        | (apply aKJ ;(focus (assumption));(iterate 6 exact rfl);(focus (decide));exact aV)
        | (apply aOQ ;(focus (assumption));(iterate 6 exact rfl);(focus (decide));exact aV)
        | (apply aLD ;(iterate 5 exact rfl);exact aR;(focus (decide));exact aV)
        | (apply aY5 ;(iterate 4 exact rfl);(focus (rfl));(iterate 3 exact rfl);(focus (first | exact List.length_map _ | exact AA | rfl));exact aX;exact aL;(focus (decide));exact aV)
        | (apply aJW ;(iterate 4 exact rfl);(focus (rfl));(iterate 3 exact rfl);(iterate 2 (focus (decide)));exact aV)
        | (apply aQ5 ;(iterate 4 exact rfl);(focus (rfl));(iterate 3 exact rfl);(focus (assumption));(focus (decide));exact aV)
        | refine Ev.mk _ (λH hH ht=>XL rfl (by kernel_rfl) rfl) ?_ aV
        | refine Ev.mk _ (λH hH ht=>aCF rfl (by kernel_rfl) rfl rfl (by kernel_rfl)) ?_ aV
        | refine Ev.mk _ (λH hH ht=>jY (aF5 rfl (by kernel_rfl) rfl rfl) (congrArg bD (by assumption))) ?_ aV
        | refine Ev.mk _ (λH hH ht=>Z8 ht rfl rfl (by kernel_rfl) rfl rfl (by repeat (first | exact .nil _ | refine .cons (.int (by kernel_rfl)) (by kernel_rfl) ?_)) ((congrArg Bool.not (kH.eqv _ _)).trans (by assumption))) ?_ aV
        | refine Ev.mk _ (λH hH ht=>aAB rfl (by kernel_rfl) rfl rfl) ?_ aV
        | refine Ev.mk _ (λH hH ht=>XN rfl (by kernel_rfl) rfl rfl) ?_ aV
        | refine Ev.mk _ (λH hH ht=>Y5 rfl (by kernel_rfl) rfl) ?_ aV
        | refine Ev.mk _ (λH hH ht=>V7 rfl rfl rfl (by assumption)) ?_ aV
        | refine Ev.mk _ (λH hH ht=>Z6 rfl rfl rfl (by assumption)) ?_ aV
        | refine Ev.mk _ (λH hH ht=>aCG rfl rfl rfl rfl (by assumption)) ?_ aV
        | refine Ev.mk _ (λH hH ht=>yV rfl rfl rfl (by assumption) (by assumption)) ?_ aV
        | refine Ev.mk _ (λH hH ht=>QC rfl rfl rfl (by assumption) (by assumption)) ?_ aV
        | refine Ev.mk _ (λH hH ht=>aFH rfl rfl rfl (by assumption)) ?_ aV
        | refine Ev.mk _ (λH hH ht=>aHN rfl rfl rfl (by assumption)) ?_ aV
        | refine Ev.mk _ (λH hH ht=>UY rfl rfl rfl (by assumption) (by assumption)) ?_ aV
        | refine Ev.mk _ (λH hH ht=>RG rfl rfl rfl (by assumption) (by assumption)) ?_ aV
        | refine Ev.mk _ (λH hH ht=>jY (aD3 rfl rfl rfl) (congrArg bD (by assumption))) ?_ aV
        | refine Ev.mk _ (λH hH ht=>jY (X9 rfl (by kernel_rfl) rfl rfl) (congrArg bD (by assumption))) ?_ aV
        | refine Ev.mk _ (λH hH ht=>aG2 rfl (by kernel_rfl) rfl) ?_ aV
        | refine Ev.mk _ (λH hH ht=>WK rfl (by kernel_rfl) rfl rfl (qW (by assumption)).1 (qW (by assumption)).2) ?_ aV)
      | (show Ed _ _ _ _ _;refine Ed.mk ?_ rfl aY aV)
      | (show Em _ _;refine Em.mk ?_ aV)
      | (show IL _ _ _ _;refine IL.mk ?_ (by first | exact rfl | decide) aV)
      | (show Es _ _ _;refine Es.mk aZ ⟨by assumption,by assumption⟩ ?_)
      | (show E0 _ _;exact E0.mk aC aV)
      | (show Ei _ _ _ _ _;first
        | exact Ei.mk rfl aV aV
        | exact Ei.mk (aFG aL) aV aV)
      | (show EL _ _ _;refine EL.mk ?_ aJ aV)
      | (show Ec _ _ _;refine Ec.mk ?_ aC aV)
      | (show Et _ (∀ H,H=_->_->_) _;(apply Z5 (hp:=H0);(iterate 7 exact rfl);(focus (kernel_rfl));(iterate 2 exact rfl);exact aV))
      | (show Et _ (∀ H,_) _;first
        | (apply Z5 (hp:=H0);(iterate 7 exact rfl);(focus (kernel_rfl));(iterate 2 exact rfl);exact aV)
        | refine Et.mk aO ?_ aV)
      | (show Et _ _ _;refine Et.mk aO ?_ aV)
      | (show Ee _ _ _ _;first
        | (apply aQF ;(iterate 3 exact rfl);exact aZZ;exact aC;exact rfl;(focus (assumption));exact aK;exact aV)
        | (apply aWL ;(iterate 9 exact rfl);exact aC;(focus (first | exact aP.one | exact λ_=>rfl));(focus (assumption));exact aK;exact aV)
        | (apply aRD ;(iterate 15 exact rfl);exact aC;(focus (assumption));exact aL;(focus (first | exact aP.one | exact λ_=>rfl));(focus (assumption));exact aK;exact aV)
        | (apply aPS ;(iterate 8 exact rfl);exact aX;(focus (assumption));exact aO;exact aV)
        | (apply aMD ;(iterate 5 exact rfl);(focus (assumption));exact aR;(iterate 4 exact rfl);exact aO;exact aV)
        | (apply aME ;(iterate 7 exact rfl);exact aR;exact rfl;(focus (first | exact λ_=>zH | exact λ_=>rfl));exact aK;exact aV))
      | refine E2.mk ?_ ?_
      | exact True.intro))):p:=h
section
variable {P:Program} {n:NT} {S:AS} {o:Oper} {T K E:TypeId} {x y:Operand}
theorem aA1 {ks:List Int} {vs:List AV} {k:Int} {z:Value} (ho:o.op=.lookup T x y true) (hT:P.underlying T=some (.map K E)) (hK:P.underlying K=some (.int .i64))
    (hx:S.ev x=some (.mp ks vs)) (hy:S.ev y=some (.sc (.int .i64 k))) (hj:fix k ks=none) (hz:(P.info? E).bind (·.zero)=some (.agg #[z])):dW P o S (.bT [.agg [.sc z],.sc (.bool false)]) :=
  jT λs ρ _ h=>by
    have h1:=h x (by simp [ho,Op.operands]) _ hx
    have h2:=(h y (by simp [ho,Op.operands]) _ hy).iY
    generalize hu:ρ x=u at h1
    cases h1 with
    | mp hI hb hk hl hvv =>
      rename_i b clock es
      have g2:=PT k es.toList ks 0 hk hj
      refine ⟨.tuple #[.agg #[z],.bool false],.bT rfl λi y w hy hw=>?_,?_⟩
      · cases i with
        | zero =>
          simp at hy hw;subst hy hw
          exact .agg rfl λi y w hy hw=>by
            cases i with
            | zero=>simp at hy hw;subst hy hw;exact .sc _
            | succ i=>simp at hy
        | succ i=>cases i with
          | zero=>simp at hy hw;subst hy hw;exact .sc _
          | succ i=>simp at hy
      · have hc:=TR (P:=P) (K:=K) (b:=es.isEmpty) (n:=9999) (v:=.int .i64 k) hK s.w
        simp only [execOp,ho,hu,h2,Instr.lookup,Sem.run_bind,run_underlying hT,Result.andThen_ok,run_getObj_map s.w _ _ _ hb,hc,Instr.findKey,run_underlying hK,g2,Sem.run_pure,aZ3 hz]
        rfl
theorem aDG {k a b c d:Int} (h:k≠a/\k≠b/\k≠c/\k≠d):fix k [a,b,c,d]=none:=by
  obtain ⟨h1,h2,h3,h4⟩:=h
  simp [fix,h1,h2,h3,h4]
end
theorem aMA {P:Program} {n:NT} {c:Code} {cs:List Code} {f:Nat->Option AV} {hp:AH} {Q:Go.Exit->AS->Prop} {e:TypeId} {sz:Nat} {zs:List Value} (hz:kG P e=some (sz,zs)) (t id:Nat) (h:f t=some (.sc (.slice none 0 0))) (hid:hp id=none)
    (h1:∀ aU,eO P n Q (c :: cs) ⟨upd f t (some (.sl id aU 0 0)),upd hp id (some ⟨e,sz,true,true,aU,[]⟩)⟩):eO P n Q (c :: cs) ⟨f,hp⟩:=aIH t id e sz h hid h1
theorem yR {P:Program} {k T el sz b:Nat} {zs:List Value} {α:Type} {F:α->List AV} {fn:Func} (hf:P.funcs[k]?=some fn) (hc:bP P k=true) (hu:P.underlying T=some (.slice el)) (hz:kG P el=some (sz,zs)) (hy:lD P el=some b) (h1:∀ a,jO (F a)=true:=by first | exact λ_=>rfl | exact aP.one)
    (h:P.funcs[k]?=some fn->P.underlying T=some (.slice el)->kG P el=some (sz,zs)->lD P el=some b->(∀ a,jO (F a)=true)->∀ (H:AH) (id:Nat) (l:List α),H id=none->l.length<=68719476736->PC P k [aN sz F l] H (λy H'=>∃ aU,y=.sl id aU 0 l.length/\H'=upd H id (some ⟨el,sz,true,true,aU,l.map F⟩)):=by
      intro hf hu hz hy h1 H id l hid hl
      refine aGI (c:=_) hf rfl rfl ?_;intro Q hret hnorm
      repeat (refine BI ?_)
      refine zU ?_;intro K hK
      refine st rfl rfl rfl (JZ rfl rfl) ?_
      refine AF (hK _ ?_)
      repeat (refine BI ?_)
      refine zU ?_;intro K hK
      refine st rfl rfl rfl (vO rfl rfl) ?_
      refine se rfl rfl rfl (eG.gV (aZ4 (xs:=l.map _) (sz:=_) rfl hu rfl rfl) (λ_ h=>h) (λ_ _=>trivial)) ?_;rintro _ _ ⟨b,rfl,hb,rfl⟩
      refine AF (hK _ ?_)
      refine VN (b:=b) rfl ?_ ?_
      · intro h;subst h
        have hl0:l=[]:=List.map_eq_nil_iff.1 (hb rfl)
        subst hl0
        repeat (refine BI ?_)
        refine zU ?_;intro K hK
        refine st rfl rfl rfl (JZ rfl rfl) ?_
        refine AF (hK _ ?_)
        refine aMA hz 2 id rfl hid ?_;intro v
        refine M7 (hret _ _ _ (.tmp rfl .nil) (λ_ _ h=>h) ?_)
        exact ⟨v,rfl,rfl⟩
      · intro h;subst h
        refine P4 ?_
        repeat (refine BI ?_)
        refine zU ?_;intro K hK
        refine se rfl rfl rfl (aFE (ps:=[]) id [] .any rfl hu hz .nil rfl rfl rfl rfl) ?_;rintro _ _ ⟨v,-,rfl,rfl⟩
        refine st rfl rfl rfl (vO rfl rfl) ?_
        refine se rfl rfl rfl (oH (l:=[]) (m:=l) (l':=l) .any rfl hu hz hy rfl rfl rfl (upd_same _ _ _) rfl rfl rfl rfl rfl rfl rfl (.refl _) h1 rfl hl) ?_;rintro _ _ ⟨v2,-,rfl,rfl⟩
        refine st rfl rfl rfl (JZ rfl rfl) ?_
        refine AF (hK _ ?_)
        refine M7 (hret _ _ _ (.tmp rfl .nil) (λ_ _ h=>h) ?_)
        exact ⟨v2,rfl,aAP⟩):uN P k el sz F:=⟨hc,λh2 h3=>h hf hu hz hy h1 _ _ _ h2 h3⟩
end Go.Pv
