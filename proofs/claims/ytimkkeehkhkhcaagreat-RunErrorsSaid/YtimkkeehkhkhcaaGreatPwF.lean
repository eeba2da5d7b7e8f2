import Derived.Test.YtimkkeehkhkhcaaGreatPwD
set_option linter.unusedVariables false
set_option linter.unusedSimpArgs false
namespace Go.Pv
theorem aF {P:Program} {o:Oper} {f:FS} {hp:AH} {v:AV} {tb:iC} (h:bS P o ⟨f,hp⟩ v):∀ H,H=hp->fE P tb->bS P o ⟨f,H⟩ v:=λH e _=>by rw [e];exact h
theorem T3 {a:AV} {l:List AV} (ha:PV a) (hl:∀ x∈l,PV x):∀ x∈a :: l,PV x:=by
  intro x hx;rcases List.mem_cons.1 hx with rfl | h
  · exact ha
  · exact hl x h
def pw {α β:Type} {γ:Type 1} (f:α->β->γ) (p:α×β):γ:=f p.1 p.2
theorem gX {P:Program} {i:Ix} {α β:Type} (f:α->β->WT P i) (p:α×β):(pw f p).run=p2 (λa b=>(f a b).run) p:=rfl
section
variable {P:Program} {tb:iC} {f:FS} {hp:AH} {vs:List (Nat×Nat)} {o:Oper} {T:TypeId} {x y:Operand} {Ag:AH->Prop} {k:AV->Prop}
theorem PL {fl m id aD row off:Nat} {ob:aW} {r:List AV} (ho:o.op=.fieldAddr T x fl) (hT:qF tb.fo T fl=some m) (hx:(AS.mk f hp).ev x=some (.pt id aD row off)) (hob:hp id=some ob) (hv:ob.aD=aD)
    (hr:ob.rows[row]?=some r) (hag:∀ H,Ag H->H id=hp id) (a:dO vs) (g:k (.pt id aD row (off+m))):Ev vs (λv=>∀ H,Ag H->fE P tb->bS P o ⟨f,H⟩ v) k :=
  .mk _ (λH hA ht=>dX ho (ht.b.FE hT) ((gZ x).trans hx) (.pt ((hag H hA).trans hob) hv hr) (.pt _ _ _ _ _)) g a
theorem QN {id aD row off:Nat} {ob:aW} {r:List AV} (ho:o.op=.nilCheck x) (hx:(AS.mk f hp).ev x=some (.pt id aD row off)) (hob:hp id=some ob) (hv:ob.aD=aD)
    (hr:ob.rows[row]?=some r) (hag:∀ H,Ag H->H id=hp id) (a:dO vs) (g:k (.pt id aD row off)):Ev vs (λv=>∀ H,Ag H->fE P tb->bS P o ⟨f,H⟩ v) k :=
  .mk _ (λH hA ht=>bK ho ((gZ x).trans hx) (.pt ((hag H hA).trans hob) hv hr)) g a
theorem QB {m id aD row off:Nat} {b:Bool} {ob:aW} {r:List AV} (ho:o.op=.load T x) (hT:eZ tb.sh T=some (m,b)) (hx:(AS.mk f hp).ev x=some (.pt id aD row off)) (hob:hp id=some ob) (hv:ob.aD=aD)
    (hr:ob.rows[row]?=some r) (hag:∀ H,Ag H->H id=hp id) (a:dO vs) (g:match jU m b (r.drop off) with | some v=>sN v k | none=>False):Ev vs (λv=>∀ H,Ag H->fE P tb->bS P o ⟨f,H⟩ v) k:=by
  split at g
  · rename_i v hc
    exact .mk _ (λH hA ht=>fG ho (ht.b.mH hT) ((gZ x).trans hx) (.pt ((hag H hA).trans hob) hv hr) hc) (DT g) a
  · exact g.elim
theorem SN {α:Type} {e sz kk id aD:Nat} {b:Bool} {ik:IntKind} {i:Int} {ob:aW} {l:List α} {v:α} (ho:o.op=.indexAddr T x y) (hT:eZ tb.se T=some e) (he:eZ tb.sh e=some (sz,b))
    (hx:(AS.mk f hp).ev x=some (.sl id aD 0 kk)) (hy:(AS.mk f hp).ev y=some (.sc (.int ik i))) (hob:hp id=some ob) (bP:ob.aD=aD) (hsz:ob.sz=sz) (hrl:ob.rows.length=l.length) (h:ix l i=some v) (hk:kk=l.length)
    (hag:∀ H,Ag H->H id=hp id) (a:dO vs) (g:k (.pt id aD i.toNat 0)):Ev vs (λv=>∀ H,Ag H->fE P tb->bS P o ⟨f,H⟩ v) k :=
  .mk _ (λH hA ht=>iY ho (ht.nW hT) (ht.b.mH he) ((gZ x).trans hx) ((gZ y).trans hy) ((hag H hA).trans hob) bP hsz hk hrl h) g a
theorem QM {N e m id aD row off:Nat} {b:Bool} {ob:aW} {r:List AV} {ik:IntKind} {i:Int} (ho:o.op=.indexAddr T x y) (hT:eZ tb.ar T=some (N,e)) (he:eZ tb.sh e=some (m,b)) (hx:(AS.mk f hp).ev x=some (.pt id aD row off)) (hy:(AS.mk f hp).ev y=some (.sc (.int ik i)))
    (hob:hp id=some ob) (bP:ob.aD=aD) (hr:ob.rows[row]?=some r) (hi:0<=i/\i<(N:Int)) (hag:∀ H,Ag H->H id=hp id) (a:dO vs) (g:k (.pt id aD row (off+i.toNat*m))):Ev vs (λv=>∀ H,Ag H->fE P tb->bS P o ⟨f,H⟩ v) k :=
  .mk _ (λH hA ht=>tZ ho (ht.I9 hT) (ht.b.mH he) ((gZ x).trans hx) ((gZ y).trans hy) ((hag H hA).trans hob) bP hr hi) g a
theorem UC {N e id aD:Nat} {b:Bool} {ob:aW} {ik:IntKind} {i:Int} {r:List AV} (ho:o.op=.indexAddr T x y) (hT:eZ tb.ar T=some (N,e)) (he:eZ tb.sh e=some (1,b)) (hx:(AS.mk f hp).ev x=some (.pt id aD 0 0)) (hy:(AS.mk f hp).ev y=some (.sc (.int ik i)))
    (hob:hp id=some ob) (bP:ob.aD=aD) (hr:ob.rows=[r]) (hi:0<=i/\i<(N:Int)) (hag:∀ H,Ag H->H id=hp id) (a:dO vs) (g:k (.pt id aD 0 i.toNat)):Ev vs (λv=>∀ H,Ag H->fE P tb->bS P o ⟨f,H⟩ v) k :=
  .mk _ (λH hA ht=>aFR ho (ht.I9 hT) (ht.b.mH he) ((gZ x).trans hx) ((gZ y).trans hy) ((hag H hA).trans hob) bP hr hi) g a
theorem BG {id aD:Nat} {ob:aW} {l:List Int} {i v:Int} (ho:o.op=.load T x) (hT:eZ tb.sh T=some (1,false)) (hx:(AS.mk f hp).ev x=some (.pt id aD 0 i.toNat)) (hob:hp id=some ob) (bP:ob.aD=aD) (hr:ob.rows=[l.map int]) (h:ix l i=some v)
    (hag:∀ H,Ag H->H id=hp id) (a:dO vs) (g:k (int v)):Ev vs (λv=>∀ H,Ag H->fE P tb->bS P o ⟨f,H⟩ v) k :=
  .mk _ (λH hA ht=>aK7 ho (ht.b.mH hT) ((gZ x).trans hx) ((hag H hA).trans hob) bP hr h) g a
theorem aEA {fl m id aD row off:Nat} {ob:aW} {r:List AV} (ho:o.op=.fieldAddr T x fl) (hT:qF tb.fo T fl=some m) (hx:(AS.mk f hp).ev x=some (.pt id aD row off)) (hob:hp id=some ob) (hv:ob.aD=aD) (hr:ob.rows[row]?=some r) (a:dO vs) (g:k (.pt id aD row (off+m))):Ev vs (λv=>∀ H,H=hp->fE P tb->bS P o ⟨f,H⟩ v) k :=
  PL ho hT hx hob hv hr (λ_ h=>congrFun h _) a g
theorem aLL {ds:List Nat} {fl m id aD row off:Nat} {ob:aW} {r:List AV} (ho:o.op=.fieldAddr T x fl) (hT:qF tb.fo T fl=some m) (hx:(AS.mk f hp).ev x=some (.pt id aD row off)) (hob:hp id=some ob) (hv:ob.aD=aD) (hr:ob.rows[row]?=some r) (hm:id∈ds) (a:dO vs) (g:k (.pt id aD row (off+m))):Ev vs (λv=>∀ H,(∀ k,k∈ds->H k=hp k)->fE P tb->bS P o ⟨f,H⟩ v) k :=
  PL ho hT hx hob hv hr (λ_ h=>h _ hm) a g
theorem aKJ {id aD row off:Nat} {ob:aW} {r:List AV} (ho:o.op=.nilCheck x) (hx:(AS.mk f hp).ev x=some (.pt id aD row off)) (hob:hp id=some ob) (hv:ob.aD=aD) (hr:ob.rows[row]?=some r) (a:dO vs) (g:k (.pt id aD row off)):Ev vs (λv=>∀ H,H=hp->fE P tb->bS P o ⟨f,H⟩ v) k :=
  QN ho hx hob hv hr (λ_ h=>congrFun h _) a g
theorem aJV {ds:List Nat} {id aD row off:Nat} {ob:aW} {r:List AV} (ho:o.op=.nilCheck x) (hx:(AS.mk f hp).ev x=some (.pt id aD row off)) (hob:hp id=some ob) (hv:ob.aD=aD) (hr:ob.rows[row]?=some r) (hm:id∈ds) (a:dO vs) (g:k (.pt id aD row off)):Ev vs (λv=>∀ H,(∀ k,k∈ds->H k=hp k)->fE P tb->bS P o ⟨f,H⟩ v) k :=
  QN ho hx hob hv hr (λ_ h=>h _ hm) a g
theorem aHM {m id aD row off:Nat} {b:Bool} {ob:aW} {r:List AV} (ho:o.op=.load T x) (hT:eZ tb.sh T=some (m,b)) (hx:(AS.mk f hp).ev x=some (.pt id aD row off)) (hob:hp id=some ob) (hv:ob.aD=aD) (hr:ob.rows[row]?=some r) (a:dO vs) (g:match jU m b (r.drop off) with | some v=>sN v k | none=>False):Ev vs (λv=>∀ H,H=hp->fE P tb->bS P o ⟨f,H⟩ v) k :=
  QB ho hT hx hob hv hr (λ_ h=>congrFun h _) a g
theorem aLY {ds:List Nat} {m id aD row off:Nat} {b:Bool} {ob:aW} {r:List AV} (ho:o.op=.load T x) (hT:eZ tb.sh T=some (m,b)) (hx:(AS.mk f hp).ev x=some (.pt id aD row off)) (hob:hp id=some ob) (hv:ob.aD=aD) (hr:ob.rows[row]?=some r) (hm:id∈ds) (a:dO vs) (g:match jU m b (r.drop off) with | some v=>sN v k | none=>False):Ev vs (λv=>∀ H,(∀ k,k∈ds->H k=hp k)->fE P tb->bS P o ⟨f,H⟩ v) k :=
  QB ho hT hx hob hv hr (λ_ h=>h _ hm) a g
theorem aAM {α:Type} {e sz kk id aD:Nat} {b:Bool} {ik:IntKind} {i:Int} {ob:aW} {l:List α} {v:α} (ho:o.op=.indexAddr T x y) (hT:eZ tb.se T=some e) (he:eZ tb.sh e=some (sz,b)) (hx:(AS.mk f hp).ev x=some (.sl id aD 0 kk)) (hy:(AS.mk f hp).ev y=some (.sc (.int ik i))) (hob:hp id=some ob) (bP:ob.aD=aD) (hsz:ob.sz=sz) (hrl:ob.rows.length=l.length) (h:ix l i=some v) (hk:kk=l.length) (a:dO vs) (g:k (.pt id aD i.toNat 0)):Ev vs (λv=>∀ H,H=hp->fE P tb->bS P o ⟨f,H⟩ v) k :=
  SN ho hT he hx hy hob bP hsz hrl h hk (λ_ h=>congrFun h _) a g
theorem aC0 {ds:List Nat} {α:Type} {e sz kk id aD:Nat} {b:Bool} {ik:IntKind} {i:Int} {ob:aW} {l:List α} {v:α} (ho:o.op=.indexAddr T x y) (hT:eZ tb.se T=some e) (he:eZ tb.sh e=some (sz,b)) (hx:(AS.mk f hp).ev x=some (.sl id aD 0 kk)) (hy:(AS.mk f hp).ev y=some (.sc (.int ik i))) (hob:hp id=some ob) (bP:ob.aD=aD) (hsz:ob.sz=sz) (hrl:ob.rows.length=l.length) (h:ix l i=some v) (hk:kk=l.length) (hm:id∈ds) (a:dO vs) (g:k (.pt id aD i.toNat 0)):Ev vs (λv=>∀ H,(∀ k,k∈ds->H k=hp k)->fE P tb->bS P o ⟨f,H⟩ v) k :=
  SN ho hT he hx hy hob bP hsz hrl h hk (λ_ h=>h _ hm) a g
theorem ZM {N e m id aD row off:Nat} {b:Bool} {ob:aW} {r:List AV} {ik:IntKind} {i:Int} (ho:o.op=.indexAddr T x y) (hT:eZ tb.ar T=some (N,e)) (he:eZ tb.sh e=some (m,b)) (hx:(AS.mk f hp).ev x=some (.pt id aD row off)) (hy:(AS.mk f hp).ev y=some (.sc (.int ik i))) (hob:hp id=some ob) (bP:ob.aD=aD) (hr:ob.rows[row]?=some r) (hi:0<=i/\i<(N:Int)) (a:dO vs) (g:k (.pt id aD row (off+i.toNat*m))):Ev vs (λv=>∀ H,H=hp->fE P tb->bS P o ⟨f,H⟩ v) k :=
  QM ho hT he hx hy hob bP hr hi (λ_ h=>congrFun h _) a g
theorem aCZ {ds:List Nat} {N e m id aD row off:Nat} {b:Bool} {ob:aW} {r:List AV} {ik:IntKind} {i:Int} (ho:o.op=.indexAddr T x y) (hT:eZ tb.ar T=some (N,e)) (he:eZ tb.sh e=some (m,b)) (hx:(AS.mk f hp).ev x=some (.pt id aD row off)) (hy:(AS.mk f hp).ev y=some (.sc (.int ik i))) (hob:hp id=some ob) (bP:ob.aD=aD) (hr:ob.rows[row]?=some r) (hi:0<=i/\i<(N:Int)) (hm:id∈ds) (a:dO vs) (g:k (.pt id aD row (off+i.toNat*m))):Ev vs (λv=>∀ H,(∀ k,k∈ds->H k=hp k)->fE P tb->bS P o ⟨f,H⟩ v) k :=
  QM ho hT he hx hy hob bP hr hi (λ_ h=>h _ hm) a g
theorem ZE {N e id aD:Nat} {b:Bool} {ob:aW} {ik:IntKind} {i:Int} {r:List AV} (ho:o.op=.indexAddr T x y) (hT:eZ tb.ar T=some (N,e)) (he:eZ tb.sh e=some (1,b)) (hx:(AS.mk f hp).ev x=some (.pt id aD 0 0)) (hy:(AS.mk f hp).ev y=some (.sc (.int ik i))) (hob:hp id=some ob) (bP:ob.aD=aD) (hr:ob.rows=[r]) (hi:0<=i/\i<(N:Int)) (a:dO vs) (g:k (.pt id aD 0 i.toNat)):Ev vs (λv=>∀ H,H=hp->fE P tb->bS P o ⟨f,H⟩ v) k :=
  UC ho hT he hx hy hob bP hr hi (λ_ h=>congrFun h _) a g
theorem aLV {ds:List Nat} {N e id aD:Nat} {b:Bool} {ob:aW} {ik:IntKind} {i:Int} {r:List AV} (ho:o.op=.indexAddr T x y) (hT:eZ tb.ar T=some (N,e)) (he:eZ tb.sh e=some (1,b)) (hx:(AS.mk f hp).ev x=some (.pt id aD 0 0)) (hy:(AS.mk f hp).ev y=some (.sc (.int ik i))) (hob:hp id=some ob) (bP:ob.aD=aD) (hr:ob.rows=[r]) (hi:0<=i/\i<(N:Int)) (hm:id∈ds) (a:dO vs) (g:k (.pt id aD 0 i.toNat)):Ev vs (λv=>∀ H,(∀ k,k∈ds->H k=hp k)->fE P tb->bS P o ⟨f,H⟩ v) k :=
  UC ho hT he hx hy hob bP hr hi (λ_ h=>h _ hm) a g
theorem aIF {id aD:Nat} {ob:aW} {l:List Int} {i v:Int} (ho:o.op=.load T x) (hT:eZ tb.sh T=some (1,false)) (hx:(AS.mk f hp).ev x=some (.pt id aD 0 i.toNat)) (hob:hp id=some ob) (bP:ob.aD=aD) (hr:ob.rows=[l.map int]) (h:ix l i=some v) (a:dO vs) (g:k (int v)):Ev vs (λv=>∀ H,H=hp->fE P tb->bS P o ⟨f,H⟩ v) k :=
  BG ho hT hx hob bP hr h (λ_ h=>congrFun h _) a g
theorem aKA {ds:List Nat} {id aD:Nat} {ob:aW} {l:List Int} {i v:Int} (ho:o.op=.load T x) (hT:eZ tb.sh T=some (1,false)) (hx:(AS.mk f hp).ev x=some (.pt id aD 0 i.toNat)) (hob:hp id=some ob) (bP:ob.aD=aD) (hr:ob.rows=[l.map int]) (h:ix l i=some v) (hm:id∈ds) (a:dO vs) (g:k (int v)):Ev vs (λv=>∀ H,(∀ k,k∈ds->H k=hp k)->fE P tb->bS P o ⟨f,H⟩ v) k :=
  BG ho hT hx hob bP hr h (λ_ h=>h _ hm) a g
theorem aA4 {id aD:Nat} {ob:aW} {l:List Int} {i v:Int} (h:ix l i=some v) (ho:o.op=.load T x) (hT:eZ tb.sh T=some (1,false)) (hx:(AS.mk f hp).ev x=some (.pt id aD 0 i.toNat)) (hob:hp id=some ob) (bP:ob.aD=aD) (hr:ob.rows=[l.map int]) (a:dO vs) (g:k (int v)):Ev vs (λv=>∀ H,H=hp->fE P tb->bS P o ⟨f,H⟩ v) k :=
  BG ho hT hx hob bP hr h (λ_ h=>congrFun h _) a g
theorem aCG {ds:List Nat} {id aD:Nat} {ob:aW} {l:List Int} {i v:Int} (h:ix l i=some v) (ho:o.op=.load T x) (hT:eZ tb.sh T=some (1,false)) (hx:(AS.mk f hp).ev x=some (.pt id aD 0 i.toNat)) (hob:hp id=some ob) (bP:ob.aD=aD) (hr:ob.rows=[l.map int]) (hm:id∈ds) (a:dO vs) (g:k (int v)):Ev vs (λv=>∀ H,(∀ k,k∈ds->H k=hp k)->fE P tb->bS P o ⟨f,H⟩ v) k :=
  BG ho hT hx hob bP hr h (λ_ h=>h _ hm) a g
def BO (P:Program) (T:TypeId):Bool:=match P.underlying T with
  | some (.interface _)=>true
  | _=>false
def IF (P:Program) (T:TypeId):Bool:=match P.underlying T with
  | some (.interface _)=>false
  | some _=>true
  | none=>false
theorem WA {T:TypeId} (h:BO P T=true):∃ ms,P.underlying T=some (.interface ms):=by
  unfold BO at h
  split at h
  · rename_i ms e;exact ⟨ms,e⟩
  · cases h
theorem aG7 {T:TypeId} (h:IF P T=true):∃ d,P.underlying T=some d/\∀ ms,d≠.interface ms:=by
  unfold IF at h
  split at h
  · cases h
  · rename_i d hd e;exact ⟨d,e,λms q=>hd ms q⟩
  · cases h
theorem P7 {S:AS} {Ty:TypeId} {t:TypeId} {v:AV} (ho:o.op=.binOp .eql T x y Ty) (hT:BO P T=true) (hx:S.ev x=some (.iG t v)) (hy:S.ev y=some (.sc .nilIface)):bS P o S (aA false):=by
  obtain ⟨ms,h⟩:=WA hT;exact zL ho h hx hy
theorem UM {S:AS} {Ty:TypeId} {c:Value} (ho:o.op=.binOp .eql T x (.const c) Ty) (hT:BO P T=true) (hx:S.ev x=some (.sc .nilIface)) (hc:c=.nilIface):bS P o S (aA true):=by
  obtain ⟨ms,h⟩:=WA hT;exact KP ho h hx hc
theorem UJ {S:AS} {v:AV} (ho:o.op=.makeInterface T x) (hT:IF P T=true) (hx:S.ev x=some v):bS P o S (.iG T v):=by
  obtain ⟨d,h,hd⟩:=aG7 hT;exact zK ho h hd hx
theorem TC {id aD kk:Nat} {ob:aW} {l:List Int} (hl:l.length=kk) (ho:o.op=.load T x) (hT:eZ tb.sh T=some (kk,true)) (hx:(AS.mk f hp).ev x=some (.pt id aD 0 0)) (hob:hp id=some ob) (bP:ob.aD=aD) (hr:ob.rows=[l.map int])
    (hag:∀ H,Ag H->H id=hp id) (a:dO vs) (g:sN (.agg ((List.range kk).map λi=>int (l.getD i 0))) k):Ev vs (λv=>∀ H,Ag H->fE P tb->bS P o ⟨f,H⟩ v) k :=
  .mk _ (λH hA ht=>aEK ho (ht.b.mH hT) ((gZ x).trans hx) ((hag H hA).trans hob) bP hr hl) (DT g) a
theorem aAP {id aD kk:Nat} {ob:aW} {l:List Int} (hl:l.length=kk) (ho:o.op=.load T x) (hT:eZ tb.sh T=some (kk,true)) (hx:(AS.mk f hp).ev x=some (.pt id aD 0 0)) (hob:hp id=some ob) (bP:ob.aD=aD) (hr:ob.rows=[l.map int]) (a:dO vs) (g:sN (.agg ((List.range kk).map λi=>int (l.getD i 0))) k):Ev vs (λv=>∀ H,H=hp->fE P tb->bS P o ⟨f,H⟩ v) k :=
  TC hl ho hT hx hob bP hr (λ_ h=>congrFun h _) a g
theorem aK2 {ds:List Nat} {id aD kk:Nat} {ob:aW} {l:List Int} (hl:l.length=kk) (ho:o.op=.load T x) (hT:eZ tb.sh T=some (kk,true)) (hx:(AS.mk f hp).ev x=some (.pt id aD 0 0)) (hob:hp id=some ob) (bP:ob.aD=aD) (hr:ob.rows=[l.map int]) (hm:id∈ds) (a:dO vs) (g:sN (.agg ((List.range kk).map λi=>int (l.getD i 0))) k):Ev vs (λv=>∀ H,(∀ k,k∈ds->H k=hp k)->fE P tb->bS P o ⟨f,H⟩ v) k :=
  TC hl ho hT hx hob bP hr (λ_ h=>h _ hm) a g
theorem VA {S:AS} {cs ds:List AV} {e N:Nat} {r r':Bool} {Ty:TypeId} (ht:fE P tb) (ho:o.op=.binOp .neq T x y Ty) (hA:eZ tb.ar T=some (N,e)) (hc:(decide (((P.info? e).map (·.size))=some 1) && (decide (P.cellsOf e=1) && decide (0<N)))=true) (hx:S.ev x=some (.agg cs)) (hy:S.ev y=some (.agg ds))
    (h:tH P 0 ((List.range' 0 N).map λj=>(e,j)) cs ds r) (hr:(!r)=r'):bS P o S (aA r'):=by
  simp only [Bool.and_eq_true,decide_eq_true_eq] at hc
  exact aHH ho (ht.I9 hA) hc.1 hc.2.1 hc.2.2 hx hy h hr
variable {p:Prop} {v:AV}
theorem M7 {S:AS}:∀ {l:List Operand} {us:List AV},evs S l=some us->EvL S l us
  | [],_,h=>by cases h;exact .nil
  | x :: r,_,h=>by
    unfold evs at h
    split at h
    · rename_i v hv
      split at h
      · rename_i vs hvs;cases h;exact .cons hv (M7 hvs)
      · cases h
    · cases h
theorem RX {f:FS} {hp H:AH}:∀ (l:List Operand),evs ⟨f,H⟩ l=evs ⟨f,hp⟩ l
  | []=>rfl
  | x :: r=>by unfold evs;rw [gZ (hp:=hp) x,RX r]
theorem Q9 {e sz N:Nat} {zs:List Value} {ps:Array (Nat×Operand)} {us:List AV} {rows:List (List AV)} (ho:o.op=.buildSlice T N ps) (hT:eZ tb.se T=some e) (hz:eZ tb.bz e=some sz) (hz2:eZ tb.zs e=some zs) (hz3:(Nat.beq zs.length sz && lF zs)=true)
    (he:evs ⟨f,hp⟩ (ps.toList.map (·.2))=some us) (hv:.list sz rows=v) (hf:pE (λi=>some (i*sz,sz)) (pY zs N) ((ps.toList.map (·.1)).zip us)=some rows.flatten) (hN:(Nat.ble (N*sz) 16777216 && (rows.all λr=>Nat.beq r.length sz))=true) (hrl:rows.length=N)
    (a:dO vs) (g:p):Et vs (∀ H,Ag H->fE P tb->bS P o ⟨f,H⟩ v) p :=
  .mk (λH hA ht=>by
    rw [Bool.and_eq_true] at hN
    exact hv ▸ dY (ps:=ps.toList) (by rw [ho]) (ht.nW hT) (ht.DN hz hz2 hz3) (M7 ((RX _).trans he)) hf hN.1 hN.2 hrl) g a
variable {id0:Nat} {kp:AH->Prop} {k2:AV->AH->Prop}
theorem aHO {α:Type} {e sz b':Nat} {zs:List Value} {q:AV} {g:α->List AV} {m:List α} (ho:o.op=.call { callee:=.builtin .append,args:=#[x,y],argTypes:=#[T,T] }) (hT:eZ tb.se T=some e) (hz:eZ tb.bz e=some sz) (hz2:eZ tb.zs e=some zs) (hz3:(Nat.beq zs.length sz && lF zs)=true) (hb:eZ tb.bb e=some b')
    (hx:(AS.mk f hp).ev x=some (.sc (.slice none 0 0))) (hy:(AS.mk f hp).ev y=some q) (hid:hp id0=none) (hcv:Cv hp q (aG sz g m)) (h1:∀ a,jF (g a)=true) (hfit:m.length<=68719476736)
    (hk:∀ ver',kp (upd hp id0 (some ⟨e,sz,true,true,ver',m.map g⟩))) (a:dO vs) (h:∀ ver',k2 (.sl id0 ver' 0 m.length) (upd hp id0 (some ⟨e,sz,true,true,ver',m.map g⟩))) :
    Ee id0 vs (λOut=>(fE P tb->bW P o ⟨f,hp⟩ no any Out)/\∀ v H',Out v H'->kp H') k2 :=
  .mk _ ⟨λht=>aHX id0 ho (ht.nW hT) (ht.DN hz hz2 hz3) (ht.wZ hb).1 (ht.wZ hb).2 hx hy hid hcv h1 hfit,by rintro _ _ ⟨v',rfl,rfl⟩;exact hk v'⟩ (by rintro _ _ ⟨v',rfl,rfl⟩;exact h v') a
theorem YR {α:Type} {e sz b' id aD kk:Nat} {zs:List Value} {q:AV} {g:α->List AV} {l m l':List α} {ob:aW} (ho:o.op=.call { callee:=.builtin .append,args:=#[x,y],argTypes:=#[T,T] }) (hT:eZ tb.se T=some e) (hz:eZ tb.bz e=some sz) (hz2:eZ tb.zs e=some zs) (hz3:(Nat.beq zs.length sz && lF zs)=true) (hb:eZ tb.bb e=some b')
    (hx:(AS.mk f hp).ev x=some (.sl id aD 0 kk)) (hy:(AS.mk f hp).ev y=some q) (hob:hp id=some ob) (bP:ob.aD=aD) (hmt:ob.mt=true) (happ:ob.app=true) (hel:ob.elem=e) (hsz:ob.sz=sz) (hr:ob.rows=l.map g) (hcv:Cv hp q (aG sz g m)) (hl:l++m=l') (hk0:kk=l.length) (h1:∀ a,jF (g a)=true) (hfit:l'.length<=68719476736)
    (hk:∀ ver',kp (upd hp id (some ⟨e,sz,true,true,ver',l'.map g⟩))) (a:dO vs) (h:∀ ver',k2 (.sl id ver' 0 l'.length) (upd hp id (some ⟨e,sz,true,true,ver',l'.map g⟩))) :
    Ee id0 vs (λOut=>(fE P tb->bW P o ⟨f,hp⟩ no any Out)/\∀ v H',Out v H'->kp H') k2 :=
  .mk _ ⟨λht=>iP .any ho (ht.nW hT) (ht.DN hz hz2 hz3) (ht.wZ hb).1 (ht.wZ hb).2 hx hy hob bP hmt happ hel hsz hr hk0 hcv h1 hl hfit,by rintro _ _ ⟨v',-,rfl,rfl⟩;exact hk v'⟩ (by rintro _ _ ⟨v',-,rfl,rfl⟩;exact h v') a
theorem aKS {m id aD row off:Nat} {b:Bool} {el sz ve:Nat} {mt app:Bool} {rows base:List (List AV)} {r:List AV} {q:AV} (ho:o.op=.store T x y) (hT:eZ tb.sh T=some (m,b)) (hx:(AS.mk f hp).ev x=some (.pt id aD row off)) (hy:(AS.mk f hp).ev y=some q)
    (hob:hp id=some ⟨el,sz,mt,app,ve,rows⟩) (hv:ve=aD) (hmt:mt=true) (hr:rows[row]?=some r) (hf:(Nat.beq q.cells.length m && (Nat.ble (off+m) r.length && jF q.cells))=true) (hb:∀ c,rows.set row c=base.set row c)
    (hk:∀ c,kp (upd hp id (some ⟨el,sz,mt,app,ve,base.set row c⟩))) (a:dO vs) (h:oJ (putRow r off q.cells) λc=>k2 (.sc undef) (upd hp id (some ⟨el,sz,mt,app,ve,base.set row c⟩))) :
    Ee id0 vs (λOut=>(fE P tb->bW P o ⟨f,hp⟩ no any Out)/\∀ v H',Out v H'->kp H') k2:=by
  rw [Bool.and_eq_true,Bool.and_eq_true] at hf
  refine .mk _ ⟨λht=>bW.d9 (dZ ho (ht.b.mH hT) hx hy hob hv hmt hr (Nat.eq_of_beq_eq_true hf.1) hf.2.1 hf.2.2) (λ_ h=>h) (λ_ _=>trivial),?_⟩ ?_ a
  · rintro _ _ ⟨rfl,rfl⟩;simp only [hb];exact hk _
  · rintro _ _ ⟨rfl,rfl⟩;simp only [hb];exact nO h
theorem aKN {α:Type} {m id aD row off:Nat} {b:Bool} {el sz ve:Nat} {mt app:Bool} {l l':List α} {g:α->List AV} {v':α} {r:List AV} {q:AV} (ho:o.op=.store T x y) (hT:eZ tb.sh T=some (m,b)) (hx:(AS.mk f hp).ev x=some (.pt id aD row off)) (hy:(AS.mk f hp).ev y=some q)
    (hob:hp id=some ⟨el,sz,mt,app,ve,l.map g⟩) (hl:l.set row v'=l') (hr:(l.map g)[row]?=some r) (hq:putRow r off q.cells=g v') (hv:ve=aD) (hmt:mt=true) (hf:(Nat.beq q.cells.length m && (Nat.ble (off+m) r.length && jF q.cells))=true)
    (hk:kp (upd hp id (some ⟨el,sz,mt,app,ve,l'.map g⟩))) (a:dO vs) (h:l'.length=l.length->k2 (.sc undef) (upd hp id (some ⟨el,sz,mt,app,ve,l'.map g⟩))) :
    Ee id0 vs (λOut=>(fE P tb->bW P o ⟨f,hp⟩ no any Out)/\∀ v H',Out v H'->kp H') k2:=by
  rw [Bool.and_eq_true,Bool.and_eq_true] at hf
  refine .mk _ ⟨λht=>bW.d9 (dZ ho (ht.b.mH hT) hx hy hob hv hmt hr (Nat.eq_of_beq_eq_true hf.1) hf.2.1 hf.2.2) (λ_ h=>h) (λ_ _=>trivial),?_⟩ ?_ a
  · rintro _ _ ⟨rfl,rfl⟩;simp only [hq,iE hl];exact hk
  · rintro _ _ ⟨rfl,rfl⟩;simp only [hq,iE hl];exact h (by rw [<- hl,List.length_set])
theorem aK8 {id aD:Nat} {ob:aW} {l l':List Int} {i v w:Int} (ho:o.op=.store T x y) (hT:eZ tb.sh T=some (1,false)) (hx:(AS.mk f hp).ev x=some (.pt id aD 0 i.toNat)) (hy:(AS.mk f hp).ev y=some (int v)) (hob:hp id=some ob) (bP:ob.aD=aD) (hmt:ob.mt=true) (hr:ob.rows=[l.map int]) (h:ix l i=some w) (hl:l.set i.toNat v=l')
    (hk:kp (upd hp id (some { ob with rows:=[l'.map int] }))) (a:dO vs) (g:k2 (.sc undef) (upd hp id (some { ob with rows:=[l'.map int] }))) :
    Ee id0 vs (λOut=>(fE P tb->bW P o ⟨f,hp⟩ no any Out)/\∀ v H',Out v H'->kp H') k2 :=
  .mk _ ⟨λht=>bW.d9 (aHD ho (ht.b.mH hT) hx hy hob bP hmt hr h hl) (λ_ h=>h) (λ_ _=>trivial),by rintro _ _ ⟨rfl,rfl⟩;exact hk⟩ (by rintro _ _ ⟨rfl,rfl⟩;exact g) a
theorem aEU {α β:Type} {p:α⊕β->Prop} (h1:∀ a,p (.inl a)) (h2:∀ b,p (.inr b)):∀ x,p x:=λx=>by cases x with | inl a=>exact h1 a | inr b=>exact h2 b
theorem TD {α:Type} {n:Nat} {a:α} {l:List α} (e:List.replicate n a=l):n=l.length:=by rw [<- e,List.length_replicate]
end
def notP (P:Program) (t:TypeId):Bool:=match P.underlying t with
  | some d=>wS d
  | none=>false
theorem U9 {P:Program} {t:TypeId} (h:notP P t=true):∃ d,P.underlying t=some d/\wS d=true:=by
  unfold notP at h
  split at h
  · exact ⟨_,by assumption,h⟩
  · cases h
theorem MU {P:Program} {o:Oper} {S:AS} {T:TypeId} {x:Operand} {t:TypeId} {v:AV} (ho:o.op=.typeAssert x T t true) (hd:notP P t=true) (hx:S.ev x=some (.iG t v)):bS P o S (.aM [v,aA true]):=by
  obtain ⟨d,h1,h2⟩:=U9 hd;exact VH ho h1 h2 hx
theorem NN {P:Program} {o:Oper} {S:AS} {T:TypeId} {x:Operand} {t tx:TypeId} {v:AV} (ho:o.op=.typeAssert x T t true) (hd:notP P t=true) (hx:S.ev x=some (.iG tx v)) (hne:Nat.beq tx t=false) (hz:zU P t=true):bS P o S (.aM [.agg [],aA false]):=by
  obtain ⟨d,h1,h2⟩:=U9 hd;exact FZ ho h1 h2 hx hne hz
structure rQ (P:Program) (k:FuncId) (el sz:Nat) {α:Type} (F:α->List AV):Prop where
  bD:bD P k=true
  pc:∀ {H:AH} {id:Nat} {l:List α},H id=none->l.length<=68719476736->PC P k [aG sz F l] H (λy H'=>∃ aD,y=.sl id aD 0 l.length/\H'=upd H id (some ⟨el,sz,true,true,aD,l.map F⟩))
section
variable {P:Program} {tb:iC} {o:Oper} {f:Nat->Option AV} {hp:AH} {x fo:Operand} {vs:List (Nat×Nat)} {kp:AH->Prop} {k2:AV->AH->Prop}
theorem XY {k:FuncId} {el sz id:Nat} {α:Type} {F:α->List AV} {l:List α} {y0:AV} {ts:Array TypeId} (ho:o.op=.call { callee:=.value fo,args:=[x].toArray,argTypes:=ts }) (hf:(AS.mk f hp).ev fo=some (.fn (.func k) [] [])) (hx:(AS.mk f hp).ev x=some y0)
    (c:@rQ P k el sz α F) (hc:Cv hp y0 (aG sz F l)) (hid:hp id=none) (hl:l.length<=68719476736) (hk:∀ aD,kp (upd hp id (some ⟨el,sz,true,true,aD,l.map F⟩))) (a:dO vs)
    (g:∀ aD,k2 (.sl id aD 0 l.length) (upd hp id (some ⟨el,sz,true,true,aD,l.map F⟩))) :
    Ee id vs (λOut=>(fE P tb->bW P o ⟨f,hp⟩ no any Out)/\∀ v H',Out v H'->kp H') k2 :=
  .mk _ ⟨λht=>aQ ho hf (.cons hx .nil) c.bD (nU (c.pc (id:=id) (l:=l) hid hl) (.cons hc .nil)),by rintro _ _ ⟨aD,rfl,rfl⟩;exact hk aD⟩ (by rintro _ _ ⟨aD,rfl,rfl⟩;exact g aD) a
end
end Go.Pv
