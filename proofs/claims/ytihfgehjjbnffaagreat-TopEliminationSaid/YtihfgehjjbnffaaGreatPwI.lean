import Derived.Test.YtihfgehjjbnffaaGreatPwD
import Derived.Test.YtihfgehjjbnffaaGreatPvAH
set_option linter.unusedVariables false
set_option linter.unusedSimpArgs false
namespace Go.Pv
theorem bK {P:Program} {o:Oper} {f:FS} {hp:AH} {v:AV} {tb:gT} (h:bW P o ⟨f,hp⟩ v):∀ H,H=hp->dW P tb->bW P o ⟨f,H⟩ v:=λH e _=>by rw [e];exact h
theorem aCD {a:AV} {l:List AV} (ha:PV a) (hl:∀ x∈l,PV x):∀ x∈a :: l,PV x:=by
  intro x hx;rcases List.mem_cons.1 hx with rfl | h
  · exact ha
  · exact hl x h
def pw {α β:Type} {γ:Type 1} (f:α->β->γ) (p:α×β):γ:=f p.1 p.2
theorem bU {P:Program} {i:Ix} {α β:Type} (f:α->β->WT P i) (p:α×β):(pw f p).run=p2 (λa b=>(f a b).run) p:=rfl
section
variable {P:Program} {tb:gT} {f:FS} {hp:AH} {vs:List (Nat×Nat)} {o:Oper} {T:TypeId} {x y:Operand} {Ag:AH->Prop} {k:AV->Prop}
theorem XJ {fl m id aN row off:Nat} {ob:bH} {r:List AV} (ho:o.op=.fieldAddr T x fl) (hT:uF tb.fo T fl=some m) (hx:(AS.mk f hp).ev x=some (.pt id aN row off)) (hob:hp id=some ob) (hv:ob.aN=aN)
    (hr:ob.rows[row]?=some r) (hag:∀ H,Ag H->H id=hp id) (a:cB vs) (g:k (.pt id aN row (off+m))):Ev vs (λv=>∀ H,Ag H->dW P tb->bW P o ⟨f,H⟩ v) k :=
  .mk _ (λH hA ht=>fZ ho (ht.b.U4 hT) ((gW x).trans hx) (.pt ((hag H hA).trans hob) hv hr) (.pt _ _ _ _ _)) g a
theorem aBA {id aN row off:Nat} {ob:bH} {r:List AV} (ho:o.op=.nilCheck x) (hx:(AS.mk f hp).ev x=some (.pt id aN row off)) (hob:hp id=some ob) (hv:ob.aN=aN)
    (hr:ob.rows[row]?=some r) (hag:∀ H,Ag H->H id=hp id) (a:cB vs) (g:k (.pt id aN row off)):Ev vs (λv=>∀ H,Ag H->dW P tb->bW P o ⟨f,H⟩ v) k :=
  .mk _ (λH hA ht=>mY ho ((gW x).trans hx) (.pt ((hag H hA).trans hob) hv hr)) g a
theorem aHD {m id aN row off:Nat} {b:Bool} {ob:bH} {r:List AV} (ho:o.op=.load T x) (hT:dR tb.sh T=some (m,b)) (hx:(AS.mk f hp).ev x=some (.pt id aN row off)) (hob:hp id=some ob) (hv:ob.aN=aN)
    (hr:ob.rows[row]?=some r) (hag:∀ H,Ag H->H id=hp id) (a:cB vs) (g:match kT m b (r.drop off) with | some v=>wP v k | none=>False):Ev vs (λv=>∀ H,Ag H->dW P tb->bW P o ⟨f,H⟩ v) k:=by
  split at g
  · rename_i v hc
    exact .mk _ (λH hA ht=>fU ho (ht.b.oQ hT) ((gW x).trans hx) (.pt ((hag H hA).trans hob) hv hr) hc) (IU g) a
  · exact g.elim
theorem aGX {α:Type} {e sz kk id aN:Nat} {b:Bool} {ik:IntKind} {i:Int} {ob:bH} {l:List α} {v:α} (ho:o.op=.indexAddr T x y) (hT:dR tb.se T=some e) (he:dR tb.sh e=some (sz,b))
    (hx:(AS.mk f hp).ev x=some (.sl id aN 0 kk)) (hy:(AS.mk f hp).ev y=some (.sc (.int ik i))) (hob:hp id=some ob) (bX:ob.aN=aN) (hsz:ob.sz=sz) (hrl:ob.rows.length=l.length) (h:ix l i=some v) (hk:kk=l.length)
    (hag:∀ H,Ag H->H id=hp id) (a:cB vs) (g:k (.pt id aN i.toNat 0)):Ev vs (λv=>∀ H,Ag H->dW P tb->bW P o ⟨f,H⟩ v) k :=
  .mk _ (λH hA ht=>eY ho (ht.qJ hT) (ht.b.oQ he) ((gW x).trans hx) ((gW y).trans hy) ((hag H hA).trans hob) bX hsz hk hrl h) g a
theorem ZF {N e m id aN row off:Nat} {b:Bool} {ob:bH} {r:List AV} {ik:IntKind} {i:Int} (ho:o.op=.indexAddr T x y) (hT:dR tb.ar T=some (N,e)) (he:dR tb.sh e=some (m,b)) (hx:(AS.mk f hp).ev x=some (.pt id aN row off)) (hy:(AS.mk f hp).ev y=some (.sc (.int ik i)))
    (hob:hp id=some ob) (bX:ob.aN=aN) (hr:ob.rows[row]?=some r) (hi:0<=i/\i<(N:Int)) (hag:∀ H,Ag H->H id=hp id) (a:cB vs) (g:k (.pt id aN row (off+i.toNat*m))):Ev vs (λv=>∀ H,Ag H->dW P tb->bW P o ⟨f,H⟩ v) k :=
  .mk _ (λH hA ht=>qF ho (ht.TF hT) (ht.b.oQ he) ((gW x).trans hx) ((gW y).trans hy) ((hag H hA).trans hob) bX hr hi) g a
theorem aB0 {N e id aN:Nat} {b:Bool} {ob:bH} {ik:IntKind} {i:Int} {r:List AV} (ho:o.op=.indexAddr T x y) (hT:dR tb.ar T=some (N,e)) (he:dR tb.sh e=some (1,b)) (hx:(AS.mk f hp).ev x=some (.pt id aN 0 0)) (hy:(AS.mk f hp).ev y=some (.sc (.int ik i)))
    (hob:hp id=some ob) (bX:ob.aN=aN) (hr:ob.rows=[r]) (hi:0<=i/\i<(N:Int)) (hag:∀ H,Ag H->H id=hp id) (a:cB vs) (g:k (.pt id aN 0 i.toNat)):Ev vs (λv=>∀ H,Ag H->dW P tb->bW P o ⟨f,H⟩ v) k :=
  .mk _ (λH hA ht=>VV ho (ht.TF hT) (ht.b.oQ he) ((gW x).trans hx) ((gW y).trans hy) ((hag H hA).trans hob) bX hr hi) g a
theorem M6 {id aN:Nat} {ob:bH} {l:List Int} {i v:Int} (ho:o.op=.load T x) (hT:dR tb.sh T=some (1,false)) (hx:(AS.mk f hp).ev x=some (.pt id aN 0 i.toNat)) (hob:hp id=some ob) (bX:ob.aN=aN) (hr:ob.rows=[l.map int]) (h:ix l i=some v)
    (hag:∀ H,Ag H->H id=hp id) (a:cB vs) (g:k (int v)):Ev vs (λv=>∀ H,Ag H->dW P tb->bW P o ⟨f,H⟩ v) k :=
  .mk _ (λH hA ht=>aMB ho (ht.b.oQ hT) ((gW x).trans hx) ((hag H hA).trans hob) bX hr h) g a
theorem aA8 {fl m id aN row off:Nat} {ob:bH} {r:List AV} (ho:o.op=.fieldAddr T x fl) (hT:uF tb.fo T fl=some m) (hx:(AS.mk f hp).ev x=some (.pt id aN row off)) (hob:hp id=some ob) (hv:ob.aN=aN) (hr:ob.rows[row]?=some r) (a:cB vs) (g:k (.pt id aN row (off+m))):Ev vs (λv=>∀ H,H=hp->dW P tb->bW P o ⟨f,H⟩ v) k :=
  XJ ho hT hx hob hv hr (λ_ h=>congrFun h _) a g
theorem WS {ds:List Nat} {fl m id aN row off:Nat} {ob:bH} {r:List AV} (ho:o.op=.fieldAddr T x fl) (hT:uF tb.fo T fl=some m) (hx:(AS.mk f hp).ev x=some (.pt id aN row off)) (hob:hp id=some ob) (hv:ob.aN=aN) (hr:ob.rows[row]?=some r) (hm:id∈ds) (a:cB vs) (g:k (.pt id aN row (off+m))):Ev vs (λv=>∀ H,(∀ k,k∈ds->H k=hp k)->dW P tb->bW P o ⟨f,H⟩ v) k :=
  XJ ho hT hx hob hv hr (λ_ h=>h _ hm) a g
theorem YL {id aN row off:Nat} {ob:bH} {r:List AV} (ho:o.op=.nilCheck x) (hx:(AS.mk f hp).ev x=some (.pt id aN row off)) (hob:hp id=some ob) (hv:ob.aN=aN) (hr:ob.rows[row]?=some r) (a:cB vs) (g:k (.pt id aN row off)):Ev vs (λv=>∀ H,H=hp->dW P tb->bW P o ⟨f,H⟩ v) k :=
  aBA ho hx hob hv hr (λ_ h=>congrFun h _) a g
theorem aEN {ds:List Nat} {id aN row off:Nat} {ob:bH} {r:List AV} (ho:o.op=.nilCheck x) (hx:(AS.mk f hp).ev x=some (.pt id aN row off)) (hob:hp id=some ob) (hv:ob.aN=aN) (hr:ob.rows[row]?=some r) (hm:id∈ds) (a:cB vs) (g:k (.pt id aN row off)):Ev vs (λv=>∀ H,(∀ k,k∈ds->H k=hp k)->dW P tb->bW P o ⟨f,H⟩ v) k :=
  aBA ho hx hob hv hr (λ_ h=>h _ hm) a g
theorem aGT {m id aN row off:Nat} {b:Bool} {ob:bH} {r:List AV} (ho:o.op=.load T x) (hT:dR tb.sh T=some (m,b)) (hx:(AS.mk f hp).ev x=some (.pt id aN row off)) (hob:hp id=some ob) (hv:ob.aN=aN) (hr:ob.rows[row]?=some r) (a:cB vs) (g:match kT m b (r.drop off) with | some v=>wP v k | none=>False):Ev vs (λv=>∀ H,H=hp->dW P tb->bW P o ⟨f,H⟩ v) k :=
  aHD ho hT hx hob hv hr (λ_ h=>congrFun h _) a g
theorem aDI {ds:List Nat} {m id aN row off:Nat} {b:Bool} {ob:bH} {r:List AV} (ho:o.op=.load T x) (hT:dR tb.sh T=some (m,b)) (hx:(AS.mk f hp).ev x=some (.pt id aN row off)) (hob:hp id=some ob) (hv:ob.aN=aN) (hr:ob.rows[row]?=some r) (hm:id∈ds) (a:cB vs) (g:match kT m b (r.drop off) with | some v=>wP v k | none=>False):Ev vs (λv=>∀ H,(∀ k,k∈ds->H k=hp k)->dW P tb->bW P o ⟨f,H⟩ v) k :=
  aHD ho hT hx hob hv hr (λ_ h=>h _ hm) a g
theorem aFX {α:Type} {e sz kk id aN:Nat} {b:Bool} {ik:IntKind} {i:Int} {ob:bH} {l:List α} {v:α} (ho:o.op=.indexAddr T x y) (hT:dR tb.se T=some e) (he:dR tb.sh e=some (sz,b)) (hx:(AS.mk f hp).ev x=some (.sl id aN 0 kk)) (hy:(AS.mk f hp).ev y=some (.sc (.int ik i))) (hob:hp id=some ob) (bX:ob.aN=aN) (hsz:ob.sz=sz) (hrl:ob.rows.length=l.length) (h:ix l i=some v) (hk:kk=l.length) (a:cB vs) (g:k (.pt id aN i.toNat 0)):Ev vs (λv=>∀ H,H=hp->dW P tb->bW P o ⟨f,H⟩ v) k :=
  aGX ho hT he hx hy hob bX hsz hrl h hk (λ_ h=>congrFun h _) a g
theorem aGW {ds:List Nat} {α:Type} {e sz kk id aN:Nat} {b:Bool} {ik:IntKind} {i:Int} {ob:bH} {l:List α} {v:α} (ho:o.op=.indexAddr T x y) (hT:dR tb.se T=some e) (he:dR tb.sh e=some (sz,b)) (hx:(AS.mk f hp).ev x=some (.sl id aN 0 kk)) (hy:(AS.mk f hp).ev y=some (.sc (.int ik i))) (hob:hp id=some ob) (bX:ob.aN=aN) (hsz:ob.sz=sz) (hrl:ob.rows.length=l.length) (h:ix l i=some v) (hk:kk=l.length) (hm:id∈ds) (a:cB vs) (g:k (.pt id aN i.toNat 0)):Ev vs (λv=>∀ H,(∀ k,k∈ds->H k=hp k)->dW P tb->bW P o ⟨f,H⟩ v) k :=
  aGX ho hT he hx hy hob bX hsz hrl h hk (λ_ h=>h _ hm) a g
theorem YD {N e m id aN row off:Nat} {b:Bool} {ob:bH} {r:List AV} {ik:IntKind} {i:Int} (ho:o.op=.indexAddr T x y) (hT:dR tb.ar T=some (N,e)) (he:dR tb.sh e=some (m,b)) (hx:(AS.mk f hp).ev x=some (.pt id aN row off)) (hy:(AS.mk f hp).ev y=some (.sc (.int ik i))) (hob:hp id=some ob) (bX:ob.aN=aN) (hr:ob.rows[row]?=some r) (hi:0<=i/\i<(N:Int)) (a:cB vs) (g:k (.pt id aN row (off+i.toNat*m))):Ev vs (λv=>∀ H,H=hp->dW P tb->bW P o ⟨f,H⟩ v) k :=
  ZF ho hT he hx hy hob bX hr hi (λ_ h=>congrFun h _) a g
theorem aHU {ds:List Nat} {N e m id aN row off:Nat} {b:Bool} {ob:bH} {r:List AV} {ik:IntKind} {i:Int} (ho:o.op=.indexAddr T x y) (hT:dR tb.ar T=some (N,e)) (he:dR tb.sh e=some (m,b)) (hx:(AS.mk f hp).ev x=some (.pt id aN row off)) (hy:(AS.mk f hp).ev y=some (.sc (.int ik i))) (hob:hp id=some ob) (bX:ob.aN=aN) (hr:ob.rows[row]?=some r) (hi:0<=i/\i<(N:Int)) (hm:id∈ds) (a:cB vs) (g:k (.pt id aN row (off+i.toNat*m))):Ev vs (λv=>∀ H,(∀ k,k∈ds->H k=hp k)->dW P tb->bW P o ⟨f,H⟩ v) k :=
  ZF ho hT he hx hy hob bX hr hi (λ_ h=>h _ hm) a g
theorem Z4 {N e id aN:Nat} {b:Bool} {ob:bH} {ik:IntKind} {i:Int} {r:List AV} (ho:o.op=.indexAddr T x y) (hT:dR tb.ar T=some (N,e)) (he:dR tb.sh e=some (1,b)) (hx:(AS.mk f hp).ev x=some (.pt id aN 0 0)) (hy:(AS.mk f hp).ev y=some (.sc (.int ik i))) (hob:hp id=some ob) (bX:ob.aN=aN) (hr:ob.rows=[r]) (hi:0<=i/\i<(N:Int)) (a:cB vs) (g:k (.pt id aN 0 i.toNat)):Ev vs (λv=>∀ H,H=hp->dW P tb->bW P o ⟨f,H⟩ v) k :=
  aB0 ho hT he hx hy hob bX hr hi (λ_ h=>congrFun h _) a g
theorem aB4 {ds:List Nat} {N e id aN:Nat} {b:Bool} {ob:bH} {ik:IntKind} {i:Int} {r:List AV} (ho:o.op=.indexAddr T x y) (hT:dR tb.ar T=some (N,e)) (he:dR tb.sh e=some (1,b)) (hx:(AS.mk f hp).ev x=some (.pt id aN 0 0)) (hy:(AS.mk f hp).ev y=some (.sc (.int ik i))) (hob:hp id=some ob) (bX:ob.aN=aN) (hr:ob.rows=[r]) (hi:0<=i/\i<(N:Int)) (hm:id∈ds) (a:cB vs) (g:k (.pt id aN 0 i.toNat)):Ev vs (λv=>∀ H,(∀ k,k∈ds->H k=hp k)->dW P tb->bW P o ⟨f,H⟩ v) k :=
  aB0 ho hT he hx hy hob bX hr hi (λ_ h=>h _ hm) a g
theorem aF1 {id aN:Nat} {ob:bH} {l:List Int} {i v:Int} (ho:o.op=.load T x) (hT:dR tb.sh T=some (1,false)) (hx:(AS.mk f hp).ev x=some (.pt id aN 0 i.toNat)) (hob:hp id=some ob) (bX:ob.aN=aN) (hr:ob.rows=[l.map int]) (h:ix l i=some v) (a:cB vs) (g:k (int v)):Ev vs (λv=>∀ H,H=hp->dW P tb->bW P o ⟨f,H⟩ v) k :=
  M6 ho hT hx hob bX hr h (λ_ h=>congrFun h _) a g
theorem aAN {ds:List Nat} {id aN:Nat} {ob:bH} {l:List Int} {i v:Int} (ho:o.op=.load T x) (hT:dR tb.sh T=some (1,false)) (hx:(AS.mk f hp).ev x=some (.pt id aN 0 i.toNat)) (hob:hp id=some ob) (bX:ob.aN=aN) (hr:ob.rows=[l.map int]) (h:ix l i=some v) (hm:id∈ds) (a:cB vs) (g:k (int v)):Ev vs (λv=>∀ H,(∀ k,k∈ds->H k=hp k)->dW P tb->bW P o ⟨f,H⟩ v) k :=
  M6 ho hT hx hob bX hr h (λ_ h=>h _ hm) a g
theorem aDA {id aN:Nat} {ob:bH} {l:List Int} {i v:Int} (h:ix l i=some v) (ho:o.op=.load T x) (hT:dR tb.sh T=some (1,false)) (hx:(AS.mk f hp).ev x=some (.pt id aN 0 i.toNat)) (hob:hp id=some ob) (bX:ob.aN=aN) (hr:ob.rows=[l.map int]) (a:cB vs) (g:k (int v)):Ev vs (λv=>∀ H,H=hp->dW P tb->bW P o ⟨f,H⟩ v) k :=
  M6 ho hT hx hob bX hr h (λ_ h=>congrFun h _) a g
theorem aAK {ds:List Nat} {id aN:Nat} {ob:bH} {l:List Int} {i v:Int} (h:ix l i=some v) (ho:o.op=.load T x) (hT:dR tb.sh T=some (1,false)) (hx:(AS.mk f hp).ev x=some (.pt id aN 0 i.toNat)) (hob:hp id=some ob) (bX:ob.aN=aN) (hr:ob.rows=[l.map int]) (hm:id∈ds) (a:cB vs) (g:k (int v)):Ev vs (λv=>∀ H,(∀ k,k∈ds->H k=hp k)->dW P tb->bW P o ⟨f,H⟩ v) k :=
  M6 ho hT hx hob bX hr h (λ_ h=>h _ hm) a g
def LM (P:Program) (T:TypeId):Bool:=match P.underlying T with
  | some (.interface _)=>true
  | _=>false
def TQ (P:Program) (T:TypeId):Bool:=match P.underlying T with
  | some (.interface _)=>false
  | some _=>true
  | none=>false
theorem aBB {T:TypeId} (h:LM P T=true):∃ ms,P.underlying T=some (.interface ms):=by
  unfold LM at h
  split at h
  · rename_i ms e;exact ⟨ms,e⟩
  · cases h
theorem aI2 {T:TypeId} (h:TQ P T=true):∃ d,P.underlying T=some d/\∀ ms,d≠.interface ms:=by
  unfold TQ at h
  split at h
  · cases h
  · rename_i d hd e;exact ⟨d,e,λms q=>hd ms q⟩
  · cases h
theorem KR {S:AS} {Ty:TypeId} {t:TypeId} {v:AV} (ho:o.op=.binOp .eql T x y Ty) (hT:LM P T=true) (hx:S.ev x=some (.gB t v)) (hy:S.ev y=some (.sc .nilIface)):bW P o S (aI false):=by
  obtain ⟨ms,h⟩:=aBB hT;exact rX ho h hx hy
theorem L8 {S:AS} {Ty:TypeId} {c:Value} (ho:o.op=.binOp .eql T x (.const c) Ty) (hT:LM P T=true) (hx:S.ev x=some (.sc .nilIface)) (hc:c=.nilIface):bW P o S (aI true):=by
  obtain ⟨ms,h⟩:=aBB hT;exact OF ho h hx hc
theorem MP {S:AS} {v:AV} (ho:o.op=.makeInterface T x) (hT:TQ P T=true) (hx:S.ev x=some v):bW P o S (.gB T v):=by
  obtain ⟨d,h,hd⟩:=aI2 hT;exact rQ ho h hd hx
theorem aDK {id aN kk:Nat} {ob:bH} {l:List Int} (hl:l.length=kk) (ho:o.op=.load T x) (hT:dR tb.sh T=some (kk,true)) (hx:(AS.mk f hp).ev x=some (.pt id aN 0 0)) (hob:hp id=some ob) (bX:ob.aN=aN) (hr:ob.rows=[l.map int])
    (hag:∀ H,Ag H->H id=hp id) (a:cB vs) (g:wP (.agg ((List.range kk).map λi=>int (l.getD i 0))) k):Ev vs (λv=>∀ H,Ag H->dW P tb->bW P o ⟨f,H⟩ v) k :=
  .mk _ (λH hA ht=>aPR ho (ht.b.oQ hT) ((gW x).trans hx) ((hag H hA).trans hob) bX hr hl) (IU g) a
theorem aBD {id aN kk:Nat} {ob:bH} {l:List Int} (hl:l.length=kk) (ho:o.op=.load T x) (hT:dR tb.sh T=some (kk,true)) (hx:(AS.mk f hp).ev x=some (.pt id aN 0 0)) (hob:hp id=some ob) (bX:ob.aN=aN) (hr:ob.rows=[l.map int]) (a:cB vs) (g:wP (.agg ((List.range kk).map λi=>int (l.getD i 0))) k):Ev vs (λv=>∀ H,H=hp->dW P tb->bW P o ⟨f,H⟩ v) k :=
  aDK hl ho hT hx hob bX hr (λ_ h=>congrFun h _) a g
theorem aB7 {ds:List Nat} {id aN kk:Nat} {ob:bH} {l:List Int} (hl:l.length=kk) (ho:o.op=.load T x) (hT:dR tb.sh T=some (kk,true)) (hx:(AS.mk f hp).ev x=some (.pt id aN 0 0)) (hob:hp id=some ob) (bX:ob.aN=aN) (hr:ob.rows=[l.map int]) (hm:id∈ds) (a:cB vs) (g:wP (.agg ((List.range kk).map λi=>int (l.getD i 0))) k):Ev vs (λv=>∀ H,(∀ k,k∈ds->H k=hp k)->dW P tb->bW P o ⟨f,H⟩ v) k :=
  aDK hl ho hT hx hob bX hr (λ_ h=>h _ hm) a g
theorem MF {S:AS} {cs ds:List AV} {e N:Nat} {r r':Bool} {Ty:TypeId} (ht:dW P tb) (ho:o.op=.binOp .neq T x y Ty) (hA:dR tb.ar T=some (N,e)) (hc:(decide (((P.info? e).map (·.size))=some 1) && (decide (P.cellsOf e=1) && decide (0<N)))=true) (hx:S.ev x=some (.agg cs)) (hy:S.ev y=some (.agg ds))
    (h:yK P 0 ((List.range' 0 N).map λj=>(e,j)) cs ds r) (hr:(!r)=r'):bW P o S (aI r'):=by
  simp only [Bool.and_eq_true,decide_eq_true_eq] at hc
  exact aSD ho (ht.TF hA) hc.1 hc.2.1 hc.2.2 hx hy h hr
variable {p:Prop} {v:AV}
theorem Y2 {S:AS}:∀ {l:List Operand} {us:List AV},evs S l=some us->EvL S l us
  | [],_,h=>by cases h;exact .nil
  | x :: r,_,h=>by
    unfold evs at h
    split at h
    · rename_i v hv
      split at h
      · rename_i vs hvs;cases h;exact .cons hv (Y2 hvs)
      · cases h
    · cases h
theorem aGM {f:FS} {hp H:AH}:∀ (l:List Operand),evs ⟨f,H⟩ l=evs ⟨f,hp⟩ l
  | []=>rfl
  | x :: r=>by unfold evs;rw [gW (hp:=hp) x,aGM r]
theorem K7 {e sz N:Nat} {zs:List Value} {ps:Array (Nat×Operand)} {us:List AV} {rows:List (List AV)} (ho:o.op=.buildSlice T N ps) (hT:dR tb.se T=some e) (hz:dR tb.bz e=some sz) (hz2:dR tb.zs e=some zs) (hz3:(Nat.beq zs.length sz && nL zs)=true)
    (he:evs ⟨f,hp⟩ (ps.toList.map (·.2))=some us) (hv:.list sz rows=v) (hf:rV (λi=>some (i*sz,sz)) (sU zs N) ((ps.toList.map (·.1)).zip us)=some rows.flatten) (hN:(Nat.ble (N*sz) 16777216 && (rows.all λr=>Nat.beq r.length sz))=true) (hrl:rows.length=N)
    (a:cB vs) (g:p):Et vs (∀ H,Ag H->dW P tb->bW P o ⟨f,H⟩ v) p :=
  .mk (λH hA ht=>by
    rw [Bool.and_eq_true] at hN
    exact hv ▸ gM (ps:=ps.toList) (by rw [ho]) (ht.qJ hT) (ht.MV hz hz2 hz3) (Y2 ((aGM _).trans he)) hf hN.1 hN.2 hrl) g a
variable {id0:Nat} {kp:AH->Prop} {k2:AV->AH->Prop}
theorem aDQ {α:Type} {e sz b':Nat} {zs:List Value} {q:AV} {g:α->List AV} {m:List α} (ho:o.op=.call { callee:=.builtin .append,args:=#[x,y],argTypes:=#[T,T] }) (hT:dR tb.se T=some e) (hz:dR tb.bz e=some sz) (hz2:dR tb.zs e=some zs) (hz3:(Nat.beq zs.length sz && nL zs)=true) (hb:dR tb.bb e=some b')
    (hx:(AS.mk f hp).ev x=some (.sc (.slice none 0 0))) (hy:(AS.mk f hp).ev y=some q) (hid:hp id0=none) (hcv:Cv hp q (aH sz g m)) (h1:∀ a,iW (g a)=true) (hfit:m.length<=68719476736)
    (hk:∀ ver',kp (upd hp id0 (some ⟨e,sz,true,true,ver',m.map g⟩))) (a:cB vs) (h:∀ ver',k2 (.sl id0 ver' 0 m.length) (upd hp id0 (some ⟨e,sz,true,true,ver',m.map g⟩))) :
    Ee id0 vs (λOut=>(dW P tb->bY P o ⟨f,hp⟩ no any Out)/\∀ v H',Out v H'->kp H') k2 :=
  .mk _ ⟨λht=>aJS id0 ho (ht.qJ hT) (ht.MV hz hz2 hz3) (ht.AT hb).1 (ht.AT hb).2 hx hy hid hcv h1 hfit,by rintro _ _ ⟨v',rfl,rfl⟩;exact hk v'⟩ (by rintro _ _ ⟨v',rfl,rfl⟩;exact h v') a
theorem Z5 {α:Type} {e sz b' id aN kk:Nat} {zs:List Value} {q:AV} {g:α->List AV} {l m l':List α} {ob:bH} (ho:o.op=.call { callee:=.builtin .append,args:=#[x,y],argTypes:=#[T,T] }) (hT:dR tb.se T=some e) (hz:dR tb.bz e=some sz) (hz2:dR tb.zs e=some zs) (hz3:(Nat.beq zs.length sz && nL zs)=true) (hb:dR tb.bb e=some b')
    (hx:(AS.mk f hp).ev x=some (.sl id aN 0 kk)) (hy:(AS.mk f hp).ev y=some q) (hob:hp id=some ob) (bX:ob.aN=aN) (hmt:ob.mt=true) (happ:ob.app=true) (hel:ob.elem=e) (hsz:ob.sz=sz) (hr:ob.rows=l.map g) (hcv:Cv hp q (aH sz g m)) (hl:l++m=l') (hk0:kk=l.length) (h1:∀ a,iW (g a)=true) (hfit:l'.length<=68719476736)
    (hk:∀ ver',kp (upd hp id (some ⟨e,sz,true,true,ver',l'.map g⟩))) (a:cB vs) (h:∀ ver',k2 (.sl id ver' 0 l'.length) (upd hp id (some ⟨e,sz,true,true,ver',l'.map g⟩))) :
    Ee id0 vs (λOut=>(dW P tb->bY P o ⟨f,hp⟩ no any Out)/\∀ v H',Out v H'->kp H') k2 :=
  .mk _ ⟨λht=>kQ .any ho (ht.qJ hT) (ht.MV hz hz2 hz3) (ht.AT hb).1 (ht.AT hb).2 hx hy hob bX hmt happ hel hsz hr hk0 hcv h1 hl hfit,by rintro _ _ ⟨v',-,rfl,rfl⟩;exact hk v'⟩ (by rintro _ _ ⟨v',-,rfl,rfl⟩;exact h v') a
theorem aGL {m id aN row off:Nat} {b:Bool} {el sz ve:Nat} {mt app:Bool} {rows base:List (List AV)} {r:List AV} {q:AV} (ho:o.op=.store T x y) (hT:dR tb.sh T=some (m,b)) (hx:(AS.mk f hp).ev x=some (.pt id aN row off)) (hy:(AS.mk f hp).ev y=some q)
    (hob:hp id=some ⟨el,sz,mt,app,ve,rows⟩) (hv:ve=aN) (hmt:mt=true) (hr:rows[row]?=some r) (hf:(Nat.beq q.cells.length m && (Nat.ble (off+m) r.length && iW q.cells))=true) (hb:∀ c,rows.set row c=base.set row c)
    (hk:∀ c,kp (upd hp id (some ⟨el,sz,mt,app,ve,base.set row c⟩))) (a:cB vs) (h:qQ (putRow r off q.cells) λc=>k2 (.sc undef) (upd hp id (some ⟨el,sz,mt,app,ve,base.set row c⟩))) :
    Ee id0 vs (λOut=>(dW P tb->bY P o ⟨f,hp⟩ no any Out)/\∀ v H',Out v H'->kp H') k2:=by
  rw [Bool.and_eq_true,Bool.and_eq_true] at hf
  refine .mk _ ⟨λht=>bY.eX (fC ho (ht.b.oQ hT) hx hy hob hv hmt hr (Nat.eq_of_beq_eq_true hf.1) hf.2.1 hf.2.2) (λ_ h=>h) (λ_ _=>trivial),?_⟩ ?_ a
  · rintro _ _ ⟨rfl,rfl⟩;simp only [hb];exact hk _
  · rintro _ _ ⟨rfl,rfl⟩;simp only [hb];exact pU h
theorem aCT {α:Type} {m id aN row off:Nat} {b:Bool} {el sz ve:Nat} {mt app:Bool} {l l':List α} {g:α->List AV} {v':α} {r:List AV} {q:AV} (ho:o.op=.store T x y) (hT:dR tb.sh T=some (m,b)) (hx:(AS.mk f hp).ev x=some (.pt id aN row off)) (hy:(AS.mk f hp).ev y=some q)
    (hob:hp id=some ⟨el,sz,mt,app,ve,l.map g⟩) (hl:l.set row v'=l') (hr:(l.map g)[row]?=some r) (hq:putRow r off q.cells=g v') (hv:ve=aN) (hmt:mt=true) (hf:(Nat.beq q.cells.length m && (Nat.ble (off+m) r.length && iW q.cells))=true)
    (hk:kp (upd hp id (some ⟨el,sz,mt,app,ve,l'.map g⟩))) (a:cB vs) (h:l'.length=l.length->k2 (.sc undef) (upd hp id (some ⟨el,sz,mt,app,ve,l'.map g⟩))) :
    Ee id0 vs (λOut=>(dW P tb->bY P o ⟨f,hp⟩ no any Out)/\∀ v H',Out v H'->kp H') k2:=by
  rw [Bool.and_eq_true,Bool.and_eq_true] at hf
  refine .mk _ ⟨λht=>bY.eX (fC ho (ht.b.oQ hT) hx hy hob hv hmt hr (Nat.eq_of_beq_eq_true hf.1) hf.2.1 hf.2.2) (λ_ h=>h) (λ_ _=>trivial),?_⟩ ?_ a
  · rintro _ _ ⟨rfl,rfl⟩;simp only [hq,jB hl];exact hk
  · rintro _ _ ⟨rfl,rfl⟩;simp only [hq,jB hl];exact h (by rw [<- hl,List.length_set])
theorem X4 {id aN:Nat} {ob:bH} {l l':List Int} {i v w:Int} (ho:o.op=.store T x y) (hT:dR tb.sh T=some (1,false)) (hx:(AS.mk f hp).ev x=some (.pt id aN 0 i.toNat)) (hy:(AS.mk f hp).ev y=some (int v)) (hob:hp id=some ob) (bX:ob.aN=aN) (hmt:ob.mt=true) (hr:ob.rows=[l.map int]) (h:ix l i=some w) (hl:l.set i.toNat v=l')
    (hk:kp (upd hp id (some { ob with rows:=[l'.map int] }))) (a:cB vs) (g:k2 (.sc undef) (upd hp id (some { ob with rows:=[l'.map int] }))) :
    Ee id0 vs (λOut=>(dW P tb->bY P o ⟨f,hp⟩ no any Out)/\∀ v H',Out v H'->kp H') k2 :=
  .mk _ ⟨λht=>bY.eX (aU3 ho (ht.b.oQ hT) hx hy hob bX hmt hr h hl) (λ_ h=>h) (λ_ _=>trivial),by rintro _ _ ⟨rfl,rfl⟩;exact hk⟩ (by rintro _ _ ⟨rfl,rfl⟩;exact g) a
theorem aBY {α β:Type} {p:α⊕β->Prop} (h1:∀ a,p (.inl a)) (h2:∀ b,p (.inr b)):∀ x,p x:=λx=>by cases x with | inl a=>exact h1 a | inr b=>exact h2 b
theorem aFT {α:Type} {n:Nat} {a:α} {l:List α} (e:List.replicate n a=l):n=l.length:=by rw [<- e,List.length_replicate]
end
def notP (P:Program) (t:TypeId):Bool:=match P.underlying t with
  | some d=>DC d
  | none=>false
theorem aFS {P:Program} {t:TypeId} (h:notP P t=true):∃ d,P.underlying t=some d/\DC d=true:=by
  unfold notP at h
  split at h
  · exact ⟨_,by assumption,h⟩
  · cases h
theorem IR {P:Program} {o:Oper} {S:AS} {T:TypeId} {x:Operand} {t:TypeId} {v:AV} (ho:o.op=.typeAssert x T t true) (hd:notP P t=true) (hx:S.ev x=some (.gB t v)):bW P o S (.bD [v,aI true]):=by
  obtain ⟨d,h1,h2⟩:=aFS hd;exact aEX ho h1 h2 hx
theorem K9 {P:Program} {o:Oper} {S:AS} {T:TypeId} {x:Operand} {t tx:TypeId} {v:AV} (ho:o.op=.typeAssert x T t true) (hd:notP P t=true) (hx:S.ev x=some (.gB tx v)) (hne:Nat.beq tx t=false) (hz:HY P t=true):bW P o S (.bD [.agg [],aI false]):=by
  obtain ⟨d,h1,h2⟩:=aFS hd;exact KD ho h1 h2 hx hne hz
structure rU (P:Program) (k:FuncId) (el sz:Nat) {α:Type} (F:α->List AV):Prop where
  bC:bC P k=true
  pc:∀ {H:AH} {id:Nat} {l:List α},H id=none->l.length<=68719476736->PC P k [aH sz F l] H (λy H'=>∃ aN,y=.sl id aN 0 l.length/\H'=upd H id (some ⟨el,sz,true,true,aN,l.map F⟩))
section
variable {P:Program} {tb:gT} {o:Oper} {f:Nat->Option AV} {hp:AH} {x fo:Operand} {vs:List (Nat×Nat)} {kp:AH->Prop} {k2:AV->AH->Prop}
theorem aHH {k:FuncId} {el sz id:Nat} {α:Type} {F:α->List AV} {l:List α} {y0:AV} {ts:Array TypeId} (ho:o.op=.call { callee:=.value fo,args:=[x].toArray,argTypes:=ts }) (hf:(AS.mk f hp).ev fo=some (.fn (.func k) [] [])) (hx:(AS.mk f hp).ev x=some y0)
    (c:@rU P k el sz α F) (hc:Cv hp y0 (aH sz F l)) (hid:hp id=none) (hl:l.length<=68719476736) (hk:∀ aN,kp (upd hp id (some ⟨el,sz,true,true,aN,l.map F⟩))) (a:cB vs)
    (g:∀ aN,k2 (.sl id aN 0 l.length) (upd hp id (some ⟨el,sz,true,true,aN,l.map F⟩))) :
    Ee id vs (λOut=>(dW P tb->bY P o ⟨f,hp⟩ no any Out)/\∀ v H',Out v H'->kp H') k2 :=
  .mk _ ⟨λht=>eO ho hf (.cons hx .nil) c.bC (jD (c.pc (id:=id) (l:=l) hid hl) (.cons hc .nil)),by rintro _ _ ⟨aN,rfl,rfl⟩;exact hk aN⟩ (by rintro _ _ ⟨aN,rfl,rfl⟩;exact g aN) a
end
theorem aV {p:Prop} (h:p:=by first | exact trivial | ((repeat (first | exact trivial | refine ⟨rfl,?_⟩));done) | fail):p:=h
theorem aL {p:Prop} (h:p:=by first | rfl | exact Eq.symm (by assumption) | exact (iD (by assumption) rfl).symm | exact aFT (by assumption) | exact (iD (by assumption) (iD (by assumption) rfl)).symm | exact (iD (by assumption) (iD (by assumption) (iD (by assumption) rfl))).symm | exact (iD (by assumption) (Eq.symm (aFT (by assumption)))).symm):p:=h
theorem aX {p:Prop} (h:p:=by first | assumption | exact iE (by assumption) (by assumption) | exact iE (iE (by assumption) (by assumption)) (by assumption)):p:=h
theorem aR {p:Prop} (h:p:=by first | rfl | exact lD (by assumption) | exact gN (by assumption) (aP.dA _) | exact dN (by assumption) | exact dN (iE (by assumption) (by assumption)) | exact dN (iE (iE (by assumption) (by assumption)) (by assumption))):p:=h
theorem aC {p:Prop} (h:p:=by first | exact .refl _ | ((repeat' (first | exact .refl _ | exact bT.nil | exact Cv.nil _ | refine pZ ?_ (aP.dA _) | refine bT.cons ?_ ?_ | refine bT.agg ?_ | refine bT.bD ?_ | exact iT.nil | refine iT.cons ?_ ?_ | refine zK ?_ | exact dZ rfl rfl rfl rfl rfl aL | exact kJ aL | refine qI rfl rfl rfl rfl rfl aL (by assumption) ?_));done) | fail):p:=h
theorem aY {p:Prop} (h:p:=by first | exact λ_ _=>.refl _ | (rintro _ rfl;(repeat' (first | exact .refl _ | exact bT.nil | exact Cv.nil _ | refine pZ ?_ (aP.dA _) | refine bT.cons ?_ ?_ | refine bT.agg ?_ | refine bT.bD ?_ | exact iT.nil | refine iT.cons ?_ ?_ | refine zK ?_ | exact dZ rfl rfl rfl rfl rfl aL | exact kJ aL | refine qI rfl rfl rfl rfl rfl aL (by assumption) ?_));done) | (intro H hH;(repeat' (first | exact .refl _ | exact bT.nil | exact Cv.nil _ | refine pZ ?_ (aP.dA _) | refine bT.cons ?_ ?_ | refine bT.agg ?_ | refine bT.bD ?_ | exact iT.nil | refine iT.cons ?_ ?_ | refine zK ?_ | exact dZ (by first | rfl | exact (hH _ (by decide)).trans rfl) rfl rfl rfl rfl aL | exact kJ aL | refine qI (by first | rfl | exact (hH _ (by decide)).trans rfl) rfl rfl rfl rfl aL (by assumption) ?_));done) | fail):p:=h
theorem aJ {p:Prop} (h:p:=by first | ((refine ⟨?_,?_⟩ <;> (repeat (first | exact trivial | refine ⟨⟨_,rfl,.refl _⟩,?_⟩ | refine ⟨⟨_,rfl,aC⟩,?_⟩ | refine ⟨⟨_,rfl,⟨rfl,aC⟩⟩,?_⟩)));done) | fail):p:=h
theorem aK {p:Prop} (h:p:=by first | exact λ_=>trivial | exact λ_=>⟨rfl,trivial⟩ | exact λ_=>⟨rfl,rfl,trivial⟩ | exact λ_=>⟨rfl,rfl,rfl,trivial⟩ | exact λ_=>⟨rfl,rfl,rfl,rfl,trivial⟩):p:=h
theorem aO {p:Prop} (h:p:=by first | exact trivial | exact ⟨rfl,trivial⟩ | exact ⟨rfl,rfl,trivial⟩ | exact ⟨rfl,rfl,rfl,trivial⟩ | exact ⟨rfl,rfl,rfl,rfl,trivial⟩):p:=h
theorem aZ {p:Prop} (h:p:=by repeat (first | exact ZL.nil | refine ZL.cons ?_ ?_ | exact .sc _ | exact .nil _)):p:=h
theorem V2 {i v o k q:Nat} {r:List AV} (h:k=q):AV.bD (.sl i v o k :: r)=.bD (.sl i v o q :: r):=by rw [h]
theorem au {p:Prop} (h:p:=by
  repeat' (first
    | ((conv=>whnf);first
      | refine aBY ?_ ?_
      | intro _
      | (show kU _ _ _ _;refine kU.mk ?_ rfl aV)
      | (show oF _ _ _ _ _;refine oF.mk ?_ ?_ rfl aV)
      | (show EJ _ _;exact EJ.mk aJ aV)
      | (show Ek _ _ _;refine Ek.mk ?_ (by kernel_rfl) aV)
      | (show Ev _ (λv=>∀ H,H=_->_->_) _;first
        | (apply aA8 ;(iterate 5 exact rfl);exact aR;exact aV)
        | (apply YL ;(iterate 4 exact rfl);exact aR;exact aV)
        | (apply aF1 ;(iterate 6 exact rfl);exact aX;exact aV)
        | (apply aDA ;(focus (assumption));(iterate 6 exact rfl);exact aV)
        | (apply aBD ;(focus (assumption));(iterate 6 exact rfl);exact aV)
        | (apply aGT ;(iterate 5 exact rfl);exact aR;exact aV)
        | (apply aFX ;(iterate 4 exact rfl);(focus (rfl));(iterate 3 exact rfl);(focus (first | exact List.length_map _ | exact BM | rfl));exact aX;exact aL;exact aV)
        | (apply YD ;(iterate 4 exact rfl);(focus (rfl));(iterate 3 exact rfl);(focus (decide));exact aV)
        | (apply Z4 ;(iterate 4 exact rfl);(focus (rfl));(iterate 3 exact rfl);(focus (assumption));exact aV)
        | refine Ev.mk _ (λH hH ht=>IR rfl (by kernel_rfl) rfl) ?_ aV
        | refine Ev.mk _ (λH hH ht=>K9 rfl (by kernel_rfl) rfl rfl (by kernel_rfl)) ?_ aV
        | refine Ev.mk _ (λH hH ht=>dK (IY rfl (by kernel_rfl) rfl rfl) (congrArg aI (by assumption))) ?_ aV
        | refine Ev.mk _ (λH hH ht=>MF ht rfl rfl (by kernel_rfl) rfl rfl (by repeat (first | exact .nil _ | refine .cons (.int (by kernel_rfl)) (by kernel_rfl) ?_)) ((congrArg Bool.not (A11_Int.eqv _ _)).trans (by assumption))) ?_ aV
        | refine Ev.mk _ (λH hH ht=>KR rfl (by kernel_rfl) rfl rfl) ?_ aV
        | refine Ev.mk _ (λH hH ht=>L8 rfl (by kernel_rfl) rfl rfl) ?_ aV
        | refine Ev.mk _ (λH hH ht=>MP rfl (by kernel_rfl) rfl) ?_ aV
        | refine Ev.mk _ (λH hH ht=>yS rfl rfl rfl (by assumption)) ?_ aV
        | refine Ev.mk _ (λH hH ht=>qN rfl rfl rfl (by assumption)) ?_ aV
        | refine Ev.mk _ (λH hH ht=>I9 rfl rfl rfl rfl (by assumption)) ?_ aV
        | refine Ev.mk _ (λH hH ht=>FB rfl rfl rfl (by assumption) (by assumption)) ?_ aV
        | refine Ev.mk _ (λH hH ht=>FO rfl rfl rfl (by assumption) (by assumption)) ?_ aV
        | refine Ev.mk _ (λH hH ht=>NA rfl rfl rfl (by assumption)) ?_ aV
        | refine Ev.mk _ (λH hH ht=>NI rfl rfl rfl (by assumption)) ?_ aV
        | refine Ev.mk _ (λH hH ht=>GH rfl rfl rfl (by assumption) (by assumption)) ?_ aV
        | refine Ev.mk _ (λH hH ht=>H8 rfl rfl rfl (by assumption) (by assumption)) ?_ aV
        | refine Ev.mk _ (λH hH ht=>dK (K5 rfl rfl rfl) (congrArg aI (by assumption))) ?_ aV
        | refine Ev.mk _ (λH hH ht=>dK (MI rfl (by kernel_rfl) rfl rfl) (congrArg aI (by assumption))) ?_ aV
        | refine Ev.mk _ (λH hH ht=>NY rfl (by kernel_rfl) rfl) ?_ aV
        | refine Ev.mk _ (λH hH ht=>IP rfl (by kernel_rfl) rfl rfl (pJ (by assumption)).1 (pJ (by assumption)).2) ?_ aV)
      | (show Ev _ _ _;first
        | (apply WS ;(iterate 5 exact rfl);exact aR;(focus (decide));exact aV)
        | (apply aEN ;(iterate 4 exact rfl);exact aR;(focus (decide));exact aV)
        | (apply aAN ;(iterate 6 exact rfl);exact aX;(focus (decide));exact aV)
        | (apply aAK ;(focus (assumption));(iterate 6 exact rfl);(focus (decide));exact aV)
        | (apply aB7 ;(focus (assumption));(iterate 6 exact rfl);(focus (decide));exact aV)
        | (apply aDI ;(iterate 5 exact rfl);exact aR;(focus (decide));exact aV)
        | (apply aGW ;(iterate 4 exact rfl);(focus (rfl));(iterate 3 exact rfl);(focus (first | exact List.length_map _ | exact BM | rfl));exact aX;exact aL;(focus (decide));exact aV)
        | (apply aHU ;(iterate 4 exact rfl);(focus (rfl));(iterate 3 exact rfl);(iterate 2 (focus (decide)));exact aV)
        | (apply aB4 ;(iterate 4 exact rfl);(focus (rfl));(iterate 3 exact rfl);(focus (assumption));(focus (decide));exact aV)
        | refine Ev.mk _ (λH hH ht=>IR rfl (by kernel_rfl) rfl) ?_ aV
        | refine Ev.mk _ (λH hH ht=>K9 rfl (by kernel_rfl) rfl rfl (by kernel_rfl)) ?_ aV
        | refine Ev.mk _ (λH hH ht=>dK (IY rfl (by kernel_rfl) rfl rfl) (congrArg aI (by assumption))) ?_ aV
        | refine Ev.mk _ (λH hH ht=>MF ht rfl rfl (by kernel_rfl) rfl rfl (by repeat (first | exact .nil _ | refine .cons (.int (by kernel_rfl)) (by kernel_rfl) ?_)) ((congrArg Bool.not (A11_Int.eqv _ _)).trans (by assumption))) ?_ aV
        | refine Ev.mk _ (λH hH ht=>KR rfl (by kernel_rfl) rfl rfl) ?_ aV
        | refine Ev.mk _ (λH hH ht=>L8 rfl (by kernel_rfl) rfl rfl) ?_ aV
        | refine Ev.mk _ (λH hH ht=>MP rfl (by kernel_rfl) rfl) ?_ aV
        | refine Ev.mk _ (λH hH ht=>yS rfl rfl rfl (by assumption)) ?_ aV
        | refine Ev.mk _ (λH hH ht=>qN rfl rfl rfl (by assumption)) ?_ aV
        | refine Ev.mk _ (λH hH ht=>I9 rfl rfl rfl rfl (by assumption)) ?_ aV
        | refine Ev.mk _ (λH hH ht=>FB rfl rfl rfl (by assumption) (by assumption)) ?_ aV
        | refine Ev.mk _ (λH hH ht=>FO rfl rfl rfl (by assumption) (by assumption)) ?_ aV
        | refine Ev.mk _ (λH hH ht=>NA rfl rfl rfl (by assumption)) ?_ aV
        | refine Ev.mk _ (λH hH ht=>NI rfl rfl rfl (by assumption)) ?_ aV
        | refine Ev.mk _ (λH hH ht=>GH rfl rfl rfl (by assumption) (by assumption)) ?_ aV
        | refine Ev.mk _ (λH hH ht=>H8 rfl rfl rfl (by assumption) (by assumption)) ?_ aV
        | refine Ev.mk _ (λH hH ht=>dK (K5 rfl rfl rfl) (congrArg aI (by assumption))) ?_ aV
        | refine Ev.mk _ (λH hH ht=>dK (MI rfl (by kernel_rfl) rfl rfl) (congrArg aI (by assumption))) ?_ aV
        | refine Ev.mk _ (λH hH ht=>NY rfl (by kernel_rfl) rfl) ?_ aV
        | refine Ev.mk _ (λH hH ht=>IP rfl (by kernel_rfl) rfl rfl (pJ (by assumption)).1 (pJ (by assumption)).2) ?_ aV)
      | (show Ed _ _ _ _ _;refine Ed.mk ?_ rfl aY aV)
      | (show Em _ _;refine Em.mk ?_ aV)
      | (show BK _ _ _ _;refine BK.mk ?_ (by first | exact rfl | decide) aV)
      | (show Es _ _ _;refine Es.mk aZ ⟨by assumption,by assumption⟩ ?_)
      | (show E0 _ _;exact E0.mk aC aV)
      | (show Ei _ _ _ _ _;first
        | exact Ei.mk rfl aV aV
        | exact Ei.mk (V2 aL) aV aV)
      | (show EL _ _ _;refine EL.mk ?_ aJ aV)
      | (show Ec _ _ _;refine Ec.mk ?_ aC aV)
      | (show Et _ (∀ H,H=_->_->_) _;(apply K7 (hp:=H0);(iterate 7 exact rfl);(focus (kernel_rfl));(iterate 2 exact rfl);exact aV))
      | (show Et _ (∀ H,_) _;first
        | (apply K7 (hp:=H0);(iterate 7 exact rfl);(focus (kernel_rfl));(iterate 2 exact rfl);exact aV)
        | refine Et.mk aO ?_ aV)
      | (show Et _ _ _;refine Et.mk aO ?_ aV)
      | (show Ee _ _ _ _;first
        | (apply aHH ;(iterate 3 exact rfl);exact YY;exact aC;exact rfl;(focus (assumption));exact aK;exact aV)
        | (apply aDQ ;(iterate 9 exact rfl);exact aC;(focus (first | exact aP.one | exact λ_=>rfl));(focus (assumption));exact aK;exact aV)
        | (apply Z5 ;(iterate 15 exact rfl);exact aC;(focus (assumption));exact aL;(focus (first | exact aP.one | exact λ_=>rfl));(focus (assumption));exact aK;exact aV)
        | (apply X4 ;(iterate 8 exact rfl);exact aX;(focus (assumption));exact aO;exact aV)
        | (apply aCT ;(iterate 5 exact rfl);(focus (assumption));exact aR;(iterate 4 exact rfl);exact aO;exact aV)
        | (apply aGL ;(iterate 7 exact rfl);exact aR;exact rfl;(focus (first | exact λ_=>PK | exact λ_=>rfl));exact aK;exact aV))
      | refine E2.mk ?_ ?_
      | exact True.intro))):p:=h
section
variable {P:Program} {n:NT} {S:AS} {o:Oper} {T K E:TypeId} {x y:Operand}
theorem aKM {ks:List Int} {vs:List AV} {k:Int} {z:Value} (ho:o.op=.lookup T x y true) (hT:P.underlying T=some (.map K E)) (hK:P.underlying K=some (.int .i64))
    (hx:S.ev x=some (.mp ks vs)) (hy:S.ev y=some (.sc (.int .i64 k))) (hj:fix k ks=none) (hz:(P.info? E).bind (·.zero)=some (.agg #[z])):bW P o S (.bD [.agg [.sc z],.sc (.bool false)]) :=
  iV λs ρ _ h=>by
    have h1:=h x (by simp [ho,Op.operands]) _ hx
    have h2:=(h y (by simp [ho,Op.operands]) _ hy).fF
    generalize hu:ρ x=u at h1
    cases h1 with
    | mp hI hb hk hl hvv =>
      rename_i b clock es
      have g2:=QL k es.toList ks 0 hk hj
      refine ⟨.tuple #[.agg #[z],.bool false],.bD rfl λi y w hy hw=>?_,?_⟩
      · cases i with
        | zero =>
          simp at hy hw;subst hy hw
          exact .agg rfl λi y w hy hw=>by
            cases i with
            | zero=>simp at hy hw;subst hy hw;exact .sc _
            | succ i=>simp at hy
        | succ i=>cases i with
          | zero=>simp at hy hw;subst hy hw;exact .sc _
          | succ i=>simp at hy
      · have hc:=GZ (P:=P) (K:=K) (b:=es.isEmpty) (n:=9999) (v:=.int .i64 k) hK s.w
        simp only [execOp,ho,hu,h2,Instr.lookup,Sem.run_bind,run_underlying hT,Result.andThen_ok,run_getObj_map s.w _ _ _ hb,hc,Instr.findKey,run_underlying hK,g2,Sem.run_pure,aFB hz]
        rfl
theorem aPI {k a b c d:Int} (h:k≠a/\k≠b/\k≠c/\k≠d):fix k [a,b,c,d]=none:=by
  obtain ⟨h1,h2,h3,h4⟩:=h
  simp [fix,h1,h2,h3,h4]
end
theorem nA {p:Prop} (h:p:=by repeat' (first | exact vO _ | exact HV _ | exact SO _ | exact TB _ _ | exact YM | exact aP.dX _ | refine aCD ?_ ?_ | refine qL ?_ _ | exact wC | exact ZT | exact aDU | exact aB2 _ | refine aBZ ?_ | intro _)):p:=h
theorem aQ9 {P:Program} {n:NT} {c:Code} {cs:List Code} {f:Nat->Option AV} {hp:AH} {Q:Go.Exit->AS->Prop} {e:TypeId} {sz:Nat} {zs:List Value} (hz:iR P e=some (sz,zs)) (t id:Nat) (h:f t=some (.sc (.slice none 0 0))) (hid:hp id=none)
    (h1:∀ aN,dF P n Q (c :: cs) ⟨upd f t (some (.sl id aN 0 0)),upd hp id (some ⟨e,sz,true,true,aN,[]⟩)⟩):dF P n Q (c :: cs) ⟨f,hp⟩:=WO t id e sz h hid h1
theorem vD {P:Program} {k T el sz b:Nat} {zs:List Value} {α:Type} {F:α->List AV} {fn:Func} (hf:P.funcs[k]?=some fn) (hc:bC P k=true) (hu:P.underlying T=some (.slice el)) (hz:iR P el=some (sz,zs)) (hy:lX P el=some b) (h1:∀ a,iW (F a)=true:=by first | exact λ_=>rfl | exact aP.one)
    (h:P.funcs[k]?=some fn->P.underlying T=some (.slice el)->iR P el=some (sz,zs)->lX P el=some b->(∀ a,iW (F a)=true)->∀ (H:AH) (id:Nat) (l:List α),H id=none->l.length<=68719476736->PC P k [aH sz F l] H (λy H'=>∃ aN,y=.sl id aN 0 l.length/\H'=upd H id (some ⟨el,sz,true,true,aN,l.map F⟩)):=by
      intro hf hu hz hy h1 H id l hid hl
      refine aCN (c:=_) hf rfl rfl ?_;intro Q hret hnorm
      repeat (refine BG ?_)
      refine DK ?_;intro K hK
      refine st rfl rfl rfl (uK rfl rfl) ?_
      refine B7 (hK _ ?_)
      repeat (refine BG ?_)
      refine DK ?_;intro K hK
      refine st rfl rfl rfl (mK rfl rfl) ?_
      refine se rfl rfl rfl (bY.eX (aIY (xs:=l.map _) (sz:=_) rfl hu rfl rfl) (λ_ h=>h) (λ_ _=>trivial)) ?_;rintro _ _ ⟨b,rfl,hb,rfl⟩
      refine B7 (hK _ ?_)
      refine R5 (b:=b) rfl ?_ ?_
      · intro h;subst h
        have hl0:l=[]:=List.map_eq_nil_iff.1 (hb rfl)
        subst hl0
        repeat (refine BG ?_)
        refine DK ?_;intro K hK
        refine st rfl rfl rfl (uK rfl rfl) ?_
        refine B7 (hK _ ?_)
        refine aQ9 hz 2 id rfl hid ?_;intro v
        refine MU (hret _ _ _ (.tmp rfl .nil) (λ_ _ h=>h) ?_)
        exact ⟨v,rfl,rfl⟩
      · intro h;subst h
        refine Q7 ?_
        repeat (refine BG ?_)
        refine DK ?_;intro K hK
        refine se rfl rfl rfl (aT9 (ps:=[]) id [] .any rfl hu hz .nil rfl rfl rfl rfl) ?_;rintro _ _ ⟨v,-,rfl,rfl⟩
        refine st rfl rfl rfl (mK rfl rfl) ?_
        refine se rfl rfl rfl (kQ (l:=[]) (m:=l) (l':=l) .any rfl hu hz hy rfl rfl rfl (upd_same _ _ _) rfl rfl rfl rfl rfl rfl rfl (.refl _) h1 rfl hl) ?_;rintro _ _ ⟨v2,-,rfl,rfl⟩
        refine st rfl rfl rfl (uK rfl rfl) ?_
        refine B7 (hK _ ?_)
        refine MU (hret _ _ _ (.tmp rfl .nil) (λ_ _ h=>h) ?_)
        exact ⟨v2,rfl,wX⟩):rU P k el sz F:=⟨hc,λh2 h3=>h hf hu hz hy h1 _ _ _ h2 h3⟩
end Go.Pv
