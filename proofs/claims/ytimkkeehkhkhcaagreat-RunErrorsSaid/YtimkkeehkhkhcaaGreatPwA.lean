/- Walks told by trees: what a piece of code computes, with what the walk wants to know; one proof for all. -/
import Derived.Test.YtimkkeehkhkhcaaGreatPvAM
set_option linter.unusedVariables false
set_option linter.unusedSimpArgs false
namespace Go.Pv
inductive Ix:Type 1
  | b (A:Type)
  | s (A:Type) (r:Ix)
@[reducible] def Ix.d:Ix->Type
  | .b A=>A
  | .s A r=>A⊕r.d
def iter {V J:Type} (f:V->Option (V⊕J)):Nat->V->Option J
  | 0,_=>none
  | n+1,v=>(f v).bind (sel λv'=>iter f n v')
inductive OE
  | kp (id:Nat) (rows:List (List AV))
  | fz (id:Nat) (rows:List (List AV))
  | nw (id T sz:Nat) (rows:List (List AV))
abbrev PQ (P:Program) {B:Type} (o:Option B) (k:FuncId) (args:List AV) (V:B->AV):Prop:=∀ r:B,o=some r->PP P k args (λy=>y=V r)
inductive WT (P:Program):Ix->Type 1
  | ret {A:Type} (a:A):WT P (.b A)
  | brk {A:Type} {r:Ix} (a:A):WT P (.s A r)
  | esc {A:Type} {r:Ix} (t:WT P r):WT P (.s A r)
  | fl {i:Ix}:WT P i
  | bI {i:Ix} (d:Nat) (e:Int) (k:Int->WT P i):WT P i
  | bB {i:Ix} (d:Nat) (e:Bool) (k:Bool->WT P i):WT P i
  | kI {i:Ix} (d:Nat) (e:Int) (t:WT P i):WT P i
  | kB {i:Ix} (d:Nat) (e:Bool) (t:WT P i):WT P i
  | bV {i:Ix} {B:Type} (d:Nat) (av:B->AV) (e:B) (k:B->WT P i):WT P i
  | ifs {i:Ix} (ds:List Nat) (b:Bool) (x y:WT P i):WT P i
  | az {i:Ix} (ds:List Nat) (b:Bool) (k:WT P i):WT P i
  | an {i:Ix} (ds:List Nat) (b:Bool) (k:WT P i):WT P i
  | as {i:Ix} (p:Prop) (hd:Decidable p) (k:WT P i):WT P i
  | ix {i:Ix} {B:Type} (d:Nat) (g:B->List AV) (l:List B) (j:Int) (k:B->WT P i):WT P i
  | lV {i:Ix} {B:Type} (d:Nat) (g:B->List AV) (c:B->List AV) (h:∀ v,g v=c v) (l:List B) (j:Int) (k:B->WT P i):WT P i
  | ln {i:Ix} {B:Type} (d:Nat) (g:B->List AV) (l:List B) (t:WT P i):WT P i
  | al {i:Ix} (id:Nat) (t:WT P i):WT P i
  | jJ {i:Ix} (id:Nat) (t:WT P i):WT P i
  | cv {i:Ix} (d:Nat) (v:AV) (t:WT P i):WT P i
  | gv {i:Ix} (d:Nat) (t:WT P i):WT P i
  | to {i:Ix} (d:Nat) (v:AV) (t:WT P i):WT P i
  | cl {i:Ix} {B:Type} {k:FuncId} {args:List AV} {V:B->AV} (d:Nat) (o:Option B) (hc:bD P k=true) (C:PQ P o k args V) (t:B->WT P i):WT P i
  | mW {i:Ix} {B:Type} {k:FuncId} {args:List AV} {V:B->AV} (d:Nat) (o:Option B) (hc:bD P k=true) (C:PQ P o k args V) (hf:∀ r,nN (V r)=true) (t:B->WT P i):WT P i
  | jn {i:Ix} {B:Type} (q:Nat) (L M W:List Nat) (N:(Nat->Nat)->B->List (Nat×AV)) (O:(Nat->Nat)->B->List OE) (x:WT P (.b B)) (k:B->WT P i):WT P i
  | jS {i:Ix} {B:Type} (q:Nat) (L M W:List Nat) (N:(Nat->Nat)->B->List (Nat×AV)) (O:(Nat->Nat)->B->List OE) (x:WT P (.s B i)) (k:B->WT P i):WT P i
  | lp {i:Ix} {V:Type} (L M W:List Nat) (N:(Nat->Nat)->V->List (Nat×AV)) (O:(Nat->Nat)->V->List OE) (n:Nat) (v:V) (body:V->WT P (.s V i)):WT P i
  | un {i:Ix} (k:Nat) (t:WT P i):WT P i
  | wt {i:Ix} (d:Nat) (t:WT P i):WT P i
  | bl {i:Ix} {B:Type} (e:B) (k:B->WT P i):WT P i
  | bo {i:Ix} {B:Type} (o:Option B) (k:B->WT P i):WT P i
  | ge {i:Ix} (j id:Nat) (t:WT P i):WT P i
  | no {i:Ix} (d id e sz:Nat) (t:WT P i):WT P i
  | nc {i:Ix} (id0 row j id e sz:Nat) (t:WT P i):WT P i
  | dr {i:Ix} (rd kp:List (Nat×List Nat)) (dk eff pi:List Nat) (t:WT P i):WT P i
  | sp {i:Ix} (ds:List Nat) (x v:Int) (a b:WT P i):WT P i
  | sa {i:Ix} (ds:List Nat) (x v:Int) (a:WT P i):WT P i
  | ms {i:Ix} {B:Type} (j id:Nat) (g:B->List AV) (z0:B) (N:Int) (l:List B) (t:WT P i):WT P i
  | dg {i:Ix} (rd:List (Nat×List Nat)) (wr:List (Nat×Nat)) (t:WT P i):WT P i
  | iv {i:Ix} {B:Type} {T:TypeId} {nm:String} {g:FuncId} {fn:Func} (j:Nat) (hm:sU P T nm=some g) (hc:bD P g=true) (hf:P.funcs[g]?=some fn) (M W:List Nat) (V:(Nat->Nat)->B->AV) (O:(Nat->Nat)->B->List OE) (x:WT P (.b B)) (k:B->WT P i):WT P i
  | inl {i:Ix} {B:Type} {g:FuncId} {fn:Func} (j:Nat) (hc:bD P g=true) (hf:P.funcs[g]?=some fn) (M W:List Nat) (V:(Nat->Nat)->B->AV) (O:(Nat->Nat)->B->List OE) (x:WT P (.b B)) (k:B->WT P i):WT P i
def WT.run {P:Program}:{i:Ix}->WT P i->Option i.d
  | _,.ret a=>some a
  | _,.brk a=>Go.Pv.brk a
  | _,.esc t=>Go.Pv.esc t.run
  | _,.fl=>none
  | _,.bI _ e k=>bnd e λx=>(k x).run
  | _,.bB _ e k=>bnd e λx=>(k x).run
  | _,.kI _ _ t=>t.run
  | _,.kB _ _ t=>t.run
  | _,.bV _ _ e k=>bnd e λx=>(k x).run
  | _,.ifs _ b x y=>cond b x.run y.run
  | _,.az _ b k=>cZ (b=false) k.run
  | _,.an _ b k=>cZ (b=true) k.run
  | _,.as p hd k=>@cZ _ p hd k.run
  | _,.ix _ _ l j k=>(Go.Pv.ix l j).bind λx=>(k x).run
  | _,.lV _ _ _ _ l j k=>(Go.Pv.ix l j).bind λx=>(k x).run
  | _,.ln _ _ _ t=>t.run
  | _,.al _ t=>t.run
  | _,.jJ _ t=>t.run
  | _,.cv _ _ t=>t.run
  | _,.gv _ t=>t.run
  | _,.to _ _ t=>t.run
  | _,.cl _ o _ _ t=>o.bind λx=>(t x).run
  | _,.mW _ o _ _ _ t=>o.bind λx=>(t x).run
  | _,.jn _ _ _ _ _ _ x k=>x.run.bind λy=>(k y).run
  | _,.jS _ _ _ _ _ _ x k=>x.run.bind (sel λy=>(k y).run)
  | _,.lp _ _ _ _ _ n v body=>iter (λv=>(body v).run) n v
  | _,.un _ t=>t.run
  | _,.wt _ t=>t.run
  | _,.bl e k=>bnd e λx=>(k x).run
  | _,.bo o k=>o.bind λx=>(k x).run
  | _,.ge _ _ t=>t.run
  | _,.no _ _ _ _ t=>t.run
  | _,.nc _ _ _ _ _ _ t=>t.run
  | _,.dr _ _ _ _ _ t=>t.run
  | _,.inl _ _ _ _ _ _ _ x k=>x.run.bind λy=>(k y).run
  | _,.sp _ x v a b=>bnd (decide (x=v)) λz=>cond z a.run b.run
  | _,.sa _ x v a=>cZ (x=v) a.run
  | _,.dg _ _ t=>t.run
  | _,.ms _ _ _ _ _ _ t=>t.run
  | _,.iv _ _ _ _ _ _ _ _ x k=>x.run.bind λy=>(k y).run
abbrev FS:=Nat->Option AV
inductive Sk (P:Program):Ix->Type 1
  | fn {A:Type} (J:A->FS->AH->List (Nat×Nat)->Prop) (hJ:∀ {a f hp vs},J a f hp vs->dO vs/\J a f hp []):Sk P (.b A)
  | jn {A:Type} (J:A->FS->AH->Prop):Sk P (.b A)
  | jS {A:Type} {r:Ix} (J:A->FS->AH->Prop) (s:Sk P r):Sk P (.s A r)
  | blk {i:Ix} (id:Nat) (cs:List Code) (s:Sk P i):Sk P i
  | un {i:Ix} (k:Nat) (c:Code) (s:Sk P i):Sk P i
  | sc {i:Ix} (cs:List Code) (s:Sk P i):Sk P i
def QS (P:Program) (n:NT):{i:Ix}->Sk P i->i.d->Go.Exit->AS->Prop
  | _,.fn J _,a,e,S=>(e=.normal\/e=.ret)/\J a S.sl S.hp []
  | _,.jn J,a,e,S=>e=.normal/\J a S.sl S.hp
  | _,.jS J s,j,e,S=>match j with
    | .inl a=>e=.normal/\J a S.sl S.hp
    | .inr r=>e≠.normal/\QS P n s r e S
  | _,.blk id cs s,a,e,S=>match e with
    | .normal=>dI P n (QS P n s a) cs S
    | .exit i=>cond (Nat.beq i id) (dI P n (QS P n s a) cs S) (QS P n s a (.exit i) S)
    | e=>QS P n s a e S
  | _,.un k c s,a,e,S=>UQ P n c (QS P n s a) k e S
  | _,.sc cs s,a,e,S=>match e with
    | .normal=>dI P n (QS P n s a) cs S
    | .goto _=>False
    | e=>QS P n s a e S
def bG (rd:Nat->List Nat) (i k:Nat):Bool:=(rd i).any λq=>Nat.beq q k
inductive Mw
  | c (cs:List Code)
  | r (id:Nat) (l todo:List Oper) (cs:List Code)
  | e (id:Nat) (l:List Oper) (rd kp:Nat->List Nat) (pu:Nat->Bool) (pi:List Nat) (cs:List Code)
  | g (id:Nat) (l:List Oper) (rd:Nat->List Nat) (wr:Nat->Option Nat) (C j:Nat) (todo:List Oper) (cs:List Code)
def l5 (P:Program) (n:NT) {i:Ix} (t:WT P i) (s:Sk P i) (md:Mw) (S:AS):Prop :=
  ∀ r,t.run=some r->match md with
    | .c cs=>dI P n (QS P n s r) cs S
    | .r _ l todo cs=>∀ K:AS->Prop,(∀ S',dI P n (QS P n s r) cs S'->K S')->Rg P n l todo S K
    | .e _ l rd kp pu pi cs=>∀ K:AS->Prop,(∀ S',dI P n (QS P n s r) cs S'->K S')->DE P l rd kp pu K pi S
    | .g _ l rd wr C j todo cs=>∀ K:AS->Prop,(∀ S',dI P n (QS P n s r) cs S'->K S')->DG P (bG rd) wr C l K todo j S
inductive Em (vs:List (Nat×Nat)) (p:Prop):Prop
  | mk (h:p) (a:dO vs:=by repeat (first | exact trivial | refine ⟨rfl,?_⟩))
inductive kC {α:Type} (vs:List (Nat×Nat)) (x y:α) (p:Prop):Prop
  | mk (h:p) (e:x=y:=by exact rfl) (a:dO vs:=by repeat (first | exact trivial | refine ⟨rfl,?_⟩))
inductive z8 {α:Type} (vs:List (Nat×Nat)) (x y:α) (p:Prop):Prop
  | mk (h:p) (e:x=y:=by first | exact rfl | decide) (a:dO vs:=by repeat (first | exact trivial | refine ⟨rfl,?_⟩))
inductive nG {α:Type} (vs:List (Nat×Nat)) (x y:α) (p q:Prop):Prop
  | mk (h1:p) (h2:q) (e:x=y:=by exact rfl) (a:dO vs:=by repeat (first | exact trivial | refine ⟨rfl,?_⟩))
inductive E2 (p q:Prop):Prop
  | mk (h1:p) (h2:q)
inductive Ec (vs:List (Nat×Nat)) (c p:Prop):Prop
  | mk (h2:p) (h1:c:=by first | exact .refl _ | (repeat' (first | exact .refl _ | exact cO.nil | refine cO.cons ?_ ?_ | refine cO.agg ?_ | refine cO.aM ?_ | exact Cv.nil _ | exact gB rfl rfl rfl rfl rfl rfl))) (a:dO vs:=by repeat (first | exact trivial | refine ⟨rfl,?_⟩))
inductive Ed {α:Type} (vs:List (Nat×Nat)) (x y:α) (c p:Prop):Prop
  | mk (h2:p) (e:x=y:=by exact rfl) (h1:c:=by first | exact λ_ _=>.refl _ | (rintro _ rfl;repeat' (first | exact .refl _ | exact cO.nil | refine cO.cons ?_ ?_ | refine cO.agg ?_ | refine cO.aM ?_ | exact Cv.nil _ | exact gB rfl rfl rfl rfl rfl rfl))) (a:dO vs:=by repeat (first | exact trivial | refine ⟨rfl,?_⟩))
inductive Et (vs:List (Nat×Nat)) (c p:Prop):Prop
  | mk (h1:c) (h2:p) (a:dO vs:=by repeat (first | exact trivial | refine ⟨rfl,?_⟩))
inductive E0 (vs:List (Nat×Nat)) (c:Prop):Prop
  | mk (h1:c:=by first | exact .refl _ | (repeat' (first | exact .refl _ | exact cO.nil | refine cO.cons ?_ ?_ | refine cO.agg ?_ | refine cO.aM ?_ | exact Cv.nil _ | exact gB rfl rfl rfl rfl rfl rfl))) (a:dO vs:=by repeat (first | exact trivial | refine ⟨rfl,?_⟩))
inductive EJ (vs:List (Nat×Nat)) (c:Prop):Prop
  | mk (h:c:=by refine ⟨?_,?_⟩ <;> (repeat (first | exact trivial | refine ⟨⟨_,rfl,.refl _⟩,?_⟩))) (a:dO vs:=by repeat (first | exact trivial | refine ⟨rfl,?_⟩))
inductive EL (vs:List (Nat×Nat)) (c p:Prop):Prop
  | mk (g:p) (h:c:=by refine ⟨?_,?_⟩ <;> (repeat (first | exact trivial | refine ⟨⟨_,rfl,.refl _⟩,?_⟩))) (a:dO vs:=by repeat (first | exact trivial | refine ⟨rfl,?_⟩))
inductive Ev (vs:List (Nat×Nat)) (A:AV->Prop) (k:AV->Prop):Prop
  | mk (v:AV) (h:A v) (g:k v) (a:dO vs:=by repeat (first | exact trivial | refine ⟨rfl,?_⟩))
inductive Ek (vs:List (Nat×Nat)) (b:Bool) (p:Prop):Prop
  | mk (h:p) (e:b=true:=by kernel_rfl) (a:dO vs:=by repeat (first | exact trivial | refine ⟨rfl,?_⟩))
inductive Ee (id:Nat) (vs:List (Nat×Nat)) (A:(AV->AH->Prop)->Prop) (k:AV->AH->Prop):Prop
  | mk (Out:AV->AH->Prop) (h:A Out) (g:∀ v H',Out v H'->k v H') (a:dO vs:=by repeat (first | exact trivial | refine ⟨rfl,?_⟩))
inductive Eg (vs:List (Nat×Nat)) (A:aW->Prop) (k:aW->Prop):Prop
  | mk (ob:aW) (h:A ob) (g:k ob) (a:dO vs:=by repeat (first | exact trivial | refine ⟨rfl,?_⟩))
inductive Es (a b p:Prop):Prop
  | mk (h1:a) (h2:b) (h3:p)
inductive Ei (vs:List (Nat×Nat)) (x y:AV) (H:AH) (l:List (Nat×aW)):Prop
  | mk (e:x=y:=by exact rfl) (h:HK H l:=by repeat (first | exact trivial | refine ⟨rfl,?_⟩)) (a:dO vs:=by repeat (first | exact trivial | refine ⟨rfl,?_⟩))
theorem aMI.of {ws vs:List (Nat×Nat)} (h:dO (ws++vs)):dO vs:=dO.of h
section
variable {P:Program}
abbrev KT (P:Program):=∀ {i:Ix},WT P i->Sk P i->Mw->FS->AH->List (Nat×Nat)->Prop
def iT (f:FS):List Nat->AV->FS
  | [],_=>f
  | d :: ds,v=>iT (upd f d (some v)) ds v
def vr (H:AH) (id:Nat):Nat:=match H id with
  | some ob=>ob.aD
  | none=>0
def uV (hp:AH) (W:List Nat) (u:Nat->Nat) (id:Nat):Nat:=bif W.any (λk=>Nat.beq k id) then u id else vr hp id
def mR (u:Nat->Nat) (hp:AH):List OE->Option (List (Nat×aW))
  | []=>some []
  | .kp id rows :: r=>match hp id with
    | some ⟨el,sz,mt,app,ve,_⟩=>match mR u hp r with
      | some l=>some ((id,⟨el,sz,mt,app,ve,rows⟩) :: l)
      | none=>none
    | none=>none
  | .fz id rows :: r=>match hp id with
    | some ⟨el,sz,_,app,ve,_⟩=>match mR u hp r with
      | some l=>some ((id,⟨el,sz,false,app,ve,rows⟩) :: l)
      | none=>none
    | none=>none
  | .nw id T sz rows :: r=>match mR u hp r with
    | some l=>some ((id,⟨T,sz,true,true,u id,rows⟩) :: l)
    | none=>none
def JW {B:Type} (hp0:AH) (l:List (Nat×AV)) (m:List (Nat×aW)) (W:List Nat) (N:(Nat->Nat)->B->List (Nat×AV)) (O:(Nat->Nat)->B->List OE) (a:B) (f:FS) (hp:AH):Prop :=
  match mR (uV hp0 W (vr hp)) hp0 (O (uV hp0 W (vr hp)) a) with
  | some os=>wV hp f (N (uV hp0 W (vr hp)) a++l)/\vR hp (os++m)
  | none=>False
def tV {P:Program}:{i:Ix}->Sk P i->WT P i->FS->AH->List (Nat×Nat)->Prop
  | _,.fn J _,t,f,hp,vs=>match t with
    | .ret a=>J a f hp vs
    | _=>False
  | _,.jn J,t,f,hp,vs=>match t with
    | .ret a=>EJ vs (J a f hp)
    | _=>False
  | _,.jS J s,t,f,hp,vs=>match t with
    | .brk a=>EJ vs (J a f hp)
    | _=>False
  | _,_,_,_,_,_=>False
def o9 (K:KT P) (j:Nat):{i:Ix}->Sk P i->WT P i->FS->AH->List (Nat×Nat)->Prop
  | _,.blk id cs s,t,f,hp,vs=>match Nat.beq j id with
    | true=>K t s (.c cs) f hp vs
    | false=>o9 K j s t f hp vs
  | _,.un _ _ s,t,f,hp,vs=>o9 K j s t f hp vs
  | _,.sc _ s,t,f,hp,vs=>o9 K j s t f hp vs
  | _,.jS _ s,t,f,hp,vs=>match t with
    | .esc t'=>o9 K j s t' f hp vs
    | _=>False
  | _,_,_,_,_,_=>False
def o7:{i:Ix}->Sk P i->WT P i->FS->AH->List (Nat×Nat)->Prop
  | _,.fn J _,t,f,hp,vs=>match t with
    | .ret a=>J a f hp vs
    | _=>False
  | _,.blk _ _ s,t,f,hp,vs=>o7 s t f hp vs
  | _,.un _ _ s,t,f,hp,vs=>o7 s t f hp vs
  | _,.sc _ s,t,f,hp,vs=>o7 s t f hp vs
  | _,.jS _ s,t,f,hp,vs=>match t with
    | .esc t'=>o7 s t' f hp vs
    | _=>False
  | _,_,_,_,_,_=>False
def ER:List Oper->List Nat->List Nat
  | [],b=>b
  | o :: r,b=>ER r (b++[BE b b.length o.after.toList])
def SY (wr:List (Nat×Nat)) (i:Nat):Option Nat:=eZ wr i
def yP (K:KT P) (n:NT) {i:Ix} (t:WT P i) (s:Sk P i) (x:Code) (cs:List Code) (f:FS) (hp:AH) (vs:List (Nat×Nat)):Prop :=
  match x with
  | .region id ops false=>match ops.toList.all kN with
    | true=>K t s (.r id ops.toList ops.toList cs) f hp vs
    | false=>False
  | .region id ops true=>match t with
    | .dg rd wr t'=>Ek vs (D6 n ops.toList (ER ops.toList []) (bG (rl rd [])) (SY wr)) (∀ C,K t' s (.g id ops.toList (rl rd []) (SY wr) C 0 ops.toList cs) f hp [])
    | .dr rd kp dk eff pi t'=>Ek vs (AY n ops.toList (ER ops.toList []) (rl rd []) (rl kp dk) (λj=>!(eff.any λk=>Nat.beq k j)) pi) (K t' s (.e id ops.toList (rl rd []) (rl kp dk) (λj=>!(eff.any λk=>Nat.beq k j)) pi cs) f hp [])
    | _=>False
  | .block id c=>K t (.blk id cs s) (.c [c]) f hp vs
  | .exit j=>o9 K j s t f hp vs
  | .ret=>o7 s t f hp vs
  | .cond c x y=>match (AS.mk f hp).ev c with
    | some (.sc (.bool true))=>K t s (.c (x :: cs)) f hp vs
    | some (.sc (.bool false))=>K t s (.c (y :: cs)) f hp vs
    | _=>False
  | .scope c=>K t (.sc cs s) (.c [c]) f hp vs
  | .loop c=>match t with
    | .un k t'=>K t' (.un k c s) (.c [c]) f hp vs
    | .lp L M W N O _ v body=>sV f L λl=>qK hp M λm=>EL vs (JW hp l m W N O v f hp) (∀ v u,match mR (uV hp W u) hp (O (uV hp W u) v) with
      | some os=>K (body v) (.jS (JW hp l m W N O) s) (.c [c]) (kn (N (uV hp W u) v++l)) (hk (os++m)) []
      | none=>True)
    | _=>False
  | _=>False
def KU (K:KT P) (n:NT) {i:Ix} (t:WT P i) (s:Sk P i) (x:Code) (cs:List Code) (f:FS) (hp:AH) (vs:List (Nat×Nat)):Prop :=
  match x with
  | .seq a b=>K t s (.c (a :: b :: cs)) f hp vs
  | .skip=>K t s (.c cs) f hp vs
  | .label _=>K t s (.c cs) f hp vs
  | x=>match t with
    | .jn 0 L M W N O y k=>sV f L λl=>qK hp M λm=>nG vs () () (K y (.jn (JW hp l m W N O)) (.c [x]) f hp []) (∀ b u,match mR (uV hp W u) hp (O (uV hp W u) b) with
      | some os=>K (k b) s (.c cs) (kn (N (uV hp W u) b++l)) (hk (os++m)) []
      | none=>True)
    | .jn (q+1) L M W N O y k=>yP K n (.jn q L M W N O y k) s x cs f hp vs
    | .jS 0 L M W N O y k=>sV f L λl=>qK hp M λm=>nG vs () () (K y (.jS (JW hp l m W N O) s) (.c [x]) f hp []) (∀ b u,match mR (uV hp W u) hp (O (uV hp W u) b) with
      | some os=>K (k b) s (.c cs) (kn (N (uV hp W u) b++l)) (hk (os++m)) []
      | none=>True)
    | .jS (q+1) L M W N O y k=>yP K n (.jS q L M W N O y k) s x cs f hp vs
    | t=>yP K n t s x cs f hp vs
def AU {i:Ix} (t:WT P i) (d:Option Nat) (j:Nat):Bool :=
  match t with
  | .ge j' _ _=>Nat.beq (d.getD j) j'
  | .inl j' _ _ _ _ _ _ _ _=>Nat.beq (d.getD j) j'
  | .iv j' _ _ _ _ _ _ _ _ _=>Nat.beq (d.getD j) j'
  | .ms j' _ _ _ _ _ _=>Nat.beq (d.getD j) j'
  | t=>match d with
    | none=>false
    | some d=>match t with
      | .bI d' _ _=>Nat.beq d d'
      | .bB d' _ _=>Nat.beq d d'
      | .kI d' _ _=>Nat.beq d d'
      | .kB d' _ _=>Nat.beq d d'
      | .bV d' _ _ _=>Nat.beq d d'
      | .ix d' _ _ _ _=>Nat.beq d d'
      | .lV d' _ _ _ _ _ _=>Nat.beq d d'
      | .ln d' _ _ _=>Nat.beq d d'
      | .gv d' _=>Nat.beq d d'
      | .to d' _ _=>Nat.beq d d'
      | .cl d' _ _ _ _=>Nat.beq d d'
      | .mW d' _ _ _ _ _=>Nat.beq d d'
      | _=>false
def callee (f:FS) (hp:AH) (o:Oper) (k:FuncId->List AV->Prop):Prop :=
  match o.op with
  | .call c=>match c.callee with
    | .value fo=>match (AS.mk f hp).ev fo with
      | some (.fn (.func g) first cap)=>match evs (AS.mk f hp) c.args.toList with
        | some vs=>k g (first++vs++cap)
        | none=>False
      | _=>False
    | _=>False
  | _=>False
def JZ (f:FS) (hp:AH) (o:Oper) (k:TypeId->String->List AV->Prop):Prop :=
  match o.op with
  | .call c=>match c.callee with
    | .invoke r nm=>match (AS.mk f hp).ev r with
      | some (.iG T v)=>match evs (AS.mk f hp) c.args.toList with
        | some vs=>k T nm (v :: vs)
        | none=>False
      | _=>False
    | _=>False
  | _=>False
def wC {i:Ix} (t:WT P i) (d:Option Nat):WT P i :=
  match d with
  | none=>t
  | some d=>match t with
    | .wt d' t'=>match Nat.beq d d' with
      | true=>t'
      | false=>.wt d' t'
    | t=>t
def LW {i:Ix} (t:WT P i) (d:Option Nat):Bool :=
  match d with
  | none=>false
  | some d=>match t with
    | .wt d' _=>Nat.beq d d'
    | _=>false
def uZ {i:Ix} (t:WT P i) (d:Option Nat) (k:WT P i->Prop):Prop :=
  match LW t d with
  | true=>k (wC t d)
  | false=>k t
theorem zP {i:Ix} {t:WT P i} {d:Option Nat} {k:WT P i->Prop} (h:uZ t d k):k (wC t d):=by
  unfold uZ at h
  split at h
  · exact h
  · rename_i e
    suffices wC t d=t by rw [this];exact h
    unfold LW at e;unfold wC
    split
    · rfl
    · split
      · simp only at e
        rw [e]
      · rfl
def oJ:List AV->(List AV->Prop)->Prop
  | [],k=>k []
  | x :: r,k=>oJ r λr'=>k (x :: r')
def DX:List (List AV)->(List (List AV)->Prop)->Prop
  | [],k=>k []
  | x :: r,k=>DX r λr'=>k (x :: r')
def sN (v:AV) (k:AV->Prop):Prop :=
  match v with
  | .agg cs=>oJ cs λcs=>k (.agg cs)
  | .pp cs=>oJ cs λcs=>k (.pp cs)
  | v=>k v
def CG (pl:List (Nat×Nat)):List AV->List (Nat×AV)->(List AV->Prop)->Prop
  | cs,[],k=>k cs
  | cs,(i,v) :: r,k=>match pl[i]? with
    | none=>False
    | some (off,size)=>match Nat.beq v.cells.length size && Nat.ble (off+size) cs.length && jF v.cells with
      | true=>oJ (putRow cs off v.cells) λcs'=>CG pl cs' r k
      | false=>False
def FI (tb:iC) (S:AS) (o:Oper) (vs:List (Nat×Nat)) (k:List (Nat×Nat)->AV->Prop):Prop :=
  match o.op with
  | .build T ps=>match eZ tb.bl T with
    | some pl=>match eZ tb.zs T with
      | some zs=>match lF zs with
        | true=>mU S (ps.toList.map (·.2)) λus=>oJ (zs.map .sc) λz=>CG pl z ((ps.toList.map (·.1)).zip us) λcs=>k vs (.agg cs)
        | false=>False
      | none=>False
    | none=>False
  | _=>jT tb S o vs k
def aJS:Op->Bool
  | .load _ _=>true
  | .fieldAddr _ _ _=>true
  | .build _ _=>true
  | .field _ _ _=>true
  | _=>false
def uF (tb:iC) (f:FS) (hp:AH) (o:Oper) {i:Ix} (t:WT P i) (vs:List (Nat×Nat)) (k:WT P i->List (Nat×Nat)->AV->AH->Option Nat->Prop):Prop :=
  match o.op with
  | .alloc T=>match t with
    | .al id t'=>match eZ tb.zs T with
      | some zs=>match lF zs with
        | true=>oJ (zs.map .sc) λrow=>∀ aD,k t' vs (.pt id aD 0 0) (upd hp id (some ⟨T,row.length,true,true,aD,[row]⟩)) (some id)
        | false=>False
      | none=>False
    | _=>False
  | .box T x=>match t with
    | .al id t'=>match (AS.mk f hp).ev x with
      | some v=>match jF v.cells with
        | true=>oJ v.cells λrow=>∀ aD,k t' vs (.pt id aD 0 0) (upd hp id (some ⟨T,row.length,true,true,aD,[row]⟩)) (some id)
        | false=>False
      | none=>False
    | _=>False
  | .store T x y=>match eZ tb.sh T with
    | some (m,b)=>match (AS.mk f hp).ev x with
      | some (.pt id aD row off)=>match (AS.mk f hp).ev y with
        | some v=>match hp id with
          | some ⟨el,sz,mt,app,ve,rows⟩=>match rows[row]? with
            | some r=>match mt && Nat.beq v.cells.length m && Nat.ble (off+m) r.length && jF v.cells with
              | true=>oJ (putRow r off v.cells) λr'=>DX (rows.set row r') λrows'=>k t ((ve,aD) :: vs) (.sc undef) (upd hp id (some ⟨el,sz,mt,app,ve,rows'⟩)) (some id)
              | false=>False
            | none=>False
          | none=>False
        | none=>False
      | _=>False
    | none=>False
  | .call c=>match c.callee with
    | .builtin .len=>match c.args.toList with
      | [x]=>match c.argTypes.toList with
        | [T]=>match eZ tb.se T with
          | some _=>match (AS.mk f hp).ev x with
            | some (.list _ xs)=>k t vs (int xs.length) hp none
            | some (.sl id aD _ len)=>match hp id with
              | some ob=>k t ((ob.aD,aD) :: vs) (int len) hp none
              | none=>False
            | some (.sc (.slice _ len _))=>k t vs (int len) hp none
            | _=>False
          | none=>False
        | _=>False
      | _=>False
    | _=>False
  | _=>FI tb ⟨f,hp⟩ o vs λvs v=>match aJS o.op with
    | true=>sN v λv=>k t vs v hp none
    | false=>k t vs v hp none
def yZ (tb:iC) (f:FS) (hp:AH) (Ag:AH->Prop) (o:Oper) {i:Ix} (t:WT P i) (vs:List (Nat×Nat)) (k:WT P i->AV->Prop):Prop :=
  match t with
  | .bI _ e t'=>jT tb ⟨f,hp⟩ o vs λvs v=>match v with
    | .sc (.int kk u)=>kC vs u e (∀ x,k (t' x) (.sc (.int kk x)))
    | _=>False
  | .bB _ e t'=>jT tb ⟨f,hp⟩ o vs λvs v=>match v with
    | .sc (.bool u)=>kC vs u e (∀ x,k (t' x) (aA x))
    | _=>False
  | .kI _ e t'=>jT tb ⟨f,hp⟩ o vs λvs v=>match v with
    | .sc (.int kk u)=>z8 vs u e (k t' (.sc (.int kk e)))
    | _=>False
  | .kB _ e t'=>jT tb ⟨f,hp⟩ o vs λvs v=>match v with
    | .sc (.bool u)=>z8 vs u e (k t' (aA e))
    | _=>False
  | .bV _ av e t'=>Ev vs (λv=>∀ H,Ag H->fE P tb->bS P o ⟨f,H⟩ v) λv=>kC [] v (av e) (∀ x,k (t' x) (av x))
  | .gv _ t'=>Ev vs (λv=>∀ H,Ag H->fE P tb->bS P o ⟨f,H⟩ v) λv=>k t' v
  | .to _ v t'=>Et vs (∀ H,Ag H->fE P tb->bS P o ⟨f,H⟩ v) (k t' v)
  | .ix _ g l j t'=>match o.op with
    | .indexAddr T x y=>match eZ tb.se T with
      | some el=>match eZ tb.sh el with
        | some (sz,_)=>kC vs ((AS.mk f hp).ev x,(AS.mk f hp).ev y) (some (aG sz g l),some (int j)) (∀ v,ix l j=some v->k (t' v) (.pp (g v)))
        | none=>False
      | none=>False
    | _=>False
  | .lV _ g c h l j t'=>match o.op with
    | .indexAddr T x y=>match eZ tb.se T with
      | some el=>match eZ tb.sh el with
        | some (sz,_)=>kC vs ((AS.mk f hp).ev x,(AS.mk f hp).ev y) (some (aG sz g l),some (int j)) (∀ v,ix l j=some v->k (t' v) (.pp (c v)))
        | none=>False
      | none=>False
    | _=>False
  | .ln _ g l t'=>match o.op with
    | .call c=>match c.callee with
      | .builtin .len=>match c.args.toList with
        | [x]=>match c.argTypes.toList with
          | [T]=>match eZ tb.se T with
            | some el=>match eZ tb.sh el with
              | some (sz,_)=>kC vs ((AS.mk f hp).ev x) (some (aG sz g l)) (k t' (int l.length))
              | none=>False
            | none=>False
          | _=>False
        | _=>False
      | _=>False
    | _=>False
  | @WT.cl _ _ B kf args V _ o' hc C t'=>callee f hp o λg as=>Ed vs g kf (∀ H,Ag H->cO H as args) (∀ b:B,o'=some b->k (t' b) (V b))
  | @WT.mW _ _ B kf args V _ o' hc C hf t'=>callee f hp o λg as=>Ed vs g kf (∀ H,Ag H->cO (mI H) as args) (∀ b:B,o'=some b->k (t' b) (V b))
  | _=>False
def qM (tb:iC) (f:FS) (hp:AH):List ResultVar->List (Nat×Nat)->(List (Nat×Nat)->List AV->Prop)->Prop
  | [],vs,k=>k vs []
  | .tmp t :: r,vs,k=>match f t with
    | some v=>qM tb f hp r vs λvs us=>k vs (v :: us)
    | none=>False
  | .cell t T :: r,vs,k=>match eZ tb.sh T with
    | some (m,b)=>match f t with
      | some (.pt id aD row off)=>match hp id with
        | some ob=>match ob.rows[row]? with
          | some rw=>match jU m b (rw.drop off) with
            | some v=>qM tb f hp r ((ob.aD,aD) :: vs) λvs us=>k vs (v :: us)
            | none=>False
          | none=>False
        | none=>False
      | _=>False
    | none=>False
def JI {B:Type} (tb:iC) (rs:List ResultVar) (hp0:AH) (m:List (Nat×aW)) (W:List Nat) (V:(Nat->Nat)->B->AV) (O:(Nat->Nat)->B->List OE) (a:B) (f:FS) (hp:AH) (vs:List (Nat×Nat)):Prop :=
  match mR (uV hp0 W (vr hp)) hp0 (O (uV hp0 W (vr hp)) a) with
  | some os=>qM tb f hp rs vs λvs us=>Ei vs (l8 us) (V (uV hp0 W (vr hp)) a) hp (os++m)
  | none=>False
theorem A7 {tb:iC} {f:FS} {hp:AH} {G:List (Nat×Nat)->List AV->Prop} (hG:∀ {vs us},G vs us->dO vs/\∀ {vs'},dO vs'->G vs' us):∀ {rs:List ResultVar} {vs:List (Nat×Nat)} {g:List AV->List AV},qM tb f hp rs vs (λvs us=>G vs (g us))->dO vs/\∀ {vs'},dO vs'->qM tb f hp rs vs' (λvs us=>G vs (g us))
  | [],vs,g,h=>⟨(hG h).1,λa'=>(hG h).2 a'⟩
  | .tmp t :: r,vs,g,h=>by
    unfold qM at h ⊢
    split at h
    · rename_i v hv;exact A7 (G:=G) hG (g:=λus=>g (v :: us)) h
    · exact h.elim
  | .cell t T :: r,vs,g,h=>by
    unfold qM at h ⊢
    split at h
    · split at h
      · split at h
        · split at h
          · split at h
            · rename_i v hv
              obtain ⟨h1,h2⟩:=A7 (G:=G) hG (g:=λus=>g (v :: us)) h
              exact ⟨h1.2,λa'=>h2 ⟨h1.1,a'⟩⟩
            · exact h.elim
          · exact h.elim
        · exact h.elim
      · exact h.elim
    · exact h.elim
theorem R6 {B:Type} {tb:iC} {rs:List ResultVar} {hp0:AH} {m:List (Nat×aW)} {W:List Nat} {V:(Nat->Nat)->B->AV} {O:(Nat->Nat)->B->List OE} {a:B} {f:FS} {hp:AH} {vs:List (Nat×Nat)} (h:JI tb rs hp0 m W V O a f hp vs):dO vs/\JI tb rs hp0 m W V O a f hp []:=by
  unfold JI at h ⊢
  split at h
  · obtain ⟨h1,h2⟩:=A7 (G:=λvs us=>Ei vs (l8 us) (V (uV hp0 W (vr hp)) a) hp (_++m)) (λh=>by cases h with | mk e h a=>exact ⟨a,λa'=>⟨e,h,a'⟩⟩) (g:=id) h
    exact ⟨h1,h2 trivial⟩
  · exact h.elim
def mK (f:FS) (d:Option Tmp) (v:AV) (k:FS->Prop):Prop :=
  match d with
  | some t=>k (upd f t (some v))
  | none=>k f
def D3 (tb:iC) (KN:NT->KT P) (f:FS) (hp:AH) (o:Oper) {i:Ix} (t:WT P i) (vs:List (Nat×Nat)) (kp:AH->Prop) (k:WT P i->AV->AH->Prop):Prop :=
  match t with
  | .ge _ id t'=>Ee id vs (λOut=>(fE P tb->bW P o ⟨f,hp⟩ no any Out)/\∀ v H',Out v H'->kp H') λv H'=>k t' v H'
  | @WT.inl _ _ B g0 fn _ hc hf M W V O x t'=>callee f hp o λg as=>qK hp M λm=>match fn.body with
    | some c=>match Nat.ble as.length fn.ntmps with
      | true=>nG vs g g0 (KN ⟨fn.ntmps,false,[]⟩ x (.fn (JI tb fn.results.toList hp m W V O) R6) (.c [c]) (λt=>as[t]?) hp []) (∀ b u,match mR (uV hp W u) hp (O (uV hp W u) b) with
        | some os=>Et [] (kp (hk (os++m))) (k (t' b) (V (uV hp W u) b) (hk (os++m)))
        | none=>True)
      | false=>False
    | none=>False
  | @WT.iv _ _ B T0 nm0 g0 fn _ hmt hc hf M W V O x t'=>JZ f hp o λT nm as=>qK hp M λm=>match fn.body with
    | some c=>match Nat.ble as.length fn.ntmps with
      | true=>nG vs (T,nm) (T0,nm0) (KN ⟨fn.ntmps,false,[]⟩ x (.fn (JI tb fn.results.toList hp m W V O) R6) (.c [c]) (λt=>as[t]?) hp []) (∀ b u,match mR (uV hp W u) hp (O (uV hp W u) b) with
        | some os=>Et [] (kp (hk (os++m))) (k (t' b) (V (uV hp W u) b) (hk (os++m)))
        | none=>True)
      | false=>False
    | none=>False
  | _=>False
def TF {i:Ix} (t:WT P i):Bool :=
  match t with
  | .ge _ _ _=>true
  | .inl _ _ _ _ _ _ _ _ _=>true
  | .iv _ _ _ _ _ _ _ _ _ _=>true
  | _=>false
def FQ (tb:iC) (n:NT) (KN:NT->KT P) (id:Nat) (l:List Oper) (o:Oper) (rest:List Oper) (cs:List Code) {i:Ix} (t:WT P i) (s:Sk P i) (f:FS) (hp:AH) (vs:List (Nat×Nat)):Prop :=
  match kP n o.dst with
  | false=>False
  | true=>match Wd l ⟨f,hp⟩ o with
    | some false=>mK f o.dst (.sc undef) λf'=>KN n t s (.r id l rest cs) f' hp vs
    | some true=>match AU t o.dst (1000000+id*1000+(l.length-(rest.length+1))) with
      | true=>match TF t with
        | true=>D3 tb KN f hp o t vs (λ_=>True) λt' v H'=>mK f o.dst v λf'=>KN n t' s (.r id l rest cs) f' H' []
        | false=>yZ tb f hp (λH=>H=hp) o t vs λt' v=>mK f o.dst v λf'=>KN n t' s (.r id l rest cs) f' hp []
      | false=>uZ t o.dst λt=>uF tb f hp o t vs λt' vs v H' _=>mK f o.dst v λf'=>KN n t' s (.r id l rest cs) f' H' vs
    | none=>False
def qG (f:FS) (o:Oper):List Nat :=
  let g:=λ(x:Operand)=>match (AS.mk f H0).ev x with
    | some (.pt id _ _ _)=>[id]
    | some (.sl id _ _ _)=>[id]
    | _=>[]
  match o.op with
  | .load _ x=>g x
  | .fieldAddr _ x _=>g x
  | .nilCheck x=>g x
  | .call c=>match c.args.toList with
    | [x]=>g x
    | _=>[]
  | _=>[]
def BX (w:Option Nat) (k:Nat):Bool :=
  match w with
  | some q=>Nat.beq q k
  | none=>false
def IJ (ch:Option Nat) (l:List Nat):Bool :=
  match ch with
  | none=>true
  | some id=>l.all λk=>!Nat.ble 100000 k && !Nat.beq k id
def KH (tb:iC) (n:NT) (KN:NT->KT P) (id:Nat) (l:List Oper) (rd kp:Nat->List Nat) (pu:Nat->Bool) (j:Nat) (o:Oper) (pi:List Nat) (cs:List Code) {i:Ix} (t:WT P i) (s:Sk P i) (f:FS) (hp:AH) (vs:List (Nat×Nat)):Prop :=
  match kP n o.dst with
  | false=>False
  | true=>match Wd l ⟨f,hp⟩ o with
    | some false=>mK f o.dst (.sc undef) λf'=>KN n t s (.e id l rd kp pu pi cs) f' hp vs
    | some true=>match pu j with
      | true=>match qQ (rd j) with
        | true=>match AU t o.dst (1000000+id*1000+j) with
          | true=>match oL (qG f o) (rd j) with
            | true=>yZ tb f hp (λH=>∀ k,k∈rd j->H k=hp k) o t vs λt' v=>mK f o.dst v λf'=>KN n t' s (.e id l rd kp pu pi cs) f' hp []
            | false=>False
          | false=>match oL (qG f o) (rd j) with
            | true=>uZ t o.dst λt=>uF tb f hp o t vs λt' vs v _ ch=>match ch with
              | none=>mK f o.dst v λf'=>KN n t' s (.e id l rd kp pu pi cs) f' hp vs
              | some _=>False
            | false=>False
        | false=>False
      | false=>match AU t o.dst (1000000+id*1000+j) with
        | true=>match TF t with
          | true=>D3 tb KN f hp o t vs (λH'=>rY H' hp (kp j)) λt' v H'=>mK f o.dst v λf'=>KN n t' s (.e id l rd kp pu pi cs) f' H' []
          | false=>False
        | false=>uZ t o.dst λt=>uF tb f hp o t vs λt' vs v H' ch=>match IJ ch (kp j) with
          | true=>mK f o.dst v λf'=>KN n t' s (.e id l rd kp pu pi cs) f' H' vs
          | false=>False
    | none=>False
def vE (f:FS) (o:Oper):List Nat :=
  match o.op with
  | .store _ x _=>match (AS.mk f H0).ev x with
    | some (.pt id _ _ _)=>[id]
    | _=>[]
  | _=>qG f o
def KL (tb:iC) (c:Nat) (f:FS) (hp:AH) (o:Oper) {i:Ix} (t:WT P i) (vs:List (Nat×Nat)) (k:WT P i->List (Nat×Nat)->AV->Nat->aW->Prop):Prop :=
  match o.op with
  | .alloc T=>match t with
    | .al id t'=>match eZ tb.zs T with
      | some zs=>match lF zs with
        | true=>oJ (zs.map .sc) λrow=>k t' vs (.pt id c 0 0) id ⟨T,row.length,true,true,c,[row]⟩
        | false=>False
      | none=>False
    | _=>False
  | .box T x=>match t with
    | .al id t'=>match (AS.mk f hp).ev x with
      | some v=>match jF v.cells with
        | true=>oJ v.cells λrow=>k t' vs (.pt id c 0 0) id ⟨T,row.length,true,true,c,[row]⟩
        | false=>False
      | none=>False
    | _=>False
  | .store T x y=>match t with
    | .ge _ id t'=>Eg vs (λob=>fE P tb->∀ H:AH,(∀ q,q∈vE f o->H q=hp q)->bW P o ⟨f,H⟩ (·=c) (·=c) (λv H'=>v=.sc undef/\H'=upd H id (some ob))) λob=>k t' [] (.sc undef) id ob
    | t=>match eZ tb.sh T with
      | some (m,b)=>match (AS.mk f hp).ev x with
        | some (.pt id aD row off)=>match (AS.mk f hp).ev y with
          | some v=>match hp id with
            | some ⟨el,sz,mt,app,ve,rows⟩=>match rows[row]? with
              | some r=>match mt && Nat.beq v.cells.length m && Nat.ble (off+m) r.length && jF v.cells with
                | true=>oJ (putRow r off v.cells) λr'=>DX (rows.set row r') λrows'=>k t ((ve,aD) :: vs) (.sc undef) id ⟨el,sz,mt,app,ve,rows'⟩
                | false=>False
              | none=>False
            | none=>False
          | none=>False
        | _=>False
      | none=>False
  | _=>False
def FN (tb:iC) (c:Nat) (f:FS) (hp:AH) (o:Oper) {B:Type} (id:Nat) (g:B->List AV) (z0:B) (N:Int) (l:List B) (vs:List (Nat×Nat)) (k:AV->aW->Prop):Prop :=
  match o.op with
  | .makeSlice T x y=>match eZ tb.se T with
    | some e=>match eZ tb.bz e with
      | some sz=>match eZ tb.zs e with
        | some zs=>match eZ tb.bb e with
          | some b'=>match Nat.beq zs.length sz && lF zs with
            | true=>kC vs ((AS.mk f hp).ev x,(AS.mk f hp).ev y) (some (int N),some (int N)) (Es (ZL (g z0) zs) ((0<=N/\N<=1048576)/\List.replicate N.toNat z0=l) (k (.sl id c 0 N.toNat) ⟨e,sz,true,true,c,l.map g⟩))
            | false=>False
          | none=>False
        | none=>False
      | none=>False
    | none=>False
  | _=>False
def aHI:Op->Bool
  | .alloc _=>true
  | .box _ _=>true
  | .store _ _ _=>true
  | _=>false
def FC (tb:iC) (n:NT) (KN:NT->KT P) (id:Nat) (l:List Oper) (rd:Nat->List Nat) (wr:Nat->Option Nat) (C j:Nat) (o:Oper) (rest:List Oper) (cs:List Code) {i:Ix} (t:WT P i) (s:Sk P i) (f:FS) (hp:AH) (vs:List (Nat×Nat)):Prop :=
  match kP n o.dst with
  | false=>False
  | true=>match Wd l ⟨f,hp⟩ o with
    | some false=>mK f o.dst (.sc undef) λf'=>KN n t s (.g id l rd wr C (j+1) rest cs) f' hp vs
    | some true=>match oL (vE f o) (rd j) with
      | true=>match aHI o.op with
        | true=>uZ t o.dst λt=>KL tb (C+j) f hp o t vs λt' vs v k ob=>match BX (wr j) k with
          | true=>mK f o.dst v λf'=>KN n t' s (.g id l rd wr C (j+1) rest cs) f' (upd hp k (some ob)) vs
          | false=>False
        | false=>match AU t o.dst (1000000+id*1000+j) with
          | true=>match t with
            | .ms _ k g z0 N q t'=>FN tb (C+j) f hp o k g z0 N q vs λv ob=>match BX (wr j) k with
              | true=>mK f o.dst v λf'=>KN n t' s (.g id l rd wr C (j+1) rest cs) f' (upd hp k (some ob)) []
              | false=>False
            | t=>yZ tb f hp (λH=>∀ k,k∈rd j->H k=hp k) o t vs λt' v=>mK f o.dst v λf'=>KN n t' s (.g id l rd wr C (j+1) rest cs) f' hp []
          | false=>uZ t o.dst λt=>uF tb f hp o t vs λt' vs v _ ch=>match ch with
            | none=>mK f o.dst v λf'=>KN n t' s (.g id l rd wr C (j+1) rest cs) f' hp vs
            | some _=>False
      | false=>False
    | none=>False
def JA (n:NT) (KN:NT->KT P) (xc:Code) (cs:List Code) {i:Ix} (t:WT P i) (s:Sk P i) (f:FS) (hp:AH) (vs:List (Nat×Nat)):Prop :=
  match t with
  | .ifs ds b x y=>nG vs (ds.map f) (ds.map λ_=>some (aA b)) (KN n x s (.c (xc :: cs)) (iT f ds (aA true)) hp []) (KN n y s (.c (xc :: cs)) (iT f ds (aA false)) hp [])
  | .az ds b k=>kC vs (ds.map f) (ds.map λ_=>some (aA b)) (KN n k s (.c (xc :: cs)) (iT f ds (aA false)) hp [])
  | .an ds b k=>kC vs (ds.map f) (ds.map λ_=>some (aA b)) (KN n k s (.c (xc :: cs)) (iT f ds (aA true)) hp [])
  | .sp ds x v a b=>nG vs (ds.map f) (ds.map λ_=>some (int x)) (KN n a s (.c (xc :: cs)) (iT f ds (int v)) hp []) (KN n b s (.c (xc :: cs)) f hp [])
  | .sa ds x v a=>kC vs (ds.map f) (ds.map λ_=>some (int x)) (KN n a s (.c (xc :: cs)) (iT f ds (int v)) hp [])
  | .jJ id k=>match hp id with
    | some ⟨el,sz,mt,app,ve,rows⟩=>KN n k s (.c (xc :: cs)) f (upd hp id (some ⟨el,sz,false,app,ve,rows⟩)) vs
    | none=>False
  | .cv d v k=>match f d with
    | some u=>Ec vs (Cv hp u v) (KN n k s (.c (xc :: cs)) (upd f d (some v)) hp [])
    | none=>False
  | .no d id e sz k=>match f d with
    | some (.sc (.slice none 0 0))=>match hp id with
      | none=>∀ aD,KN n k s (.c (xc :: cs)) (upd f d (some (.sl id aD 0 0))) (upd hp id (some ⟨e,sz,true,true,aD,[]⟩)) vs
      | some _=>False
    | _=>False
  | .nc id0 row j id e sz k=>match hp id0 with
    | some ⟨oe,os,om,oa,ov,orr⟩=>match orr[row]? with
      | some r=>match r[j]? with
        | some (.sc (.slice none 0 0))=>match hp id with
          | none=>∀ aD,KN n k s (.c (xc :: cs)) f (upd (upd hp id (some ⟨e,sz,true,true,aD,[]⟩)) id0 (some ⟨oe,os,om,oa,ov,orr.set row (r.set j (.sl id aD 0 0))⟩)) vs
          | some _=>False
        | _=>False
      | none=>False
    | none=>False
  | t=>KU (KN n) n t s xc cs f hp vs
def EI (tb:iC) (n:NT) (KN:NT->KT P) (rid:Nat) (l todo:List Oper) (cs:List Code) {i:Ix} (t:WT P i) (s:Sk P i) (f:FS) (hp:AH) (vs:List (Nat×Nat)):Prop :=
  match t with
  | .ifs ds b x y=>nG vs (ds.map f) (ds.map λ_=>some (aA b)) (KN n x s (.r rid l todo cs) (iT f ds (aA true)) hp []) (KN n y s (.r rid l todo cs) (iT f ds (aA false)) hp [])
  | .az ds b k=>kC vs (ds.map f) (ds.map λ_=>some (aA b)) (KN n k s (.r rid l todo cs) (iT f ds (aA false)) hp [])
  | .an ds b k=>kC vs (ds.map f) (ds.map λ_=>some (aA b)) (KN n k s (.r rid l todo cs) (iT f ds (aA true)) hp [])
  | .sp ds x v a b=>nG vs (ds.map f) (ds.map λ_=>some (int x)) (KN n a s (.r rid l todo cs) (iT f ds (int v)) hp []) (KN n b s (.r rid l todo cs) f hp [])
  | .sa ds x v a=>kC vs (ds.map f) (ds.map λ_=>some (int x)) (KN n a s (.r rid l todo cs) (iT f ds (int v)) hp [])
  | .jJ id k=>match hp id with
    | some ⟨el,sz,mt,app,ve,rows⟩=>KN n k s (.r rid l todo cs) f (upd hp id (some ⟨el,sz,false,app,ve,rows⟩)) vs
    | none=>False
  | .cv d v k=>match f d with
    | some u=>Ec vs (Cv hp u v) (KN n k s (.r rid l todo cs) (upd f d (some v)) hp [])
    | none=>False
  | t=>match todo with
    | []=>KN n t s (.c cs) f hp vs
    | o :: rest=>FQ tb n KN rid l o rest cs t s f hp vs
def J3 (tb:iC) (n:NT) (KN:NT->KT P) (id:Nat) (l:List Oper) (rd kp:Nat->List Nat) (pu:Nat->Bool) (pi:List Nat) (cs:List Code) {i:Ix} (t:WT P i) (s:Sk P i) (f:FS) (hp:AH) (vs:List (Nat×Nat)):Prop :=
  match t with
  | .ifs ds b x y=>nG vs (ds.map f) (ds.map λ_=>some (aA b)) (KN n x s (.e id l rd kp pu pi cs) (iT f ds (aA true)) hp []) (KN n y s (.e id l rd kp pu pi cs) (iT f ds (aA false)) hp [])
  | .az ds b k=>kC vs (ds.map f) (ds.map λ_=>some (aA b)) (KN n k s (.e id l rd kp pu pi cs) (iT f ds (aA false)) hp [])
  | .an ds b k=>kC vs (ds.map f) (ds.map λ_=>some (aA b)) (KN n k s (.e id l rd kp pu pi cs) (iT f ds (aA true)) hp [])
  | .sp ds x v a b=>nG vs (ds.map f) (ds.map λ_=>some (int x)) (KN n a s (.e id l rd kp pu pi cs) (iT f ds (int v)) hp []) (KN n b s (.e id l rd kp pu pi cs) f hp [])
  | .sa ds x v a=>kC vs (ds.map f) (ds.map λ_=>some (int x)) (KN n a s (.e id l rd kp pu pi cs) (iT f ds (int v)) hp [])
  | t=>match pi with
    | []=>KN n t s (.c cs) f hp vs
    | j :: pi=>match l[j]? with
      | some o=>KH tb n KN id l rd kp pu j o pi cs t s f hp vs
      | none=>False
def JS (tb:iC) (n:NT) (KN:NT->KT P) (id:Nat) (l:List Oper) (rd:Nat->List Nat) (wr:Nat->Option Nat) (C j:Nat) (todo:List Oper) (cs:List Code) {i:Ix} (t:WT P i) (s:Sk P i) (f:FS) (hp:AH) (vs:List (Nat×Nat)):Prop :=
  match t with
  | .ifs ds b x y=>nG vs (ds.map f) (ds.map λ_=>some (aA b)) (KN n x s (.g id l rd wr C j todo cs) (iT f ds (aA true)) hp []) (KN n y s (.g id l rd wr C j todo cs) (iT f ds (aA false)) hp [])
  | .az ds b k=>kC vs (ds.map f) (ds.map λ_=>some (aA b)) (KN n k s (.g id l rd wr C j todo cs) (iT f ds (aA false)) hp [])
  | .an ds b k=>kC vs (ds.map f) (ds.map λ_=>some (aA b)) (KN n k s (.g id l rd wr C j todo cs) (iT f ds (aA true)) hp [])
  | .sp ds x v a b=>nG vs (ds.map f) (ds.map λ_=>some (int x)) (KN n a s (.g id l rd wr C j todo cs) (iT f ds (int v)) hp []) (KN n b s (.g id l rd wr C j todo cs) f hp [])
  | .sa ds x v a=>kC vs (ds.map f) (ds.map λ_=>some (int x)) (KN n a s (.g id l rd wr C j todo cs) (iT f ds (int v)) hp [])
  | t=>match todo with
    | []=>KN n t s (.c cs) f hp vs
    | o :: rest=>FC tb n KN id l rd wr C j o rest cs t s f hp vs
def stepW (tb:iC) (n:NT) (KN:NT->KT P) {i:Ix} (t:WT P i) (s:Sk P i) (md:Mw) (f:FS) (hp:AH) (vs:List (Nat×Nat)):Prop :=
  match t with
  | .fl=>Em vs True
  | .as p _ k=>Em vs (p->KN n k s md f hp [])
  | .bl e k=>Em vs (∀ x,e=x->KN n (k x) s md f hp [])
  | .bo o k=>Em vs (∀ x,o=some x->KN n (k x) s md f hp [])
  | t=>match md with
    | .c []=>match s with
      | .blk _ cs s=>KN n t s (.c cs) f hp vs
      | .sc cs s=>KN n t s (.c cs) f hp vs
      | .un (k+1) c s=>KN n t (.un k c s) (.c [c]) f hp vs
      | s=>tV s t f hp vs
    | .c (x :: cs)=>JA n KN x cs t s f hp vs
    | .r rid l todo cs=>EI tb n KN rid l todo cs t s f hp vs
    | .e rid l rd kp pu pi cs=>J3 tb n KN rid l rd kp pu pi cs t s f hp vs
    | .g rid l rd wr C j todo cs=>JS tb n KN rid l rd wr C j todo cs t s f hp vs
def WP (P:Program) (tb:iC):Nat->NT->KT P
  | 0=>λ_ {_} _ _ _ _ _ _=>False
  | m+1=>λn {_} t s md f hp vs=>stepW tb n (WP P tb m) t s md f hp vs
end
end Go.Pv
