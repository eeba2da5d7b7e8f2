/- Walks in few words: a runner over code, its blocks and regions; joins, loops; values that get names. -/
import Derived.Test.YtfamehgkphejnaaGreatPvAC
import Derived.Scope
set_option linter.unusedVariables false
set_option linter.unusedSimpArgs false
namespace Go.Pv
inductive Fm
  | blk (id:Nat) (cs:List Code)
  | jn (J:AS->Prop)
  | un (k:Nat) (c:Code)
  | sc (cs:List Code)
  | rs (it nx mo b:Nat) (y:Code) (r:List UInt8) (p:Nat)
def UQ (P:Program) (n:NT) (c:Code) (F:Go.Exit->AS->Prop):Nat->Go.Exit->AS->Prop
  | 0,e,S=>match e with
    | .normal=>False
    | e=>F e S
  | k+1,e,S=>match e with
    | .normal=>bR P n (UQ P n c F k) [c] S
    | e=>F e S
def vL (b:Nat):AV:=.sc (.pointer (some ⟨b,0,none⟩))
def RQ (P:Program) (n:NT) (it nx mo b:Nat) (y:Code) (F:Go.Exit->AS->Prop):List UInt8->Nat->Go.Exit->AS->Prop
  | [],_,e,S=>match e with
    | .normal=>S.sl it=some (vL b)/\bR P n (UQ P n y F 0) [y] ⟨upd (upd S.sl nx (some (.aU [aF false]))) mo (some (aF false)),S.hp⟩
    | e=>F e S
  | c :: r,p,e,S=>match e with
    | .normal=>S.sl it=some (vL b)/\bR P n (RQ P n it nx mo b y F r (p+1)) [y] ⟨upd (upd S.sl nx (some (.aU [aF true,int p,.sc (.int .i32 c.toNat)]))) mo (some (aF true)),S.hp⟩
    | e=>F e S
def QQ (P:Program) (n:NT) (Q0:Go.Exit->AS->Prop):List Fm->Go.Exit->AS->Prop
  | [],e,S=>Q0 e S
  | .blk id cs :: st,e,S=>match e with
    | .normal=>bR P n (QQ P n Q0 st) cs S
    | .exit i=>cond (Nat.beq i id) (bR P n (QQ P n Q0 st) cs S) (QQ P n Q0 st (.exit i) S)
    | e=>QQ P n Q0 st e S
  | .jn J :: st,e,S=>match e with
    | .normal=>J S
    | e=>QQ P n Q0 st e S
  | .un k c :: st,e,S=>UQ P n c (QQ P n Q0 st) k e S
  | .sc cs :: st,e,S=>match e with
    | .normal=>bR P n (QQ P n Q0 st) cs S
    | .goto _=>False
    | e=>QQ P n Q0 st e S
  | .rs it nx mo b y r p :: st,e,S=>RQ P n it nx mo b y (QQ P n Q0 st) r p e S
def kU (i:Nat):List Fm->Option (List Code×List Fm)
  | []=>none
  | .blk id cs :: st=>cond (Nat.beq i id) (some (cs,st)) (kU i st)
  | .jn _ :: st=>kU i st
  | .un _ _ :: st=>kU i st
  | .sc _ :: st=>kU i st
  | .rs _ _ _ _ _ _ _ :: st=>kU i st
section
variable {P:Program} {n:NT} {Q0:Go.Exit->AS->Prop} {st:List Fm} {cs:List Code} {S:AS} {f:Nat->Option AV} {hp:AH} {x y:Code}
theorem vH {i:Nat}:∀ {st:List Fm} {cs:List Code} {st':List Fm},kU i st=some (cs,st')->bR P n (QQ P n Q0 st') cs S->QQ P n Q0 st (.exit i) S
  | .blk id c2 :: st,cs,st',h,hq=>by
    simp only [kU] at h
    show cond (Nat.beq i id) _ _
    cases hb:Nat.beq i id with
    | true=>rw [hb] at h;simp only [cond_true,Option.some.injEq,Prod.mk.injEq] at h;obtain ⟨rfl,rfl⟩:=h;exact hq
    | false=>rw [hb] at h;exact vH h hq
  | .jn J :: st,cs,st',h,hq=>by
    simp only [kU] at h
    exact vH (st:=st) h hq
  | .un k _ :: st,cs,st',h,hq=>by
    simp only [kU] at h
    cases k <;> exact vH (st:=st) h hq
  | .sc _ :: st,cs,st',h,hq=>by
    simp only [kU] at h
    exact vH (st:=st) h hq
  | .rs _ _ _ _ _ r _ :: st,cs,st',h,hq=>by
    simp only [kU] at h
    cases r <;> exact vH (st:=st) h hq
theorem uT (h:Q0 .ret S):∀ st:List Fm,QQ P n Q0 st .ret S
  | []=>h
  | .blk _ _ :: st=>uT h st
  | .jn _ :: st=>uT h st
  | .un k _ :: st=>by cases k <;> exact uT h st
  | .sc _ :: st=>uT h st
  | .rs _ _ _ _ _ r _ :: st=>by cases r <;> exact uT h st
theorem iL (h:Q0 .ret S):bR P n (QQ P n Q0 st) (.ret :: cs) S:=B5 (uT h st)
theorem aI1 {i:Nat} {c2:List Code} {st':List Fm} (h:kU i st=some (c2,st')) (hq:bR P n (QQ P n Q0 st') c2 S):bR P n (QQ P n Q0 st) (.exit i :: cs) S:=TF (vH h hq)
theorem aD3 {id:Nat} (h:bR P n (QQ P n Q0 (.blk id cs :: st)) [x] S):bR P n (QQ P n Q0 st) (.block id x :: cs) S :=
  QC (Tr.mono (jG h) λe S h=>by
    cases e with
    | exit i =>
      have h:cond (Nat.beq i id) (bR P n (QQ P n Q0 st) cs S) (QQ P n Q0 st (.exit i) S):=h
      show if i=id then _ else _
      cases hb:Nat.beq i id with
      | true=>rw [hb] at h;rw [if_pos (Nat.eq_of_beq_eq_true hb)];exact h
      | false=>rw [hb] at h;rw [if_neg (Nat.ne_of_beq_eq_false hb)];exact h
    | _=>exact h)
theorem aN6 (h:bR P n (QQ P n Q0 (.sc cs :: st)) [x] S):bR P n (QQ P n Q0 st) (.scope x :: cs) S:=by
  intro s a hs
  refine TK (iJ (jG h s a hs) ?_)
  rintro e a1 w1 ⟨S1,s1,h1,h2,h3,h4⟩
  cases e with
  | goto l=>exact h2.elim
  | _=>exact ⟨S1,s1,h1,h2,h3,h4⟩
theorem aM5 (k:Nat) (h:bR P n (QQ P n Q0 (.un k x :: st)) [x] S):bR P n (QQ P n Q0 st) (.loop x :: cs) S:=by
  have e:QQ P n Q0 (.un k x :: st)=UQ P n x (QQ P n Q0 st) k:=by funext e S;rfl
  rw [e] at h
  refine VQ (ι:={ p:Nat×AS // bR P n (UQ P n x (QQ P n Q0 st) p.1) [x] p.2 }) (λp=>p.1.2) (λp=>p.1.1) ⟨(k,S),h⟩ (λs=>⟨λt y hy=>⟨y,hy,λ_ h=>h⟩,λh=>h,λ_ h=>h⟩) ?_
  rintro ⟨⟨m,S1⟩,hp⟩
  refine Tr.mono (jG hp) λe S2 h2=>?_
  cases m with
  | zero=>cases e with
    | normal=>exact h2.elim
    | _=>exact h2
  | succ m=>cases e with
    | normal=>exact ⟨⟨(m,S2),h2⟩,Nat.lt_succ_self m,λs=>⟨λt y hy=>⟨y,hy,λ_ h=>h⟩,λh=>h,λ_ h=>h⟩⟩
    | _=>exact h2
def RR (P:Program) (n:NT) (Q0:Go.Exit->AS->Prop) (st:List Fm) (l todo:List Oper) (cs:List Code) (S:AS):Prop :=
  ∀ K:AS->Prop,(∀ S',bR P n (QQ P n Q0 st) cs S'->K S')->Rg P n l todo S K
def GG (P:Program) (n:NT) (Q0:Go.Exit->AS->Prop) (st:List Fm):Md->AS->Prop
  | .c cs,S=>bR P n (QQ P n Q0 st) cs S
  | .r l todo cs,S=>RR P n Q0 st l todo cs S
theorem a3B (h:Q0 .normal S):GG P n Q0 [] (.c []) S:=h
def bN:List (Nat×Nat)->Prop
  | []=>True
  | (a,b) :: r=>a=b/\bN r
theorem bN.tl {a:Nat×Nat} {r:List (Nat×Nat)} (h:bN (a :: r)):a.1=a.2/\bN r:=h
inductive Stop (vs:List (Nat×Nat)) (p:Prop):Prop
  | mk (h:p) (a:bN vs:=by repeat (first | exact trivial | refine ⟨rfl,?_⟩)):Stop vs p
theorem bN.of {vs:List (Nat×Nat)}:∀ {ws:List (Nat×Nat)},bN (ws++vs)->bN vs
  | [],h=>h
  | _ :: _,h=>bN.of h.2
structure dX extends Tab where
  ki:List (Nat×IntKind)
  se:List (Nat×Nat)
  bl:List (Nat×List (Nat×Nat))
  zs:List (Nat×List Value)
  bz:List (Nat×Nat):=[]
  bb:List (Nat×Nat):=[]
  ar:List (Nat×(Nat×Nat)):=[]
def zB (P:Program):List (Nat×List Value)->Prop
  | []=>True
  | p :: r=>zeroOf P p.1=some p.2/\zB P r
theorem zB.get {P:Program}:∀ {l:List (Nat×List Value)} (_:zB P l) {p:Nat×List Value},p∈l->zeroOf P p.1=some p.2
  | [],_,p,hp=>by cases hp
  | q :: r,h,p,hp=>by
    rcases List.mem_cons.1 hp with e | hp
    · rw [e];exact h.1
    · exact h.2.get hp
structure cK (P:Program) (tb:dX):Prop where
  b:tT P tb.toTab
  ki:(tb.ki.all λp=>match P.underlying p.1 with | some (.int k)=>decide (k=p.2) | _=>false)=true
  se:(tb.se.all λp=>match P.underlying p.1 with | some (.slice e)=>Nat.beq e p.2 | _=>false)=true
  bl:(tb.bl.all λp=>decide (sU P p.1=some p.2))=true
  zs:zB P tb.zs
  bz:(tb.bz.all λp=>match P.info? p.1 with | some i=>Nat.beq i.size p.2 && Nat.blt 0 i.size | none=>false)=true:=by kernel_rfl
  bb:(tb.bb.all λp=>match iE P p.1 with | some n=>Nat.beq n p.2 && Nat.ble n 2048 | none=>false)=true:=by kernel_rfl
  ar:(tb.ar.all λp=>match P.underlying p.1 with | some (.array n e)=>Nat.beq n p.2.1 && Nat.beq e p.2.2 | _=>false)=true:=by kernel_rfl
theorem cK.BQ {tb:dX} (h:cK P tb) {T:Nat} {r:List Value} (e:bZ tb.zs T=some r):zeroOf P T=some r:=h.zs.get (oJ e)
theorem cK.BL {tb:dX} (h:cK P tb) {T sz:Nat} {zs:List Value} (e:bZ tb.bz T=some sz) (e2:bZ tb.zs T=some zs) (e3:(Nat.beq zs.length sz && iX zs)=true):fJ P T=some (sz,zs):=by
  have:=List.all_eq_true.1 h.bz _ (oJ e)
  simp only at this
  split at this
  · rename_i i hi
    rw [Bool.and_eq_true] at this e3
    have e1:=Nat.eq_of_beq_eq_true this.1
    subst e1
    unfold fJ
    rw [hi,h.BQ e2]
    simp only
    rw [e3.1,this.2,e3.2]
    rfl
  · cases this
theorem cK.uW {tb:dX} (h:cK P tb) {T n:Nat} (e:bZ tb.bb T=some n):iE P T=some n/\Nat.ble n 2048=true:=by
  have:=List.all_eq_true.1 h.bb _ (oJ e)
  simp only at this
  split at this
  · rename_i k hk
    rw [Bool.and_eq_true] at this
    have e1:=Nat.eq_of_beq_eq_true this.1
    subst e1
    exact ⟨hk,this.2⟩
  · cases this
theorem cK.E5 {tb:dX} (h:cK P tb) {T:Nat} {r:Nat×Nat} (e:bZ tb.ar T=some r):P.underlying T=some (.array r.1 r.2):=by
  have:=List.all_eq_true.1 h.ar _ (oJ e)
  simp only at this
  split at this
  · rename_i n k hk
    rw [Bool.and_eq_true] at this
    rw [hk,Nat.eq_of_beq_eq_true this.1,Nat.eq_of_beq_eq_true this.2]
  · cases this
theorem cK.UE {tb:dX} (h:cK P tb) {T:Nat} {k:IntKind} (e:bZ tb.ki T=some k):P.underlying T=some (.int k):=by
  have:=List.all_eq_true.1 h.ki _ (oJ e)
  simp only at this
  split at this
  · rename_i k' hk;rw [hk,of_decide_eq_true this]
  · cases this
theorem cK.kM {tb:dX} (h:cK P tb) {T e:Nat} (e1:bZ tb.se T=some e):P.underlying T=some (.slice e):=by
  have:=List.all_eq_true.1 h.se _ (oJ e1)
  simp only at this
  split at this
  · rename_i k' hk;rw [hk,Nat.eq_of_beq_eq_true this]
  · cases this
theorem cK.blv {tb:dX} (h:cK P tb) {T:Nat} {r:List (Nat×Nat)} (e:bZ tb.bl T=some r):sU P T=some r:=of_decide_eq_true (List.all_eq_true.1 h.bl _ (oJ e))
def jQ (S:AS):List Operand->(List AV->Prop)->Prop
  | [],k=>k []
  | x :: r,k=>match S.ev x with | some v=>jQ S r λvs=>k (v :: vs) | none=>False
theorem DC {S:AS}:∀ {l:List Operand} {k:List AV->Prop},jQ S l k->∃ vs,EvL S l vs/\k vs
  | [],k,h=>⟨[],.nil,h⟩
  | x :: r,k,h=>by
    unfold jQ at h
    split at h
    · rename_i v hv;obtain ⟨vs,h1,h2⟩:=DC h;exact ⟨v :: vs,.cons hv h1,h2⟩
    · exact h.elim
def gF (tb:dX) (S:AS) (o:Oper) (vs:List (Nat×Nat)) (k:List (Nat×Nat)->AV->Prop):Prop :=
  match o.op with
  | .move x=>match S.ev x with | some v=>k vs v | none=>False
  | .assign x=>match S.ev x with | some v=>k vs v | none=>False
  | .load T x =>
    match bZ tb.sh T with
    | some (m,b) =>
      match S.ev x with
      | some (.pp cs)=>match gD m b cs with | some v=>k vs v | none=>False
      | some (.pt id aG row off) =>
        match S.hp id with
        | some ob=>match ob.rows[row]? with
          | some r=>match gD m b (r.drop off) with | some v=>k ((ob.aG,aG) :: vs) v | none=>False
          | none=>False
        | none=>False
      | _=>False
    | none=>False
  | .fieldAddr T x f =>
    match mV tb.fo T f with
    | some m =>
      match S.ev x with
      | some (.pp cs)=>k vs (.pp (cs.drop m))
      | some (.pt id aG row off) =>
        match S.hp id with
        | some ob=>(match ob.rows[row]? with | some r=>k ((ob.aG,aG) :: vs) (.pt id aG row (off+m)) | none=>False)
        | none=>False
      | _=>False
    | none=>False
  | .field T x f =>
    match mV tb.fp T f with
    | some (off,T2) =>
      match bZ tb.sh T2 with
      | some (m,b)=>match S.ev x with
        | some (.agg cs)=>(match gD m b (cs.drop off) with | some v=>k vs v | none=>False)
        | _=>False
      | none=>False
    | none=>False
  | .extract x i=>match S.ev x with | some (.aU us)=>(match us[i]? with | some v=>k vs v | none=>False) | _=>False
  | .pick c x y =>
    match S.ev c with
    | some (.sc (.bool true))=>(match S.ev x with | some v=>k vs v | none=>False)
    | some (.sc (.bool false))=>(match S.ev y with | some v=>k vs v | none=>False)
    | _=>False
  | .unOp .not _ x=>match S.ev x with | some (.sc (.bool b))=>k vs (.sc (.bool (!b))) | _=>False
  | .unOp .neg _ x=>match S.ev x with | some (.sc (.int kk a))=>k vs (.sc (.int kk (kk.wrap (0-a)))) | _=>False
  | .convert T1 T2 x =>
    match bZ tb.ki T1 with
    | some _=>match bZ tb.ki T2 with
      | some kk=>match S.ev x with | some (.sc (.int _ a))=>k vs (.sc (.int kk (kk.wrap a))) | _=>False
      | none=>False
    | none=>False
  | .binOp b _ x y _ =>
    match S.ev x,S.ev y with
    | some (.sc (.int kk u)),some (.sc (.int k2 v)) =>
      match b with
      | .shl=>cond (decide (0<=v)) (k vs (.sc (.int kk (kk.wrap (u*2 ^ (min v.toNat kk.bits)))))) False
      | .shr=>cond (decide (0<=v)) (k vs (.sc (.int kk (u.fdiv (2 ^ (min v.toNat kk.bits)))))) False
      | b =>
        match decide (kk=k2) with
        | false=>False
        | true =>
          match b with
          | .add=>k vs (.sc (.int kk (kk.wrap (u+v))))
          | .sub=>k vs (.sc (.int kk (kk.wrap (u-v))))
          | .mul=>k vs (.sc (.int kk (kk.wrap (u*v))))
          | .lss=>k vs (.sc (.bool (decide (u<v))))
          | .leq=>k vs (.sc (.bool (decide (u<=v))))
          | .gtr=>k vs (.sc (.bool (decide (u>v))))
          | .geq=>k vs (.sc (.bool (decide (u>=v))))
          | .eql=>k vs (.sc (.bool (decide (u=v))))
          | .neq=>k vs (.sc (.bool (decide (u≠v))))
          | .quo=>cond (decide (v≠0)) (k vs (.sc (.int kk (kk.wrap (u.tdiv v))))) False
          | .rem=>cond (decide (v≠0)) (k vs (.sc (.int kk (u.tmod v)))) False
          | _=>False
    | _,_=>False
  | .build T ps =>
    match bZ tb.bl T with
    | some pl=>match bZ tb.zs T with
      | some zs=>match iX zs with
        | true=>jQ S (ps.toList.map (·.2)) λus=>(match lJ (λi=>pl[i]?) (zs.map .sc) ((ps.toList.map (·.1)).zip us) with | some cs=>k vs (.agg cs) | none=>False)
        | false=>False
      | none=>False
    | none=>False
  | .nilCheck x =>
    match S.ev x with
    | some (.pp cs)=>k vs (.pp cs)
    | some (.pt id aG row off) =>
      match S.hp id with
      | some ob=>(match ob.rows[row]? with | some r=>k ((ob.aG,aG) :: vs) (.pt id aG row off) | none=>False)
      | none=>False
    | _=>False
  | .makeFunc fn as cs=>jQ S as.toList λus=>jQ S cs.toList λws=>k vs (.fn fn us ws)
  | _=>False
theorem uF {tb:dX} (ht:cK P tb) {o:Oper} {vs:List (Nat×Nat)} {k:List (Nat×Nat)->AV->Prop} (h:gF tb S o vs k):∃ v us,k us v/\(bN us->bN vs)/\(bN us->bJ P o S v):=by
  unfold gF at h
  split at h
  · rename_i x ho
    split at h
    · rename_i v hv;exact ⟨v,vs,h,id,λ_=>kV ho hv⟩
    · exact h.elim
  · rename_i x ho
    split at h
    · rename_i v hv;exact ⟨v,vs,h,id,λ_=>sD ho hv⟩
    · exact h.elim
  · rename_i T x ho
    split at h
    · rename_i m b hm
      split at h
      · rename_i cs hx
        split at h
        · rename_i v hv;exact ⟨v,vs,h,id,λ_=>dV ho (ht.b.jO hm) hx (.pp _) hv⟩
        · exact h.elim
      · rename_i id aG row off hx
        split at h
        · rename_i ob hob
          split at h
          · rename_i r hr
            split at h
            · rename_i v hv;exact ⟨v,_,h,λe=>e.2,λe=>dV ho (ht.b.jO hm) hx (.pt hob e.1 hr) hv⟩
            · exact h.elim
          · exact h.elim
        · exact h.elim
      · exact h.elim
    · exact h.elim
  · rename_i T x f ho
    split at h
    · rename_i m hm
      split at h
      · rename_i cs hx;exact ⟨_,vs,h,id,λ_=>dK ho (ht.b.DX hm) hx (.pp _) (.pp _ _)⟩
      · rename_i id aG row off hx
        split at h
        · rename_i ob hob
          split at h
          · rename_i r hr;exact ⟨_,_,h,λe=>e.2,λe=>dK ho (ht.b.DX hm) hx (.pt hob e.1 hr) (.pt _ _ _ _ _)⟩
          · exact h.elim
        · exact h.elim
      · exact h.elim
    · exact h.elim
  · rename_i T x f ho
    split at h
    · rename_i off T2 hp
      split at h
      · rename_i m b hm
        split at h
        · rename_i cs hx
          split at h
          · rename_i v hv;exact ⟨v,vs,h,id,λ_=>aO5 ho (ht.b.fpv hp) (ht.b.jO hm) hx hv⟩
          · exact h.elim
        · exact h.elim
      · exact h.elim
    · exact h.elim
  · rename_i x i ho
    split at h
    · rename_i us hx
      split at h
      · rename_i v hv;exact ⟨v,vs,h,id,λ_=>Q4 ho hx hv⟩
      · exact h.elim
    · exact h.elim
  · rename_i c x y ho
    split at h
    · rename_i hc
      split at h
      · rename_i v hv;exact ⟨v,vs,h,id,λ_=>U7 (b:=true) (u:=v) (v:=v) ho hc (λ_=>hv) (λe=>by cases e) rfl⟩
      · exact h.elim
    · rename_i hc
      split at h
      · rename_i v hv;exact ⟨v,vs,h,id,λ_=>U7 (b:=false) (u:=v) (v:=v) ho hc (λe=>by cases e) (λ_=>hv) rfl⟩
      · exact h.elim
    · exact h.elim
  · rename_i T x ho
    split at h
    · rename_i b hx;exact ⟨_,vs,h,id,λ_=>FL ho hx rfl⟩
    · exact h.elim
  · rename_i T x ho
    split at h
    · rename_i b hx;exact ⟨_,vs,h,id,λ_=>aGT ho hx rfl⟩
    · exact h.elim
  · rename_i T1 T2 x ho
    split at h
    · rename_i k1 h1
      split at h
      · rename_i k2 h2
        split at h
        · rename_i k3 a hx;exact ⟨_,vs,h,id,λ_=>pX ho (ht.UE h1) (ht.UE h2) hx rfl⟩
        · exact h.elim
      · exact h.elim
    · exact h.elim
  · rename_i b T x y Ty ho
    split at h
    · rename_i kk u k2 v hx hy
      split at h
      · cases hb:decide (0<=v) with
        | true=>rw [hb] at h;exact ⟨_,vs,h,id,λ_=>yY ho hx hy (of_decide_eq_true hb) rfl⟩
        | false=>rw [hb] at h;exact h.elim
      · cases hb:decide (0<=v) with
        | true=>rw [hb] at h;exact ⟨_,vs,h,id,λ_=>xM ho hx hy (of_decide_eq_true hb) rfl⟩
        | false=>rw [hb] at h;exact h.elim
      · split at h
        · exact h.elim
        · rename_i hk
          have hk:=of_decide_eq_true hk
          subst hk
          split at h
          · exact ⟨_,vs,h,id,λ_=>aL0 ho hx hy rfl⟩
          · exact ⟨_,vs,h,id,λ_=>aJA ho hx hy rfl⟩
          · exact ⟨_,vs,h,id,λ_=>aWY ho hx hy rfl⟩
          · exact ⟨_,vs,h,id,λ_=>qT ho hx hy⟩
          · exact ⟨_,vs,h,id,λ_=>pP ho hx hy⟩
          · exact ⟨_,vs,h,id,λ_=>X0 ho hx hy⟩
          · exact ⟨_,vs,h,id,λ_=>XN ho hx hy⟩
          · exact ⟨_,vs,h,id,λ_=>gB ho hx hy⟩
          · exact ⟨_,vs,h,id,λ_=>aCP ho hx hy⟩
          · cases hb:decide (v≠0) with
            | true=>rw [hb] at h;exact ⟨_,vs,h,id,λ_=>yI ho hx hy (of_decide_eq_true hb) rfl⟩
            | false=>rw [hb] at h;exact h.elim
          · cases hb:decide (v≠0) with
            | true=>rw [hb] at h;exact ⟨_,vs,h,id,λ_=>oC ho hx hy (of_decide_eq_true hb) rfl⟩
            | false=>rw [hb] at h;exact h.elim
          · exact h.elim
    · exact h.elim
  · rename_i T ps ho
    split at h
    · rename_i pl h1
      split at h
      · rename_i zs h2
        split at h
        · rename_i h3
          obtain ⟨us,g1,g2⟩:=DC h
          split at g2
          · rename_i cs hf
            exact ⟨_,vs,g2,id,λ_=>pY (ps:=ps.toList) (by rw [ho]) (ht.blv h1) (ht.BQ h2) h3 g1 hf⟩
          · exact g2.elim
        · exact h.elim
      · exact h.elim
    · exact h.elim
  · rename_i x ho
    split at h
    · rename_i cs hx;exact ⟨_,vs,h,id,λ_=>iH ho hx (.pp _)⟩
    · rename_i id aG row off hx
      split at h
      · rename_i ob hob
        split at h
        · rename_i r hr;exact ⟨_,_,h,λe=>e.2,λe=>iH ho hx (.pt hob e.1 hr)⟩
        · exact h.elim
      · exact h.elim
    · exact h.elim
  · rename_i fn as cs ho
    obtain ⟨us,g1,g2⟩:=DC h
    obtain ⟨ws,g3,g4⟩:=DC g2
    exact ⟨_,vs,g4,id,λ_=>aEC (as:=as.toList) (cs:=cs.toList) (by rw [ho]) g1 g3⟩
  · exact h.elim
def gZ (P:Program) (n:NT) (tb:dX) (Q0:Go.Exit->AS->Prop):Nat->List Fm->Md->(Nat->Option AV)->AH->List (Nat×Nat)->Prop
  | 0,st,md,f,hp,vs=>Stop vs (GG P n Q0 st md ⟨f,hp⟩)
  | m+1,st,.c cs,f,hp,vs =>
    match cs with
    | .seq a b :: cs=>gZ P n tb Q0 m st (.c (a :: b :: cs)) f hp vs
    | .skip :: cs=>gZ P n tb Q0 m st (.c cs) f hp vs
    | .label _ :: cs=>gZ P n tb Q0 m st (.c cs) f hp vs
    | .region _ ops false :: cs=>match ops.toList.all iD with
      | true=>gZ P n tb Q0 m st (.r ops.toList ops.toList cs) f hp vs
      | false=>False
    | .block id x :: cs=>gZ P n tb Q0 m (.blk id cs :: st) (.c [x]) f hp vs
    | .exit i :: _=>match kU i st with
      | some (cs,st')=>gZ P n tb Q0 m st' (.c cs) f hp vs
      | none=>False
    | .cond c x y :: cs=>match AS.ev ⟨f,hp⟩ c with
      | some (.sc (.bool true))=>gZ P n tb Q0 m st (.c (x :: cs)) f hp vs
      | some (.sc (.bool false))=>gZ P n tb Q0 m st (.c (y :: cs)) f hp vs
      | _=>False
    | .scope x :: cs=>gZ P n tb Q0 m (.sc cs :: st) (.c [x]) f hp vs
    | .loop x :: _=>gZ P n tb Q0 m (.un 64 x :: st) (.c [x]) f hp vs
    | []=>match st with
      | .blk _ cs :: st=>gZ P n tb Q0 m st (.c cs) f hp vs
      | .sc cs :: st=>gZ P n tb Q0 m st (.c cs) f hp vs
      | .un (k+1) c :: st=>gZ P n tb Q0 m (.un k c :: st) (.c [c]) f hp vs
      | .rs it nx mo b y r p :: st=>match f it with
        | some (.sc (.pointer (some ⟨b',0,none⟩)))=>match r with
          | c :: r=>gZ P n tb Q0 m (.rs it nx mo b y r (p+1) :: st) (.c [y]) (upd (upd f nx (some (.aU [aF true,int p,.sc (.int .i32 c.toNat)]))) mo (some (aF true))) hp ((b',b) :: vs)
          | []=>gZ P n tb Q0 m (.un 0 y :: st) (.c [y]) (upd (upd f nx (some (.aU [aF false]))) mo (some (aF false))) hp ((b',b) :: vs)
        | _=>False
      | _=>False
    | _=>False
  | m+1,st,.r l todo cs,f,hp,vs =>
    match todo with
    | []=>gZ P n tb Q0 m st (.c cs) f hp vs
    | o :: rest =>
      match o.dst with
      | none=>False
      | some t =>
        match Nat.blt t n.n with
        | false=>False
        | true =>
          match Wd l ⟨f,hp⟩ o with
          | some false=>gZ P n tb Q0 m st (.r l rest cs) (upd f t (some (.sc undef))) hp vs
          | some true=>gF tb ⟨f,hp⟩ o vs λvs v=>gZ P n tb Q0 m st (.r l rest cs) (upd f t (some v)) hp vs
          | none=>False
theorem iR {tb:dX} (ht:cK P tb):∀ (m:Nat) (st:List Fm) (md:Md) (f:Nat->Option AV) (hp:AH) (vs:List (Nat×Nat)),gZ P n tb Q0 m st md f hp vs->bN vs/\GG P n Q0 st md ⟨f,hp⟩
  | 0,st,md,f,hp,vs,h=>by
    unfold gZ at h
    cases h with | mk h a=>exact ⟨a,h⟩
  | m+1,st,.c cs,f,hp,vs,h=>by
    simp only [gZ] at h
    split at h
    · have:=iR ht m _ _ _ _ _ h;exact ⟨this.1,wL this.2⟩
    · have:=iR ht m _ _ _ _ _ h;exact ⟨this.1,H8 this.2⟩
    · have:=iR ht m _ _ _ _ _ h;exact ⟨this.1,M8 this.2⟩
    · rename_i id ops cs
      split at h
      case h_2=>exact h.elim
      rename_i hnd
      have:=iR ht m _ _ _ _ _ h
      refine ⟨this.1,?_⟩
      have e:ops=ops.toList.toArray:=by simp
      show bR P n _ (.region id ops false :: cs) _
      rw [e]
      exact wM (λK hK=>this.2 K hK) hnd
    · have:=iR ht m _ _ _ _ _ h;exact ⟨this.1,aD3 this.2⟩
    · split at h
      · rename_i hp';have:=iR ht m _ _ _ _ _ h;exact ⟨this.1,aI1 hp' this.2⟩
      · exact h.elim
    · split at h
      · rename_i hc;have:=iR ht m _ _ _ _ _ h;exact ⟨this.1,UP hc this.2⟩
      · rename_i hc;have:=iR ht m _ _ _ _ _ h;exact ⟨this.1,VH hc this.2⟩
      · exact h.elim
    · have:=iR ht m _ _ _ _ _ h;exact ⟨this.1,aN6 this.2⟩
    · have:=iR ht m _ _ _ _ _ h;exact ⟨this.1,aM5 _ this.2⟩
    · split at h
      · have:=iR ht m _ _ _ _ _ h;exact ⟨this.1,this.2⟩
      · have:=iR ht m _ _ _ _ _ h;exact ⟨this.1,this.2⟩
      · have:=iR ht m _ _ _ _ _ h;exact ⟨this.1,this.2⟩
      · split at h
        · rename_i b' hit
          split at h
          · have:=iR ht m _ _ _ _ _ h
            refine ⟨this.1.2,?_⟩
            have e:b'=_:=this.1.1
            subst e
            exact (And.intro hit this.2:_/\_)
          · have:=iR ht m _ _ _ _ _ h
            refine ⟨this.1.2,?_⟩
            have e:b'=_:=this.1.1
            subst e
            exact (And.intro hit this.2:_/\_)
        · exact h.elim
      · exact h.elim
    · exact h.elim
  | m+1,st,.r l todo cs,f,hp,vs,h=>by
    simp only [gZ] at h
    split at h
    · have:=iR ht m _ _ _ _ _ h;exact ⟨this.1,λK hK=>uX (hK _ this.2)⟩
    · rename_i o rest
      split at h
      · exact h.elim
      · rename_i t hd
        split at h
        · exact h.elim
        · rename_i hn
          split at h
          · rename_i hw;have:=iR ht m _ _ _ _ _ h;exact ⟨this.1,λK hK=>sk hw hd hn (this.2 K hK)⟩
          · rename_i hw
            obtain ⟨v,us,h1,h2,h3⟩:=uF ht h
            have:=iR ht m _ _ _ _ _ h1
            exact ⟨h2 this.1,λK hK=>Go.Pv.st hw hd hn (h3 this.1) (this.2 K hK)⟩
          · exact h.elim
theorem tc {tb:dX} (ht:cK P tb) (m:Nat) (h:gZ P n tb Q0 m st (.c cs) f hp []):bR P n (QQ P n Q0 st) cs ⟨f,hp⟩:=(iR ht m st (.c cs) f hp [] h).2
theorem tr {tb:dX} (ht:cK P tb) (m:Nat) {l todo:List Oper} (h:gZ P n tb Q0 m st (.r l todo cs) f hp []):RR P n Q0 st l todo cs ⟨f,hp⟩:=(iR ht m st (.r l todo cs) f hp [] h).2
variable {ops rest todo:List Oper} {o:Oper}
theorem JG {t:Nat} {v:AV} (hw:Wd ops ⟨f,hp⟩ o=some true) (hd:o.dst=some t) (hn:Nat.blt t n.n=true) (hy:bJ P o ⟨f,hp⟩ v) (h:RR P n Q0 st ops rest cs ⟨upd f t (some v),hp⟩):RR P n Q0 st ops (o :: rest) cs ⟨f,hp⟩ :=
  λK hK=>Go.Pv.st hw hd hn hy (h K hK)
theorem gV {t:Nat} {Out:AV->AH->Prop} (hw:Wd ops ⟨f,hp⟩ o=some true) (hd:o.dst=some t) (hn:Nat.blt t n.n=true) (hy:bQ P o ⟨f,hp⟩ no any Out)
    (h:∀ v H',Out v H'->RR P n Q0 st ops rest cs ⟨upd f t (some v),H'⟩):RR P n Q0 st ops (o :: rest) cs ⟨f,hp⟩:=λK hK=>se hw hd hn hy λv H' hO=>h v H' hO K hK
theorem O5 {v:AV} {H':AH} (hw:Wd ops ⟨f,hp⟩ o=some true) (hd:o.dst=none) (hy:bQ P o ⟨f,hp⟩ no no (λz H=>z=v/\H=H'))
    (h:RR P n Q0 st ops rest cs ⟨f,H'⟩):RR P n Q0 st ops (o :: rest) cs ⟨f,hp⟩:=λK hK=>aG0 hw hd hy (h K hK)
theorem a3M {u:AV} (t:Nat) (v:AV) (h:f t=some u) (hc:Cv hp u v) (h1:RR P n Q0 st ops todo cs ⟨upd f t (some v),hp⟩):RR P n Q0 st ops todo cs ⟨f,hp⟩:=λK hK=>aDV t v h hc (h1 K hK)
theorem nv {α β:Type} {e:α} {G:α->Option β} {r:β} {av:α->AV} {tb:dX} (ht:cK P tb) {t:Nat} (h:bnd e G=some r) (k:∀ x,G x=some r->RR P n Q0 st ops rest cs ⟨upd f t (some (av x)),hp⟩)
    (hv:gF tb ⟨f,hp⟩ o [] λvs v=>v=av e/\bN vs) (hw:Wd ops ⟨f,hp⟩ o=some true) (hd:o.dst=some t) (hn:Nat.blt t n.n=true):RR P n Q0 st ops (o :: rest) cs ⟨f,hp⟩:=by
  obtain ⟨v,us,⟨rfl,h2⟩,_,h3⟩:=uF ht hv
  exact JG hw hd hn (h3 h2) (k e h)
theorem nb {β:Type} {e:Bool} {G:Bool->Option β} {r:β} {tb:dX} (ht:cK P tb) {t:Nat} (h:bnd e G=some r) (k:∀ x,G x=some r->RR P n Q0 st ops rest cs ⟨upd f t (some (aF x)),hp⟩)
    (hv:gF tb ⟨f,hp⟩ o [] λvs v=>v=aF e/\bN vs:=by exact ⟨rfl,by repeat (first | exact trivial | refine ⟨rfl,?_⟩)⟩) (hw:Wd ops ⟨f,hp⟩ o=some true:=by rfl) (hd:o.dst=some t:=by rfl) (hn:Nat.blt t n.n=true:=by rfl):RR P n Q0 st ops (o :: rest) cs ⟨f,hp⟩:=nv (av:=aF) ht h k hv hw hd hn
theorem ni {β:Type} {kk:IntKind} {e:Int} {G:Int->Option β} {r:β} {tb:dX} (ht:cK P tb) {t:Nat} (h:bnd e G=some r) (k:∀ x,G x=some r->RR P n Q0 st ops rest cs ⟨upd f t (some (.sc (.int kk x))),hp⟩)
    (hv:gF tb ⟨f,hp⟩ o [] λvs v=>v=.sc (.int kk e)/\bN vs:=by exact ⟨rfl,by repeat (first | exact trivial | refine ⟨rfl,?_⟩)⟩) (hw:Wd ops ⟨f,hp⟩ o=some true:=by rfl) (hd:o.dst=some t:=by rfl) (hn:Nat.blt t n.n=true:=by rfl):RR P n Q0 st ops (o :: rest) cs ⟨f,hp⟩:=nv (av:=λx=>.sc (.int kk x)) ht h k hv hw hd hn
theorem WR (Q:Go.Exit->AS->Prop):QQ P n Q []=Q:=by funext e S;rfl
theorem gN {f:FuncId} {fn:Func} {c:Code} {args:List AV} {H:AH} {R:AV->AH->Prop} (hf:P.funcs[f]?=some fn) (hb:fn.body=some c) (hle:Nat.ble args.length fn.ntmps=true)
    (h:∀ Q:Go.Exit->AS->Prop,(∀ S' vs H2,jB P S' fn.results.toList vs->(∀ t v,H2 t=some v->S'.hp t=some v)->R (lT vs) H2->Q .ret S')->(∀ S' vs H2,jB P S' fn.results.toList vs->(∀ t v,H2 t=some v->S'.hp t=some v)->R (lT vs) H2->Q .normal S') ->
      bR P ⟨fn.ntmps,false,[]⟩ (QQ P ⟨fn.ntmps,false,[]⟩ Q []) [c] ⟨λt=>args[t]?,H⟩):PC P f args H R :=
  RH hf hb hle λQ h1 h2=>by have:=h Q h1 h2;rw [WR] at this;exact this
def JJ {A K:Type} (St:A->K->AS) (I:A->Prop):AS->Prop:=λS'=>∃ a k,I a/\S'.gY (St a k)
theorem NL {A K:Type} (St:A->K->AS) (I:A->Prop) (h1:bR P n (QQ P n Q0 (.jn (JJ St I) :: st)) [x] S) (h2:∀ a k,I a->bR P n (QQ P n Q0 st) cs (St a k)):bR P n (QQ P n Q0 st) (x :: cs) S:=by
  have hrefl:∀ S':AS,S'.gY S':=λS' s hs=>⟨λt x hx=>⟨x,hx,λ_ h=>h⟩,hs,λ_ h=>h⟩
  refine Tr.yB (jG h1) ?_
  intro e S' hq
  cases e with
  | normal=>obtain ⟨a,k,hi,hl⟩:=hq;exact ⟨St a k,hl,h2 a k hi⟩
  | _=>exact ⟨S',hrefl S',hq⟩
def oH (f:Nat->Option AV):List Nat->(List (Nat×AV)->Prop)->Prop
  | [],k=>k []
  | t :: L,k=>match f t with | some v=>oH f L λl=>k ((t,v) :: l) | none=>False
theorem sN:∀ {L:List Nat} {k:List (Nat×AV)->Prop},oH f L k->∃ l,k l
  | [],k,h=>⟨[],h⟩
  | t :: L,k,h=>by
    unfold oH at h
    split at h
    · obtain ⟨l,hl⟩:=sN h;exact ⟨_,hl⟩
    · exact h.elim
def mZ (hp:AH):List Nat->(List (Nat×bC)->Prop)->Prop
  | [],k=>k []
  | t :: L,k=>match hp t with | some v=>mZ hp L λl=>k ((t,v) :: l) | none=>False
theorem o9:∀ {L:List Nat} {k:List (Nat×bC)->Prop},mZ hp L k->∃ l,k l
  | [],k,h=>⟨[],h⟩
  | t :: L,k,h=>by
    unfold mZ at h
    split at h
    · obtain ⟨l,hl⟩:=o9 h;exact ⟨_,hl⟩
    · exact h.elim
structure FP (p q:Prop):Prop where
  a:p
  b:q
theorem jn {A K R:Type} {X:Option A} {G:A->Option R} {r:R} (hD:X.bind G=some r) (L M:List Nat) (N:A->K->List (Nat×AV)) (O:A->K->List (Nat×bC))
    (h:oH f L λl=>mZ hp M λm=>FP (∀ j,X=some j->bR P n (QQ P n Q0 (.jn (JJ (λa k=>⟨kn (N a k++l),hk (O a k++m)⟩) (λa=>a=j)) :: st)) [x] ⟨f,hp⟩)
      (∀ a k,G a=some r->bR P n (QQ P n Q0 st) cs ⟨kn (N a k++l),hk (O a k++m)⟩)):bR P n (QQ P n Q0 st) (x :: cs) ⟨f,hp⟩:=by
  obtain ⟨l,h⟩:=sN h
  obtain ⟨m,h⟩:=o9 h
  obtain ⟨j,h1,h2⟩:=dJ hD
  exact NL _ _ (h.a j h1) λa k e=>h.b a k (e ▸ h2)
theorem dF {A K R:Type} {X:Option (A⊕R)} {G:A->Option R} {r:R} (hD:X.bind (sel G)=some r) (L M:List Nat) (N:A->K->List (Nat×AV)) (O:A->K->List (Nat×bC))
    (h:oH f L λl=>mZ hp M λm=>FP (∀ j,X=some j->sel G j=some r->bR P n (QQ P n Q0 (.jn (JJ (λa k=>⟨kn (N a k++l),hk (O a k++m)⟩) (λa=>j=.inl a)) :: st)) [x] ⟨f,hp⟩)
      (∀ a k,G a=some r->bR P n (QQ P n Q0 st) cs ⟨kn (N a k++l),hk (O a k++m)⟩)):bR P n (QQ P n Q0 st) (x :: cs) ⟨f,hp⟩:=by
  obtain ⟨l,h⟩:=sN h
  obtain ⟨m,h⟩:=o9 h
  obtain ⟨j,h1,h2⟩:=dJ hD
  exact NL _ _ (h.a j h1 h2) λa k e=>h.b a k (by subst e;exact h2)
theorem lf {A K:Type} {St:A->K->AS} {a j:A} (h:some a=some j) (k:K) (hl:S.gY (St a k)):bR P n (QQ P n Q0 (.jn (JJ St (λa=>a=j)) :: st)) [] S:=N5 (show JJ _ _ _ from ⟨a,k,eG h,hl⟩)
theorem lfE {A K C:Type} {St:A->K->AS} {a:A} {j:A⊕C} (h:brk a=some j) (k:K) (hl:S.gY (St a k)):bR P n (QQ P n Q0 (.jn (JJ St (λa=>j=.inl a)) :: st)) [] S:=N5 (show JJ _ _ _ from ⟨a,k,YY h,hl⟩)
def LJ {V K J:Type} (St:V->K->AS) (L:V->Option J) (j:J):AS->Prop:=λS'=>∃ v' k',L v'=some j/\S'.gY (St v' k')
theorem aDY {V K J:Type} (St:V->K->AS) (L:Nat->V->Option J) {j:J} {m0:Nat} (v0:V) (k0:K) (h:L m0 v0=some j) (hz:∀ v,L 0 v=none) (hle:S.gY (St v0 k0))
    (round:∀ m v k,m+1<=m0->L (m+1) v=some j->bR P n (QQ P n Q0 (.jn (LJ St (L m) j) :: st)) [x] (St v k)) :
    bR P n (QQ P n Q0 st) (.loop x :: cs) S:=by
  refine QY (ι:={ p:Nat×V×K // p.1<=m0/\L p.1 p.2.1=some j }) (λp=>St p.1.2.1 p.1.2.2) (λp=>p.1.1) ⟨(m0,v0,k0),Nat.le_refl _,h⟩ hle ?_
  rintro ⟨⟨m,v,k⟩,hm,hp⟩
  cases m with
  | zero=>rw [hz] at hp;cases hp
  | succ m =>
    refine Tr.mono (jG (round m v k hm hp)) ?_
    intro e S' hq
    cases e with
    | normal=>obtain ⟨v',k',h1,h2⟩:=hq;exact ⟨⟨(m,v',k'),Nat.le_trans (Nat.le_succ m) hm,h1⟩,Nat.lt_succ_self m,h2⟩
    | _=>exact hq
theorem lp {V K J:Type} (Lf:Nat->V->Option J) {j:J} {m0:Nat} (v0:V) (k0:K) (hD:Lf m0 v0=some j) (L M:List Nat) (N:V->K->List (Nat×AV)) (O:V->K->List (Nat×bC)) (hz:∀ v,Lf 0 v=none)
    (h:oH f L λl=>mZ hp M λm=>FP (AS.gY ⟨f,hp⟩ ⟨kn (N v0 k0++l),hk (O v0 k0++m)⟩)
      (∀ q v k,q+1<=m0->Lf (q+1) v=some j->bR P n (QQ P n Q0 (.jn (LJ (λv k=>⟨kn (N v k++l),hk (O v k++m)⟩) (Lf q) j) :: st)) [x] ⟨kn (N v k++l),hk (O v k++m)⟩)):bR P n (QQ P n Q0 st) (.loop x :: cs) ⟨f,hp⟩:=by
  obtain ⟨l,h⟩:=sN h
  obtain ⟨m,h⟩:=o9 h
  exact aDY _ Lf v0 k0 hD hz h.a h.b
theorem bk {V K J:Type} {St:V->K->AS} {L:V->Option J} {j:J} (v:V) (k:K) (h:L v=some j) (hl:S.gY (St v k)):bR P n (QQ P n Q0 (.jn (LJ St L j) :: st)) [] S:=N5 (show LJ _ _ _ _ from ⟨v,k,h,hl⟩)
end
end Go.Pv
