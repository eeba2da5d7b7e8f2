/- Walks in few words: a runner over code, its blocks and regions; joins, loops; values that get names. -/
import Derived.Test.YtcnbfkppbaenbaaGreatPvAC
import Derived.Scope
set_option linter.unusedVariables false
set_option linter.unusedSimpArgs false
namespace Go.Pv
inductive Fm
  | blk (id:Nat) (cs:List Code)
  | jn (J:AS->Prop)
  | un (k:Nat) (c:Code)
  | sc (cs:List Code)
  | rs (it nx mo b:Nat) (y:Code) (r:List UInt8) (p:Nat)
def UQ (P:Program) (n:NT) (c:Code) (F:Go.Exit->AS->Prop):Nat->Go.Exit->AS->Prop
  | 0,e,S=>match e with
    | .normal=>False
    | e=>F e S
  | k+1,e,S=>match e with
    | .normal=>eX P n (UQ P n c F k) [c] S
    | e=>F e S
def itp (b:Nat):AV:=.sc (.pointer (some ⟨b,0,none⟩))
def RQ (P:Program) (n:NT) (it nx mo b:Nat) (y:Code) (F:Go.Exit->AS->Prop):List UInt8->Nat->Go.Exit->AS->Prop
  | [],_,e,S=>match e with
    | .normal=>S.sl it=some (itp b)/\eX P n (UQ P n y F 0) [y] ⟨upd (upd S.sl nx (some (.bC [aT false]))) mo (some (aT false)),S.hp⟩
    | e=>F e S
  | c :: r,p,e,S=>match e with
    | .normal=>S.sl it=some (itp b)/\eX P n (RQ P n it nx mo b y F r (p+1)) [y] ⟨upd (upd S.sl nx (some (.bC [aT true,int p,.sc (.int .i32 c.toNat)]))) mo (some (aT true)),S.hp⟩
    | e=>F e S
def QQ (P:Program) (n:NT) (Q0:Go.Exit->AS->Prop):List Fm->Go.Exit->AS->Prop
  | [],e,S=>Q0 e S
  | .blk id cs :: st,e,S=>match e with
    | .normal=>eX P n (QQ P n Q0 st) cs S
    | .exit i=>cond (Nat.beq i id) (eX P n (QQ P n Q0 st) cs S) (QQ P n Q0 st (.exit i) S)
    | e=>QQ P n Q0 st e S
  | .jn J :: st,e,S=>match e with
    | .normal=>J S
    | e=>QQ P n Q0 st e S
  | .un k c :: st,e,S=>UQ P n c (QQ P n Q0 st) k e S
  | .sc cs :: st,e,S=>match e with
    | .normal=>eX P n (QQ P n Q0 st) cs S
    | .goto _=>False
    | e=>QQ P n Q0 st e S
  | .rs it nx mo b y r p :: st,e,S=>RQ P n it nx mo b y (QQ P n Q0 st) r p e S
def o7 (i:Nat):List Fm->Option (List Code×List Fm)
  | []=>none
  | .blk id cs :: st=>cond (Nat.beq i id) (some (cs,st)) (o7 i st)
  | .jn _ :: st=>o7 i st
  | .un _ _ :: st=>o7 i st
  | .sc _ :: st=>o7 i st
  | .rs _ _ _ _ _ _ _ :: st=>o7 i st
section
variable {P:Program} {n:NT} {Q0:Go.Exit->AS->Prop} {st:List Fm} {cs:List Code} {S:AS} {f:Nat->Option AV} {hp:AH} {x y:Code}
theorem zI {i:Nat}:∀ {st:List Fm} {cs:List Code} {st':List Fm},o7 i st=some (cs,st')->eX P n (QQ P n Q0 st') cs S->QQ P n Q0 st (.exit i) S
  | .blk id c2 :: st,cs,st',h,hq=>by
    simp only [o7] at h
    show cond (Nat.beq i id) _ _
    cases hb:Nat.beq i id with
    | true=>rw [hb] at h;simp only [cond_true,Option.some.injEq,Prod.mk.injEq] at h;obtain ⟨rfl,rfl⟩:=h;exact hq
    | false=>rw [hb] at h;exact zI h hq
  | .jn J :: st,cs,st',h,hq=>by
    simp only [o7] at h
    exact zI (st:=st) h hq
  | .un k _ :: st,cs,st',h,hq=>by
    simp only [o7] at h
    cases k <;> exact zI (st:=st) h hq
  | .sc _ :: st,cs,st',h,hq=>by
    simp only [o7] at h
    exact zI (st:=st) h hq
  | .rs _ _ _ _ _ r _ :: st,cs,st',h,hq=>by
    simp only [o7] at h
    cases r <;> exact zI (st:=st) h hq
theorem zQ (h:Q0 .ret S):∀ st:List Fm,QQ P n Q0 st .ret S
  | []=>h
  | .blk _ _ :: st=>zQ h st
  | .jn _ :: st=>zQ h st
  | .un k _ :: st=>by cases k <;> exact zQ h st
  | .sc _ :: st=>zQ h st
  | .rs _ _ _ _ _ r _ :: st=>by cases r <;> exact zQ h st
theorem aMI (h:Q0 .ret S):eX P n (QQ P n Q0 st) (.ret :: cs) S:=nO (zQ h st)
theorem aMX {i:Nat} {c2:List Code} {st':List Fm} (h:o7 i st=some (c2,st')) (hq:eX P n (QQ P n Q0 st') c2 S):eX P n (QQ P n Q0 st) (.exit i :: cs) S:=XZ (zI h hq)
theorem aH1 {id:Nat} (h:eX P n (QQ P n Q0 (.blk id cs :: st)) [x] S):eX P n (QQ P n Q0 st) (.block id x :: cs) S :=
  WH (Tr.mono (nQ h) λe S h=>by
    cases e with
    | exit i =>
      have h:cond (Nat.beq i id) (eX P n (QQ P n Q0 st) cs S) (QQ P n Q0 st (.exit i) S):=h
      show if i=id then _ else _
      cases hb:Nat.beq i id with
      | true=>rw [hb] at h;rw [if_pos (Nat.eq_of_beq_eq_true hb)];exact h
      | false=>rw [hb] at h;rw [if_neg (Nat.ne_of_beq_eq_false hb)];exact h
    | _=>exact h)
theorem aJV (h:eX P n (QQ P n Q0 (.sc cs :: st)) [x] S):eX P n (QQ P n Q0 st) (.scope x :: cs) S:=by
  intro s a hs
  refine V9 (nJ (nQ h s a hs) ?_)
  rintro e a1 w1 ⟨S1,s1,h1,h2,h3,h4⟩
  cases e with
  | goto l=>exact h2.elim
  | _=>exact ⟨S1,s1,h1,h2,h3,h4⟩
theorem aND (k:Nat) (h:eX P n (QQ P n Q0 (.un k x :: st)) [x] S):eX P n (QQ P n Q0 st) (.loop x :: cs) S:=by
  have e:QQ P n Q0 (.un k x :: st)=UQ P n x (QQ P n Q0 st) k:=by funext e S;rfl
  rw [e] at h
  refine aEP (ι:={ p:Nat×AS // eX P n (UQ P n x (QQ P n Q0 st) p.1) [x] p.2 }) (λp=>p.1.2) (λp=>p.1.1) ⟨(k,S),h⟩ (λs=>⟨λt y hy=>⟨y,hy,λ_ h=>h⟩,λh=>h,λ_ h=>h⟩) ?_
  rintro ⟨⟨m,S1⟩,hp⟩
  refine Tr.mono (nQ hp) λe S2 h2=>?_
  cases m with
  | zero=>cases e with
    | normal=>exact h2.elim
    | _=>exact h2
  | succ m=>cases e with
    | normal=>exact ⟨⟨(m,S2),h2⟩,Nat.lt_succ_self m,λs=>⟨λt y hy=>⟨y,hy,λ_ h=>h⟩,λh=>h,λ_ h=>h⟩⟩
    | _=>exact h2
def RR (P:Program) (n:NT) (Q0:Go.Exit->AS->Prop) (st:List Fm) (l todo:List Oper) (cs:List Code) (S:AS):Prop :=
  ∀ K:AS->Prop,(∀ S',eX P n (QQ P n Q0 st) cs S'->K S')->Rg P n l todo S K
def GG (P:Program) (n:NT) (Q0:Go.Exit->AS->Prop) (st:List Fm):Md->AS->Prop
  | .c cs,S=>eX P n (QQ P n Q0 st) cs S
  | .r l todo cs,S=>RR P n Q0 st l todo cs S
def eG:List (Nat×Nat)->Prop
  | []=>True
  | (a,b) :: r=>a=b/\eG r
inductive Stop (vs:List (Nat×Nat)) (p:Prop):Prop
  | mk (h:p) (a:eG vs:=by repeat (first | exact trivial | refine ⟨rfl,?_⟩)):Stop vs p
theorem eG.of {vs:List (Nat×Nat)}:∀ {ws:List (Nat×Nat)},eG (ws++vs)->eG vs
  | [],h=>h
  | _ :: _,h=>eG.of h.2
structure gZ extends Tab where
  ki:List (Nat×IntKind)
  se:List (Nat×Nat)
  bl:List (Nat×List (Nat×Nat))
  zs:List (Nat×List Value)
  bz:List (Nat×Nat):=[]
  bb:List (Nat×Nat):=[]
  ar:List (Nat×(Nat×Nat)):=[]
def F6 (P:Program):List (Nat×List Value)->Prop
  | []=>True
  | p :: r=>zeroOf P p.1=some p.2/\F6 P r
theorem F6.get {P:Program}:∀ {l:List (Nat×List Value)} (_:F6 P l) {p:Nat×List Value},p∈l->zeroOf P p.1=some p.2
  | [],_,p,hp=>by cases hp
  | q :: r,h,p,hp=>by
    rcases List.mem_cons.1 hp with e | hp
    · rw [e];exact h.1
    · exact h.2.get hp
structure fP (P:Program) (tb:gZ):Prop where
  b:xZ P tb.toTab
  ki:(tb.ki.all λp=>match P.underlying p.1 with | some (.int k)=>decide (k=p.2) | _=>false)=true
  se:(tb.se.all λp=>match P.underlying p.1 with | some (.slice e)=>Nat.beq e p.2 | _=>false)=true
  bl:(tb.bl.all λp=>decide (BP P p.1=some p.2))=true
  zs:F6 P tb.zs
  bz:(tb.bz.all λp=>match P.info? p.1 with | some i=>Nat.beq i.size p.2 && Nat.blt 0 i.size | none=>false)=true:=by kernel_rfl
  bb:(tb.bb.all λp=>match lF P p.1 with | some n=>Nat.beq n p.2 && Nat.ble n 2048 | none=>false)=true:=by kernel_rfl
  ar:(tb.ar.all λp=>match P.underlying p.1 with | some (.array n e)=>Nat.beq n p.2.1 && Nat.beq e p.2.2 | _=>false)=true:=by kernel_rfl
theorem fP.L4 {tb:gZ} (h:fP P tb) {T:Nat} {r:List Value} (e:fG tb.zs T=some r):zeroOf P T=some r:=h.zs.get (uH e)
theorem fP.FT {tb:gZ} (h:fP P tb) {T sz:Nat} {zs:List Value} (e:fG tb.bz T=some sz) (e2:fG tb.zs T=some zs) (e3:(Nat.beq zs.length sz && lI zs)=true):kK P T=some (sz,zs):=by
  have:=List.all_eq_true.1 h.bz _ (uH e)
  simp only at this
  split at this
  · rename_i i hi
    rw [Bool.and_eq_true] at this e3
    have e1:=Nat.eq_of_beq_eq_true this.1
    subst e1
    unfold kK
    rw [hi,h.L4 e2]
    simp only
    rw [e3.1,this.2,e3.2]
    rfl
  · cases this
theorem fP.yX {tb:gZ} (h:fP P tb) {T n:Nat} (e:fG tb.bb T=some n):lF P T=some n/\Nat.ble n 2048=true:=by
  have:=List.all_eq_true.1 h.bb _ (uH e)
  simp only at this
  split at this
  · rename_i k hk
    rw [Bool.and_eq_true] at this
    have e1:=Nat.eq_of_beq_eq_true this.1
    subst e1
    exact ⟨hk,this.2⟩
  · cases this
theorem fP.TH {tb:gZ} (h:fP P tb) {T:Nat} {r:Nat×Nat} (e:fG tb.ar T=some r):P.underlying T=some (.array r.1 r.2):=by
  have:=List.all_eq_true.1 h.ar _ (uH e)
  simp only at this
  split at this
  · rename_i n k hk
    rw [Bool.and_eq_true] at this
    rw [hk,Nat.eq_of_beq_eq_true this.1,Nat.eq_of_beq_eq_true this.2]
  · cases this
theorem fP.V2 {tb:gZ} (h:fP P tb) {T:Nat} {k:IntKind} (e:fG tb.ki T=some k):P.underlying T=some (.int k):=by
  have:=List.all_eq_true.1 h.ki _ (uH e)
  simp only at this
  split at this
  · rename_i k' hk;rw [hk,of_decide_eq_true this]
  · cases this
theorem fP.oQ {tb:gZ} (h:fP P tb) {T e:Nat} (e1:fG tb.se T=some e):P.underlying T=some (.slice e):=by
  have:=List.all_eq_true.1 h.se _ (uH e1)
  simp only at this
  split at this
  · rename_i k' hk;rw [hk,Nat.eq_of_beq_eq_true this]
  · cases this
theorem fP.blv {tb:gZ} (h:fP P tb) {T:Nat} {r:List (Nat×Nat)} (e:fG tb.bl T=some r):BP P T=some r:=of_decide_eq_true (List.all_eq_true.1 h.bl _ (uH e))
def mV (S:AS):List Operand->(List AV->Prop)->Prop
  | [],k=>k []
  | x :: r,k=>match S.ev x with | some v=>mV S r λvs=>k (v :: vs) | none=>False
theorem K3 {S:AS}:∀ {l:List Operand} {k:List AV->Prop},mV S l k->∃ vs,EvL S l vs/\k vs
  | [],k,h=>⟨[],.nil,h⟩
  | x :: r,k,h=>by
    unfold mV at h
    split at h
    · rename_i v hv;obtain ⟨vs,h1,h2⟩:=K3 h;exact ⟨v :: vs,.cons hv h1,h2⟩
    · exact h.elim
def kC (tb:gZ) (S:AS) (o:Oper) (vs:List (Nat×Nat)) (k:List (Nat×Nat)->AV->Prop):Prop :=
  match o.op with
  | .move x=>match S.ev x with | some v=>k vs v | none=>False
  | .assign x=>match S.ev x with | some v=>k vs v | none=>False
  | .load T x =>
    match fG tb.sh T with
    | some (m,b) =>
      match S.ev x with
      | some (.pp cs)=>match jZ m b cs with | some v=>k vs v | none=>False
      | some (.pt id aS row off) =>
        match S.hp id with
        | some ob=>match ob.rows[row]? with
          | some r=>match jZ m b (r.drop off) with | some v=>k ((ob.aS,aS) :: vs) v | none=>False
          | none=>False
        | none=>False
      | _=>False
    | none=>False
  | .fieldAddr T x f =>
    match qZ tb.fo T f with
    | some m =>
      match S.ev x with
      | some (.pp cs)=>k vs (.pp (cs.drop m))
      | some (.pt id aS row off) =>
        match S.hp id with
        | some ob=>(match ob.rows[row]? with | some r=>k ((ob.aS,aS) :: vs) (.pt id aS row (off+m)) | none=>False)
        | none=>False
      | _=>False
    | none=>False
  | .field T x f =>
    match qZ tb.fp T f with
    | some (off,T2) =>
      match fG tb.sh T2 with
      | some (m,b)=>match S.ev x with
        | some (.agg cs)=>(match jZ m b (cs.drop off) with | some v=>k vs v | none=>False)
        | _=>False
      | none=>False
    | none=>False
  | .extract x i=>match S.ev x with | some (.bC us)=>(match us[i]? with | some v=>k vs v | none=>False) | _=>False
  | .pick c x y =>
    match S.ev c with
    | some (.sc (.bool true))=>(match S.ev x with | some v=>k vs v | none=>False)
    | some (.sc (.bool false))=>(match S.ev y with | some v=>k vs v | none=>False)
    | _=>False
  | .unOp .not _ x=>match S.ev x with | some (.sc (.bool b))=>k vs (.sc (.bool (!b))) | _=>False
  | .unOp .neg _ x=>match S.ev x with | some (.sc (.int kk a))=>k vs (.sc (.int kk (kk.wrap (0-a)))) | _=>False
  | .convert T1 T2 x =>
    match fG tb.ki T1 with
    | some _=>match fG tb.ki T2 with
      | some kk=>match S.ev x with | some (.sc (.int _ a))=>k vs (.sc (.int kk (kk.wrap a))) | _=>False
      | none=>False
    | none=>False
  | .binOp b _ x y _ =>
    match S.ev x,S.ev y with
    | some (.sc (.int kk u)),some (.sc (.int k2 v)) =>
      match b with
      | .shl=>cond (decide (0<=v)) (k vs (.sc (.int kk (kk.wrap (u*2 ^ (min v.toNat kk.bits)))))) False
      | .shr=>cond (decide (0<=v)) (k vs (.sc (.int kk (u.fdiv (2 ^ (min v.toNat kk.bits)))))) False
      | b =>
        match decide (kk=k2) with
        | false=>False
        | true =>
          match b with
          | .add=>k vs (.sc (.int kk (kk.wrap (u+v))))
          | .sub=>k vs (.sc (.int kk (kk.wrap (u-v))))
          | .mul=>k vs (.sc (.int kk (kk.wrap (u*v))))
          | .lss=>k vs (.sc (.bool (decide (u<v))))
          | .leq=>k vs (.sc (.bool (decide (u<=v))))
          | .gtr=>k vs (.sc (.bool (decide (u>v))))
          | .geq=>k vs (.sc (.bool (decide (u>=v))))
          | .eql=>k vs (.sc (.bool (decide (u=v))))
          | .neq=>k vs (.sc (.bool (decide (u≠v))))
          | .quo=>cond (decide (v≠0)) (k vs (.sc (.int kk (kk.wrap (u.tdiv v))))) False
          | .rem=>cond (decide (v≠0)) (k vs (.sc (.int kk (u.tmod v)))) False
          | _=>False
    | _,_=>False
  | .build T ps =>
    match fG tb.bl T with
    | some pl=>match fG tb.zs T with
      | some zs=>match lI zs with
        | true=>mV S (ps.toList.map (·.2)) λus=>(match pY (λi=>pl[i]?) (zs.map .sc) ((ps.toList.map (·.1)).zip us) with | some cs=>k vs (.agg cs) | none=>False)
        | false=>False
      | none=>False
    | none=>False
  | .nilCheck x =>
    match S.ev x with
    | some (.pp cs)=>k vs (.pp cs)
    | some (.pt id aS row off) =>
      match S.hp id with
      | some ob=>(match ob.rows[row]? with | some r=>k ((ob.aS,aS) :: vs) (.pt id aS row off) | none=>False)
      | none=>False
    | _=>False
  | .makeFunc fn as cs=>mV S as.toList λus=>mV S cs.toList λws=>k vs (.fn fn us ws)
  | _=>False
theorem xA {tb:gZ} (ht:fP P tb) {o:Oper} {vs:List (Nat×Nat)} {k:List (Nat×Nat)->AV->Prop} (h:kC tb S o vs k):∃ v us,k us v/\(eG us->eG vs)/\(eG us->eB P o S v):=by
  unfold kC at h
  split at h
  · rename_i x ho
    split at h
    · rename_i v hv;exact ⟨v,vs,h,id,λ_=>lD ho hv⟩
    · exact h.elim
  · rename_i x ho
    split at h
    · rename_i v hv;exact ⟨v,vs,h,id,λ_=>kW ho hv⟩
    · exact h.elim
  · rename_i T x ho
    split at h
    · rename_i m b hm
      split at h
      · rename_i cs hx
        split at h
        · rename_i v hv;exact ⟨v,vs,h,id,λ_=>iK ho (ht.b.mW hm) hx (.pp _) hv⟩
        · exact h.elim
      · rename_i id aS row off hx
        split at h
        · rename_i ob hob
          split at h
          · rename_i r hr
            split at h
            · rename_i v hv;exact ⟨v,_,h,λe=>e.2,λe=>iK ho (ht.b.mW hm) hx (.pt hob e.1 hr) hv⟩
            · exact h.elim
          · exact h.elim
        · exact h.elim
      · exact h.elim
    · exact h.elim
  · rename_i T x f ho
    split at h
    · rename_i m hm
      split at h
      · rename_i cs hx;exact ⟨_,vs,h,id,λ_=>gN ho (ht.b.NK hm) hx (.pp _) (.pp _ _)⟩
      · rename_i id aS row off hx
        split at h
        · rename_i ob hob
          split at h
          · rename_i r hr;exact ⟨_,_,h,λe=>e.2,λe=>gN ho (ht.b.NK hm) hx (.pt hob e.1 hr) (.pt _ _ _ _ _)⟩
          · exact h.elim
        · exact h.elim
      · exact h.elim
    · exact h.elim
  · rename_i T x f ho
    split at h
    · rename_i off T2 hp
      split at h
      · rename_i m b hm
        split at h
        · rename_i cs hx
          split at h
          · rename_i v hv;exact ⟨v,vs,h,id,λ_=>aJ5 ho (ht.b.fpv hp) (ht.b.mW hm) hx hv⟩
          · exact h.elim
        · exact h.elim
      · exact h.elim
    · exact h.elim
  · rename_i x i ho
    split at h
    · rename_i us hx
      split at h
      · rename_i v hv;exact ⟨v,vs,h,id,λ_=>aQ8 ho hx hv⟩
      · exact h.elim
    · exact h.elim
  · rename_i c x y ho
    split at h
    · rename_i hc
      split at h
      · rename_i v hv;exact ⟨v,vs,h,id,λ_=>XT (b:=true) (u:=v) (v:=v) ho hc (λ_=>hv) (λe=>by cases e) rfl⟩
      · exact h.elim
    · rename_i hc
      split at h
      · rename_i v hv;exact ⟨v,vs,h,id,λ_=>XT (b:=false) (u:=v) (v:=v) ho hc (λe=>by cases e) (λ_=>hv) rfl⟩
      · exact h.elim
    · exact h.elim
  · rename_i T x ho
    split at h
    · rename_i b hx;exact ⟨_,vs,h,id,λ_=>aK6 ho hx rfl⟩
    · exact h.elim
  · rename_i T x ho
    split at h
    · rename_i b hx;exact ⟨_,vs,h,id,λ_=>aHX ho hx rfl⟩
    · exact h.elim
  · rename_i T1 T2 x ho
    split at h
    · rename_i k1 h1
      split at h
      · rename_i k2 h2
        split at h
        · rename_i k3 a hx;exact ⟨_,vs,h,id,λ_=>aRT ho (ht.V2 h1) (ht.V2 h2) hx rfl⟩
        · exact h.elim
      · exact h.elim
    · exact h.elim
  · rename_i b T x y Ty ho
    split at h
    · rename_i kk u k2 v hx hy
      split at h
      · cases hb:decide (0<=v) with
        | true=>rw [hb] at h;exact ⟨_,vs,h,id,λ_=>ON ho hx hy (of_decide_eq_true hb) rfl⟩
        | false=>rw [hb] at h;exact h.elim
      · cases hb:decide (0<=v) with
        | true=>rw [hb] at h;exact ⟨_,vs,h,id,λ_=>O0 ho hx hy (of_decide_eq_true hb) rfl⟩
        | false=>rw [hb] at h;exact h.elim
      · split at h
        · exact h.elim
        · rename_i hk
          have hk:=of_decide_eq_true hk
          subst hk
          split at h
          · exact ⟨_,vs,h,id,λ_=>aR0 ho hx hy rfl⟩
          · exact ⟨_,vs,h,id,λ_=>aG1 ho hx hy rfl⟩
          · exact ⟨_,vs,h,id,λ_=>WA ho hx hy rfl⟩
          · exact ⟨_,vs,h,id,λ_=>aV6 ho hx hy⟩
          · exact ⟨_,vs,h,id,λ_=>aI2 ho hx hy⟩
          · exact ⟨_,vs,h,id,λ_=>aWB ho hx hy⟩
          · exact ⟨_,vs,h,id,λ_=>aM4 ho hx hy⟩
          · exact ⟨_,vs,h,id,λ_=>aT9 ho hx hy⟩
          · exact ⟨_,vs,h,id,λ_=>aP1 ho hx hy⟩
          · cases hb:decide (v≠0) with
            | true=>rw [hb] at h;exact ⟨_,vs,h,id,λ_=>SL ho hx hy (of_decide_eq_true hb) rfl⟩
            | false=>rw [hb] at h;exact h.elim
          · cases hb:decide (v≠0) with
            | true=>rw [hb] at h;exact ⟨_,vs,h,id,λ_=>xG ho hx hy (of_decide_eq_true hb) rfl⟩
            | false=>rw [hb] at h;exact h.elim
          · exact h.elim
    · exact h.elim
  · rename_i T ps ho
    split at h
    · rename_i pl h1
      split at h
      · rename_i zs h2
        split at h
        · rename_i h3
          obtain ⟨us,g1,g2⟩:=K3 h
          split at g2
          · rename_i cs hf
            exact ⟨_,vs,g2,id,λ_=>IK (ps:=ps.toList) (by rw [ho]) (ht.blv h1) (ht.L4 h2) h3 g1 hf⟩
          · exact g2.elim
        · exact h.elim
      · exact h.elim
    · exact h.elim
  · rename_i x ho
    split at h
    · rename_i cs hx;exact ⟨_,vs,h,id,λ_=>lJ ho hx (.pp _)⟩
    · rename_i id aS row off hx
      split at h
      · rename_i ob hob
        split at h
        · rename_i r hr;exact ⟨_,_,h,λe=>e.2,λe=>lJ ho hx (.pt hob e.1 hr)⟩
        · exact h.elim
      · exact h.elim
    · exact h.elim
  · rename_i fn as cs ho
    obtain ⟨us,g1,g2⟩:=K3 h
    obtain ⟨ws,g3,g4⟩:=K3 g2
    exact ⟨_,vs,g4,id,λ_=>aMR (as:=as.toList) (cs:=cs.toList) (by rw [ho]) g1 g3⟩
  · exact h.elim
def kR (P:Program) (n:NT) (tb:gZ) (Q0:Go.Exit->AS->Prop):Nat->List Fm->Md->(Nat->Option AV)->AH->List (Nat×Nat)->Prop
  | 0,st,md,f,hp,vs=>Stop vs (GG P n Q0 st md ⟨f,hp⟩)
  | m+1,st,.c cs,f,hp,vs =>
    match cs with
    | .seq a b :: cs=>kR P n tb Q0 m st (.c (a :: b :: cs)) f hp vs
    | .skip :: cs=>kR P n tb Q0 m st (.c cs) f hp vs
    | .label _ :: cs=>kR P n tb Q0 m st (.c cs) f hp vs
    | .region _ ops false :: cs=>match ops.toList.all mX with
      | true=>kR P n tb Q0 m st (.r ops.toList ops.toList cs) f hp vs
      | false=>False
    | .block id x :: cs=>kR P n tb Q0 m (.blk id cs :: st) (.c [x]) f hp vs
    | .exit i :: _=>match o7 i st with
      | some (cs,st')=>kR P n tb Q0 m st' (.c cs) f hp vs
      | none=>False
    | .cond c x y :: cs=>match AS.ev ⟨f,hp⟩ c with
      | some (.sc (.bool true))=>kR P n tb Q0 m st (.c (x :: cs)) f hp vs
      | some (.sc (.bool false))=>kR P n tb Q0 m st (.c (y :: cs)) f hp vs
      | _=>False
    | .scope x :: cs=>kR P n tb Q0 m (.sc cs :: st) (.c [x]) f hp vs
    | .loop x :: _=>kR P n tb Q0 m (.un 64 x :: st) (.c [x]) f hp vs
    | []=>match st with
      | .blk _ cs :: st=>kR P n tb Q0 m st (.c cs) f hp vs
      | .sc cs :: st=>kR P n tb Q0 m st (.c cs) f hp vs
      | .un (k+1) c :: st=>kR P n tb Q0 m (.un k c :: st) (.c [c]) f hp vs
      | .rs it nx mo b y r p :: st=>match f it with
        | some (.sc (.pointer (some ⟨b',0,none⟩)))=>match r with
          | c :: r=>kR P n tb Q0 m (.rs it nx mo b y r (p+1) :: st) (.c [y]) (upd (upd f nx (some (.bC [aT true,int p,.sc (.int .i32 c.toNat)]))) mo (some (aT true))) hp ((b',b) :: vs)
          | []=>kR P n tb Q0 m (.un 0 y :: st) (.c [y]) (upd (upd f nx (some (.bC [aT false]))) mo (some (aT false))) hp ((b',b) :: vs)
        | _=>False
      | _=>False
    | _=>False
  | m+1,st,.r l todo cs,f,hp,vs =>
    match todo with
    | []=>kR P n tb Q0 m st (.c cs) f hp vs
    | o :: rest =>
      match o.dst with
      | none=>False
      | some t =>
        match Nat.blt t n.n with
        | false=>False
        | true =>
          match Wd l ⟨f,hp⟩ o with
          | some false=>kR P n tb Q0 m st (.r l rest cs) (upd f t (some (.sc undef))) hp vs
          | some true=>kC tb ⟨f,hp⟩ o vs λvs v=>kR P n tb Q0 m st (.r l rest cs) (upd f t (some v)) hp vs
          | none=>False
theorem lQ {tb:gZ} (ht:fP P tb):∀ (m:Nat) (st:List Fm) (md:Md) (f:Nat->Option AV) (hp:AH) (vs:List (Nat×Nat)),kR P n tb Q0 m st md f hp vs->eG vs/\GG P n Q0 st md ⟨f,hp⟩
  | 0,st,md,f,hp,vs,h=>by
    unfold kR at h
    cases h with | mk h a=>exact ⟨a,h⟩
  | m+1,st,.c cs,f,hp,vs,h=>by
    simp only [kR] at h
    split at h
    · have:=lQ ht m _ _ _ _ _ h;exact ⟨this.1,jT this.2⟩
    · have:=lQ ht m _ _ _ _ _ h;exact ⟨this.1,uL this.2⟩
    · have:=lQ ht m _ _ _ _ _ h;exact ⟨this.1,aCT this.2⟩
    · rename_i id ops cs
      split at h
      case h_2=>exact h.elim
      rename_i hnd
      have:=lQ ht m _ _ _ _ _ h
      refine ⟨this.1,?_⟩
      have e:ops=ops.toList.toArray:=by simp
      show eX P n _ (.region id ops false :: cs) _
      rw [e]
      exact jR (λK hK=>this.2 K hK) hnd
    · have:=lQ ht m _ _ _ _ _ h;exact ⟨this.1,aH1 this.2⟩
    · split at h
      · rename_i hp';have:=lQ ht m _ _ _ _ _ h;exact ⟨this.1,aMX hp' this.2⟩
      · exact h.elim
    · split at h
      · rename_i hc;have:=lQ ht m _ _ _ _ _ h;exact ⟨this.1,Z4 hc this.2⟩
      · rename_i hc;have:=lQ ht m _ _ _ _ _ h;exact ⟨this.1,aEA hc this.2⟩
      · exact h.elim
    · have:=lQ ht m _ _ _ _ _ h;exact ⟨this.1,aJV this.2⟩
    · have:=lQ ht m _ _ _ _ _ h;exact ⟨this.1,aND _ this.2⟩
    · split at h
      · have:=lQ ht m _ _ _ _ _ h;exact ⟨this.1,this.2⟩
      · have:=lQ ht m _ _ _ _ _ h;exact ⟨this.1,this.2⟩
      · have:=lQ ht m _ _ _ _ _ h;exact ⟨this.1,this.2⟩
      · split at h
        · rename_i b' hit
          split at h
          · have:=lQ ht m _ _ _ _ _ h
            refine ⟨this.1.2,?_⟩
            have e:b'=_:=this.1.1
            subst e
            exact (And.intro hit this.2:_/\_)
          · have:=lQ ht m _ _ _ _ _ h
            refine ⟨this.1.2,?_⟩
            have e:b'=_:=this.1.1
            subst e
            exact (And.intro hit this.2:_/\_)
        · exact h.elim
      · exact h.elim
    · exact h.elim
  | m+1,st,.r l todo cs,f,hp,vs,h=>by
    simp only [kR] at h
    split at h
    · have:=lQ ht m _ _ _ _ _ h;exact ⟨this.1,λK hK=>jP (hK _ this.2)⟩
    · rename_i o rest
      split at h
      · exact h.elim
      · rename_i t hd
        split at h
        · exact h.elim
        · rename_i hn
          split at h
          · rename_i hw;have:=lQ ht m _ _ _ _ _ h;exact ⟨this.1,λK hK=>sk hw hd hn (this.2 K hK)⟩
          · rename_i hw
            obtain ⟨v,us,h1,h2,h3⟩:=xA ht h
            have:=lQ ht m _ _ _ _ _ h1
            exact ⟨h2 this.1,λK hK=>Go.Pv.st hw hd hn (h3 this.1) (this.2 K hK)⟩
          · exact h.elim
theorem tc {tb:gZ} (ht:fP P tb) (m:Nat) (h:kR P n tb Q0 m st (.c cs) f hp []):eX P n (QQ P n Q0 st) cs ⟨f,hp⟩:=(lQ ht m st (.c cs) f hp [] h).2
theorem tr {tb:gZ} (ht:fP P tb) (m:Nat) {l todo:List Oper} (h:kR P n tb Q0 m st (.r l todo cs) f hp []):RR P n Q0 st l todo cs ⟨f,hp⟩:=(lQ ht m st (.r l todo cs) f hp [] h).2
variable {ops rest todo:List Oper} {o:Oper}
theorem OS {t:Nat} {v:AV} (hw:Wd ops ⟨f,hp⟩ o=some true) (hd:o.dst=some t) (hn:Nat.blt t n.n=true) (hy:eB P o ⟨f,hp⟩ v) (h:RR P n Q0 st ops rest cs ⟨upd f t (some v),hp⟩):RR P n Q0 st ops (o :: rest) cs ⟨f,hp⟩ :=
  λK hK=>Go.Pv.st hw hd hn hy (h K hK)
theorem QN {t:Nat} {Out:AV->AH->Prop} (hw:Wd ops ⟨f,hp⟩ o=some true) (hd:o.dst=some t) (hn:Nat.blt t n.n=true) (hy:eO P o ⟨f,hp⟩ no any Out)
    (h:∀ v H',Out v H'->RR P n Q0 st ops rest cs ⟨upd f t (some v),H'⟩):RR P n Q0 st ops (o :: rest) cs ⟨f,hp⟩:=λK hK=>se hw hd hn hy λv H' hO=>h v H' hO K hK
theorem aAR {v:AV} {H':AH} (hw:Wd ops ⟨f,hp⟩ o=some true) (hd:o.dst=none) (hy:eO P o ⟨f,hp⟩ no no (λz H=>z=v/\H=H'))
    (h:RR P n Q0 st ops rest cs ⟨f,H'⟩):RR P n Q0 st ops (o :: rest) cs ⟨f,hp⟩:=λK hK=>aPX hw hd hy (h K hK)
theorem nv {α β:Type} {e:α} {G:α->Option β} {r:β} {av:α->AV} {tb:gZ} (ht:fP P tb) {t:Nat} (h:bnd e G=some r) (k:∀ x,G x=some r->RR P n Q0 st ops rest cs ⟨upd f t (some (av x)),hp⟩)
    (hv:kC tb ⟨f,hp⟩ o [] λvs v=>v=av e/\eG vs) (hw:Wd ops ⟨f,hp⟩ o=some true) (hd:o.dst=some t) (hn:Nat.blt t n.n=true):RR P n Q0 st ops (o :: rest) cs ⟨f,hp⟩:=by
  obtain ⟨v,us,⟨rfl,h2⟩,_,h3⟩:=xA ht hv
  exact OS hw hd hn (h3 h2) (k e h)
theorem nb {β:Type} {e:Bool} {G:Bool->Option β} {r:β} {tb:gZ} (ht:fP P tb) {t:Nat} (h:bnd e G=some r) (k:∀ x,G x=some r->RR P n Q0 st ops rest cs ⟨upd f t (some (aT x)),hp⟩)
    (hv:kC tb ⟨f,hp⟩ o [] λvs v=>v=aT e/\eG vs:=by exact ⟨rfl,by repeat (first | exact trivial | refine ⟨rfl,?_⟩)⟩) (hw:Wd ops ⟨f,hp⟩ o=some true:=by rfl) (hd:o.dst=some t:=by rfl) (hn:Nat.blt t n.n=true:=by rfl):RR P n Q0 st ops (o :: rest) cs ⟨f,hp⟩:=nv (av:=aT) ht h k hv hw hd hn
theorem ni {β:Type} {kk:IntKind} {e:Int} {G:Int->Option β} {r:β} {tb:gZ} (ht:fP P tb) {t:Nat} (h:bnd e G=some r) (k:∀ x,G x=some r->RR P n Q0 st ops rest cs ⟨upd f t (some (.sc (.int kk x))),hp⟩)
    (hv:kC tb ⟨f,hp⟩ o [] λvs v=>v=.sc (.int kk e)/\eG vs:=by exact ⟨rfl,by repeat (first | exact trivial | refine ⟨rfl,?_⟩)⟩) (hw:Wd ops ⟨f,hp⟩ o=some true:=by rfl) (hd:o.dst=some t:=by rfl) (hn:Nat.blt t n.n=true:=by rfl):RR P n Q0 st ops (o :: rest) cs ⟨f,hp⟩:=nv (av:=λx=>.sc (.int kk x)) ht h k hv hw hd hn
theorem aXU (Q:Go.Exit->AS->Prop):QQ P n Q []=Q:=by funext e S;rfl
theorem pcw {f:FuncId} {fn:Func} {c:Code} {args:List AV} {H:AH} {R:AV->AH->Prop} (hf:P.funcs[f]?=some fn) (hb:fn.body=some c) (hle:Nat.ble args.length fn.ntmps=true)
    (h:∀ Q:Go.Exit->AS->Prop,(∀ S' vs H2,lY P S' fn.results.toList vs->(∀ t v,H2 t=some v->S'.hp t=some v)->R (sK vs) H2->Q .ret S')->(∀ S' vs H2,lY P S' fn.results.toList vs->(∀ t v,H2 t=some v->S'.hp t=some v)->R (sK vs) H2->Q .normal S') ->
      eX P ⟨fn.ntmps,false,[]⟩ (QQ P ⟨fn.ntmps,false,[]⟩ Q []) [c] ⟨λt=>args[t]?,H⟩):PC P f args H R :=
  vR hf hb hle λQ h1 h2=>by have:=h Q h1 h2;rw [aXU] at this;exact this
def JJ {A K:Type} (St:A->K->AS) (I:A->Prop):AS->Prop:=λS'=>∃ a k,I a/\S'.lC (St a k)
theorem aEK {A K:Type} (St:A->K->AS) (I:A->Prop) (h1:eX P n (QQ P n Q0 (.jn (JJ St I) :: st)) [x] S) (h2:∀ a k,I a->eX P n (QQ P n Q0 st) cs (St a k)):eX P n (QQ P n Q0 st) (x :: cs) S:=by
  have hrefl:∀ S':AS,S'.lC S':=λS' s hs=>⟨λt x hx=>⟨x,hx,λ_ h=>h⟩,hs,λ_ h=>h⟩
  refine Tr.TD (nQ h1) ?_
  intro e S' hq
  cases e with
  | normal=>obtain ⟨a,k,hi,hl⟩:=hq;exact ⟨St a k,hl,h2 a k hi⟩
  | _=>exact ⟨S',hrefl S',hq⟩
def uU (f:Nat->Option AV):List Nat->(List (Nat×AV)->Prop)->Prop
  | [],k=>k []
  | t :: L,k=>match f t with | some v=>uU f L λl=>k ((t,v) :: l) | none=>False
theorem yB:∀ {L:List Nat} {k:List (Nat×AV)->Prop},uU f L k->∃ l,k l
  | [],k,h=>⟨[],h⟩
  | t :: L,k,h=>by
    unfold uU at h
    split at h
    · obtain ⟨l,hl⟩:=yB h;exact ⟨_,hl⟩
    · exact h.elim
def rQ (hp:AH):List Nat->(List (Nat×cB)->Prop)->Prop
  | [],k=>k []
  | t :: L,k=>match hp t with | some v=>rQ hp L λl=>k ((t,v) :: l) | none=>False
theorem uF:∀ {L:List Nat} {k:List (Nat×cB)->Prop},rQ hp L k->∃ l,k l
  | [],k,h=>⟨[],h⟩
  | t :: L,k,h=>by
    unfold rQ at h
    split at h
    · obtain ⟨l,hl⟩:=uF h;exact ⟨_,hl⟩
    · exact h.elim
structure SO (p q:Prop):Prop where
  a:p
  b:q
theorem jn {A K R:Type} {X:Option A} {G:A->Option R} {r:R} (hD:X.bind G=some r) (L M:List Nat) (N:A->K->List (Nat×AV)) (O:A->K->List (Nat×cB))
    (h:uU f L λl=>rQ hp M λm=>SO (∀ j,X=some j->eX P n (QQ P n Q0 (.jn (JJ (λa k=>⟨kn (N a k++l),hk (O a k++m)⟩) (λa=>a=j)) :: st)) [x] ⟨f,hp⟩)
      (∀ a k,G a=some r->eX P n (QQ P n Q0 st) cs ⟨kn (N a k++l),hk (O a k++m)⟩)):eX P n (QQ P n Q0 st) (x :: cs) ⟨f,hp⟩:=by
  obtain ⟨l,h⟩:=yB h
  obtain ⟨m,h⟩:=uF h
  obtain ⟨j,h1,h2⟩:=oN hD
  exact aEK _ _ (h.a j h1) λa k e=>h.b a k (e ▸ h2)
theorem fD {A K R:Type} {X:Option (A⊕R)} {G:A->Option R} {r:R} (hD:X.bind (sel G)=some r) (L M:List Nat) (N:A->K->List (Nat×AV)) (O:A->K->List (Nat×cB))
    (h:uU f L λl=>rQ hp M λm=>SO (∀ j,X=some j->sel G j=some r->eX P n (QQ P n Q0 (.jn (JJ (λa k=>⟨kn (N a k++l),hk (O a k++m)⟩) (λa=>j=.inl a)) :: st)) [x] ⟨f,hp⟩)
      (∀ a k,G a=some r->eX P n (QQ P n Q0 st) cs ⟨kn (N a k++l),hk (O a k++m)⟩)):eX P n (QQ P n Q0 st) (x :: cs) ⟨f,hp⟩:=by
  obtain ⟨l,h⟩:=yB h
  obtain ⟨m,h⟩:=uF h
  obtain ⟨j,h1,h2⟩:=oN hD
  exact aEK _ _ (h.a j h1 h2) λa k e=>h.b a k (by subst e;exact h2)
theorem lf {A K:Type} {St:A->K->AS} {a j:A} (h:some a=some j) (k:K) (hl:S.lC (St a k)):eX P n (QQ P n Q0 (.jn (JJ St (λa=>a=j)) :: st)) [] S:=U0 (show JJ _ _ _ from ⟨a,k,RL h,hl⟩)
def LJ {V K J:Type} (St:V->K->AS) (L:V->Option J) (j:J):AS->Prop:=λS'=>∃ v' k',L v'=some j/\S'.lC (St v' k')
theorem aK9 {V K J:Type} (St:V->K->AS) (L:Nat->V->Option J) {j:J} {m0:Nat} (v0:V) (k0:K) (h:L m0 v0=some j) (hz:∀ v,L 0 v=none) (hle:S.lC (St v0 k0))
    (round:∀ m v k,m+1<=m0->L (m+1) v=some j->eX P n (QQ P n Q0 (.jn (LJ St (L m) j) :: st)) [x] (St v k)) :
    eX P n (QQ P n Q0 st) (.loop x :: cs) S:=by
  refine aB7 (ι:={ p:Nat×V×K // p.1<=m0/\L p.1 p.2.1=some j }) (λp=>St p.1.2.1 p.1.2.2) (λp=>p.1.1) ⟨(m0,v0,k0),Nat.le_refl _,h⟩ hle ?_
  rintro ⟨⟨m,v,k⟩,hm,hp⟩
  cases m with
  | zero=>rw [hz] at hp;cases hp
  | succ m =>
    refine Tr.mono (nQ (round m v k hm hp)) ?_
    intro e S' hq
    cases e with
    | normal=>obtain ⟨v',k',h1,h2⟩:=hq;exact ⟨⟨(m,v',k'),Nat.le_trans (Nat.le_succ m) hm,h1⟩,Nat.lt_succ_self m,h2⟩
    | _=>exact hq
theorem lp {V K J:Type} (Lf:Nat->V->Option J) {j:J} {m0:Nat} (v0:V) (k0:K) (hD:Lf m0 v0=some j) (L M:List Nat) (N:V->K->List (Nat×AV)) (O:V->K->List (Nat×cB)) (hz:∀ v,Lf 0 v=none)
    (h:uU f L λl=>rQ hp M λm=>SO (AS.lC ⟨f,hp⟩ ⟨kn (N v0 k0++l),hk (O v0 k0++m)⟩)
      (∀ q v k,q+1<=m0->Lf (q+1) v=some j->eX P n (QQ P n Q0 (.jn (LJ (λv k=>⟨kn (N v k++l),hk (O v k++m)⟩) (Lf q) j) :: st)) [x] ⟨kn (N v k++l),hk (O v k++m)⟩)):eX P n (QQ P n Q0 st) (.loop x :: cs) ⟨f,hp⟩:=by
  obtain ⟨l,h⟩:=yB h
  obtain ⟨m,h⟩:=uF h
  exact aK9 _ Lf v0 k0 hD hz h.a h.b
theorem bk {V K J:Type} {St:V->K->AS} {L:V->Option J} {j:J} (v:V) (k:K) (h:L v=some j) (hl:S.lC (St v k)):eX P n (QQ P n Q0 (.jn (LJ St L j) :: st)) [] S:=U0 (show LJ _ _ _ _ from ⟨v,k,h,hl⟩)
end
end Go.Pv
