/- Walks in few words: a runner over code, its blocks and regions; joins, loops; values that get names. -/
import Derived.Test.YtimkkeehkhkhcaaGreatPvAC
import Derived.Scope
set_option linter.unusedVariables false
set_option linter.unusedSimpArgs false
namespace Go.Pv
inductive Fm
  | blk (id:Nat) (cs:List Code)
  | jn (J:AS->Prop)
  | un (k:Nat) (c:Code)
  | sc (cs:List Code)
  | rs (it nx mo b:Nat) (y:Code) (r:List UInt8) (p:Nat)
def UQ (P:Program) (n:NT) (c:Code) (F:Go.Exit->AS->Prop):Nat->Go.Exit->AS->Prop
  | 0,e,S=>match e with
    | .normal=>False
    | e=>F e S
  | k+1,e,S=>match e with
    | .normal=>dI P n (UQ P n c F k) [c] S
    | e=>F e S
def rR (b:Nat):AV:=.sc (.pointer (some ⟨b,0,none⟩))
def RQ (P:Program) (n:NT) (it nx mo b:Nat) (y:Code) (F:Go.Exit->AS->Prop):List UInt8->Nat->Go.Exit->AS->Prop
  | [],_,e,S=>match e with
    | .normal=>S.sl it=some (rR b)/\dI P n (UQ P n y F 0) [y] ⟨upd (upd S.sl nx (some (.aM [aA false]))) mo (some (aA false)),S.hp⟩
    | e=>F e S
  | c :: r,p,e,S=>match e with
    | .normal=>S.sl it=some (rR b)/\dI P n (RQ P n it nx mo b y F r (p+1)) [y] ⟨upd (upd S.sl nx (some (.aM [aA true,int p,.sc (.int .i32 c.toNat)]))) mo (some (aA true)),S.hp⟩
    | e=>F e S
def QQ (P:Program) (n:NT) (Q0:Go.Exit->AS->Prop):List Fm->Go.Exit->AS->Prop
  | [],e,S=>Q0 e S
  | .blk id cs :: st,e,S=>match e with
    | .normal=>dI P n (QQ P n Q0 st) cs S
    | .exit i=>cond (Nat.beq i id) (dI P n (QQ P n Q0 st) cs S) (QQ P n Q0 st (.exit i) S)
    | e=>QQ P n Q0 st e S
  | .jn J :: st,e,S=>match e with
    | .normal=>J S
    | e=>QQ P n Q0 st e S
  | .un k c :: st,e,S=>UQ P n c (QQ P n Q0 st) k e S
  | .sc cs :: st,e,S=>match e with
    | .normal=>dI P n (QQ P n Q0 st) cs S
    | .goto _=>False
    | e=>QQ P n Q0 st e S
  | .rs it nx mo b y r p :: st,e,S=>RQ P n it nx mo b y (QQ P n Q0 st) r p e S
def oN (i:Nat):List Fm->Option (List Code×List Fm)
  | []=>none
  | .blk id cs :: st=>cond (Nat.beq i id) (some (cs,st)) (oN i st)
  | .jn _ :: st=>oN i st
  | .un _ _ :: st=>oN i st
  | .sc _ :: st=>oN i st
  | .rs _ _ _ _ _ _ _ :: st=>oN i st
section
variable {P:Program} {n:NT} {Q0:Go.Exit->AS->Prop} {st:List Fm} {cs:List Code} {S:AS} {f:Nat->Option AV} {hp:AH} {x y:Code}
theorem wQ {i:Nat}:∀ {st:List Fm} {cs:List Code} {st':List Fm},oN i st=some (cs,st')->dI P n (QQ P n Q0 st') cs S->QQ P n Q0 st (.exit i) S
  | .blk id c2 :: st,cs,st',h,hq=>by
    simp only [oN] at h
    show cond (Nat.beq i id) _ _
    cases hb:Nat.beq i id with
    | true=>rw [hb] at h;simp only [cond_true,Option.some.injEq,Prod.mk.injEq] at h;obtain ⟨rfl,rfl⟩:=h;exact hq
    | false=>rw [hb] at h;exact wQ h hq
  | .jn J :: st,cs,st',h,hq=>by
    simp only [oN] at h
    exact wQ (st:=st) h hq
  | .un k _ :: st,cs,st',h,hq=>by
    simp only [oN] at h
    cases k <;> exact wQ (st:=st) h hq
  | .sc _ :: st,cs,st',h,hq=>by
    simp only [oN] at h
    exact wQ (st:=st) h hq
  | .rs _ _ _ _ _ r _ :: st,cs,st',h,hq=>by
    simp only [oN] at h
    cases r <;> exact wQ (st:=st) h hq
theorem xD (h:Q0 .ret S):∀ st:List Fm,QQ P n Q0 st .ret S
  | []=>h
  | .blk _ _ :: st=>xD h st
  | .jn _ :: st=>xD h st
  | .un k _ :: st=>by cases k <;> exact xD h st
  | .sc _ :: st=>xD h st
  | .rs _ _ _ _ _ r _ :: st=>by cases r <;> exact xD h st
theorem fF (h:Q0 .ret S):dI P n (QQ P n Q0 st) (.ret :: cs) S:=iZ (xD h st)
theorem aJH {i:Nat} {c2:List Code} {st':List Fm} (h:oN i st=some (c2,st')) (hq:dI P n (QQ P n Q0 st') c2 S):dI P n (QQ P n Q0 st) (.exit i :: cs) S:=oV (wQ h hq)
theorem ZP {id:Nat} (h:dI P n (QQ P n Q0 (.blk id cs :: st)) [x] S):dI P n (QQ P n Q0 st) (.block id x :: cs) S :=
  IR (Tr.mono (kY h) λe S h=>by
    cases e with
    | exit i =>
      have h:cond (Nat.beq i id) (dI P n (QQ P n Q0 st) cs S) (QQ P n Q0 st (.exit i) S):=h
      show if i=id then _ else _
      cases hb:Nat.beq i id with
      | true=>rw [hb] at h;rw [if_pos (Nat.eq_of_beq_eq_true hb)];exact h
      | false=>rw [hb] at h;rw [if_neg (Nat.ne_of_beq_eq_false hb)];exact h
    | _=>exact h)
theorem aG1 (h:dI P n (QQ P n Q0 (.sc cs :: st)) [x] S):dI P n (QQ P n Q0 st) (.scope x :: cs) S:=by
  intro s a hs
  refine V9 (kJ (kY h s a hs) ?_)
  rintro e a1 w1 ⟨S1,s1,h1,h2,h3,h4⟩
  cases e with
  | goto l=>exact h2.elim
  | _=>exact ⟨S1,s1,h1,h2,h3,h4⟩
theorem aIU (k:Nat) (h:dI P n (QQ P n Q0 (.un k x :: st)) [x] S):dI P n (QQ P n Q0 st) (.loop x :: cs) S:=by
  have e:QQ P n Q0 (.un k x :: st)=UQ P n x (QQ P n Q0 st) k:=by funext e S;rfl
  rw [e] at h
  refine ES (ι:={ p:Nat×AS // dI P n (UQ P n x (QQ P n Q0 st) p.1) [x] p.2 }) (λp=>p.1.2) (λp=>p.1.1) ⟨(k,S),h⟩ (λs=>⟨λt y hy=>⟨y,hy,λ_ h=>h⟩,λh=>h,λ_ h=>h⟩) ?_
  rintro ⟨⟨m,S1⟩,hp⟩
  refine Tr.mono (kY hp) λe S2 h2=>?_
  cases m with
  | zero=>cases e with
    | normal=>exact h2.elim
    | _=>exact h2
  | succ m=>cases e with
    | normal=>exact ⟨⟨(m,S2),h2⟩,Nat.lt_succ_self m,λs=>⟨λt y hy=>⟨y,hy,λ_ h=>h⟩,λh=>h,λ_ h=>h⟩⟩
    | _=>exact h2
def RR (P:Program) (n:NT) (Q0:Go.Exit->AS->Prop) (st:List Fm) (l todo:List Oper) (cs:List Code) (S:AS):Prop :=
  ∀ K:AS->Prop,(∀ S',dI P n (QQ P n Q0 st) cs S'->K S')->Rg P n l todo S K
def GG (P:Program) (n:NT) (Q0:Go.Exit->AS->Prop) (st:List Fm):Md->AS->Prop
  | .c cs,S=>dI P n (QQ P n Q0 st) cs S
  | .r l todo cs,S=>RR P n Q0 st l todo cs S
theorem sK (h:Q0 .normal S):GG P n Q0 [] (.c []) S:=h
def dO:List (Nat×Nat)->Prop
  | []=>True
  | (a,b) :: r=>a=b/\dO r
inductive Stop (vs:List (Nat×Nat)) (p:Prop):Prop
  | mk (h:p) (a:dO vs:=by repeat (first | exact trivial | refine ⟨rfl,?_⟩)):Stop vs p
theorem dO.of {vs:List (Nat×Nat)}:∀ {ws:List (Nat×Nat)},dO (ws++vs)->dO vs
  | [],h=>h
  | _ :: _,h=>dO.of h.2
structure iC extends Tab where
  ki:List (Nat×IntKind)
  se:List (Nat×Nat)
  bl:List (Nat×List (Nat×Nat))
  zs:List (Nat×List Value)
  bz:List (Nat×Nat):=[]
  bb:List (Nat×Nat):=[]
  ar:List (Nat×(Nat×Nat)):=[]
def CJ (P:Program):List (Nat×List Value)->Prop
  | []=>True
  | p :: r=>zeroOf P p.1=some p.2/\CJ P r
theorem CJ.get {P:Program}:∀ {l:List (Nat×List Value)} (_:CJ P l) {p:Nat×List Value},p∈l->zeroOf P p.1=some p.2
  | [],_,p,hp=>by cases hp
  | q :: r,h,p,hp=>by
    rcases List.mem_cons.1 hp with e | hp
    · rw [e];exact h.1
    · exact h.2.get hp
structure fE (P:Program) (tb:iC):Prop where
  b:vJ P tb.toTab
  ki:(tb.ki.all λp=>match P.underlying p.1 with | some (.int k)=>decide (k=p.2) | _=>false)=true
  se:(tb.se.all λp=>match P.underlying p.1 with | some (.slice e)=>Nat.beq e p.2 | _=>false)=true
  bl:(tb.bl.all λp=>decide (vZ P p.1=some p.2))=true
  zs:CJ P tb.zs
  bz:(tb.bz.all λp=>match P.info? p.1 with | some i=>Nat.beq i.size p.2 && Nat.blt 0 i.size | none=>false)=true:=by kernel_rfl
  bb:(tb.bb.all λp=>match jK P p.1 with | some n=>Nat.beq n p.2 && Nat.ble n 2048 | none=>false)=true:=by kernel_rfl
  ar:(tb.ar.all λp=>match P.underlying p.1 with | some (.array n e)=>Nat.beq n p.2.1 && Nat.beq e p.2.2 | _=>false)=true:=by kernel_rfl
theorem fE.BA {tb:iC} (h:fE P tb) {T:Nat} {r:List Value} (e:eZ tb.zs T=some r):zeroOf P T=some r:=h.zs.get (sF e)
theorem fE.DN {tb:iC} (h:fE P tb) {T sz:Nat} {zs:List Value} (e:eZ tb.bz T=some sz) (e2:eZ tb.zs T=some zs) (e3:(Nat.beq zs.length sz && lF zs)=true):iW P T=some (sz,zs):=by
  have:=List.all_eq_true.1 h.bz _ (sF e)
  simp only at this
  split at this
  · rename_i i hi
    rw [Bool.and_eq_true] at this e3
    have e1:=Nat.eq_of_beq_eq_true this.1
    subst e1
    unfold iW
    rw [hi,h.BA e2]
    simp only
    rw [e3.1,this.2,e3.2]
    rfl
  · cases this
theorem fE.wZ {tb:iC} (h:fE P tb) {T n:Nat} (e:eZ tb.bb T=some n):jK P T=some n/\Nat.ble n 2048=true:=by
  have:=List.all_eq_true.1 h.bb _ (sF e)
  simp only at this
  split at this
  · rename_i k hk
    rw [Bool.and_eq_true] at this
    have e1:=Nat.eq_of_beq_eq_true this.1
    subst e1
    exact ⟨hk,this.2⟩
  · cases this
theorem fE.I9 {tb:iC} (h:fE P tb) {T:Nat} {r:Nat×Nat} (e:eZ tb.ar T=some r):P.underlying T=some (.array r.1 r.2):=by
  have:=List.all_eq_true.1 h.ar _ (sF e)
  simp only at this
  split at this
  · rename_i n k hk
    rw [Bool.and_eq_true] at this
    rw [hk,Nat.eq_of_beq_eq_true this.1,Nat.eq_of_beq_eq_true this.2]
  · cases this
theorem fE.S7 {tb:iC} (h:fE P tb) {T:Nat} {k:IntKind} (e:eZ tb.ki T=some k):P.underlying T=some (.int k):=by
  have:=List.all_eq_true.1 h.ki _ (sF e)
  simp only at this
  split at this
  · rename_i k' hk;rw [hk,of_decide_eq_true this]
  · cases this
theorem fE.nW {tb:iC} (h:fE P tb) {T e:Nat} (e1:eZ tb.se T=some e):P.underlying T=some (.slice e):=by
  have:=List.all_eq_true.1 h.se _ (sF e1)
  simp only at this
  split at this
  · rename_i k' hk;rw [hk,Nat.eq_of_beq_eq_true this]
  · cases this
theorem fE.blv {tb:iC} (h:fE P tb) {T:Nat} {r:List (Nat×Nat)} (e:eZ tb.bl T=some r):vZ P T=some r:=of_decide_eq_true (List.all_eq_true.1 h.bl _ (sF e))
def mU (S:AS):List Operand->(List AV->Prop)->Prop
  | [],k=>k []
  | x :: r,k=>match S.ev x with | some v=>mU S r λvs=>k (v :: vs) | none=>False
theorem BC {S:AS}:∀ {l:List Operand} {k:List AV->Prop},mU S l k->∃ vs,EvL S l vs/\k vs
  | [],k,h=>⟨[],.nil,h⟩
  | x :: r,k,h=>by
    unfold mU at h
    split at h
    · rename_i v hv;obtain ⟨vs,h1,h2⟩:=BC h;exact ⟨v :: vs,.cons hv h1,h2⟩
    · exact h.elim
def jT (tb:iC) (S:AS) (o:Oper) (vs:List (Nat×Nat)) (k:List (Nat×Nat)->AV->Prop):Prop :=
  match o.op with
  | .move x=>match S.ev x with | some v=>k vs v | none=>False
  | .assign x=>match S.ev x with | some v=>k vs v | none=>False
  | .load T x =>
    match eZ tb.sh T with
    | some (m,b) =>
      match S.ev x with
      | some (.pp cs)=>match jU m b cs with | some v=>k vs v | none=>False
      | some (.pt id aD row off) =>
        match S.hp id with
        | some ob=>match ob.rows[row]? with
          | some r=>match jU m b (r.drop off) with | some v=>k ((ob.aD,aD) :: vs) v | none=>False
          | none=>False
        | none=>False
      | _=>False
    | none=>False
  | .fieldAddr T x f =>
    match qF tb.fo T f with
    | some m =>
      match S.ev x with
      | some (.pp cs)=>k vs (.pp (cs.drop m))
      | some (.pt id aD row off) =>
        match S.hp id with
        | some ob=>(match ob.rows[row]? with | some r=>k ((ob.aD,aD) :: vs) (.pt id aD row (off+m)) | none=>False)
        | none=>False
      | _=>False
    | none=>False
  | .field T x f =>
    match qF tb.fp T f with
    | some (off,T2) =>
      match eZ tb.sh T2 with
      | some (m,b)=>match S.ev x with
        | some (.agg cs)=>(match jU m b (cs.drop off) with | some v=>k vs v | none=>False)
        | _=>False
      | none=>False
    | none=>False
  | .extract x i=>match S.ev x with | some (.aM us)=>(match us[i]? with | some v=>k vs v | none=>False) | _=>False
  | .pick c x y =>
    match S.ev c with
    | some (.sc (.bool true))=>(match S.ev x with | some v=>k vs v | none=>False)
    | some (.sc (.bool false))=>(match S.ev y with | some v=>k vs v | none=>False)
    | _=>False
  | .unOp .not _ x=>match S.ev x with | some (.sc (.bool b))=>k vs (.sc (.bool (!b))) | _=>False
  | .unOp .neg _ x=>match S.ev x with | some (.sc (.int kk a))=>k vs (.sc (.int kk (kk.wrap (0-a)))) | _=>False
  | .convert T1 T2 x =>
    match eZ tb.ki T1 with
    | some _=>match eZ tb.ki T2 with
      | some kk=>match S.ev x with | some (.sc (.int _ a))=>k vs (.sc (.int kk (kk.wrap a))) | _=>False
      | none=>False
    | none=>False
  | .binOp b _ x y _ =>
    match S.ev x,S.ev y with
    | some (.sc (.int kk u)),some (.sc (.int k2 v)) =>
      match b with
      | .shl=>cond (decide (0<=v)) (k vs (.sc (.int kk (kk.wrap (u*2 ^ (min v.toNat kk.bits)))))) False
      | .shr=>cond (decide (0<=v)) (k vs (.sc (.int kk (u.fdiv (2 ^ (min v.toNat kk.bits)))))) False
      | b =>
        match decide (kk=k2) with
        | false=>False
        | true =>
          match b with
          | .add=>k vs (.sc (.int kk (kk.wrap (u+v))))
          | .sub=>k vs (.sc (.int kk (kk.wrap (u-v))))
          | .mul=>k vs (.sc (.int kk (kk.wrap (u*v))))
          | .lss=>k vs (.sc (.bool (decide (u<v))))
          | .leq=>k vs (.sc (.bool (decide (u<=v))))
          | .gtr=>k vs (.sc (.bool (decide (u>v))))
          | .geq=>k vs (.sc (.bool (decide (u>=v))))
          | .eql=>k vs (.sc (.bool (decide (u=v))))
          | .neq=>k vs (.sc (.bool (decide (u≠v))))
          | .quo=>cond (decide (v≠0)) (k vs (.sc (.int kk (kk.wrap (u.tdiv v))))) False
          | .rem=>cond (decide (v≠0)) (k vs (.sc (.int kk (u.tmod v)))) False
          | _=>False
    | _,_=>False
  | .build T ps =>
    match eZ tb.bl T with
    | some pl=>match eZ tb.zs T with
      | some zs=>match lF zs with
        | true=>mU S (ps.toList.map (·.2)) λus=>(match pE (λi=>pl[i]?) (zs.map .sc) ((ps.toList.map (·.1)).zip us) with | some cs=>k vs (.agg cs) | none=>False)
        | false=>False
      | none=>False
    | none=>False
  | .nilCheck x =>
    match S.ev x with
    | some (.pp cs)=>k vs (.pp cs)
    | some (.pt id aD row off) =>
      match S.hp id with
      | some ob=>(match ob.rows[row]? with | some r=>k ((ob.aD,aD) :: vs) (.pt id aD row off) | none=>False)
      | none=>False
    | _=>False
  | .makeFunc fn as cs=>mU S as.toList λus=>mU S cs.toList λws=>k vs (.fn fn us ws)
  | _=>False
theorem vK {tb:iC} (ht:fE P tb) {o:Oper} {vs:List (Nat×Nat)} {k:List (Nat×Nat)->AV->Prop} (h:jT tb S o vs k):∃ v us,k us v/\(dO us->dO vs)/\(dO us->bS P o S v):=by
  unfold jT at h
  split at h
  · rename_i x ho
    split at h
    · rename_i v hv;exact ⟨v,vs,h,id,λ_=>bM ho hv⟩
    · exact h.elim
  · rename_i x ho
    split at h
    · rename_i v hv;exact ⟨v,vs,h,id,λ_=>eO ho hv⟩
    · exact h.elim
  · rename_i T x ho
    split at h
    · rename_i m b hm
      split at h
      · rename_i cs hx
        split at h
        · rename_i v hv;exact ⟨v,vs,h,id,λ_=>fG ho (ht.b.mH hm) hx (.pp _) hv⟩
        · exact h.elim
      · rename_i id aD row off hx
        split at h
        · rename_i ob hob
          split at h
          · rename_i r hr
            split at h
            · rename_i v hv;exact ⟨v,_,h,λe=>e.2,λe=>fG ho (ht.b.mH hm) hx (.pt hob e.1 hr) hv⟩
            · exact h.elim
          · exact h.elim
        · exact h.elim
      · exact h.elim
    · exact h.elim
  · rename_i T x f ho
    split at h
    · rename_i m hm
      split at h
      · rename_i cs hx;exact ⟨_,vs,h,id,λ_=>dX ho (ht.b.FE hm) hx (.pp _) (.pp _ _)⟩
      · rename_i id aD row off hx
        split at h
        · rename_i ob hob
          split at h
          · rename_i r hr;exact ⟨_,_,h,λe=>e.2,λe=>dX ho (ht.b.FE hm) hx (.pt hob e.1 hr) (.pt _ _ _ _ _)⟩
          · exact h.elim
        · exact h.elim
      · exact h.elim
    · exact h.elim
  · rename_i T x f ho
    split at h
    · rename_i off T2 hp
      split at h
      · rename_i m b hm
        split at h
        · rename_i cs hx
          split at h
          · rename_i v hv;exact ⟨v,vs,h,id,λ_=>aF8 ho (ht.b.fpv hp) (ht.b.mH hm) hx hv⟩
          · exact h.elim
        · exact h.elim
      · exact h.elim
    · exact h.elim
  · rename_i x i ho
    split at h
    · rename_i us hx
      split at h
      · rename_i v hv;exact ⟨v,vs,h,id,λ_=>TP ho hx hv⟩
      · exact h.elim
    · exact h.elim
  · rename_i c x y ho
    split at h
    · rename_i hc
      split at h
      · rename_i v hv;exact ⟨v,vs,h,id,λ_=>pV (b:=true) (u:=v) (v:=v) ho hc (λ_=>hv) (λe=>by cases e) rfl⟩
      · exact h.elim
    · rename_i hc
      split at h
      · rename_i v hv;exact ⟨v,vs,h,id,λ_=>pV (b:=false) (u:=v) (v:=v) ho hc (λe=>by cases e) (λ_=>hv) rfl⟩
      · exact h.elim
    · exact h.elim
  · rename_i T x ho
    split at h
    · rename_i b hx;exact ⟨_,vs,h,id,λ_=>EA ho hx rfl⟩
    · exact h.elim
  · rename_i T x ho
    split at h
    · rename_i b hx;exact ⟨_,vs,h,id,λ_=>yA ho hx rfl⟩
    · exact h.elim
  · rename_i T1 T2 x ho
    split at h
    · rename_i k1 h1
      split at h
      · rename_i k2 h2
        split at h
        · rename_i k3 a hx;exact ⟨_,vs,h,id,λ_=>jX ho (ht.S7 h1) (ht.S7 h2) hx rfl⟩
        · exact h.elim
      · exact h.elim
    · exact h.elim
  · rename_i b T x y Ty ho
    split at h
    · rename_i kk u k2 v hx hy
      split at h
      · cases hb:decide (0<=v) with
        | true=>rw [hb] at h;exact ⟨_,vs,h,id,λ_=>vD ho hx hy (of_decide_eq_true hb) rfl⟩
        | false=>rw [hb] at h;exact h.elim
      · cases hb:decide (0<=v) with
        | true=>rw [hb] at h;exact ⟨_,vs,h,id,λ_=>qA ho hx hy (of_decide_eq_true hb) rfl⟩
        | false=>rw [hb] at h;exact h.elim
      · split at h
        · exact h.elim
        · rename_i hk
          have hk:=of_decide_eq_true hk
          subst hk
          split at h
          · exact ⟨_,vs,h,id,λ_=>rD ho hx hy rfl⟩
          · exact ⟨_,vs,h,id,λ_=>IN ho hx hy rfl⟩
          · exact ⟨_,vs,h,id,λ_=>JQ ho hx hy rfl⟩
          · exact ⟨_,vs,h,id,λ_=>oC ho hx hy⟩
          · exact ⟨_,vs,h,id,λ_=>tN ho hx hy⟩
          · exact ⟨_,vs,h,id,λ_=>uX ho hx hy⟩
          · exact ⟨_,vs,h,id,λ_=>xH ho hx hy⟩
          · exact ⟨_,vs,h,id,λ_=>aS ho hx hy⟩
          · exact ⟨_,vs,h,id,λ_=>aB0 ho hx hy⟩
          · cases hb:decide (v≠0) with
            | true=>rw [hb] at h;exact ⟨_,vs,h,id,λ_=>LB ho hx hy (of_decide_eq_true hb) rfl⟩
            | false=>rw [hb] at h;exact h.elim
          · cases hb:decide (v≠0) with
            | true=>rw [hb] at h;exact ⟨_,vs,h,id,λ_=>uT ho hx hy (of_decide_eq_true hb) rfl⟩
            | false=>rw [hb] at h;exact h.elim
          · exact h.elim
    · exact h.elim
  · rename_i T ps ho
    split at h
    · rename_i pl h1
      split at h
      · rename_i zs h2
        split at h
        · rename_i h3
          obtain ⟨us,g1,g2⟩:=BC h
          split at g2
          · rename_i cs hf
            exact ⟨_,vs,g2,id,λ_=>F9 (ps:=ps.toList) (by rw [ho]) (ht.blv h1) (ht.BA h2) h3 g1 hf⟩
          · exact g2.elim
        · exact h.elim
      · exact h.elim
    · exact h.elim
  · rename_i x ho
    split at h
    · rename_i cs hx;exact ⟨_,vs,h,id,λ_=>bK ho hx (.pp _)⟩
    · rename_i id aD row off hx
      split at h
      · rename_i ob hob
        split at h
        · rename_i r hr;exact ⟨_,_,h,λe=>e.2,λe=>bK ho hx (.pt hob e.1 hr)⟩
        · exact h.elim
      · exact h.elim
    · exact h.elim
  · rename_i fn as cs ho
    obtain ⟨us,g1,g2⟩:=BC h
    obtain ⟨ws,g3,g4⟩:=BC g2
    exact ⟨_,vs,g4,id,λ_=>JC (as:=as.toList) (cs:=cs.toList) (by rw [ho]) g1 g3⟩
  · exact h.elim
def kD (P:Program) (n:NT) (tb:iC) (Q0:Go.Exit->AS->Prop):Nat->List Fm->Md->(Nat->Option AV)->AH->List (Nat×Nat)->Prop
  | 0,st,md,f,hp,vs=>Stop vs (GG P n Q0 st md ⟨f,hp⟩)
  | m+1,st,.c cs,f,hp,vs =>
    match cs with
    | .seq a b :: cs=>kD P n tb Q0 m st (.c (a :: b :: cs)) f hp vs
    | .skip :: cs=>kD P n tb Q0 m st (.c cs) f hp vs
    | .label _ :: cs=>kD P n tb Q0 m st (.c cs) f hp vs
    | .region _ ops false :: cs=>match ops.toList.all kN with
      | true=>kD P n tb Q0 m st (.r ops.toList ops.toList cs) f hp vs
      | false=>False
    | .block id x :: cs=>kD P n tb Q0 m (.blk id cs :: st) (.c [x]) f hp vs
    | .exit i :: _=>match oN i st with
      | some (cs,st')=>kD P n tb Q0 m st' (.c cs) f hp vs
      | none=>False
    | .cond c x y :: cs=>match AS.ev ⟨f,hp⟩ c with
      | some (.sc (.bool true))=>kD P n tb Q0 m st (.c (x :: cs)) f hp vs
      | some (.sc (.bool false))=>kD P n tb Q0 m st (.c (y :: cs)) f hp vs
      | _=>False
    | .scope x :: cs=>kD P n tb Q0 m (.sc cs :: st) (.c [x]) f hp vs
    | .loop x :: _=>kD P n tb Q0 m (.un 64 x :: st) (.c [x]) f hp vs
    | []=>match st with
      | .blk _ cs :: st=>kD P n tb Q0 m st (.c cs) f hp vs
      | .sc cs :: st=>kD P n tb Q0 m st (.c cs) f hp vs
      | .un (k+1) c :: st=>kD P n tb Q0 m (.un k c :: st) (.c [c]) f hp vs
      | .rs it nx mo b y r p :: st=>match f it with
        | some (.sc (.pointer (some ⟨b',0,none⟩)))=>match r with
          | c :: r=>kD P n tb Q0 m (.rs it nx mo b y r (p+1) :: st) (.c [y]) (upd (upd f nx (some (.aM [aA true,int p,.sc (.int .i32 c.toNat)]))) mo (some (aA true))) hp ((b',b) :: vs)
          | []=>kD P n tb Q0 m (.un 0 y :: st) (.c [y]) (upd (upd f nx (some (.aM [aA false]))) mo (some (aA false))) hp ((b',b) :: vs)
        | _=>False
      | _=>False
    | _=>False
  | m+1,st,.r l todo cs,f,hp,vs =>
    match todo with
    | []=>kD P n tb Q0 m st (.c cs) f hp vs
    | o :: rest =>
      match o.dst with
      | none=>False
      | some t =>
        match Nat.blt t n.n with
        | false=>False
        | true =>
          match Wd l ⟨f,hp⟩ o with
          | some false=>kD P n tb Q0 m st (.r l rest cs) (upd f t (some (.sc undef))) hp vs
          | some true=>jT tb ⟨f,hp⟩ o vs λvs v=>kD P n tb Q0 m st (.r l rest cs) (upd f t (some v)) hp vs
          | none=>False
theorem lI {tb:iC} (ht:fE P tb):∀ (m:Nat) (st:List Fm) (md:Md) (f:Nat->Option AV) (hp:AH) (vs:List (Nat×Nat)),kD P n tb Q0 m st md f hp vs->dO vs/\GG P n Q0 st md ⟨f,hp⟩
  | 0,st,md,f,hp,vs,h=>by
    unfold kD at h
    cases h with | mk h a=>exact ⟨a,h⟩
  | m+1,st,.c cs,f,hp,vs,h=>by
    simp only [kD] at h
    split at h
    · have:=lI ht m _ _ _ _ _ h;exact ⟨this.1,bR this.2⟩
    · have:=lI ht m _ _ _ _ _ h;exact ⟨this.1,kE this.2⟩
    · have:=lI ht m _ _ _ _ _ h;exact ⟨this.1,V8 this.2⟩
    · rename_i id ops cs
      split at h
      case h_2=>exact h.elim
      rename_i hnd
      have:=lI ht m _ _ _ _ _ h
      refine ⟨this.1,?_⟩
      have e:ops=ops.toList.toArray:=by simp
      show dI P n _ (.region id ops false :: cs) _
      rw [e]
      exact cB (λK hK=>this.2 K hK) hnd
    · have:=lI ht m _ _ _ _ _ h;exact ⟨this.1,ZP this.2⟩
    · split at h
      · rename_i hp';have:=lI ht m _ _ _ _ _ h;exact ⟨this.1,aJH hp' this.2⟩
      · exact h.elim
    · split at h
      · rename_i hc;have:=lI ht m _ _ _ _ _ h;exact ⟨this.1,yJ hc this.2⟩
      · rename_i hc;have:=lI ht m _ _ _ _ _ h;exact ⟨this.1,rA hc this.2⟩
      · exact h.elim
    · have:=lI ht m _ _ _ _ _ h;exact ⟨this.1,aG1 this.2⟩
    · have:=lI ht m _ _ _ _ _ h;exact ⟨this.1,aIU _ this.2⟩
    · split at h
      · have:=lI ht m _ _ _ _ _ h;exact ⟨this.1,this.2⟩
      · have:=lI ht m _ _ _ _ _ h;exact ⟨this.1,this.2⟩
      · have:=lI ht m _ _ _ _ _ h;exact ⟨this.1,this.2⟩
      · split at h
        · rename_i b' hit
          split at h
          · have:=lI ht m _ _ _ _ _ h
            refine ⟨this.1.2,?_⟩
            have e:b'=_:=this.1.1
            subst e
            exact (And.intro hit this.2:_/\_)
          · have:=lI ht m _ _ _ _ _ h
            refine ⟨this.1.2,?_⟩
            have e:b'=_:=this.1.1
            subst e
            exact (And.intro hit this.2:_/\_)
        · exact h.elim
      · exact h.elim
    · exact h.elim
  | m+1,st,.r l todo cs,f,hp,vs,h=>by
    simp only [kD] at h
    split at h
    · have:=lI ht m _ _ _ _ _ h;exact ⟨this.1,λK hK=>bT (hK _ this.2)⟩
    · rename_i o rest
      split at h
      · exact h.elim
      · rename_i t hd
        split at h
        · exact h.elim
        · rename_i hn
          split at h
          · rename_i hw;have:=lI ht m _ _ _ _ _ h;exact ⟨this.1,λK hK=>sk hw hd hn (this.2 K hK)⟩
          · rename_i hw
            obtain ⟨v,us,h1,h2,h3⟩:=vK ht h
            have:=lI ht m _ _ _ _ _ h1
            exact ⟨h2 this.1,λK hK=>Go.Pv.st hw hd hn (h3 this.1) (this.2 K hK)⟩
          · exact h.elim
theorem tc {tb:iC} (ht:fE P tb) (m:Nat) (h:kD P n tb Q0 m st (.c cs) f hp []):dI P n (QQ P n Q0 st) cs ⟨f,hp⟩:=(lI ht m st (.c cs) f hp [] h).2
theorem tr {tb:iC} (ht:fE P tb) (m:Nat) {l todo:List Oper} (h:kD P n tb Q0 m st (.r l todo cs) f hp []):RR P n Q0 st l todo cs ⟨f,hp⟩:=(lI ht m st (.r l todo cs) f hp [] h).2
variable {ops rest todo:List Oper} {o:Oper}
theorem E7 {t:Nat} {v:AV} (hw:Wd ops ⟨f,hp⟩ o=some true) (hd:o.dst=some t) (hn:Nat.blt t n.n=true) (hy:bS P o ⟨f,hp⟩ v) (h:RR P n Q0 st ops rest cs ⟨upd f t (some v),hp⟩):RR P n Q0 st ops (o :: rest) cs ⟨f,hp⟩ :=
  λK hK=>Go.Pv.st hw hd hn hy (h K hK)
theorem bO {t:Nat} {Out:AV->AH->Prop} (hw:Wd ops ⟨f,hp⟩ o=some true) (hd:o.dst=some t) (hn:Nat.blt t n.n=true) (hy:bW P o ⟨f,hp⟩ no any Out)
    (h:∀ v H',Out v H'->RR P n Q0 st ops rest cs ⟨upd f t (some v),H'⟩):RR P n Q0 st ops (o :: rest) cs ⟨f,hp⟩:=λK hK=>se hw hd hn hy λv H' hO=>h v H' hO K hK
theorem aGZ {v:AV} {H':AH} (hw:Wd ops ⟨f,hp⟩ o=some true) (hd:o.dst=none) (hy:bW P o ⟨f,hp⟩ no no (λz H=>z=v/\H=H'))
    (h:RR P n Q0 st ops rest cs ⟨f,H'⟩):RR P n Q0 st ops (o :: rest) cs ⟨f,hp⟩:=λK hK=>nS hw hd hy (h K hK)
theorem iN {u:AV} (t:Nat) (v:AV) (h:f t=some u) (e:u=v) (h1:RR P n Q0 st ops todo cs ⟨upd f t (some v),hp⟩):RR P n Q0 st ops todo cs ⟨f,hp⟩:=λK hK=>sas t v h e (h1 K hK)
theorem nv {α β:Type} {e:α} {G:α->Option β} {r:β} {av:α->AV} {tb:iC} (ht:fE P tb) {t:Nat} (h:bnd e G=some r) (k:∀ x,G x=some r->RR P n Q0 st ops rest cs ⟨upd f t (some (av x)),hp⟩)
    (hv:jT tb ⟨f,hp⟩ o [] λvs v=>v=av e/\dO vs) (hw:Wd ops ⟨f,hp⟩ o=some true) (hd:o.dst=some t) (hn:Nat.blt t n.n=true):RR P n Q0 st ops (o :: rest) cs ⟨f,hp⟩:=by
  obtain ⟨v,us,⟨rfl,h2⟩,_,h3⟩:=vK ht hv
  exact E7 hw hd hn (h3 h2) (k e h)
theorem nb {β:Type} {e:Bool} {G:Bool->Option β} {r:β} {tb:iC} (ht:fE P tb) {t:Nat} (h:bnd e G=some r) (k:∀ x,G x=some r->RR P n Q0 st ops rest cs ⟨upd f t (some (aA x)),hp⟩)
    (hv:jT tb ⟨f,hp⟩ o [] λvs v=>v=aA e/\dO vs:=by exact ⟨rfl,by repeat (first | exact trivial | refine ⟨rfl,?_⟩)⟩) (hw:Wd ops ⟨f,hp⟩ o=some true:=by rfl) (hd:o.dst=some t:=by rfl) (hn:Nat.blt t n.n=true:=by rfl):RR P n Q0 st ops (o :: rest) cs ⟨f,hp⟩:=nv (av:=aA) ht h k hv hw hd hn
theorem ni {β:Type} {kk:IntKind} {e:Int} {G:Int->Option β} {r:β} {tb:iC} (ht:fE P tb) {t:Nat} (h:bnd e G=some r) (k:∀ x,G x=some r->RR P n Q0 st ops rest cs ⟨upd f t (some (.sc (.int kk x))),hp⟩)
    (hv:jT tb ⟨f,hp⟩ o [] λvs v=>v=.sc (.int kk e)/\dO vs:=by exact ⟨rfl,by repeat (first | exact trivial | refine ⟨rfl,?_⟩)⟩) (hw:Wd ops ⟨f,hp⟩ o=some true:=by rfl) (hd:o.dst=some t:=by rfl) (hn:Nat.blt t n.n=true:=by rfl):RR P n Q0 st ops (o :: rest) cs ⟨f,hp⟩:=nv (av:=λx=>.sc (.int kk x)) ht h k hv hw hd hn
theorem aKE (Q:Go.Exit->AS->Prop):QQ P n Q []=Q:=by funext e S;rfl
theorem fC {f:FuncId} {fn:Func} {c:Code} {args:List AV} {H:AH} {R:AV->AH->Prop} (hf:P.funcs[f]?=some fn) (hb:fn.body=some c) (hle:Nat.ble args.length fn.ntmps=true)
    (h:∀ Q:Go.Exit->AS->Prop,(∀ S' vs H2,kX P S' fn.results.toList vs->(∀ t v,H2 t=some v->S'.hp t=some v)->R (l8 vs) H2->Q .ret S')->(∀ S' vs H2,kX P S' fn.results.toList vs->(∀ t v,H2 t=some v->S'.hp t=some v)->R (l8 vs) H2->Q .normal S') ->
      dI P ⟨fn.ntmps,false,[]⟩ (QQ P ⟨fn.ntmps,false,[]⟩ Q []) [c] ⟨λt=>args[t]?,H⟩):PC P f args H R :=
  jZ hf hb hle λQ h1 h2=>by have:=h Q h1 h2;rw [aKE] at this;exact this
def JJ {A K:Type} (St:A->K->AS) (I:A->Prop):AS->Prop:=λS'=>∃ a k,I a/\S'.kS (St a k)
theorem Q7 {A K:Type} (St:A->K->AS) (I:A->Prop) (h1:dI P n (QQ P n Q0 (.jn (JJ St I) :: st)) [x] S) (h2:∀ a k,I a->dI P n (QQ P n Q0 st) cs (St a k)):dI P n (QQ P n Q0 st) (x :: cs) S:=by
  have hrefl:∀ S':AS,S'.kS S':=λS' s hs=>⟨λt x hx=>⟨x,hx,λ_ h=>h⟩,hs,λ_ h=>h⟩
  refine Tr.BZ (kY h1) ?_
  intro e S' hq
  cases e with
  | normal=>obtain ⟨a,k,hi,hl⟩:=hq;exact ⟨St a k,hl,h2 a k hi⟩
  | _=>exact ⟨S',hrefl S',hq⟩
def sV (f:Nat->Option AV):List Nat->(List (Nat×AV)->Prop)->Prop
  | [],k=>k []
  | t :: L,k=>match f t with | some v=>sV f L λl=>k ((t,v) :: l) | none=>False
theorem vM:∀ {L:List Nat} {k:List (Nat×AV)->Prop},sV f L k->∃ l,k l
  | [],k,h=>⟨[],h⟩
  | t :: L,k,h=>by
    unfold sV at h
    split at h
    · obtain ⟨l,hl⟩:=vM h;exact ⟨_,hl⟩
    · exact h.elim
def qK (hp:AH):List Nat->(List (Nat×aW)->Prop)->Prop
  | [],k=>k []
  | t :: L,k=>match hp t with | some v=>qK hp L λl=>k ((t,v) :: l) | none=>False
theorem rV:∀ {L:List Nat} {k:List (Nat×aW)->Prop},qK hp L k->∃ l,k l
  | [],k,h=>⟨[],h⟩
  | t :: L,k,h=>by
    unfold qK at h
    split at h
    · obtain ⟨l,hl⟩:=rV h;exact ⟨_,hl⟩
    · exact h.elim
structure FP (p q:Prop):Prop where
  a:p
  b:q
theorem jn {A K R:Type} {X:Option A} {G:A->Option R} {r:R} (hD:X.bind G=some r) (L M:List Nat) (N:A->K->List (Nat×AV)) (O:A->K->List (Nat×aW))
    (h:sV f L λl=>qK hp M λm=>FP (∀ j,X=some j->dI P n (QQ P n Q0 (.jn (JJ (λa k=>⟨kn (N a k++l),hk (O a k++m)⟩) (λa=>a=j)) :: st)) [x] ⟨f,hp⟩)
      (∀ a k,G a=some r->dI P n (QQ P n Q0 st) cs ⟨kn (N a k++l),hk (O a k++m)⟩)):dI P n (QQ P n Q0 st) (x :: cs) ⟨f,hp⟩:=by
  obtain ⟨l,h⟩:=vM h
  obtain ⟨m,h⟩:=rV h
  obtain ⟨j,h1,h2⟩:=dD hD
  exact Q7 _ _ (h.a j h1) λa k e=>h.b a k (e ▸ h2)
theorem jS {A K R:Type} {X:Option (A⊕R)} {G:A->Option R} {r:R} (hD:X.bind (sel G)=some r) (L M:List Nat) (N:A->K->List (Nat×AV)) (O:A->K->List (Nat×aW))
    (h:sV f L λl=>qK hp M λm=>FP (∀ j,X=some j->sel G j=some r->dI P n (QQ P n Q0 (.jn (JJ (λa k=>⟨kn (N a k++l),hk (O a k++m)⟩) (λa=>j=.inl a)) :: st)) [x] ⟨f,hp⟩)
      (∀ a k,G a=some r->dI P n (QQ P n Q0 st) cs ⟨kn (N a k++l),hk (O a k++m)⟩)):dI P n (QQ P n Q0 st) (x :: cs) ⟨f,hp⟩:=by
  obtain ⟨l,h⟩:=vM h
  obtain ⟨m,h⟩:=rV h
  obtain ⟨j,h1,h2⟩:=dD hD
  exact Q7 _ _ (h.a j h1 h2) λa k e=>h.b a k (by subst e;exact h2)
theorem lf {A K:Type} {St:A->K->AS} {a j:A} (h:some a=some j) (k:K) (hl:S.kS (St a k)):dI P n (QQ P n Q0 (.jn (JJ St (λa=>a=j)) :: st)) [] S:=lS (show JJ _ _ _ from ⟨a,k,eH h,hl⟩)
def LJ {V K J:Type} (St:V->K->AS) (L:V->Option J) (j:J):AS->Prop:=λS'=>∃ v' k',L v'=some j/\S'.kS (St v' k')
theorem aHP {V K J:Type} (St:V->K->AS) (L:Nat->V->Option J) {j:J} {m0:Nat} (v0:V) (k0:K) (h:L m0 v0=some j) (hz:∀ v,L 0 v=none) (hle:S.kS (St v0 k0))
    (round:∀ m v k,m+1<=m0->L (m+1) v=some j->dI P n (QQ P n Q0 (.jn (LJ St (L m) j) :: st)) [x] (St v k)) :
    dI P n (QQ P n Q0 st) (.loop x :: cs) S:=by
  refine RG (ι:={ p:Nat×V×K // p.1<=m0/\L p.1 p.2.1=some j }) (λp=>St p.1.2.1 p.1.2.2) (λp=>p.1.1) ⟨(m0,v0,k0),Nat.le_refl _,h⟩ hle ?_
  rintro ⟨⟨m,v,k⟩,hm,hp⟩
  cases m with
  | zero=>rw [hz] at hp;cases hp
  | succ m =>
    refine Tr.mono (kY (round m v k hm hp)) ?_
    intro e S' hq
    cases e with
    | normal=>obtain ⟨v',k',h1,h2⟩:=hq;exact ⟨⟨(m,v',k'),Nat.le_trans (Nat.le_succ m) hm,h1⟩,Nat.lt_succ_self m,h2⟩
    | _=>exact hq
theorem lp {V K J:Type} (Lf:Nat->V->Option J) {j:J} {m0:Nat} (v0:V) (k0:K) (hD:Lf m0 v0=some j) (L M:List Nat) (N:V->K->List (Nat×AV)) (O:V->K->List (Nat×aW)) (hz:∀ v,Lf 0 v=none)
    (h:sV f L λl=>qK hp M λm=>FP (AS.kS ⟨f,hp⟩ ⟨kn (N v0 k0++l),hk (O v0 k0++m)⟩)
      (∀ q v k,q+1<=m0->Lf (q+1) v=some j->dI P n (QQ P n Q0 (.jn (LJ (λv k=>⟨kn (N v k++l),hk (O v k++m)⟩) (Lf q) j) :: st)) [x] ⟨kn (N v k++l),hk (O v k++m)⟩)):dI P n (QQ P n Q0 st) (.loop x :: cs) ⟨f,hp⟩:=by
  obtain ⟨l,h⟩:=vM h
  obtain ⟨m,h⟩:=rV h
  exact aHP _ Lf v0 k0 hD hz h.a h.b
theorem bk {V K J:Type} {St:V->K->AS} {L:V->Option J} {j:J} (v:V) (k:K) (h:L v=some j) (hl:S.kS (St v k)):dI P n (QQ P n Q0 (.jn (LJ St L j) :: st)) [] S:=lS (show LJ _ _ _ _ from ⟨v,k,h,hl⟩)
end
end Go.Pv
