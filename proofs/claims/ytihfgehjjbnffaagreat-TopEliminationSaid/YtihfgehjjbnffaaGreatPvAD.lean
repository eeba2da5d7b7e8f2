/- Walks in few words: a runner over code, its blocks and regions; joins, loops; values that get names. -/
import Derived.Test.YtihfgehjjbnffaaGreatPvAC
import Derived.Scope
set_option linter.unusedVariables false
set_option linter.unusedSimpArgs false
namespace Go.Pv
inductive Fm
  | blk (id:Nat) (cs:List Code)
  | jn (J:AS->Prop)
  | un (k:Nat) (c:Code)
  | sc (cs:List Code)
  | rs (it nx mo b:Nat) (y:Code) (r:List UInt8) (p:Nat)
def UQ (P:Program) (n:NT) (c:Code) (F:Go.Exit->AS->Prop):Nat->Go.Exit->AS->Prop
  | 0,e,S=>match e with
    | .normal=>False
    | e=>F e S
  | k+1,e,S=>match e with
    | .normal=>dF P n (UQ P n c F k) [c] S
    | e=>F e S
def BV (b:Nat):AV:=.sc (.pointer (some ⟨b,0,none⟩))
def RQ (P:Program) (n:NT) (it nx mo b:Nat) (y:Code) (F:Go.Exit->AS->Prop):List UInt8->Nat->Go.Exit->AS->Prop
  | [],_,e,S=>match e with
    | .normal=>S.sl it=some (BV b)/\dF P n (UQ P n y F 0) [y] ⟨upd (upd S.sl nx (some (.bD [aI false]))) mo (some (aI false)),S.hp⟩
    | e=>F e S
  | c :: r,p,e,S=>match e with
    | .normal=>S.sl it=some (BV b)/\dF P n (RQ P n it nx mo b y F r (p+1)) [y] ⟨upd (upd S.sl nx (some (.bD [aI true,int p,.sc (.int .i32 c.toNat)]))) mo (some (aI true)),S.hp⟩
    | e=>F e S
def QQ (P:Program) (n:NT) (Q0:Go.Exit->AS->Prop):List Fm->Go.Exit->AS->Prop
  | [],e,S=>Q0 e S
  | .blk id cs :: st,e,S=>match e with
    | .normal=>dF P n (QQ P n Q0 st) cs S
    | .exit i=>cond (Nat.beq i id) (dF P n (QQ P n Q0 st) cs S) (QQ P n Q0 st (.exit i) S)
    | e=>QQ P n Q0 st e S
  | .jn J :: st,e,S=>match e with
    | .normal=>J S
    | e=>QQ P n Q0 st e S
  | .un k c :: st,e,S=>UQ P n c (QQ P n Q0 st) k e S
  | .sc cs :: st,e,S=>match e with
    | .normal=>dF P n (QQ P n Q0 st) cs S
    | .goto _=>False
    | e=>QQ P n Q0 st e S
  | .rs it nx mo b y r p :: st,e,S=>RQ P n it nx mo b y (QQ P n Q0 st) r p e S
def qO (i:Nat):List Fm->Option (List Code×List Fm)
  | []=>none
  | .blk id cs :: st=>cond (Nat.beq i id) (some (cs,st)) (qO i st)
  | .jn _ :: st=>qO i st
  | .un _ _ :: st=>qO i st
  | .sc _ :: st=>qO i st
  | .rs _ _ _ _ _ _ _ :: st=>qO i st
section
variable {P:Program} {n:NT} {Q0:Go.Exit->AS->Prop} {st:List Fm} {cs:List Code} {S:AS} {f:Nat->Option AV} {hp:AH} {x y:Code}
theorem BR {i:Nat}:∀ {st:List Fm} {cs:List Code} {st':List Fm},qO i st=some (cs,st')->dF P n (QQ P n Q0 st') cs S->QQ P n Q0 st (.exit i) S
  | .blk id c2 :: st,cs,st',h,hq=>by
    simp only [qO] at h
    show cond (Nat.beq i id) _ _
    cases hb:Nat.beq i id with
    | true=>rw [hb] at h;simp only [cond_true,Option.some.injEq,Prod.mk.injEq] at h;obtain ⟨rfl,rfl⟩:=h;exact hq
    | false=>rw [hb] at h;exact BR h hq
  | .jn J :: st,cs,st',h,hq=>by
    simp only [qO] at h
    exact BR (st:=st) h hq
  | .un k _ :: st,cs,st',h,hq=>by
    simp only [qO] at h
    cases k <;> exact BR (st:=st) h hq
  | .sc _ :: st,cs,st',h,hq=>by
    simp only [qO] at h
    exact BR (st:=st) h hq
  | .rs _ _ _ _ _ r _ :: st,cs,st',h,hq=>by
    simp only [qO] at h
    cases r <;> exact BR (st:=st) h hq
theorem A7 (h:Q0 .ret S):∀ st:List Fm,QQ P n Q0 st .ret S
  | []=>h
  | .blk _ _ :: st=>A7 h st
  | .jn _ :: st=>A7 h st
  | .un k _ :: st=>by cases k <;> exact A7 h st
  | .sc _ :: st=>A7 h st
  | .rs _ _ _ _ _ r _ :: st=>by cases r <;> exact A7 h st
theorem iX (h:Q0 .ret S):dF P n (QQ P n Q0 st) (.ret :: cs) S:=MU (A7 h st)
theorem aNY {i:Nat} {c2:List Code} {st':List Fm} (h:qO i st=some (c2,st')) (hq:dF P n (QQ P n Q0 st') c2 S):dF P n (QQ P n Q0 st) (.exit i :: cs) S:=aGZ (BR h hq)
theorem aIN {id:Nat} (h:dF P n (QQ P n Q0 (.blk id cs :: st)) [x] S):dF P n (QQ P n Q0 st) (.block id x :: cs) S :=
  XH (Tr.mono (nD h) λe S h=>by
    cases e with
    | exit i =>
      have h:cond (Nat.beq i id) (dF P n (QQ P n Q0 st) cs S) (QQ P n Q0 st (.exit i) S):=h
      show if i=id then _ else _
      cases hb:Nat.beq i id with
      | true=>rw [hb] at h;rw [if_pos (Nat.eq_of_beq_eq_true hb)];exact h
      | false=>rw [hb] at h;rw [if_neg (Nat.ne_of_beq_eq_false hb)];exact h
    | _=>exact h)
theorem aS8 (h:dF P n (QQ P n Q0 (.sc cs :: st)) [x] S):dF P n (QQ P n Q0 st) (.scope x :: cs) S:=by
  intro s a hs
  refine XD (mV (nD h s a hs) ?_)
  rintro e a1 w1 ⟨S1,s1,h1,h2,h3,h4⟩
  cases e with
  | goto l=>exact h2.elim
  | _=>exact ⟨S1,s1,h1,h2,h3,h4⟩
theorem aL1 (k:Nat) (h:dF P n (QQ P n Q0 (.un k x :: st)) [x] S):dF P n (QQ P n Q0 st) (.loop x :: cs) S:=by
  have e:QQ P n Q0 (.un k x :: st)=UQ P n x (QQ P n Q0 st) k:=by funext e S;rfl
  rw [e] at h
  refine aCO (ι:={ p:Nat×AS // dF P n (UQ P n x (QQ P n Q0 st) p.1) [x] p.2 }) (λp=>p.1.2) (λp=>p.1.1) ⟨(k,S),h⟩ (λs=>⟨λt y hy=>⟨y,hy,λ_ h=>h⟩,λh=>h,λ_ h=>h⟩) ?_
  rintro ⟨⟨m,S1⟩,hp⟩
  refine Tr.mono (nD hp) λe S2 h2=>?_
  cases m with
  | zero=>cases e with
    | normal=>exact h2.elim
    | _=>exact h2
  | succ m=>cases e with
    | normal=>exact ⟨⟨(m,S2),h2⟩,Nat.lt_succ_self m,λs=>⟨λt y hy=>⟨y,hy,λ_ h=>h⟩,λh=>h,λ_ h=>h⟩⟩
    | _=>exact h2
def RR (P:Program) (n:NT) (Q0:Go.Exit->AS->Prop) (st:List Fm) (l todo:List Oper) (cs:List Code) (S:AS):Prop :=
  ∀ K:AS->Prop,(∀ S',dF P n (QQ P n Q0 st) cs S'->K S')->Rg P n l todo S K
def GG (P:Program) (n:NT) (Q0:Go.Exit->AS->Prop) (st:List Fm):Md->AS->Prop
  | .c cs,S=>dF P n (QQ P n Q0 st) cs S
  | .r l todo cs,S=>RR P n Q0 st l todo cs S
theorem vK (h:Q0 .normal S):GG P n Q0 [] (.c []) S:=h
def cB:List (Nat×Nat)->Prop
  | []=>True
  | (a,b) :: r=>a=b/\cB r
theorem cB.tl {a:Nat×Nat} {r:List (Nat×Nat)} (h:cB (a :: r)):a.1=a.2/\cB r:=h
inductive Stop (vs:List (Nat×Nat)) (p:Prop):Prop
  | mk (h:p) (a:cB vs:=by repeat (first | exact trivial | refine ⟨rfl,?_⟩)):Stop vs p
theorem cB.of {vs:List (Nat×Nat)}:∀ {ws:List (Nat×Nat)},cB (ws++vs)->cB vs
  | [],h=>h
  | _ :: _,h=>cB.of h.2
structure gT extends Tab where
  ki:List (Nat×IntKind)
  se:List (Nat×Nat)
  bl:List (Nat×List (Nat×Nat))
  zs:List (Nat×List Value)
  bz:List (Nat×Nat):=[]
  bb:List (Nat×Nat):=[]
  ar:List (Nat×(Nat×Nat)):=[]
def MO (P:Program):List (Nat×List Value)->Prop
  | []=>True
  | p :: r=>zeroOf P p.1=some p.2/\MO P r
theorem MO.get {P:Program}:∀ {l:List (Nat×List Value)} (_:MO P l) {p:Nat×List Value},p∈l->zeroOf P p.1=some p.2
  | [],_,p,hp=>by cases hp
  | q :: r,h,p,hp=>by
    rcases List.mem_cons.1 hp with e | hp
    · rw [e];exact h.1
    · exact h.2.get hp
structure dW (P:Program) (tb:gT):Prop where
  b:AR P tb.toTab
  ki:(tb.ki.all λp=>match P.underlying p.1 with | some (.int k)=>decide (k=p.2) | _=>false)=true
  se:(tb.se.all λp=>match P.underlying p.1 with | some (.slice e)=>Nat.beq e p.2 | _=>false)=true
  bl:(tb.bl.all λp=>decide (yN P p.1=some p.2))=true
  zs:MO P tb.zs
  bz:(tb.bz.all λp=>match P.info? p.1 with | some i=>Nat.beq i.size p.2 && Nat.blt 0 i.size | none=>false)=true:=by kernel_rfl
  bb:(tb.bb.all λp=>match lX P p.1 with | some n=>Nat.beq n p.2 && Nat.ble n 2048 | none=>false)=true:=by kernel_rfl
  ar:(tb.ar.all λp=>match P.underlying p.1 with | some (.array n e)=>Nat.beq n p.2.1 && Nat.beq e p.2.2 | _=>false)=true:=by kernel_rfl
theorem dW.NZ {tb:gT} (h:dW P tb) {T:Nat} {r:List Value} (e:dR tb.zs T=some r):zeroOf P T=some r:=h.zs.get (wO e)
theorem dW.MV {tb:gT} (h:dW P tb) {T sz:Nat} {zs:List Value} (e:dR tb.bz T=some sz) (e2:dR tb.zs T=some zs) (e3:(Nat.beq zs.length sz && nL zs)=true):iR P T=some (sz,zs):=by
  have:=List.all_eq_true.1 h.bz _ (wO e)
  simp only at this
  split at this
  · rename_i i hi
    rw [Bool.and_eq_true] at this e3
    have e1:=Nat.eq_of_beq_eq_true this.1
    subst e1
    unfold iR
    rw [hi,h.NZ e2]
    simp only
    rw [e3.1,this.2,e3.2]
    rfl
  · cases this
theorem dW.AT {tb:gT} (h:dW P tb) {T n:Nat} (e:dR tb.bb T=some n):lX P T=some n/\Nat.ble n 2048=true:=by
  have:=List.all_eq_true.1 h.bb _ (wO e)
  simp only at this
  split at this
  · rename_i k hk
    rw [Bool.and_eq_true] at this
    have e1:=Nat.eq_of_beq_eq_true this.1
    subst e1
    exact ⟨hk,this.2⟩
  · cases this
theorem dW.TF {tb:gT} (h:dW P tb) {T:Nat} {r:Nat×Nat} (e:dR tb.ar T=some r):P.underlying T=some (.array r.1 r.2):=by
  have:=List.all_eq_true.1 h.ar _ (wO e)
  simp only at this
  split at this
  · rename_i n k hk
    rw [Bool.and_eq_true] at this
    rw [hk,Nat.eq_of_beq_eq_true this.1,Nat.eq_of_beq_eq_true this.2]
  · cases this
theorem dW.kiv {tb:gT} (h:dW P tb) {T:Nat} {k:IntKind} (e:dR tb.ki T=some k):P.underlying T=some (.int k):=by
  have:=List.all_eq_true.1 h.ki _ (wO e)
  simp only at this
  split at this
  · rename_i k' hk;rw [hk,of_decide_eq_true this]
  · cases this
theorem dW.qJ {tb:gT} (h:dW P tb) {T e:Nat} (e1:dR tb.se T=some e):P.underlying T=some (.slice e):=by
  have:=List.all_eq_true.1 h.se _ (wO e1)
  simp only at this
  split at this
  · rename_i k' hk;rw [hk,Nat.eq_of_beq_eq_true this]
  · cases this
theorem dW.blv {tb:gT} (h:dW P tb) {T:Nat} {r:List (Nat×Nat)} (e:dR tb.bl T=some r):yN P T=some r:=of_decide_eq_true (List.all_eq_true.1 h.bl _ (wO e))
def oV (S:AS):List Operand->(List AV->Prop)->Prop
  | [],k=>k []
  | x :: r,k=>match S.ev x with | some v=>oV S r λvs=>k (v :: vs) | none=>False
theorem IL {S:AS}:∀ {l:List Operand} {k:List AV->Prop},oV S l k->∃ vs,EvL S l vs/\k vs
  | [],k,h=>⟨[],.nil,h⟩
  | x :: r,k,h=>by
    unfold oV at h
    split at h
    · rename_i v hv;obtain ⟨vs,h1,h2⟩:=IL h;exact ⟨v :: vs,.cons hv h1,h2⟩
    · exact h.elim
def kM (tb:gT) (S:AS) (o:Oper) (vs:List (Nat×Nat)) (k:List (Nat×Nat)->AV->Prop):Prop :=
  match o.op with
  | .move x=>match S.ev x with | some v=>k vs v | none=>False
  | .assign x=>match S.ev x with | some v=>k vs v | none=>False
  | .load T x =>
    match dR tb.sh T with
    | some (m,b) =>
      match S.ev x with
      | some (.pp cs)=>match kT m b cs with | some v=>k vs v | none=>False
      | some (.pt id aN row off) =>
        match S.hp id with
        | some ob=>match ob.rows[row]? with
          | some r=>match kT m b (r.drop off) with | some v=>k ((ob.aN,aN) :: vs) v | none=>False
          | none=>False
        | none=>False
      | _=>False
    | none=>False
  | .fieldAddr T x f =>
    match uF tb.fo T f with
    | some m =>
      match S.ev x with
      | some (.pp cs)=>k vs (.pp (cs.drop m))
      | some (.pt id aN row off) =>
        match S.hp id with
        | some ob=>(match ob.rows[row]? with | some r=>k ((ob.aN,aN) :: vs) (.pt id aN row (off+m)) | none=>False)
        | none=>False
      | _=>False
    | none=>False
  | .field T x f =>
    match uF tb.fp T f with
    | some (off,T2) =>
      match dR tb.sh T2 with
      | some (m,b)=>match S.ev x with
        | some (.agg cs)=>(match kT m b (cs.drop off) with | some v=>k vs v | none=>False)
        | _=>False
      | none=>False
    | none=>False
  | .extract x i=>match S.ev x with | some (.bD us)=>(match us[i]? with | some v=>k vs v | none=>False) | _=>False
  | .pick c x y =>
    match S.ev c with
    | some (.sc (.bool true))=>(match S.ev x with | some v=>k vs v | none=>False)
    | some (.sc (.bool false))=>(match S.ev y with | some v=>k vs v | none=>False)
    | _=>False
  | .unOp .not _ x=>match S.ev x with | some (.sc (.bool b))=>k vs (.sc (.bool (!b))) | _=>False
  | .unOp .neg _ x=>match S.ev x with | some (.sc (.int kk a))=>k vs (.sc (.int kk (kk.wrap (0-a)))) | _=>False
  | .convert T1 T2 x =>
    match dR tb.ki T1 with
    | some _=>match dR tb.ki T2 with
      | some kk=>match S.ev x with | some (.sc (.int _ a))=>k vs (.sc (.int kk (kk.wrap a))) | _=>False
      | none=>False
    | none=>False
  | .binOp b _ x y _ =>
    match S.ev x,S.ev y with
    | some (.sc (.int kk u)),some (.sc (.int k2 v)) =>
      match b with
      | .shl=>cond (decide (0<=v)) (k vs (.sc (.int kk (kk.wrap (u*2 ^ (min v.toNat kk.bits)))))) False
      | .shr=>cond (decide (0<=v)) (k vs (.sc (.int kk (u.fdiv (2 ^ (min v.toNat kk.bits)))))) False
      | b =>
        match decide (kk=k2) with
        | false=>False
        | true =>
          match b with
          | .add=>k vs (.sc (.int kk (kk.wrap (u+v))))
          | .sub=>k vs (.sc (.int kk (kk.wrap (u-v))))
          | .mul=>k vs (.sc (.int kk (kk.wrap (u*v))))
          | .lss=>k vs (.sc (.bool (decide (u<v))))
          | .leq=>k vs (.sc (.bool (decide (u<=v))))
          | .gtr=>k vs (.sc (.bool (decide (u>v))))
          | .geq=>k vs (.sc (.bool (decide (u>=v))))
          | .eql=>k vs (.sc (.bool (decide (u=v))))
          | .neq=>k vs (.sc (.bool (decide (u≠v))))
          | .quo=>cond (decide (v≠0)) (k vs (.sc (.int kk (kk.wrap (u.tdiv v))))) False
          | .rem=>cond (decide (v≠0)) (k vs (.sc (.int kk (u.tmod v)))) False
          | _=>False
    | _,_=>False
  | .build T ps =>
    match dR tb.bl T with
    | some pl=>match dR tb.zs T with
      | some zs=>match nL zs with
        | true=>oV S (ps.toList.map (·.2)) λus=>(match rV (λi=>pl[i]?) (zs.map .sc) ((ps.toList.map (·.1)).zip us) with | some cs=>k vs (.agg cs) | none=>False)
        | false=>False
      | none=>False
    | none=>False
  | .nilCheck x =>
    match S.ev x with
    | some (.pp cs)=>k vs (.pp cs)
    | some (.pt id aN row off) =>
      match S.hp id with
      | some ob=>(match ob.rows[row]? with | some r=>k ((ob.aN,aN) :: vs) (.pt id aN row off) | none=>False)
      | none=>False
    | _=>False
  | .makeFunc fn as cs=>oV S as.toList λus=>oV S cs.toList λws=>k vs (.fn fn us ws)
  | _=>False
theorem zM {tb:gT} (ht:dW P tb) {o:Oper} {vs:List (Nat×Nat)} {k:List (Nat×Nat)->AV->Prop} (h:kM tb S o vs k):∃ v us,k us v/\(cB us->cB vs)/\(cB us->bW P o S v):=by
  unfold kM at h
  split at h
  · rename_i x ho
    split at h
    · rename_i v hv;exact ⟨v,vs,h,id,λ_=>mK ho hv⟩
    · exact h.elim
  · rename_i x ho
    split at h
    · rename_i v hv;exact ⟨v,vs,h,id,λ_=>uK ho hv⟩
    · exact h.elim
  · rename_i T x ho
    split at h
    · rename_i m b hm
      split at h
      · rename_i cs hx
        split at h
        · rename_i v hv;exact ⟨v,vs,h,id,λ_=>fU ho (ht.b.oQ hm) hx (.pp _) hv⟩
        · exact h.elim
      · rename_i id aN row off hx
        split at h
        · rename_i ob hob
          split at h
          · rename_i r hr
            split at h
            · rename_i v hv;exact ⟨v,_,h,λe=>e.2,λe=>fU ho (ht.b.oQ hm) hx (.pt hob e.1 hr) hv⟩
            · exact h.elim
          · exact h.elim
        · exact h.elim
      · exact h.elim
    · exact h.elim
  · rename_i T x f ho
    split at h
    · rename_i m hm
      split at h
      · rename_i cs hx;exact ⟨_,vs,h,id,λ_=>fZ ho (ht.b.U4 hm) hx (.pp _) (.pp _ _)⟩
      · rename_i id aN row off hx
        split at h
        · rename_i ob hob
          split at h
          · rename_i r hr;exact ⟨_,_,h,λe=>e.2,λe=>fZ ho (ht.b.U4 hm) hx (.pt hob e.1 hr) (.pt _ _ _ _ _)⟩
          · exact h.elim
        · exact h.elim
      · exact h.elim
    · exact h.elim
  · rename_i T x f ho
    split at h
    · rename_i off T2 hp
      split at h
      · rename_i m b hm
        split at h
        · rename_i cs hx
          split at h
          · rename_i v hv;exact ⟨v,vs,h,id,λ_=>aLZ ho (ht.b.fpv hp) (ht.b.oQ hm) hx hv⟩
          · exact h.elim
        · exact h.elim
      · exact h.elim
    · exact h.elim
  · rename_i x i ho
    split at h
    · rename_i us hx
      split at h
      · rename_i v hv;exact ⟨v,vs,h,id,λ_=>XW ho hx hv⟩
      · exact h.elim
    · exact h.elim
  · rename_i c x y ho
    split at h
    · rename_i hc
      split at h
      · rename_i v hv;exact ⟨v,vs,h,id,λ_=>JH (b:=true) (u:=v) (v:=v) ho hc (λ_=>hv) (λe=>by cases e) rfl⟩
      · exact h.elim
    · rename_i hc
      split at h
      · rename_i v hv;exact ⟨v,vs,h,id,λ_=>JH (b:=false) (u:=v) (v:=v) ho hc (λe=>by cases e) (λ_=>hv) rfl⟩
      · exact h.elim
    · exact h.elim
  · rename_i T x ho
    split at h
    · rename_i b hx;exact ⟨_,vs,h,id,λ_=>MY ho hx rfl⟩
    · exact h.elim
  · rename_i T x ho
    split at h
    · rename_i b hx;exact ⟨_,vs,h,id,λ_=>aLA ho hx rfl⟩
    · exact h.elim
  · rename_i T1 T2 x ho
    split at h
    · rename_i k1 h1
      split at h
      · rename_i k2 h2
        split at h
        · rename_i k3 a hx;exact ⟨_,vs,h,id,λ_=>xY ho (ht.kiv h1) (ht.kiv h2) hx rfl⟩
        · exact h.elim
      · exact h.elim
    · exact h.elim
  · rename_i b T x y Ty ho
    split at h
    · rename_i kk u k2 v hx hy
      split at h
      · cases hb:decide (0<=v) with
        | true=>rw [hb] at h;exact ⟨_,vs,h,id,λ_=>H8 ho hx hy (of_decide_eq_true hb) rfl⟩
        | false=>rw [hb] at h;exact h.elim
      · cases hb:decide (0<=v) with
        | true=>rw [hb] at h;exact ⟨_,vs,h,id,λ_=>GH ho hx hy (of_decide_eq_true hb) rfl⟩
        | false=>rw [hb] at h;exact h.elim
      · split at h
        · exact h.elim
        · rename_i hk
          have hk:=of_decide_eq_true hk
          subst hk
          split at h
          · exact ⟨_,vs,h,id,λ_=>XM ho hx hy rfl⟩
          · exact ⟨_,vs,h,id,λ_=>M4 ho hx hy rfl⟩
          · exact ⟨_,vs,h,id,λ_=>TC ho hx hy rfl⟩
          · exact ⟨_,vs,h,id,λ_=>vS ho hx hy⟩
          · exact ⟨_,vs,h,id,λ_=>xL ho hx hy⟩
          · exact ⟨_,vs,h,id,λ_=>aBT ho hx hy⟩
          · exact ⟨_,vs,h,id,λ_=>aVZ ho hx hy⟩
          · exact ⟨_,vs,h,id,λ_=>jO ho hx hy⟩
          · exact ⟨_,vs,h,id,λ_=>aWO ho hx hy⟩
          · cases hb:decide (v≠0) with
            | true=>rw [hb] at h;exact ⟨_,vs,h,id,λ_=>FO ho hx hy (of_decide_eq_true hb) rfl⟩
            | false=>rw [hb] at h;exact h.elim
          · cases hb:decide (v≠0) with
            | true=>rw [hb] at h;exact ⟨_,vs,h,id,λ_=>FB ho hx hy (of_decide_eq_true hb) rfl⟩
            | false=>rw [hb] at h;exact h.elim
          · exact h.elim
    · exact h.elim
  · rename_i T ps ho
    split at h
    · rename_i pl h1
      split at h
      · rename_i zs h2
        split at h
        · rename_i h3
          obtain ⟨us,g1,g2⟩:=IL h
          split at g2
          · rename_i cs hf
            exact ⟨_,vs,g2,id,λ_=>tF (ps:=ps.toList) (by rw [ho]) (ht.blv h1) (ht.NZ h2) h3 g1 hf⟩
          · exact g2.elim
        · exact h.elim
      · exact h.elim
    · exact h.elim
  · rename_i x ho
    split at h
    · rename_i cs hx;exact ⟨_,vs,h,id,λ_=>mY ho hx (.pp _)⟩
    · rename_i id aN row off hx
      split at h
      · rename_i ob hob
        split at h
        · rename_i r hr;exact ⟨_,_,h,λe=>e.2,λe=>mY ho hx (.pt hob e.1 hr)⟩
        · exact h.elim
      · exact h.elim
    · exact h.elim
  · rename_i fn as cs ho
    obtain ⟨us,g1,g2⟩:=IL h
    obtain ⟨ws,g3,g4⟩:=IL g2
    exact ⟨_,vs,g4,id,λ_=>aVC (as:=as.toList) (cs:=cs.toList) (by rw [ho]) g1 g3⟩
  · exact h.elim
def lU (P:Program) (n:NT) (tb:gT) (Q0:Go.Exit->AS->Prop):Nat->List Fm->Md->(Nat->Option AV)->AH->List (Nat×Nat)->Prop
  | 0,st,md,f,hp,vs=>Stop vs (GG P n Q0 st md ⟨f,hp⟩)
  | m+1,st,.c cs,f,hp,vs =>
    match cs with
    | .seq a b :: cs=>lU P n tb Q0 m st (.c (a :: b :: cs)) f hp vs
    | .skip :: cs=>lU P n tb Q0 m st (.c cs) f hp vs
    | .label _ :: cs=>lU P n tb Q0 m st (.c cs) f hp vs
    | .region _ ops false :: cs=>match ops.toList.all mF with
      | true=>lU P n tb Q0 m st (.r ops.toList ops.toList cs) f hp vs
      | false=>False
    | .block id x :: cs=>lU P n tb Q0 m (.blk id cs :: st) (.c [x]) f hp vs
    | .exit i :: _=>match qO i st with
      | some (cs,st')=>lU P n tb Q0 m st' (.c cs) f hp vs
      | none=>False
    | .cond c x y :: cs=>match AS.ev ⟨f,hp⟩ c with
      | some (.sc (.bool true))=>lU P n tb Q0 m st (.c (x :: cs)) f hp vs
      | some (.sc (.bool false))=>lU P n tb Q0 m st (.c (y :: cs)) f hp vs
      | _=>False
    | .scope x :: cs=>lU P n tb Q0 m (.sc cs :: st) (.c [x]) f hp vs
    | .loop x :: _=>lU P n tb Q0 m (.un 64 x :: st) (.c [x]) f hp vs
    | []=>match st with
      | .blk _ cs :: st=>lU P n tb Q0 m st (.c cs) f hp vs
      | .sc cs :: st=>lU P n tb Q0 m st (.c cs) f hp vs
      | .un (k+1) c :: st=>lU P n tb Q0 m (.un k c :: st) (.c [c]) f hp vs
      | .rs it nx mo b y r p :: st=>match f it with
        | some (.sc (.pointer (some ⟨b',0,none⟩)))=>match r with
          | c :: r=>lU P n tb Q0 m (.rs it nx mo b y r (p+1) :: st) (.c [y]) (upd (upd f nx (some (.bD [aI true,int p,.sc (.int .i32 c.toNat)]))) mo (some (aI true))) hp ((b',b) :: vs)
          | []=>lU P n tb Q0 m (.un 0 y :: st) (.c [y]) (upd (upd f nx (some (.bD [aI false]))) mo (some (aI false))) hp ((b',b) :: vs)
        | _=>False
      | _=>False
    | _=>False
  | m+1,st,.r l todo cs,f,hp,vs =>
    match todo with
    | []=>lU P n tb Q0 m st (.c cs) f hp vs
    | o :: rest =>
      match o.dst with
      | none=>False
      | some t =>
        match Nat.blt t n.n with
        | false=>False
        | true =>
          match Wd l ⟨f,hp⟩ o with
          | some false=>lU P n tb Q0 m st (.r l rest cs) (upd f t (some (.sc undef))) hp vs
          | some true=>kM tb ⟨f,hp⟩ o vs λvs v=>lU P n tb Q0 m st (.r l rest cs) (upd f t (some v)) hp vs
          | none=>False
theorem nK {tb:gT} (ht:dW P tb):∀ (m:Nat) (st:List Fm) (md:Md) (f:Nat->Option AV) (hp:AH) (vs:List (Nat×Nat)),lU P n tb Q0 m st md f hp vs->cB vs/\GG P n Q0 st md ⟨f,hp⟩
  | 0,st,md,f,hp,vs,h=>by
    unfold lU at h
    cases h with | mk h a=>exact ⟨a,h⟩
  | m+1,st,.c cs,f,hp,vs,h=>by
    simp only [lU] at h
    split at h
    · have:=nK ht m _ _ _ _ _ h;exact ⟨this.1,BG this.2⟩
    · have:=nK ht m _ _ _ _ _ h;exact ⟨this.1,Q7 this.2⟩
    · have:=nK ht m _ _ _ _ _ h;exact ⟨this.1,aFN this.2⟩
    · rename_i id ops cs
      split at h
      case h_2=>exact h.elim
      rename_i hnd
      have:=nK ht m _ _ _ _ _ h
      refine ⟨this.1,?_⟩
      have e:ops=ops.toList.toArray:=by simp
      show dF P n _ (.region id ops false :: cs) _
      rw [e]
      exact DK (λK hK=>this.2 K hK) hnd
    · have:=nK ht m _ _ _ _ _ h;exact ⟨this.1,aIN this.2⟩
    · split at h
      · rename_i hp';have:=nK ht m _ _ _ _ _ h;exact ⟨this.1,aNY hp' this.2⟩
      · exact h.elim
    · split at h
      · rename_i hc;have:=nK ht m _ _ _ _ _ h;exact ⟨this.1,aF7 hc this.2⟩
      · rename_i hc;have:=nK ht m _ _ _ _ _ h;exact ⟨this.1,aHJ hc this.2⟩
      · exact h.elim
    · have:=nK ht m _ _ _ _ _ h;exact ⟨this.1,aS8 this.2⟩
    · have:=nK ht m _ _ _ _ _ h;exact ⟨this.1,aL1 _ this.2⟩
    · split at h
      · have:=nK ht m _ _ _ _ _ h;exact ⟨this.1,this.2⟩
      · have:=nK ht m _ _ _ _ _ h;exact ⟨this.1,this.2⟩
      · have:=nK ht m _ _ _ _ _ h;exact ⟨this.1,this.2⟩
      · split at h
        · rename_i b' hit
          split at h
          · have:=nK ht m _ _ _ _ _ h
            refine ⟨this.1.2,?_⟩
            have e:b'=_:=this.1.1
            subst e
            exact (And.intro hit this.2:_/\_)
          · have:=nK ht m _ _ _ _ _ h
            refine ⟨this.1.2,?_⟩
            have e:b'=_:=this.1.1
            subst e
            exact (And.intro hit this.2:_/\_)
        · exact h.elim
      · exact h.elim
    · exact h.elim
  | m+1,st,.r l todo cs,f,hp,vs,h=>by
    simp only [lU] at h
    split at h
    · have:=nK ht m _ _ _ _ _ h;exact ⟨this.1,λK hK=>B7 (hK _ this.2)⟩
    · rename_i o rest
      split at h
      · exact h.elim
      · rename_i t hd
        split at h
        · exact h.elim
        · rename_i hn
          split at h
          · rename_i hw;have:=nK ht m _ _ _ _ _ h;exact ⟨this.1,λK hK=>sk hw hd hn (this.2 K hK)⟩
          · rename_i hw
            obtain ⟨v,us,h1,h2,h3⟩:=zM ht h
            have:=nK ht m _ _ _ _ _ h1
            exact ⟨h2 this.1,λK hK=>Go.Pv.st hw hd hn (h3 this.1) (this.2 K hK)⟩
          · exact h.elim
theorem tc {tb:gT} (ht:dW P tb) (m:Nat) (h:lU P n tb Q0 m st (.c cs) f hp []):dF P n (QQ P n Q0 st) cs ⟨f,hp⟩:=(nK ht m st (.c cs) f hp [] h).2
theorem tr {tb:gT} (ht:dW P tb) (m:Nat) {l todo:List Oper} (h:lU P n tb Q0 m st (.r l todo cs) f hp []):RR P n Q0 st l todo cs ⟨f,hp⟩:=(nK ht m st (.r l todo cs) f hp [] h).2
variable {ops rest todo:List Oper} {o:Oper}
theorem UJ {t:Nat} {v:AV} (hw:Wd ops ⟨f,hp⟩ o=some true) (hd:o.dst=some t) (hn:Nat.blt t n.n=true) (hy:bW P o ⟨f,hp⟩ v) (h:RR P n Q0 st ops rest cs ⟨upd f t (some v),hp⟩):RR P n Q0 st ops (o :: rest) cs ⟨f,hp⟩ :=
  λK hK=>Go.Pv.st hw hd hn hy (h K hK)
theorem iP {t:Nat} {Out:AV->AH->Prop} (hw:Wd ops ⟨f,hp⟩ o=some true) (hd:o.dst=some t) (hn:Nat.blt t n.n=true) (hy:bY P o ⟨f,hp⟩ no any Out)
    (h:∀ v H',Out v H'->RR P n Q0 st ops rest cs ⟨upd f t (some v),H'⟩):RR P n Q0 st ops (o :: rest) cs ⟨f,hp⟩:=λK hK=>se hw hd hn hy λv H' hO=>h v H' hO K hK
theorem y5 {v:AV} {H':AH} (hw:Wd ops ⟨f,hp⟩ o=some true) (hd:o.dst=none) (hy:bY P o ⟨f,hp⟩ no no (λz H=>z=v/\H=H'))
    (h:RR P n Q0 st ops rest cs ⟨f,H'⟩):RR P n Q0 st ops (o :: rest) cs ⟨f,hp⟩:=λK hK=>aVF hw hd hy (h K hK)
theorem aW7 {u:AV} (t:Nat) (v:AV) (h:f t=some u) (hc:Cv hp u v) (h1:RR P n Q0 st ops todo cs ⟨upd f t (some v),hp⟩):RR P n Q0 st ops todo cs ⟨f,hp⟩:=λK hK=>aHL t v h hc (h1 K hK)
theorem nv {α β:Type} {e:α} {G:α->Option β} {r:β} {av:α->AV} {tb:gT} (ht:dW P tb) {t:Nat} (h:bnd e G=some r) (k:∀ x,G x=some r->RR P n Q0 st ops rest cs ⟨upd f t (some (av x)),hp⟩)
    (hv:kM tb ⟨f,hp⟩ o [] λvs v=>v=av e/\cB vs) (hw:Wd ops ⟨f,hp⟩ o=some true) (hd:o.dst=some t) (hn:Nat.blt t n.n=true):RR P n Q0 st ops (o :: rest) cs ⟨f,hp⟩:=by
  obtain ⟨v,us,⟨rfl,h2⟩,_,h3⟩:=zM ht hv
  exact UJ hw hd hn (h3 h2) (k e h)
theorem nb {β:Type} {e:Bool} {G:Bool->Option β} {r:β} {tb:gT} (ht:dW P tb) {t:Nat} (h:bnd e G=some r) (k:∀ x,G x=some r->RR P n Q0 st ops rest cs ⟨upd f t (some (aI x)),hp⟩)
    (hv:kM tb ⟨f,hp⟩ o [] λvs v=>v=aI e/\cB vs:=by exact ⟨rfl,by repeat (first | exact trivial | refine ⟨rfl,?_⟩)⟩) (hw:Wd ops ⟨f,hp⟩ o=some true:=by rfl) (hd:o.dst=some t:=by rfl) (hn:Nat.blt t n.n=true:=by rfl):RR P n Q0 st ops (o :: rest) cs ⟨f,hp⟩:=nv (av:=aI) ht h k hv hw hd hn
theorem ni {β:Type} {kk:IntKind} {e:Int} {G:Int->Option β} {r:β} {tb:gT} (ht:dW P tb) {t:Nat} (h:bnd e G=some r) (k:∀ x,G x=some r->RR P n Q0 st ops rest cs ⟨upd f t (some (.sc (.int kk x))),hp⟩)
    (hv:kM tb ⟨f,hp⟩ o [] λvs v=>v=.sc (.int kk e)/\cB vs:=by exact ⟨rfl,by repeat (first | exact trivial | refine ⟨rfl,?_⟩)⟩) (hw:Wd ops ⟨f,hp⟩ o=some true:=by rfl) (hd:o.dst=some t:=by rfl) (hn:Nat.blt t n.n=true:=by rfl):RR P n Q0 st ops (o :: rest) cs ⟨f,hp⟩:=nv (av:=λx=>.sc (.int kk x)) ht h k hv hw hd hn
theorem aLJ (Q:Go.Exit->AS->Prop):QQ P n Q []=Q:=by funext e S;rfl
theorem iI {f:FuncId} {fn:Func} {c:Code} {args:List AV} {H:AH} {R:AV->AH->Prop} (hf:P.funcs[f]?=some fn) (hb:fn.body=some c) (hle:Nat.ble args.length fn.ntmps=true)
    (h:∀ Q:Go.Exit->AS->Prop,(∀ S' vs H2,mO P S' fn.results.toList vs->(∀ t v,H2 t=some v->S'.hp t=some v)->R (o9 vs) H2->Q .ret S')->(∀ S' vs H2,mO P S' fn.results.toList vs->(∀ t v,H2 t=some v->S'.hp t=some v)->R (o9 vs) H2->Q .normal S') ->
      dF P ⟨fn.ntmps,false,[]⟩ (QQ P ⟨fn.ntmps,false,[]⟩ Q []) [c] ⟨λt=>args[t]?,H⟩):PC P f args H R :=
  aCN hf hb hle λQ h1 h2=>by have:=h Q h1 h2;rw [aLJ] at this;exact this
def JJ {A K:Type} (St:A->K->AS) (I:A->Prop):AS->Prop:=λS'=>∃ a k,I a/\S'.kV (St a k)
theorem XE {A K:Type} (St:A->K->AS) (I:A->Prop) (h1:dF P n (QQ P n Q0 (.jn (JJ St I) :: st)) [x] S) (h2:∀ a k,I a->dF P n (QQ P n Q0 st) cs (St a k)):dF P n (QQ P n Q0 st) (x :: cs) S:=by
  have hrefl:∀ S':AS,S'.kV S':=λS' s hs=>⟨λt x hx=>⟨x,hx,λ_ h=>h⟩,hs,λ_ h=>h⟩
  refine Tr.BJ (nD h1) ?_
  intro e S' hq
  cases e with
  | normal=>obtain ⟨a,k,hi,hl⟩:=hq;exact ⟨St a k,hl,h2 a k hi⟩
  | _=>exact ⟨S',hrefl S',hq⟩
def wE (f:Nat->Option AV):List Nat->(List (Nat×AV)->Prop)->Prop
  | [],k=>k []
  | t :: L,k=>match f t with | some v=>wE f L λl=>k ((t,v) :: l) | none=>False
theorem yY:∀ {L:List Nat} {k:List (Nat×AV)->Prop},wE f L k->∃ l,k l
  | [],k,h=>⟨[],h⟩
  | t :: L,k,h=>by
    unfold wE at h
    split at h
    · obtain ⟨l,hl⟩:=yY h;exact ⟨_,hl⟩
    · exact h.elim
def uI (hp:AH):List Nat->(List (Nat×bH)->Prop)->Prop
  | [],k=>k []
  | t :: L,k=>match hp t with | some v=>uI hp L λl=>k ((t,v) :: l) | none=>False
theorem vR:∀ {L:List Nat} {k:List (Nat×bH)->Prop},uI hp L k->∃ l,k l
  | [],k,h=>⟨[],h⟩
  | t :: L,k,h=>by
    unfold uI at h
    split at h
    · obtain ⟨l,hl⟩:=vR h;exact ⟨_,hl⟩
    · exact h.elim
structure QA (p q:Prop):Prop where
  a:p
  b:q
theorem jn {A K R:Type} {X:Option A} {G:A->Option R} {r:R} (hD:X.bind G=some r) (L M:List Nat) (N:A->K->List (Nat×AV)) (O:A->K->List (Nat×bH))
    (h:wE f L λl=>uI hp M λm=>QA (∀ j,X=some j->dF P n (QQ P n Q0 (.jn (JJ (λa k=>⟨kn (N a k++l),hk (O a k++m)⟩) (λa=>a=j)) :: st)) [x] ⟨f,hp⟩)
      (∀ a k,G a=some r->dF P n (QQ P n Q0 st) cs ⟨kn (N a k++l),hk (O a k++m)⟩)):dF P n (QQ P n Q0 st) (x :: cs) ⟨f,hp⟩:=by
  obtain ⟨l,h⟩:=yY h
  obtain ⟨m,h⟩:=vR h
  obtain ⟨j,h1,h2⟩:=dJ hD
  exact XE _ _ (h.a j h1) λa k e=>h.b a k (e ▸ h2)
theorem dU {A K R:Type} {X:Option (A⊕R)} {G:A->Option R} {r:R} (hD:X.bind (sel G)=some r) (L M:List Nat) (N:A->K->List (Nat×AV)) (O:A->K->List (Nat×bH))
    (h:wE f L λl=>uI hp M λm=>QA (∀ j,X=some j->sel G j=some r->dF P n (QQ P n Q0 (.jn (JJ (λa k=>⟨kn (N a k++l),hk (O a k++m)⟩) (λa=>j=.inl a)) :: st)) [x] ⟨f,hp⟩)
      (∀ a k,G a=some r->dF P n (QQ P n Q0 st) cs ⟨kn (N a k++l),hk (O a k++m)⟩)):dF P n (QQ P n Q0 st) (x :: cs) ⟨f,hp⟩:=by
  obtain ⟨l,h⟩:=yY h
  obtain ⟨m,h⟩:=vR h
  obtain ⟨j,h1,h2⟩:=dJ hD
  exact XE _ _ (h.a j h1 h2) λa k e=>h.b a k (by subst e;exact h2)
theorem lf {A K:Type} {St:A->K->AS} {a j:A} (h:some a=some j) (k:K) (hl:S.kV (St a k)):dF P n (QQ P n Q0 (.jn (JJ St (λa=>a=j)) :: st)) [] S:=FP (show JJ _ _ _ from ⟨a,k,eU h,hl⟩)
theorem lfE {A K C:Type} {St:A->K->AS} {a:A} {j:A⊕C} (h:brk a=some j) (k:K) (hl:S.kV (St a k)):dF P n (QQ P n Q0 (.jn (JJ St (λa=>j=.inl a)) :: st)) [] S:=FP (show JJ _ _ _ from ⟨a,k,aFR h,hl⟩)
def LJ {V K J:Type} (St:V->K->AS) (L:V->Option J) (j:J):AS->Prop:=λS'=>∃ v' k',L v'=some j/\S'.kV (St v' k')
theorem aWI {V K J:Type} (St:V->K->AS) (L:Nat->V->Option J) {j:J} {m0:Nat} (v0:V) (k0:K) (h:L m0 v0=some j) (hz:∀ v,L 0 v=none) (hle:S.kV (St v0 k0))
    (round:∀ m v k,m+1<=m0->L (m+1) v=some j->dF P n (QQ P n Q0 (.jn (LJ St (L m) j) :: st)) [x] (St v k)) :
    dF P n (QQ P n Q0 st) (.loop x :: cs) S:=by
  refine aGS (ι:={ p:Nat×V×K // p.1<=m0/\L p.1 p.2.1=some j }) (λp=>St p.1.2.1 p.1.2.2) (λp=>p.1.1) ⟨(m0,v0,k0),Nat.le_refl _,h⟩ hle ?_
  rintro ⟨⟨m,v,k⟩,hm,hp⟩
  cases m with
  | zero=>rw [hz] at hp;cases hp
  | succ m =>
    refine Tr.mono (nD (round m v k hm hp)) ?_
    intro e S' hq
    cases e with
    | normal=>obtain ⟨v',k',h1,h2⟩:=hq;exact ⟨⟨(m,v',k'),Nat.le_trans (Nat.le_succ m) hm,h1⟩,Nat.lt_succ_self m,h2⟩
    | _=>exact hq
theorem lp {V K J:Type} (Lf:Nat->V->Option J) {j:J} {m0:Nat} (v0:V) (k0:K) (hD:Lf m0 v0=some j) (L M:List Nat) (N:V->K->List (Nat×AV)) (O:V->K->List (Nat×bH)) (hz:∀ v,Lf 0 v=none)
    (h:wE f L λl=>uI hp M λm=>QA (AS.kV ⟨f,hp⟩ ⟨kn (N v0 k0++l),hk (O v0 k0++m)⟩)
      (∀ q v k,q+1<=m0->Lf (q+1) v=some j->dF P n (QQ P n Q0 (.jn (LJ (λv k=>⟨kn (N v k++l),hk (O v k++m)⟩) (Lf q) j) :: st)) [x] ⟨kn (N v k++l),hk (O v k++m)⟩)):dF P n (QQ P n Q0 st) (.loop x :: cs) ⟨f,hp⟩:=by
  obtain ⟨l,h⟩:=yY h
  obtain ⟨m,h⟩:=vR h
  exact aWI _ Lf v0 k0 hD hz h.a h.b
theorem bk {V K J:Type} {St:V->K->AS} {L:V->Option J} {j:J} (v:V) (k:K) (h:L v=some j) (hl:S.kV (St v k)):dF P n (QQ P n Q0 (.jn (LJ St L j) :: st)) [] S:=FP (show LJ _ _ _ _ from ⟨v,k,h,hl⟩)
end
end Go.Pv
