/- Walks in few words: a runner over code, its blocks and regions; joins, loops; values that get names. -/
import Derived.Test.YtfbohcojaajpfaaGreatPvAC
import Derived.Scope
set_option linter.unusedVariables false
set_option linter.unusedSimpArgs false
namespace Go.Pv
inductive Fm
  | blk (id:Nat) (cs:List Code)
  | jn (J:AS→Prop)
  | un (k:Nat) (c:Code)
  | sc (cs:List Code)
  | rs (it nx mo b:Nat) (y:Code) (r:List UInt8) (p:Nat)
def UQ (P:Program) (n:NT) (c:Code) (F:Go.Exit→AS→Prop):Nat→Go.Exit→AS→Prop
  | 0,e,S=>match e with
    | .normal=>False
    | e=>F e S
  | k+1,e,S=>match e with
    | .normal=>Trs P n (UQ P n c F k) [c] S
    | e=>F e S
def itp (b:Nat):AV:=.sc (.pointer (some ⟨b,0,none⟩))
def RQ (P:Program) (n:NT) (it nx mo b:Nat) (y:Code) (F:Go.Exit→AS→Prop):List UInt8→Nat→Go.Exit→AS→Prop
  | [],_,e,S=>match e with
    | .normal=>S.sl it=some (itp b)∧Trs P n (UQ P n y F 0) [y] ⟨upd (upd S.sl nx (some (.tup [boo false]))) mo (some (boo false)),S.hp⟩
    | e=>F e S
  | c :: r,p,e,S=>match e with
    | .normal=>S.sl it=some (itp b)∧Trs P n (RQ P n it nx mo b y F r (p+1)) [y] ⟨upd (upd S.sl nx (some (.tup [boo true,int p,.sc (.int .i32 c.toNat)]))) mo (some (boo true)),S.hp⟩
    | e=>F e S
def QQ (P:Program) (n:NT) (Q0:Go.Exit→AS→Prop):List Fm→Go.Exit→AS→Prop
  | [],e,S=>Q0 e S
  | .blk id cs :: st,e,S=>match e with
    | .normal=>Trs P n (QQ P n Q0 st) cs S
    | .exit i=>cond (Nat.beq i id) (Trs P n (QQ P n Q0 st) cs S) (QQ P n Q0 st (.exit i) S)
    | e=>QQ P n Q0 st e S
  | .jn J :: st,e,S=>match e with
    | .normal=>J S
    | e=>QQ P n Q0 st e S
  | .un k c :: st,e,S=>UQ P n c (QQ P n Q0 st) k e S
  | .sc cs :: st,e,S=>match e with
    | .normal=>Trs P n (QQ P n Q0 st) cs S
    | .goto _=>False
    | e=>QQ P n Q0 st e S
  | .rs it nx mo b y r p :: st,e,S=>RQ P n it nx mo b y (QQ P n Q0 st) r p e S
def popB (i:Nat):List Fm→Option (List Code×List Fm)
  | []=>none
  | .blk id cs :: st=>cond (Nat.beq i id) (some (cs,st)) (popB i st)
  | .jn _ :: st=>popB i st
  | .un _ _ :: st=>popB i st
  | .sc _ :: st=>popB i st
  | .rs _ _ _ _ _ _ _ :: st=>popB i st
section
variable {P:Program} {n:NT} {Q0:Go.Exit→AS→Prop} {st:List Fm} {cs:List Code} {S:AS} {f:Nat→Option AV} {hp:AH} {x y:Code}
theorem popB_ok {i:Nat}:∀ {st:List Fm} {cs:List Code} {st':List Fm},popB i st=some (cs,st')→Trs P n (QQ P n Q0 st') cs S→QQ P n Q0 st (.exit i) S
  | .blk id c2 :: st,cs,st',h,hq=>by
    simp only [popB] at h
    show cond (Nat.beq i id) _ _
    cases hb:Nat.beq i id with
    | true=>rw [hb] at h;simp only [cond_true,Option.some.injEq,Prod.mk.injEq] at h;obtain ⟨rfl,rfl⟩:=h;exact hq
    | false=>rw [hb] at h;exact popB_ok h hq
  | .jn J :: st,cs,st',h,hq=>by
    simp only [popB] at h
    exact popB_ok (st:=st) h hq
  | .un k _ :: st,cs,st',h,hq=>by
    simp only [popB] at h
    cases k <;> exact popB_ok (st:=st) h hq
  | .sc _ :: st,cs,st',h,hq=>by
    simp only [popB] at h
    exact popB_ok (st:=st) h hq
  | .rs _ _ _ _ _ r _ :: st,cs,st',h,hq=>by
    simp only [popB] at h
    cases r <;> exact popB_ok (st:=st) h hq
theorem qq_ret (h:Q0 .ret S):∀ st:List Fm,QQ P n Q0 st .ret S
  | []=>h
  | .blk _ _ :: st=>qq_ret h st
  | .jn _ :: st=>qq_ret h st
  | .un k _ :: st=>by cases k <;> exact qq_ret h st
  | .sc _ :: st=>qq_ret h st
  | .rs _ _ _ _ _ r _ :: st=>by cases r <;> exact qq_ret h st
theorem w_ret (h:Q0 .ret S):Trs P n (QQ P n Q0 st) (.ret :: cs) S:=c_ret (qq_ret h st)
theorem w_exit {i:Nat} {c2:List Code} {st':List Fm} (h:popB i st=some (c2,st')) (hq:Trs P n (QQ P n Q0 st') c2 S):Trs P n (QQ P n Q0 st) (.exit i :: cs) S:=c_exit (popB_ok h hq)
theorem w_block {id:Nat} (h:Trs P n (QQ P n Q0 (.blk id cs :: st)) [x] S):Trs P n (QQ P n Q0 st) (.block id x :: cs) S :=
  tr_block (Tr.mono (trs_of h) fun e S h=>by
    cases e with
    | exit i =>
      have h:cond (Nat.beq i id) (Trs P n (QQ P n Q0 st) cs S) (QQ P n Q0 st (.exit i) S):=h
      show if i=id then _ else _
      cases hb:Nat.beq i id with
      | true=>rw [hb] at h;rw [if_pos (Nat.eq_of_beq_eq_true hb)];exact h
      | false=>rw [hb] at h;rw [if_neg (Nat.ne_of_beq_eq_false hb)];exact h
    | _=>exact h)
theorem w_scope (h:Trs P n (QQ P n Q0 (.sc cs :: st)) [x] S):Trs P n (QQ P n Q0 st) (.scope x :: cs) S:=by
  intro s a hs
  refine wpA_scope_straight (wpA_mono (trs_of h s a hs) ?_)
  rintro e a1 w1 ⟨S1,s1,h1,h2,h3,h4⟩
  cases e with
  | goto l=>exact h2.elim
  | _=>exact ⟨S1,s1,h1,h2,h3,h4⟩
theorem w_unroll (k:Nat) (h:Trs P n (QQ P n Q0 (.un k x :: st)) [x] S):Trs P n (QQ P n Q0 st) (.loop x :: cs) S:=by
  have e:QQ P n Q0 (.un k x :: st)=UQ P n x (QQ P n Q0 st) k:=by funext e S;rfl
  rw [e] at h
  refine tr_loop (ι:={ p:Nat×AS // Trs P n (UQ P n x (QQ P n Q0 st) p.1) [x] p.2 }) (fun p=>p.1.2) (fun p=>p.1.1) ⟨(k,S),h⟩ (fun s=>⟨fun t y hy=>⟨y,hy,fun _ h=>h⟩,fun h=>h,fun _ h=>h⟩) ?_
  rintro ⟨⟨m,S1⟩,hp⟩
  refine Tr.mono (trs_of hp) fun e S2 h2=>?_
  cases m with
  | zero=>cases e with
    | normal=>exact h2.elim
    | _=>exact h2
  | succ m=>cases e with
    | normal=>exact ⟨⟨(m,S2),h2⟩,Nat.lt_succ_self m,fun s=>⟨fun t y hy=>⟨y,hy,fun _ h=>h⟩,fun h=>h,fun _ h=>h⟩⟩
    | _=>exact h2
def RR (P:Program) (n:NT) (Q0:Go.Exit→AS→Prop) (st:List Fm) (l todo:List Oper) (cs:List Code) (S:AS):Prop :=
  ∀ K:AS→Prop,(∀ S',Trs P n (QQ P n Q0 st) cs S'→K S')→Rg P n l todo S K
def GG (P:Program) (n:NT) (Q0:Go.Exit→AS→Prop) (st:List Fm):Md→AS→Prop
  | .c cs,S=>Trs P n (QQ P n Q0 st) cs S
  | .r l todo cs,S=>RR P n Q0 st l todo cs S
def VEq:List (Nat×Nat)→Prop
  | []=>True
  | (a,b) :: r=>a=b∧VEq r
inductive Stop (vs:List (Nat×Nat)) (p:Prop):Prop
  | mk (h:p) (a:VEq vs:=by repeat (first | exact trivial | refine ⟨rfl,?_⟩)):Stop vs p
theorem VEq.of {vs:List (Nat×Nat)}:∀ {ws:List (Nat×Nat)},VEq (ws++vs)→VEq vs
  | [],h=>h
  | _ :: _,h=>VEq.of h.2
structure Tab2 extends Tab where
  ki:List (Nat×IntKind)
  se:List (Nat×Nat)
  bl:List (Nat×List (Nat×Nat))
  zs:List (Nat×List Value)
def AllZ (P:Program):List (Nat×List Value)→Prop
  | []=>True
  | p :: r=>zeroOf P p.1=some p.2∧AllZ P r
theorem AllZ.get {P:Program}:∀ {l:List (Nat×List Value)} (_:AllZ P l) {p:Nat×List Value},p∈l→zeroOf P p.1=some p.2
  | [],_,p,hp=>by cases hp
  | q :: r,h,p,hp=>by
    rcases List.mem_cons.1 hp with e | hp
    · rw [e];exact h.1
    · exact h.2.get hp
structure Tab2Ok (P:Program) (tb:Tab2):Prop where
  b:TabOk P tb.toTab
  ki:(tb.ki.all fun p=>match P.underlying p.1 with | some (.int k)=>decide (k=p.2) | _=>false)=true
  se:(tb.se.all fun p=>match P.underlying p.1 with | some (.slice e)=>Nat.beq e p.2 | _=>false)=true
  bl:(tb.bl.all fun p=>decide (plc P p.1=some p.2))=true
  zs:AllZ P tb.zs
theorem Tab2Ok.kiv {tb:Tab2} (h:Tab2Ok P tb) {T:Nat} {k:IntKind} (e:lk1 tb.ki T=some k):P.underlying T=some (.int k):=by
  have:=List.all_eq_true.1 h.ki _ (lk1_mem e)
  simp only at this
  split at this
  · rename_i k' hk;rw [hk,of_decide_eq_true this]
  · cases this
theorem Tab2Ok.sev {tb:Tab2} (h:Tab2Ok P tb) {T e:Nat} (e1:lk1 tb.se T=some e):P.underlying T=some (.slice e):=by
  have:=List.all_eq_true.1 h.se _ (lk1_mem e1)
  simp only at this
  split at this
  · rename_i k' hk;rw [hk,Nat.eq_of_beq_eq_true this]
  · cases this
theorem Tab2Ok.blv {tb:Tab2} (h:Tab2Ok P tb) {T:Nat} {r:List (Nat×Nat)} (e:lk1 tb.bl T=some r):plc P T=some r:=of_decide_eq_true (List.all_eq_true.1 h.bl _ (lk1_mem e))
theorem Tab2Ok.zsv {tb:Tab2} (h:Tab2Ok P tb) {T:Nat} {r:List Value} (e:lk1 tb.zs T=some r):zeroOf P T=some r:=h.zs.get (lk1_mem e)
def evList (S:AS):List Operand→(List AV→Prop)→Prop
  | [],k=>k []
  | x :: r,k=>match S.ev x with | some v=>evList S r fun vs=>k (v :: vs) | none=>False
theorem evList_ok {S:AS}:∀ {l:List Operand} {k:List AV→Prop},evList S l k→∃ vs,EvL S l vs∧k vs
  | [],k,h=>⟨[],.nil,h⟩
  | x :: r,k,h=>by
    unfold evList at h
    split at h
    · rename_i v hv;obtain ⟨vs,h1,h2⟩:=evList_ok h;exact ⟨v :: vs,.cons hv h1,h2⟩
    · exact h.elim
def evW (tb:Tab2) (S:AS) (o:Oper) (vs:List (Nat×Nat)) (k:List (Nat×Nat)→AV→Prop):Prop :=
  match o.op with
  | .move x=>match S.ev x with | some v=>k vs v | none=>False
  | .assign x=>match S.ev x with | some v=>k vs v | none=>False
  | .load T x =>
    match lk1 tb.sh T with
    | some (m,b) =>
      match S.ev x with
      | some (.pp cs)=>match cellsV m b cs with | some v=>k vs v | none=>False
      | some (.pt id ver row off) =>
        match S.hp id with
        | some ob=>match ob.rows[row]? with
          | some r=>match cellsV m b (r.drop off) with | some v=>k ((ob.ver,ver) :: vs) v | none=>False
          | none=>False
        | none=>False
      | _=>False
    | none=>False
  | .fieldAddr T x f =>
    match lk2 tb.fo T f with
    | some m =>
      match S.ev x with
      | some (.pp cs)=>k vs (.pp (cs.drop m))
      | some (.pt id ver row off) =>
        match S.hp id with
        | some ob=>(match ob.rows[row]? with | some r=>k ((ob.ver,ver) :: vs) (.pt id ver row (off+m)) | none=>False)
        | none=>False
      | _=>False
    | none=>False
  | .field T x f =>
    match lk2 tb.fp T f with
    | some (off,T2) =>
      match lk1 tb.sh T2 with
      | some (m,b)=>match S.ev x with
        | some (.agg cs)=>(match cellsV m b (cs.drop off) with | some v=>k vs v | none=>False)
        | _=>False
      | none=>False
    | none=>False
  | .extract x i=>match S.ev x with | some (.tup us)=>(match us[i]? with | some v=>k vs v | none=>False) | _=>False
  | .pick c x y =>
    match S.ev c with
    | some (.sc (.bool true))=>(match S.ev x with | some v=>k vs v | none=>False)
    | some (.sc (.bool false))=>(match S.ev y with | some v=>k vs v | none=>False)
    | _=>False
  | .unOp .not _ x=>match S.ev x with | some (.sc (.bool b))=>k vs (.sc (.bool (!b))) | _=>False
  | .unOp .neg _ x=>match S.ev x with | some (.sc (.int kk a))=>k vs (.sc (.int kk (kk.wrap (0-a)))) | _=>False
  | .convert T1 T2 x =>
    match lk1 tb.ki T1 with
    | some _=>match lk1 tb.ki T2 with
      | some kk=>match S.ev x with | some (.sc (.int _ a))=>k vs (.sc (.int kk (kk.wrap a))) | _=>False
      | none=>False
    | none=>False
  | .binOp b _ x y _ =>
    match S.ev x,S.ev y with
    | some (.sc (.int kk u)),some (.sc (.int k2 v)) =>
      match b with
      | .shl=>cond (decide (0≤v)) (k vs (.sc (.int kk (kk.wrap (u*2 ^ (min v.toNat kk.bits)))))) False
      | .shr=>cond (decide (0≤v)) (k vs (.sc (.int kk (u.fdiv (2 ^ (min v.toNat kk.bits)))))) False
      | b =>
        match decide (kk=k2) with
        | false=>False
        | true =>
          match b with
          | .add=>k vs (.sc (.int kk (kk.wrap (u+v))))
          | .sub=>k vs (.sc (.int kk (kk.wrap (u-v))))
          | .mul=>k vs (.sc (.int kk (kk.wrap (u*v))))
          | .lss=>k vs (.sc (.bool (decide (u<v))))
          | .leq=>k vs (.sc (.bool (decide (u≤v))))
          | .gtr=>k vs (.sc (.bool (decide (u>v))))
          | .geq=>k vs (.sc (.bool (decide (u≥v))))
          | .eql=>k vs (.sc (.bool (decide (u=v))))
          | .neq=>k vs (.sc (.bool (decide (u≠v))))
          | .quo=>cond (decide (v≠0)) (k vs (.sc (.int kk (kk.wrap (u.tdiv v))))) False
          | .rem=>cond (decide (v≠0)) (k vs (.sc (.int kk (u.tmod v)))) False
          | _=>False
    | _,_=>False
  | .build T ps =>
    match lk1 tb.bl T with
    | some pl=>match lk1 tb.zs T with
      | some zs=>match allOneV zs with
        | true=>evList S (ps.toList.map (·.2)) fun us=>(match fillA (fun i=>pl[i]?) (zs.map .sc) ((ps.toList.map (·.1)).zip us) with | some cs=>k vs (.agg cs) | none=>False)
        | false=>False
      | none=>False
    | none=>False
  | .nilCheck x =>
    match S.ev x with
    | some (.pp cs)=>k vs (.pp cs)
    | some (.pt id ver row off) =>
      match S.hp id with
      | some ob=>(match ob.rows[row]? with | some r=>k ((ob.ver,ver) :: vs) (.pt id ver row off) | none=>False)
      | none=>False
    | _=>False
  | .makeFunc fn as cs=>evList S as.toList fun us=>evList S cs.toList fun ws=>k vs (.fn fn us ws)
  | _=>False
theorem evW_ok {tb:Tab2} (ht:Tab2Ok P tb) {o:Oper} {vs:List (Nat×Nat)} {k:List (Nat×Nat)→AV→Prop} (h:evW tb S o vs k):∃ v us,k us v∧(VEq us→VEq vs)∧(VEq us→YieldV P o S v):=by
  unfold evW at h
  split at h
  · rename_i x ho
    split at h
    · rename_i v hv;exact ⟨v,vs,h,id,fun _=>yv_move ho hv⟩
    · exact h.elim
  · rename_i x ho
    split at h
    · rename_i v hv;exact ⟨v,vs,h,id,fun _=>yv_assign ho hv⟩
    · exact h.elim
  · rename_i T x ho
    split at h
    · rename_i m b hm
      split at h
      · rename_i cs hx
        split at h
        · rename_i v hv;exact ⟨v,vs,h,id,fun _=>yv_load ho (ht.b.shv hm) hx (.pp _) hv⟩
        · exact h.elim
      · rename_i id ver row off hx
        split at h
        · rename_i ob hob
          split at h
          · rename_i r hr
            split at h
            · rename_i v hv;exact ⟨v,_,h,fun e=>e.2,fun e=>yv_load ho (ht.b.shv hm) hx (.pt hob e.1 hr) hv⟩
            · exact h.elim
          · exact h.elim
        · exact h.elim
      · exact h.elim
    · exact h.elim
  · rename_i T x f ho
    split at h
    · rename_i m hm
      split at h
      · rename_i cs hx;exact ⟨_,vs,h,id,fun _=>yv_fieldAddr ho (ht.b.fov hm) hx (.pp _) (.pp _ _)⟩
      · rename_i id ver row off hx
        split at h
        · rename_i ob hob
          split at h
          · rename_i r hr;exact ⟨_,_,h,fun e=>e.2,fun e=>yv_fieldAddr ho (ht.b.fov hm) hx (.pt hob e.1 hr) (.pt _ _ _ _ _)⟩
          · exact h.elim
        · exact h.elim
      · exact h.elim
    · exact h.elim
  · rename_i T x f ho
    split at h
    · rename_i off T2 hp
      split at h
      · rename_i m b hm
        split at h
        · rename_i cs hx
          split at h
          · rename_i v hv;exact ⟨v,vs,h,id,fun _=>yv_field ho (ht.b.fpv hp) (ht.b.shv hm) hx hv⟩
          · exact h.elim
        · exact h.elim
      · exact h.elim
    · exact h.elim
  · rename_i x i ho
    split at h
    · rename_i us hx
      split at h
      · rename_i v hv;exact ⟨v,vs,h,id,fun _=>yv_extract ho hx hv⟩
      · exact h.elim
    · exact h.elim
  · rename_i c x y ho
    split at h
    · rename_i hc
      split at h
      · rename_i v hv;exact ⟨v,vs,h,id,fun _=>yv_pick (b:=true) (u:=v) (v:=v) ho hc (fun _=>hv) (fun e=>by cases e) rfl⟩
      · exact h.elim
    · rename_i hc
      split at h
      · rename_i v hv;exact ⟨v,vs,h,id,fun _=>yv_pick (b:=false) (u:=v) (v:=v) ho hc (fun e=>by cases e) (fun _=>hv) rfl⟩
      · exact h.elim
    · exact h.elim
  · rename_i T x ho
    split at h
    · rename_i b hx;exact ⟨_,vs,h,id,fun _=>yv_not ho hx rfl⟩
    · exact h.elim
  · rename_i T x ho
    split at h
    · rename_i b hx;exact ⟨_,vs,h,id,fun _=>yv_neg ho hx rfl⟩
    · exact h.elim
  · rename_i T1 T2 x ho
    split at h
    · rename_i k1 h1
      split at h
      · rename_i k2 h2
        split at h
        · rename_i k3 a hx;exact ⟨_,vs,h,id,fun _=>yv_convInt ho (ht.kiv h1) (ht.kiv h2) hx rfl⟩
        · exact h.elim
      · exact h.elim
    · exact h.elim
  · rename_i b T x y Ty ho
    split at h
    · rename_i kk u k2 v hx hy
      split at h
      · cases hb:decide (0≤v) with
        | true=>rw [hb] at h;exact ⟨_,vs,h,id,fun _=>yv_shl ho hx hy (of_decide_eq_true hb) rfl⟩
        | false=>rw [hb] at h;exact h.elim
      · cases hb:decide (0≤v) with
        | true=>rw [hb] at h;exact ⟨_,vs,h,id,fun _=>yv_shr ho hx hy (of_decide_eq_true hb) rfl⟩
        | false=>rw [hb] at h;exact h.elim
      · split at h
        · exact h.elim
        · rename_i hk
          have hk:=of_decide_eq_true hk
          subst hk
          split at h
          · exact ⟨_,vs,h,id,fun _=>yv_add ho hx hy rfl⟩
          · exact ⟨_,vs,h,id,fun _=>yv_sub ho hx hy rfl⟩
          · exact ⟨_,vs,h,id,fun _=>yv_mul ho hx hy rfl⟩
          · exact ⟨_,vs,h,id,fun _=>yv_lss ho hx hy⟩
          · exact ⟨_,vs,h,id,fun _=>yv_leq ho hx hy⟩
          · exact ⟨_,vs,h,id,fun _=>yv_gtr ho hx hy⟩
          · exact ⟨_,vs,h,id,fun _=>yv_geq ho hx hy⟩
          · exact ⟨_,vs,h,id,fun _=>yv_eql ho hx hy⟩
          · exact ⟨_,vs,h,id,fun _=>yv_neq ho hx hy⟩
          · cases hb:decide (v≠0) with
            | true=>rw [hb] at h;exact ⟨_,vs,h,id,fun _=>yv_quo ho hx hy (of_decide_eq_true hb) rfl⟩
            | false=>rw [hb] at h;exact h.elim
          · cases hb:decide (v≠0) with
            | true=>rw [hb] at h;exact ⟨_,vs,h,id,fun _=>yv_rem ho hx hy (of_decide_eq_true hb) rfl⟩
            | false=>rw [hb] at h;exact h.elim
          · exact h.elim
    · exact h.elim
  · rename_i T ps ho
    split at h
    · rename_i pl h1
      split at h
      · rename_i zs h2
        split at h
        · rename_i h3
          obtain ⟨us,g1,g2⟩:=evList_ok h
          split at g2
          · rename_i cs hf
            exact ⟨_,vs,g2,id,fun _=>yv_build (ps:=ps.toList) (by rw [ho]) (ht.blv h1) (ht.zsv h2) h3 g1 hf⟩
          · exact g2.elim
        · exact h.elim
      · exact h.elim
    · exact h.elim
  · rename_i x ho
    split at h
    · rename_i cs hx;exact ⟨_,vs,h,id,fun _=>yv_nilCheck ho hx (.pp _)⟩
    · rename_i id ver row off hx
      split at h
      · rename_i ob hob
        split at h
        · rename_i r hr;exact ⟨_,_,h,fun e=>e.2,fun e=>yv_nilCheck ho hx (.pt hob e.1 hr)⟩
        · exact h.elim
      · exact h.elim
    · exact h.elim
  · rename_i fn as cs ho
    obtain ⟨us,g1,g2⟩:=evList_ok h
    obtain ⟨ws,g3,g4⟩:=evList_ok g2
    exact ⟨_,vs,g4,id,fun _=>yv_makeFunc (as:=as.toList) (cs:=cs.toList) (by rw [ho]) g1 g3⟩
  · exact h.elim
def runW (P:Program) (n:NT) (tb:Tab2) (Q0:Go.Exit→AS→Prop):Nat→List Fm→Md→(Nat→Option AV)→AH→List (Nat×Nat)→Prop
  | 0,st,md,f,hp,vs=>Stop vs (GG P n Q0 st md ⟨f,hp⟩)
  | m+1,st,.c cs,f,hp,vs =>
    match cs with
    | .seq a b :: cs=>runW P n tb Q0 m st (.c (a :: b :: cs)) f hp vs
    | .skip :: cs=>runW P n tb Q0 m st (.c cs) f hp vs
    | .label _ :: cs=>runW P n tb Q0 m st (.c cs) f hp vs
    | .region _ ops false :: cs=>match ops.toList.all ndef with
      | true=>runW P n tb Q0 m st (.r ops.toList ops.toList cs) f hp vs
      | false=>False
    | .block id x :: cs=>runW P n tb Q0 m (.blk id cs :: st) (.c [x]) f hp vs
    | .exit i :: _=>match popB i st with
      | some (cs,st')=>runW P n tb Q0 m st' (.c cs) f hp vs
      | none=>False
    | .cond c x y :: cs=>match AS.ev ⟨f,hp⟩ c with
      | some (.sc (.bool true))=>runW P n tb Q0 m st (.c (x :: cs)) f hp vs
      | some (.sc (.bool false))=>runW P n tb Q0 m st (.c (y :: cs)) f hp vs
      | _=>False
    | .scope x :: cs=>runW P n tb Q0 m (.sc cs :: st) (.c [x]) f hp vs
    | .loop x :: _=>runW P n tb Q0 m (.un 64 x :: st) (.c [x]) f hp vs
    | []=>match st with
      | .blk _ cs :: st=>runW P n tb Q0 m st (.c cs) f hp vs
      | .sc cs :: st=>runW P n tb Q0 m st (.c cs) f hp vs
      | .un (k+1) c :: st=>runW P n tb Q0 m (.un k c :: st) (.c [c]) f hp vs
      | .rs it nx mo b y r p :: st=>match f it with
        | some (.sc (.pointer (some ⟨b',0,none⟩)))=>match r with
          | c :: r=>runW P n tb Q0 m (.rs it nx mo b y r (p+1) :: st) (.c [y]) (upd (upd f nx (some (.tup [boo true,int p,.sc (.int .i32 c.toNat)]))) mo (some (boo true))) hp ((b',b) :: vs)
          | []=>runW P n tb Q0 m (.un 0 y :: st) (.c [y]) (upd (upd f nx (some (.tup [boo false]))) mo (some (boo false))) hp ((b',b) :: vs)
        | _=>False
      | _=>False
    | _=>False
  | m+1,st,.r l todo cs,f,hp,vs =>
    match todo with
    | []=>runW P n tb Q0 m st (.c cs) f hp vs
    | o :: rest =>
      match o.dst with
      | none=>False
      | some t =>
        match Nat.blt t n.n with
        | false=>False
        | true =>
          match Wd l ⟨f,hp⟩ o with
          | some false=>runW P n tb Q0 m st (.r l rest cs) (upd f t (some (.sc undef))) hp vs
          | some true=>evW tb ⟨f,hp⟩ o vs fun vs v=>runW P n tb Q0 m st (.r l rest cs) (upd f t (some v)) hp vs
          | none=>False
theorem runW_ok {tb:Tab2} (ht:Tab2Ok P tb):∀ (m:Nat) (st:List Fm) (md:Md) (f:Nat→Option AV) (hp:AH) (vs:List (Nat×Nat)),runW P n tb Q0 m st md f hp vs→VEq vs∧GG P n Q0 st md ⟨f,hp⟩
  | 0,st,md,f,hp,vs,h=>by
    unfold runW at h
    cases h with | mk h a=>exact ⟨a,h⟩
  | m+1,st,.c cs,f,hp,vs,h=>by
    simp only [runW] at h
    split at h
    · have:=runW_ok ht m _ _ _ _ _ h;exact ⟨this.1,c_seq this.2⟩
    · have:=runW_ok ht m _ _ _ _ _ h;exact ⟨this.1,c_skip this.2⟩
    · have:=runW_ok ht m _ _ _ _ _ h;exact ⟨this.1,c_label this.2⟩
    · rename_i id ops cs
      split at h
      case h_2=>exact h.elim
      rename_i hnd
      have:=runW_ok ht m _ _ _ _ _ h
      refine ⟨this.1,?_⟩
      have e:ops=ops.toList.toArray:=by simp
      show Trs P n _ (.region id ops false :: cs) _
      rw [e]
      exact c_reg (fun K hK=>this.2 K hK) hnd
    · have:=runW_ok ht m _ _ _ _ _ h;exact ⟨this.1,w_block this.2⟩
    · split at h
      · rename_i hp';have:=runW_ok ht m _ _ _ _ _ h;exact ⟨this.1,w_exit hp' this.2⟩
      · exact h.elim
    · split at h
      · rename_i hc;have:=runW_ok ht m _ _ _ _ _ h;exact ⟨this.1,c_true hc this.2⟩
      · rename_i hc;have:=runW_ok ht m _ _ _ _ _ h;exact ⟨this.1,c_false hc this.2⟩
      · exact h.elim
    · have:=runW_ok ht m _ _ _ _ _ h;exact ⟨this.1,w_scope this.2⟩
    · have:=runW_ok ht m _ _ _ _ _ h;exact ⟨this.1,w_unroll _ this.2⟩
    · split at h
      · have:=runW_ok ht m _ _ _ _ _ h;exact ⟨this.1,this.2⟩
      · have:=runW_ok ht m _ _ _ _ _ h;exact ⟨this.1,this.2⟩
      · have:=runW_ok ht m _ _ _ _ _ h;exact ⟨this.1,this.2⟩
      · split at h
        · rename_i b' hit
          split at h
          · have:=runW_ok ht m _ _ _ _ _ h
            refine ⟨this.1.2,?_⟩
            have e:b'=_:=this.1.1
            subst e
            exact (And.intro hit this.2:_∧_)
          · have:=runW_ok ht m _ _ _ _ _ h
            refine ⟨this.1.2,?_⟩
            have e:b'=_:=this.1.1
            subst e
            exact (And.intro hit this.2:_∧_)
        · exact h.elim
      · exact h.elim
    · exact h.elim
  | m+1,st,.r l todo cs,f,hp,vs,h=>by
    simp only [runW] at h
    split at h
    · have:=runW_ok ht m _ _ _ _ _ h;exact ⟨this.1,fun K hK=>rg_nil (hK _ this.2)⟩
    · rename_i o rest
      split at h
      · exact h.elim
      · rename_i t hd
        split at h
        · exact h.elim
        · rename_i hn
          split at h
          · rename_i hw;have:=runW_ok ht m _ _ _ _ _ h;exact ⟨this.1,fun K hK=>sk hw hd hn (this.2 K hK)⟩
          · rename_i hw
            obtain ⟨v,us,h1,h2,h3⟩:=evW_ok ht h
            have:=runW_ok ht m _ _ _ _ _ h1
            exact ⟨h2 this.1,fun K hK=>Go.Pv.st hw hd hn (h3 this.1) (this.2 K hK)⟩
          · exact h.elim
theorem tc {tb:Tab2} (ht:Tab2Ok P tb) (m:Nat) (h:runW P n tb Q0 m st (.c cs) f hp []):Trs P n (QQ P n Q0 st) cs ⟨f,hp⟩:=(runW_ok ht m st (.c cs) f hp [] h).2
theorem tr {tb:Tab2} (ht:Tab2Ok P tb) (m:Nat) {l todo:List Oper} (h:runW P n tb Q0 m st (.r l todo cs) f hp []):RR P n Q0 st l todo cs ⟨f,hp⟩:=(runW_ok ht m st (.r l todo cs) f hp [] h).2
variable {ops rest todo:List Oper} {o:Oper}
theorem rst {t:Nat} {v:AV} (hw:Wd ops ⟨f,hp⟩ o=some true) (hd:o.dst=some t) (hn:Nat.blt t n.n=true) (hy:YieldV P o ⟨f,hp⟩ v) (h:RR P n Q0 st ops rest cs ⟨upd f t (some v),hp⟩):RR P n Q0 st ops (o :: rest) cs ⟨f,hp⟩ :=
  fun K hK=>Go.Pv.st hw hd hn hy (h K hK)
theorem rse {t:Nat} {Out:AV→AH→Prop} (hw:Wd ops ⟨f,hp⟩ o=some true) (hd:o.dst=some t) (hn:Nat.blt t n.n=true) (hy:Yield P o ⟨f,hp⟩ no any Out)
    (h:∀ v H',Out v H'→RR P n Q0 st ops rest cs ⟨upd f t (some v),H'⟩):RR P n Q0 st ops (o :: rest) cs ⟨f,hp⟩:=fun K hK=>se hw hd hn hy fun v H' hO=>h v H' hO K hK
theorem rsstore {v:AV} {H':AH} (hw:Wd ops ⟨f,hp⟩ o=some true) (hd:o.dst=none) (hy:Yield P o ⟨f,hp⟩ no no (fun z H=>z=v∧H=H'))
    (h:RR P n Q0 st ops rest cs ⟨f,H'⟩):RR P n Q0 st ops (o :: rest) cs ⟨f,hp⟩:=fun K hK=>sstore hw hd hy (h K hK)
theorem rsas {u:AV} (t:Nat) (v:AV) (h:f t=some u) (e:u=v) (h1:RR P n Q0 st ops todo cs ⟨upd f t (some v),hp⟩):RR P n Q0 st ops todo cs ⟨f,hp⟩:=fun K hK=>sas t v h e (h1 K hK)
theorem nv {α β:Type} {e:α} {G:α→Option β} {r:β} {av:α→AV} {tb:Tab2} (ht:Tab2Ok P tb) {t:Nat} (h:bnd e G=some r) (k:∀ x,G x=some r→RR P n Q0 st ops rest cs ⟨upd f t (some (av x)),hp⟩)
    (hv:evW tb ⟨f,hp⟩ o [] fun vs v=>v=av e∧VEq vs) (hw:Wd ops ⟨f,hp⟩ o=some true) (hd:o.dst=some t) (hn:Nat.blt t n.n=true):RR P n Q0 st ops (o :: rest) cs ⟨f,hp⟩:=by
  obtain ⟨v,us,⟨rfl,h2⟩,_,h3⟩:=evW_ok ht hv
  exact rst hw hd hn (h3 h2) (k e h)
theorem nb {β:Type} {e:Bool} {G:Bool→Option β} {r:β} {tb:Tab2} (ht:Tab2Ok P tb) {t:Nat} (h:bnd e G=some r) (k:∀ x,G x=some r→RR P n Q0 st ops rest cs ⟨upd f t (some (boo x)),hp⟩)
    (hv:evW tb ⟨f,hp⟩ o [] fun vs v=>v=boo e∧VEq vs:=by exact ⟨rfl,by repeat (first | exact trivial | refine ⟨rfl,?_⟩)⟩) (hw:Wd ops ⟨f,hp⟩ o=some true:=by rfl) (hd:o.dst=some t:=by rfl) (hn:Nat.blt t n.n=true:=by rfl):RR P n Q0 st ops (o :: rest) cs ⟨f,hp⟩:=nv (av:=boo) ht h k hv hw hd hn
theorem ni {β:Type} {kk:IntKind} {e:Int} {G:Int→Option β} {r:β} {tb:Tab2} (ht:Tab2Ok P tb) {t:Nat} (h:bnd e G=some r) (k:∀ x,G x=some r→RR P n Q0 st ops rest cs ⟨upd f t (some (.sc (.int kk x))),hp⟩)
    (hv:evW tb ⟨f,hp⟩ o [] fun vs v=>v=.sc (.int kk e)∧VEq vs:=by exact ⟨rfl,by repeat (first | exact trivial | refine ⟨rfl,?_⟩)⟩) (hw:Wd ops ⟨f,hp⟩ o=some true:=by rfl) (hd:o.dst=some t:=by rfl) (hn:Nat.blt t n.n=true:=by rfl):RR P n Q0 st ops (o :: rest) cs ⟨f,hp⟩:=nv (av:=fun x=>.sc (.int kk x)) ht h k hv hw hd hn
theorem qq_nil (Q:Go.Exit→AS→Prop):QQ P n Q []=Q:=by funext e S;rfl
theorem pcw {f:FuncId} {fn:Func} {c:Code} {args:List AV} {H:AH} {R:AV→AH→Prop} (hf:P.funcs[f]?=some fn) (hb:fn.body=some c) (hle:Nat.ble args.length fn.ntmps=true)
    (h:∀ Q:Go.Exit→AS→Prop,(∀ S' vs H2,ResA P S' fn.results.toList vs→(∀ t v,H2 t=some v→S'.hp t=some v)→R (oneOrTup vs) H2→Q .ret S')→(∀ S' vs H2,ResA P S' fn.results.toList vs→(∀ t v,H2 t=some v→S'.hp t=some v)→R (oneOrTup vs) H2→Q .normal S') →
      Trs P ⟨fn.ntmps,false,[]⟩ (QQ P ⟨fn.ntmps,false,[]⟩ Q []) [c] ⟨fun t=>args[t]?,H⟩):PC P f args H R :=
  pc_of' hf hb hle fun Q h1 h2=>by have:=h Q h1 h2;rw [qq_nil] at this;exact this
def JJ {A K:Type} (St:A→K→AS) (I:A→Prop):AS→Prop:=fun S'=>∃ a k,I a∧S'.leH (St a k)
theorem w_join {A K:Type} (St:A→K→AS) (I:A→Prop) (h1:Trs P n (QQ P n Q0 (.jn (JJ St I) :: st)) [x] S) (h2:∀ a k,I a→Trs P n (QQ P n Q0 st) cs (St a k)):Trs P n (QQ P n Q0 st) (x :: cs) S:=by
  have hrefl:∀ S':AS,S'.leH S':=fun S' s hs=>⟨fun t x hx=>⟨x,hx,fun _ h=>h⟩,hs,fun _ h=>h⟩
  refine Tr.monoH (trs_of h1) ?_
  intro e S' hq
  cases e with
  | normal=>obtain ⟨a,k,hi,hl⟩:=hq;exact ⟨St a k,hl,h2 a k hi⟩
  | _=>exact ⟨S',hrefl S',hq⟩
def keepS (f:Nat→Option AV):List Nat→(List (Nat×AV)→Prop)→Prop
  | [],k=>k []
  | t :: L,k=>match f t with | some v=>keepS f L fun l=>k ((t,v) :: l) | none=>False
theorem keepS_ok:∀ {L:List Nat} {k:List (Nat×AV)→Prop},keepS f L k→∃ l,k l
  | [],k,h=>⟨[],h⟩
  | t :: L,k,h=>by
    unfold keepS at h
    split at h
    · obtain ⟨l,hl⟩:=keepS_ok h;exact ⟨_,hl⟩
    · exact h.elim
def keepO (hp:AH):List Nat→(List (Nat×AObj)→Prop)→Prop
  | [],k=>k []
  | t :: L,k=>match hp t with | some v=>keepO hp L fun l=>k ((t,v) :: l) | none=>False
theorem keepO_ok:∀ {L:List Nat} {k:List (Nat×AObj)→Prop},keepO hp L k→∃ l,k l
  | [],k,h=>⟨[],h⟩
  | t :: L,k,h=>by
    unfold keepO at h
    split at h
    · obtain ⟨l,hl⟩:=keepO_ok h;exact ⟨_,hl⟩
    · exact h.elim
structure Two (p q:Prop):Prop where
  a:p
  b:q
theorem jn {A K R:Type} {X:Option A} {G:A→Option R} {r:R} (hD:X.bind G=some r) (L M:List Nat) (N:A→K→List (Nat×AV)) (O:A→K→List (Nat×AObj))
    (h:keepS f L fun l=>keepO hp M fun m=>Two (∀ j,X=some j→Trs P n (QQ P n Q0 (.jn (JJ (fun a k=>⟨kn (N a k++l),hk (O a k++m)⟩) (fun a=>a=j)) :: st)) [x] ⟨f,hp⟩)
      (∀ a k,G a=some r→Trs P n (QQ P n Q0 st) cs ⟨kn (N a k++l),hk (O a k++m)⟩)):Trs P n (QQ P n Q0 st) (x :: cs) ⟨f,hp⟩:=by
  obtain ⟨l,h⟩:=keepS_ok h
  obtain ⟨m,h⟩:=keepO_ok h
  obtain ⟨j,h1,h2⟩:=bind_e hD
  exact w_join _ _ (h.a j h1) fun a k e=>h.b a k (e ▸ h2)
theorem jnE {A K R:Type} {X:Option (A⊕R)} {G:A→Option R} {r:R} (hD:X.bind (sel G)=some r) (L M:List Nat) (N:A→K→List (Nat×AV)) (O:A→K→List (Nat×AObj))
    (h:keepS f L fun l=>keepO hp M fun m=>Two (∀ j,X=some j→sel G j=some r→Trs P n (QQ P n Q0 (.jn (JJ (fun a k=>⟨kn (N a k++l),hk (O a k++m)⟩) (fun a=>j=.inl a)) :: st)) [x] ⟨f,hp⟩)
      (∀ a k,G a=some r→Trs P n (QQ P n Q0 st) cs ⟨kn (N a k++l),hk (O a k++m)⟩)):Trs P n (QQ P n Q0 st) (x :: cs) ⟨f,hp⟩:=by
  obtain ⟨l,h⟩:=keepS_ok h
  obtain ⟨m,h⟩:=keepO_ok h
  obtain ⟨j,h1,h2⟩:=bind_e hD
  exact w_join _ _ (h.a j h1 h2) fun a k e=>h.b a k (by subst e;exact h2)
theorem lf {A K:Type} {St:A→K→AS} {a j:A} (h:some a=some j) (k:K) (hl:S.leH (St a k)):Trs P n (QQ P n Q0 (.jn (JJ St (fun a=>a=j)) :: st)) [] S:=c_nil (show JJ _ _ _ from ⟨a,k,nxt_e h,hl⟩)
theorem lfE {A K C:Type} {St:A→K→AS} {a:A} {j:A⊕C} (h:brk a=some j) (k:K) (hl:S.leH (St a k)):Trs P n (QQ P n Q0 (.jn (JJ St (fun a=>j=.inl a)) :: st)) [] S:=c_nil (show JJ _ _ _ from ⟨a,k,brk_e h,hl⟩)
def LJ {V K J:Type} (St:V→K→AS) (L:V→Option J) (j:J):AS→Prop:=fun S'=>∃ v' k',L v'=some j∧S'.leH (St v' k')
theorem w_loop {V K J:Type} (St:V→K→AS) (L:Nat→V→Option J) {j:J} {m0:Nat} (v0:V) (k0:K) (h:L m0 v0=some j) (hz:∀ v,L 0 v=none) (hle:S.leH (St v0 k0))
    (round:∀ m v k,m+1≤m0→L (m+1) v=some j→Trs P n (QQ P n Q0 (.jn (LJ St (L m) j) :: st)) [x] (St v k)) :
    Trs P n (QQ P n Q0 st) (.loop x :: cs) S:=by
  refine tr_loopH (ι:={ p:Nat×V×K // p.1≤m0∧L p.1 p.2.1=some j }) (fun p=>St p.1.2.1 p.1.2.2) (fun p=>p.1.1) ⟨(m0,v0,k0),Nat.le_refl _,h⟩ hle ?_
  rintro ⟨⟨m,v,k⟩,hm,hp⟩
  cases m with
  | zero=>rw [hz] at hp;cases hp
  | succ m =>
    refine Tr.mono (trs_of (round m v k hm hp)) ?_
    intro e S' hq
    cases e with
    | normal=>obtain ⟨v',k',h1,h2⟩:=hq;exact ⟨⟨(m,v',k'),Nat.le_trans (Nat.le_succ m) hm,h1⟩,Nat.lt_succ_self m,h2⟩
    | _=>exact hq
theorem lp {V K J:Type} (Lf:Nat→V→Option J) {j:J} {m0:Nat} (v0:V) (k0:K) (hD:Lf m0 v0=some j) (L M:List Nat) (N:V→K→List (Nat×AV)) (O:V→K→List (Nat×AObj)) (hz:∀ v,Lf 0 v=none)
    (h:keepS f L fun l=>keepO hp M fun m=>Two (AS.leH ⟨f,hp⟩ ⟨kn (N v0 k0++l),hk (O v0 k0++m)⟩)
      (∀ q v k,q+1≤m0→Lf (q+1) v=some j→Trs P n (QQ P n Q0 (.jn (LJ (fun v k=>⟨kn (N v k++l),hk (O v k++m)⟩) (Lf q) j) :: st)) [x] ⟨kn (N v k++l),hk (O v k++m)⟩)):Trs P n (QQ P n Q0 st) (.loop x :: cs) ⟨f,hp⟩:=by
  obtain ⟨l,h⟩:=keepS_ok h
  obtain ⟨m,h⟩:=keepO_ok h
  exact w_loop _ Lf v0 k0 hD hz h.a h.b
theorem bk {V K J:Type} {St:V→K→AS} {L:V→Option J} {j:J} (v:V) (k:K) (h:L v=some j) (hl:S.leH (St v k)):Trs P n (QQ P n Q0 (.jn (LJ St L j) :: st)) [] S:=c_nil (show LJ _ _ _ _ from ⟨v,k,h,hl⟩)
end
end Go.Pv
