import Derived.Test.YtimkkeehkhkhcaaGreatPvJ
import Derived.Lib.Builder
import Derived.Lib.UnsafeStr
import Derived.Lib.AppendStr
set_option linter.unusedVariables false
set_option linter.unusedSimpArgs false
namespace Go.Pv
section
variable {P:Program} {n:NT} {S:AS} {o:Oper} {T:TypeId} {x y:Operand}
theorem eY {Ty e:TypeId} (ho:o.op=.binOp .eql T x y Ty) (hT:P.underlying T=some (.pointer e)) (hx:S.ev x=some (.sc (.pointer none))) (hy:S.ev y=some (.sc (.pointer none))):bS P o S (.sc (.bool true)) :=
  kK ho hx hy λw=>by
    have hT':P.underlying T=some (.pointer (P.pointee T)):=by rw [hT];simp [Program.pointee,hT]
    simp only [eqGuard,Sem.run_bind]
    simp [run_eql_pointer_nil w T none hT']
theorem gM {Ty e:TypeId} {p:AV} {cs:List AV} (ho:o.op=.binOp .eql T x y Ty) (hT:P.underlying T=some (.pointer e)) (hx:S.ev x=some p) (hp:qR S p cs) (hy:S.ev y=some (.sc (.pointer none))):bS P o S (.sc (.bool false)) :=
  iK λs ρ hH h=>by
    have hT':P.underlying T=some (.pointer (P.pointee T)):=by rw [hT];simp [Program.pointee,hT]
    obtain ⟨b,off,h1,_⟩:=hp.rd hH (h x (by simp [ho,Op.operands]) _ hx)
    have h2:=(h y (by simp [ho,Op.operands]) _ hy).gJ
    refine ⟨_,.sc _,?_⟩
    simp only [execOp,ho,h1,h2,eqGuard,Sem.run_bind]
    simp [run_eql_pointer_nil s.w T _ hT']
theorem oM {Ty e:TypeId} {p:AV} {cs:List AV} (ho:o.op=.binOp .neq T x y Ty) (hT:P.underlying T=some (.pointer e)) (hx:S.ev x=some p) (hp:qR S p cs) (hy:S.ev y=some (.sc (.pointer none))):bS P o S (.sc (.bool true)) :=
  iK λs ρ hH h=>by
    have hT':P.underlying T=some (.pointer (P.pointee T)):=by rw [hT];simp [Program.pointee,hT]
    obtain ⟨b,off,h1,_⟩:=hp.rd hH (h x (by simp [ho,Op.operands]) _ hx)
    have h2:=(h y (by simp [ho,Op.operands]) _ hy).gJ
    refine ⟨_,.sc _,?_⟩
    simp only [execOp,ho,h1,h2,eqGuard,Sem.run_bind]
    simp [run_neq_pointer_nil s.w T _ hT']
theorem aME {Ty e:TypeId} {j:TypeInfo} {id aD row off:Nat} {ob:aW} (ho:o.op=.binOp .neq T x y Ty) (hT:P.underlying T=some (.pointer e)) (hj:P.info? e=some j) (hx:S.ev x=some (.pt id aD row off)) (hy:S.ev y=some (.pt id aD row off))
    (hob:S.hp id=some ob) (bP:ob.aD=aD) (hne:ob.rows≠[]):bS P o S (.sc (.bool false)) :=
  iK λs ρ hH h=>by
    obtain ⟨m,cur,fr,hm,hb,h1⟩:=sD hH hob bP hne (h x (by simp [ho,Op.operands]) _ hx)
    obtain ⟨m',cur',fr',hm',hb',h2⟩:=sD hH hob bP hne (h y (by simp [ho,Op.operands]) _ hy)
    rw [hm] at hm';cases hm'
    refine ⟨_,.sc _,?_⟩
    simp only [execOp,ho,h1,h2,eqGuard,Sem.run_bind]
    simp [Lib.run_neq_ptr_same s.w _ hT hj]
theorem aKW {src t:TypeId} {j:TypeInfo} {id aD:Nat} {ob:aW} {r:List AV} (ho:o.op=.convert src T x) (hs:P.underlying src=some (.pointer t)) (hT:P.underlying T=some .unsafePointer) (hj:P.info? t=some j) (hjs:j.size≠0)
    (hx:S.ev x=some (.pt id aD 0 0)) (hob:S.hp id=some ob) (bP:ob.aD=aD) (hr:ob.rows=[r]) (hsz:0<ob.sz):bS P o S (.pt id aD 0 0) :=
  iK λs ρ hH h=>by
    have hv:=h x (by simp [ho,Op.operands]) _ hx
    obtain ⟨m,cur,fr,hm,hb,h1⟩:=sD hH hob bP (by rw [hr];simp) hv
    have hpos:0<cur.size:=by
      rw [hb.hcs]
      have:=hb.hlen;rw [hr] at this;simp at this
      exact Nat.mul_pos (by omega) hsz
    refine ⟨_,hv,?_⟩
    have hsh:s.w.shape? (⟨m.b,0*ob.sz+0,none⟩:Addr).block=some (ob.elem,cur.size):=by simp [World.shape?,hb.hb]
    have:=Lib.run_to_unsafe (P:=P) s.w ⟨m.b,0*ob.sz+0,none⟩ hs hT hj hjs hsh (by simpa using hpos)
    simp only [execOp,ho,h1,Sem.run_bind,this]
    rfl
theorem aBG {src u e:TypeId} {j:TypeInfo} {id aD:Nat} {ob:aW} {r:List AV} (ho:o.op=.convert src T x) (hs:P.underlying src=some .unsafePointer) (hT:P.underlying T=some (.pointer u)) (hj:P.info? u=some j)
    (hx:S.ev x=some (.pt id aD 0 0)) (hob:S.hp id=some ob) (bP:ob.aD=aD) (hr:ob.rows=[r]) (hel:ob.elem=e) (hlies:∀ c,liesAt P P.depth e c 0 u 1=true\/c=0) (hc:P.cellsOf e=ob.sz) (hsz:0<ob.sz):bS P o S (.pt id aD 0 0) :=
  iK λs ρ hH h=>by
    have hv:=h x (by simp [ho,Op.operands]) _ hx
    obtain ⟨m,cur,fr,hm,hb,h1⟩:=sD hH hob bP (by rw [hr];simp) hv
    have hpos:0<m.ct:=by have:=hb.hlen;rw [hr] at this;simp at this;omega
    refine ⟨_,hv,?_⟩
    have hsh:s.w.shape? (⟨m.b,0*ob.sz+0,none⟩:Addr).block=some (e,cur.size):=by simp [World.shape?,hb.hb,hel]
    have hcc:cur.size / P.cellsOf e=m.ct:=by rw [hc,hb.hcs,Nat.mul_div_cancel _ hsz]
    have hl:liesAt P P.depth e (cur.size / P.cellsOf e) (⟨m.b,0*ob.sz+0,none⟩:Addr).off u 1=true:=by
      rw [hcc]
      rcases hlies m.ct with h | h
      · simpa using h
      · omega
    have:=Lib.run_from_unsafe (P:=P) s.w ⟨m.b,0*ob.sz+0,none⟩ hs hT hj hsh hl
    simp only [execOp,ho,h1,Sem.run_bind,this]
    rfl
theorem PG {f:FuncId} {fn:Func} {v:AV} {ts:Array TypeId} (ho:o.op=.call { callee:=.value (.func f),args:=#[x],argTypes:=ts }) (hf:P.funcs[f]?=some fn) (hb:fn.body=none) (hn:(fn.name == "runtime.NumGoroutine")=false)
    (h1:Extern.findNext fn=none) (h2:Extern.find fn=some Extern.AbiNoEscape.same) (hx:S.ev x=some v):bS P o S v :=
  iK λs ρ hH h=>by
    refine ⟨ρ x,h x (by simp [ho,Op.operands,Call.operands]) _ hx,?_⟩
    have hfv:=h (.func f) (by simp [ho,Op.operands,Call.operands]) (.fn (.func f) [] []) rfl
    generalize hu:ρ (.func f)=u at hfv
    cases hfv with
    | fn hl hl' h3 h4 =>
      rename_i a' c'
      have ea:a'=#[]:=Array.eq_empty_of_size_eq_zero hl.symm
      have ec:c'=#[]:=Array.eq_empty_of_size_eq_zero hl'.symm
      subst ea ec
      have hb':fn.body.isNone=true:=by rw [hb];rfl
      simp only [execOp,ho,resolve,hu,Deferred.ofValue,Sem.run_bind,Sem.run_pure,Result.andThen_ok,invoke,callFunc,program,Sem.run,hf,hn,hb',if_true,Bool.false_eq_true,if_false,mark,h1,h2]
      simp only [List.map_toArray,List.map_cons,List.map_nil,Array.empty_append,Array.append_empty,Lib.run_noEscape,Result.andThen_ok]
def bN (l:List UInt8):List (List AV):=l.map λb=>[.sc (.int .u8 b.toNat)]
theorem TN {s:Sit} {id aD k:Nat} {ob:aW} {v:Value} {l:List UInt8} (hH:HR s S.hp) (hob:S.hp id=some ob) (bP:ob.aD=aD) (hsz:ob.sz=1) (hr:ob.rows=bN l) (hk:k=l.length) (hv:VR s (.sl id aD 0 k) v) :
    (v=.slice none 0 0/\l=[])\/∃ m cur fr cap,s.mu id=some m/\rJ s ob m cur fr/\v=.slice (some ⟨m.b,0,none⟩) l.length cap/\l.length<=cap/\cap<=m.ct/\∀ (j:Nat) (b:UInt8),l[j]?=some b->cur[j]?=some (.int .u8 b.toNat):=by
  obtain ⟨m,hm⟩:=hH.obj id ob hob
  cases hv with
  | sl hk0 h1 hh =>
    have hh:=hh m hm.hm (hm.bP.trans bP)
    rcases hm.body with ⟨hn,he⟩ | ⟨cur,fr,hb⟩
    · refine .inl ⟨(hh.1 hn).1,?_⟩
      rw [hr] at he;simpa [bN] using he
    · obtain ⟨cap,q1,q2,q3⟩:=hh.2 hb.hnil
      refine .inr ⟨m,cur,fr,cap,hm.hm,hb,by rw [q1,Nat.zero_mul,hk],by omega,by omega,λj b hj=>?_⟩
      have hrow:ob.rows[j]?=some [.sc (.int .u8 b.toNat)]:=by rw [hr];simp [bN,hj]
      obtain ⟨u,g1,g2⟩:=hb.rd hrow 0 _ rfl
      rw [rX hb.hb,hsz,Nat.mul_one,Nat.add_zero] at g1
      rw [g1,g2.gJ]
theorem foldl_push (l:List UInt8):∀ (s:ByteArray),(l.map λ(b:UInt8)=>(b.toNat:Int)).foldl (λr n=>r.push (UInt8.ofNat n.toNat)) s=s++bs l:=by
  induction l with
  | nil=>intro s;apply ByteArray.ext;simp [bs]
  | cons b l ih =>
    intro s
    simp only [List.map_cons,List.foldl_cons,ih]
    apply ByteArray.ext
    simp [bs,ByteArray.data_push]
theorem CY {src e:TypeId} {id aD k:Nat} {ob:aW} {l:List UInt8} (ho:o.op=.convert src T x) (hs:P.underlying src=some (.slice e)) (he:P.underlying e=some (.int .u8)) (hT:P.underlying T=some .string)
    (hx:S.ev x=some (.sl id aD 0 k)) (hob:S.hp id=some ob) (bP:ob.aD=aD) (hsz:ob.sz=1) (hr:ob.rows=bN l) (hk:k=l.length):bS P o S (.sc (.string (bs l))) :=
  iK λs ρ hH h=>by
    refine ⟨_,.sc _,?_⟩
    rcases TN hH hob bP hsz hr hk (h x (by simp [ho,Op.operands]) _ hx) with ⟨h1,h2⟩ | ⟨m,cur,fr,cap,h1,h2,h3,h4,h5,h6⟩
    · simp only [execOp,ho,h1,h2,Sem.run_bind,run_convert_bytes_string s.w src T e none 0 0 hs he hT]
      rfl
    · have hl:(loadCells ⟨m.b,0,none⟩ l.length).run P s.w=.ok ((l.map λ(b:UInt8)=>(b.toNat:Int)).map (Value.int .u8)).toArray s.w:=by
        have:=run_loadCells_list (P:=P) s.w ⟨m.b,0,none⟩ ((l.map λ(b:UInt8)=>(b.toNat:Int)).map (Value.int .u8)) (λj v hv=>by
          rw [addr_add,rX h2.hb,Nat.zero_add]
          simp only [List.getElem?_map] at hv
          cases hj:l[j]? with
          | none=>rw [hj] at hv;simp at hv
          | some b=>rw [hj] at hv;simp at hv;rw [h6 j b hj,hv])
        simpa using this
      have:=run_bytesToString (P:=P) s.w ⟨m.b,0,none⟩ l.length cap _ hl
      simp only [execOp,ho,h3,Sem.run_bind,run_convert_bytes_string s.w src T e _ _ _ hs he hT,this,Result.andThen_ok,foldl_push]
      have:ByteArray.empty++bs l=bs l:=by apply ByteArray.ext;simp [bs]
      rw [this];rfl
end
section
variable {P:Program} {n:NT} {S:AS} {o:Oper} {T:TypeId} {x y:Operand}
theorem SK {ts:Array TypeId} {id aD k:Nat} {ob:aW} {r:List AV} (ho:o.op=.call { callee:=.builtin .unsafeSliceData,args:=#[x],argTypes:=ts }) (hx:S.ev x=some (.sl id aD 0 k)) (hob:S.hp id=some ob) (bP:ob.aD=aD)
    (hr:ob.rows[0]?=some r) (hk:0<k):bS P o S (.pt id aD 0 0) :=
  iK λs ρ hH h=>by
    have hv:=h x (by simp [ho,Op.operands,Call.operands]) _ hx
    obtain ⟨m,hm⟩:=hH.obj id ob hob
    generalize hu:ρ x=u at hv
    cases hv with
    | sl hk0 h1 hh =>
      have hh:=hh m hm.hm (hm.bP.trans bP)
      rcases hm.body with ⟨hn,he⟩ | ⟨cur,fr,hb⟩
      · rw [he] at hr;simp at hr
      · obtain ⟨cap,q1,q2,q3⟩:=hh.2 hb.hnil
        rw [Nat.zero_mul] at q1
        refine ⟨.pointer (some ⟨m.b,0,none⟩),.pt hk0 rfl λm' hm' _ _=>?_,?_⟩
        · rw [hm.hm] at hm';cases hm';simp
        · have:=Lib.run_unsafeSliceData_row (P:=P) s.w ts o.type ⟨m.b,0,none⟩ k cap (by omega)
          simp only [execOp,ho,resolve,invoke,builtin,Sem.run_bind,Sem.run_pure,Result.andThen_ok,List.map_toArray,List.map_cons,List.map_nil,hu,q1,this]
theorem SC {pt it e:TypeId} {id aD k:Nat} {ob:aW} {l:List UInt8} (ho:o.op=.call { callee:=.builtin .unsafeString,args:=#[x,y],argTypes:=#[pt,it] }) (hp:P.underlying pt=some (.pointer e)) (hc:P.cellsOf e=1)
    (hx:S.ev x=some (.pt id aD 0 0)) (hy:S.ev y=some (.sc (.int .i64 k))) (hob:S.hp id=some ob) (bP:ob.aD=aD) (hmt:ob.mt=true) (hsz:ob.sz=1) (hel:ob.elem=e) (hr:ob.rows=bN l) (hk:k=l.length) (hl:l≠[]) (hmax:l.length<=9223372036854775807) :
    bW P o S no no (λz H'=>z=.sc (.string (bs l))/\H'=upd S.hp id none):=by
  intro s a next Q hH hops _ hn
  have hxv:=hops x (by simp [ho,Op.operands,Call.operands]) _ hx
  have hyv:=(hops y (by simp [ho,Op.operands,Call.operands]) _ hy).gJ
  have hne:ob.rows≠[]:=by rw [hr];simpa [bN] using hl
  obtain ⟨m,cur,fr,hm,hb,h1⟩:=sD hH hob bP hne hxv
  have hcell:∀ (j:Nat) (b:UInt8),l[j]?=some b->s.w.cell? ((⟨m.b,0,none⟩:Addr).add j)=some (.int .u8 b.toNat):=λj b hj=>by
    have hrow:ob.rows[j]?=some [.sc (.int .u8 b.toNat)]:=by rw [hr];simp [bN,hj]
    obtain ⟨u,g1,g2⟩:=hb.rd hrow 0 _ rfl
    rw [hsz,Nat.mul_one,Nat.add_zero] at g1
    rw [addr_add,Nat.zero_add,g1,g2.gJ]
  have hcs:l.length<=cur.size:=by
    have:=hb.hlen;rw [hr] at this;simp [bN] at this
    rw [hb.hcs,hsz,Nat.mul_one];exact this
  have hrun:=Lib.run_unsafeString_row (P:=P) s.w pt it o.type e hp hc m.b cur.size (by simp [World.shape?,hb.hb,hel]) l hl hcs hmax hcell
  let w':=s.w.freeze ⟨m.b,0,none⟩ l.length
  have hlen:l.length≠0:=by simpa using hl
  have hheap:∀ k,k≠m.b->w'.heap[k]?=s.w.heap[k]?:=λk hk=>by
    simp only [w',World.freeze,hlen,if_false]
    rw [Array.getElem?_modify,if_neg (by omega)]
  have hsize:w'.heap.size=s.w.heap.size:=by simp [w',World.freeze,hlen]
  let s':Sit:={ s with w:=w' }
  have jI:=hb.jI hmt
  have hmono:∀ x v,VR s x v->VR s' x v:=λx v h=>VR.mono (s:=s) (s':=s') (λb hi=>⟨hi,hheap b λe=>jI (e ▸ hi)⟩) (λ_ _ h=>.inl h) (λ_ h=>h) h
  have hos:w'.os=s.w.os/\w'.tape=s.w.tape/\w'.output=s.w.output:=by simp [w',World.freeze,hlen]
  refine jM (w':=s'.w) (v:=.string (bs l)) ?_ (hn s' _ (.sc (.string (bs l))) (upd S.hp id none) ⟨rfl,rfl⟩ (.sc _) ⟨λi o' ho'=>?_,?_,λb hb'=>by simp only [s',hsize];exact hH.im b hb',hH.fin⟩
    ⟨hos.1,hos.2.1,hos.2.2,by simp [s',hsize],λb hb' hno=>hheap b λe=>hno ⟨id,ob,m,hob,hmt,hm,hb.hnil,e.symm⟩,λ_ h=>h,λ_ _ _ h=>h,?_,hmono,λ_ h=>h⟩ (λ_ h=>.inl h))
  · simp only [execOp,ho,resolve,invoke,builtin,Sem.run_bind,Sem.run_pure,Result.andThen_ok,List.map_toArray,List.map_cons,List.map_nil,h1,hyv,hk,Nat.zero_mul,Nat.add_zero,hrun]
    rfl
  · by_cases hi:i=id
    · subst hi;rw [upd_same] at ho';cases ho'
    · rw [upd_ne _ _ hi] at ho'
      obtain ⟨m2,hm2⟩:=hH.obj i o' ho'
      refine ⟨m2,⟨hm2.hm,hm2.bP,hm2.hsz,hm2.hk,?_⟩⟩
      rcases hm2.body with h | ⟨cur2,fr2,hb2⟩
      · exact .inl h
      · have hne2:m2.b≠m.b:=λe=>hi (hH.jQ i id o' ob m2 m ho' hob hm2.hm hm hb2.hnil hb.hnil e)
        exact .inr ⟨cur2,fr2,⟨hb2.hnil,(hheap m2.b hne2).trans hb2.hb,hb2.hfr,hb2.happ,hb2.hcs,hb2.hct,hb2.hlen,hb2.hr,λi r j x v a b c=>hmono _ _ (hb2.hv i r j x v a b c),hb2.h1,hb2.him,hb2.jI⟩⟩
  · intro i i' o1 o2 m1 m2 g1 g2 q1 q2 n1 n2 e
    have conv:∀ {i o'},upd S.hp id none i=some o'->S.hp i=some o':=λ{i o'} h=>by
      by_cases hi:i=id
      · subst hi;rw [upd_same] at h;cases h
      · rw [upd_ne _ _ hi] at h;exact h
    exact hH.jQ i i' o1 o2 m1 m2 (conv g1) (conv g2) q1 q2 n1 n2 e
  · rintro b hb' ⟨i,o',m',q1,q2,q3,q4,q5⟩
    by_cases hi:i=id
    · subst hi;rw [upd_same] at q1;cases q1
    · rw [upd_ne _ _ hi] at q1;exact ⟨i,o',m',q1,q2,q3,q4,q5⟩
theorem CQ {F U V:Nat->Prop} {u e:TypeId} {id aD k:Nat} {ob:aW} {l t:List UInt8} (hp:nY F U V)
    (ho:o.op=.call { callee:=.builtin .append,args:=#[x,y],argTypes:=#[T,u] }) (hT:P.underlying T=some (.slice e)) (hu:P.underlying u=some .string) (hz:iW P e=some (1,[.int .u8 0])) (hby:jK P e=some 1)
    (hx:S.ev x=some (.sl id aD 0 k)) (hy:S.ev y=some (.sc (.string (bs t)))) (hob:S.hp id=some ob) (bP:ob.aD=aD) (hmt:ob.mt=true) (happ:ob.app=true) (hel:ob.elem=e) (hosz:ob.sz=1) (hr:ob.rows=bN l) (hk:k=l.length)
    (hfit:k+t.length<=140737488355328) :
    bW P o S F U (λz H'=>∃ ver',V ver'/\z=.sl id ver' 0 (k+t.length)/\H'=upd S.hp id (some { ob with aD:=ver',rows:=bN (l++t) })):=by
  intro s a next Q hH hops hF hn
  obtain ⟨ver',hV,hU,hun⟩:=hp.get hH hF
  obtain ⟨i,hi,hsz,hzo,hzl,hpos,hzone⟩:=uE hz
  have hiz:∃ z,i.zero=some z/\z.cells=#[.int .u8 0]:=by
    unfold zeroOf at hzo;rw [hi] at hzo
    simp only [Option.bind_some] at hzo
    cases hz:i.zero with
    | none=>rw [hz] at hzo;cases hzo
    | some z=>rw [hz] at hzo;exact ⟨z,rfl,by simp at hzo;apply Array.toList_inj.1;rw [hzo]⟩
  obtain ⟨z,hz1,hz2⟩:=hiz
  have hib:i.bytes=1:=by unfold jK at hby;rw [hi] at hby;simpa using hby
  have hxv:=hops x (by simp [ho,Op.operands,Call.operands]) _ hx
  have hyv:=(hops y (by simp [ho,Op.operands,Call.operands]) _ hy).gJ
  have hbc:=TN hH hob bP hosz hr hk hxv
  obtain ⟨m,hm⟩:=hH.obj id ob hob
  have run:∀ {w':World} {r:Value},(Builtin.append_ #[T,u] o.type #[a.eval x,.string (bs t)]).run P s.w=.ok r w'->(execOp a.eval o).run P s.w=.ok (.value r) w':=λh=>by
    simp only [execOp,ho,resolve,invoke,builtin,List.map_toArray,List.map_cons,List.map_nil,Sem.run_bind,Sem.run_pure,Result.andThen_ok,hyv,h]
  have hrl:(bN (l++t)).length=l.length+t.length:=by simp [bN]
  have hrr:∀ (i:Nat) (r:List AV),(bN (l++t))[i]?=some r->r.length=1:=λi r h=>by
    simp only [bN,List.getElem?_map] at h
    obtain ⟨b,_,rfl⟩:=Option.map_eq_some_iff.1 h
    rfl
  have hvv:∀ (cur':Array Value),(∀ (j:Nat) (b:UInt8),(l++t)[j]?=some b->∀ v,cur'[j]?=some v->v=.int .u8 b.toNat) ->
      ∀ (i:Nat) (r:List AV) (j:Nat) (x:AV) (v:Value),(bN (l++t))[i]?=some r->r[j]?=some x->cur'[i*1+j]?=some v->VR s x v:=λcur' hc i r j x v h1 h2 h3=>by
    simp only [bN,List.getElem?_map] at h1
    obtain ⟨b,hb,rfl⟩:=Option.map_eq_some_iff.1 h1
    cases j with
    | succ j=>simp at h2
    | zero =>
      simp at h2;subst h2
      rw [Nat.mul_one,Nat.add_zero] at h3
      rw [hc i b hb v h3];exact .sc _
  have fin:∀ (g ct:Nat) (cur':Array Value) (w':World) (cap':Nat),w'.os=s.w.os->w'.tape=s.w.tape->w'.output=s.w.output->s.w.heap.size<=w'.heap.size ->
      (∀ j,j<s.w.heap.size->j≠g->w'.heap[j]?=s.w.heap[j]?)->w'.heap[g]?=some (.cells cur' e (0,0))->(s.w.heap.size<=g\/∃ o0 m0,S.hp id=some o0/\o0.mt=true/\s.mu id=some m0/\m0.nil=false/\m0.b=g) ->
      cur'.size=ct->ct<=maxLen->k+t.length<=cap'->cap'<=ct->(∀ (j:Nat) (b:UInt8),(l++t)[j]?=some b->∀ v,cur'[j]?=some v->v=.int .u8 b.toNat) ->
      (∀ (j:Nat) (v:Value),cur'[j]?=some v->v.oneCell'=true) ->
      (Builtin.append_ #[T,u] o.type #[a.eval x,.string (bs t)]).run P s.w=.ok (.slice (some ⟨g,0,none⟩) (k+t.length) cap') w'->o.wp P a s.w next Q:=by
    intro g ct cur' w' cap' a1 a2 a3 a4 a5 a6 a7 a8 a9 nQ oK a12 rZ hrun
    obtain ⟨s',g1,g2,g3,g4,g5⟩:=qZ hH id { ob with aD:=ver',rows:=bN (l++t) } g ct cur' w' a1 a2 a3 a4 a5 (by rw [a6];simp [hel]) a7 hun hmt (by simp [hosz,a8]) a9 (by simp only [hrl];omega)
      (by simpa [hosz] using hrr) (by simpa [hosz] using hvv cur' a12) rZ
    refine jM (w':=s'.w) (by rw [g1];exact run hrun) (hn s' _ (.sl id ver' 0 (k+t.length)) _ ⟨ver',hV,rfl,rfl⟩ ?_ g4 g5 λj hj=>?_)
    · refine .sl (by rw [g2];exact .inr rfl) rfl λm' hm' _=>?_
      rw [g3] at hm';cases hm'
      exact ⟨λh=>(by cases h),λ_=>⟨cap',by rw [Nat.zero_mul],nQ,by simpa using oK⟩⟩
    · rw [g2] at hj;rcases hj with h | h;exact .inl h;exact .inr (h ▸ hU)
  have hzcells:∀ (q:Nat) (j:Nat) (v:Value),(Builtin.zeroCells z.cells q)[j]?=some v->v.oneCell'=true:=λq j v hv=>by
    simp only [Builtin.zeroCells,Array.getElem?_map] at hv
    obtain ⟨jj,hjj,rfl⟩:=Option.map_eq_some_iff.1 hv
    rw [hz2]
    have:jj % (#[Value.int .u8 0]:Array Value).size=0:=by simp;omega
    rw [this];rfl
  have hstr:∀ (j:Nat) (v:Value),(Lib.strCells (bs t))[j]?=some v->∃ b,t[j]?=some b/\v=.int .u8 b.toNat:=λj v hv=>by
    simp only [Lib.strCells,List.getElem?_map] at hv
    obtain ⟨b,hb,rfl⟩:=Option.map_eq_some_iff.1 hv
    exact ⟨b,by simpa [bs] using hb,rfl⟩
  rcases hbc with ⟨h1,h2⟩ | ⟨m1,cur,fr,cp,q0,hb,q1,q2,q3,q4⟩
  · -- the nil slice
    subst h2
    have hk0:k=0:=hk
    subst hk0
    have hold:∃ m,s.mu id=some m/\m.nil=true:=by
      rcases hm.body with ⟨h,_⟩ | ⟨cur,fr,hb⟩
      · exact ⟨m,hm.hm,h⟩
      · exfalso
        rw [h1] at hxv
        cases hxv with
        | sl hk0 h1' hh =>
          obtain ⟨cap,q1,_⟩:=(hh m hm.hm (hm.bP.trans bP)).2 hb.hnil
          cases q1
    by_cases ht0:t.length=0
    · have ht:t=[]:=List.eq_nil_of_length_eq_zero ht0
      subst ht
      have hrun:(Builtin.append_ #[T,u] o.type #[a.eval x,.string (bs [])]).run P s.w=.ok (.slice none 0 0) s.w:=by
        rw [h1];simp [Builtin.append_,run_underlying hT,run_underlying hu,sizeOf,typeInfo,hi,Builtin.lenOf,Builtin.firstCells,j6]
      obtain ⟨s',g1,g2,g3,g4,g5⟩:=qW hH id { ob with aD:=ver',rows:=bN ([]++[]) } hun rfl (.inr hold)
      refine jM (w':=s'.w) (by rw [g1];exact run hrun) (hn s' _ (.sl id ver' 0 (0+0)) _ ⟨ver',hV,rfl,rfl⟩ ?_ g4 g5 λj hj=>?_)
      · refine .sl (by rw [g2];exact .inr rfl) rfl λm' hm' _=>?_
        rw [g3] at hm';cases hm'
        exact ⟨λ_=>⟨rfl,rfl⟩,λh=>by cases h⟩
      · rw [g2] at hj;rcases hj with h | h;exact .inl h;exact .inr (h ▸ hU)
    · have hrun:=run_append_nil_string (P:=P) s.w T u o.type e i z hT hu hi hz1 (bs t) (by rw [j6];omega) (by rw [j6];omega) (by rw [j6,hib];omega)
      rw [j6] at hrun
      have hge:=grownCap_ge s.w t.length 0 e
      refine fin s.w.heap.size (grownCap s.w t.length 0 e) _ (s.w.drew.alloc (.cells ((bs t).data.map (λb=>Value.int .u8 b.toNat)++Builtin.zeroCells z.cells (grownCap s.w t.length 0 e-t.length)) e)) (grownCap s.w t.length 0 e) rfl rfl rfl (by simp) (λj hj _=>alloc_old s.w.drew _ j hj) (mZ s.w.drew _) (.inl (Nat.le_refl _)) ?_ (grownCap_le_maxLen _ _ _ _ (by simp only [maxLen];omega)) (by omega) (Nat.le_refl _) ?_ ?_ (by rw [h1,hrun];simp)
      · rw [Array.size_append,size_zeroCells,hz2];simp;omega
      · intro j b hj v hv
        rw [List.nil_append] at hj
        have hlt:=(List.getElem?_eq_some_iff.1 hj).1
        rw [Array.getElem?_append_left (by simpa [bs] using hlt)] at hv
        simp [hj] at hv
        exact hv.symm
      · intro j v hv
        rw [<- Array.getElem?_toList,Array.toList_append] at hv
        rcases kU hv with ⟨_,h⟩ | ⟨_,h⟩
        · simp at h
          obtain ⟨b,_,rfl⟩:=h;rfl
        · exact hzcells _ _ v (by rw [<- Array.getElem?_toList];exact h)
  · rw [hm.hm] at q0;cases q0
    have hheap:s.w.heap[m.b]?=some (.cells cur e (0,0)):=by rw [hb.hb,hb.happ happ,hel]
    have hcur:cur.size=m.ct:=by rw [hb.hcs,hosz,Nat.mul_one]
    by_cases hroom:l.length+t.length<=cp
    · have hrun:=Lib.run_append_room_string (P:=P) s.w T u o.type e i hT hu hi hsz m.b l.length cp cur hheap (bs t) (by rw [j6];exact hroom) (by rw [j6];omega)
      rw [j6] at hrun
      refine fin m.b m.ct _ (s.w.setRow m.b (cur.toList.take l.length++Lib.strCells (bs t)++cur.toList.drop (l.length+t.length)).toArray) cp rfl rfl rfl (by simp) (λj hj hne=>setRow_other s.w m.b j _ hne) (setRow_heap s.w m.b cur _ e (0,0) hheap) (.inr ⟨ob,m,hob,hmt,hm.hm,hb.hnil,rfl⟩) ?_ hb.hct (by omega) (by omega) ?_ ?_ (by rw [q1,hrun,hk])
      · rw [List.size_toArray,<- hcur];simp only [List.length_append,List.length_take,List.length_drop,Array.length_toList,Lib.strCells_length,j6];omega
      · intro j b hj v hv
        rw [List.getElem?_toArray,List.append_assoc] at hv
        rcases kU hj with ⟨h3,h4⟩ | ⟨h3,h4⟩
        · rw [List.getElem?_append_left (by simp;omega),List.getElem?_take_of_lt h3,Array.getElem?_toList,q4 j b h4] at hv
          cases hv;rfl
        · have h5:=(List.getElem?_eq_some_iff.1 h4).1
          rw [List.getElem?_append_right (by simp;omega)] at hv
          have:(List.take l.length cur.toList).length=l.length:=by simp;omega
          rw [this,List.getElem?_append_left (by rw [Lib.strCells_length,j6];exact h5)] at hv
          obtain ⟨b',hb',rfl⟩:=hstr _ v hv
          rw [h4] at hb';cases hb';rfl
      · intro j v hv
        rw [List.getElem?_toArray] at hv
        rcases kU hv with ⟨_,h⟩ | ⟨_,h⟩
        · rcases kU h with ⟨_,h⟩ | ⟨_,h⟩
          · have hlt:j<l.length:=by have:=(List.getElem?_eq_some_iff.1 h).1;simp at this;omega
            rw [List.getElem?_take_of_lt hlt,Array.getElem?_toList] at h
            exact hb.h1 _ v h
          · obtain ⟨b',_,rfl⟩:=hstr _ v h;rfl
        · rw [List.getElem?_drop,Array.getElem?_toList] at h
          exact hb.h1 _ v h
    · have hrun := Lib.run_append_grow_string (P := P) s.w T u o.type e i z hT hu hi hz1 ⟨m.b, 0, none⟩ l.length cp (cur.toList.take l.length) (by rw [hsz]; simp; omega) (λj v hv => by
          rw [addr_add,rX hheap,Nat.zero_add]
          have hlt:j<l.length:=by have:=(List.getElem?_eq_some_iff.1 hv).1;simp at this;omega
          rw [List.getElem?_take_of_lt hlt,Array.getElem?_toList] at hv;exact hv)
        (bs t) (by rw [j6];omega) (by rw [j6];omega) (by rw [j6];exact growslice_fits (by omega) (by rw [hib];omega))
      rw [j6] at hrun
      have hge:=grownCap_ge s.w (l.length+t.length) cp e
      refine fin s.w.heap.size (grownCap s.w (l.length+t.length) cp e) _ (s.w.drew.alloc (.cells ((cur.toList.take l.length).toArray++(Lib.strCells (bs t)).toArray++Builtin.zeroCells z.cells (grownCap s.w (l.length+t.length) cp e-(l.length+t.length))) e)) (grownCap s.w (l.length+t.length) cp e) rfl rfl rfl (by simp) (λj hj _=>alloc_old s.w.drew _ j hj) (mZ s.w.drew _) (.inl (Nat.le_refl _)) ?_ (grownCap_le_maxLen _ _ _ _ (by simp only [maxLen];omega)) (by omega) (Nat.le_refl _) ?_ ?_ (by rw [q1,hrun,hk])
      · rw [Array.size_append,Array.size_append,List.size_toArray,List.size_toArray,size_zeroCells,hz2,Lib.strCells_length,j6]
        have:(cur.toList.take l.length).length=l.length:=by simp;omega
        rw [this];simp;omega
      · intro j b hj v hv
        rw [<- Array.getElem?_toList,Array.toList_append,Array.toList_append,List.append_assoc] at hv
        rcases kU hj with ⟨h3,h4⟩ | ⟨h3,h4⟩
        · rw [List.getElem?_append_left (by simp;omega)] at hv
          simp only at hv
          rw [List.getElem?_take_of_lt h3,Array.getElem?_toList,q4 j b h4] at hv
          cases hv;rfl
        · have h5:=(List.getElem?_eq_some_iff.1 h4).1
          rw [List.getElem?_append_right (by simp;omega)] at hv
          have:(List.take l.length cur.toList).length=l.length:=by simp;omega
          simp only at hv
          rw [this,List.getElem?_append_left (by rw [Lib.strCells_length,j6];exact h5)] at hv
          obtain ⟨b',hb',rfl⟩:=hstr _ v hv
          rw [h4] at hb';cases hb';rfl
      · intro j v hv
        rw [<- Array.getElem?_toList,Array.toList_append,Array.toList_append] at hv
        rcases kU hv with ⟨_,h⟩ | ⟨_,h⟩
        · rcases kU h with ⟨_,h⟩ | ⟨_,h⟩
          · simp only at h
            have hlt:j<l.length:=by have:=(List.getElem?_eq_some_iff.1 h).1;simp at this;omega
            rw [List.getElem?_take_of_lt hlt,Array.getElem?_toList] at h
            exact hb.h1 _ v h
          · obtain ⟨b',_,rfl⟩:=hstr _ v h;rfl
        · exact hzcells _ _ v (by rw [<- Array.getElem?_toList];exact h)
end
end Go.Pv
