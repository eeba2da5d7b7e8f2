import Derived.Test.YtimkkeehkhkhcaaGreatPwF
import Derived.Test.YtimkkeehkhkhcaaGreatPvAI
import Derived.Test.YtimkkeehkhkhcaaGreatPvAM
import Derived.Test.YtimkkeehkhkhcaaGreatPvT
import Derived.Test.YtimkkeehkhkhcaaGreatPvX
import Derived.Laws.IdiomStrings
set_option linter.unusedVariables false
set_option linter.unusedSimpArgs false
namespace Go.Pv
theorem aV {p:Prop} (h:p:=by first | exact trivial | ((repeat (first | exact trivial | refine ⟨rfl,?_⟩));done) | fail):p:=h
theorem aL {p:Prop} (h:p:=by first | rfl | exact Eq.symm (by assumption) | exact (gQ (by assumption) rfl).symm | exact TD (by assumption) | exact (gQ (by assumption) (gQ (by assumption) rfl)).symm | exact (gQ (by assumption) (gQ (by assumption) (gQ (by assumption) rfl))).symm | exact (gQ (by assumption) (Eq.symm (TD (by assumption)))).symm):p:=h
theorem aX {p:Prop} (h:p:=by first | assumption | exact gT (by assumption) (by assumption) | exact gT (gT (by assumption) (by assumption)) (by assumption)):p:=h
theorem aR {p:Prop} (h:p:=by first | rfl | exact bY (by assumption) | exact kG (by assumption) (aH.gI _) | exact bZ (by assumption) | exact bZ (gT (by assumption) (by assumption)) | exact bZ (gT (gT (by assumption) (by assumption)) (by assumption))):p:=h
theorem aC {p:Prop} (h:p:=by first | exact .refl _ | ((repeat' (first | exact .refl _ | exact cO.nil | exact Cv.nil _ | refine rG ?_ (aH.gI _) | refine cO.cons ?_ ?_ | refine cO.agg ?_ | refine cO.aM ?_ | exact gN.nil | refine gN.cons ?_ ?_ | refine fV ?_ | exact gB rfl rfl rfl rfl rfl aL | exact nL aL | refine vL rfl rfl rfl rfl rfl aL (by assumption) ?_));done) | fail):p:=h
theorem aY {p:Prop} (h:p:=by first | exact λ_ _=>.refl _ | (rintro _ rfl;(repeat' (first | exact .refl _ | exact cO.nil | exact Cv.nil _ | refine rG ?_ (aH.gI _) | refine cO.cons ?_ ?_ | refine cO.agg ?_ | refine cO.aM ?_ | exact gN.nil | refine gN.cons ?_ ?_ | refine fV ?_ | exact gB rfl rfl rfl rfl rfl aL | exact nL aL | refine vL rfl rfl rfl rfl rfl aL (by assumption) ?_));done) | (intro H hH;(repeat' (first | exact .refl _ | exact cO.nil | exact Cv.nil _ | refine rG ?_ (aH.gI _) | refine cO.cons ?_ ?_ | refine cO.agg ?_ | refine cO.aM ?_ | exact gN.nil | refine gN.cons ?_ ?_ | refine fV ?_ | exact gB (by first | rfl | exact (hH _ (by decide)).trans rfl) rfl rfl rfl rfl aL | exact nL aL | refine vL (by first | rfl | exact (hH _ (by decide)).trans rfl) rfl rfl rfl rfl aL (by assumption) ?_));done) | fail):p:=h
theorem aJ {p:Prop} (h:p:=by first | ((refine ⟨?_,?_⟩ <;> (repeat (first | exact trivial | refine ⟨⟨_,rfl,.refl _⟩,?_⟩ | refine ⟨⟨_,rfl,aC⟩,?_⟩ | refine ⟨⟨_,rfl,⟨rfl,aC⟩⟩,?_⟩)));done) | fail):p:=h
theorem aK {p:Prop} (h:p:=by first | exact λ_=>trivial | exact λ_=>⟨rfl,trivial⟩ | exact λ_=>⟨rfl,rfl,trivial⟩ | exact λ_=>⟨rfl,rfl,rfl,trivial⟩ | exact λ_=>⟨rfl,rfl,rfl,rfl,trivial⟩):p:=h
theorem aO {p:Prop} (h:p:=by first | exact trivial | exact ⟨rfl,trivial⟩ | exact ⟨rfl,rfl,trivial⟩ | exact ⟨rfl,rfl,rfl,trivial⟩ | exact ⟨rfl,rfl,rfl,rfl,trivial⟩):p:=h
theorem aZ {p:Prop} (h:p:=by repeat (first | exact ZL.nil | refine ZL.cons ?_ ?_ | exact .sc _ | exact .nil _)):p:=h
theorem QT {i v o k q:Nat} {r:List AV} (h:k=q):AV.aM (.sl i v o k :: r)=.aM (.sl i v o q :: r):=by rw [h]
theorem au {p:Prop} (h:p:=by
  repeat' (first
    | ((conv=>whnf);first
      | refine aEU ?_ ?_
      | intro _
      | (show kC _ _ _ _;refine kC.mk ?_ rfl aV)
      | (show nG _ _ _ _ _;refine nG.mk ?_ ?_ rfl aV)
      | (show EJ _ _;exact EJ.mk aJ aV)
      | (show Ek _ _ _;refine Ek.mk ?_ (by kernel_rfl) aV)
      | (show Ev _ (λv=>∀ H,H=_->_->_) _;first
        | (apply aEA ;(iterate 5 exact rfl);exact aR;exact aV)
        | (apply aKJ ;(iterate 4 exact rfl);exact aR;exact aV)
        | (apply aIF ;(iterate 6 exact rfl);exact aX;exact aV)
        | (apply aA4 ;(focus (assumption));(iterate 6 exact rfl);exact aV)
        | (apply aAP ;(focus (assumption));(iterate 6 exact rfl);exact aV)
        | (apply aHM ;(iterate 5 exact rfl);exact aR;exact aV)
        | (apply aAM ;(iterate 4 exact rfl);(focus (rfl));(iterate 3 exact rfl);(focus (first | exact List.length_map _ | exact MN | rfl));exact aX;exact aL;exact aV)
        | (apply ZM ;(iterate 4 exact rfl);(focus (rfl));(iterate 3 exact rfl);(focus (decide));exact aV)
        | (apply ZE ;(iterate 4 exact rfl);(focus (rfl));(iterate 3 exact rfl);(focus (assumption));exact aV)
        | refine Ev.mk _ (λH hH ht=>MU rfl (by kernel_rfl) rfl) ?_ aV
        | refine Ev.mk _ (λH hH ht=>NN rfl (by kernel_rfl) rfl rfl (by kernel_rfl)) ?_ aV
        | refine Ev.mk _ (λH hH ht=>aN (TK rfl (by kernel_rfl) rfl rfl) (congrArg aA (by assumption))) ?_ aV
        | refine Ev.mk _ (λH hH ht=>VA ht rfl rfl (by kernel_rfl) rfl rfl (by repeat (first | exact .nil _ | refine .cons (.int (by kernel_rfl)) (by kernel_rfl) ?_)) ((congrArg Bool.not (A11_Int.eqv _ _)).trans (by assumption))) ?_ aV
        | refine Ev.mk _ (λH hH ht=>P7 rfl (by kernel_rfl) rfl rfl) ?_ aV
        | refine Ev.mk _ (λH hH ht=>UM rfl (by kernel_rfl) rfl rfl) ?_ aV
        | refine Ev.mk _ (λH hH ht=>UJ rfl (by kernel_rfl) rfl) ?_ aV
        | refine Ev.mk _ (λH hH ht=>OU rfl rfl rfl (by assumption)) ?_ aV
        | refine Ev.mk _ (λH hH ht=>DF rfl rfl rfl (by assumption)) ?_ aV
        | refine Ev.mk _ (λH hH ht=>OR rfl rfl rfl rfl (by assumption)) ?_ aV
        | refine Ev.mk _ (λH hH ht=>uT rfl rfl rfl (by assumption) (by assumption)) ?_ aV
        | refine Ev.mk _ (λH hH ht=>LB rfl rfl rfl (by assumption) (by assumption)) ?_ aV
        | refine Ev.mk _ (λH hH ht=>wU rfl rfl rfl (by assumption)) ?_ aV
        | refine Ev.mk _ (λH hH ht=>wX rfl rfl rfl (by assumption)) ?_ aV
        | refine Ev.mk _ (λH hH ht=>qA rfl rfl rfl (by assumption) (by assumption)) ?_ aV
        | refine Ev.mk _ (λH hH ht=>vD rfl rfl rfl (by assumption) (by assumption)) ?_ aV
        | refine Ev.mk _ (λH hH ht=>aN (RP rfl rfl rfl) (congrArg aA (by assumption))) ?_ aV
        | refine Ev.mk _ (λH hH ht=>aN (M9 rfl (by kernel_rfl) rfl rfl) (congrArg aA (by assumption))) ?_ aV
        | refine Ev.mk _ (λH hH ht=>nX rfl (by kernel_rfl) rfl) ?_ aV
        | refine Ev.mk _ (λH hH ht=>yT rfl (by kernel_rfl) rfl rfl (nR (by assumption)).1 (nR (by assumption)).2) ?_ aV)
      | (show Ev _ _ _;first
        | (apply aLL ;(iterate 5 exact rfl);exact aR;(focus (decide));exact aV)
        | (apply aJV ;(iterate 4 exact rfl);exact aR;(focus (decide));exact aV)
        | (apply aKA ;(iterate 6 exact rfl);exact aX;(focus (decide));exact aV)
        | (apply aCG ;(focus (assumption));(iterate 6 exact rfl);(focus (decide));exact aV)
        | (apply aK2 ;(focus (assumption));(iterate 6 exact rfl);(focus (decide));exact aV)
        | (apply aLY ;(iterate 5 exact rfl);exact aR;(focus (decide));exact aV)
        | (apply aC0 ;(iterate 4 exact rfl);(focus (rfl));(iterate 3 exact rfl);(focus (first | exact List.length_map _ | exact MN | rfl));exact aX;exact aL;(focus (decide));exact aV)
        | (apply aCZ ;(iterate 4 exact rfl);(focus (rfl));(iterate 3 exact rfl);(iterate 2 (focus (decide)));exact aV)
        | (apply aLV ;(iterate 4 exact rfl);(focus (rfl));(iterate 3 exact rfl);(focus (assumption));(focus (decide));exact aV)
        | refine Ev.mk _ (λH hH ht=>MU rfl (by kernel_rfl) rfl) ?_ aV
        | refine Ev.mk _ (λH hH ht=>NN rfl (by kernel_rfl) rfl rfl (by kernel_rfl)) ?_ aV
        | refine Ev.mk _ (λH hH ht=>aN (TK rfl (by kernel_rfl) rfl rfl) (congrArg aA (by assumption))) ?_ aV
        | refine Ev.mk _ (λH hH ht=>VA ht rfl rfl (by kernel_rfl) rfl rfl (by repeat (first | exact .nil _ | refine .cons (.int (by kernel_rfl)) (by kernel_rfl) ?_)) ((congrArg Bool.not (A11_Int.eqv _ _)).trans (by assumption))) ?_ aV
        | refine Ev.mk _ (λH hH ht=>P7 rfl (by kernel_rfl) rfl rfl) ?_ aV
        | refine Ev.mk _ (λH hH ht=>UM rfl (by kernel_rfl) rfl rfl) ?_ aV
        | refine Ev.mk _ (λH hH ht=>UJ rfl (by kernel_rfl) rfl) ?_ aV
        | refine Ev.mk _ (λH hH ht=>OU rfl rfl rfl (by assumption)) ?_ aV
        | refine Ev.mk _ (λH hH ht=>DF rfl rfl rfl (by assumption)) ?_ aV
        | refine Ev.mk _ (λH hH ht=>OR rfl rfl rfl rfl (by assumption)) ?_ aV
        | refine Ev.mk _ (λH hH ht=>uT rfl rfl rfl (by assumption) (by assumption)) ?_ aV
        | refine Ev.mk _ (λH hH ht=>LB rfl rfl rfl (by assumption) (by assumption)) ?_ aV
        | refine Ev.mk _ (λH hH ht=>wU rfl rfl rfl (by assumption)) ?_ aV
        | refine Ev.mk _ (λH hH ht=>wX rfl rfl rfl (by assumption)) ?_ aV
        | refine Ev.mk _ (λH hH ht=>qA rfl rfl rfl (by assumption) (by assumption)) ?_ aV
        | refine Ev.mk _ (λH hH ht=>vD rfl rfl rfl (by assumption) (by assumption)) ?_ aV
        | refine Ev.mk _ (λH hH ht=>aN (RP rfl rfl rfl) (congrArg aA (by assumption))) ?_ aV
        | refine Ev.mk _ (λH hH ht=>aN (M9 rfl (by kernel_rfl) rfl rfl) (congrArg aA (by assumption))) ?_ aV
        | refine Ev.mk _ (λH hH ht=>nX rfl (by kernel_rfl) rfl) ?_ aV
        | refine Ev.mk _ (λH hH ht=>yT rfl (by kernel_rfl) rfl rfl (nR (by assumption)).1 (nR (by assumption)).2) ?_ aV)
      | (show Ed _ _ _ _ _;refine Ed.mk ?_ rfl aY aV)
      | (show Em _ _;refine Em.mk ?_ aV)
      | (show z8 _ _ _ _;refine z8.mk ?_ (by first | exact rfl | decide) aV)
      | (show Es _ _ _;refine Es.mk aZ ⟨by assumption,by assumption⟩ ?_)
      | (show E0 _ _;exact E0.mk aC aV)
      | (show Ei _ _ _ _ _;first
        | exact Ei.mk rfl aV aV
        | exact Ei.mk (QT aL) aV aV)
      | (show EL _ _ _;refine EL.mk ?_ aJ aV)
      | (show Ec _ _ _;refine Ec.mk ?_ aC aV)
      | (show Et _ (∀ H,H=_->_->_) _;(apply Q9 (hp:=H0);(iterate 7 exact rfl);(focus (kernel_rfl));(iterate 2 exact rfl);exact aV))
      | (show Et _ (∀ H,_) _;first
        | (apply Q9 (hp:=H0);(iterate 7 exact rfl);(focus (kernel_rfl));(iterate 2 exact rfl);exact aV)
        | refine Et.mk aO ?_ aV)
      | (show Et _ _ _;refine Et.mk aO ?_ aV)
      | (show Ee _ _ _ _;first
        | (apply XY ;(iterate 3 exact rfl);exact aBZ;exact aC;exact rfl;(focus (assumption));exact aK;exact aV)
        | (apply aHO ;(iterate 9 exact rfl);exact aC;(focus (first | exact aH.one | exact λ_=>rfl));(focus (assumption));exact aK;exact aV)
        | (apply YR ;(iterate 15 exact rfl);exact aC;(focus (assumption));exact aL;(focus (first | exact aH.one | exact λ_=>rfl));(focus (assumption));exact aK;exact aV)
        | (apply aK8 ;(iterate 8 exact rfl);exact aX;(focus (assumption));exact aO;exact aV)
        | (apply aKN ;(iterate 5 exact rfl);(focus (assumption));exact aR;(iterate 4 exact rfl);exact aO;exact aV)
        | (apply aKS ;(iterate 7 exact rfl);exact aR;exact rfl;(focus (first | exact λ_=>kZ | exact λ_=>rfl));exact aK;exact aV))
      | refine E2.mk ?_ ?_
      | exact True.intro))):p:=h
section
variable {P:Program} {n:NT} {S:AS} {o:Oper} {T K E:TypeId} {x y:Operand}
end
theorem l6 {p:Prop} (h:p:=by repeat' (first | exact xC _ | exact yE _ | exact GY _ | exact EW _ _ | exact VV | exact aH.fZ _ | refine T3 ?_ ?_ | refine qC ?_ _ | exact wI | exact MB | exact N6 | exact R8 _ | refine P9 ?_ | intro _)):p:=h
theorem aE2 {P:Program} {n:NT} {c:Code} {cs:List Code} {f:Nat->Option AV} {hp:AH} {Q:Go.Exit->AS->Prop} {e:TypeId} {sz:Nat} {zs:List Value} (hz:iW P e=some (sz,zs)) (t id:Nat) (h:f t=some (.sc (.slice none 0 0))) (hid:hp id=none)
    (h1:∀ aD,dI P n Q (c :: cs) ⟨upd f t (some (.sl id aD 0 0)),upd hp id (some ⟨e,sz,true,true,aD,[]⟩)⟩):dI P n Q (c :: cs) ⟨f,hp⟩:=sH t id e sz h hid h1
theorem uW {P:Program} {k T el sz b:Nat} {zs:List Value} {α:Type} {F:α->List AV} {fn:Func} (hf:P.funcs[k]?=some fn) (hc:bD P k=true) (hu:P.underlying T=some (.slice el)) (hz:iW P el=some (sz,zs)) (hy:jK P el=some b) (h1:∀ a,jF (F a)=true:=by first | exact λ_=>rfl | exact aH.one)
    (h:P.funcs[k]?=some fn->P.underlying T=some (.slice el)->iW P el=some (sz,zs)->jK P el=some b->(∀ a,jF (F a)=true)->∀ (H:AH) (id:Nat) (l:List α),H id=none->l.length<=68719476736->PC P k [aG sz F l] H (λy H'=>∃ aD,y=.sl id aD 0 l.length/\H'=upd H id (some ⟨el,sz,true,true,aD,l.map F⟩)):=by
      intro hf hu hz hy h1 H id l hid hl
      refine jZ (c:=_) hf rfl rfl ?_;intro Q hret hnorm
      repeat (refine bR ?_)
      refine cB ?_;intro K hK
      refine st rfl rfl rfl (eO rfl rfl) ?_
      refine bT (hK _ ?_)
      repeat (refine bR ?_)
      refine cB ?_;intro K hK
      refine st rfl rfl rfl (bM rfl rfl) ?_
      refine se rfl rfl rfl (bW.d9 (aEQ (xs:=l.map _) (sz:=_) rfl hu rfl rfl) (λ_ h=>h) (λ_ _=>trivial)) ?_;rintro _ _ ⟨b,rfl,hb,rfl⟩
      refine bT (hK _ ?_)
      refine yL (b:=b) rfl ?_ ?_
      · intro h;subst h
        have hl0:l=[]:=List.map_eq_nil_iff.1 (hb rfl)
        subst hl0
        repeat (refine bR ?_)
        refine cB ?_;intro K hK
        refine st rfl rfl rfl (eO rfl rfl) ?_
        refine bT (hK _ ?_)
        refine aE2 hz 2 id rfl hid ?_;intro v
        refine iZ (hret _ _ _ (.tmp rfl .nil) (λ_ _ h=>h) ?_)
        exact ⟨v,rfl,rfl⟩
      · intro h;subst h
        refine kE ?_
        repeat (refine bR ?_)
        refine cB ?_;intro K hK
        refine se rfl rfl rfl (aAE (ps:=[]) id [] .any rfl hu hz .nil rfl rfl rfl rfl) ?_;rintro _ _ ⟨v,-,rfl,rfl⟩
        refine st rfl rfl rfl (bM rfl rfl) ?_
        refine se rfl rfl rfl (iP (l:=[]) (m:=l) (l':=l) .any rfl hu hz hy rfl rfl rfl (upd_same _ _ _) rfl rfl rfl rfl rfl rfl rfl (.refl _) h1 rfl hl) ?_;rintro _ _ ⟨v2,-,rfl,rfl⟩
        refine st rfl rfl rfl (eO rfl rfl) ?_
        refine bT (hK _ ?_)
        refine iZ (hret _ _ _ (.tmp rfl .nil) (λ_ _ h=>h) ?_)
        exact ⟨v2,rfl,J7⟩):rQ P k el sz F:=⟨hc,λh2 h3=>h hf hu hz hy h1 _ _ _ h2 h3⟩
set_option maxRecDepth 100000
section
variable {s:Sit} {H:AH} {l:Nat} {o o1 o2:Obj}
end
section
variable {P:Program} {l D p q:Nat} {fn:FuncId} {tmps:Array Value} {assign body:Code} {s:Sit} {H:AH} {x y:AV} {v u:Value}
end
@[reducible] def eG (T id aD ib:Nat) (x:AV):Option (Nat×List UInt8)->aW
  | none=>⟨T,3,true,true,aD,[[.sc (.pointer none),.sc (.slice none 0 0),x]]⟩
  | some (vb,l)=>⟨T,3,true,true,aD,[[.pt id aD 0 0,.sl ib vb 0 l.length,x]]⟩
section
variable {P:Program} {n:NT} {S:AS} {o:Oper} {T:TypeId} {x y:Operand}
theorem oF {Ty e:TypeId} (ho:o.op=.binOp .neq T x y Ty) (hT:P.underlying T=some (.pointer e)) (hx:S.ev x=some (.sc (.pointer none))) (hy:S.ev y=some (.sc (.pointer none))):bS P o S (.sc (.bool false)) :=
  kK ho hx hy λw=>by
    have hT':P.underlying T=some (.pointer (P.pointee T)):=by rw [hT];simp [Program.pointee,hT]
    simp only [eqGuard,Sem.run_bind]
    simp [run_neq_pointer_nil w T none hT']
theorem xG {e N k:Nat} {b:Bool} {cs:List AV} {kk:IntKind} {i:Int} (ho:o.op=.indexAddr T x y) (hT:P.underlying T=some (.array N e)) (he:gF P e=some (k,b)) (hx:S.ev x=some (.pp cs)) (hy:S.ev y=some (.sc (.int kk i))) (hi:0<=i/\i<(N:Int)):bS P o S (.pp (cs.drop (i.toNat*k))) :=
  iK λs ρ hH h=>by
    have hxv:=h x (by simp [ho,Op.operands]) _ hx
    have hyv:=(h y (by simp [ho,Op.operands]) _ hy).gJ
    obtain ⟨bl,off,h1,hI,h2⟩:=hxv.JM
    have hadr:(Instr.indexAt T (.pointer (some ⟨bl,off,none⟩)) (.int kk i)).run P s.w=.ok (.pointer (some ⟨bl,off+i.toNat*k,none⟩)) s.w:=by
      simp only [Instr.indexAt,asIntOf,Sem.run_bind,Sem.run_pure,run_underlying hT,Result.andThen_ok,Instr.sureAddr,hi,and_self,if_true,mG he,addr_add]
    exact ⟨_,(h2.drop (i.toNat*k)).pp hI,by simp only [execOp,ho,h1,hyv,Sem.run_bind,hadr];rfl⟩
theorem Z4 {src e:TypeId} {l:List UInt8} (ho:o.op=.convert src T x) (hs:P.underlying src=some .string) (hT:P.underlying T=some (.slice e)) (he:P.underlying e=some (.int .u8)) (hx:S.ev x=some (str l)) (hl:l.length<=1099511627776):bS P o S (aG 1 (fK .u8) (l.map λc=>(c.toNat:Int))):=by
  intro s a next Q hH hops _ hn
  have h1:=(hops x (by simp [ho,Op.operands]) _ hx).gJ
  have hge:=grownCap_ge s.w l.length 0 e
  have hmx:=grownCap_le_maxLen s.w l.length 0 e (by simp only [maxLen];omega)
  obtain ⟨s',e1,e2,e3,e4,e5⟩:=TB hH (s.w.drew.alloc (.cells (bytesRow (bs l) (grownCap s.w l.length 0 e)) e ((bytesRow (bs l) (grownCap s.w l.length 0 e)).size,(bytesRow (bs l) (grownCap s.w l.length 0 e)).size+1))) rfl rfl rfl (by simp) (λk hk=>alloc_old s.w.drew _ k hk)
  refine jM (w':=s'.w) (v:=.slice (some ⟨s.w.heap.size,0,none⟩) l.length (grownCap s.w l.length 0 e)) ?_ (hn s' _ (aG 1 (fK .u8) (l.map λc=>(c.toNat:Int))) _ ⟨rfl,rfl⟩ ?_ e4 e5 λk hk=>.inl (e2 ▸ hk))
  · rw [e1]
    have:=run_bytes_of_string (P:=P) s.w src T e (bs l) hs hT he
    rw [j6] at this
    simp only [execOp,ho,h1,Sem.run_bind,this,Result.andThen_ok]
    rfl
  · have hnew:(s'.w).heap[s.w.heap.size]?=some (.cells (bytesRow (bs l) (grownCap s.w l.length 0 e)) e ((bytesRow (bs l) (grownCap s.w l.length 0 e)).size,(bytesRow (bs l) (grownCap s.w l.length 0 e)).size+1)):=by rw [e1];exact mZ s.w.drew _
    have hcell:∀ k,s'.w.cell? ⟨s.w.heap.size,k,none⟩=(bytesRow (bs l) (grownCap s.w l.length 0 e))[k]?:=λk=>rX hnew
    have hat:∀ (i:Nat) (r:List AV) (j:Nat) (z:AV),(List.map (fK .u8) (l.map λc=>(c.toNat:Int)))[i]?=some r->r[j]?=some z->∃ c:UInt8,l[i]?=some c/\j=0/\z=.sc (.int .u8 (c.toNat:Int)):=λi r j z h2 h3=>by
      simp only [List.getElem?_map,Option.map_eq_some_iff] at h2
      obtain ⟨q,⟨c,hc,rfl⟩,rfl⟩:=h2
      match j,h3 with
      | 0,h3=>simp at h3;exact ⟨c,hc,rfl,h3.symm⟩
      | j+1,h3=>simp at h3
    have hcl:∀ (i:Nat) (c:UInt8),l[i]?=some c->(bytesRow (bs l) (grownCap s.w l.length 0 e))[i]?=some (.int .u8 (c.toNat:Int)):=λi c hc=>by
      have hlt:=(List.getElem?_eq_some_iff.1 hc).1
      rw [bytesRow_at (bs l) _ i (by simpa [bs] using hlt)]
      have:l[i]=c:=(List.getElem?_eq_some_iff.1 hc).2
      simp [bs,this]
    have:=VR.list (s:=s') (sz:=1) (xs:=(l.map λc=>(c.toNat:Int)).map (fK .u8)) (b:=s.w.heap.size) (off:=0) (cap:=grownCap s.w l.length 0 e) (λi j=>((bytesRow (bs l) (grownCap s.w l.length 0 e))[0+i*1+j]?).getD undef) e3 (by simpa using hge) hmx
      (λi r hir=>by simp only [List.getElem?_map,Option.map_eq_some_iff] at hir;obtain ⟨q,-,rfl⟩:=hir;rfl)
      (λi r j z h2 h3=>by
        obtain ⟨c,hc,rfl,rfl⟩:=hat i r j z h2 h3
        rw [hcell]
        have:=hcl i c hc
        simp only [Nat.zero_add,Nat.mul_one,Nat.add_zero,this];rfl)
      (λi r j z h2 h3=>by
        obtain ⟨c,hc,rfl,rfl⟩:=hat i r j z h2 h3
        have:=hcl i c hc
        simp only [Nat.zero_add,Nat.mul_one,Nat.add_zero,this]
        exact .sc _)
    rw [show ((l.map λc=>(c.toNat:Int)).map (fK .u8)).length=l.length by simp] at this
    exact this
end
theorem T6 {y:List Int} (h:∀ v∈y,(0:Int)<=v/\v<=255):y.map (fK .u8)=bN (y.map λv=>UInt8.ofNat v.toNat):=by
  induction y with
  | nil=>rfl
  | cons a y ih =>
    have ha:=h a (List.mem_cons_self ..)
    have hn:a.toNat<256:=by omega
    have:((UInt8.ofNat a.toNat).toNat:Int)=a:=by rw [UInt8.toNat_ofNat',Nat.mod_eq_of_lt hn];omega
    simp only [List.map_cons,bN] at ih ⊢
    rw [ih λv hv=>h v (List.mem_cons_of_mem _ hv)]
    simp only [List.map_cons,fK,this]
theorem aU {H:AH} {a b:AV} (h:Cv H a b:=by first | exact .refl _ | exact nL (by assumption) | exact nL (Eq.symm (by assumption)) | exact nL (by omega)):Cv H a b:=h
end Go.Pv
