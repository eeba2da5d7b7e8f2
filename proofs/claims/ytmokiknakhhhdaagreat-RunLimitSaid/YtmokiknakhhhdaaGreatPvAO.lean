import Derived.Test.YtmokiknakhhhdaaGreatPwF
import Derived.Test.YtmokiknakhhhdaaGreatPvAH
import Derived.Test.YtmokiknakhhhdaaGreatPvAM
import Derived.Test.YtmokiknakhhhdaaGreatPvO
import Derived.Test.YtmokiknakhhhdaaGreatPvX
import Derived.Laws.IdiomStrings
set_option linter.unusedVariables false
set_option linter.unusedSimpArgs false
namespace Go.Pv
theorem aV {p:Prop} (h:p:=by first | exact trivial | ((repeat (first | exact trivial | refine ⟨rfl,?_⟩));done) | fail):p:=h
theorem aL {p:Prop} (h:p:=by first | rfl | exact Eq.symm (by assumption) | exact (nX (by assumption) rfl).symm | exact UB (by assumption) | exact (nX (by assumption) (nX (by assumption) rfl)).symm | exact (nX (by assumption) (nX (by assumption) (nX (by assumption) rfl))).symm | exact (nX (by assumption) (Eq.symm (UB (by assumption)))).symm):p:=h
theorem aX {p:Prop} (h:p:=by first | assumption | exact oU (by assumption) (by assumption) | exact oU (oU (by assumption) (by assumption)) (by assumption)):p:=h
theorem aR {p:Prop} (h:p:=by first | rfl | exact wG (by assumption) | exact nQ (by assumption) (bC.gU _) | exact kK (by assumption) | exact kK (oU (by assumption) (by assumption)) | exact kK (oU (oU (by assumption) (by assumption)) (by assumption))):p:=h
theorem aC {p:Prop} (h:p:=by first | exact .refl _ | ((repeat' (first | exact .refl _ | exact bO.nil | exact Cv.nil _ | refine wB ?_ (bC.gU _) | refine bO.cons ?_ ?_ | refine bO.agg ?_ | refine bO.aS ?_ | exact fV.nil | refine fV.cons ?_ ?_ | refine GN ?_ | exact gJ rfl rfl rfl rfl rfl aL | exact sF aL | refine xL rfl rfl rfl rfl rfl aL (by assumption) ?_));done) | fail):p:=h
theorem aY {p:Prop} (h:p:=by first | exact λ_ _=>.refl _ | (rintro _ rfl;(repeat' (first | exact .refl _ | exact bO.nil | exact Cv.nil _ | refine wB ?_ (bC.gU _) | refine bO.cons ?_ ?_ | refine bO.agg ?_ | refine bO.aS ?_ | exact fV.nil | refine fV.cons ?_ ?_ | refine GN ?_ | exact gJ rfl rfl rfl rfl rfl aL | exact sF aL | refine xL rfl rfl rfl rfl rfl aL (by assumption) ?_));done) | (intro H hH;(repeat' (first | exact .refl _ | exact bO.nil | exact Cv.nil _ | refine wB ?_ (bC.gU _) | refine bO.cons ?_ ?_ | refine bO.agg ?_ | refine bO.aS ?_ | exact fV.nil | refine fV.cons ?_ ?_ | refine GN ?_ | exact gJ (by first | rfl | exact (hH _ (by decide)).trans rfl) rfl rfl rfl rfl aL | exact sF aL | refine xL (by first | rfl | exact (hH _ (by decide)).trans rfl) rfl rfl rfl rfl aL (by assumption) ?_));done) | fail):p:=h
theorem aJ {p:Prop} (h:p:=by first | ((refine ⟨?_,?_⟩ <;> (repeat (first | exact trivial | refine ⟨⟨_,rfl,.refl _⟩,?_⟩ | refine ⟨⟨_,rfl,aC⟩,?_⟩ | refine ⟨⟨_,rfl,⟨rfl,aC⟩⟩,?_⟩)));done) | fail):p:=h
theorem aK {p:Prop} (h:p:=by first | exact λ_=>trivial | exact λ_=>⟨rfl,trivial⟩ | exact λ_=>⟨rfl,rfl,trivial⟩ | exact λ_=>⟨rfl,rfl,rfl,trivial⟩ | exact λ_=>⟨rfl,rfl,rfl,rfl,trivial⟩):p:=h
theorem aO {p:Prop} (h:p:=by first | exact trivial | exact ⟨rfl,trivial⟩ | exact ⟨rfl,rfl,trivial⟩ | exact ⟨rfl,rfl,rfl,trivial⟩ | exact ⟨rfl,rfl,rfl,rfl,trivial⟩):p:=h
theorem aZ {p:Prop} (h:p:=by repeat (first | exact ZL.nil | refine ZL.cons ?_ ?_ | exact .sc _ | exact .nil _)):p:=h
theorem QO {i v o k q:Nat} {r:List AV} (h:k=q):AV.aS (.sl i v o k :: r)=.aS (.sl i v o q :: r):=by rw [h]
theorem au {p:Prop} (h:p:=by
  repeat' (first
    | ((conv=>whnf);first
      | refine aC2 ?_ ?_
      | intro _
      | (show kM _ _ _ _;refine kM.mk ?_ rfl aV)
      | (show nT _ _ _ _ _;refine nT.mk ?_ ?_ rfl aV)
      | (show EJ _ _;exact EJ.mk aJ aV)
      | (show Ek _ _ _;refine Ek.mk ?_ (by kernel_rfl) aV)
      | (show Ev _ (λv=>∀ H,H=_->_->_) _;first
        | (apply aOH ;(iterate 5 exact rfl);exact aR;exact aV)
        | (apply aAI ;(iterate 4 exact rfl);exact aR;exact aV)
        | (apply aEN ;(iterate 6 exact rfl);exact aX;exact aV)
        | (apply aMM ;(focus (assumption));(iterate 6 exact rfl);exact aV)
        | (apply aJ1 ;(focus (assumption));(iterate 6 exact rfl);exact aV)
        | (apply aEC ;(iterate 5 exact rfl);exact aR;exact aV)
        | (apply aCW ;(iterate 4 exact rfl);(focus (rfl));(iterate 3 exact rfl);(focus (first | exact List.length_map _ | exact YW | rfl));exact aX;exact aL;exact aV)
        | (apply aEI ;(iterate 4 exact rfl);(focus (rfl));(iterate 3 exact rfl);(focus (decide));exact aV)
        | (apply aG9 ;(iterate 4 exact rfl);(focus (rfl));(iterate 3 exact rfl);(focus (assumption));exact aV)
        | refine Ev.mk _ (λH hH ht=>PS rfl (by kernel_rfl) rfl) ?_ aV
        | refine Ev.mk _ (λH hH ht=>WZ rfl (by kernel_rfl) rfl rfl (by kernel_rfl)) ?_ aV
        | refine Ev.mk _ (λH hH ht=>aH (Y4 rfl (by kernel_rfl) rfl rfl) (congrArg aB (by assumption))) ?_ aV
        | refine Ev.mk _ (λH hH ht=>QJ ht rfl rfl (by kernel_rfl) rfl rfl (by repeat (first | exact .nil _ | refine .cons (.int (by kernel_rfl)) (by kernel_rfl) ?_)) ((congrArg Bool.not (A11_Int.eqv _ _)).trans (by assumption))) ?_ aV
        | refine Ev.mk _ (λH hH ht=>UD rfl (by kernel_rfl) rfl rfl) ?_ aV
        | refine Ev.mk _ (λH hH ht=>O7 rfl (by kernel_rfl) rfl rfl) ?_ aV
        | refine Ev.mk _ (λH hH ht=>RI rfl (by kernel_rfl) rfl) ?_ aV
        | refine Ev.mk _ (λH hH ht=>R4 rfl rfl rfl (by assumption)) ?_ aV
        | refine Ev.mk _ (λH hH ht=>wT rfl rfl rfl (by assumption)) ?_ aV
        | refine Ev.mk _ (λH hH ht=>PI rfl rfl rfl rfl (by assumption)) ?_ aV
        | refine Ev.mk _ (λH hH ht=>zL rfl rfl rfl (by assumption) (by assumption)) ?_ aV
        | refine Ev.mk _ (λH hH ht=>KD rfl rfl rfl (by assumption) (by assumption)) ?_ aV
        | refine Ev.mk _ (λH hH ht=>yQ rfl rfl rfl (by assumption)) ?_ aV
        | refine Ev.mk _ (λH hH ht=>xS rfl rfl rfl (by assumption)) ?_ aV
        | refine Ev.mk _ (λH hH ht=>rD rfl rfl rfl (by assumption) (by assumption)) ?_ aV
        | refine Ev.mk _ (λH hH ht=>wZ rfl rfl rfl (by assumption) (by assumption)) ?_ aV
        | refine Ev.mk _ (λH hH ht=>aH (JV rfl rfl rfl) (congrArg aB (by assumption))) ?_ aV
        | refine Ev.mk _ (λH hH ht=>aH (JB rfl (by kernel_rfl) rfl rfl) (congrArg aB (by assumption))) ?_ aV
        | refine Ev.mk _ (λH hH ht=>qB rfl (by kernel_rfl) rfl) ?_ aV
        | refine Ev.mk _ (λH hH ht=>zI rfl (by kernel_rfl) rfl rfl (mY (by assumption)).1 (mY (by assumption)).2) ?_ aV)
      | (show Ev _ _ _;first
        | (apply aMV ;(iterate 5 exact rfl);exact aR;(focus (decide));exact aV)
        | (apply aHV ;(iterate 4 exact rfl);exact aR;(focus (decide));exact aV)
        | (apply aHI ;(iterate 6 exact rfl);exact aX;(focus (decide));exact aV)
        | (apply aGH ;(focus (assumption));(iterate 6 exact rfl);(focus (decide));exact aV)
        | (apply aBG ;(focus (assumption));(iterate 6 exact rfl);(focus (decide));exact aV)
        | (apply aLQ ;(iterate 5 exact rfl);exact aR;(focus (decide));exact aV)
        | (apply aA5 ;(iterate 4 exact rfl);(focus (rfl));(iterate 3 exact rfl);(focus (first | exact List.length_map _ | exact YW | rfl));exact aX;exact aL;(focus (decide));exact aV)
        | (apply aDB ;(iterate 4 exact rfl);(focus (rfl));(iterate 3 exact rfl);(iterate 2 (focus (decide)));exact aV)
        | (apply aGT ;(iterate 4 exact rfl);(focus (rfl));(iterate 3 exact rfl);(focus (assumption));(focus (decide));exact aV)
        | refine Ev.mk _ (λH hH ht=>PS rfl (by kernel_rfl) rfl) ?_ aV
        | refine Ev.mk _ (λH hH ht=>WZ rfl (by kernel_rfl) rfl rfl (by kernel_rfl)) ?_ aV
        | refine Ev.mk _ (λH hH ht=>aH (Y4 rfl (by kernel_rfl) rfl rfl) (congrArg aB (by assumption))) ?_ aV
        | refine Ev.mk _ (λH hH ht=>QJ ht rfl rfl (by kernel_rfl) rfl rfl (by repeat (first | exact .nil _ | refine .cons (.int (by kernel_rfl)) (by kernel_rfl) ?_)) ((congrArg Bool.not (A11_Int.eqv _ _)).trans (by assumption))) ?_ aV
        | refine Ev.mk _ (λH hH ht=>UD rfl (by kernel_rfl) rfl rfl) ?_ aV
        | refine Ev.mk _ (λH hH ht=>O7 rfl (by kernel_rfl) rfl rfl) ?_ aV
        | refine Ev.mk _ (λH hH ht=>RI rfl (by kernel_rfl) rfl) ?_ aV
        | refine Ev.mk _ (λH hH ht=>R4 rfl rfl rfl (by assumption)) ?_ aV
        | refine Ev.mk _ (λH hH ht=>wT rfl rfl rfl (by assumption)) ?_ aV
        | refine Ev.mk _ (λH hH ht=>PI rfl rfl rfl rfl (by assumption)) ?_ aV
        | refine Ev.mk _ (λH hH ht=>zL rfl rfl rfl (by assumption) (by assumption)) ?_ aV
        | refine Ev.mk _ (λH hH ht=>KD rfl rfl rfl (by assumption) (by assumption)) ?_ aV
        | refine Ev.mk _ (λH hH ht=>yQ rfl rfl rfl (by assumption)) ?_ aV
        | refine Ev.mk _ (λH hH ht=>xS rfl rfl rfl (by assumption)) ?_ aV
        | refine Ev.mk _ (λH hH ht=>rD rfl rfl rfl (by assumption) (by assumption)) ?_ aV
        | refine Ev.mk _ (λH hH ht=>wZ rfl rfl rfl (by assumption) (by assumption)) ?_ aV
        | refine Ev.mk _ (λH hH ht=>aH (JV rfl rfl rfl) (congrArg aB (by assumption))) ?_ aV
        | refine Ev.mk _ (λH hH ht=>aH (JB rfl (by kernel_rfl) rfl rfl) (congrArg aB (by assumption))) ?_ aV
        | refine Ev.mk _ (λH hH ht=>qB rfl (by kernel_rfl) rfl) ?_ aV
        | refine Ev.mk _ (λH hH ht=>zI rfl (by kernel_rfl) rfl rfl (mY (by assumption)).1 (mY (by assumption)).2) ?_ aV)
      | (show Ed _ _ _ _ _;refine Ed.mk ?_ rfl aY aV)
      | (show Em _ _;refine Em.mk ?_ aV)
      | (show EV _ _ _ _;refine EV.mk ?_ (by first | exact rfl | decide) aV)
      | (show Es _ _ _;refine Es.mk aZ ⟨by assumption,by assumption⟩ ?_)
      | (show E0 _ _;exact E0.mk aC aV)
      | (show Ei _ _ _ _ _;first
        | exact Ei.mk rfl aV aV
        | exact Ei.mk (QO aL) aV aV)
      | (show EL _ _ _;refine EL.mk ?_ aJ aV)
      | (show Ec _ _ _;refine Ec.mk ?_ aC aV)
      | (show Et _ (∀ H,H=_->_->_) _;(apply Y7 (hp:=H0);(iterate 7 exact rfl);(focus (kernel_rfl));(iterate 2 exact rfl);exact aV))
      | (show Et _ (∀ H,_) _;first
        | (apply Y7 (hp:=H0);(iterate 7 exact rfl);(focus (kernel_rfl));(iterate 2 exact rfl);exact aV)
        | refine Et.mk aO ?_ aV)
      | (show Et _ _ _;refine Et.mk aO ?_ aV)
      | (show Ee _ _ _ _;first
        | (apply aHW ;(iterate 3 exact rfl);exact aBR;exact aC;exact rfl;(focus (assumption));exact aK;exact aV)
        | (apply aIE ;(iterate 9 exact rfl);exact aC;(focus (first | exact bC.one | exact λ_=>rfl));(focus (assumption));exact aK;exact aV)
        | (apply aAD ;(iterate 15 exact rfl);exact aC;(focus (assumption));exact aL;(focus (first | exact bC.one | exact λ_=>rfl));(focus (assumption));exact aK;exact aV)
        | (apply aHM ;(iterate 8 exact rfl);exact aX;(focus (assumption));exact aO;exact aV)
        | (apply aNA ;(iterate 5 exact rfl);(focus (assumption));exact aR;(iterate 4 exact rfl);exact aO;exact aV)
        | (apply aMZ ;(iterate 7 exact rfl);exact aR;exact rfl;(focus (first | exact λ_=>aLA | exact λ_=>rfl));exact aK;exact aV))
      | refine E2.mk ?_ ?_
      | exact True.intro))):p:=h
section
variable {P:Program} {n:NT} {S:AS} {o:Oper} {T K E:TypeId} {x y:Operand}
end
theorem oJ {p:Prop} (h:p:=by repeat' (first | exact qI _ | exact qD _ | exact yI _ | exact M4 _ _ | exact WN | exact bC.eH _ | refine VM ?_ ?_ | refine rG ?_ _ | exact yD | exact UF | exact XI | exact XY _ | refine XV ?_ | intro _)):p:=h
theorem aDD {P:Program} {n:NT} {c:Code} {cs:List Code} {f:Nat->Option AV} {hp:AH} {Q:Go.Exit->AS->Prop} {e:TypeId} {sz:Nat} {zs:List Value} (hz:iL P e=some (sz,zs)) (t id:Nat) (h:f t=some (.sc (.slice none 0 0))) (hid:hp id=none)
    (h1:∀ aD,bX P n Q (c :: cs) ⟨upd f t (some (.sl id aD 0 0)),upd hp id (some ⟨e,sz,true,true,aD,[]⟩)⟩):bX P n Q (c :: cs) ⟨f,hp⟩:=tJ t id e sz h hid h1
theorem xN {P:Program} {k T el sz b:Nat} {zs:List Value} {α:Type} {F:α->List AV} {fn:Func} (hf:P.funcs[k]?=some fn) (hc:aU P k=true) (hu:P.underlying T=some (.slice el)) (hz:iL P el=some (sz,zs)) (hy:jC P el=some b) (h1:∀ a,iQ (F a)=true:=by first | exact λ_=>rfl | exact bC.one)
    (h:P.funcs[k]?=some fn->P.underlying T=some (.slice el)->iL P el=some (sz,zs)->jC P el=some b->(∀ a,iQ (F a)=true)->∀ (H:AH) (id:Nat) (l:List α),H id=none->l.length<=68719476736->PC P k [aG sz F l] H (λy H'=>∃ aD,y=.sl id aD 0 l.length/\H'=upd H id (some ⟨el,sz,true,true,aD,l.map F⟩)):=by
      intro hf hu hz hy h1 H id l hid hl
      refine kG (c:=_) hf rfl rfl ?_;intro Q hret hnorm
      repeat (refine bN ?_)
      refine bS ?_;intro K hK
      refine st rfl rfl rfl (dG rfl rfl) ?_
      refine bQ (hK _ ?_)
      repeat (refine bN ?_)
      refine bS ?_;intro K hK
      refine st rfl rfl rfl (bF rfl rfl) ?_
      refine se rfl rfl rfl (bZ.fA (aMT (xs:=l.map _) (sz:=_) rfl hu rfl rfl) (λ_ h=>h) (λ_ _=>trivial)) ?_;rintro _ _ ⟨b,rfl,hb,rfl⟩
      refine bQ (hK _ ?_)
      refine A9 (b:=b) rfl ?_ ?_
      · intro h;subst h
        have hl0:l=[]:=List.map_eq_nil_iff.1 (hb rfl)
        subst hl0
        repeat (refine bN ?_)
        refine bS ?_;intro K hK
        refine st rfl rfl rfl (dG rfl rfl) ?_
        refine bQ (hK _ ?_)
        refine aDD hz 2 id rfl hid ?_;intro v
        refine iG (hret _ _ _ (.tmp rfl .nil) (λ_ _ h=>h) ?_)
        exact ⟨v,rfl,rfl⟩
      · intro h;subst h
        refine kQ ?_
        repeat (refine bN ?_)
        refine bS ?_;intro K hK
        refine se rfl rfl rfl (aIT (ps:=[]) id [] .any rfl hu hz .nil rfl rfl rfl rfl) ?_;rintro _ _ ⟨v,-,rfl,rfl⟩
        refine st rfl rfl rfl (bF rfl rfl) ?_
        refine se rfl rfl rfl (iB (l:=[]) (m:=l) (l':=l) .any rfl hu hz hy rfl rfl rfl (upd_same _ _ _) rfl rfl rfl rfl rfl rfl rfl (.refl _) h1 rfl hl) ?_;rintro _ _ ⟨v2,-,rfl,rfl⟩
        refine st rfl rfl rfl (dG rfl rfl) ?_
        refine bQ (hK _ ?_)
        refine iG (hret _ _ _ (.tmp rfl .nil) (λ_ _ h=>h) ?_)
        exact ⟨v2,rfl,KI⟩):tC P k el sz F:=⟨hc,λh2 h3=>h hf hu hz hy h1 _ _ _ h2 h3⟩
set_option maxRecDepth 100000
section
variable {s:Sit} {H:AH} {l:Nat} {o o1 o2:Obj}
end
section
variable {P:Program} {l D p q:Nat} {fn:FuncId} {tmps:Array Value} {assign body:Code} {s:Sit} {H:AH} {x y:AV} {v u:Value}
end
@[reducible] def qX (T id aD ib:Nat) (x:AV):Option (Nat×List UInt8)->bA
  | none=>⟨T,3,true,true,aD,[[.sc (.pointer none),.sc (.slice none 0 0),x]]⟩
  | some (vb,l)=>⟨T,3,true,true,aD,[[.pt id aD 0 0,.sl ib vb 0 l.length,x]]⟩
section
variable {P:Program} {n:NT} {S:AS} {o:Oper} {T:TypeId} {x y:Operand}
theorem uR {Ty e:TypeId} (ho:o.op=.binOp .neq T x y Ty) (hT:P.underlying T=some (.pointer e)) (hx:S.ev x=some (.sc (.pointer none))) (hy:S.ev y=some (.sc (.pointer none))):bP P o S (.sc (.bool false)) :=
  lK ho hx hy λw=>by
    have hT':P.underlying T=some (.pointer (P.pointee T)):=by rw [hT];simp [Program.pointee,hT]
    simp only [eqGuard,Sem.run_bind]
    simp [run_neq_pointer_nil w T none hT']
theorem K5 {e N k:Nat} {b:Bool} {cs:List AV} {kk:IntKind} {i:Int} (ho:o.op=.indexAddr T x y) (hT:P.underlying T=some (.array N e)) (he:dY P e=some (k,b)) (hx:S.ev x=some (.pp cs)) (hy:S.ev y=some (.sc (.int kk i))) (hi:0<=i/\i<(N:Int)):bP P o S (.pp (cs.drop (i.toNat*k))) :=
  gY λs ρ hH h=>by
    have hxv:=h x (by simp [ho,Op.operands]) _ hx
    have hyv:=(h y (by simp [ho,Op.operands]) _ hy).eZ
    obtain ⟨bl,off,h1,hI,h2⟩:=hxv.KO
    have hadr:(Instr.indexAt T (.pointer (some ⟨bl,off,none⟩)) (.int kk i)).run P s.w=.ok (.pointer (some ⟨bl,off+i.toNat*k,none⟩)) s.w:=by
      simp only [Instr.indexAt,asIntOf,Sem.run_bind,Sem.run_pure,run_underlying hT,Result.andThen_ok,Instr.sureAddr,hi,and_self,if_true,oM he,addr_add]
    exact ⟨_,(h2.drop (i.toNat*k)).pp hI,by simp only [execOp,ho,h1,hyv,Sem.run_bind,hadr];rfl⟩
theorem ZN {src e:TypeId} {l:List UInt8} (ho:o.op=.convert src T x) (hs:P.underlying src=some .string) (hT:P.underlying T=some (.slice e)) (he:P.underlying e=some (.int .u8)) (hx:S.ev x=some (str l)) (hl:l.length<=1099511627776):bP P o S (aG 1 (fK .u8) (l.map λc=>(c.toNat:Int))):=by
  intro s a next Q hH hops _ hn
  have h1:=(hops x (by simp [ho,Op.operands]) _ hx).eZ
  have hge:=grownCap_ge s.w l.length 0 e
  have hmx:=grownCap_le_maxLen s.w l.length 0 e (by simp only [maxLen];omega)
  obtain ⟨s',e1,e2,e3,e4,e5⟩:=OO hH (s.w.drew.alloc (.cells (bytesRow (bs l) (grownCap s.w l.length 0 e)) e ((bytesRow (bs l) (grownCap s.w l.length 0 e)).size,(bytesRow (bs l) (grownCap s.w l.length 0 e)).size+1))) rfl rfl rfl (by simp) (λk hk=>alloc_old s.w.drew _ k hk)
  refine iR (w':=s'.w) (v:=.slice (some ⟨s.w.heap.size,0,none⟩) l.length (grownCap s.w l.length 0 e)) ?_ (hn s' _ (aG 1 (fK .u8) (l.map λc=>(c.toNat:Int))) _ ⟨rfl,rfl⟩ ?_ e4 e5 λk hk=>.inl (e2 ▸ hk))
  · rw [e1]
    have:=run_bytes_of_string (P:=P) s.w src T e (bs l) hs hT he
    rw [kP] at this
    simp only [execOp,ho,h1,Sem.run_bind,this,Result.andThen_ok]
    rfl
  · have hnew:(s'.w).heap[s.w.heap.size]?=some (.cells (bytesRow (bs l) (grownCap s.w l.length 0 e)) e ((bytesRow (bs l) (grownCap s.w l.length 0 e)).size,(bytesRow (bs l) (grownCap s.w l.length 0 e)).size+1)):=by rw [e1];exact nL s.w.drew _
    have hcell:∀ k,s'.w.cell? ⟨s.w.heap.size,k,none⟩=(bytesRow (bs l) (grownCap s.w l.length 0 e))[k]?:=λk=>tF hnew
    have hat:∀ (i:Nat) (r:List AV) (j:Nat) (z:AV),(List.map (fK .u8) (l.map λc=>(c.toNat:Int)))[i]?=some r->r[j]?=some z->∃ c:UInt8,l[i]?=some c/\j=0/\z=.sc (.int .u8 (c.toNat:Int)):=λi r j z h2 h3=>by
      simp only [List.getElem?_map,Option.map_eq_some_iff] at h2
      obtain ⟨q,⟨c,hc,rfl⟩,rfl⟩:=h2
      match j,h3 with
      | 0,h3=>simp at h3;exact ⟨c,hc,rfl,h3.symm⟩
      | j+1,h3=>simp at h3
    have hcl:∀ (i:Nat) (c:UInt8),l[i]?=some c->(bytesRow (bs l) (grownCap s.w l.length 0 e))[i]?=some (.int .u8 (c.toNat:Int)):=λi c hc=>by
      have hlt:=(List.getElem?_eq_some_iff.1 hc).1
      rw [bytesRow_at (bs l) _ i (by simpa [bs] using hlt)]
      have:l[i]=c:=(List.getElem?_eq_some_iff.1 hc).2
      simp [bs,this]
    have:=VR.list (s:=s') (sz:=1) (xs:=(l.map λc=>(c.toNat:Int)).map (fK .u8)) (b:=s.w.heap.size) (off:=0) (cap:=grownCap s.w l.length 0 e) (λi j=>((bytesRow (bs l) (grownCap s.w l.length 0 e))[0+i*1+j]?).getD undef) e3 (by simpa using hge) hmx
      (λi r hir=>by simp only [List.getElem?_map,Option.map_eq_some_iff] at hir;obtain ⟨q,-,rfl⟩:=hir;rfl)
      (λi r j z h2 h3=>by
        obtain ⟨c,hc,rfl,rfl⟩:=hat i r j z h2 h3
        rw [hcell]
        have:=hcl i c hc
        simp only [Nat.zero_add,Nat.mul_one,Nat.add_zero,this];rfl)
      (λi r j z h2 h3=>by
        obtain ⟨c,hc,rfl,rfl⟩:=hat i r j z h2 h3
        have:=hcl i c hc
        simp only [Nat.zero_add,Nat.mul_one,Nat.add_zero,this]
        exact .sc _)
    rw [show ((l.map λc=>(c.toNat:Int)).map (fK .u8)).length=l.length by simp] at this
    exact this
end
end Go.Pv
