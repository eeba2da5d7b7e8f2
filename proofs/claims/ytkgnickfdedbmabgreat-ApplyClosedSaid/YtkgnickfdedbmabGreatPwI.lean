import Derived.Test.YtkgnickfdedbmabGreatPwF
import Derived.Test.YtkgnickfdedbmabGreatPvAH
set_option linter.unusedVariables false
set_option linter.unusedSimpArgs false
namespace Go.Pv
theorem aV {p:Prop} (h:p:=by first | exact trivial | ((repeat (first | exact trivial | refine ⟨rfl,?_⟩));done) | fail):p:=h
theorem aL {p:Prop} (h:p:=by first | rfl | exact Eq.symm (by assumption) | exact (fH (by assumption) rfl).symm | exact NU (by assumption) | exact (fH (by assumption) (fH (by assumption) rfl)).symm | exact (fH (by assumption) (fH (by assumption) (fH (by assumption) rfl))).symm | exact (fH (by assumption) (Eq.symm (NU (by assumption)))).symm):p:=h
theorem aX {p:Prop} (h:p:=by first | assumption | exact fP (by assumption) (by assumption) | exact fP (fP (by assumption) (by assumption)) (by assumption)):p:=h
theorem aR {p:Prop} (h:p:=by first | rfl | exact eY (by assumption) | exact dR (by assumption) (aP.bW _) | exact cZ (by assumption) | exact cZ (fP (by assumption) (by assumption)) | exact cZ (fP (fP (by assumption) (by assumption)) (by assumption))):p:=h
theorem aC {p:Prop} (h:p:=by first | exact .refl _ | ((repeat' (first | exact .refl _ | exact bK.nil | exact Cv.nil _ | refine lW ?_ (aP.bW _) | refine bK.cons ?_ ?_ | refine bK.agg ?_ | refine bK.aU ?_ | exact fD.nil | refine fD.cons ?_ ?_ | refine yZ ?_ | exact dH rfl rfl rfl rfl rfl aL | exact nC aL | refine kZ rfl rfl rfl rfl rfl aL (by assumption) ?_));done) | fail):p:=h
theorem aY {p:Prop} (h:p:=by first | exact λ_ _=>.refl _ | (rintro _ rfl;(repeat' (first | exact .refl _ | exact bK.nil | exact Cv.nil _ | refine lW ?_ (aP.bW _) | refine bK.cons ?_ ?_ | refine bK.agg ?_ | refine bK.aU ?_ | exact fD.nil | refine fD.cons ?_ ?_ | refine yZ ?_ | exact dH rfl rfl rfl rfl rfl aL | exact nC aL | refine kZ rfl rfl rfl rfl rfl aL (by assumption) ?_));done) | (intro H hH;(repeat' (first | exact .refl _ | exact bK.nil | exact Cv.nil _ | refine lW ?_ (aP.bW _) | refine bK.cons ?_ ?_ | refine bK.agg ?_ | refine bK.aU ?_ | exact fD.nil | refine fD.cons ?_ ?_ | refine yZ ?_ | exact dH (by first | rfl | exact (hH _ (by decide)).trans rfl) rfl rfl rfl rfl aL | exact nC aL | refine kZ (by first | rfl | exact (hH _ (by decide)).trans rfl) rfl rfl rfl rfl aL (by assumption) ?_));done) | fail):p:=h
theorem aJ {p:Prop} (h:p:=by first | ((refine ⟨?_,?_⟩ <;> (repeat (first | exact trivial | refine ⟨⟨_,rfl,.refl _⟩,?_⟩ | refine ⟨⟨_,rfl,aC⟩,?_⟩ | refine ⟨⟨_,rfl,⟨rfl,aC⟩⟩,?_⟩)));done) | fail):p:=h
theorem aK {p:Prop} (h:p:=by first | exact λ_=>trivial | exact λ_=>⟨rfl,trivial⟩ | exact λ_=>⟨rfl,rfl,trivial⟩ | exact λ_=>⟨rfl,rfl,rfl,trivial⟩ | exact λ_=>⟨rfl,rfl,rfl,rfl,trivial⟩):p:=h
theorem aO {p:Prop} (h:p:=by first | exact trivial | exact ⟨rfl,trivial⟩ | exact ⟨rfl,rfl,trivial⟩ | exact ⟨rfl,rfl,rfl,trivial⟩ | exact ⟨rfl,rfl,rfl,rfl,trivial⟩):p:=h
theorem aZ {p:Prop} (h:p:=by repeat (first | exact ZL.nil | refine ZL.cons ?_ ?_ | exact .sc _ | exact .nil _)):p:=h
theorem GQ {i v o k q:Nat} {r:List AV} (h:k=q):AV.aU (.sl i v o k :: r)=.aU (.sl i v o q :: r):=by rw [h]
theorem au {p:Prop} (h:p:=by
  repeat' (first
    | ((conv=>whnf);first
      | refine OK ?_ ?_
      | intro _
      | (show gL _ _ _ _;refine gL.mk ?_ rfl aV)
      | (show jL _ _ _ _ _;refine jL.mk ?_ ?_ rfl aV)
      | (show EJ _ _;exact EJ.mk aJ aV)
      | (show Ek _ _ _;refine Ek.mk ?_ (by kernel_rfl) aV)
      | (show Ev _ (λv=>∀ H,H=_->_->_) _;first
        | (apply KH ;(iterate 5 exact rfl);exact aR;exact aV)
        | (apply TV ;(iterate 4 exact rfl);exact aR;exact aV)
        | (apply R3 ;(iterate 6 exact rfl);exact aX;exact aV)
        | (apply SN ;(focus (assumption));(iterate 6 exact rfl);exact aV)
        | (apply OP ;(focus (assumption));(iterate 6 exact rfl);exact aV)
        | (apply NP ;(iterate 5 exact rfl);exact aR;exact aV)
        | (apply NW ;(iterate 4 exact rfl);(focus (rfl));(iterate 3 exact rfl);(focus (first | exact List.length_map _ | exact qH | rfl));exact aX;exact aL;exact aV)
        | (apply R9 ;(iterate 4 exact rfl);(focus (rfl));(iterate 3 exact rfl);(focus (decide));exact aV)
        | (apply RV ;(iterate 4 exact rfl);(focus (rfl));(iterate 3 exact rfl);(focus (assumption));exact aV)
        | refine Ev.mk _ (λH hH ht=>BC rfl (by kernel_rfl) rfl) ?_ aV
        | refine Ev.mk _ (λH hH ht=>CX rfl (by kernel_rfl) rfl rfl (by kernel_rfl)) ?_ aV
        | refine Ev.mk _ (λH hH ht=>bX (zJ rfl (by kernel_rfl) rfl rfl) (congrArg aF (by assumption))) ?_ aV
        | refine Ev.mk _ (λH hH ht=>CL ht rfl rfl (by kernel_rfl) rfl rfl (by repeat (first | exact .nil _ | refine .cons (.int (by kernel_rfl)) (by kernel_rfl) ?_)) ((congrArg Bool.not (jJ.eqv _ _)).trans (by assumption))) ?_ aV
        | refine Ev.mk _ (λH hH ht=>CG rfl (by kernel_rfl) rfl rfl) ?_ aV
        | refine Ev.mk _ (λH hH ht=>zX rfl (by kernel_rfl) rfl rfl) ?_ aV
        | refine Ev.mk _ (λH hH ht=>zR rfl (by kernel_rfl) rfl) ?_ aV
        | refine Ev.mk _ (λH hH ht=>DN rfl rfl rfl (by assumption)) ?_ aV
        | refine Ev.mk _ (λH hH ht=>mR rfl rfl rfl (by assumption)) ?_ aV
        | refine Ev.mk _ (λH hH ht=>zP rfl rfl rfl rfl (by assumption)) ?_ aV
        | refine Ev.mk _ (λH hH ht=>oC rfl rfl rfl (by assumption) (by assumption)) ?_ aV
        | refine Ev.mk _ (λH hH ht=>yI rfl rfl rfl (by assumption) (by assumption)) ?_ aV
        | refine Ev.mk _ (λH hH ht=>zF rfl rfl rfl (by assumption)) ?_ aV
        | refine Ev.mk _ (λH hH ht=>BZ rfl rfl rfl (by assumption)) ?_ aV
        | refine Ev.mk _ (λH hH ht=>xM rfl rfl rfl (by assumption) (by assumption)) ?_ aV
        | refine Ev.mk _ (λH hH ht=>yY rfl rfl rfl (by assumption) (by assumption)) ?_ aV
        | refine Ev.mk _ (λH hH ht=>bX (CY rfl rfl rfl) (congrArg aF (by assumption))) ?_ aV
        | refine Ev.mk _ (λH hH ht=>bX (zZ rfl (by kernel_rfl) rfl rfl) (congrArg aF (by assumption))) ?_ aV
        | refine Ev.mk _ (λH hH ht=>DR rfl (by kernel_rfl) rfl) ?_ aV
        | refine Ev.mk _ (λH hH ht=>CK rfl (by kernel_rfl) rfl rfl (jX (by assumption)).1 (jX (by assumption)).2) ?_ aV)
      | (show Ev _ _ _;first
        | (apply UF ;(iterate 5 exact rfl);exact aR;(focus (decide));exact aV)
        | (apply LV ;(iterate 4 exact rfl);exact aR;(focus (decide));exact aV)
        | (apply R5 ;(iterate 6 exact rfl);exact aX;(focus (decide));exact aV)
        | (apply MW ;(focus (assumption));(iterate 6 exact rfl);(focus (decide));exact aV)
        | (apply U3 ;(focus (assumption));(iterate 6 exact rfl);(focus (decide));exact aV)
        | (apply NH ;(iterate 5 exact rfl);exact aR;(focus (decide));exact aV)
        | (apply NG ;(iterate 4 exact rfl);(focus (rfl));(iterate 3 exact rfl);(focus (first | exact List.length_map _ | exact qH | rfl));exact aX;exact aL;(focus (decide));exact aV)
        | (apply M9 ;(iterate 4 exact rfl);(focus (rfl));(iterate 3 exact rfl);(iterate 2 (focus (decide)));exact aV)
        | (apply SL ;(iterate 4 exact rfl);(focus (rfl));(iterate 3 exact rfl);(focus (assumption));(focus (decide));exact aV)
        | refine Ev.mk _ (λH hH ht=>BC rfl (by kernel_rfl) rfl) ?_ aV
        | refine Ev.mk _ (λH hH ht=>CX rfl (by kernel_rfl) rfl rfl (by kernel_rfl)) ?_ aV
        | refine Ev.mk _ (λH hH ht=>bX (zJ rfl (by kernel_rfl) rfl rfl) (congrArg aF (by assumption))) ?_ aV
        | refine Ev.mk _ (λH hH ht=>CL ht rfl rfl (by kernel_rfl) rfl rfl (by repeat (first | exact .nil _ | refine .cons (.int (by kernel_rfl)) (by kernel_rfl) ?_)) ((congrArg Bool.not (jJ.eqv _ _)).trans (by assumption))) ?_ aV
        | refine Ev.mk _ (λH hH ht=>CG rfl (by kernel_rfl) rfl rfl) ?_ aV
        | refine Ev.mk _ (λH hH ht=>zX rfl (by kernel_rfl) rfl rfl) ?_ aV
        | refine Ev.mk _ (λH hH ht=>zR rfl (by kernel_rfl) rfl) ?_ aV
        | refine Ev.mk _ (λH hH ht=>DN rfl rfl rfl (by assumption)) ?_ aV
        | refine Ev.mk _ (λH hH ht=>mR rfl rfl rfl (by assumption)) ?_ aV
        | refine Ev.mk _ (λH hH ht=>zP rfl rfl rfl rfl (by assumption)) ?_ aV
        | refine Ev.mk _ (λH hH ht=>oC rfl rfl rfl (by assumption) (by assumption)) ?_ aV
        | refine Ev.mk _ (λH hH ht=>yI rfl rfl rfl (by assumption) (by assumption)) ?_ aV
        | refine Ev.mk _ (λH hH ht=>zF rfl rfl rfl (by assumption)) ?_ aV
        | refine Ev.mk _ (λH hH ht=>BZ rfl rfl rfl (by assumption)) ?_ aV
        | refine Ev.mk _ (λH hH ht=>xM rfl rfl rfl (by assumption) (by assumption)) ?_ aV
        | refine Ev.mk _ (λH hH ht=>yY rfl rfl rfl (by assumption) (by assumption)) ?_ aV
        | refine Ev.mk _ (λH hH ht=>bX (CY rfl rfl rfl) (congrArg aF (by assumption))) ?_ aV
        | refine Ev.mk _ (λH hH ht=>bX (zZ rfl (by kernel_rfl) rfl rfl) (congrArg aF (by assumption))) ?_ aV
        | refine Ev.mk _ (λH hH ht=>DR rfl (by kernel_rfl) rfl) ?_ aV
        | refine Ev.mk _ (λH hH ht=>CK rfl (by kernel_rfl) rfl rfl (jX (by assumption)).1 (jX (by assumption)).2) ?_ aV)
      | (show Ed _ _ _ _ _;refine Ed.mk ?_ rfl aY aV)
      | (show Em _ _;refine Em.mk ?_ aV)
      | (show vB _ _ _ _;refine vB.mk ?_ (by first | exact rfl | decide) aV)
      | (show Es _ _ _;refine Es.mk aZ ⟨by assumption,by assumption⟩ ?_)
      | (show E0 _ _;exact E0.mk aC aV)
      | (show Ei _ _ _ _ _;first
        | exact Ei.mk rfl aV aV
        | exact Ei.mk (GQ aL) aV aV)
      | (show EL _ _ _;refine EL.mk ?_ aJ aV)
      | (show Ec _ _ _;refine Ec.mk ?_ aC aV)
      | (show Et _ (∀ H,H=_->_->_) _;(apply CZ (hp:=H0);(iterate 7 exact rfl);(focus (kernel_rfl));(iterate 2 exact rfl);exact aV))
      | (show Et _ (∀ H,_) _;first
        | (apply CZ (hp:=H0);(iterate 7 exact rfl);(focus (kernel_rfl));(iterate 2 exact rfl);exact aV)
        | refine Et.mk aO ?_ aV)
      | (show Et _ _ _;refine Et.mk aO ?_ aV)
      | (show Ee _ _ _ _;first
        | (apply MV ;(iterate 3 exact rfl);exact PD;exact aC;exact rfl;(focus (assumption));exact aK;exact aV)
        | (apply PU ;(iterate 9 exact rfl);exact aC;(focus (first | exact aP.one | exact λ_=>rfl));(focus (assumption));exact aK;exact aV)
        | (apply UL ;(iterate 15 exact rfl);exact aC;(focus (assumption));exact aL;(focus (first | exact aP.one | exact λ_=>rfl));(focus (assumption));exact aK;exact aV)
        | (apply LG ;(iterate 8 exact rfl);exact aX;(focus (assumption));exact aO;exact aV)
        | (apply TB ;(iterate 5 exact rfl);(focus (assumption));exact aR;(iterate 4 exact rfl);exact aO;exact aV)
        | (apply RO ;(iterate 7 exact rfl);exact aR;exact rfl;(focus (first | exact λ_=>pR | exact λ_=>rfl));exact aK;exact aV))
      | refine E2.mk ?_ ?_
      | exact True.intro))):p:=h
section
variable {P:Program} {n:NT} {S:AS} {o:Oper} {T K E:TypeId} {x y:Operand}
theorem aLL {ks:List Int} {vs:List AV} {k:Int} {z:Value} (ho:o.op=.lookup T x y true) (hT:P.underlying T=some (.map K E)) (hK:P.underlying K=some (.int .i64))
    (hx:S.ev x=some (.mp ks vs)) (hy:S.ev y=some (.sc (.int .i64 k))) (hj:fix k ks=none) (hz:(P.info? E).bind (·.zero)=some (.agg #[z])):bJ P o S (.aU [.agg [.sc z],.sc (.bool false)]) :=
  fV λs ρ _ h=>by
    have h1:=h x (by simp [ho,Op.operands]) _ hx
    have h2:=(h y (by simp [ho,Op.operands]) _ hy).dP
    generalize hu:ρ x=u at h1
    cases h1 with
    | mp hI hb hk hl hvv =>
      rename_i b clock es
      have g2:=FJ k es.toList ks 0 hk hj
      refine ⟨.tuple #[.agg #[z],.bool false],.aU rfl λi y w hy hw=>?_,?_⟩
      · cases i with
        | zero =>
          simp at hy hw;subst hy hw
          exact .agg rfl λi y w hy hw=>by
            cases i with
            | zero=>simp at hy hw;subst hy hw;exact .sc _
            | succ i=>simp at hy
        | succ i=>cases i with
          | zero=>simp at hy hw;subst hy hw;exact .sc _
          | succ i=>simp at hy
      · have hc:=yS (P:=P) (K:=K) (b:=es.isEmpty) (n:=9999) (v:=.int .i64 k) hK s.w
        simp only [execOp,ho,hu,h2,Instr.lookup,Sem.run_bind,run_underlying hT,Result.andThen_ok,run_getObj_map s.w _ _ _ hb,hc,Instr.findKey,run_underlying hK,g2,Sem.run_pure,ON hz]
        rfl
theorem aFV {k a b c d:Int} (h:k≠a/\k≠b/\k≠c/\k≠d):fix k [a,b,c,d]=none:=by
  obtain ⟨h1,h2,h3,h4⟩:=h
  simp [fix,h1,h2,h3,h4]
end
theorem iP {p:Prop} (h:p:=by repeat' (first | exact qX _ | exact yD _ | exact FD _ | exact F7 _ _ | exact KF | exact aP.dA _ | refine SS ?_ ?_ | refine o8 ?_ _ | exact vI | exact QI | exact NC | exact QU _ | refine PI ?_ | intro _)):p:=h
theorem aH9 {P:Program} {n:NT} {c:Code} {cs:List Code} {f:Nat->Option AV} {hp:AH} {Q:Go.Exit->AS->Prop} {e:TypeId} {sz:Nat} {zs:List Value} (hz:fJ P e=some (sz,zs)) (t id:Nat) (h:f t=some (.sc (.slice none 0 0))) (hid:hp id=none)
    (h1:∀ aG,bR P n Q (c :: cs) ⟨upd f t (some (.sl id aG 0 0)),upd hp id (some ⟨e,sz,true,true,aG,[]⟩)⟩):bR P n Q (c :: cs) ⟨f,hp⟩:=QN t id e sz h hid h1
theorem nT {P:Program} {k T el sz b:Nat} {zs:List Value} {α:Type} {F:α->List AV} {fn:Func} (hf:P.funcs[k]?=some fn) (hc:aT P k=true) (hu:P.underlying T=some (.slice el)) (hz:fJ P el=some (sz,zs)) (hy:iE P el=some b) (h1:∀ a,fE (F a)=true:=by first | exact λ_=>rfl | exact aP.one)
    (h:P.funcs[k]?=some fn->P.underlying T=some (.slice el)->fJ P el=some (sz,zs)->iE P el=some b->(∀ a,fE (F a)=true)->∀ (H:AH) (id:Nat) (l:List α),H id=none->l.length<=68719476736->PC P k [aD sz F l] H (λy H'=>∃ aG,y=.sl id aG 0 l.length/\H'=upd H id (some ⟨el,sz,true,true,aG,l.map F⟩)):=by
      intro hf hu hz hy h1 H id l hid hl
      refine RH (c:=_) hf rfl rfl ?_;intro Q hret hnorm
      repeat (refine wL ?_)
      refine wM ?_;intro K hK
      refine st rfl rfl rfl (sD rfl rfl) ?_
      refine uX (hK _ ?_)
      repeat (refine wL ?_)
      refine wM ?_;intro K hK
      refine st rfl rfl rfl (kV rfl rfl) ?_
      refine se rfl rfl rfl (bQ.dM (aOS (xs:=l.map _) (sz:=_) rfl hu rfl rfl) (λ_ h=>h) (λ_ _=>trivial)) ?_;rintro _ _ ⟨b,rfl,hb,rfl⟩
      refine uX (hK _ ?_)
      refine E8 (b:=b) rfl ?_ ?_
      · intro h;subst h
        have hl0:l=[]:=List.map_eq_nil_iff.1 (hb rfl)
        subst hl0
        repeat (refine wL ?_)
        refine wM ?_;intro K hK
        refine st rfl rfl rfl (sD rfl rfl) ?_
        refine uX (hK _ ?_)
        refine aH9 hz 2 id rfl hid ?_;intro v
        refine B5 (hret _ _ _ (.tmp rfl .nil) (λ_ _ h=>h) ?_)
        exact ⟨v,rfl,rfl⟩
      · intro h;subst h
        refine H8 ?_
        repeat (refine wL ?_)
        refine wM ?_;intro K hK
        refine se rfl rfl rfl (MI (ps:=[]) id [] .any rfl hu hz .nil rfl rfl rfl rfl) ?_;rintro _ _ ⟨v,-,rfl,rfl⟩
        refine st rfl rfl rfl (kV rfl rfl) ?_
        refine se rfl rfl rfl (jU (l:=[]) (m:=l) (l':=l) .any rfl hu hz hy rfl rfl rfl (upd_same _ _ _) rfl rfl rfl rfl rfl rfl rfl (.refl _) h1 rfl hl) ?_;rintro _ _ ⟨v2,-,rfl,rfl⟩
        refine st rfl rfl rfl (sD rfl rfl) ?_
        refine uX (hK _ ?_)
        refine B5 (hret _ _ _ (.tmp rfl .nil) (λ_ _ h=>h) ?_)
        exact ⟨v2,rfl,pJ⟩):lK P k el sz F:=⟨hc,λh2 h3=>h hf hu hz hy h1 _ _ _ h2 h3⟩
end Go.Pv
