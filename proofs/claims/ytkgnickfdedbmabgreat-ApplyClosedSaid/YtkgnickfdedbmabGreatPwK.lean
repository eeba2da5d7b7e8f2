import Derived.Test.YtkgnickfdedbmabGreatPwI
import Derived.Test.YtkgnickfdedbmabGreatPvAN
set_option linter.unusedVariables false
set_option linter.unusedSimpArgs false
namespace Go.Pv
section
variable {P:Program} {tb:dX}
abbrev PJ {A:Type} (L:A->List (Nat×AV)) (M:A->List (Nat×bC)) (v:A) (f:FS) (hp:AH):Prop:=jK hp f (L v)/\nD hp (M v)
theorem SR.AA {n:NT} {s0 s:Sit} {H0:AH} {S T:AS} {a:Act} (h:SR n s S a) (hf:Fr s0 H0 s S.hp) (hl:S.gY T):SR n s T a/\Fr s0 H0 s T.hp :=
  ⟨h.gY hl,⟨hf.os,hf.tape,hf.output,hf.size,hf.keep,hf.gM,hf.fU,λb hb ho=>hf.own b hb ((hl s h.heap).2.2 b ho),hf.vals,hf.iC⟩⟩
theorem SR.pj {A:Type} {L:A->List (Nat×AV)} {M:A->List (Nat×bC)} {v:A} {n:NT} {s0 s:Sit} {H0:AH} {S:AS} {a:Act} (h:SR n s S a) (hf:Fr s0 H0 s S.hp) (hj:PJ L M v S.sl S.hp):SR n s ⟨kn (L v),hk (M v)⟩ a/\Fr s0 H0 s (hk (M v)) :=
  h.AA hf (mQ hj.1 hj.2)
theorem aAH {f:Nat->Option AV} {H:AH} {l:List (Nat×AV)} (h:jK H f l):AS.gY ⟨f,H⟩ ⟨kn l,H⟩:=RG h.le λt v hv=>⟨v,hv,nO.refl v⟩
theorem SR.k0 {n:NT} {s0 s:Sit} {H0 H:AH} {S:AS} {a:Act} {l:List (Nat×AV)} (h:SR n s S a) (hf:Fr s0 H0 s S.hp) (hk:jK S.hp S.sl l) (he:S.hp=H):SR n s ⟨kn l,H⟩ a/\Fr s0 H0 s H:=by
  subst he;exact h.AA hf (aAH hk)
theorem lS (hm:P.follows .mixedOrders=true) (ht:cK P tb) {n:NT} (hn:n.rd=false) {A B:Type} {J:A->FS->AH->Prop} {JR:B->FS->AH->List (Nat×Nat)->Prop} {hJR:∀ {a f hp vs},JR a f hp vs->bN vs/\JR a f hp []}
    {t:WT P (.s A (.b B))} {r:A⊕B} (h0:t.run=some r) {c:Code} {s:Sit} {a:Act} {f:FS} {hp:AH} (hs:SR n s ⟨f,hp⟩ a) (m:Nat) (h:WP P tb m n t (.dF J (.fn JR hJR)) (.c [c]) f hp []) {Q:Go.Exit->Act->World->Prop}
    (k1:∀ v S' s' a',r=.inl v->J v S'.sl S'.hp->SR n s' S' a'->Fr s hp s' S'.hp->Q .normal a' s'.w)
    (k2:∀ v S' s' a',r=.inr v->JR v S'.sl S'.hp []->SR n s' S' a'->Fr s hp s' S'.hp->Q .ret a' s'.w):c.wpIn Fence.wide 0 P Q a s.w:=by
  have:=(C8 hm ht m _ _ _ _ _ _ _ h).2 r h0
  refine wpIn_mono (jG this s a hs _ (hn ▸ EX)) ?_
  rintro e a' w' ⟨S',s',rfl,hq,hs',hf'⟩
  cases r with
  | inl v=>obtain ⟨rfl,hj⟩:=hq;exact k1 v S' s' a' rfl hj hs' hf'
  | inr v =>
    obtain ⟨hne,he,hj⟩:=hq
    rcases he with rfl | rfl
    · exact absurd rfl hne
    · exact k2 v S' s' a' rfl hj hs' hf'
theorem BR (hm:P.follows .mixedOrders=true) (ht:cK P tb) {n:NT} {A B:Type} {J:A->FS->AH->Prop} {JR:B->FS->AH->List (Nat×Nat)->Prop} {hJR:∀ {a f hp vs},JR a f hp vs->bN vs/\JR a f hp []}
    {t:WT P (.s A (.b B))} {r:A⊕B} (h0:t.run=some r) {c:Code} {f:FS} {hp:AH} (m:Nat) (h:WP P tb m n t (.dF J (.fn JR hJR)) (.c [c]) f hp []) {Q:Go.Exit->AS->Prop}
    (k1:∀ v S',r=.inl v->J v S'.sl S'.hp->Q .normal S')
    (k2:∀ v S',r=.inr v->JR v S'.sl S'.hp []->Q .ret S'):Tr P n c ⟨f,hp⟩ Q:=by
  have:=(C8 hm ht m _ _ _ _ _ _ _ h).2 r h0
  refine Tr.mono (jG this) λe S' hq=>?_
  cases r with
  | inl v=>obtain ⟨rfl,hj⟩:=hq;exact k1 v S' rfl hj
  | inr v =>
    obtain ⟨hne,he,hj⟩:=hq
    rcases he with rfl | rfl
    · exact absurd rfl hne
    · exact k2 v S' rfl hj
end
theorem aJ2 {p:Prop} (h:p:=by first | (refine ⟨?_,?_⟩;(focus ((repeat (first | exact trivial | refine ⟨⟨_,rfl,.refl _⟩,?_⟩));done));(first | exact rfl | exact pJ | exact pJ.trans pJ)) | (apply Exists.intro;refine ⟨?_,?_⟩;(focus ((repeat (first | exact trivial | refine ⟨⟨_,rfl,.refl _⟩,?_⟩));done));(first | exact rfl | exact pJ | exact pJ.trans pJ)) | fail):p:=h
theorem vO {p:Prop} (h:p:=by
  repeat' (first
    | ((conv=>whnf);first
      | refine OK ?_ ?_
      | intro _
      | (show gL _ _ _ _;refine gL.mk ?_ rfl aV)
      | (show jL _ _ _ _ _;refine jL.mk ?_ ?_ rfl aV)
      | (show EJ _ _;first
        | exact EJ.mk aJ aV
        | exact EJ.mk aJ2 aV)
      | (show Ek _ _ _;refine Ek.mk ?_ (by kernel_rfl) aV)
      | (show Ev _ (λv=>∀ H,H=_->_->_) _;first
        | (apply KH ;(iterate 5 exact rfl);exact aR;exact aV)
        | (apply TV ;(iterate 4 exact rfl);exact aR;exact aV)
        | (apply R3 ;(iterate 6 exact rfl);exact aX;exact aV)
        | (apply SN ;(focus (assumption));(iterate 6 exact rfl);exact aV)
        | (apply OP ;(focus (assumption));(iterate 6 exact rfl);exact aV)
        | (apply NP ;(iterate 5 exact rfl);exact aR;exact aV)
        | (apply NW ;(iterate 4 exact rfl);(focus (rfl));(iterate 3 exact rfl);(focus (first | exact List.length_map _ | exact qH | rfl));exact aX;exact aL;exact aV)
        | (apply R9 ;(iterate 4 exact rfl);(focus (rfl));(iterate 3 exact rfl);(focus (decide));exact aV)
        | (apply RV ;(iterate 4 exact rfl);(focus (rfl));(iterate 3 exact rfl);(focus (assumption));exact aV)
        | refine Ev.mk _ (λH hH ht=>BC rfl (by kernel_rfl) rfl) ?_ aV
        | refine Ev.mk _ (λH hH ht=>CX rfl (by kernel_rfl) rfl rfl (by kernel_rfl)) ?_ aV
        | refine Ev.mk _ (λH hH ht=>bX (zJ rfl (by kernel_rfl) rfl rfl) (congrArg aF (by assumption))) ?_ aV
        | refine Ev.mk _ (λH hH ht=>CL ht rfl rfl (by kernel_rfl) rfl rfl (by repeat (first | exact .nil _ | refine .cons (.int (by kernel_rfl)) (by kernel_rfl) ?_)) ((congrArg Bool.not (jJ.eqv _ _)).trans (by assumption))) ?_ aV
        | refine Ev.mk _ (λH hH ht=>CG rfl (by kernel_rfl) rfl rfl) ?_ aV
        | refine Ev.mk _ (λH hH ht=>zX rfl (by kernel_rfl) rfl rfl) ?_ aV
        | refine Ev.mk _ (λH hH ht=>zR rfl (by kernel_rfl) rfl) ?_ aV
        | refine Ev.mk _ (λH hH ht=>DN rfl rfl rfl (by assumption)) ?_ aV
        | refine Ev.mk _ (λH hH ht=>mR rfl rfl rfl (by assumption)) ?_ aV
        | refine Ev.mk _ (λH hH ht=>zP rfl rfl rfl rfl (by assumption)) ?_ aV
        | refine Ev.mk _ (λH hH ht=>oC rfl rfl rfl (by assumption) (by assumption)) ?_ aV
        | refine Ev.mk _ (λH hH ht=>yI rfl rfl rfl (by assumption) (by assumption)) ?_ aV
        | refine Ev.mk _ (λH hH ht=>zF rfl rfl rfl (by assumption)) ?_ aV
        | refine Ev.mk _ (λH hH ht=>BZ rfl rfl rfl (by assumption)) ?_ aV
        | refine Ev.mk _ (λH hH ht=>xM rfl rfl rfl (by assumption) (by assumption)) ?_ aV
        | refine Ev.mk _ (λH hH ht=>yY rfl rfl rfl (by assumption) (by assumption)) ?_ aV
        | refine Ev.mk _ (λH hH ht=>bX (CY rfl rfl rfl) (congrArg aF (by assumption))) ?_ aV
        | refine Ev.mk _ (λH hH ht=>bX (zZ rfl (by kernel_rfl) rfl rfl) (congrArg aF (by assumption))) ?_ aV
        | refine Ev.mk _ (λH hH ht=>DR rfl (by kernel_rfl) rfl) ?_ aV
        | refine Ev.mk _ (λH hH ht=>CK rfl (by kernel_rfl) rfl rfl (jX (by assumption)).1 (jX (by assumption)).2) ?_ aV)
      | (show Ev _ _ _;first
        | (apply UF ;(iterate 5 exact rfl);exact aR;(focus (decide));exact aV)
        | (apply LV ;(iterate 4 exact rfl);exact aR;(focus (decide));exact aV)
        | (apply R5 ;(iterate 6 exact rfl);exact aX;(focus (decide));exact aV)
        | (apply MW ;(focus (assumption));(iterate 6 exact rfl);(focus (decide));exact aV)
        | (apply U3 ;(focus (assumption));(iterate 6 exact rfl);(focus (decide));exact aV)
        | (apply NH ;(iterate 5 exact rfl);exact aR;(focus (decide));exact aV)
        | (apply NG ;(iterate 4 exact rfl);(focus (rfl));(iterate 3 exact rfl);(focus (first | exact List.length_map _ | exact qH | rfl));exact aX;exact aL;(focus (decide));exact aV)
        | (apply M9 ;(iterate 4 exact rfl);(focus (rfl));(iterate 3 exact rfl);(iterate 2 (focus (decide)));exact aV)
        | (apply SL ;(iterate 4 exact rfl);(focus (rfl));(iterate 3 exact rfl);(focus (assumption));(focus (decide));exact aV)
        | refine Ev.mk _ (λH hH ht=>BC rfl (by kernel_rfl) rfl) ?_ aV
        | refine Ev.mk _ (λH hH ht=>CX rfl (by kernel_rfl) rfl rfl (by kernel_rfl)) ?_ aV
        | refine Ev.mk _ (λH hH ht=>bX (zJ rfl (by kernel_rfl) rfl rfl) (congrArg aF (by assumption))) ?_ aV
        | refine Ev.mk _ (λH hH ht=>CL ht rfl rfl (by kernel_rfl) rfl rfl (by repeat (first | exact .nil _ | refine .cons (.int (by kernel_rfl)) (by kernel_rfl) ?_)) ((congrArg Bool.not (jJ.eqv _ _)).trans (by assumption))) ?_ aV
        | refine Ev.mk _ (λH hH ht=>CG rfl (by kernel_rfl) rfl rfl) ?_ aV
        | refine Ev.mk _ (λH hH ht=>zX rfl (by kernel_rfl) rfl rfl) ?_ aV
        | refine Ev.mk _ (λH hH ht=>zR rfl (by kernel_rfl) rfl) ?_ aV
        | refine Ev.mk _ (λH hH ht=>DN rfl rfl rfl (by assumption)) ?_ aV
        | refine Ev.mk _ (λH hH ht=>mR rfl rfl rfl (by assumption)) ?_ aV
        | refine Ev.mk _ (λH hH ht=>zP rfl rfl rfl rfl (by assumption)) ?_ aV
        | refine Ev.mk _ (λH hH ht=>oC rfl rfl rfl (by assumption) (by assumption)) ?_ aV
        | refine Ev.mk _ (λH hH ht=>yI rfl rfl rfl (by assumption) (by assumption)) ?_ aV
        | refine Ev.mk _ (λH hH ht=>zF rfl rfl rfl (by assumption)) ?_ aV
        | refine Ev.mk _ (λH hH ht=>BZ rfl rfl rfl (by assumption)) ?_ aV
        | refine Ev.mk _ (λH hH ht=>xM rfl rfl rfl (by assumption) (by assumption)) ?_ aV
        | refine Ev.mk _ (λH hH ht=>yY rfl rfl rfl (by assumption) (by assumption)) ?_ aV
        | refine Ev.mk _ (λH hH ht=>bX (CY rfl rfl rfl) (congrArg aF (by assumption))) ?_ aV
        | refine Ev.mk _ (λH hH ht=>bX (zZ rfl (by kernel_rfl) rfl rfl) (congrArg aF (by assumption))) ?_ aV
        | refine Ev.mk _ (λH hH ht=>DR rfl (by kernel_rfl) rfl) ?_ aV
        | refine Ev.mk _ (λH hH ht=>CK rfl (by kernel_rfl) rfl rfl (jX (by assumption)).1 (jX (by assumption)).2) ?_ aV)
      | (show Ed _ _ _ _ _;refine Ed.mk ?_ rfl aY aV)
      | (show Em _ _;refine Em.mk ?_ aV)
      | (show vB _ _ _ _;refine vB.mk ?_ (by first | exact rfl | decide) aV)
      | (show Es _ _ _;refine Es.mk aZ ⟨by assumption,by assumption⟩ ?_)
      | (show E0 _ _;exact E0.mk aC aV)
      | (show Ei _ _ _ _ _;first
        | exact Ei.mk rfl aV aV
        | exact Ei.mk (GQ aL) aV aV)
      | (show EL _ _ _;refine EL.mk ?_ aJ aV)
      | (show Ec _ _ _;refine Ec.mk ?_ aC aV)
      | (show Et _ (∀ H,H=_->_->_) _;(apply CZ (hp:=H0);(iterate 7 exact rfl);(focus (kernel_rfl));(iterate 2 exact rfl);exact aV))
      | (show Et _ (∀ H,_) _;first
        | (apply CZ (hp:=H0);(iterate 7 exact rfl);(focus (kernel_rfl));(iterate 2 exact rfl);exact aV)
        | refine Et.mk aO ?_ aV)
      | (show Et _ _ _;refine Et.mk aO ?_ aV)
      | (show Ee _ _ _ _;first
        | (apply MV ;(iterate 3 exact rfl);exact PD;exact aC;exact rfl;(focus (assumption));exact aK;exact aV)
        | (apply PU ;(iterate 9 exact rfl);exact aC;(focus (first | exact aP.one | exact λ_=>rfl));(focus (assumption));exact aK;exact aV)
        | (apply UL ;(iterate 15 exact rfl);exact aC;(focus (assumption));exact aL;(focus (first | exact aP.one | exact λ_=>rfl));(focus (assumption));exact aK;exact aV)
        | (apply LG ;(iterate 8 exact rfl);exact aX;(focus (assumption));exact aO;exact aV)
        | (apply TB ;(iterate 5 exact rfl);(focus (assumption));exact aR;(iterate 4 exact rfl);exact aO;exact aV)
        | (apply RO ;(iterate 7 exact rfl);exact aR;exact rfl;(focus (first | exact λ_=>pR | exact λ_=>rfl));exact aK;exact aV))
      | refine E2.mk ?_ ?_
      | exact True.intro))):p:=h
end Go.Pv
