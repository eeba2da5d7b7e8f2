import Derived.Test.YtimkkeehkhkhcaaGreatPvT
import Derived.Test.YtimkkeehkhkhcaaGreatPvAO
import Derived.Test.YtimkkeehkhkhcaaGreatProg
set_option linter.unusedVariables false
set_option linter.unusedSimpArgs false
namespace Go.Pv
open Go.Proofs
theorem mixed:Tryz.prog.follows .mixedOrders=true:=by kernel_rfl
set_option maxRecDepth 10000
theorem bX:gF Tryz.prog 3=some (1,false):=by kernel_rfl
theorem uH:gF Tryz.prog 4=some (1,false):=by kernel_rfl
theorem pI:gF Tryz.prog 9=some (1,false):=by kernel_rfl
theorem nI:gF Tryz.prog 37=some (1,false):=by kernel_rfl
theorem uK:gF Tryz.prog 75=some (1,false):=by kernel_rfl
theorem tX:gF Tryz.prog 90=some (1,false):=by kernel_rfl
theorem oP:jK Tryz.prog 3=some 8:=by kernel_rfl
theorem pM:jK Tryz.prog 5=some 1:=by kernel_rfl
theorem kR:iW Tryz.prog 3=some (1,[.int .i64 0]):=by kernel_rfl
theorem lT:iW Tryz.prog 5=some (1,[.int .u8 0]):=by kernel_rfl
theorem ND:bD Tryz.prog 113=true:=by kernel_rfl
theorem l7:bD Tryz.prog 29=true:=by kernel_rfl
theorem eD:bD Tryz.prog 36=true:=by kernel_rfl
theorem eT:bD Tryz.prog 42=true:=by kernel_rfl
theorem BF:bD Tryz.prog 45=true:=by kernel_rfl
theorem vT:bD Tryz.prog 56=true:=by kernel_rfl
theorem aIJ:bD Tryz.prog 57=true:=by kernel_rfl
theorem eU:bD Tryz.prog 74=true:=by kernel_rfl
theorem w9:bD Tryz.prog 76=true:=by kernel_rfl
theorem o8:jC Tryz.prog 125 0=some 0:=by kernel_rfl
theorem KX:jC Tryz.prog 125 1=some 1:=by kernel_rfl
theorem sZ:jC Tryz.prog 92 0=some 0:=by kernel_rfl
theorem nK:jC Tryz.prog 92 1=some 1:=by kernel_rfl
theorem aMB:zeroOf Tryz.prog 125=some [.string ⟨#[]⟩,.bool false]:=by kernel_rfl
theorem I8:zeroOf Tryz.prog 92=some [.pointer none,.slice none 0 0]:=by kernel_rfl
theorem JK:((Tryz.prog.info? 92).map (·.size))=some 2:=by kernel_rfl
theorem O7:Tryz.prog.cellsOf 92=2:=by kernel_rfl
theorem c5:Tryz.prog.cellsOf 5=1:=by kernel_rfl
theorem IQ:((Tryz.prog.info? 92).map (·.size))=some 2:=by kernel_rfl
theorem cW:Tryz.prog.cellsOf 94=3:=by kernel_rfl
theorem aFS:∀ c,liesAt Tryz.prog Tryz.prog.depth 94 c 0 92 1=true\/c=0:=by
  intro c
  cases c with
  | zero=>exact .inr rfl
  | succ k=>exact .inl (by kernel_rfl)
theorem wE {H:AH} {id aD:Nat} {s:RS} (hob:H id=some (cK 125 aD s)):PC Tryz.prog 56 [.pt id aD 0 0] H (λ_ H'=>H'=upd H id (some (cK 125 aD ([],true)))):=by
  refine jZ (c:=_) Tryz.func56 rfl rfl ?_
  intro Q hret hnorm
  refine cB ?_;intro K hK
  refine st rfl rfl rfl (bM rfl rfl) ?_
  refine st rfl rfl rfl (bM rfl rfl) ?_
  refine st rfl rfl rfl (bK rfl rfl (by first | exact .pp _ | exact .pt (rfl) rfl rfl | exact .pt (hob) rfl rfl | exact .pt (upd_same _ _ _) rfl rfl)) ?_
  refine st rfl rfl rfl (dX rfl o8 rfl (by first | exact .pp _ | exact .pt (rfl) rfl rfl | exact .pt (hob) rfl rfl | exact .pt (upd_same _ _ _) rfl rfl) (by first | exact .pt _ _ _ _ _ | exact .pp _ _)) ?_
  refine nS rfl rfl (dZ rfl pI rfl rfl (by first | exact rfl | exact hob | exact upd_same _ _ _) rfl rfl rfl rfl rfl rfl) ?_
  refine st rfl rfl rfl (bK rfl rfl (by first | exact .pp _ | exact .pt (rfl) rfl rfl | exact .pt (hob) rfl rfl | exact .pt (upd_same _ _ _) rfl rfl)) ?_
  refine st rfl rfl rfl (dX rfl KX rfl (by first | exact .pp _ | exact .pt (rfl) rfl rfl | exact .pt (hob) rfl rfl | exact .pt (upd_same _ _ _) rfl rfl) (by first | exact .pt _ _ _ _ _ | exact .pp _ _)) ?_
  refine nS rfl rfl (dZ rfl uH rfl rfl (by first | exact rfl | exact hob | exact upd_same _ _ _) rfl rfl rfl rfl rfl rfl) ?_
  refine bT (hK _ ?_);clear hK K
  refine lS (hnorm _ _ _ .nil (λ_ _ h=>h) ?_)
  exact CU _ _ _ _
theorem eB {H:AH} {id aD:Nat} {s:RS} (hob:H id=some (cK 125 aD s)) (hl:s.1.length<=9223372036854775806):PC Tryz.prog 36 [.pt id aD 0 0] H (λy H'=>y=int (dG s)/\H'=upd H id (some (cK 125 aD (dL s)))):=by
  refine jZ (c:=_) Tryz.func36 rfl rfl ?_
  intro Q hret hnorm
  refine bR ?_
  refine cB ?_;intro K hK
  refine st rfl rfl rfl (eO rfl rfl) ?_
  refine bT (hK _ ?_);clear hK K
  refine bR ?_
  refine cB ?_;intro K hK
  refine st rfl rfl rfl (eO rfl rfl) ?_
  refine bT (hK _ ?_);clear hK K
  refine bR ?_
  refine bR ?_
  refine cB ?_;intro K hK
  refine st rfl rfl rfl (bM rfl rfl) ?_
  refine st rfl rfl rfl (bK rfl rfl (by first | exact .pp _ | exact .pt (rfl) rfl rfl | exact .pt (hob) rfl rfl | exact .pt (upd_same _ _ _) rfl rfl)) ?_
  refine st rfl rfl rfl (dX rfl o8 rfl (by first | exact .pp _ | exact .pt (rfl) rfl rfl | exact .pt (hob) rfl rfl | exact .pt (upd_same _ _ _) rfl rfl) (by first | exact .pt _ _ _ _ _ | exact .pp _ _)) ?_
  refine st rfl rfl rfl (fG rfl pI rfl (by first | exact .pp _ | exact .pt (rfl) rfl rfl | exact .pt (hob) rfl rfl | exact .pt (upd_same _ _ _) rfl rfl) rfl) ?_
  refine st rfl rfl rfl (nX rfl Tryz.underlying9 rfl) ?_
  refine st rfl rfl rfl (bM rfl rfl) ?_
  refine bT (hK _ ?_);clear hK K
  refine pU ?_;intro Q1 bn1 bx1 br1 bo1
  refine QA (ι:=Nat) (λk=>⟨kn [(0,.pt id aD 0 0),(3,.sc (.int .u64 (pre s.1 k:Nat))),(10,int s.1.length),(11,int k)],H⟩) (λk=>k<=9/\k<=s.1.length/\rd s.1 0 0=rd (s.1.drop k) k (pre s.1 k)/\pre s.1 k<2 ^ (7*k)) (λk=>s.1.length-k) 0 (by simp [pre]) (pF ⟨rfl,rfl,rfl,rfl,trivial⟩) ?_
  rintro k ⟨hk9,hkl,hrd0,hpre⟩ Q2 ln2 lx2 lr2
  refine bR ?_
  refine cB ?_;intro K hK
  refine st rfl rfl rfl (oC rfl rfl rfl) ?_
  refine bT (hK _ ?_);clear hK K
  refine bR ?_
  refine nV rfl ?_ ?_
  · intro h12
    have hklt:k<s.1.length:=by omega
    obtain ⟨c,hget⟩:∃ c,s.1[k]?=some c:=⟨_,List.getElem?_eq_getElem hklt⟩
    have hc:=c.toNat_lt
    have hc:c.toNat<256:=by simpa using hc
    have hp9:=aDL hk9
    refine kE ?_
    refine bR ?_
    refine pU ?_;intro Q3 bn3 bx3 br3 bo3
    refine bR ?_
    refine cB ?_;intro K hK
    refine st rfl rfl rfl (bM rfl rfl) ?_
    refine st rfl rfl rfl (eO rfl rfl) ?_
    refine bT (hK _ ?_);clear hK K
    refine bR ?_
    refine cB ?_;intro K hK
    refine st rfl rfl rfl (bM rfl rfl) ?_
    refine st rfl rfl rfl (bK rfl rfl (by first | exact .pp _ | exact .pt (rfl) rfl rfl | exact .pt (hob) rfl rfl | exact .pt (upd_same _ _ _) rfl rfl)) ?_
    refine st rfl rfl rfl (dX rfl o8 rfl (by first | exact .pp _ | exact .pt (rfl) rfl rfl | exact .pt (hob) rfl rfl | exact .pt (upd_same _ _ _) rfl rfl) (by first | exact .pt _ _ _ _ _ | exact .pp _ _)) ?_
    refine st rfl rfl rfl (fG rfl pI rfl (by first | exact .pp _ | exact .pt (rfl) rfl rfl | exact .pt (hob) rfl rfl | exact .pt (upd_same _ _ _) rfl rfl) rfl) ?_
    refine st rfl rfl rfl (bM rfl rfl) ?_
    refine st rfl rfl rfl (yT rfl Tryz.underlying9 rfl rfl rfl hget) ?_
    refine st rfl rfl rfl (jX rfl Tryz.underlying5 Tryz.underlying70 rfl (zW (by omega))) ?_
    refine st rfl rfl rfl (eO rfl rfl) ?_
    refine bT (hK _ ?_);clear hK K
    refine bR ?_
    refine bR ?_
    refine cB ?_;intro K hK
    refine st rfl rfl rfl (bM rfl rfl) ?_
    refine st rfl rfl rfl (uX rfl rfl rfl) ?_
    refine XC 22 false rfl (decide_eq_false (by omega)) ?_
    refine st rfl rfl rfl (bM rfl rfl) ?_
    refine st rfl rfl rfl (bM rfl rfl) ?_
    refine st rfl rfl rfl (aS rfl rfl rfl) ?_
    refine st rfl rfl rfl (bM rfl rfl) ?_
    refine CZ 26 rfl ?_ ?_
    · intro g26
      have hk9e:k=9:=by omega
      refine st rfl rfl rfl (bM rfl rfl) ?_
      refine st rfl rfl rfl (uX rfl rfl rfl) ?_
      refine st rfl rfl rfl (pV rfl rfl (λ_=>rfl) (λ_=>rfl) rfl) ?_
      refine st rfl rfl rfl (pV rfl rfl (λ_=>rfl) (λ_=>rfl) rfl) ?_
      refine bT (hK _ ?_);clear hK K
      refine nV rfl ?_ ?_
      · intro h30
        have hrd:rd s.1 0 0=none:=by rw [hrd0];exact aFE hget (.inr ⟨by omega,by omega⟩)
        refine oV (bo3 _ _ (by decide) (lx2 _ _ (bx1 _ ?_)))
        refine bR ?_
        refine cB ?_;intro K hK
        refine st rfl rfl rfl (bM rfl rfl) ?_
        refine se rfl rfl rfl (aQ rfl rfl (.cons rfl .nil) vT (wE hob)) ?_
        rintro _ _ rfl
        refine bT (hK _ ?_);clear hK K
        refine bR ?_
        refine cB ?_;intro K hK
        refine st rfl rfl rfl (eO rfl rfl) ?_
        refine bT (hK _ ?_);clear hK K
        refine iZ (hret _ _ _ (.tmp rfl .nil) (λ_ _ h=>h) ?_)
        first
        | (obtain ⟨e1,e2⟩:=tQ hrd;rw [e1,e2];exact ⟨rfl,rfl⟩)
        | (obtain ⟨e1,e2⟩:=nJ hrd;rw [e1,e2,<- hz];refine ⟨rfl,?_⟩;rw [List.take_length];rfl)
        | (obtain ⟨e1,e2⟩:=nJ hrd;rw [e1,e2];refine ⟨rfl,?_⟩;rw [List.take_length];rfl)
      · intro h30
        refine kE ?_
        refine bR ?_
        have hstop:¬ (9<k\/(k=9/\1<c.toNat)):=by omega
        have hsh:c.toNat % 128*2 ^ (7*k)<2 ^ 64:=UE hk9 (by omega) (by omega)
        have hor:pre s.1 k ||| c.toNat % 128*2 ^ (7*k)=pre s.1 k+c.toNat % 128*2 ^ (7*k):=ML hpre
        have hpl:pre s.1 k<2 ^ 64:=by omega
        have hpn:pre s.1 (k+1)=pre s.1 k+c.toNat % 128*2 ^ (7*k):=by simp only [pre];rw [B4 hget]
        have hpn64:pre s.1 (k+1)<2 ^ 64:=by rw [hpn,<- hor];exact Nat.or_lt_two_pow hpl hsh
        refine cB ?_;intro K hK
        refine st rfl rfl rfl (bM rfl rfl) ?_
        refine st rfl rfl rfl (bM rfl rfl) ?_
        refine st rfl rfl rfl (uT (r:=((c.toNat % 128:Nat):Int)) rfl rfl rfl (by decide) rfl) ?_
        refine st rfl rfl rfl (bM rfl rfl) ?_
        refine st rfl rfl rfl (JQ rfl rfl rfl (wrap64 (by omega))) ?_
        refine st rfl rfl rfl (vD rfl rfl rfl (by omega) (PO hk9 hsh)) ?_
        refine st rfl rfl rfl (wX (r:=((pre s.1 (k+1):Nat):Int)) rfl rfl rfl (by rw [PR hpl hsh,hor,hpn])) ?_
        refine st rfl rfl rfl (eO rfl rfl) ?_
        refine bT (hK _ ?_);clear hK K
        refine bR ?_
        refine bR ?_
        refine cB ?_;intro K hK
        refine st rfl rfl rfl (bM rfl rfl) ?_
        refine st rfl rfl rfl (xH rfl rfl rfl) ?_
        refine bT (hK _ ?_);clear hK K
        refine nV rfl ?_ ?_
        · intro h39
          refine oV (bx3 _ ?_)
          refine cB ?_;intro K hK
          refine st rfl rfl rfl (rD rfl rfl rfl (wrap64 (by omega))) ?_
          refine st rfl rfl rfl (bM rfl rfl) ?_
          refine bT (hK _ ?_);clear hK K
          refine lS (ln2 _ ⟨k+1,⟨?_,by omega,?_,OC _ hpre⟩,by omega,pF ⟨rfl,rfl,rfl,rfl,trivial⟩⟩)
          · omega
          · rw [hrd0,UX hget (by omega) (by omega)];simp only [pre];rw [B4 hget]
        · intro h39
          refine kE ?_
          refine bR ?_
          refine bR ?_
          refine cB ?_;intro K hK
          refine st rfl rfl rfl (bM rfl rfl) ?_
          refine st rfl rfl rfl (aS rfl rfl rfl) ?_
          refine st rfl rfl rfl (bM rfl rfl) ?_
          refine CZ 42 rfl ?_ ?_
          · intro g42
            have hc0:c.toNat=0:=by omega
            refine st rfl rfl rfl (bM rfl rfl) ?_
            refine st rfl rfl rfl (uX rfl rfl rfl) ?_
            refine st rfl rfl rfl (pV rfl rfl (λ_=>rfl) (λ_=>rfl) rfl) ?_
            refine bT (hK _ ?_);clear hK K
            refine nV rfl ?_ ?_
            · intro h45
              have hrd:rd s.1 0 0=none:=by rw [hrd0];exact NR hget hc0 (by omega)
              refine oV (bo3 _ _ (by decide) (lx2 _ _ (bx1 _ ?_)))
              refine bR ?_
              refine cB ?_;intro K hK
              refine st rfl rfl rfl (bM rfl rfl) ?_
              refine se rfl rfl rfl (aQ rfl rfl (.cons rfl .nil) vT (wE hob)) ?_
              rintro _ _ rfl
              refine bT (hK _ ?_);clear hK K
              refine bR ?_
              refine cB ?_;intro K hK
              refine st rfl rfl rfl (eO rfl rfl) ?_
              refine bT (hK _ ?_);clear hK K
              refine iZ (hret _ _ _ (.tmp rfl .nil) (λ_ _ h=>h) ?_)
              first
              | (obtain ⟨e1,e2⟩:=tQ hrd;rw [e1,e2];exact ⟨rfl,rfl⟩)
              | (obtain ⟨e1,e2⟩:=nJ hrd;rw [e1,e2,<- hz];refine ⟨rfl,?_⟩;rw [List.take_length];rfl)
              | (obtain ⟨e1,e2⟩:=nJ hrd;rw [e1,e2];refine ⟨rfl,?_⟩;rw [List.take_length];rfl)
            · intro h45
              refine kE ?_
              refine bR ?_
              have hrd:rd s.1 0 0=some (pre s.1 (k+1),s.1.drop (k+1)):=by rw [hrd0,D7 hget hstop (by omega) (by omega),hpn]
              refine cB ?_;intro K hK
              refine st rfl rfl rfl (bM rfl rfl) ?_
              refine st rfl rfl rfl (bM rfl rfl) ?_
              refine st rfl rfl rfl (bK rfl rfl (by first | exact .pp _ | exact .pt (rfl) rfl rfl | exact .pt (hob) rfl rfl | exact .pt (upd_same _ _ _) rfl rfl)) ?_
              refine st rfl rfl rfl (dX rfl o8 rfl (by first | exact .pp _ | exact .pt (rfl) rfl rfl | exact .pt (hob) rfl rfl | exact .pt (upd_same _ _ _) rfl rfl) (by first | exact .pt _ _ _ _ _ | exact .pp _ _)) ?_
              refine st rfl rfl rfl (fG rfl pI rfl (by first | exact .pp _ | exact .pt (rfl) rfl rfl | exact .pt (hob) rfl rfl | exact .pt (upd_same _ _ _) rfl rfl) rfl) ?_
              refine st rfl rfl rfl (bM rfl rfl) ?_
              refine st rfl rfl rfl (rD rfl rfl rfl (wrap64 (by omega))) ?_
              refine st rfl rfl rfl (vP rfl Tryz.underlying9 rfl (.yes (i:=k+1) rfl (by omega)) .no (by omega) (Nat.le_refl _)) ?_
              refine st rfl rfl rfl (bK rfl rfl (by first | exact .pp _ | exact .pt (rfl) rfl rfl | exact .pt (hob) rfl rfl | exact .pt (upd_same _ _ _) rfl rfl)) ?_
              refine st rfl rfl rfl (dX rfl o8 rfl (by first | exact .pp _ | exact .pt (rfl) rfl rfl | exact .pt (hob) rfl rfl | exact .pt (upd_same _ _ _) rfl rfl) (by first | exact .pt _ _ _ _ _ | exact .pp _ _)) ?_
              refine nS rfl rfl (dZ rfl pI rfl rfl (by first | exact rfl | exact hob | exact upd_same _ _ _) rfl rfl rfl rfl rfl rfl) ?_
              refine bT (hK _ ?_);clear hK K
              refine bR ?_
              refine cB ?_;intro K hK
              refine st rfl rfl rfl (bM rfl rfl) ?_
              refine st rfl rfl rfl (qA rfl rfl rfl (by omega) AA) ?_
              refine st rfl rfl rfl (jX rfl Tryz.underlying70 Tryz.underlying3 rfl (wrap64 (by omega))) ?_
              refine st rfl rfl rfl (bM rfl rfl) ?_
              refine st rfl rfl rfl (wU rfl rfl rfl (AR hpn64)) ?_
              refine st rfl rfl rfl (jX rfl Tryz.underlying70 Tryz.underlying3 rfl (wrap64 (by omega))) ?_
              refine st rfl rfl rfl (yA (r:=-((pre s.1 (k+1) % 2:Nat):Int)) rfl rfl (by rw [wrap64 (by omega)];omega)) ?_
              refine st rfl rfl rfl (yN (r:=tL (pre s.1 (k+1))) rfl rfl rfl (by rw [B6 (show pre s.1 (k+1) / 2<2 ^ 63 by omega) (show pre s.1 (k+1) % 2=0\/pre s.1 (k+1) % 2=1 by omega)];exact (CO _).symm)) ?_
              refine st rfl rfl rfl (eO rfl rfl) ?_
              refine bT (hK _ ?_);clear hK K
              refine iZ (br3 _ (lr2 _ (br1 _ (hret _ _ _ (.tmp rfl .nil) (λ_ _ h=>h) ?_))))
              first
              | (obtain ⟨e1,e2⟩:=tQ hrd;rw [e1,e2];exact ⟨rfl,rfl⟩)
              | (obtain ⟨e1,e2⟩:=nJ hrd;rw [e1,e2,<- hz];refine ⟨rfl,?_⟩;rw [List.take_length];rfl)
              | (obtain ⟨e1,e2⟩:=nJ hrd;rw [e1,e2];refine ⟨rfl,?_⟩;rw [List.take_length];rfl)
          · intro g42
            have hc0:c.toNat≠0:=by omega
            refine sk rfl rfl rfl ?_
            refine sk rfl rfl rfl ?_
            refine st rfl rfl rfl (pV rfl rfl (λ_=>rfl) (λ_=>rfl) rfl) ?_
            refine bT (hK _ ?_);clear hK K
            refine rA rfl ?_
            refine kE ?_
            refine bR ?_
            have hrd:rd s.1 0 0=some (pre s.1 (k+1),s.1.drop (k+1)):=by rw [hrd0,D7 hget hstop (by omega) (by omega),hpn]
            refine cB ?_;intro K hK
            refine st rfl rfl rfl (bM rfl rfl) ?_
            refine st rfl rfl rfl (bM rfl rfl) ?_
            refine st rfl rfl rfl (bK rfl rfl (by first | exact .pp _ | exact .pt (rfl) rfl rfl | exact .pt (hob) rfl rfl | exact .pt (upd_same _ _ _) rfl rfl)) ?_
            refine st rfl rfl rfl (dX rfl o8 rfl (by first | exact .pp _ | exact .pt (rfl) rfl rfl | exact .pt (hob) rfl rfl | exact .pt (upd_same _ _ _) rfl rfl) (by first | exact .pt _ _ _ _ _ | exact .pp _ _)) ?_
            refine st rfl rfl rfl (fG rfl pI rfl (by first | exact .pp _ | exact .pt (rfl) rfl rfl | exact .pt (hob) rfl rfl | exact .pt (upd_same _ _ _) rfl rfl) rfl) ?_
            refine st rfl rfl rfl (bM rfl rfl) ?_
            refine st rfl rfl rfl (rD rfl rfl rfl (wrap64 (by omega))) ?_
            refine st rfl rfl rfl (vP rfl Tryz.underlying9 rfl (.yes (i:=k+1) rfl (by omega)) .no (by omega) (Nat.le_refl _)) ?_
            refine st rfl rfl rfl (bK rfl rfl (by first | exact .pp _ | exact .pt (rfl) rfl rfl | exact .pt (hob) rfl rfl | exact .pt (upd_same _ _ _) rfl rfl)) ?_
            refine st rfl rfl rfl (dX rfl o8 rfl (by first | exact .pp _ | exact .pt (rfl) rfl rfl | exact .pt (hob) rfl rfl | exact .pt (upd_same _ _ _) rfl rfl) (by first | exact .pt _ _ _ _ _ | exact .pp _ _)) ?_
            refine nS rfl rfl (dZ rfl pI rfl rfl (by first | exact rfl | exact hob | exact upd_same _ _ _) rfl rfl rfl rfl rfl rfl) ?_
            refine bT (hK _ ?_);clear hK K
            refine bR ?_
            refine cB ?_;intro K hK
            refine st rfl rfl rfl (bM rfl rfl) ?_
            refine st rfl rfl rfl (qA rfl rfl rfl (by omega) AA) ?_
            refine st rfl rfl rfl (jX rfl Tryz.underlying70 Tryz.underlying3 rfl (wrap64 (by omega))) ?_
            refine st rfl rfl rfl (bM rfl rfl) ?_
            refine st rfl rfl rfl (wU rfl rfl rfl (AR hpn64)) ?_
            refine st rfl rfl rfl (jX rfl Tryz.underlying70 Tryz.underlying3 rfl (wrap64 (by omega))) ?_
            refine st rfl rfl rfl (yA (r:=-((pre s.1 (k+1) % 2:Nat):Int)) rfl rfl (by rw [wrap64 (by omega)];omega)) ?_
            refine st rfl rfl rfl (yN (r:=tL (pre s.1 (k+1))) rfl rfl rfl (by rw [B6 (show pre s.1 (k+1) / 2<2 ^ 63 by omega) (show pre s.1 (k+1) % 2=0\/pre s.1 (k+1) % 2=1 by omega)];exact (CO _).symm)) ?_
            refine st rfl rfl rfl (eO rfl rfl) ?_
            refine bT (hK _ ?_);clear hK K
            refine iZ (br3 _ (lr2 _ (br1 _ (hret _ _ _ (.tmp rfl .nil) (λ_ _ h=>h) ?_))))
            first
            | (obtain ⟨e1,e2⟩:=tQ hrd;rw [e1,e2];exact ⟨rfl,rfl⟩)
            | (obtain ⟨e1,e2⟩:=nJ hrd;rw [e1,e2,<- hz];refine ⟨rfl,?_⟩;rw [List.take_length];rfl)
            | (obtain ⟨e1,e2⟩:=nJ hrd;rw [e1,e2];refine ⟨rfl,?_⟩;rw [List.take_length];rfl)
    · intro g26
      have hk9n:k≠9:=by omega
      refine sk rfl rfl rfl ?_
      refine sk rfl rfl rfl ?_
      refine st rfl rfl rfl (pV rfl rfl (λ_=>rfl) (λ_=>rfl) rfl) ?_
      refine st rfl rfl rfl (pV rfl rfl (λ_=>rfl) (λ_=>rfl) rfl) ?_
      refine bT (hK _ ?_);clear hK K
      refine rA rfl ?_
      refine kE ?_
      refine bR ?_
      have hstop:¬ (9<k\/(k=9/\1<c.toNat)):=by omega
      have hsh:c.toNat % 128*2 ^ (7*k)<2 ^ 64:=UE hk9 (by omega) (by omega)
      have hor:pre s.1 k ||| c.toNat % 128*2 ^ (7*k)=pre s.1 k+c.toNat % 128*2 ^ (7*k):=ML hpre
      have hpl:pre s.1 k<2 ^ 64:=by omega
      have hpn:pre s.1 (k+1)=pre s.1 k+c.toNat % 128*2 ^ (7*k):=by simp only [pre];rw [B4 hget]
      have hpn64:pre s.1 (k+1)<2 ^ 64:=by rw [hpn,<- hor];exact Nat.or_lt_two_pow hpl hsh
      refine cB ?_;intro K hK
      refine st rfl rfl rfl (bM rfl rfl) ?_
      refine st rfl rfl rfl (bM rfl rfl) ?_
      refine st rfl rfl rfl (uT (r:=((c.toNat % 128:Nat):Int)) rfl rfl rfl (by decide) rfl) ?_
      refine st rfl rfl rfl (bM rfl rfl) ?_
      refine st rfl rfl rfl (JQ rfl rfl rfl (wrap64 (by omega))) ?_
      refine st rfl rfl rfl (vD rfl rfl rfl (by omega) (PO hk9 hsh)) ?_
      refine st rfl rfl rfl (wX (r:=((pre s.1 (k+1):Nat):Int)) rfl rfl rfl (by rw [PR hpl hsh,hor,hpn])) ?_
      refine st rfl rfl rfl (eO rfl rfl) ?_
      refine bT (hK _ ?_);clear hK K
      refine bR ?_
      refine bR ?_
      refine cB ?_;intro K hK
      refine st rfl rfl rfl (bM rfl rfl) ?_
      refine st rfl rfl rfl (xH rfl rfl rfl) ?_
      refine bT (hK _ ?_);clear hK K
      refine nV rfl ?_ ?_
      · intro h39
        refine oV (bx3 _ ?_)
        refine cB ?_;intro K hK
        refine st rfl rfl rfl (rD rfl rfl rfl (wrap64 (by omega))) ?_
        refine st rfl rfl rfl (bM rfl rfl) ?_
        refine bT (hK _ ?_);clear hK K
        refine lS (ln2 _ ⟨k+1,⟨?_,by omega,?_,OC _ hpre⟩,by omega,pF ⟨rfl,rfl,rfl,rfl,trivial⟩⟩)
        · omega
        · rw [hrd0,UX hget (by omega) (by omega)];simp only [pre];rw [B4 hget]
      · intro h39
        refine kE ?_
        refine bR ?_
        refine bR ?_
        refine cB ?_;intro K hK
        refine st rfl rfl rfl (bM rfl rfl) ?_
        refine st rfl rfl rfl (aS rfl rfl rfl) ?_
        refine st rfl rfl rfl (bM rfl rfl) ?_
        refine CZ 42 rfl ?_ ?_
        · intro g42
          have hc0:c.toNat=0:=by omega
          refine st rfl rfl rfl (bM rfl rfl) ?_
          refine st rfl rfl rfl (uX rfl rfl rfl) ?_
          refine st rfl rfl rfl (pV rfl rfl (λ_=>rfl) (λ_=>rfl) rfl) ?_
          refine bT (hK _ ?_);clear hK K
          refine nV rfl ?_ ?_
          · intro h45
            have hrd:rd s.1 0 0=none:=by rw [hrd0];exact NR hget hc0 (by omega)
            refine oV (bo3 _ _ (by decide) (lx2 _ _ (bx1 _ ?_)))
            refine bR ?_
            refine cB ?_;intro K hK
            refine st rfl rfl rfl (bM rfl rfl) ?_
            refine se rfl rfl rfl (aQ rfl rfl (.cons rfl .nil) vT (wE hob)) ?_
            rintro _ _ rfl
            refine bT (hK _ ?_);clear hK K
            refine bR ?_
            refine cB ?_;intro K hK
            refine st rfl rfl rfl (eO rfl rfl) ?_
            refine bT (hK _ ?_);clear hK K
            refine iZ (hret _ _ _ (.tmp rfl .nil) (λ_ _ h=>h) ?_)
            first
            | (obtain ⟨e1,e2⟩:=tQ hrd;rw [e1,e2];exact ⟨rfl,rfl⟩)
            | (obtain ⟨e1,e2⟩:=nJ hrd;rw [e1,e2,<- hz];refine ⟨rfl,?_⟩;rw [List.take_length];rfl)
            | (obtain ⟨e1,e2⟩:=nJ hrd;rw [e1,e2];refine ⟨rfl,?_⟩;rw [List.take_length];rfl)
          · intro h45
            refine kE ?_
            refine bR ?_
            have hrd:rd s.1 0 0=some (pre s.1 (k+1),s.1.drop (k+1)):=by rw [hrd0,D7 hget hstop (by omega) (by omega),hpn]
            refine cB ?_;intro K hK
            refine st rfl rfl rfl (bM rfl rfl) ?_
            refine st rfl rfl rfl (bM rfl rfl) ?_
            refine st rfl rfl rfl (bK rfl rfl (by first | exact .pp _ | exact .pt (rfl) rfl rfl | exact .pt (hob) rfl rfl | exact .pt (upd_same _ _ _) rfl rfl)) ?_
            refine st rfl rfl rfl (dX rfl o8 rfl (by first | exact .pp _ | exact .pt (rfl) rfl rfl | exact .pt (hob) rfl rfl | exact .pt (upd_same _ _ _) rfl rfl) (by first | exact .pt _ _ _ _ _ | exact .pp _ _)) ?_
            refine st rfl rfl rfl (fG rfl pI rfl (by first | exact .pp _ | exact .pt (rfl) rfl rfl | exact .pt (hob) rfl rfl | exact .pt (upd_same _ _ _) rfl rfl) rfl) ?_
            refine st rfl rfl rfl (bM rfl rfl) ?_
            refine st rfl rfl rfl (rD rfl rfl rfl (wrap64 (by omega))) ?_
            refine st rfl rfl rfl (vP rfl Tryz.underlying9 rfl (.yes (i:=k+1) rfl (by omega)) .no (by omega) (Nat.le_refl _)) ?_
            refine st rfl rfl rfl (bK rfl rfl (by first | exact .pp _ | exact .pt (rfl) rfl rfl | exact .pt (hob) rfl rfl | exact .pt (upd_same _ _ _) rfl rfl)) ?_
            refine st rfl rfl rfl (dX rfl o8 rfl (by first | exact .pp _ | exact .pt (rfl) rfl rfl | exact .pt (hob) rfl rfl | exact .pt (upd_same _ _ _) rfl rfl) (by first | exact .pt _ _ _ _ _ | exact .pp _ _)) ?_
            refine nS rfl rfl (dZ rfl pI rfl rfl (by first | exact rfl | exact hob | exact upd_same _ _ _) rfl rfl rfl rfl rfl rfl) ?_
            refine bT (hK _ ?_);clear hK K
            refine bR ?_
            refine cB ?_;intro K hK
            refine st rfl rfl rfl (bM rfl rfl) ?_
            refine st rfl rfl rfl (qA rfl rfl rfl (by omega) AA) ?_
            refine st rfl rfl rfl (jX rfl Tryz.underlying70 Tryz.underlying3 rfl (wrap64 (by omega))) ?_
            refine st rfl rfl rfl (bM rfl rfl) ?_
            refine st rfl rfl rfl (wU rfl rfl rfl (AR hpn64)) ?_
            refine st rfl rfl rfl (jX rfl Tryz.underlying70 Tryz.underlying3 rfl (wrap64 (by omega))) ?_
            refine st rfl rfl rfl (yA (r:=-((pre s.1 (k+1) % 2:Nat):Int)) rfl rfl (by rw [wrap64 (by omega)];omega)) ?_
            refine st rfl rfl rfl (yN (r:=tL (pre s.1 (k+1))) rfl rfl rfl (by rw [B6 (show pre s.1 (k+1) / 2<2 ^ 63 by omega) (show pre s.1 (k+1) % 2=0\/pre s.1 (k+1) % 2=1 by omega)];exact (CO _).symm)) ?_
            refine st rfl rfl rfl (eO rfl rfl) ?_
            refine bT (hK _ ?_);clear hK K
            refine iZ (br3 _ (lr2 _ (br1 _ (hret _ _ _ (.tmp rfl .nil) (λ_ _ h=>h) ?_))))
            first
            | (obtain ⟨e1,e2⟩:=tQ hrd;rw [e1,e2];exact ⟨rfl,rfl⟩)
            | (obtain ⟨e1,e2⟩:=nJ hrd;rw [e1,e2,<- hz];refine ⟨rfl,?_⟩;rw [List.take_length];rfl)
            | (obtain ⟨e1,e2⟩:=nJ hrd;rw [e1,e2];refine ⟨rfl,?_⟩;rw [List.take_length];rfl)
        · intro g42
          have hc0:c.toNat≠0:=by omega
          refine sk rfl rfl rfl ?_
          refine sk rfl rfl rfl ?_
          refine st rfl rfl rfl (pV rfl rfl (λ_=>rfl) (λ_=>rfl) rfl) ?_
          refine bT (hK _ ?_);clear hK K
          refine rA rfl ?_
          refine kE ?_
          refine bR ?_
          have hrd:rd s.1 0 0=some (pre s.1 (k+1),s.1.drop (k+1)):=by rw [hrd0,D7 hget hstop (by omega) (by omega),hpn]
          refine cB ?_;intro K hK
          refine st rfl rfl rfl (bM rfl rfl) ?_
          refine st rfl rfl rfl (bM rfl rfl) ?_
          refine st rfl rfl rfl (bK rfl rfl (by first | exact .pp _ | exact .pt (rfl) rfl rfl | exact .pt (hob) rfl rfl | exact .pt (upd_same _ _ _) rfl rfl)) ?_
          refine st rfl rfl rfl (dX rfl o8 rfl (by first | exact .pp _ | exact .pt (rfl) rfl rfl | exact .pt (hob) rfl rfl | exact .pt (upd_same _ _ _) rfl rfl) (by first | exact .pt _ _ _ _ _ | exact .pp _ _)) ?_
          refine st rfl rfl rfl (fG rfl pI rfl (by first | exact .pp _ | exact .pt (rfl) rfl rfl | exact .pt (hob) rfl rfl | exact .pt (upd_same _ _ _) rfl rfl) rfl) ?_
          refine st rfl rfl rfl (bM rfl rfl) ?_
          refine st rfl rfl rfl (rD rfl rfl rfl (wrap64 (by omega))) ?_
          refine st rfl rfl rfl (vP rfl Tryz.underlying9 rfl (.yes (i:=k+1) rfl (by omega)) .no (by omega) (Nat.le_refl _)) ?_
          refine st rfl rfl rfl (bK rfl rfl (by first | exact .pp _ | exact .pt (rfl) rfl rfl | exact .pt (hob) rfl rfl | exact .pt (upd_same _ _ _) rfl rfl)) ?_
          refine st rfl rfl rfl (dX rfl o8 rfl (by first | exact .pp _ | exact .pt (rfl) rfl rfl | exact .pt (hob) rfl rfl | exact .pt (upd_same _ _ _) rfl rfl) (by first | exact .pt _ _ _ _ _ | exact .pp _ _)) ?_
          refine nS rfl rfl (dZ rfl pI rfl rfl (by first | exact rfl | exact hob | exact upd_same _ _ _) rfl rfl rfl rfl rfl rfl) ?_
          refine bT (hK _ ?_);clear hK K
          refine bR ?_
          refine cB ?_;intro K hK
          refine st rfl rfl rfl (bM rfl rfl) ?_
          refine st rfl rfl rfl (qA rfl rfl rfl (by omega) AA) ?_
          refine st rfl rfl rfl (jX rfl Tryz.underlying70 Tryz.underlying3 rfl (wrap64 (by omega))) ?_
          refine st rfl rfl rfl (bM rfl rfl) ?_
          refine st rfl rfl rfl (wU rfl rfl rfl (AR hpn64)) ?_
          refine st rfl rfl rfl (jX rfl Tryz.underlying70 Tryz.underlying3 rfl (wrap64 (by omega))) ?_
          refine st rfl rfl rfl (yA (r:=-((pre s.1 (k+1) % 2:Nat):Int)) rfl rfl (by rw [wrap64 (by omega)];omega)) ?_
          refine st rfl rfl rfl (yN (r:=tL (pre s.1 (k+1))) rfl rfl rfl (by rw [B6 (show pre s.1 (k+1) / 2<2 ^ 63 by omega) (show pre s.1 (k+1) % 2=0\/pre s.1 (k+1) % 2=1 by omega)];exact (CO _).symm)) ?_
          refine st rfl rfl rfl (eO rfl rfl) ?_
          refine bT (hK _ ?_);clear hK K
          refine iZ (br3 _ (lr2 _ (br1 _ (hret _ _ _ (.tmp rfl .nil) (λ_ _ h=>h) ?_))))
          first
          | (obtain ⟨e1,e2⟩:=tQ hrd;rw [e1,e2];exact ⟨rfl,rfl⟩)
          | (obtain ⟨e1,e2⟩:=nJ hrd;rw [e1,e2,<- hz];refine ⟨rfl,?_⟩;rw [List.take_length];rfl)
          | (obtain ⟨e1,e2⟩:=nJ hrd;rw [e1,e2];refine ⟨rfl,?_⟩;rw [List.take_length];rfl)
  · intro h12
    have hrd:rd s.1 0 0=none:=by rw [hrd0];exact aKZ (by omega)
    refine oV (lx2 _ _ (bx1 _ ?_))
    refine bR ?_
    refine cB ?_;intro K hK
    refine st rfl rfl rfl (bM rfl rfl) ?_
    refine se rfl rfl rfl (aQ rfl rfl (.cons rfl .nil) vT (wE hob)) ?_
    rintro _ _ rfl
    refine bT (hK _ ?_);clear hK K
    refine bR ?_
    refine cB ?_;intro K hK
    refine st rfl rfl rfl (eO rfl rfl) ?_
    refine bT (hK _ ?_);clear hK K
    refine iZ (hret _ _ _ (.tmp rfl .nil) (λ_ _ h=>h) ?_)
    first
    | (obtain ⟨e1,e2⟩:=tQ hrd;rw [e1,e2];exact ⟨rfl,rfl⟩)
    | (obtain ⟨e1,e2⟩:=nJ hrd;rw [e1,e2,<- hz];refine ⟨rfl,?_⟩;rw [List.take_length];rfl)
    | (obtain ⟨e1,e2⟩:=nJ hrd;rw [e1,e2];refine ⟨rfl,?_⟩;rw [List.take_length];rfl)
theorem mE {H:AH} {id aD:Nat} {s:RS} {most:Int} (hob:H id=some (cK 125 aD s)) (hl:s.1.length<=9223372036854775806):PC Tryz.prog 29 [.pt id aD 0 0,int most] H (λy H'=>y=int (iA s most)/\H'=upd H id (some (cK 125 aD (gK s most)))):=by
  refine jZ (c:=_) Tryz.func29 rfl rfl ?_
  intro Q hret hnorm
  refine bR ?_
  refine cB ?_;intro K hK
  refine st rfl rfl rfl (eO rfl rfl) ?_
  refine bT (hK _ ?_);clear hK K
  refine bR ?_
  refine cB ?_;intro K hK
  refine st rfl rfl rfl (bM rfl rfl) ?_
  refine se rfl rfl rfl (aQ rfl rfl (.cons rfl .nil) eD (eB hob hl)) ?_
  rintro _ _ ⟨rfl,rfl⟩
  refine st rfl rfl rfl (eO rfl rfl) ?_
  refine bT (hK _ ?_);clear hK K
  refine bR ?_
  refine bR ?_
  refine cB ?_;intro K hK
  refine st rfl rfl rfl (bM rfl rfl) ?_
  refine st rfl rfl rfl (oC rfl rfl rfl) ?_
  refine st rfl rfl rfl (bM rfl rfl) ?_
  refine CZ 10 rfl ?_ ?_
  · intro g10
    have hcnd:dG s<0\/most<dG s:=by omega
    refine sk rfl rfl rfl ?_
    refine sk rfl rfl rfl ?_
    refine sk rfl rfl rfl ?_
    refine st rfl rfl rfl (pV rfl rfl (λ_=>rfl) (λ_=>rfl) rfl) ?_
    refine bT (hK _ ?_);clear hK K
    refine yJ rfl ?_
    refine bR ?_
    refine cB ?_;intro K hK
    refine st rfl rfl rfl (bM rfl rfl) ?_
    refine se rfl rfl rfl (aQ rfl rfl (.cons rfl .nil) vT (wE (upd_same _ _ _))) ?_
    rintro _ _ rfl
    refine bT (hK _ ?_);clear hK K
    refine bR ?_
    refine cB ?_;intro K hK
    refine st rfl rfl rfl (eO rfl rfl) ?_
    refine bT (hK _ ?_);clear hK K
    refine iZ (hret _ _ _ (.tmp rfl .nil) (λ_ _ h=>h) ?_)
    refine ⟨?_,?_⟩
    · unfold iA;first | (rw [if_pos hcnd];try rfl) | (rw [if_neg hcnd];try rfl)
    · unfold gK;first | (rw [if_pos hcnd];exact CU _ _ _ _) | (rw [if_neg hcnd];try rfl)
  · intro g10
    refine st rfl rfl rfl (bM rfl rfl) ?_
    refine st rfl rfl rfl (bM rfl rfl) ?_
    refine st rfl rfl rfl (uX rfl rfl rfl) ?_
    refine st rfl rfl rfl (pV rfl rfl (λ_=>rfl) (λ_=>rfl) rfl) ?_
    refine bT (hK _ ?_);clear hK K
    refine nV rfl ?_ ?_
    · intro h14
      have hcnd:dG s<0\/most<dG s:=by omega
      refine bR ?_
      refine cB ?_;intro K hK
      refine st rfl rfl rfl (bM rfl rfl) ?_
      refine se rfl rfl rfl (aQ rfl rfl (.cons rfl .nil) vT (wE (upd_same _ _ _))) ?_
      rintro _ _ rfl
      refine bT (hK _ ?_);clear hK K
      refine bR ?_
      refine cB ?_;intro K hK
      refine st rfl rfl rfl (eO rfl rfl) ?_
      refine bT (hK _ ?_);clear hK K
      refine iZ (hret _ _ _ (.tmp rfl .nil) (λ_ _ h=>h) ?_)
      refine ⟨?_,?_⟩
      · unfold iA;first | (rw [if_pos hcnd];try rfl) | (rw [if_neg hcnd];try rfl)
      · unfold gK;first | (rw [if_pos hcnd];exact CU _ _ _ _) | (rw [if_neg hcnd];try rfl)
    · intro h14
      have hcnd:¬ (dG s<0\/most<dG s):=by omega
      refine kE ?_
      refine bR ?_
      refine cB ?_;intro K hK
      refine st rfl rfl rfl (bM rfl rfl) ?_
      refine st rfl rfl rfl (eO rfl rfl) ?_
      refine bT (hK _ ?_);clear hK K
      refine iZ (hret _ _ _ (.tmp rfl .nil) (λ_ _ h=>h) ?_)
      refine ⟨?_,?_⟩
      · unfold iA;first | (rw [if_pos hcnd];try rfl) | (rw [if_neg hcnd];try rfl)
      · unfold gK;first | (rw [if_pos hcnd];exact CU _ _ _ _) | (rw [if_neg hcnd];try rfl)
theorem lH {H:AH} {id aD:Nat} {s:RS} (hob:H id=some (cK 125 aD s)):PC Tryz.prog 32 [.pt id aD 0 0] H (λy H'=>y=aA s.2/\H'=H):=by
  refine jZ (c:=_) Tryz.func32 rfl rfl ?_
  intro Q hret hnorm
  refine bR ?_
  refine cB ?_;intro K hK
  refine st rfl rfl rfl (eO rfl rfl) ?_
  refine bT (hK _ ?_);clear hK K
  refine bR ?_
  refine cB ?_;intro K hK
  refine st rfl rfl rfl (bM rfl rfl) ?_
  refine st rfl rfl rfl (bK rfl rfl (by first | exact .pp _ | exact .pt (rfl) rfl rfl | exact .pt (hob) rfl rfl | exact .pt (upd_same _ _ _) rfl rfl)) ?_
  refine st rfl rfl rfl (dX rfl KX rfl (by first | exact .pp _ | exact .pt (rfl) rfl rfl | exact .pt (hob) rfl rfl | exact .pt (upd_same _ _ _) rfl rfl) (by first | exact .pt _ _ _ _ _ | exact .pp _ _)) ?_
  refine st rfl rfl rfl (fG rfl uH rfl (by first | exact .pp _ | exact .pt (rfl) rfl rfl | exact .pt (hob) rfl rfl | exact .pt (upd_same _ _ _) rfl rfl) rfl) ?_
  refine st rfl rfl rfl (eO rfl rfl) ?_
  refine bT (hK _ ?_);clear hK K
  refine iZ (hret _ _ _ (.tmp rfl .nil) (λ_ _ h=>h) ?_)
  exact ⟨rfl,rfl⟩
theorem J8 {H:AH} {id aD:Nat} {s:RS} (hob:H id=some (cK 125 aD s)):PC Tryz.prog 33 [.pt id aD 0 0] H (λy H'=>y=int s.1.length/\H'=H):=by
  refine jZ (c:=_) Tryz.func33 rfl rfl ?_
  intro Q hret hnorm
  refine bR ?_
  refine cB ?_;intro K hK
  refine st rfl rfl rfl (eO rfl rfl) ?_
  refine bT (hK _ ?_);clear hK K
  refine bR ?_
  refine cB ?_;intro K hK
  refine st rfl rfl rfl (bM rfl rfl) ?_
  refine st rfl rfl rfl (bK rfl rfl (by first | exact .pp _ | exact .pt (rfl) rfl rfl | exact .pt (hob) rfl rfl | exact .pt (upd_same _ _ _) rfl rfl)) ?_
  refine st rfl rfl rfl (dX rfl o8 rfl (by first | exact .pp _ | exact .pt (rfl) rfl rfl | exact .pt (hob) rfl rfl | exact .pt (upd_same _ _ _) rfl rfl) (by first | exact .pt _ _ _ _ _ | exact .pp _ _)) ?_
  refine st rfl rfl rfl (fG rfl pI rfl (by first | exact .pp _ | exact .pt (rfl) rfl rfl | exact .pt (hob) rfl rfl | exact .pt (upd_same _ _ _) rfl rfl) rfl) ?_
  refine st rfl rfl rfl (nX rfl Tryz.underlying9 rfl) ?_
  refine st rfl rfl rfl (eO rfl rfl) ?_
  refine bT (hK _ ?_);clear hK K
  refine iZ (hret _ _ _ (.tmp rfl .nil) (λ_ _ h=>h) ?_)
  exact ⟨rfl,rfl⟩
theorem aKR {H:AH} {id aD bx bv:Nat} {s:RS} (hb1:H bx=some ⟨75,1,true,true,bv,[[.pt id aD 0 0]]⟩) (hob:H id=some (cK 125 aD s)):PC Tryz.prog 57 [.pt bx bv 0 0] H (λy H'=>y=aA (!s.2)/\H'=H):=by
  refine jZ (c:=_) Tryz.func57 rfl rfl ?_
  intro Q hret hnorm
  refine bR ?_
  refine cB ?_;intro K hK
  refine st rfl rfl rfl (eO rfl rfl) ?_
  refine bT (hK _ ?_);clear hK K
  refine bR ?_
  refine cB ?_;intro K hK
  refine st rfl rfl rfl (fG rfl uK rfl (by first | exact .pp _ | exact .pt (rfl) rfl rfl | exact .pt (hob) rfl rfl | exact .pt (upd_same _ _ _) rfl rfl | exact .pt (hb1) rfl rfl | exact .pt ((upd_ne _ _ hne).trans hob) rfl rfl | exact .pt ((upd_ne _ _ hne1).trans hb1) rfl rfl | exact .pt (hb2) rfl rfl | exact .pt (hb3) rfl rfl) rfl) ?_
  refine st rfl rfl rfl (bK rfl rfl (by first | exact .pp _ | exact .pt (rfl) rfl rfl | exact .pt (hob) rfl rfl | exact .pt (upd_same _ _ _) rfl rfl | exact .pt (hb1) rfl rfl | exact .pt ((upd_ne _ _ hne).trans hob) rfl rfl | exact .pt ((upd_ne _ _ hne1).trans hb1) rfl rfl | exact .pt (hb2) rfl rfl | exact .pt (hb3) rfl rfl)) ?_
  refine st rfl rfl rfl (dX rfl KX rfl (by first | exact .pp _ | exact .pt (rfl) rfl rfl | exact .pt (hob) rfl rfl | exact .pt (upd_same _ _ _) rfl rfl | exact .pt (hb1) rfl rfl | exact .pt ((upd_ne _ _ hne).trans hob) rfl rfl | exact .pt ((upd_ne _ _ hne1).trans hb1) rfl rfl | exact .pt (hb2) rfl rfl | exact .pt (hb3) rfl rfl) (by first | exact .pt _ _ _ _ _ | exact .pp _ _)) ?_
  refine st rfl rfl rfl (fG rfl uH rfl (by first | exact .pp _ | exact .pt (rfl) rfl rfl | exact .pt (hob) rfl rfl | exact .pt (upd_same _ _ _) rfl rfl | exact .pt (hb1) rfl rfl | exact .pt ((upd_ne _ _ hne).trans hob) rfl rfl | exact .pt ((upd_ne _ _ hne1).trans hb1) rfl rfl | exact .pt (hb2) rfl rfl | exact .pt (hb3) rfl rfl) rfl) ?_
  refine st rfl rfl rfl (EA rfl rfl rfl) ?_
  refine st rfl rfl rfl (eO rfl rfl) ?_
  refine bT (hK _ ?_);clear hK K
  refine iZ (hret _ _ _ (.tmp rfl .nil) (λ_ _ h=>h) ?_)
  exact ⟨rfl,rfl⟩
theorem zF {H:AH} {id aD:Nat} {s:RS} {most:Int} (hob:H id=some (cK 125 aD s)) (hl:s.1.length<=1099511627776) (hs:pZ s) (hf2:H 30002=none) (hf5:H 30005=none):PC Tryz.prog 30 [.pt id aD 0 0,int most] H (λy H'=>y=ints (pN s most)/\H'=upd H id (some (cK 125 aD (qD s most)))):=by
  have n2:id≠30002:=λe=>by rw [e,hf2] at hob;cases hob
  have n5:id≠30005:=λe=>by rw [e,hf5] at hob;cases hob
  have hs1:=XO hs most
  have hc0:=XG s most
  have hcl:=aL6 s most
  have n25:30002≠30005:=by decide
  have hb5:∀ v2,upd H 30002 (some (⟨75,1,true,true,v2,[[.pt id aD 0 0]]⟩:aW)) 30005=none:=λv2=>(upd_ne _ _ (Ne.symm n25)).trans hf5
  refine jZ (c:=_) Tryz.func30 rfl rfl ?_
  intro Q hret hnorm
  refine bR ?_
  refine cB ?_;intro K hK
  refine se rfl rfl rfl (BD 30002 .any rfl rfl rfl) ?_
  rintro _ _ ⟨v2,-,rfl,rfl⟩
  refine st rfl rfl rfl (eO rfl rfl) ?_
  refine bT (hK _ ?_);clear hK K
  refine bR ?_
  refine cB ?_;intro K hK
  refine st rfl rfl rfl (eO rfl rfl) ?_
  refine bT (hK _ ?_);clear hK K
  refine bR ?_
  refine cB ?_;intro K hK
  refine st rfl rfl rfl (fG rfl uK rfl (by first | exact .pp _ | exact .pt (rfl) rfl rfl | exact .pt (upd_same _ _ _) rfl rfl | exact .pt ((upd_ne _ _ n2).trans hob) rfl rfl | exact .pt (hbx) rfl rfl | exact .pt (bU (Ne.symm n5) rfl) rfl rfl) rfl) ?_
  refine st rfl rfl rfl (JC rfl (.cons rfl .nil) .nil) ?_
  refine st rfl rfl rfl (JC rfl .nil (.cons rfl .nil)) ?_
  refine st rfl rfl rfl (eO rfl rfl) ?_
  refine st rfl rfl rfl (eO rfl rfl) ?_
  refine bT (hK _ ?_);clear hK K
  refine bR ?_
  refine bR ?_
  refine cB ?_;intro K hK
  have hbx:=upd_same H 30002 (some (⟨75,1,true,true,v2,[[.pt id aD 0 0]]⟩:aW))
  refine st rfl rfl rfl (fG rfl uK rfl (by first | exact .pp _ | exact .pt (rfl) rfl rfl | exact .pt (upd_same _ _ _) rfl rfl | exact .pt ((upd_ne _ _ n2).trans hob) rfl rfl | exact .pt (hbx) rfl rfl | exact .pt (bU (Ne.symm n5) rfl) rfl rfl) rfl) ?_
  refine st rfl rfl rfl (bM rfl rfl) ?_
  refine se rfl rfl rfl (aQ rfl rfl (.cons rfl (.cons rfl .nil)) l7 (mE ((upd_ne _ _ n2).trans hob) (by omega))) ?_
  rintro _ _ ⟨rfl,rfl⟩
  refine st rfl rfl rfl (bM rfl rfl) ?_
  refine bT (hK _ ?_);clear hK K
  refine pU ?_;intro Q1 bn1 bx1 br1 bo1
  refine sH 5 30005 3 1 rfl ((upd_ne _ _ (Ne.symm n5)).trans (hb5 v2)) ?_
  intro v5
  refine yQ (ι:=Nat) (κ:=Nat) (λk lv=>⟨kn [(6,.fn (.func 36) [.pt id aD 0 0] []),(7,.fn (.func 57) [] [.pt 30002 v2 0 0]),(14,int (iA s most)),(15,int k),(5,.sl 30005 lv 0 k)],upd (upd (upd H 30002 (some ⟨75,1,true,true,v2,[[.pt id aD 0 0]]⟩)) id (some (cK 125 aD (nums k (gK s most)).2))) 30005 (some (⟨3,1,true,true,lv,(nums k (gK s most)).1.map λn=>[int n]⟩:aW))⟩) (λk lv=>k<=(iA s most).toNat/\(0<k->(nums k (gK s most)).2.2=false)) (λk lv=>(iA s most).toNat-k) 0 v5 ⟨Nat.zero_le _,λh=>absurd h (by omega)⟩ (pF ⟨rfl,rfl,rfl,rfl,rfl,trivial⟩) ?_
  rintro k lv ⟨hk,hnb⟩ Q2 ln2 lx2 lr2
  refine bR ?_
  refine cB ?_;intro K hK
  refine st rfl rfl rfl (oC rfl rfl rfl) ?_
  refine bT (hK _ ?_);clear hK K
  refine bR ?_
  refine nV rfl ?_ ?_
  · intro h16
    have hklt:k<(iA s most).toNat:=by omega
    have hku:(nums k (gK s most)).2.1.length<=s.1.length:=Nat.le_trans (R9 _ _) hcl
    have hks:k<=s.1.length:=by
      rcases Nat.eq_zero_or_pos k with h | h
      · omega
      · have:=SF k _ hs1 (hnb h);omega
    have hlen:(nums k (gK s most)).1.length=k:=G8 _ _
    refine kE ?_
    refine bR ?_
    refine pU ?_;intro Q3 bn3 bx3 br3 bo3
    refine bR ?_
    refine cB ?_;intro K hK
    refine st rfl rfl rfl (bM rfl rfl) ?_
    refine se rfl rfl rfl (aQ rfl rfl .nil eD (eB ((upd_ne _ _ n5).trans (upd_same _ _ _)) (by omega))) ?_
    rintro _ _ ⟨rfl,rfl⟩
    refine st rfl rfl rfl (eO rfl rfl) ?_
    refine bT (hK _ ?_);clear hK K
    refine bR ?_
    refine bR ?_
    refine cB ?_;intro K hK
    refine st rfl rfl rfl (bM rfl rfl) ?_
    refine se rfl rfl rfl (aQ rfl rfl .nil aIJ (aKR (by exact bU (Ne.symm n2) (bU (Ne.symm n2) (upd_same _ _ _))) (by exact upd_same _ _ _))) ?_
    rintro _ _ ⟨rfl,rfl⟩
    refine st rfl rfl rfl (EA (r:=(nums (k+1) (gK s most)).2.2) rfl rfl (by simp [nums])) ?_
    refine bT (hK _ ?_);clear hK K
    refine yL rfl ?_ ?_
    · intro h21
      have hbe:=VO hs1 h21 (show k+1<=(iA s most).toNat by omega)
      have hbk:=VO hs1 h21 (Nat.le_refl _)
      have hlv:pN s most=[]:=by unfold pN;rw [hbe];rfl
      have hlr:qD s most=dL (nums k (gK s most)).2:=hbe.trans hbk.symm
      refine bR ?_
      refine cB ?_;intro K hK
      refine st rfl rfl rfl (eO rfl rfl) ?_
      refine bT (hK _ ?_);clear hK K
      refine JD 4 (ints []) rfl (.nil 1) ?_
      refine iZ (br3 _ (lr2 _ (br1 _ (hret _ _ (upd H id (some (cK 125 aD (qD s most)))) (.tmp rfl .nil) (λt v h=>by
  by_cases h0:t=id
  · subst h0;rw [upd_same] at h;rw [<- h,hlr];first | exact upd_same _ _ _ | exact bU n5 (bU n5 (upd_same _ _ _))
  · rw [upd_ne _ _ h0] at h
    have h2:t≠30002:=λe=>by rw [e,hf2] at h;cases h
    have h5:t≠30005:=λe=>by rw [e,hf5] at h;cases h
    first
    | exact bU h0 (bU h5 (bU h0 (bU h2 h)))
    | exact bU h5 (bU h5 (bU h0 (bU h2 h)))) ?_))))
      exact ⟨by rw [hlv];rfl,rfl⟩
    · intro h21
      refine kE ?_
      refine cB ?_;intro K hK
      refine st rfl rfl rfl (bM rfl rfl) ?_
      refine st rfl rfl rfl (bM rfl rfl) ?_
      refine st rfl rfl rfl (dY (ps:=[(0,_)]) (rows:=[[int (dG (nums k (gK s most)).2)]]) rfl Tryz.underlying23 kR (.cons rfl .nil) rfl rfl rfl rfl) ?_
      refine se rfl rfl rfl (tT .any rfl Tryz.underlying23 kR oP rfl rfl (by first | exact rfl | exact upd_same _ _ _ | exact (upd_ne _ _ n2).trans hob | exact hbx | exact bU (Ne.symm n5) rfl) rfl rfl rfl rfl rfl (by rw [List.length_map];exact hlen) (.refl _) (by intro r hr;simp at hr;subst hr;rfl) (by simp only [List.length_cons,List.length_nil];omega) (by simp only [List.length_cons,List.length_nil];omega)) ?_
      rintro _ _ ⟨v25,-,rfl,rfl⟩
      refine st rfl rfl rfl (eO rfl rfl) ?_
      refine bT (hK _ ?_);clear hK K
      refine lS (bn3 _ ?_)
      refine cB ?_;intro K hK
      refine st rfl rfl rfl (rD rfl rfl rfl (wrap64 (by omega))) ?_
      refine st rfl rfl rfl (bM rfl rfl) ?_
      refine bT (hK _ ?_);clear hK K
      refine lS (ln2 _ ⟨k+1,v25,⟨by omega,λ_=>h21⟩,by omega,CV (KN.le ⟨rfl,rfl,rfl,rfl,rfl,trivial⟩) (λt v h=>?_)⟩)
      by_cases h0:t=30005
      · subst h0;rw [upd_same] at h;rw [<- h];refine (upd_same _ _ _).trans ?_;simp [nums]
      · rw [upd_ne _ _ h0] at h;refine (upd_ne _ _ h0).trans ?_
        by_cases h1:t=id
        · subst h1;rw [upd_same] at h;rw [<- h];exact upd_same _ _ _
        · rw [upd_ne _ _ h1] at h;refine (upd_ne _ _ h1).trans ((upd_ne _ _ h0).trans ((upd_ne _ _ h1).trans h))
  · intro h16
    have hke:k=(iA s most).toNat:=by omega
    subst hke
    have hlv:pN s most=(nums (iA s most).toNat (gK s most)).1:=by
      unfold pN
      rcases Nat.eq_zero_or_pos (iA s most).toNat with h0 | h0
      · rw [h0];show (if (gK s most).2=true then [] else [])=[];cases (gK s most).2 <;> rfl
      · rw [hnb h0];rfl
    have hlr:qD s most=(nums (iA s most).toNat (gK s most)).2:=rfl
    refine oV (lx2 _ _ (bx1 _ ?_))
    refine bR ?_
    refine RE 30005 (upd_same _ _ _) ?_
    refine JD 5 (ints (pN s most)) rfl (gB (upd_same _ _ _) rfl rfl rfl (by rw [hlv]) (by rw [hlv,G8])) ?_
    refine cB ?_;intro K hK
    refine st rfl rfl rfl (bM rfl rfl) ?_
    refine st rfl rfl rfl (eO rfl rfl) ?_
    refine bT (hK _ ?_);clear hK K
    refine iZ (hret _ _ (upd H id (some (cK 125 aD (qD s most)))) (.tmp rfl .nil) (λt v h=>by
  by_cases h0:t=id
  · subst h0;rw [upd_same] at h;rw [<- h,hlr];first | exact upd_same _ _ _ | exact bU n5 (bU n5 (upd_same _ _ _))
  · rw [upd_ne _ _ h0] at h
    have h2:t≠30002:=λe=>by rw [e,hf2] at h;cases h
    have h5:t≠30005:=λe=>by rw [e,hf5] at h;cases h
    first
    | exact bU h0 (bU h5 (bU h0 (bU h2 h)))
    | exact bU h5 (bU h5 (bU h0 (bU h2 h)))) ?_)
    exact ⟨rfl,rfl⟩
theorem TU {H:AH} {id aD ib:Nat} (hob:H id=some (lZ 92 id aD ib none)):PC Tryz.prog 76 [.pt id aD 0 0] H (λ_ H'=>H'=upd H id (some ⟨92,2,true,true,aD,[[.pt id aD 0 0,.sc (.slice none 0 0)]]⟩)):=by
  refine jZ (c:=_) Tryz.func76 rfl rfl ?_
  intro Q hret hnorm
  refine bR ?_
  refine cB ?_;intro K hK
  refine st rfl rfl rfl (bM rfl rfl) ?_
  refine st rfl rfl rfl (bK rfl rfl (by first | exact .pp _ | exact .pt (rfl) rfl rfl | exact .pt (hob) rfl rfl | exact .pt (upd_same _ _ _) rfl rfl)) ?_
  refine st rfl rfl rfl (dX rfl sZ rfl (by first | exact .pp _ | exact .pt (rfl) rfl rfl | exact .pt (hob) rfl rfl | exact .pt (upd_same _ _ _) rfl rfl) (by first | exact .pt _ _ _ _ _ | exact .pp _ _)) ?_
  refine st rfl rfl rfl (fG rfl tX rfl (by first | exact .pp _ | exact .pt (rfl) rfl rfl | exact .pt (hob) rfl rfl | exact .pt (upd_same _ _ _) rfl rfl) rfl) ?_
  refine st rfl rfl rfl (eY rfl Tryz.underlying90 rfl rfl) ?_
  refine bT (hK _ ?_);clear hK K
  refine yJ rfl ?_
  refine cB ?_;intro K hK
  refine st rfl rfl rfl (bM rfl rfl) ?_
  refine st rfl rfl rfl (bM rfl rfl) ?_
  refine st rfl rfl rfl (LZ rfl Tryz.underlying90 Tryz.underlying198 JK rfl hob rfl rfl Nat.zero_lt_two) ?_
  refine st rfl rfl rfl (PG rfl Tryz.func115 rfl rfl (by kernel_rfl) (by kernel_rfl) rfl) ?_
  refine st rfl rfl rfl (TX rfl Tryz.underlying198 Tryz.underlying90 JK rfl hob rfl rfl rfl (aC6 O7) O7 Nat.zero_lt_two) ?_
  refine st rfl rfl rfl (bK rfl rfl (by first | exact .pp _ | exact .pt (rfl) rfl rfl | exact .pt (hob) rfl rfl | exact .pt (upd_same _ _ _) rfl rfl)) ?_
  refine st rfl rfl rfl (dX rfl sZ rfl (by first | exact .pp _ | exact .pt (rfl) rfl rfl | exact .pt (hob) rfl rfl | exact .pt (upd_same _ _ _) rfl rfl) (by first | exact .pt _ _ _ _ _ | exact .pp _ _)) ?_
  refine nS rfl rfl (dZ rfl tX rfl rfl (by first | exact rfl | exact hob | exact upd_same _ _ _) rfl rfl rfl rfl rfl rfl) ?_
  refine bT (hK _ ?_);clear hK K
  refine lS (hnorm _ _ _ .nil (λ_ _ h=>h) ?_)
  exact rfl
theorem VN {H:AH} {id aD ib:Nat} {o:Nat×List UInt8} (hob:H id=some (lZ 92 id aD ib (some o))):PC Tryz.prog 76 [.pt id aD 0 0] H (λ_ H'=>H'=H):=by
  refine jZ (c:=_) Tryz.func76 rfl rfl ?_
  intro Q hret hnorm
  refine bR ?_
  refine cB ?_;intro K hK
  refine st rfl rfl rfl (bM rfl rfl) ?_
  refine st rfl rfl rfl (bK rfl rfl (by first | exact .pp _ | exact .pt (rfl) rfl rfl | exact .pt (hob) rfl rfl | exact .pt (upd_same _ _ _) rfl rfl)) ?_
  refine st rfl rfl rfl (dX rfl sZ rfl (by first | exact .pp _ | exact .pt (rfl) rfl rfl | exact .pt (hob) rfl rfl | exact .pt (upd_same _ _ _) rfl rfl) (by first | exact .pt _ _ _ _ _ | exact .pp _ _)) ?_
  refine st rfl rfl rfl (fG rfl tX rfl (by first | exact .pp _ | exact .pt (rfl) rfl rfl | exact .pt (hob) rfl rfl | exact .pt (upd_same _ _ _) rfl rfl) rfl) ?_
  refine st rfl rfl rfl (gM rfl Tryz.underlying90 rfl (.pt hob rfl rfl) rfl) ?_
  refine bT (hK _ ?_);clear hK K
  refine rA rfl ?_
  refine bR ?_
  refine cB ?_;intro K hK
  refine st rfl rfl rfl (bM rfl rfl) ?_
  refine st rfl rfl rfl (bK rfl rfl (by first | exact .pp _ | exact .pt (rfl) rfl rfl | exact .pt (hob) rfl rfl | exact .pt (upd_same _ _ _) rfl rfl)) ?_
  refine st rfl rfl rfl (dX rfl sZ rfl (by first | exact .pp _ | exact .pt (rfl) rfl rfl | exact .pt (hob) rfl rfl | exact .pt (upd_same _ _ _) rfl rfl) (by first | exact .pt _ _ _ _ _ | exact .pp _ _)) ?_
  refine st rfl rfl rfl (fG rfl tX rfl (by first | exact .pp _ | exact .pt (rfl) rfl rfl | exact .pt (hob) rfl rfl | exact .pt (upd_same _ _ _) rfl rfl) rfl) ?_
  refine st rfl rfl rfl (bM rfl rfl) ?_
  refine st rfl rfl rfl (O5 rfl Tryz.underlying90 JK rfl rfl hob rfl (by simp)) ?_
  refine bT (hK _ ?_);clear hK K
  refine rA rfl ?_
  refine kE ?_
  refine lS (hnorm _ _ _ .nil (λ_ _ h=>h) ?_)
  exact rfl
theorem aHC {H:AH} {id aD ib:Nat} {c:UInt8} (hd:id≠ib) (hob:H id=some (lZ 92 id aD ib none)) (hib:H ib=none):PC Tryz.prog 113 [.pt id aD 0 0,.sc (.int .u8 (c.toNat:Nat))] H (λy H'=>y=.sc .nilIface/\∃ vb',H'=upd (upd H ib (some (dV 5 vb' ([c])))) id (some (lZ 92 id aD ib (some (vb',[c]))))):=by
  refine jZ (c:=_) Tryz.func113 rfl rfl ?_
  intro Q hret hnorm
  refine bR ?_
  refine cB ?_;intro K hK
  refine st rfl rfl rfl (eO rfl rfl) ?_
  refine bT (hK _ ?_);clear hK K
  refine bR ?_
  refine cB ?_;intro K hK
  refine st rfl rfl rfl (bM rfl rfl) ?_
  refine se rfl rfl rfl (aQ rfl rfl (.cons rfl .nil) w9 (TU hob)) ?_
  rintro _ _ rfl
  refine bT (hK _ ?_);clear hK K
  refine bR ?_
  refine cB ?_;intro K hK
  refine st rfl rfl rfl (bM rfl rfl) ?_
  refine st rfl rfl rfl (bM rfl rfl) ?_
  refine st rfl rfl rfl (bK rfl rfl (by first | exact .pp _ | exact .pt (rfl) rfl rfl | exact .pt (hob) rfl rfl | exact .pt (upd_same _ _ _) rfl rfl | exact .pt (bU hd (bU hd (upd_same _ _ _))) rfl rfl | exact .pt (bU hd hob) rfl rfl | exact .pt (hbuf) rfl rfl)) ?_
  refine st rfl rfl rfl (dX rfl nK rfl (by first | exact .pp _ | exact .pt (rfl) rfl rfl | exact .pt (hob) rfl rfl | exact .pt (upd_same _ _ _) rfl rfl | exact .pt (bU hd (bU hd (upd_same _ _ _))) rfl rfl | exact .pt (bU hd hob) rfl rfl | exact .pt (hbuf) rfl rfl) (by first | exact .pt _ _ _ _ _ | exact .pp _ _)) ?_
  refine st rfl rfl rfl (fG rfl nI rfl (by first | exact .pp _ | exact .pt (rfl) rfl rfl | exact .pt (hob) rfl rfl | exact .pt (upd_same _ _ _) rfl rfl | exact .pt (bU hd (bU hd (upd_same _ _ _))) rfl rfl | exact .pt (bU hd hob) rfl rfl | exact .pt (hbuf) rfl rfl) rfl) ?_
  refine K5 11 ib 5 1 rfl ((upd_ne _ _ (Ne.symm hd)).trans hib) ?_;intro vn
  refine st rfl rfl rfl (bM rfl rfl) ?_
  refine st rfl rfl rfl (dY (ps:=[(0,_)]) (rows:=[[.sc (.int .u8 (c.toNat:Nat))]]) rfl Tryz.underlying37 lT (.cons rfl .nil) rfl rfl rfl rfl) ?_
  refine se rfl rfl rfl (tT .any rfl Tryz.underlying37 lT pM rfl rfl (by first | exact rfl | exact hob | exact upd_same _ _ _ | exact bU hd (bU hd (upd_same _ _ _)) | exact bU hd hob | exact hbuf) rfl rfl rfl rfl rfl rfl (.refl _) (by intro r hr;simp at hr;subst hr;rfl) (by simp only [List.length_cons,List.length_nil];omega) (by simp only [List.length_cons,List.length_nil];omega)) ?_
  rintro _ _ ⟨v14,-,rfl,rfl⟩
  refine st rfl rfl rfl (bK rfl rfl (by first | exact .pp _ | exact .pt (rfl) rfl rfl | exact .pt (hob) rfl rfl | exact .pt (upd_same _ _ _) rfl rfl | exact .pt (bU hd (bU hd (upd_same _ _ _))) rfl rfl | exact .pt (bU hd hob) rfl rfl | exact .pt (hbuf) rfl rfl)) ?_
  refine st rfl rfl rfl (dX rfl nK rfl (by first | exact .pp _ | exact .pt (rfl) rfl rfl | exact .pt (hob) rfl rfl | exact .pt (upd_same _ _ _) rfl rfl | exact .pt (bU hd (bU hd (upd_same _ _ _))) rfl rfl | exact .pt (bU hd hob) rfl rfl | exact .pt (hbuf) rfl rfl) (by first | exact .pt _ _ _ _ _ | exact .pp _ _)) ?_
  refine nS rfl rfl (dZ rfl nI rfl rfl (by first | exact rfl | exact hob | exact upd_same _ _ _ | exact bU hd (bU hd (upd_same _ _ _)) | exact bU hd hob | exact hbuf) rfl rfl rfl rfl rfl rfl) ?_
  refine bT (hK _ ?_);clear hK K
  refine bR ?_
  refine cB ?_;intro K hK
  refine st rfl rfl rfl (eO rfl rfl) ?_
  refine bT (hK _ ?_);clear hK K
  refine iZ (hret _ _ (upd (upd H ib (some (dV 5 v14 ([c])))) id (some (lZ 92 id aD ib (some (v14,[c]))))) (.tmp rfl .nil) (λt v h=>by rw [<- h];simp only [qT];by_cases h0:t=id <;> by_cases h1:t=ib <;> simp_all [bN] <;> rfl) ?_)
  exact ⟨rfl,_,rfl⟩
theorem aI4 {H:AH} {id aD ib:Nat} {c:UInt8} {vb:Nat} {l:List UInt8} (hd:id≠ib) (hob:H id=some (lZ 92 id aD ib (some (vb,l)))) (hbuf:H ib=some (dV 5 vb l)) (hl:l.length<=1099511627776):PC Tryz.prog 113 [.pt id aD 0 0,.sc (.int .u8 (c.toNat:Nat))] H (λy H'=>y=.sc .nilIface/\∃ vb',H'=upd (upd H ib (some (dV 5 vb' (l++[c])))) id (some (lZ 92 id aD ib (some (vb',l++[c]))))):=by
  refine jZ (c:=_) Tryz.func113 rfl rfl ?_
  intro Q hret hnorm
  refine bR ?_
  refine cB ?_;intro K hK
  refine st rfl rfl rfl (eO rfl rfl) ?_
  refine bT (hK _ ?_);clear hK K
  refine bR ?_
  refine cB ?_;intro K hK
  refine st rfl rfl rfl (bM rfl rfl) ?_
  refine se rfl rfl rfl (aQ rfl rfl (.cons rfl .nil) w9 (VN hob)) ?_
  rintro _ _ he;obtain rfl:=he.symm
  refine bT (hK _ ?_);clear hK K
  refine bR ?_
  refine cB ?_;intro K hK
  refine st rfl rfl rfl (bM rfl rfl) ?_
  refine st rfl rfl rfl (bM rfl rfl) ?_
  refine st rfl rfl rfl (bK rfl rfl (by first | exact .pp _ | exact .pt (rfl) rfl rfl | exact .pt (hob) rfl rfl | exact .pt (upd_same _ _ _) rfl rfl | exact .pt (bU hd (bU hd (upd_same _ _ _))) rfl rfl | exact .pt (bU hd hob) rfl rfl | exact .pt (hbuf) rfl rfl)) ?_
  refine st rfl rfl rfl (dX rfl nK rfl (by first | exact .pp _ | exact .pt (rfl) rfl rfl | exact .pt (hob) rfl rfl | exact .pt (upd_same _ _ _) rfl rfl | exact .pt (bU hd (bU hd (upd_same _ _ _))) rfl rfl | exact .pt (bU hd hob) rfl rfl | exact .pt (hbuf) rfl rfl) (by first | exact .pt _ _ _ _ _ | exact .pp _ _)) ?_
  refine st rfl rfl rfl (fG rfl nI rfl (by first | exact .pp _ | exact .pt (rfl) rfl rfl | exact .pt (hob) rfl rfl | exact .pt (upd_same _ _ _) rfl rfl | exact .pt (bU hd (bU hd (upd_same _ _ _))) rfl rfl | exact .pt (bU hd hob) rfl rfl | exact .pt (hbuf) rfl rfl) rfl) ?_
  refine st rfl rfl rfl (bM rfl rfl) ?_
  refine st rfl rfl rfl (dY (ps:=[(0,_)]) (rows:=[[.sc (.int .u8 (c.toNat:Nat))]]) rfl Tryz.underlying37 lT (.cons rfl .nil) rfl rfl rfl rfl) ?_
  refine se rfl rfl rfl (tT .any rfl Tryz.underlying37 lT pM rfl rfl (by first | exact rfl | exact hob | exact upd_same _ _ _ | exact bU hd (bU hd (upd_same _ _ _)) | exact bU hd hob | exact hbuf) rfl rfl rfl rfl rfl (yV l) (.refl _) (by intro r hr;simp at hr;subst hr;rfl) (by simp only [List.length_cons,List.length_nil];omega) (by simp only [List.length_cons,List.length_nil];omega)) ?_
  rintro _ _ ⟨v14,-,rfl,rfl⟩
  refine st rfl rfl rfl (bK rfl rfl (by first | exact .pp _ | exact .pt (rfl) rfl rfl | exact .pt (hob) rfl rfl | exact .pt (upd_same _ _ _) rfl rfl | exact .pt (bU hd (bU hd (upd_same _ _ _))) rfl rfl | exact .pt (bU hd hob) rfl rfl | exact .pt (hbuf) rfl rfl)) ?_
  refine st rfl rfl rfl (dX rfl nK rfl (by first | exact .pp _ | exact .pt (rfl) rfl rfl | exact .pt (hob) rfl rfl | exact .pt (upd_same _ _ _) rfl rfl | exact .pt (bU hd (bU hd (upd_same _ _ _))) rfl rfl | exact .pt (bU hd hob) rfl rfl | exact .pt (hbuf) rfl rfl) (by first | exact .pt _ _ _ _ _ | exact .pp _ _)) ?_
  refine nS rfl rfl (dZ rfl nI rfl rfl (by first | exact rfl | exact hob | exact upd_same _ _ _ | exact bU hd (bU hd (upd_same _ _ _)) | exact bU hd hob | exact hbuf) rfl rfl rfl rfl rfl rfl) ?_
  refine bT (hK _ ?_);clear hK K
  refine bR ?_
  refine cB ?_;intro K hK
  refine st rfl rfl rfl (eO rfl rfl) ?_
  refine bT (hK _ ?_);clear hK K
  refine iZ (hret _ _ (upd (upd H ib (some (dV 5 v14 (l++[c])))) id (some (lZ 92 id aD ib (some (v14,l++[c]))))) (.tmp rfl .nil) (λt v h=>by rw [<- h];simp only [qT];by_cases h0:t=id <;> by_cases h1:t=ib <;> simp_all [bN] <;> rfl) ?_)
  exact ⟨rfl,_,rfl⟩
theorem MX {H:AH} {id aD ib:Nat} {t:List UInt8} (hd:id≠ib) (hob:H id=some (lZ 92 id aD ib none)) (hib:H ib=none) (ht:t.length<=1099511627776):PC Tryz.prog 42 [.pt id aD 0 0,str t] H (λy H'=>y=l8 [int t.length,.sc .nilIface]/\∃ vb',H'=upd (upd H ib (some (dV 5 vb' (t)))) id (some (lZ 92 id aD ib (some (vb',t))))):=by
  refine jZ (c:=_) Tryz.func42 rfl rfl ?_
  intro Q hret hnorm
  refine bR ?_
  refine cB ?_;intro K hK
  refine st rfl rfl rfl (eO rfl rfl) ?_
  refine st rfl rfl rfl (eO rfl rfl) ?_
  refine bT (hK _ ?_);clear hK K
  refine bR ?_
  refine cB ?_;intro K hK
  refine st rfl rfl rfl (bM rfl rfl) ?_
  refine se rfl rfl rfl (aQ rfl rfl (.cons rfl .nil) w9 (TU hob)) ?_
  rintro _ _ rfl
  refine bT (hK _ ?_);clear hK K
  refine bR ?_
  refine cB ?_;intro K hK
  refine st rfl rfl rfl (bM rfl rfl) ?_
  refine st rfl rfl rfl (bM rfl rfl) ?_
  refine st rfl rfl rfl (bK rfl rfl (by first | exact .pp _ | exact .pt (rfl) rfl rfl | exact .pt (hob) rfl rfl | exact .pt (upd_same _ _ _) rfl rfl | exact .pt (bU hd (bU hd (upd_same _ _ _))) rfl rfl | exact .pt (bU hd hob) rfl rfl | exact .pt (hbuf) rfl rfl)) ?_
  refine st rfl rfl rfl (dX rfl nK rfl (by first | exact .pp _ | exact .pt (rfl) rfl rfl | exact .pt (hob) rfl rfl | exact .pt (upd_same _ _ _) rfl rfl | exact .pt (bU hd (bU hd (upd_same _ _ _))) rfl rfl | exact .pt (bU hd hob) rfl rfl | exact .pt (hbuf) rfl rfl) (by first | exact .pt _ _ _ _ _ | exact .pp _ _)) ?_
  refine st rfl rfl rfl (fG rfl nI rfl (by first | exact .pp _ | exact .pt (rfl) rfl rfl | exact .pt (hob) rfl rfl | exact .pt (upd_same _ _ _) rfl rfl | exact .pt (bU hd (bU hd (upd_same _ _ _))) rfl rfl | exact .pt (bU hd hob) rfl rfl | exact .pt (hbuf) rfl rfl) rfl) ?_
  refine K5 12 ib 5 1 rfl ((upd_ne _ _ (Ne.symm hd)).trans hib) ?_;intro vn
  refine st rfl rfl rfl (bM rfl rfl) ?_
  refine se rfl rfl rfl (CQ (l:=[]) .any rfl Tryz.underlying37 Tryz.underlying9 lT pM rfl rfl (by first | exact rfl | exact hbuf | exact upd_same _ _ _) rfl rfl rfl rfl rfl rfl rfl (by show 0+t.length<=140737488355328;omega)) ?_
  rintro _ _ ⟨v14,-,rfl,rfl⟩
  refine st rfl rfl rfl (bK rfl rfl (by first | exact .pp _ | exact .pt (rfl) rfl rfl | exact .pt (hob) rfl rfl | exact .pt (upd_same _ _ _) rfl rfl | exact .pt (bU hd (bU hd (upd_same _ _ _))) rfl rfl | exact .pt (bU hd hob) rfl rfl | exact .pt (hbuf) rfl rfl)) ?_
  refine st rfl rfl rfl (dX rfl nK rfl (by first | exact .pp _ | exact .pt (rfl) rfl rfl | exact .pt (hob) rfl rfl | exact .pt (upd_same _ _ _) rfl rfl | exact .pt (bU hd (bU hd (upd_same _ _ _))) rfl rfl | exact .pt (bU hd hob) rfl rfl | exact .pt (hbuf) rfl rfl) (by first | exact .pt _ _ _ _ _ | exact .pp _ _)) ?_
  refine nS rfl rfl (dZ rfl nI rfl rfl (by first | exact rfl | exact hob | exact upd_same _ _ _ | exact bU hd (bU hd (upd_same _ _ _)) | exact bU hd hob | exact hbuf) rfl rfl rfl rfl rfl rfl) ?_
  refine bT (hK _ ?_);clear hK K
  refine bR ?_
  refine cB ?_;intro K hK
  refine st rfl rfl rfl (bM rfl rfl) ?_
  refine st rfl rfl rfl (nX rfl Tryz.underlying9 rfl) ?_
  refine st rfl rfl rfl (eO rfl rfl) ?_
  refine st rfl rfl rfl (eO rfl rfl) ?_
  refine bT (hK _ ?_);clear hK K
  refine iZ (hret _ _ (upd (upd H ib (some (dV 5 v14 (t)))) id (some (lZ 92 id aD ib (some (v14,t))))) (.tmp rfl (.tmp rfl .nil)) (λt v h=>by rw [<- h];simp only [qT];by_cases h0:t=id <;> by_cases h1:t=ib <;> simp_all [bN] <;> rfl) ?_)
  exact ⟨rfl,_,rfl⟩
theorem VP {H:AH} {id aD ib:Nat} {t:List UInt8} {vb:Nat} {l:List UInt8} (hd:id≠ib) (hob:H id=some (lZ 92 id aD ib (some (vb,l)))) (hbuf:H ib=some (dV 5 vb l)) (hl:l.length<=1099511627776) (ht:t.length<=1099511627776):PC Tryz.prog 42 [.pt id aD 0 0,str t] H (λy H'=>y=l8 [int t.length,.sc .nilIface]/\∃ vb',H'=upd (upd H ib (some (dV 5 vb' (l++t)))) id (some (lZ 92 id aD ib (some (vb',l++t))))):=by
  refine jZ (c:=_) Tryz.func42 rfl rfl ?_
  intro Q hret hnorm
  refine bR ?_
  refine cB ?_;intro K hK
  refine st rfl rfl rfl (eO rfl rfl) ?_
  refine st rfl rfl rfl (eO rfl rfl) ?_
  refine bT (hK _ ?_);clear hK K
  refine bR ?_
  refine cB ?_;intro K hK
  refine st rfl rfl rfl (bM rfl rfl) ?_
  refine se rfl rfl rfl (aQ rfl rfl (.cons rfl .nil) w9 (VN hob)) ?_
  rintro _ _ he;obtain rfl:=he.symm
  refine bT (hK _ ?_);clear hK K
  refine bR ?_
  refine cB ?_;intro K hK
  refine st rfl rfl rfl (bM rfl rfl) ?_
  refine st rfl rfl rfl (bM rfl rfl) ?_
  refine st rfl rfl rfl (bK rfl rfl (by first | exact .pp _ | exact .pt (rfl) rfl rfl | exact .pt (hob) rfl rfl | exact .pt (upd_same _ _ _) rfl rfl | exact .pt (bU hd (bU hd (upd_same _ _ _))) rfl rfl | exact .pt (bU hd hob) rfl rfl | exact .pt (hbuf) rfl rfl)) ?_
  refine st rfl rfl rfl (dX rfl nK rfl (by first | exact .pp _ | exact .pt (rfl) rfl rfl | exact .pt (hob) rfl rfl | exact .pt (upd_same _ _ _) rfl rfl | exact .pt (bU hd (bU hd (upd_same _ _ _))) rfl rfl | exact .pt (bU hd hob) rfl rfl | exact .pt (hbuf) rfl rfl) (by first | exact .pt _ _ _ _ _ | exact .pp _ _)) ?_
  refine st rfl rfl rfl (fG rfl nI rfl (by first | exact .pp _ | exact .pt (rfl) rfl rfl | exact .pt (hob) rfl rfl | exact .pt (upd_same _ _ _) rfl rfl | exact .pt (bU hd (bU hd (upd_same _ _ _))) rfl rfl | exact .pt (bU hd hob) rfl rfl | exact .pt (hbuf) rfl rfl) rfl) ?_
  refine st rfl rfl rfl (bM rfl rfl) ?_
  refine se rfl rfl rfl (CQ (l:=l) .any rfl Tryz.underlying37 Tryz.underlying9 lT pM rfl rfl (by first | exact rfl | exact hbuf | exact upd_same _ _ _) rfl rfl rfl rfl rfl rfl rfl (by omega)) ?_
  rintro _ _ ⟨v14,-,rfl,rfl⟩
  refine st rfl rfl rfl (bK rfl rfl (by first | exact .pp _ | exact .pt (rfl) rfl rfl | exact .pt (hob) rfl rfl | exact .pt (upd_same _ _ _) rfl rfl | exact .pt (bU hd (bU hd (upd_same _ _ _))) rfl rfl | exact .pt (bU hd hob) rfl rfl | exact .pt (hbuf) rfl rfl)) ?_
  refine st rfl rfl rfl (dX rfl nK rfl (by first | exact .pp _ | exact .pt (rfl) rfl rfl | exact .pt (hob) rfl rfl | exact .pt (upd_same _ _ _) rfl rfl | exact .pt (bU hd (bU hd (upd_same _ _ _))) rfl rfl | exact .pt (bU hd hob) rfl rfl | exact .pt (hbuf) rfl rfl) (by first | exact .pt _ _ _ _ _ | exact .pp _ _)) ?_
  refine nS rfl rfl (dZ rfl nI rfl rfl (by first | exact rfl | exact hob | exact upd_same _ _ _ | exact bU hd (bU hd (upd_same _ _ _)) | exact bU hd hob | exact hbuf) rfl rfl rfl rfl rfl rfl) ?_
  refine bT (hK _ ?_);clear hK K
  refine bR ?_
  refine cB ?_;intro K hK
  refine st rfl rfl rfl (bM rfl rfl) ?_
  refine st rfl rfl rfl (nX rfl Tryz.underlying9 rfl) ?_
  refine st rfl rfl rfl (eO rfl rfl) ?_
  refine st rfl rfl rfl (eO rfl rfl) ?_
  refine bT (hK _ ?_);clear hK K
  refine iZ (hret _ _ (upd (upd H ib (some (dV 5 v14 (l++t)))) id (some (lZ 92 id aD ib (some (v14,l++t))))) (.tmp rfl (.tmp rfl .nil)) (λt v h=>by rw [<- h];simp only [qT];by_cases h0:t=id <;> by_cases h1:t=ib <;> simp_all [bN] <;> rfl) ?_)
  exact ⟨rfl,_,rfl⟩
theorem FK {H:AH} {id aD ib vb:Nat} {l:List UInt8} (hob:H id=some (lZ 92 id aD ib (some (vb,l)))) (hbuf:H ib=some (dV 5 vb l)) (hne:l≠[]) (hl:l.length<=1099511627776):PC Tryz.prog 45 [.pt id aD 0 0] H (λy H'=>y=str l/\H'=upd H ib none):=by
  have hrow:(dV 5 vb l).rows[0]?=some [.sc (.int .u8 ((l.head hne).toNat:Nat))]:=by
    cases l with
    | nil=>exact absurd rfl hne
    | cons a r=>rfl
  refine jZ (c:=_) Tryz.func45 rfl rfl ?_
  intro Q hret hnorm
  refine bR ?_
  refine cB ?_;intro K hK
  refine st rfl rfl rfl (eO rfl rfl) ?_
  refine bT (hK _ ?_);clear hK K
  refine bR ?_
  refine AM [0,1,3,7,15,0,32,96,224,480,1023,2047] (λ_ _=>true) (λi=>bif Nat.beq i 10 then some ib else none) mixed (by kernel_rfl) ?_;intro C K hK
  refine jO rfl (λH hH=>bM rfl rfl) ?_
  refine jO rfl (λH hH=>bK rfl rfl (by first | exact .pp _ | exact .pt ((hH _ rfl).trans (rfl)) rfl rfl | exact .pt ((hH _ rfl).trans (hob)) rfl rfl | exact .pt ((hH _ rfl).trans (hbuf)) rfl rfl)) ?_
  refine jO rfl (λH hH=>dX rfl nK rfl (by first | exact .pp _ | exact .pt ((hH _ rfl).trans (rfl)) rfl rfl | exact .pt ((hH _ rfl).trans (hob)) rfl rfl | exact .pt ((hH _ rfl).trans (hbuf)) rfl rfl) (by first | exact .pt _ _ _ _ _ | exact .pp _ _)) ?_
  refine jO rfl (λH hH=>fG rfl nI rfl (by first | exact .pp _ | exact .pt ((hH _ rfl).trans (rfl)) rfl rfl | exact .pt ((hH _ rfl).trans (hob)) rfl rfl | exact .pt ((hH _ rfl).trans (hbuf)) rfl rfl) rfl) ?_
  refine jO rfl (λH hH=>SK rfl rfl ((hH _ rfl).trans hbuf) rfl hrow (by have:=List.length_pos_iff.2 hne;omega)) ?_
  refine jO rfl (λH hH=>bM rfl rfl) ?_
  refine jO rfl (λH hH=>bK rfl rfl (by first | exact .pp _ | exact .pt ((hH _ rfl).trans (rfl)) rfl rfl | exact .pt ((hH _ rfl).trans (hob)) rfl rfl | exact .pt ((hH _ rfl).trans (hbuf)) rfl rfl)) ?_
  refine jO rfl (λH hH=>dX rfl nK rfl (by first | exact .pp _ | exact .pt ((hH _ rfl).trans (rfl)) rfl rfl | exact .pt ((hH _ rfl).trans (hob)) rfl rfl | exact .pt ((hH _ rfl).trans (hbuf)) rfl rfl) (by first | exact .pt _ _ _ _ _ | exact .pp _ _)) ?_
  refine jO rfl (λH hH=>fG rfl nI rfl (by first | exact .pp _ | exact .pt ((hH _ rfl).trans (rfl)) rfl rfl | exact .pt ((hH _ rfl).trans (hob)) rfl rfl | exact .pt ((hH _ rfl).trans (hbuf)) rfl rfl) rfl) ?_
  refine jO rfl (λH hH=>mY rfl Tryz.underlying37 rfl (.sl ((hH _ rfl).trans hbuf) rfl)) ?_
  refine rU (k:=ib) (ob:=none) (x:=str l) rfl rfl (λH hH=>(SC rfl Tryz.underlying165 c5 rfl rfl ((hH _ rfl).trans hbuf) rfl rfl rfl rfl rfl rfl hne (by omega)).d9 (λ_ h=>h.elim) (λ_ h=>h.elim)) ?_
  refine jO rfl (λH hH=>eO rfl rfl) ?_
  refine CP (hK _ ?_);clear hK K
  refine iZ (hret _ _ _ (.tmp rfl .nil) (λ_ _ h=>h) ?_)
  exact ⟨rfl,rfl⟩
theorem M6 {H:AH} {id aD ib:Nat} {o:Option (Nat×List UInt8)} {c:UInt8} (hd:id≠ib) (hib:H ib=none) (hl:(held o).length<=1099511627776) :
    PC Tryz.prog 113 [.pt id aD 0 0,.sc (.int .u8 (c.toNat:Nat))] (bH 92 5 H id aD ib o) (λy H'=>y=.sc .nilIface/\∃ vb',H'=bH 92 5 H id aD ib (some (vb',held o++[c]))):=by
  cases o with
  | none =>
    exact (aHC hd (upd_same _ _ _) ((upd_ne _ _ (Ne.symm hd)).trans hib)).mono λy H' ⟨h1,vb',h2⟩=>⟨h1,vb',h2.trans (by
      funext t;simp only [bH,qT,held,List.nil_append];by_cases h0:t=id <;> by_cases h1:t=ib <;> simp [h0,h1])⟩
  | some p =>
    obtain ⟨vb,l⟩:=p
    exact (aI4 hd (upd_same _ _ _) ((upd_ne _ _ (Ne.symm hd)).trans (upd_same _ _ _)) hl).mono λy H' ⟨h1,vb',h2⟩=>⟨h1,vb',h2.trans (by
      funext t;simp only [bH,qT,held];by_cases h0:t=id <;> by_cases h1:t=ib <;> simp [h0,h1])⟩
theorem TQ {H:AH} {id aD ib:Nat} {o:Option (Nat×List UInt8)} {t:List UInt8} (hd:id≠ib) (hib:H ib=none) (hl:(held o).length<=1099511627776) (ht:t.length<=1099511627776) :
    PC Tryz.prog 42 [.pt id aD 0 0,str t] (bH 92 5 H id aD ib o) (λy H'=>y=l8 [int t.length,.sc .nilIface]/\∃ vb',H'=bH 92 5 H id aD ib (some (vb',held o++t))):=by
  cases o with
  | none =>
    exact (MX hd (upd_same _ _ _) ((upd_ne _ _ (Ne.symm hd)).trans hib) ht).mono λy H' ⟨h1,vb',h2⟩=>⟨h1,vb',h2.trans (by
      funext t;simp only [bH,qT,held,List.nil_append];by_cases h0:t=id <;> by_cases h1:t=ib <;> simp [h0,h1])⟩
  | some p =>
    obtain ⟨vb,l⟩:=p
    exact (VP hd (upd_same _ _ _) ((upd_ne _ _ (Ne.symm hd)).trans (upd_same _ _ _)) hl ht).mono λy H' ⟨h1,vb',h2⟩=>⟨h1,vb',h2.trans (by
      funext t;simp only [bH,qT,held];by_cases h0:t=id <;> by_cases h1:t=ib <;> simp [h0,h1])⟩
theorem aAR {v:Int} (hv:kM v):PC Tryz.prog 74 [int v] H0 (λy _=>y=str (enc v)):=by
  have hd:74004≠74090:=by decide
  refine jZ (c:=_) Tryz.func74 rfl rfl ?_
  intro Q hret hnorm
  refine bR ?_
  refine cB ?_;intro K hK
  refine st rfl rfl rfl (eO rfl rfl) ?_
  refine bT (hK _ ?_);clear hK K
  refine bR ?_
  refine cB ?_;intro K hK
  refine st rfl rfl rfl (bM rfl rfl) ?_
  refine st rfl rfl rfl (jX (r:=(vN v:Nat)) rfl Tryz.underlying3 Tryz.underlying70 rfl (TY hv)) ?_
  refine st rfl rfl rfl (vD (r:=(tw v:Nat)) rfl rfl rfl (by omega) (OI hv)) ?_
  refine st rfl rfl rfl (bM rfl rfl) ?_
  refine st rfl rfl rfl (qA (r:=sg v) rfl rfl rfl (by omega) (aCF hv)) ?_
  refine st rfl rfl rfl (jX (r:=(nT v:Nat)) rfl Tryz.underlying3 Tryz.underlying70 rfl (ZB v)) ?_
  refine st rfl rfl rfl (yN (r:=(zz v:Nat)) rfl rfl rfl (UA hv)) ?_
  refine st rfl rfl rfl (eO rfl rfl) ?_
  refine bT (hK _ ?_);clear hK K
  refine bR ?_
  refine cB ?_;intro K hK
  refine se rfl rfl rfl (xZ 74004 .any rfl I8 rfl) ?_
  rintro _ _ ⟨v4,-,rfl,rfl⟩
  refine bT (hK _ ?_);clear hK K
  refine bR ?_
  refine pU ?_;intro Q1 bn1 bx1 br1 bo1
  refine yQ (ι:=Nat×Nat) (κ:=Option (Nat×List UInt8)) (λp o=>⟨kn [(3,.sc (.int .u64 (p.2:Nat))),(4,.pt 74004 v4 0 0)],bH 92 5 H0 74004 v4 74090 o⟩) (λp o=>p.2<128 ^ p.1/\held o++lC p.1 p.2=enc v) (λp o=>p.2) ⟨10,zz v⟩ none ⟨Nat.lt_of_lt_of_le (I7 hv) (show 18446744073709551616<=128 ^ 10 by decide),rfl⟩ (by refine pF ?_;exact ⟨rfl,rfl,trivial⟩) ?_
  rintro ⟨f,u⟩ o ⟨huf,hen⟩ Q2 ln2 lx2 lr2
  have hol:(held o).length<=11:=by
    have h1:=congrArg List.length hen
    have h2:=wH 10 (zz v)
    rw [List.length_append] at h1;unfold enc at h1;omega
  refine bR ?_
  refine bR ?_
  refine cB ?_;intro K hK
  refine st rfl rfl rfl (bM rfl rfl) ?_
  refine st rfl rfl rfl (xH rfl rfl rfl) ?_
  refine bT (hK _ ?_);clear hK K
  refine nV rfl ?_ ?_
  · intro h13
    obtain ⟨f,rfl⟩:∃ f0,f=f0+1:=⟨f-1,by
      rcases Nat.eq_zero_or_pos f with h0 | h0
      · subst h0;simp at huf;omega
      · omega⟩
    refine kE ?_
    refine bR ?_
    refine pU ?_;intro Q3 bn3 bx3 br3 bo3
    refine cB ?_;intro K hK
    refine st rfl rfl rfl (bM rfl rfl) ?_
    refine st rfl rfl rfl (uT (r:=((u % 128:Nat):Int)) rfl rfl rfl (by decide) rfl) ?_
    refine st rfl rfl rfl (rD (r:=((u % 128+128:Nat):Int)) rfl rfl rfl (zW (by omega))) ?_
    refine st rfl rfl rfl (jX (r:=((UInt8.ofNat (u % 128+128)).toNat:Nat)) rfl Tryz.underlying70 Tryz.underlying5 rfl (wO _)) ?_
    refine se rfl rfl rfl (aQ rfl rfl (.cons rfl (.cons rfl .nil)) ND (M6 hd rfl (by omega))) ?_
    rintro _ _ ⟨rfl,vb,rfl⟩
    refine bT (hK _ ?_);clear hK K
    refine lS (bn3 _ ?_)
    refine cB ?_;intro K hK
    refine st rfl rfl rfl (bM rfl rfl) ?_
    refine st rfl rfl rfl (qA (r:=((u / 128:Nat):Int)) rfl rfl rfl (by omega) FF) ?_
    refine st rfl rfl rfl (eO rfl rfl) ?_
    refine bT (hK _ ?_);clear hK K
    refine lS (ln2 _ ⟨⟨f,u / 128⟩,some (vb,held o++[UInt8.ofNat (u % 128+128)]),⟨?_,?_⟩,?_,pF ⟨rfl,rfl,trivial⟩⟩)
    · show u / 128<128 ^ f;rw [Nat.pow_succ] at huf;omega
    · show (held o++[_])++lC f (u / 128)=_;rw [List.append_assoc,List.singleton_append,<- GN f (by omega)];exact hen
    · show u / 128<u;omega
  · intro h13
    have hlt:u<128:=by omega
    rw [FR f hlt] at hen
    refine oV (lx2 _ _ (bx1 _ ?_))
    refine bR ?_
    refine cB ?_;intro K hK
    refine st rfl rfl rfl (bM rfl rfl) ?_
    refine st rfl rfl rfl (jX (r:=((UInt8.ofNat u).toNat:Nat)) rfl Tryz.underlying70 Tryz.underlying5 rfl (wO _)) ?_
    refine se rfl rfl rfl (aQ rfl rfl (.cons rfl (.cons rfl .nil)) ND (M6 hd rfl (by omega))) ?_
    rintro _ _ ⟨rfl,vb,rfl⟩
    rw [hen]
    refine bT (hK _ ?_);clear hK K
    refine bR ?_
    refine cB ?_;intro K hK
    refine se rfl rfl rfl (aQ rfl rfl (.cons rfl .nil) BF (FK rfl rfl (PM _ _) (Nat.le_trans (wH _ _) (by decide)))) ?_
    rintro _ _ ⟨rfl,rfl⟩
    refine st rfl rfl rfl (eO rfl rfl) ?_
    refine bT (hK _ ?_);clear hK K
    refine iZ (hret _ _ H0 (.tmp rfl .nil) (λ_ _ h=>by cases h) ?_)
    exact rfl
theorem K4 {v:Int} (hv:kM v):PP Tryz.prog 74 [int v] (λy=>y=str (enc v)):=sG (aAR hv) λy H h=>⟨_,rfl,.sc _,by rw [h];exact .refl _⟩
theorem aJL {l:List Int} (hv:∀ v∈l,kM v) (hl:l.length<=68719476736):PC Tryz.prog 43 [ints l] H0 (λy _=>y=str (sM l)):=by
  have hd:43003≠43090:=by decide
  have hlen:=aF3 l
  refine jZ (c:=_) Tryz.func43 rfl rfl ?_
  intro Q hret hnorm
  refine bR ?_
  refine cB ?_;intro K hK
  refine st rfl rfl rfl (eO rfl rfl) ?_
  refine bT (hK _ ?_);clear hK K
  refine bR ?_
  refine cB ?_;intro K hK
  refine se rfl rfl rfl (xZ 43003 .any rfl I8 rfl) ?_
  rintro _ _ ⟨v3,-,rfl,rfl⟩
  refine bT (hK _ ?_);clear hK K
  refine bR ?_
  refine cB ?_;intro K hK
  refine st rfl rfl rfl (bM rfl rfl) ?_
  refine st rfl rfl rfl (mY rfl Tryz.underlying23 rfl (wB l)) ?_
  refine st rfl rfl rfl (iO rfl rfl (.cons rfl .nil) eU (cO.refl _) (K4 (aGO (n:=l.length) (by omega)))) ?_
  refine se rfl rfl rfl (aQ rfl rfl (.cons rfl (.cons rfl .nil)) eT (TQ (o:=none) hd rfl (show 0<=_ by omega) (Nat.le_trans (AQ _) (by decide)))) ?_
  rintro _ _ ⟨rfl,vb0,rfl⟩
  refine bT (hK _ ?_);clear hK K
  refine bR ?_
  refine bR ?_
  refine cB ?_;intro K hK
  refine st rfl rfl rfl (bM rfl rfl) ?_
  refine st rfl rfl rfl (mY rfl Tryz.underlying23 rfl (wB l)) ?_
  refine st rfl rfl rfl (bM rfl rfl) ?_
  refine bT (hK _ ?_);clear hK K
  refine pU ?_;intro Q1 bn1 bx1 br1 bo1
  refine yQ (ι:=Nat) (κ:=Option (Nat×List UInt8)) (λk o=>⟨kn [(3,.pt 43003 v3 0 0),(10,ints l),(11,int l.length),(12,int k)],bH 92 5 H0 43003 v3 43090 o⟩) (λk o=>k<=l.length/\held o++(l.drop k).flatMap enc=sM l) (λk o=>l.length-k) 0 (some (vb0,enc l.length)) ⟨Nat.zero_le _,rfl⟩ (pF ⟨rfl,rfl,rfl,rfl,trivial⟩) ?_
  rintro k o ⟨hk,hen⟩ Q2 ln2 lx2 lr2
  have hol:(held o).length<=1099511627776:=by
    have h1:=congrArg List.length hen
    rw [List.length_append] at h1;omega
  refine bR ?_
  refine cB ?_;intro K hK
  refine st rfl rfl rfl (oC rfl rfl rfl) ?_
  refine bT (hK _ ?_);clear hK K
  refine bR ?_
  refine nV rfl ?_ ?_
  · intro h13
    have hkl:k<l.length:=by omega
    refine kE ?_
    refine bR ?_
    refine pU ?_;intro Q3 bn3 bx3 br3 bo3
    refine bR ?_
    refine cB ?_;intro K hK
    refine st rfl rfl rfl (aGG rfl Tryz.underlying23 bX rfl rfl rfl hkl rfl) ?_
    refine st rfl rfl rfl (fG rfl bX rfl (by first | exact .pp _ | exact .pt (rfl) rfl rfl) rfl) ?_
    refine st rfl rfl rfl (eO rfl rfl) ?_
    refine bT (hK _ ?_);clear hK K
    refine cB ?_;intro K hK
    refine st rfl rfl rfl (bM rfl rfl) ?_
    refine st rfl rfl rfl (iO rfl rfl (.cons rfl .nil) eU (cO.refl _) (K4 (hv _ (List.getElem_mem hkl)))) ?_
    refine se rfl rfl rfl (aQ rfl rfl (.cons rfl (.cons rfl .nil)) eT (TQ hd rfl hol (Nat.le_trans (AQ _) (by decide)))) ?_
    rintro _ _ ⟨rfl,vb,rfl⟩
    refine bT (hK _ ?_);clear hK K
    refine lS (bn3 _ ?_)
    refine cB ?_;intro K hK
    refine st rfl rfl rfl (rD rfl rfl rfl (wrap64 (by omega))) ?_
    refine st rfl rfl rfl (bM rfl rfl) ?_
    refine bT (hK _ ?_);clear hK K
    refine lS (ln2 _ ⟨k+1,some (vb,held o++enc l[k]),⟨by omega,?_⟩,by omega,pF ⟨rfl,rfl,rfl,rfl,trivial⟩⟩)
    show (held o++enc l[k])++_=_;rw [List.append_assoc,<- aH2 hkl];exact hen
  · intro h13
    have hke:k=l.length:=by omega
    subst hke
    rw [List.drop_length,List.flatMap_nil,List.append_nil] at hen
    obtain ⟨vb,rfl⟩:∃ vb,o=some (vb,sM l):=by
      cases o with
      | none=>exact absurd hen.symm (U8 l)
      | some p=>obtain ⟨vb,m⟩:=p;exact ⟨vb,by rw [<- hen];rfl⟩
    refine oV (lx2 _ _ (bx1 _ ?_))
    refine bR ?_
    refine cB ?_;intro K hK
    refine se rfl rfl rfl (aQ rfl rfl (.cons rfl .nil) BF (FK rfl rfl (U8 l) (by omega))) ?_
    rintro _ _ ⟨rfl,rfl⟩
    refine st rfl rfl rfl (eO rfl rfl) ?_
    refine bT (hK _ ?_);clear hK K
    refine iZ (hret _ _ H0 (.tmp rfl .nil) (λ_ _ h=>by cases h) ?_)
    exact rfl
theorem aED {l:List Int} (hv:∀ v∈l,kM v) (hl:l.length<=68719476736):PP Tryz.prog 43 [ints l] (λy=>y=str (sM l)):=sG (aJL hv hl) λy H h=>⟨_,rfl,.sc _,by rw [h];exact .refl _⟩
theorem Y5 {H:AH} {id aD ib:Nat} {x:AV} (hob:H id=some (eG 94 id aD ib x none)):PC Tryz.prog 76 [.pt id aD 0 0] H (λ_ H'=>H'=upd H id (some ⟨94,3,true,true,aD,[[.pt id aD 0 0,.sc (.slice none 0 0),x]]⟩)):=by
  refine jZ (c:=_) Tryz.func76 rfl rfl ?_
  intro Q hret hnorm
  refine bR ?_
  refine cB ?_;intro K hK
  refine st rfl rfl rfl (bM rfl rfl) ?_
  refine st rfl rfl rfl (bK rfl rfl (by first | exact .pp _ | exact .pt (rfl) rfl rfl | exact .pt (hob) rfl rfl | exact .pt (upd_same _ _ _) rfl rfl)) ?_
  refine st rfl rfl rfl (dX rfl sZ rfl (by first | exact .pp _ | exact .pt (rfl) rfl rfl | exact .pt (hob) rfl rfl | exact .pt (upd_same _ _ _) rfl rfl) (by first | exact .pt _ _ _ _ _ | exact .pp _ _)) ?_
  refine st rfl rfl rfl (fG rfl tX rfl (by first | exact .pp _ | exact .pt (rfl) rfl rfl | exact .pt (hob) rfl rfl | exact .pt (upd_same _ _ _) rfl rfl) rfl) ?_
  refine st rfl rfl rfl (eY rfl Tryz.underlying90 rfl rfl) ?_
  refine bT (hK _ ?_);clear hK K
  refine yJ rfl ?_
  refine cB ?_;intro K hK
  refine st rfl rfl rfl (bM rfl rfl) ?_
  refine st rfl rfl rfl (bM rfl rfl) ?_
  refine st rfl rfl rfl (LZ rfl Tryz.underlying90 Tryz.underlying198 IQ rfl hob rfl rfl (Nat.zero_lt_succ 2)) ?_
  refine st rfl rfl rfl (PG rfl Tryz.func115 rfl rfl (by kernel_rfl) (by kernel_rfl) rfl) ?_
  refine st rfl rfl rfl (TX rfl Tryz.underlying198 Tryz.underlying90 IQ rfl hob rfl rfl rfl aFS cW (Nat.zero_lt_succ 2)) ?_
  refine st rfl rfl rfl (bK rfl rfl (by first | exact .pp _ | exact .pt (rfl) rfl rfl | exact .pt (hob) rfl rfl | exact .pt (upd_same _ _ _) rfl rfl)) ?_
  refine st rfl rfl rfl (dX rfl sZ rfl (by first | exact .pp _ | exact .pt (rfl) rfl rfl | exact .pt (hob) rfl rfl | exact .pt (upd_same _ _ _) rfl rfl) (by first | exact .pt _ _ _ _ _ | exact .pp _ _)) ?_
  refine nS rfl rfl (dZ rfl tX rfl rfl (by first | exact rfl | exact hob | exact upd_same _ _ _) rfl rfl rfl rfl rfl rfl) ?_
  refine bT (hK _ ?_);clear hK K
  refine lS (hnorm _ _ _ .nil (λ_ _ h=>h) ?_)
  exact rfl
theorem aC3 {H:AH} {id aD ib:Nat} {x:AV} {o:Nat×List UInt8} (hob:H id=some (eG 94 id aD ib x (some o))):PC Tryz.prog 76 [.pt id aD 0 0] H (λ_ H'=>H'=H):=by
  refine jZ (c:=_) Tryz.func76 rfl rfl ?_
  intro Q hret hnorm
  refine bR ?_
  refine cB ?_;intro K hK
  refine st rfl rfl rfl (bM rfl rfl) ?_
  refine st rfl rfl rfl (bK rfl rfl (by first | exact .pp _ | exact .pt (rfl) rfl rfl | exact .pt (hob) rfl rfl | exact .pt (upd_same _ _ _) rfl rfl)) ?_
  refine st rfl rfl rfl (dX rfl sZ rfl (by first | exact .pp _ | exact .pt (rfl) rfl rfl | exact .pt (hob) rfl rfl | exact .pt (upd_same _ _ _) rfl rfl) (by first | exact .pt _ _ _ _ _ | exact .pp _ _)) ?_
  refine st rfl rfl rfl (fG rfl tX rfl (by first | exact .pp _ | exact .pt (rfl) rfl rfl | exact .pt (hob) rfl rfl | exact .pt (upd_same _ _ _) rfl rfl) rfl) ?_
  refine st rfl rfl rfl (gM rfl Tryz.underlying90 rfl (.pt hob rfl rfl) rfl) ?_
  refine bT (hK _ ?_);clear hK K
  refine rA rfl ?_
  refine bR ?_
  refine cB ?_;intro K hK
  refine st rfl rfl rfl (bM rfl rfl) ?_
  refine st rfl rfl rfl (bK rfl rfl (by first | exact .pp _ | exact .pt (rfl) rfl rfl | exact .pt (hob) rfl rfl | exact .pt (upd_same _ _ _) rfl rfl)) ?_
  refine st rfl rfl rfl (dX rfl sZ rfl (by first | exact .pp _ | exact .pt (rfl) rfl rfl | exact .pt (hob) rfl rfl | exact .pt (upd_same _ _ _) rfl rfl) (by first | exact .pt _ _ _ _ _ | exact .pp _ _)) ?_
  refine st rfl rfl rfl (fG rfl tX rfl (by first | exact .pp _ | exact .pt (rfl) rfl rfl | exact .pt (hob) rfl rfl | exact .pt (upd_same _ _ _) rfl rfl) rfl) ?_
  refine st rfl rfl rfl (bM rfl rfl) ?_
  refine st rfl rfl rfl (O5 rfl Tryz.underlying90 IQ rfl rfl hob rfl (by simp)) ?_
  refine bT (hK _ ?_);clear hK K
  refine rA rfl ?_
  refine kE ?_
  refine lS (hnorm _ _ _ .nil (λ_ _ h=>h) ?_)
  exact rfl
theorem aKB {H:AH} {id aD ib:Nat} {x:AV} {t:List UInt8} (hd:id≠ib) (hob:H id=some (eG 94 id aD ib x none)) (hib:H ib=none) (ht:t.length<=1099511627776):PC Tryz.prog 42 [.pt id aD 0 0,str t] H (λy H'=>y=l8 [int t.length,.sc .nilIface]/\∃ vb',H'=upd (upd H ib (some (dV 5 vb' (t)))) id (some (eG 94 id aD ib x (some (vb',t))))):=by
  refine jZ (c:=_) Tryz.func42 rfl rfl ?_
  intro Q hret hnorm
  refine bR ?_
  refine cB ?_;intro K hK
  refine st rfl rfl rfl (eO rfl rfl) ?_
  refine st rfl rfl rfl (eO rfl rfl) ?_
  refine bT (hK _ ?_);clear hK K
  refine bR ?_
  refine cB ?_;intro K hK
  refine st rfl rfl rfl (bM rfl rfl) ?_
  refine se rfl rfl rfl (aQ rfl rfl (.cons rfl .nil) w9 (Y5 hob)) ?_
  rintro _ _ rfl
  refine bT (hK _ ?_);clear hK K
  refine bR ?_
  refine cB ?_;intro K hK
  refine st rfl rfl rfl (bM rfl rfl) ?_
  refine st rfl rfl rfl (bM rfl rfl) ?_
  refine st rfl rfl rfl (bK rfl rfl (by first | exact .pp _ | exact .pt (rfl) rfl rfl | exact .pt (hob) rfl rfl | exact .pt (upd_same _ _ _) rfl rfl | exact .pt (bU hd (bU hd (upd_same _ _ _))) rfl rfl | exact .pt (bU hd hob) rfl rfl | exact .pt (hbuf) rfl rfl)) ?_
  refine st rfl rfl rfl (dX rfl nK rfl (by first | exact .pp _ | exact .pt (rfl) rfl rfl | exact .pt (hob) rfl rfl | exact .pt (upd_same _ _ _) rfl rfl | exact .pt (bU hd (bU hd (upd_same _ _ _))) rfl rfl | exact .pt (bU hd hob) rfl rfl | exact .pt (hbuf) rfl rfl) (by first | exact .pt _ _ _ _ _ | exact .pp _ _)) ?_
  refine st rfl rfl rfl (fG rfl nI rfl (by first | exact .pp _ | exact .pt (rfl) rfl rfl | exact .pt (hob) rfl rfl | exact .pt (upd_same _ _ _) rfl rfl | exact .pt (bU hd (bU hd (upd_same _ _ _))) rfl rfl | exact .pt (bU hd hob) rfl rfl | exact .pt (hbuf) rfl rfl) rfl) ?_
  refine K5 12 ib 5 1 rfl ((upd_ne _ _ (Ne.symm hd)).trans hib) ?_;intro vn
  refine st rfl rfl rfl (bM rfl rfl) ?_
  refine se rfl rfl rfl (CQ (l:=[]) .any rfl Tryz.underlying37 Tryz.underlying9 lT pM rfl rfl (by first | exact rfl | exact hbuf | exact upd_same _ _ _) rfl rfl rfl rfl rfl rfl rfl (by show 0+t.length<=140737488355328;omega)) ?_
  rintro _ _ ⟨v14,-,rfl,rfl⟩
  refine st rfl rfl rfl (bK rfl rfl (by first | exact .pp _ | exact .pt (rfl) rfl rfl | exact .pt (hob) rfl rfl | exact .pt (upd_same _ _ _) rfl rfl | exact .pt (bU hd (bU hd (upd_same _ _ _))) rfl rfl | exact .pt (bU hd hob) rfl rfl | exact .pt (hbuf) rfl rfl)) ?_
  refine st rfl rfl rfl (dX rfl nK rfl (by first | exact .pp _ | exact .pt (rfl) rfl rfl | exact .pt (hob) rfl rfl | exact .pt (upd_same _ _ _) rfl rfl | exact .pt (bU hd (bU hd (upd_same _ _ _))) rfl rfl | exact .pt (bU hd hob) rfl rfl | exact .pt (hbuf) rfl rfl) (by first | exact .pt _ _ _ _ _ | exact .pp _ _)) ?_
  refine nS rfl rfl (dZ rfl nI rfl rfl (by first | exact rfl | exact hob | exact upd_same _ _ _ | exact bU hd (bU hd (upd_same _ _ _)) | exact bU hd hob | exact hbuf) rfl rfl rfl rfl rfl rfl) ?_
  refine bT (hK _ ?_);clear hK K
  refine bR ?_
  refine cB ?_;intro K hK
  refine st rfl rfl rfl (bM rfl rfl) ?_
  refine st rfl rfl rfl (nX rfl Tryz.underlying9 rfl) ?_
  refine st rfl rfl rfl (eO rfl rfl) ?_
  refine st rfl rfl rfl (eO rfl rfl) ?_
  refine bT (hK _ ?_);clear hK K
  refine iZ (hret _ _ (upd (upd H ib (some (dV 5 v14 (t)))) id (some (eG 94 id aD ib x (some (v14,t))))) (.tmp rfl (.tmp rfl .nil)) (λt v h=>by rw [<- h];simp only [qT];by_cases h0:t=id <;> by_cases h1:t=ib <;> simp_all [bN] <;> rfl) ?_)
  exact ⟨rfl,_,rfl⟩
theorem fD {H:AH} {id aD ib:Nat} {x:AV} {t:List UInt8} {vb:Nat} {l:List UInt8} (hd:id≠ib) (hob:H id=some (eG 94 id aD ib x (some (vb,l)))) (hbuf:H ib=some (dV 5 vb l)) (hl:l.length<=1099511627776) (ht:t.length<=1099511627776):PC Tryz.prog 42 [.pt id aD 0 0,str t] H (λy H'=>y=l8 [int t.length,.sc .nilIface]/\∃ vb',H'=upd (upd H ib (some (dV 5 vb' (l++t)))) id (some (eG 94 id aD ib x (some (vb',l++t))))):=by
  refine jZ (c:=_) Tryz.func42 rfl rfl ?_
  intro Q hret hnorm
  refine bR ?_
  refine cB ?_;intro K hK
  refine st rfl rfl rfl (eO rfl rfl) ?_
  refine st rfl rfl rfl (eO rfl rfl) ?_
  refine bT (hK _ ?_);clear hK K
  refine bR ?_
  refine cB ?_;intro K hK
  refine st rfl rfl rfl (bM rfl rfl) ?_
  refine se rfl rfl rfl (aQ rfl rfl (.cons rfl .nil) w9 (aC3 hob)) ?_
  rintro _ _ he;obtain rfl:=he.symm
  refine bT (hK _ ?_);clear hK K
  refine bR ?_
  refine cB ?_;intro K hK
  refine st rfl rfl rfl (bM rfl rfl) ?_
  refine st rfl rfl rfl (bM rfl rfl) ?_
  refine st rfl rfl rfl (bK rfl rfl (by first | exact .pp _ | exact .pt (rfl) rfl rfl | exact .pt (hob) rfl rfl | exact .pt (upd_same _ _ _) rfl rfl | exact .pt (bU hd (bU hd (upd_same _ _ _))) rfl rfl | exact .pt (bU hd hob) rfl rfl | exact .pt (hbuf) rfl rfl)) ?_
  refine st rfl rfl rfl (dX rfl nK rfl (by first | exact .pp _ | exact .pt (rfl) rfl rfl | exact .pt (hob) rfl rfl | exact .pt (upd_same _ _ _) rfl rfl | exact .pt (bU hd (bU hd (upd_same _ _ _))) rfl rfl | exact .pt (bU hd hob) rfl rfl | exact .pt (hbuf) rfl rfl) (by first | exact .pt _ _ _ _ _ | exact .pp _ _)) ?_
  refine st rfl rfl rfl (fG rfl nI rfl (by first | exact .pp _ | exact .pt (rfl) rfl rfl | exact .pt (hob) rfl rfl | exact .pt (upd_same _ _ _) rfl rfl | exact .pt (bU hd (bU hd (upd_same _ _ _))) rfl rfl | exact .pt (bU hd hob) rfl rfl | exact .pt (hbuf) rfl rfl) rfl) ?_
  refine st rfl rfl rfl (bM rfl rfl) ?_
  refine se rfl rfl rfl (CQ (l:=l) .any rfl Tryz.underlying37 Tryz.underlying9 lT pM rfl rfl (by first | exact rfl | exact hbuf | exact upd_same _ _ _) rfl rfl rfl rfl rfl rfl rfl (by omega)) ?_
  rintro _ _ ⟨v14,-,rfl,rfl⟩
  refine st rfl rfl rfl (bK rfl rfl (by first | exact .pp _ | exact .pt (rfl) rfl rfl | exact .pt (hob) rfl rfl | exact .pt (upd_same _ _ _) rfl rfl | exact .pt (bU hd (bU hd (upd_same _ _ _))) rfl rfl | exact .pt (bU hd hob) rfl rfl | exact .pt (hbuf) rfl rfl)) ?_
  refine st rfl rfl rfl (dX rfl nK rfl (by first | exact .pp _ | exact .pt (rfl) rfl rfl | exact .pt (hob) rfl rfl | exact .pt (upd_same _ _ _) rfl rfl | exact .pt (bU hd (bU hd (upd_same _ _ _))) rfl rfl | exact .pt (bU hd hob) rfl rfl | exact .pt (hbuf) rfl rfl) (by first | exact .pt _ _ _ _ _ | exact .pp _ _)) ?_
  refine nS rfl rfl (dZ rfl nI rfl rfl (by first | exact rfl | exact hob | exact upd_same _ _ _ | exact bU hd (bU hd (upd_same _ _ _)) | exact bU hd hob | exact hbuf) rfl rfl rfl rfl rfl rfl) ?_
  refine bT (hK _ ?_);clear hK K
  refine bR ?_
  refine cB ?_;intro K hK
  refine st rfl rfl rfl (bM rfl rfl) ?_
  refine st rfl rfl rfl (nX rfl Tryz.underlying9 rfl) ?_
  refine st rfl rfl rfl (eO rfl rfl) ?_
  refine st rfl rfl rfl (eO rfl rfl) ?_
  refine bT (hK _ ?_);clear hK K
  refine iZ (hret _ _ (upd (upd H ib (some (dV 5 v14 (l++t)))) id (some (eG 94 id aD ib x (some (v14,l++t))))) (.tmp rfl (.tmp rfl .nil)) (λt v h=>by rw [<- h];simp only [qT];by_cases h0:t=id <;> by_cases h1:t=ib <;> simp_all [bN] <;> rfl) ?_)
  exact ⟨rfl,_,rfl⟩
theorem aDO {H:AH} {id aD ib vb:Nat} {x:AV} {l:List UInt8} (hob:H id=some (eG 94 id aD ib x (some (vb,l)))) (hbuf:H ib=some (dV 5 vb l)) (hne:l≠[]) (hl:l.length<=1099511627776):PC Tryz.prog 45 [.pt id aD 0 0] H (λy H'=>y=str l/\H'=upd H ib none):=by
  have hrow:(dV 5 vb l).rows[0]?=some [.sc (.int .u8 ((l.head hne).toNat:Nat))]:=by
    cases l with
    | nil=>exact absurd rfl hne
    | cons a r=>rfl
  refine jZ (c:=_) Tryz.func45 rfl rfl ?_
  intro Q hret hnorm
  refine bR ?_
  refine cB ?_;intro K hK
  refine st rfl rfl rfl (eO rfl rfl) ?_
  refine bT (hK _ ?_);clear hK K
  refine bR ?_
  refine AM [0,1,3,7,15,0,32,96,224,480,1023,2047] (λ_ _=>true) (λi=>bif Nat.beq i 10 then some ib else none) mixed (by kernel_rfl) ?_;intro C K hK
  refine jO rfl (λH hH=>bM rfl rfl) ?_
  refine jO rfl (λH hH=>bK rfl rfl (by first | exact .pp _ | exact .pt ((hH _ rfl).trans (rfl)) rfl rfl | exact .pt ((hH _ rfl).trans (hob)) rfl rfl | exact .pt ((hH _ rfl).trans (hbuf)) rfl rfl)) ?_
  refine jO rfl (λH hH=>dX rfl nK rfl (by first | exact .pp _ | exact .pt ((hH _ rfl).trans (rfl)) rfl rfl | exact .pt ((hH _ rfl).trans (hob)) rfl rfl | exact .pt ((hH _ rfl).trans (hbuf)) rfl rfl) (by first | exact .pt _ _ _ _ _ | exact .pp _ _)) ?_
  refine jO rfl (λH hH=>fG rfl nI rfl (by first | exact .pp _ | exact .pt ((hH _ rfl).trans (rfl)) rfl rfl | exact .pt ((hH _ rfl).trans (hob)) rfl rfl | exact .pt ((hH _ rfl).trans (hbuf)) rfl rfl) rfl) ?_
  refine jO rfl (λH hH=>SK rfl rfl ((hH _ rfl).trans hbuf) rfl hrow (by have:=List.length_pos_iff.2 hne;omega)) ?_
  refine jO rfl (λH hH=>bM rfl rfl) ?_
  refine jO rfl (λH hH=>bK rfl rfl (by first | exact .pp _ | exact .pt ((hH _ rfl).trans (rfl)) rfl rfl | exact .pt ((hH _ rfl).trans (hob)) rfl rfl | exact .pt ((hH _ rfl).trans (hbuf)) rfl rfl)) ?_
  refine jO rfl (λH hH=>dX rfl nK rfl (by first | exact .pp _ | exact .pt ((hH _ rfl).trans (rfl)) rfl rfl | exact .pt ((hH _ rfl).trans (hob)) rfl rfl | exact .pt ((hH _ rfl).trans (hbuf)) rfl rfl) (by first | exact .pt _ _ _ _ _ | exact .pp _ _)) ?_
  refine jO rfl (λH hH=>fG rfl nI rfl (by first | exact .pp _ | exact .pt ((hH _ rfl).trans (rfl)) rfl rfl | exact .pt ((hH _ rfl).trans (hob)) rfl rfl | exact .pt ((hH _ rfl).trans (hbuf)) rfl rfl) rfl) ?_
  refine jO rfl (λH hH=>mY rfl Tryz.underlying37 rfl (.sl ((hH _ rfl).trans hbuf) rfl)) ?_
  refine rU (k:=ib) (ob:=none) (x:=str l) rfl rfl (λH hH=>(SC rfl Tryz.underlying165 c5 rfl rfl ((hH _ rfl).trans hbuf) rfl rfl rfl rfl rfl rfl hne (by omega)).d9 (λ_ h=>h.elim) (λ_ h=>h.elim)) ?_
  refine jO rfl (λH hH=>eO rfl rfl) ?_
  refine CP (hK _ ?_);clear hK K
  refine iZ (hret _ _ _ (.tmp rfl .nil) (λ_ _ h=>h) ?_)
  exact ⟨rfl,rfl⟩
end Go.Pv
