import Derived.Test.YtmokiknakhhhdaaGreatPvU
import Derived.Test.YtmokiknakhhhdaaGreatPvAO
import Derived.Test.YtmokiknakhhhdaaGreatProg
set_option linter.unusedVariables false
set_option linter.unusedSimpArgs false
namespace Go.Pv
open Go.Proofs
theorem mixed:Tryz.prog.follows .mixedOrders=true:=by kernel_rfl
set_option maxRecDepth 10000
theorem bW:dY Tryz.prog 3=some (1,false):=by kernel_rfl
theorem vC:dY Tryz.prog 4=some (1,false):=by kernel_rfl
theorem qM:dY Tryz.prog 9=some (1,false):=by kernel_rfl
theorem nW:dY Tryz.prog 51=some (1,false):=by kernel_rfl
theorem xI:dY Tryz.prog 81=some (1,false):=by kernel_rfl
theorem vR:dY Tryz.prog 95=some (1,false):=by kernel_rfl
theorem pZ:jC Tryz.prog 3=some 8:=by kernel_rfl
theorem sU:jC Tryz.prog 5=some 1:=by kernel_rfl
theorem kN:iL Tryz.prog 3=some (1,[.int .i64 0]):=by kernel_rfl
theorem nP:iL Tryz.prog 5=some (1,[.int .u8 0]):=by kernel_rfl
theorem SC:aU Tryz.prog 121=true:=by kernel_rfl
theorem B5:aU Tryz.prog 33=true:=by kernel_rfl
theorem fP:aU Tryz.prog 39=true:=by kernel_rfl
theorem eO:aU Tryz.prog 44=true:=by kernel_rfl
theorem DJ:aU Tryz.prog 47=true:=by kernel_rfl
theorem xQ:aU Tryz.prog 68=true:=by kernel_rfl
theorem aI4:aU Tryz.prog 69=true:=by kernel_rfl
theorem eY:aU Tryz.prog 77=true:=by kernel_rfl
theorem zO:aU Tryz.prog 79=true:=by kernel_rfl
theorem qC:kH Tryz.prog 131 0=some 0:=by kernel_rfl
theorem KV:kH Tryz.prog 131 1=some 1:=by kernel_rfl
theorem vU:kH Tryz.prog 97 0=some 0:=by kernel_rfl
theorem nZ:kH Tryz.prog 97 1=some 1:=by kernel_rfl
theorem z131:zeroOf Tryz.prog 131=some [.string ⟨#[]⟩,.bool false]:=by kernel_rfl
theorem KQ:zeroOf Tryz.prog 97=some [.pointer none,.slice none 0 0]:=by kernel_rfl
theorem IF:((Tryz.prog.info? 97).map (·.size))=some 2:=by kernel_rfl
theorem RE:Tryz.prog.cellsOf 97=2:=by kernel_rfl
theorem c5:Tryz.prog.cellsOf 5=1:=by kernel_rfl
theorem H6:((Tryz.prog.info? 97).map (·.size))=some 2:=by kernel_rfl
theorem cW:Tryz.prog.cellsOf 99=3:=by kernel_rfl
theorem aAC:∀ c,liesAt Tryz.prog Tryz.prog.depth 99 c 0 97 1=true\/c=0:=by
  intro c
  cases c with
  | zero=>exact .inr rfl
  | succ k=>exact .inl (by kernel_rfl)
theorem yY {H:AH} {id aD:Nat} {s:RS} (hob:H id=some (dI 131 aD s)):PC Tryz.prog 68 [.pt id aD 0 0] H (λ_ H'=>H'=upd H id (some (dI 131 aD ([],true)))):=by
  refine kG (c:=_) Tryz.func68 rfl rfl ?_
  intro Q hret hnorm
  refine bS ?_;intro K hK
  refine st rfl rfl rfl (bF rfl rfl) ?_
  refine st rfl rfl rfl (bF rfl rfl) ?_
  refine st rfl rfl rfl (fU rfl rfl (by first | exact .pp _ | exact .pt (rfl) rfl rfl | exact .pt (hob) rfl rfl | exact .pt (upd_same _ _ _) rfl rfl)) ?_
  refine st rfl rfl rfl (fT rfl qC rfl (by first | exact .pp _ | exact .pt (rfl) rfl rfl | exact .pt (hob) rfl rfl | exact .pt (upd_same _ _ _) rfl rfl) (by first | exact .pt _ _ _ _ _ | exact .pp _ _)) ?_
  refine oI rfl rfl (dZ rfl qM rfl rfl (by first | exact rfl | exact hob | exact upd_same _ _ _) rfl rfl rfl rfl rfl rfl) ?_
  refine st rfl rfl rfl (fU rfl rfl (by first | exact .pp _ | exact .pt (rfl) rfl rfl | exact .pt (hob) rfl rfl | exact .pt (upd_same _ _ _) rfl rfl)) ?_
  refine st rfl rfl rfl (fT rfl KV rfl (by first | exact .pp _ | exact .pt (rfl) rfl rfl | exact .pt (hob) rfl rfl | exact .pt (upd_same _ _ _) rfl rfl) (by first | exact .pt _ _ _ _ _ | exact .pp _ _)) ?_
  refine oI rfl rfl (dZ rfl vC rfl rfl (by first | exact rfl | exact hob | exact upd_same _ _ _) rfl rfl rfl rfl rfl rfl) ?_
  refine bQ (hK _ ?_);clear hK K
  refine l7 (hnorm _ _ _ .nil (λ_ _ h=>h) ?_)
  exact F5 _ _ _ _
theorem fH {H:AH} {id aD:Nat} {s:RS} (hob:H id=some (dI 131 aD s)) (hl:s.1.length<=9223372036854775806):PC Tryz.prog 39 [.pt id aD 0 0] H (λy H'=>y=int (dA s)/\H'=upd H id (some (dI 131 aD (dF s)))):=by
  refine kG (c:=_) Tryz.func39 rfl rfl ?_
  intro Q hret hnorm
  refine bN ?_
  refine bS ?_;intro K hK
  refine st rfl rfl rfl (dG rfl rfl) ?_
  refine bQ (hK _ ?_);clear hK K
  refine bN ?_
  refine bS ?_;intro K hK
  refine st rfl rfl rfl (dG rfl rfl) ?_
  refine bQ (hK _ ?_);clear hK K
  refine bN ?_
  refine bN ?_
  refine bS ?_;intro K hK
  refine st rfl rfl rfl (bF rfl rfl) ?_
  refine st rfl rfl rfl (fU rfl rfl (by first | exact .pp _ | exact .pt (rfl) rfl rfl | exact .pt (hob) rfl rfl | exact .pt (upd_same _ _ _) rfl rfl)) ?_
  refine st rfl rfl rfl (fT rfl qC rfl (by first | exact .pp _ | exact .pt (rfl) rfl rfl | exact .pt (hob) rfl rfl | exact .pt (upd_same _ _ _) rfl rfl) (by first | exact .pt _ _ _ _ _ | exact .pp _ _)) ?_
  refine st rfl rfl rfl (eT rfl qM rfl (by first | exact .pp _ | exact .pt (rfl) rfl rfl | exact .pt (hob) rfl rfl | exact .pt (upd_same _ _ _) rfl rfl) rfl) ?_
  refine st rfl rfl rfl (qB rfl Tryz.underlying9 rfl) ?_
  refine st rfl rfl rfl (bF rfl rfl) ?_
  refine bQ (hK _ ?_);clear hK K
  refine qL ?_;intro Q1 bn1 bx1 br1 bo1
  refine TE (ι:=Nat) (λk=>⟨kn [(0,.pt id aD 0 0),(3,.sc (.int .u64 (pre s.1 k:Nat))),(10,int s.1.length),(11,int k)],H⟩) (λk=>k<=9/\k<=s.1.length/\rd s.1 0 0=rd (s.1.drop k) k (pre s.1 k)/\pre s.1 k<2 ^ (7*k)) (λk=>s.1.length-k) 0 (by simp [pre]) (qK ⟨rfl,rfl,rfl,rfl,trivial⟩) ?_
  rintro k ⟨hk9,hkl,hrd0,hpre⟩ Q2 ln2 lx2 lr2
  refine bN ?_
  refine bS ?_;intro K hK
  refine st rfl rfl rfl (mU rfl rfl rfl) ?_
  refine bQ (hK _ ?_);clear hK K
  refine bN ?_
  refine o7 rfl ?_ ?_
  · intro h12
    have hklt:k<s.1.length:=by omega
    obtain ⟨c,hget⟩:∃ c,s.1[k]?=some c:=⟨_,List.getElem?_eq_getElem hklt⟩
    have hc:=c.toNat_lt
    have hc:c.toNat<256:=by simpa using hc
    have hp9:=aKV hk9
    refine kQ ?_
    refine bN ?_
    refine qL ?_;intro Q3 bn3 bx3 br3 bo3
    refine bN ?_
    refine bS ?_;intro K hK
    refine st rfl rfl rfl (bF rfl rfl) ?_
    refine st rfl rfl rfl (dG rfl rfl) ?_
    refine bQ (hK _ ?_);clear hK K
    refine bN ?_
    refine bS ?_;intro K hK
    refine st rfl rfl rfl (bF rfl rfl) ?_
    refine st rfl rfl rfl (fU rfl rfl (by first | exact .pp _ | exact .pt (rfl) rfl rfl | exact .pt (hob) rfl rfl | exact .pt (upd_same _ _ _) rfl rfl)) ?_
    refine st rfl rfl rfl (fT rfl qC rfl (by first | exact .pp _ | exact .pt (rfl) rfl rfl | exact .pt (hob) rfl rfl | exact .pt (upd_same _ _ _) rfl rfl) (by first | exact .pt _ _ _ _ _ | exact .pp _ _)) ?_
    refine st rfl rfl rfl (eT rfl qM rfl (by first | exact .pp _ | exact .pt (rfl) rfl rfl | exact .pt (hob) rfl rfl | exact .pt (upd_same _ _ _) rfl rfl) rfl) ?_
    refine st rfl rfl rfl (bF rfl rfl) ?_
    refine st rfl rfl rfl (zI rfl Tryz.underlying9 rfl rfl rfl hget) ?_
    refine st rfl rfl rfl (jS rfl Tryz.underlying5 Tryz.underlying108 rfl (BK (by omega))) ?_
    refine st rfl rfl rfl (dG rfl rfl) ?_
    refine bQ (hK _ ?_);clear hK K
    refine bN ?_
    refine bN ?_
    refine bS ?_;intro K hK
    refine st rfl rfl rfl (bF rfl rfl) ?_
    refine st rfl rfl rfl (wP rfl rfl rfl) ?_
    refine aER 22 false rfl (decide_eq_false (by omega)) ?_
    refine st rfl rfl rfl (bF rfl rfl) ?_
    refine st rfl rfl rfl (bF rfl rfl) ?_
    refine st rfl rfl rfl (aI rfl rfl rfl) ?_
    refine st rfl rfl rfl (bF rfl rfl) ?_
    refine DL 26 rfl ?_ ?_
    · intro g26
      have hk9e:k=9:=by omega
      refine st rfl rfl rfl (bF rfl rfl) ?_
      refine st rfl rfl rfl (wP rfl rfl rfl) ?_
      refine st rfl rfl rfl (gP rfl rfl (λ_=>rfl) (λ_=>rfl) rfl) ?_
      refine st rfl rfl rfl (gP rfl rfl (λ_=>rfl) (λ_=>rfl) rfl) ?_
      refine bQ (hK _ ?_);clear hK K
      refine o7 rfl ?_ ?_
      · intro h30
        have hrd:rd s.1 0 0=none:=by rw [hrd0];exact aJP hget (.inr ⟨by omega,by omega⟩)
        refine pP (bo3 _ _ (by decide) (lx2 _ _ (bx1 _ ?_)))
        refine bN ?_
        refine bS ?_;intro K hK
        refine st rfl rfl rfl (bF rfl rfl) ?_
        refine se rfl rfl rfl (aN rfl rfl (.cons rfl .nil) xQ (yY hob)) ?_
        rintro _ _ rfl
        refine bQ (hK _ ?_);clear hK K
        refine bN ?_
        refine bS ?_;intro K hK
        refine st rfl rfl rfl (dG rfl rfl) ?_
        refine bQ (hK _ ?_);clear hK K
        refine iG (hret _ _ _ (.tmp rfl .nil) (λ_ _ h=>h) ?_)
        first
        | (obtain ⟨e1,e2⟩:=vW hrd;rw [e1,e2];exact ⟨rfl,rfl⟩)
        | (obtain ⟨e1,e2⟩:=nI hrd;rw [e1,e2,<- hz];refine ⟨rfl,?_⟩;rw [List.take_length];rfl)
        | (obtain ⟨e1,e2⟩:=nI hrd;rw [e1,e2];refine ⟨rfl,?_⟩;rw [List.take_length];rfl)
      · intro h30
        refine kQ ?_
        refine bN ?_
        have hstop:¬ (9<k\/(k=9/\1<c.toNat)):=by omega
        have hsh:c.toNat % 128*2 ^ (7*k)<2 ^ 64:=OP hk9 (by omega) (by omega)
        have hor:pre s.1 k ||| c.toNat % 128*2 ^ (7*k)=pre s.1 k+c.toNat % 128*2 ^ (7*k):=TL hpre
        have hpl:pre s.1 k<2 ^ 64:=by omega
        have hpn:pre s.1 (k+1)=pre s.1 k+c.toNat % 128*2 ^ (7*k):=by simp only [pre];rw [ES hget]
        have hpn64:pre s.1 (k+1)<2 ^ 64:=by rw [hpn,<- hor];exact Nat.or_lt_two_pow hpl hsh
        refine bS ?_;intro K hK
        refine st rfl rfl rfl (bF rfl rfl) ?_
        refine st rfl rfl rfl (bF rfl rfl) ?_
        refine st rfl rfl rfl (zL (r:=((c.toNat % 128:Nat):Int)) rfl rfl rfl (by decide) rfl) ?_
        refine st rfl rfl rfl (bF rfl rfl) ?_
        refine st rfl rfl rfl (DY rfl rfl rfl (wrap64 (by omega))) ?_
        refine st rfl rfl rfl (wZ rfl rfl rfl (by omega) (X7 hk9 hsh)) ?_
        refine st rfl rfl rfl (xS (r:=((pre s.1 (k+1):Nat):Int)) rfl rfl rfl (by rw [UJ hpl hsh,hor,hpn])) ?_
        refine st rfl rfl rfl (dG rfl rfl) ?_
        refine bQ (hK _ ?_);clear hK K
        refine bN ?_
        refine bN ?_
        refine bS ?_;intro K hK
        refine st rfl rfl rfl (bF rfl rfl) ?_
        refine st rfl rfl rfl (qF rfl rfl rfl) ?_
        refine bQ (hK _ ?_);clear hK K
        refine o7 rfl ?_ ?_
        · intro h39
          refine pP (bx3 _ ?_)
          refine bS ?_;intro K hK
          refine st rfl rfl rfl (sD rfl rfl rfl (wrap64 (by omega))) ?_
          refine st rfl rfl rfl (bF rfl rfl) ?_
          refine bQ (hK _ ?_);clear hK K
          refine l7 (ln2 _ ⟨k+1,⟨?_,by omega,?_,SL _ hpre⟩,by omega,qK ⟨rfl,rfl,rfl,rfl,trivial⟩⟩)
          · omega
          · rw [hrd0,QY hget (by omega) (by omega)];simp only [pre];rw [ES hget]
        · intro h39
          refine kQ ?_
          refine bN ?_
          refine bN ?_
          refine bS ?_;intro K hK
          refine st rfl rfl rfl (bF rfl rfl) ?_
          refine st rfl rfl rfl (aI rfl rfl rfl) ?_
          refine st rfl rfl rfl (bF rfl rfl) ?_
          refine DL 42 rfl ?_ ?_
          · intro g42
            have hc0:c.toNat=0:=by omega
            refine st rfl rfl rfl (bF rfl rfl) ?_
            refine st rfl rfl rfl (wP rfl rfl rfl) ?_
            refine st rfl rfl rfl (gP rfl rfl (λ_=>rfl) (λ_=>rfl) rfl) ?_
            refine bQ (hK _ ?_);clear hK K
            refine o7 rfl ?_ ?_
            · intro h45
              have hrd:rd s.1 0 0=none:=by rw [hrd0];exact WY hget hc0 (by omega)
              refine pP (bo3 _ _ (by decide) (lx2 _ _ (bx1 _ ?_)))
              refine bN ?_
              refine bS ?_;intro K hK
              refine st rfl rfl rfl (bF rfl rfl) ?_
              refine se rfl rfl rfl (aN rfl rfl (.cons rfl .nil) xQ (yY hob)) ?_
              rintro _ _ rfl
              refine bQ (hK _ ?_);clear hK K
              refine bN ?_
              refine bS ?_;intro K hK
              refine st rfl rfl rfl (dG rfl rfl) ?_
              refine bQ (hK _ ?_);clear hK K
              refine iG (hret _ _ _ (.tmp rfl .nil) (λ_ _ h=>h) ?_)
              first
              | (obtain ⟨e1,e2⟩:=vW hrd;rw [e1,e2];exact ⟨rfl,rfl⟩)
              | (obtain ⟨e1,e2⟩:=nI hrd;rw [e1,e2,<- hz];refine ⟨rfl,?_⟩;rw [List.take_length];rfl)
              | (obtain ⟨e1,e2⟩:=nI hrd;rw [e1,e2];refine ⟨rfl,?_⟩;rw [List.take_length];rfl)
            · intro h45
              refine kQ ?_
              refine bN ?_
              have hrd:rd s.1 0 0=some (pre s.1 (k+1),s.1.drop (k+1)):=by rw [hrd0,E6 hget hstop (by omega) (by omega),hpn]
              refine bS ?_;intro K hK
              refine st rfl rfl rfl (bF rfl rfl) ?_
              refine st rfl rfl rfl (bF rfl rfl) ?_
              refine st rfl rfl rfl (fU rfl rfl (by first | exact .pp _ | exact .pt (rfl) rfl rfl | exact .pt (hob) rfl rfl | exact .pt (upd_same _ _ _) rfl rfl)) ?_
              refine st rfl rfl rfl (fT rfl qC rfl (by first | exact .pp _ | exact .pt (rfl) rfl rfl | exact .pt (hob) rfl rfl | exact .pt (upd_same _ _ _) rfl rfl) (by first | exact .pt _ _ _ _ _ | exact .pp _ _)) ?_
              refine st rfl rfl rfl (eT rfl qM rfl (by first | exact .pp _ | exact .pt (rfl) rfl rfl | exact .pt (hob) rfl rfl | exact .pt (upd_same _ _ _) rfl rfl) rfl) ?_
              refine st rfl rfl rfl (bF rfl rfl) ?_
              refine st rfl rfl rfl (sD rfl rfl rfl (wrap64 (by omega))) ?_
              refine st rfl rfl rfl (FM rfl Tryz.underlying9 rfl (.yes (i:=k+1) rfl (by omega)) .no (by omega) (Nat.le_refl _)) ?_
              refine st rfl rfl rfl (fU rfl rfl (by first | exact .pp _ | exact .pt (rfl) rfl rfl | exact .pt (hob) rfl rfl | exact .pt (upd_same _ _ _) rfl rfl)) ?_
              refine st rfl rfl rfl (fT rfl qC rfl (by first | exact .pp _ | exact .pt (rfl) rfl rfl | exact .pt (hob) rfl rfl | exact .pt (upd_same _ _ _) rfl rfl) (by first | exact .pt _ _ _ _ _ | exact .pp _ _)) ?_
              refine oI rfl rfl (dZ rfl qM rfl rfl (by first | exact rfl | exact hob | exact upd_same _ _ _) rfl rfl rfl rfl rfl rfl) ?_
              refine bQ (hK _ ?_);clear hK K
              refine bN ?_
              refine bS ?_;intro K hK
              refine st rfl rfl rfl (bF rfl rfl) ?_
              refine st rfl rfl rfl (rD rfl rfl rfl (by omega) FC) ?_
              refine st rfl rfl rfl (jS rfl Tryz.underlying108 Tryz.underlying3 rfl (wrap64 (by omega))) ?_
              refine st rfl rfl rfl (bF rfl rfl) ?_
              refine st rfl rfl rfl (yQ rfl rfl rfl (FR hpn64)) ?_
              refine st rfl rfl rfl (jS rfl Tryz.underlying108 Tryz.underlying3 rfl (wrap64 (by omega))) ?_
              refine st rfl rfl rfl (AX (r:=-((pre s.1 (k+1) % 2:Nat):Int)) rfl rfl (by rw [wrap64 (by omega)];omega)) ?_
              refine st rfl rfl rfl (AP (r:=uS (pre s.1 (k+1))) rfl rfl rfl (by rw [FK (show pre s.1 (k+1) / 2<2 ^ 63 by omega) (show pre s.1 (k+1) % 2=0\/pre s.1 (k+1) % 2=1 by omega)];exact (AN _).symm)) ?_
              refine st rfl rfl rfl (dG rfl rfl) ?_
              refine bQ (hK _ ?_);clear hK K
              refine iG (br3 _ (lr2 _ (br1 _ (hret _ _ _ (.tmp rfl .nil) (λ_ _ h=>h) ?_))))
              first
              | (obtain ⟨e1,e2⟩:=vW hrd;rw [e1,e2];exact ⟨rfl,rfl⟩)
              | (obtain ⟨e1,e2⟩:=nI hrd;rw [e1,e2,<- hz];refine ⟨rfl,?_⟩;rw [List.take_length];rfl)
              | (obtain ⟨e1,e2⟩:=nI hrd;rw [e1,e2];refine ⟨rfl,?_⟩;rw [List.take_length];rfl)
          · intro g42
            have hc0:c.toNat≠0:=by omega
            refine sk rfl rfl rfl ?_
            refine sk rfl rfl rfl ?_
            refine st rfl rfl rfl (gP rfl rfl (λ_=>rfl) (λ_=>rfl) rfl) ?_
            refine bQ (hK _ ?_);clear hK K
            refine sN rfl ?_
            refine kQ ?_
            refine bN ?_
            have hrd:rd s.1 0 0=some (pre s.1 (k+1),s.1.drop (k+1)):=by rw [hrd0,E6 hget hstop (by omega) (by omega),hpn]
            refine bS ?_;intro K hK
            refine st rfl rfl rfl (bF rfl rfl) ?_
            refine st rfl rfl rfl (bF rfl rfl) ?_
            refine st rfl rfl rfl (fU rfl rfl (by first | exact .pp _ | exact .pt (rfl) rfl rfl | exact .pt (hob) rfl rfl | exact .pt (upd_same _ _ _) rfl rfl)) ?_
            refine st rfl rfl rfl (fT rfl qC rfl (by first | exact .pp _ | exact .pt (rfl) rfl rfl | exact .pt (hob) rfl rfl | exact .pt (upd_same _ _ _) rfl rfl) (by first | exact .pt _ _ _ _ _ | exact .pp _ _)) ?_
            refine st rfl rfl rfl (eT rfl qM rfl (by first | exact .pp _ | exact .pt (rfl) rfl rfl | exact .pt (hob) rfl rfl | exact .pt (upd_same _ _ _) rfl rfl) rfl) ?_
            refine st rfl rfl rfl (bF rfl rfl) ?_
            refine st rfl rfl rfl (sD rfl rfl rfl (wrap64 (by omega))) ?_
            refine st rfl rfl rfl (FM rfl Tryz.underlying9 rfl (.yes (i:=k+1) rfl (by omega)) .no (by omega) (Nat.le_refl _)) ?_
            refine st rfl rfl rfl (fU rfl rfl (by first | exact .pp _ | exact .pt (rfl) rfl rfl | exact .pt (hob) rfl rfl | exact .pt (upd_same _ _ _) rfl rfl)) ?_
            refine st rfl rfl rfl (fT rfl qC rfl (by first | exact .pp _ | exact .pt (rfl) rfl rfl | exact .pt (hob) rfl rfl | exact .pt (upd_same _ _ _) rfl rfl) (by first | exact .pt _ _ _ _ _ | exact .pp _ _)) ?_
            refine oI rfl rfl (dZ rfl qM rfl rfl (by first | exact rfl | exact hob | exact upd_same _ _ _) rfl rfl rfl rfl rfl rfl) ?_
            refine bQ (hK _ ?_);clear hK K
            refine bN ?_
            refine bS ?_;intro K hK
            refine st rfl rfl rfl (bF rfl rfl) ?_
            refine st rfl rfl rfl (rD rfl rfl rfl (by omega) FC) ?_
            refine st rfl rfl rfl (jS rfl Tryz.underlying108 Tryz.underlying3 rfl (wrap64 (by omega))) ?_
            refine st rfl rfl rfl (bF rfl rfl) ?_
            refine st rfl rfl rfl (yQ rfl rfl rfl (FR hpn64)) ?_
            refine st rfl rfl rfl (jS rfl Tryz.underlying108 Tryz.underlying3 rfl (wrap64 (by omega))) ?_
            refine st rfl rfl rfl (AX (r:=-((pre s.1 (k+1) % 2:Nat):Int)) rfl rfl (by rw [wrap64 (by omega)];omega)) ?_
            refine st rfl rfl rfl (AP (r:=uS (pre s.1 (k+1))) rfl rfl rfl (by rw [FK (show pre s.1 (k+1) / 2<2 ^ 63 by omega) (show pre s.1 (k+1) % 2=0\/pre s.1 (k+1) % 2=1 by omega)];exact (AN _).symm)) ?_
            refine st rfl rfl rfl (dG rfl rfl) ?_
            refine bQ (hK _ ?_);clear hK K
            refine iG (br3 _ (lr2 _ (br1 _ (hret _ _ _ (.tmp rfl .nil) (λ_ _ h=>h) ?_))))
            first
            | (obtain ⟨e1,e2⟩:=vW hrd;rw [e1,e2];exact ⟨rfl,rfl⟩)
            | (obtain ⟨e1,e2⟩:=nI hrd;rw [e1,e2,<- hz];refine ⟨rfl,?_⟩;rw [List.take_length];rfl)
            | (obtain ⟨e1,e2⟩:=nI hrd;rw [e1,e2];refine ⟨rfl,?_⟩;rw [List.take_length];rfl)
    · intro g26
      have hk9n:k≠9:=by omega
      refine sk rfl rfl rfl ?_
      refine sk rfl rfl rfl ?_
      refine st rfl rfl rfl (gP rfl rfl (λ_=>rfl) (λ_=>rfl) rfl) ?_
      refine st rfl rfl rfl (gP rfl rfl (λ_=>rfl) (λ_=>rfl) rfl) ?_
      refine bQ (hK _ ?_);clear hK K
      refine sN rfl ?_
      refine kQ ?_
      refine bN ?_
      have hstop:¬ (9<k\/(k=9/\1<c.toNat)):=by omega
      have hsh:c.toNat % 128*2 ^ (7*k)<2 ^ 64:=OP hk9 (by omega) (by omega)
      have hor:pre s.1 k ||| c.toNat % 128*2 ^ (7*k)=pre s.1 k+c.toNat % 128*2 ^ (7*k):=TL hpre
      have hpl:pre s.1 k<2 ^ 64:=by omega
      have hpn:pre s.1 (k+1)=pre s.1 k+c.toNat % 128*2 ^ (7*k):=by simp only [pre];rw [ES hget]
      have hpn64:pre s.1 (k+1)<2 ^ 64:=by rw [hpn,<- hor];exact Nat.or_lt_two_pow hpl hsh
      refine bS ?_;intro K hK
      refine st rfl rfl rfl (bF rfl rfl) ?_
      refine st rfl rfl rfl (bF rfl rfl) ?_
      refine st rfl rfl rfl (zL (r:=((c.toNat % 128:Nat):Int)) rfl rfl rfl (by decide) rfl) ?_
      refine st rfl rfl rfl (bF rfl rfl) ?_
      refine st rfl rfl rfl (DY rfl rfl rfl (wrap64 (by omega))) ?_
      refine st rfl rfl rfl (wZ rfl rfl rfl (by omega) (X7 hk9 hsh)) ?_
      refine st rfl rfl rfl (xS (r:=((pre s.1 (k+1):Nat):Int)) rfl rfl rfl (by rw [UJ hpl hsh,hor,hpn])) ?_
      refine st rfl rfl rfl (dG rfl rfl) ?_
      refine bQ (hK _ ?_);clear hK K
      refine bN ?_
      refine bN ?_
      refine bS ?_;intro K hK
      refine st rfl rfl rfl (bF rfl rfl) ?_
      refine st rfl rfl rfl (qF rfl rfl rfl) ?_
      refine bQ (hK _ ?_);clear hK K
      refine o7 rfl ?_ ?_
      · intro h39
        refine pP (bx3 _ ?_)
        refine bS ?_;intro K hK
        refine st rfl rfl rfl (sD rfl rfl rfl (wrap64 (by omega))) ?_
        refine st rfl rfl rfl (bF rfl rfl) ?_
        refine bQ (hK _ ?_);clear hK K
        refine l7 (ln2 _ ⟨k+1,⟨?_,by omega,?_,SL _ hpre⟩,by omega,qK ⟨rfl,rfl,rfl,rfl,trivial⟩⟩)
        · omega
        · rw [hrd0,QY hget (by omega) (by omega)];simp only [pre];rw [ES hget]
      · intro h39
        refine kQ ?_
        refine bN ?_
        refine bN ?_
        refine bS ?_;intro K hK
        refine st rfl rfl rfl (bF rfl rfl) ?_
        refine st rfl rfl rfl (aI rfl rfl rfl) ?_
        refine st rfl rfl rfl (bF rfl rfl) ?_
        refine DL 42 rfl ?_ ?_
        · intro g42
          have hc0:c.toNat=0:=by omega
          refine st rfl rfl rfl (bF rfl rfl) ?_
          refine st rfl rfl rfl (wP rfl rfl rfl) ?_
          refine st rfl rfl rfl (gP rfl rfl (λ_=>rfl) (λ_=>rfl) rfl) ?_
          refine bQ (hK _ ?_);clear hK K
          refine o7 rfl ?_ ?_
          · intro h45
            have hrd:rd s.1 0 0=none:=by rw [hrd0];exact WY hget hc0 (by omega)
            refine pP (bo3 _ _ (by decide) (lx2 _ _ (bx1 _ ?_)))
            refine bN ?_
            refine bS ?_;intro K hK
            refine st rfl rfl rfl (bF rfl rfl) ?_
            refine se rfl rfl rfl (aN rfl rfl (.cons rfl .nil) xQ (yY hob)) ?_
            rintro _ _ rfl
            refine bQ (hK _ ?_);clear hK K
            refine bN ?_
            refine bS ?_;intro K hK
            refine st rfl rfl rfl (dG rfl rfl) ?_
            refine bQ (hK _ ?_);clear hK K
            refine iG (hret _ _ _ (.tmp rfl .nil) (λ_ _ h=>h) ?_)
            first
            | (obtain ⟨e1,e2⟩:=vW hrd;rw [e1,e2];exact ⟨rfl,rfl⟩)
            | (obtain ⟨e1,e2⟩:=nI hrd;rw [e1,e2,<- hz];refine ⟨rfl,?_⟩;rw [List.take_length];rfl)
            | (obtain ⟨e1,e2⟩:=nI hrd;rw [e1,e2];refine ⟨rfl,?_⟩;rw [List.take_length];rfl)
          · intro h45
            refine kQ ?_
            refine bN ?_
            have hrd:rd s.1 0 0=some (pre s.1 (k+1),s.1.drop (k+1)):=by rw [hrd0,E6 hget hstop (by omega) (by omega),hpn]
            refine bS ?_;intro K hK
            refine st rfl rfl rfl (bF rfl rfl) ?_
            refine st rfl rfl rfl (bF rfl rfl) ?_
            refine st rfl rfl rfl (fU rfl rfl (by first | exact .pp _ | exact .pt (rfl) rfl rfl | exact .pt (hob) rfl rfl | exact .pt (upd_same _ _ _) rfl rfl)) ?_
            refine st rfl rfl rfl (fT rfl qC rfl (by first | exact .pp _ | exact .pt (rfl) rfl rfl | exact .pt (hob) rfl rfl | exact .pt (upd_same _ _ _) rfl rfl) (by first | exact .pt _ _ _ _ _ | exact .pp _ _)) ?_
            refine st rfl rfl rfl (eT rfl qM rfl (by first | exact .pp _ | exact .pt (rfl) rfl rfl | exact .pt (hob) rfl rfl | exact .pt (upd_same _ _ _) rfl rfl) rfl) ?_
            refine st rfl rfl rfl (bF rfl rfl) ?_
            refine st rfl rfl rfl (sD rfl rfl rfl (wrap64 (by omega))) ?_
            refine st rfl rfl rfl (FM rfl Tryz.underlying9 rfl (.yes (i:=k+1) rfl (by omega)) .no (by omega) (Nat.le_refl _)) ?_
            refine st rfl rfl rfl (fU rfl rfl (by first | exact .pp _ | exact .pt (rfl) rfl rfl | exact .pt (hob) rfl rfl | exact .pt (upd_same _ _ _) rfl rfl)) ?_
            refine st rfl rfl rfl (fT rfl qC rfl (by first | exact .pp _ | exact .pt (rfl) rfl rfl | exact .pt (hob) rfl rfl | exact .pt (upd_same _ _ _) rfl rfl) (by first | exact .pt _ _ _ _ _ | exact .pp _ _)) ?_
            refine oI rfl rfl (dZ rfl qM rfl rfl (by first | exact rfl | exact hob | exact upd_same _ _ _) rfl rfl rfl rfl rfl rfl) ?_
            refine bQ (hK _ ?_);clear hK K
            refine bN ?_
            refine bS ?_;intro K hK
            refine st rfl rfl rfl (bF rfl rfl) ?_
            refine st rfl rfl rfl (rD rfl rfl rfl (by omega) FC) ?_
            refine st rfl rfl rfl (jS rfl Tryz.underlying108 Tryz.underlying3 rfl (wrap64 (by omega))) ?_
            refine st rfl rfl rfl (bF rfl rfl) ?_
            refine st rfl rfl rfl (yQ rfl rfl rfl (FR hpn64)) ?_
            refine st rfl rfl rfl (jS rfl Tryz.underlying108 Tryz.underlying3 rfl (wrap64 (by omega))) ?_
            refine st rfl rfl rfl (AX (r:=-((pre s.1 (k+1) % 2:Nat):Int)) rfl rfl (by rw [wrap64 (by omega)];omega)) ?_
            refine st rfl rfl rfl (AP (r:=uS (pre s.1 (k+1))) rfl rfl rfl (by rw [FK (show pre s.1 (k+1) / 2<2 ^ 63 by omega) (show pre s.1 (k+1) % 2=0\/pre s.1 (k+1) % 2=1 by omega)];exact (AN _).symm)) ?_
            refine st rfl rfl rfl (dG rfl rfl) ?_
            refine bQ (hK _ ?_);clear hK K
            refine iG (br3 _ (lr2 _ (br1 _ (hret _ _ _ (.tmp rfl .nil) (λ_ _ h=>h) ?_))))
            first
            | (obtain ⟨e1,e2⟩:=vW hrd;rw [e1,e2];exact ⟨rfl,rfl⟩)
            | (obtain ⟨e1,e2⟩:=nI hrd;rw [e1,e2,<- hz];refine ⟨rfl,?_⟩;rw [List.take_length];rfl)
            | (obtain ⟨e1,e2⟩:=nI hrd;rw [e1,e2];refine ⟨rfl,?_⟩;rw [List.take_length];rfl)
        · intro g42
          have hc0:c.toNat≠0:=by omega
          refine sk rfl rfl rfl ?_
          refine sk rfl rfl rfl ?_
          refine st rfl rfl rfl (gP rfl rfl (λ_=>rfl) (λ_=>rfl) rfl) ?_
          refine bQ (hK _ ?_);clear hK K
          refine sN rfl ?_
          refine kQ ?_
          refine bN ?_
          have hrd:rd s.1 0 0=some (pre s.1 (k+1),s.1.drop (k+1)):=by rw [hrd0,E6 hget hstop (by omega) (by omega),hpn]
          refine bS ?_;intro K hK
          refine st rfl rfl rfl (bF rfl rfl) ?_
          refine st rfl rfl rfl (bF rfl rfl) ?_
          refine st rfl rfl rfl (fU rfl rfl (by first | exact .pp _ | exact .pt (rfl) rfl rfl | exact .pt (hob) rfl rfl | exact .pt (upd_same _ _ _) rfl rfl)) ?_
          refine st rfl rfl rfl (fT rfl qC rfl (by first | exact .pp _ | exact .pt (rfl) rfl rfl | exact .pt (hob) rfl rfl | exact .pt (upd_same _ _ _) rfl rfl) (by first | exact .pt _ _ _ _ _ | exact .pp _ _)) ?_
          refine st rfl rfl rfl (eT rfl qM rfl (by first | exact .pp _ | exact .pt (rfl) rfl rfl | exact .pt (hob) rfl rfl | exact .pt (upd_same _ _ _) rfl rfl) rfl) ?_
          refine st rfl rfl rfl (bF rfl rfl) ?_
          refine st rfl rfl rfl (sD rfl rfl rfl (wrap64 (by omega))) ?_
          refine st rfl rfl rfl (FM rfl Tryz.underlying9 rfl (.yes (i:=k+1) rfl (by omega)) .no (by omega) (Nat.le_refl _)) ?_
          refine st rfl rfl rfl (fU rfl rfl (by first | exact .pp _ | exact .pt (rfl) rfl rfl | exact .pt (hob) rfl rfl | exact .pt (upd_same _ _ _) rfl rfl)) ?_
          refine st rfl rfl rfl (fT rfl qC rfl (by first | exact .pp _ | exact .pt (rfl) rfl rfl | exact .pt (hob) rfl rfl | exact .pt (upd_same _ _ _) rfl rfl) (by first | exact .pt _ _ _ _ _ | exact .pp _ _)) ?_
          refine oI rfl rfl (dZ rfl qM rfl rfl (by first | exact rfl | exact hob | exact upd_same _ _ _) rfl rfl rfl rfl rfl rfl) ?_
          refine bQ (hK _ ?_);clear hK K
          refine bN ?_
          refine bS ?_;intro K hK
          refine st rfl rfl rfl (bF rfl rfl) ?_
          refine st rfl rfl rfl (rD rfl rfl rfl (by omega) FC) ?_
          refine st rfl rfl rfl (jS rfl Tryz.underlying108 Tryz.underlying3 rfl (wrap64 (by omega))) ?_
          refine st rfl rfl rfl (bF rfl rfl) ?_
          refine st rfl rfl rfl (yQ rfl rfl rfl (FR hpn64)) ?_
          refine st rfl rfl rfl (jS rfl Tryz.underlying108 Tryz.underlying3 rfl (wrap64 (by omega))) ?_
          refine st rfl rfl rfl (AX (r:=-((pre s.1 (k+1) % 2:Nat):Int)) rfl rfl (by rw [wrap64 (by omega)];omega)) ?_
          refine st rfl rfl rfl (AP (r:=uS (pre s.1 (k+1))) rfl rfl rfl (by rw [FK (show pre s.1 (k+1) / 2<2 ^ 63 by omega) (show pre s.1 (k+1) % 2=0\/pre s.1 (k+1) % 2=1 by omega)];exact (AN _).symm)) ?_
          refine st rfl rfl rfl (dG rfl rfl) ?_
          refine bQ (hK _ ?_);clear hK K
          refine iG (br3 _ (lr2 _ (br1 _ (hret _ _ _ (.tmp rfl .nil) (λ_ _ h=>h) ?_))))
          first
          | (obtain ⟨e1,e2⟩:=vW hrd;rw [e1,e2];exact ⟨rfl,rfl⟩)
          | (obtain ⟨e1,e2⟩:=nI hrd;rw [e1,e2,<- hz];refine ⟨rfl,?_⟩;rw [List.take_length];rfl)
          | (obtain ⟨e1,e2⟩:=nI hrd;rw [e1,e2];refine ⟨rfl,?_⟩;rw [List.take_length];rfl)
  · intro h12
    have hrd:rd s.1 0 0=none:=by rw [hrd0];exact aDT (by omega)
    refine pP (lx2 _ _ (bx1 _ ?_))
    refine bN ?_
    refine bS ?_;intro K hK
    refine st rfl rfl rfl (bF rfl rfl) ?_
    refine se rfl rfl rfl (aN rfl rfl (.cons rfl .nil) xQ (yY hob)) ?_
    rintro _ _ rfl
    refine bQ (hK _ ?_);clear hK K
    refine bN ?_
    refine bS ?_;intro K hK
    refine st rfl rfl rfl (dG rfl rfl) ?_
    refine bQ (hK _ ?_);clear hK K
    refine iG (hret _ _ _ (.tmp rfl .nil) (λ_ _ h=>h) ?_)
    first
    | (obtain ⟨e1,e2⟩:=vW hrd;rw [e1,e2];exact ⟨rfl,rfl⟩)
    | (obtain ⟨e1,e2⟩:=nI hrd;rw [e1,e2,<- hz];refine ⟨rfl,?_⟩;rw [List.take_length];rfl)
    | (obtain ⟨e1,e2⟩:=nI hrd;rw [e1,e2];refine ⟨rfl,?_⟩;rw [List.take_length];rfl)
theorem CJ {H:AH} {id aD:Nat} {s:RS} {most:Int} (hob:H id=some (dI 131 aD s)) (hl:s.1.length<=9223372036854775806):PC Tryz.prog 33 [.pt id aD 0 0,int most] H (λy H'=>y=int (dU s most)/\H'=upd H id (some (dI 131 aD (dW s most)))):=by
  refine kG (c:=_) Tryz.func33 rfl rfl ?_
  intro Q hret hnorm
  refine bN ?_
  refine bS ?_;intro K hK
  refine st rfl rfl rfl (dG rfl rfl) ?_
  refine bQ (hK _ ?_);clear hK K
  refine bN ?_
  refine bS ?_;intro K hK
  refine st rfl rfl rfl (bF rfl rfl) ?_
  refine se rfl rfl rfl (aN rfl rfl (.cons rfl .nil) fP (fH hob hl)) ?_
  rintro _ _ ⟨rfl,rfl⟩
  refine st rfl rfl rfl (dG rfl rfl) ?_
  refine bQ (hK _ ?_);clear hK K
  refine bN ?_
  refine bN ?_
  refine bS ?_;intro K hK
  refine st rfl rfl rfl (bF rfl rfl) ?_
  refine st rfl rfl rfl (mU rfl rfl rfl) ?_
  refine st rfl rfl rfl (bF rfl rfl) ?_
  refine DL 10 rfl ?_ ?_
  · intro g10
    have hcnd:dA s<0\/most<dA s:=by omega
    refine sk rfl rfl rfl ?_
    refine sk rfl rfl rfl ?_
    refine sk rfl rfl rfl ?_
    refine st rfl rfl rfl (gP rfl rfl (λ_=>rfl) (λ_=>rfl) rfl) ?_
    refine bQ (hK _ ?_);clear hK K
    refine BM rfl ?_
    refine bN ?_
    refine bS ?_;intro K hK
    refine st rfl rfl rfl (bF rfl rfl) ?_
    refine se rfl rfl rfl (aN rfl rfl (.cons rfl .nil) xQ (yY (upd_same _ _ _))) ?_
    rintro _ _ rfl
    refine bQ (hK _ ?_);clear hK K
    refine bN ?_
    refine bS ?_;intro K hK
    refine st rfl rfl rfl (dG rfl rfl) ?_
    refine bQ (hK _ ?_);clear hK K
    refine iG (hret _ _ _ (.tmp rfl .nil) (λ_ _ h=>h) ?_)
    refine ⟨?_,?_⟩
    · unfold dU;first | (rw [if_pos hcnd];try rfl) | (rw [if_neg hcnd];try rfl)
    · unfold dW;first | (rw [if_pos hcnd];exact F5 _ _ _ _) | (rw [if_neg hcnd];try rfl)
  · intro g10
    refine st rfl rfl rfl (bF rfl rfl) ?_
    refine st rfl rfl rfl (bF rfl rfl) ?_
    refine st rfl rfl rfl (wP rfl rfl rfl) ?_
    refine st rfl rfl rfl (gP rfl rfl (λ_=>rfl) (λ_=>rfl) rfl) ?_
    refine bQ (hK _ ?_);clear hK K
    refine o7 rfl ?_ ?_
    · intro h14
      have hcnd:dA s<0\/most<dA s:=by omega
      refine bN ?_
      refine bS ?_;intro K hK
      refine st rfl rfl rfl (bF rfl rfl) ?_
      refine se rfl rfl rfl (aN rfl rfl (.cons rfl .nil) xQ (yY (upd_same _ _ _))) ?_
      rintro _ _ rfl
      refine bQ (hK _ ?_);clear hK K
      refine bN ?_
      refine bS ?_;intro K hK
      refine st rfl rfl rfl (dG rfl rfl) ?_
      refine bQ (hK _ ?_);clear hK K
      refine iG (hret _ _ _ (.tmp rfl .nil) (λ_ _ h=>h) ?_)
      refine ⟨?_,?_⟩
      · unfold dU;first | (rw [if_pos hcnd];try rfl) | (rw [if_neg hcnd];try rfl)
      · unfold dW;first | (rw [if_pos hcnd];exact F5 _ _ _ _) | (rw [if_neg hcnd];try rfl)
    · intro h14
      have hcnd:¬ (dA s<0\/most<dA s):=by omega
      refine kQ ?_
      refine bN ?_
      refine bS ?_;intro K hK
      refine st rfl rfl rfl (bF rfl rfl) ?_
      refine st rfl rfl rfl (dG rfl rfl) ?_
      refine bQ (hK _ ?_);clear hK K
      refine iG (hret _ _ _ (.tmp rfl .nil) (λ_ _ h=>h) ?_)
      refine ⟨?_,?_⟩
      · unfold dU;first | (rw [if_pos hcnd];try rfl) | (rw [if_neg hcnd];try rfl)
      · unfold dW;first | (rw [if_pos hcnd];exact F5 _ _ _ _) | (rw [if_neg hcnd];try rfl)
theorem mF {H:AH} {id aD:Nat} {s:RS} (hob:H id=some (dI 131 aD s)):PC Tryz.prog 36 [.pt id aD 0 0] H (λy H'=>y=aB s.2/\H'=H):=by
  refine kG (c:=_) Tryz.func36 rfl rfl ?_
  intro Q hret hnorm
  refine bN ?_
  refine bS ?_;intro K hK
  refine st rfl rfl rfl (dG rfl rfl) ?_
  refine bQ (hK _ ?_);clear hK K
  refine bN ?_
  refine bS ?_;intro K hK
  refine st rfl rfl rfl (bF rfl rfl) ?_
  refine st rfl rfl rfl (fU rfl rfl (by first | exact .pp _ | exact .pt (rfl) rfl rfl | exact .pt (hob) rfl rfl | exact .pt (upd_same _ _ _) rfl rfl)) ?_
  refine st rfl rfl rfl (fT rfl KV rfl (by first | exact .pp _ | exact .pt (rfl) rfl rfl | exact .pt (hob) rfl rfl | exact .pt (upd_same _ _ _) rfl rfl) (by first | exact .pt _ _ _ _ _ | exact .pp _ _)) ?_
  refine st rfl rfl rfl (eT rfl vC rfl (by first | exact .pp _ | exact .pt (rfl) rfl rfl | exact .pt (hob) rfl rfl | exact .pt (upd_same _ _ _) rfl rfl) rfl) ?_
  refine st rfl rfl rfl (dG rfl rfl) ?_
  refine bQ (hK _ ?_);clear hK K
  refine iG (hret _ _ _ (.tmp rfl .nil) (λ_ _ h=>h) ?_)
  exact ⟨rfl,rfl⟩
theorem PR {H:AH} {id aD:Nat} {s:RS} (hob:H id=some (dI 131 aD s)):PC Tryz.prog 37 [.pt id aD 0 0] H (λy H'=>y=int s.1.length/\H'=H):=by
  refine kG (c:=_) Tryz.func37 rfl rfl ?_
  intro Q hret hnorm
  refine bN ?_
  refine bS ?_;intro K hK
  refine st rfl rfl rfl (dG rfl rfl) ?_
  refine bQ (hK _ ?_);clear hK K
  refine bN ?_
  refine bS ?_;intro K hK
  refine st rfl rfl rfl (bF rfl rfl) ?_
  refine st rfl rfl rfl (fU rfl rfl (by first | exact .pp _ | exact .pt (rfl) rfl rfl | exact .pt (hob) rfl rfl | exact .pt (upd_same _ _ _) rfl rfl)) ?_
  refine st rfl rfl rfl (fT rfl qC rfl (by first | exact .pp _ | exact .pt (rfl) rfl rfl | exact .pt (hob) rfl rfl | exact .pt (upd_same _ _ _) rfl rfl) (by first | exact .pt _ _ _ _ _ | exact .pp _ _)) ?_
  refine st rfl rfl rfl (eT rfl qM rfl (by first | exact .pp _ | exact .pt (rfl) rfl rfl | exact .pt (hob) rfl rfl | exact .pt (upd_same _ _ _) rfl rfl) rfl) ?_
  refine st rfl rfl rfl (qB rfl Tryz.underlying9 rfl) ?_
  refine st rfl rfl rfl (dG rfl rfl) ?_
  refine bQ (hK _ ?_);clear hK K
  refine iG (hret _ _ _ (.tmp rfl .nil) (λ_ _ h=>h) ?_)
  exact ⟨rfl,rfl⟩
theorem aEV {H:AH} {id aD bx bv:Nat} {s:RS} (hb1:H bx=some ⟨81,1,true,true,bv,[[.pt id aD 0 0]]⟩) (hob:H id=some (dI 131 aD s)):PC Tryz.prog 69 [.pt bx bv 0 0] H (λy H'=>y=aB (!s.2)/\H'=H):=by
  refine kG (c:=_) Tryz.func69 rfl rfl ?_
  intro Q hret hnorm
  refine bN ?_
  refine bS ?_;intro K hK
  refine st rfl rfl rfl (dG rfl rfl) ?_
  refine bQ (hK _ ?_);clear hK K
  refine bN ?_
  refine bS ?_;intro K hK
  refine st rfl rfl rfl (eT rfl xI rfl (by first | exact .pp _ | exact .pt (rfl) rfl rfl | exact .pt (hob) rfl rfl | exact .pt (upd_same _ _ _) rfl rfl | exact .pt (hb1) rfl rfl | exact .pt ((upd_ne _ _ hne).trans hob) rfl rfl | exact .pt ((upd_ne _ _ hne1).trans hb1) rfl rfl | exact .pt (hb2) rfl rfl | exact .pt (hb3) rfl rfl) rfl) ?_
  refine st rfl rfl rfl (fU rfl rfl (by first | exact .pp _ | exact .pt (rfl) rfl rfl | exact .pt (hob) rfl rfl | exact .pt (upd_same _ _ _) rfl rfl | exact .pt (hb1) rfl rfl | exact .pt ((upd_ne _ _ hne).trans hob) rfl rfl | exact .pt ((upd_ne _ _ hne1).trans hb1) rfl rfl | exact .pt (hb2) rfl rfl | exact .pt (hb3) rfl rfl)) ?_
  refine st rfl rfl rfl (fT rfl KV rfl (by first | exact .pp _ | exact .pt (rfl) rfl rfl | exact .pt (hob) rfl rfl | exact .pt (upd_same _ _ _) rfl rfl | exact .pt (hb1) rfl rfl | exact .pt ((upd_ne _ _ hne).trans hob) rfl rfl | exact .pt ((upd_ne _ _ hne1).trans hb1) rfl rfl | exact .pt (hb2) rfl rfl | exact .pt (hb3) rfl rfl) (by first | exact .pt _ _ _ _ _ | exact .pp _ _)) ?_
  refine st rfl rfl rfl (eT rfl vC rfl (by first | exact .pp _ | exact .pt (rfl) rfl rfl | exact .pt (hob) rfl rfl | exact .pt (upd_same _ _ _) rfl rfl | exact .pt (hb1) rfl rfl | exact .pt ((upd_ne _ _ hne).trans hob) rfl rfl | exact .pt ((upd_ne _ _ hne1).trans hb1) rfl rfl | exact .pt (hb2) rfl rfl | exact .pt (hb3) rfl rfl) rfl) ?_
  refine st rfl rfl rfl (EA rfl rfl rfl) ?_
  refine st rfl rfl rfl (dG rfl rfl) ?_
  refine bQ (hK _ ?_);clear hK K
  refine iG (hret _ _ _ (.tmp rfl .nil) (λ_ _ h=>h) ?_)
  exact ⟨rfl,rfl⟩
theorem FZ {H:AH} {id aD:Nat} {s:RS} {most:Int} (hob:H id=some (dI 131 aD s)) (hl:s.1.length<=1099511627776) (hs:nA s) (hf2:H 34002=none) (hf5:H 34005=none):PC Tryz.prog 34 [.pt id aD 0 0,int most] H (λy H'=>y=ints (nV s most)/\H'=upd H id (some (dI 131 aD (oQ s most)))):=by
  have n2:id≠34002:=λe=>by rw [e,hf2] at hob;cases hob
  have n5:id≠34005:=λe=>by rw [e,hf5] at hob;cases hob
  have hs1:=z8 hs most
  have hc0:=N7 s most
  have hcl:=BU s most
  have n25:34002≠34005:=by decide
  have hb5:∀ v2,upd H 34002 (some (⟨81,1,true,true,v2,[[.pt id aD 0 0]]⟩:bA)) 34005=none:=λv2=>(upd_ne _ _ (Ne.symm n25)).trans hf5
  refine kG (c:=_) Tryz.func34 rfl rfl ?_
  intro Q hret hnorm
  refine bN ?_
  refine bS ?_;intro K hK
  refine se rfl rfl rfl (G6 34002 .any rfl rfl rfl) ?_
  rintro _ _ ⟨v2,-,rfl,rfl⟩
  refine st rfl rfl rfl (dG rfl rfl) ?_
  refine bQ (hK _ ?_);clear hK K
  refine bN ?_
  refine bS ?_;intro K hK
  refine st rfl rfl rfl (dG rfl rfl) ?_
  refine bQ (hK _ ?_);clear hK K
  refine bN ?_
  refine bS ?_;intro K hK
  refine st rfl rfl rfl (eT rfl xI rfl (by first | exact .pp _ | exact .pt (rfl) rfl rfl | exact .pt (upd_same _ _ _) rfl rfl | exact .pt ((upd_ne _ _ n2).trans hob) rfl rfl | exact .pt (hbx) rfl rfl | exact .pt (bR (Ne.symm n5) rfl) rfl rfl) rfl) ?_
  refine st rfl rfl rfl (K8 rfl (.cons rfl .nil) .nil) ?_
  refine st rfl rfl rfl (K8 rfl .nil (.cons rfl .nil)) ?_
  refine st rfl rfl rfl (dG rfl rfl) ?_
  refine st rfl rfl rfl (dG rfl rfl) ?_
  refine bQ (hK _ ?_);clear hK K
  refine bN ?_
  refine bN ?_
  refine bS ?_;intro K hK
  have hbx:=upd_same H 34002 (some (⟨81,1,true,true,v2,[[.pt id aD 0 0]]⟩:bA))
  refine st rfl rfl rfl (eT rfl xI rfl (by first | exact .pp _ | exact .pt (rfl) rfl rfl | exact .pt (upd_same _ _ _) rfl rfl | exact .pt ((upd_ne _ _ n2).trans hob) rfl rfl | exact .pt (hbx) rfl rfl | exact .pt (bR (Ne.symm n5) rfl) rfl rfl) rfl) ?_
  refine st rfl rfl rfl (bF rfl rfl) ?_
  refine se rfl rfl rfl (aN rfl rfl (.cons rfl (.cons rfl .nil)) B5 (CJ ((upd_ne _ _ n2).trans hob) (by omega))) ?_
  rintro _ _ ⟨rfl,rfl⟩
  refine st rfl rfl rfl (bF rfl rfl) ?_
  refine bQ (hK _ ?_);clear hK K
  refine qL ?_;intro Q1 bn1 bx1 br1 bo1
  refine tJ 5 34005 3 1 rfl ((upd_ne _ _ (Ne.symm n5)).trans (hb5 v2)) ?_
  intro v5
  refine BF (ι:=Nat) (κ:=Nat) (λk lv=>⟨kn [(6,.fn (.func 39) [.pt id aD 0 0] []),(7,.fn (.func 69) [] [.pt 34002 v2 0 0]),(14,int (dU s most)),(15,int k),(5,.sl 34005 lv 0 k)],upd (upd (upd H 34002 (some ⟨81,1,true,true,v2,[[.pt id aD 0 0]]⟩)) id (some (dI 131 aD (nums k (dW s most)).2))) 34005 (some (⟨3,1,true,true,lv,(nums k (dW s most)).1.map λn=>[int n]⟩:bA))⟩) (λk lv=>k<=(dU s most).toNat/\(0<k->(nums k (dW s most)).2.2=false)) (λk lv=>(dU s most).toNat-k) 0 v5 ⟨Nat.zero_le _,λh=>absurd h (by omega)⟩ (qK ⟨rfl,rfl,rfl,rfl,rfl,trivial⟩) ?_
  rintro k lv ⟨hk,hnb⟩ Q2 ln2 lx2 lr2
  refine bN ?_
  refine bS ?_;intro K hK
  refine st rfl rfl rfl (mU rfl rfl rfl) ?_
  refine bQ (hK _ ?_);clear hK K
  refine bN ?_
  refine o7 rfl ?_ ?_
  · intro h16
    have hklt:k<(dU s most).toNat:=by omega
    have hku:(nums k (dW s most)).2.1.length<=s.1.length:=Nat.le_trans (JX _ _) hcl
    have hks:k<=s.1.length:=by
      rcases Nat.eq_zero_or_pos k with h | h
      · omega
      · have:=U3 k _ hs1 (hnb h);omega
    have hlen:(nums k (dW s most)).1.length=k:=E7 _ _
    refine kQ ?_
    refine bN ?_
    refine qL ?_;intro Q3 bn3 bx3 br3 bo3
    refine bN ?_
    refine bS ?_;intro K hK
    refine st rfl rfl rfl (bF rfl rfl) ?_
    refine se rfl rfl rfl (aN rfl rfl .nil fP (fH ((upd_ne _ _ n5).trans (upd_same _ _ _)) (by omega))) ?_
    rintro _ _ ⟨rfl,rfl⟩
    refine st rfl rfl rfl (dG rfl rfl) ?_
    refine bQ (hK _ ?_);clear hK K
    refine bN ?_
    refine bN ?_
    refine bS ?_;intro K hK
    refine st rfl rfl rfl (bF rfl rfl) ?_
    refine se rfl rfl rfl (aN rfl rfl .nil aI4 (aEV (by exact bR (Ne.symm n2) (bR (Ne.symm n2) (upd_same _ _ _))) (by exact upd_same _ _ _))) ?_
    rintro _ _ ⟨rfl,rfl⟩
    refine st rfl rfl rfl (EA (r:=(nums (k+1) (dW s most)).2.2) rfl rfl (by simp [nums])) ?_
    refine bQ (hK _ ?_);clear hK K
    refine A9 rfl ?_ ?_
    · intro h21
      have hbe:=VB hs1 h21 (show k+1<=(dU s most).toNat by omega)
      have hbk:=VB hs1 h21 (Nat.le_refl _)
      have hlv:nV s most=[]:=by unfold nV;rw [hbe];rfl
      have hlr:oQ s most=dF (nums k (dW s most)).2:=hbe.trans hbk.symm
      refine bN ?_
      refine bS ?_;intro K hK
      refine st rfl rfl rfl (dG rfl rfl) ?_
      refine bQ (hK _ ?_);clear hK K
      refine J2 4 (ints []) rfl (.nil 1) ?_
      refine iG (br3 _ (lr2 _ (br1 _ (hret _ _ (upd H id (some (dI 131 aD (oQ s most)))) (.tmp rfl .nil) (λt v h=>by
  by_cases h0:t=id
  · subst h0;rw [upd_same] at h;rw [<- h,hlr];first | exact upd_same _ _ _ | exact bR n5 (bR n5 (upd_same _ _ _))
  · rw [upd_ne _ _ h0] at h
    have h2:t≠34002:=λe=>by rw [e,hf2] at h;cases h
    have h5:t≠34005:=λe=>by rw [e,hf5] at h;cases h
    first
    | exact bR h0 (bR h5 (bR h0 (bR h2 h)))
    | exact bR h5 (bR h5 (bR h0 (bR h2 h)))) ?_))))
      exact ⟨by rw [hlv];rfl,rfl⟩
    · intro h21
      refine kQ ?_
      refine bS ?_;intro K hK
      refine st rfl rfl rfl (bF rfl rfl) ?_
      refine st rfl rfl rfl (bF rfl rfl) ?_
      refine st rfl rfl rfl (dQ (ps:=[(0,_)]) (rows:=[[int (dA (nums k (dW s most)).2)]]) rfl Tryz.underlying23 kN (.cons rfl .nil) rfl rfl rfl rfl) ?_
      refine se rfl rfl rfl (vS .any rfl Tryz.underlying23 kN pZ rfl rfl (by first | exact rfl | exact upd_same _ _ _ | exact (upd_ne _ _ n2).trans hob | exact hbx | exact bR (Ne.symm n5) rfl) rfl rfl rfl rfl rfl (by rw [List.length_map];exact hlen) (.refl _) (by intro r hr;simp at hr;subst hr;rfl) (by simp only [List.length_cons,List.length_nil];omega) (by simp only [List.length_cons,List.length_nil];omega)) ?_
      rintro _ _ ⟨v25,-,rfl,rfl⟩
      refine st rfl rfl rfl (dG rfl rfl) ?_
      refine bQ (hK _ ?_);clear hK K
      refine l7 (bn3 _ ?_)
      refine bS ?_;intro K hK
      refine st rfl rfl rfl (sD rfl rfl rfl (wrap64 (by omega))) ?_
      refine st rfl rfl rfl (bF rfl rfl) ?_
      refine bQ (hK _ ?_);clear hK K
      refine l7 (ln2 _ ⟨k+1,v25,⟨by omega,λ_=>h21⟩,by omega,DX (KN.le ⟨rfl,rfl,rfl,rfl,rfl,trivial⟩) (λt v h=>?_)⟩)
      by_cases h0:t=34005
      · subst h0;rw [upd_same] at h;rw [<- h];refine (upd_same _ _ _).trans ?_;simp [nums]
      · rw [upd_ne _ _ h0] at h;refine (upd_ne _ _ h0).trans ?_
        by_cases h1:t=id
        · subst h1;rw [upd_same] at h;rw [<- h];exact upd_same _ _ _
        · rw [upd_ne _ _ h1] at h;refine (upd_ne _ _ h1).trans ((upd_ne _ _ h0).trans ((upd_ne _ _ h1).trans h))
  · intro h16
    have hke:k=(dU s most).toNat:=by omega
    subst hke
    have hlv:nV s most=(nums (dU s most).toNat (dW s most)).1:=by
      unfold nV
      rcases Nat.eq_zero_or_pos (dU s most).toNat with h0 | h0
      · rw [h0];show (if (dW s most).2=true then [] else [])=[];cases (dW s most).2 <;> rfl
      · rw [hnb h0];rfl
    have hlr:oQ s most=(nums (dU s most).toNat (dW s most)).2:=rfl
    refine pP (lx2 _ _ (bx1 _ ?_))
    refine bN ?_
    refine QM 34005 (upd_same _ _ _) ?_
    refine J2 5 (ints (nV s most)) rfl (gJ (upd_same _ _ _) rfl rfl rfl (by rw [hlv]) (by rw [hlv,E7])) ?_
    refine bS ?_;intro K hK
    refine st rfl rfl rfl (bF rfl rfl) ?_
    refine st rfl rfl rfl (dG rfl rfl) ?_
    refine bQ (hK _ ?_);clear hK K
    refine iG (hret _ _ (upd H id (some (dI 131 aD (oQ s most)))) (.tmp rfl .nil) (λt v h=>by
  by_cases h0:t=id
  · subst h0;rw [upd_same] at h;rw [<- h,hlr];first | exact upd_same _ _ _ | exact bR n5 (bR n5 (upd_same _ _ _))
  · rw [upd_ne _ _ h0] at h
    have h2:t≠34002:=λe=>by rw [e,hf2] at h;cases h
    have h5:t≠34005:=λe=>by rw [e,hf5] at h;cases h
    first
    | exact bR h0 (bR h5 (bR h0 (bR h2 h)))
    | exact bR h5 (bR h5 (bR h0 (bR h2 h)))) ?_)
    exact ⟨rfl,rfl⟩
theorem ZD {H:AH} {id aD ib:Nat} (hob:H id=some (mV 97 id aD ib none)):PC Tryz.prog 79 [.pt id aD 0 0] H (λ_ H'=>H'=upd H id (some ⟨97,2,true,true,aD,[[.pt id aD 0 0,.sc (.slice none 0 0)]]⟩)):=by
  refine kG (c:=_) Tryz.func79 rfl rfl ?_
  intro Q hret hnorm
  refine bN ?_
  refine bS ?_;intro K hK
  refine st rfl rfl rfl (bF rfl rfl) ?_
  refine st rfl rfl rfl (fU rfl rfl (by first | exact .pp _ | exact .pt (rfl) rfl rfl | exact .pt (hob) rfl rfl | exact .pt (upd_same _ _ _) rfl rfl)) ?_
  refine st rfl rfl rfl (fT rfl vU rfl (by first | exact .pp _ | exact .pt (rfl) rfl rfl | exact .pt (hob) rfl rfl | exact .pt (upd_same _ _ _) rfl rfl) (by first | exact .pt _ _ _ _ _ | exact .pp _ _)) ?_
  refine st rfl rfl rfl (eT rfl vR rfl (by first | exact .pp _ | exact .pt (rfl) rfl rfl | exact .pt (hob) rfl rfl | exact .pt (upd_same _ _ _) rfl rfl) rfl) ?_
  refine st rfl rfl rfl (fE rfl Tryz.underlying95 rfl rfl) ?_
  refine bQ (hK _ ?_);clear hK K
  refine BM rfl ?_
  refine bS ?_;intro K hK
  refine st rfl rfl rfl (bF rfl rfl) ?_
  refine st rfl rfl rfl (bF rfl rfl) ?_
  refine st rfl rfl rfl (VT rfl Tryz.underlying95 Tryz.underlying207 IF rfl hob rfl rfl Nat.zero_lt_two) ?_
  refine st rfl rfl rfl (QD rfl Tryz.func123 rfl rfl (by kernel_rfl) (by kernel_rfl) rfl) ?_
  refine st rfl rfl rfl (Q6 rfl Tryz.underlying207 Tryz.underlying95 IF rfl hob rfl rfl rfl (aH9 RE) RE Nat.zero_lt_two) ?_
  refine st rfl rfl rfl (fU rfl rfl (by first | exact .pp _ | exact .pt (rfl) rfl rfl | exact .pt (hob) rfl rfl | exact .pt (upd_same _ _ _) rfl rfl)) ?_
  refine st rfl rfl rfl (fT rfl vU rfl (by first | exact .pp _ | exact .pt (rfl) rfl rfl | exact .pt (hob) rfl rfl | exact .pt (upd_same _ _ _) rfl rfl) (by first | exact .pt _ _ _ _ _ | exact .pp _ _)) ?_
  refine oI rfl rfl (dZ rfl vR rfl rfl (by first | exact rfl | exact hob | exact upd_same _ _ _) rfl rfl rfl rfl rfl rfl) ?_
  refine bQ (hK _ ?_);clear hK K
  refine l7 (hnorm _ _ _ .nil (λ_ _ h=>h) ?_)
  exact rfl
theorem SB {H:AH} {id aD ib:Nat} {o:Nat×List UInt8} (hob:H id=some (mV 97 id aD ib (some o))):PC Tryz.prog 79 [.pt id aD 0 0] H (λ_ H'=>H'=H):=by
  refine kG (c:=_) Tryz.func79 rfl rfl ?_
  intro Q hret hnorm
  refine bN ?_
  refine bS ?_;intro K hK
  refine st rfl rfl rfl (bF rfl rfl) ?_
  refine st rfl rfl rfl (fU rfl rfl (by first | exact .pp _ | exact .pt (rfl) rfl rfl | exact .pt (hob) rfl rfl | exact .pt (upd_same _ _ _) rfl rfl)) ?_
  refine st rfl rfl rfl (fT rfl vU rfl (by first | exact .pp _ | exact .pt (rfl) rfl rfl | exact .pt (hob) rfl rfl | exact .pt (upd_same _ _ _) rfl rfl) (by first | exact .pt _ _ _ _ _ | exact .pp _ _)) ?_
  refine st rfl rfl rfl (eT rfl vR rfl (by first | exact .pp _ | exact .pt (rfl) rfl rfl | exact .pt (hob) rfl rfl | exact .pt (upd_same _ _ _) rfl rfl) rfl) ?_
  refine st rfl rfl rfl (QE rfl Tryz.underlying95 rfl (.pt hob rfl rfl) rfl) ?_
  refine bQ (hK _ ?_);clear hK K
  refine sN rfl ?_
  refine bN ?_
  refine bS ?_;intro K hK
  refine st rfl rfl rfl (bF rfl rfl) ?_
  refine st rfl rfl rfl (fU rfl rfl (by first | exact .pp _ | exact .pt (rfl) rfl rfl | exact .pt (hob) rfl rfl | exact .pt (upd_same _ _ _) rfl rfl)) ?_
  refine st rfl rfl rfl (fT rfl vU rfl (by first | exact .pp _ | exact .pt (rfl) rfl rfl | exact .pt (hob) rfl rfl | exact .pt (upd_same _ _ _) rfl rfl) (by first | exact .pt _ _ _ _ _ | exact .pp _ _)) ?_
  refine st rfl rfl rfl (eT rfl vR rfl (by first | exact .pp _ | exact .pt (rfl) rfl rfl | exact .pt (hob) rfl rfl | exact .pt (upd_same _ _ _) rfl rfl) rfl) ?_
  refine st rfl rfl rfl (bF rfl rfl) ?_
  refine st rfl rfl rfl (TR rfl Tryz.underlying95 IF rfl rfl hob rfl (by simp)) ?_
  refine bQ (hK _ ?_);clear hK K
  refine sN rfl ?_
  refine kQ ?_
  refine l7 (hnorm _ _ _ .nil (λ_ _ h=>h) ?_)
  exact rfl
theorem aL8 {H:AH} {id aD ib:Nat} {c:UInt8} (hd:id≠ib) (hob:H id=some (mV 97 id aD ib none)) (hib:H ib=none):PC Tryz.prog 121 [.pt id aD 0 0,.sc (.int .u8 (c.toNat:Nat))] H (λy H'=>y=.sc .nilIface/\∃ vb',H'=upd (upd H ib (some (jY 5 vb' ([c])))) id (some (mV 97 id aD ib (some (vb',[c]))))):=by
  refine kG (c:=_) Tryz.func121 rfl rfl ?_
  intro Q hret hnorm
  refine bN ?_
  refine bS ?_;intro K hK
  refine st rfl rfl rfl (dG rfl rfl) ?_
  refine bQ (hK _ ?_);clear hK K
  refine bN ?_
  refine bS ?_;intro K hK
  refine st rfl rfl rfl (bF rfl rfl) ?_
  refine se rfl rfl rfl (aN rfl rfl (.cons rfl .nil) zO (ZD hob)) ?_
  rintro _ _ rfl
  refine bQ (hK _ ?_);clear hK K
  refine bN ?_
  refine bS ?_;intro K hK
  refine st rfl rfl rfl (bF rfl rfl) ?_
  refine st rfl rfl rfl (bF rfl rfl) ?_
  refine st rfl rfl rfl (fU rfl rfl (by first | exact .pp _ | exact .pt (rfl) rfl rfl | exact .pt (hob) rfl rfl | exact .pt (upd_same _ _ _) rfl rfl | exact .pt (bR hd (bR hd (upd_same _ _ _))) rfl rfl | exact .pt (bR hd hob) rfl rfl | exact .pt (hbuf) rfl rfl)) ?_
  refine st rfl rfl rfl (fT rfl nZ rfl (by first | exact .pp _ | exact .pt (rfl) rfl rfl | exact .pt (hob) rfl rfl | exact .pt (upd_same _ _ _) rfl rfl | exact .pt (bR hd (bR hd (upd_same _ _ _))) rfl rfl | exact .pt (bR hd hob) rfl rfl | exact .pt (hbuf) rfl rfl) (by first | exact .pt _ _ _ _ _ | exact .pp _ _)) ?_
  refine st rfl rfl rfl (eT rfl nW rfl (by first | exact .pp _ | exact .pt (rfl) rfl rfl | exact .pt (hob) rfl rfl | exact .pt (upd_same _ _ _) rfl rfl | exact .pt (bR hd (bR hd (upd_same _ _ _))) rfl rfl | exact .pt (bR hd hob) rfl rfl | exact .pt (hbuf) rfl rfl) rfl) ?_
  refine I7 11 ib 5 1 rfl ((upd_ne _ _ (Ne.symm hd)).trans hib) ?_;intro vn
  refine st rfl rfl rfl (bF rfl rfl) ?_
  refine st rfl rfl rfl (dQ (ps:=[(0,_)]) (rows:=[[.sc (.int .u8 (c.toNat:Nat))]]) rfl Tryz.underlying51 nP (.cons rfl .nil) rfl rfl rfl rfl) ?_
  refine se rfl rfl rfl (vS .any rfl Tryz.underlying51 nP sU rfl rfl (by first | exact rfl | exact hob | exact upd_same _ _ _ | exact bR hd (bR hd (upd_same _ _ _)) | exact bR hd hob | exact hbuf) rfl rfl rfl rfl rfl rfl (.refl _) (by intro r hr;simp at hr;subst hr;rfl) (by simp only [List.length_cons,List.length_nil];omega) (by simp only [List.length_cons,List.length_nil];omega)) ?_
  rintro _ _ ⟨v14,-,rfl,rfl⟩
  refine st rfl rfl rfl (fU rfl rfl (by first | exact .pp _ | exact .pt (rfl) rfl rfl | exact .pt (hob) rfl rfl | exact .pt (upd_same _ _ _) rfl rfl | exact .pt (bR hd (bR hd (upd_same _ _ _))) rfl rfl | exact .pt (bR hd hob) rfl rfl | exact .pt (hbuf) rfl rfl)) ?_
  refine st rfl rfl rfl (fT rfl nZ rfl (by first | exact .pp _ | exact .pt (rfl) rfl rfl | exact .pt (hob) rfl rfl | exact .pt (upd_same _ _ _) rfl rfl | exact .pt (bR hd (bR hd (upd_same _ _ _))) rfl rfl | exact .pt (bR hd hob) rfl rfl | exact .pt (hbuf) rfl rfl) (by first | exact .pt _ _ _ _ _ | exact .pp _ _)) ?_
  refine oI rfl rfl (dZ rfl nW rfl rfl (by first | exact rfl | exact hob | exact upd_same _ _ _ | exact bR hd (bR hd (upd_same _ _ _)) | exact bR hd hob | exact hbuf) rfl rfl rfl rfl rfl rfl) ?_
  refine bQ (hK _ ?_);clear hK K
  refine bN ?_
  refine bS ?_;intro K hK
  refine st rfl rfl rfl (dG rfl rfl) ?_
  refine bQ (hK _ ?_);clear hK K
  refine iG (hret _ _ (upd (upd H ib (some (jY 5 v14 ([c])))) id (some (mV 97 id aD ib (some (v14,[c]))))) (.tmp rfl .nil) (λt v h=>by rw [<- h];simp only [sI];by_cases h0:t=id <;> by_cases h1:t=ib <;> simp_all [cB] <;> rfl) ?_)
  exact ⟨rfl,_,rfl⟩
theorem aKI {H:AH} {id aD ib:Nat} {c:UInt8} {vb:Nat} {l:List UInt8} (hd:id≠ib) (hob:H id=some (mV 97 id aD ib (some (vb,l)))) (hbuf:H ib=some (jY 5 vb l)) (hl:l.length<=1099511627776):PC Tryz.prog 121 [.pt id aD 0 0,.sc (.int .u8 (c.toNat:Nat))] H (λy H'=>y=.sc .nilIface/\∃ vb',H'=upd (upd H ib (some (jY 5 vb' (l++[c])))) id (some (mV 97 id aD ib (some (vb',l++[c]))))):=by
  refine kG (c:=_) Tryz.func121 rfl rfl ?_
  intro Q hret hnorm
  refine bN ?_
  refine bS ?_;intro K hK
  refine st rfl rfl rfl (dG rfl rfl) ?_
  refine bQ (hK _ ?_);clear hK K
  refine bN ?_
  refine bS ?_;intro K hK
  refine st rfl rfl rfl (bF rfl rfl) ?_
  refine se rfl rfl rfl (aN rfl rfl (.cons rfl .nil) zO (SB hob)) ?_
  rintro _ _ he;obtain rfl:=he.symm
  refine bQ (hK _ ?_);clear hK K
  refine bN ?_
  refine bS ?_;intro K hK
  refine st rfl rfl rfl (bF rfl rfl) ?_
  refine st rfl rfl rfl (bF rfl rfl) ?_
  refine st rfl rfl rfl (fU rfl rfl (by first | exact .pp _ | exact .pt (rfl) rfl rfl | exact .pt (hob) rfl rfl | exact .pt (upd_same _ _ _) rfl rfl | exact .pt (bR hd (bR hd (upd_same _ _ _))) rfl rfl | exact .pt (bR hd hob) rfl rfl | exact .pt (hbuf) rfl rfl)) ?_
  refine st rfl rfl rfl (fT rfl nZ rfl (by first | exact .pp _ | exact .pt (rfl) rfl rfl | exact .pt (hob) rfl rfl | exact .pt (upd_same _ _ _) rfl rfl | exact .pt (bR hd (bR hd (upd_same _ _ _))) rfl rfl | exact .pt (bR hd hob) rfl rfl | exact .pt (hbuf) rfl rfl) (by first | exact .pt _ _ _ _ _ | exact .pp _ _)) ?_
  refine st rfl rfl rfl (eT rfl nW rfl (by first | exact .pp _ | exact .pt (rfl) rfl rfl | exact .pt (hob) rfl rfl | exact .pt (upd_same _ _ _) rfl rfl | exact .pt (bR hd (bR hd (upd_same _ _ _))) rfl rfl | exact .pt (bR hd hob) rfl rfl | exact .pt (hbuf) rfl rfl) rfl) ?_
  refine st rfl rfl rfl (bF rfl rfl) ?_
  refine st rfl rfl rfl (dQ (ps:=[(0,_)]) (rows:=[[.sc (.int .u8 (c.toNat:Nat))]]) rfl Tryz.underlying51 nP (.cons rfl .nil) rfl rfl rfl rfl) ?_
  refine se rfl rfl rfl (vS .any rfl Tryz.underlying51 nP sU rfl rfl (by first | exact rfl | exact hob | exact upd_same _ _ _ | exact bR hd (bR hd (upd_same _ _ _)) | exact bR hd hob | exact hbuf) rfl rfl rfl rfl rfl (AL l) (.refl _) (by intro r hr;simp at hr;subst hr;rfl) (by simp only [List.length_cons,List.length_nil];omega) (by simp only [List.length_cons,List.length_nil];omega)) ?_
  rintro _ _ ⟨v14,-,rfl,rfl⟩
  refine st rfl rfl rfl (fU rfl rfl (by first | exact .pp _ | exact .pt (rfl) rfl rfl | exact .pt (hob) rfl rfl | exact .pt (upd_same _ _ _) rfl rfl | exact .pt (bR hd (bR hd (upd_same _ _ _))) rfl rfl | exact .pt (bR hd hob) rfl rfl | exact .pt (hbuf) rfl rfl)) ?_
  refine st rfl rfl rfl (fT rfl nZ rfl (by first | exact .pp _ | exact .pt (rfl) rfl rfl | exact .pt (hob) rfl rfl | exact .pt (upd_same _ _ _) rfl rfl | exact .pt (bR hd (bR hd (upd_same _ _ _))) rfl rfl | exact .pt (bR hd hob) rfl rfl | exact .pt (hbuf) rfl rfl) (by first | exact .pt _ _ _ _ _ | exact .pp _ _)) ?_
  refine oI rfl rfl (dZ rfl nW rfl rfl (by first | exact rfl | exact hob | exact upd_same _ _ _ | exact bR hd (bR hd (upd_same _ _ _)) | exact bR hd hob | exact hbuf) rfl rfl rfl rfl rfl rfl) ?_
  refine bQ (hK _ ?_);clear hK K
  refine bN ?_
  refine bS ?_;intro K hK
  refine st rfl rfl rfl (dG rfl rfl) ?_
  refine bQ (hK _ ?_);clear hK K
  refine iG (hret _ _ (upd (upd H ib (some (jY 5 v14 (l++[c])))) id (some (mV 97 id aD ib (some (v14,l++[c]))))) (.tmp rfl .nil) (λt v h=>by rw [<- h];simp only [sI];by_cases h0:t=id <;> by_cases h1:t=ib <;> simp_all [cB] <;> rfl) ?_)
  exact ⟨rfl,_,rfl⟩
theorem O4 {H:AH} {id aD ib:Nat} {t:List UInt8} (hd:id≠ib) (hob:H id=some (mV 97 id aD ib none)) (hib:H ib=none) (ht:t.length<=1099511627776):PC Tryz.prog 44 [.pt id aD 0 0,str t] H (λy H'=>y=mQ [int t.length,.sc .nilIface]/\∃ vb',H'=upd (upd H ib (some (jY 5 vb' (t)))) id (some (mV 97 id aD ib (some (vb',t))))):=by
  refine kG (c:=_) Tryz.func44 rfl rfl ?_
  intro Q hret hnorm
  refine bN ?_
  refine bS ?_;intro K hK
  refine st rfl rfl rfl (dG rfl rfl) ?_
  refine st rfl rfl rfl (dG rfl rfl) ?_
  refine bQ (hK _ ?_);clear hK K
  refine bN ?_
  refine bS ?_;intro K hK
  refine st rfl rfl rfl (bF rfl rfl) ?_
  refine se rfl rfl rfl (aN rfl rfl (.cons rfl .nil) zO (ZD hob)) ?_
  rintro _ _ rfl
  refine bQ (hK _ ?_);clear hK K
  refine bN ?_
  refine bS ?_;intro K hK
  refine st rfl rfl rfl (bF rfl rfl) ?_
  refine st rfl rfl rfl (bF rfl rfl) ?_
  refine st rfl rfl rfl (fU rfl rfl (by first | exact .pp _ | exact .pt (rfl) rfl rfl | exact .pt (hob) rfl rfl | exact .pt (upd_same _ _ _) rfl rfl | exact .pt (bR hd (bR hd (upd_same _ _ _))) rfl rfl | exact .pt (bR hd hob) rfl rfl | exact .pt (hbuf) rfl rfl)) ?_
  refine st rfl rfl rfl (fT rfl nZ rfl (by first | exact .pp _ | exact .pt (rfl) rfl rfl | exact .pt (hob) rfl rfl | exact .pt (upd_same _ _ _) rfl rfl | exact .pt (bR hd (bR hd (upd_same _ _ _))) rfl rfl | exact .pt (bR hd hob) rfl rfl | exact .pt (hbuf) rfl rfl) (by first | exact .pt _ _ _ _ _ | exact .pp _ _)) ?_
  refine st rfl rfl rfl (eT rfl nW rfl (by first | exact .pp _ | exact .pt (rfl) rfl rfl | exact .pt (hob) rfl rfl | exact .pt (upd_same _ _ _) rfl rfl | exact .pt (bR hd (bR hd (upd_same _ _ _))) rfl rfl | exact .pt (bR hd hob) rfl rfl | exact .pt (hbuf) rfl rfl) rfl) ?_
  refine I7 12 ib 5 1 rfl ((upd_ne _ _ (Ne.symm hd)).trans hib) ?_;intro vn
  refine st rfl rfl rfl (bF rfl rfl) ?_
  refine se rfl rfl rfl (DW (l:=[]) .any rfl Tryz.underlying51 Tryz.underlying9 nP sU rfl rfl (by first | exact rfl | exact hbuf | exact upd_same _ _ _) rfl rfl rfl rfl rfl rfl rfl (by show 0+t.length<=140737488355328;omega)) ?_
  rintro _ _ ⟨v14,-,rfl,rfl⟩
  refine st rfl rfl rfl (fU rfl rfl (by first | exact .pp _ | exact .pt (rfl) rfl rfl | exact .pt (hob) rfl rfl | exact .pt (upd_same _ _ _) rfl rfl | exact .pt (bR hd (bR hd (upd_same _ _ _))) rfl rfl | exact .pt (bR hd hob) rfl rfl | exact .pt (hbuf) rfl rfl)) ?_
  refine st rfl rfl rfl (fT rfl nZ rfl (by first | exact .pp _ | exact .pt (rfl) rfl rfl | exact .pt (hob) rfl rfl | exact .pt (upd_same _ _ _) rfl rfl | exact .pt (bR hd (bR hd (upd_same _ _ _))) rfl rfl | exact .pt (bR hd hob) rfl rfl | exact .pt (hbuf) rfl rfl) (by first | exact .pt _ _ _ _ _ | exact .pp _ _)) ?_
  refine oI rfl rfl (dZ rfl nW rfl rfl (by first | exact rfl | exact hob | exact upd_same _ _ _ | exact bR hd (bR hd (upd_same _ _ _)) | exact bR hd hob | exact hbuf) rfl rfl rfl rfl rfl rfl) ?_
  refine bQ (hK _ ?_);clear hK K
  refine bN ?_
  refine bS ?_;intro K hK
  refine st rfl rfl rfl (bF rfl rfl) ?_
  refine st rfl rfl rfl (qB rfl Tryz.underlying9 rfl) ?_
  refine st rfl rfl rfl (dG rfl rfl) ?_
  refine st rfl rfl rfl (dG rfl rfl) ?_
  refine bQ (hK _ ?_);clear hK K
  refine iG (hret _ _ (upd (upd H ib (some (jY 5 v14 (t)))) id (some (mV 97 id aD ib (some (v14,t))))) (.tmp rfl (.tmp rfl .nil)) (λt v h=>by rw [<- h];simp only [sI];by_cases h0:t=id <;> by_cases h1:t=ib <;> simp_all [cB] <;> rfl) ?_)
  exact ⟨rfl,_,rfl⟩
theorem XG {H:AH} {id aD ib:Nat} {t:List UInt8} {vb:Nat} {l:List UInt8} (hd:id≠ib) (hob:H id=some (mV 97 id aD ib (some (vb,l)))) (hbuf:H ib=some (jY 5 vb l)) (hl:l.length<=1099511627776) (ht:t.length<=1099511627776):PC Tryz.prog 44 [.pt id aD 0 0,str t] H (λy H'=>y=mQ [int t.length,.sc .nilIface]/\∃ vb',H'=upd (upd H ib (some (jY 5 vb' (l++t)))) id (some (mV 97 id aD ib (some (vb',l++t))))):=by
  refine kG (c:=_) Tryz.func44 rfl rfl ?_
  intro Q hret hnorm
  refine bN ?_
  refine bS ?_;intro K hK
  refine st rfl rfl rfl (dG rfl rfl) ?_
  refine st rfl rfl rfl (dG rfl rfl) ?_
  refine bQ (hK _ ?_);clear hK K
  refine bN ?_
  refine bS ?_;intro K hK
  refine st rfl rfl rfl (bF rfl rfl) ?_
  refine se rfl rfl rfl (aN rfl rfl (.cons rfl .nil) zO (SB hob)) ?_
  rintro _ _ he;obtain rfl:=he.symm
  refine bQ (hK _ ?_);clear hK K
  refine bN ?_
  refine bS ?_;intro K hK
  refine st rfl rfl rfl (bF rfl rfl) ?_
  refine st rfl rfl rfl (bF rfl rfl) ?_
  refine st rfl rfl rfl (fU rfl rfl (by first | exact .pp _ | exact .pt (rfl) rfl rfl | exact .pt (hob) rfl rfl | exact .pt (upd_same _ _ _) rfl rfl | exact .pt (bR hd (bR hd (upd_same _ _ _))) rfl rfl | exact .pt (bR hd hob) rfl rfl | exact .pt (hbuf) rfl rfl)) ?_
  refine st rfl rfl rfl (fT rfl nZ rfl (by first | exact .pp _ | exact .pt (rfl) rfl rfl | exact .pt (hob) rfl rfl | exact .pt (upd_same _ _ _) rfl rfl | exact .pt (bR hd (bR hd (upd_same _ _ _))) rfl rfl | exact .pt (bR hd hob) rfl rfl | exact .pt (hbuf) rfl rfl) (by first | exact .pt _ _ _ _ _ | exact .pp _ _)) ?_
  refine st rfl rfl rfl (eT rfl nW rfl (by first | exact .pp _ | exact .pt (rfl) rfl rfl | exact .pt (hob) rfl rfl | exact .pt (upd_same _ _ _) rfl rfl | exact .pt (bR hd (bR hd (upd_same _ _ _))) rfl rfl | exact .pt (bR hd hob) rfl rfl | exact .pt (hbuf) rfl rfl) rfl) ?_
  refine st rfl rfl rfl (bF rfl rfl) ?_
  refine se rfl rfl rfl (DW (l:=l) .any rfl Tryz.underlying51 Tryz.underlying9 nP sU rfl rfl (by first | exact rfl | exact hbuf | exact upd_same _ _ _) rfl rfl rfl rfl rfl rfl rfl (by omega)) ?_
  rintro _ _ ⟨v14,-,rfl,rfl⟩
  refine st rfl rfl rfl (fU rfl rfl (by first | exact .pp _ | exact .pt (rfl) rfl rfl | exact .pt (hob) rfl rfl | exact .pt (upd_same _ _ _) rfl rfl | exact .pt (bR hd (bR hd (upd_same _ _ _))) rfl rfl | exact .pt (bR hd hob) rfl rfl | exact .pt (hbuf) rfl rfl)) ?_
  refine st rfl rfl rfl (fT rfl nZ rfl (by first | exact .pp _ | exact .pt (rfl) rfl rfl | exact .pt (hob) rfl rfl | exact .pt (upd_same _ _ _) rfl rfl | exact .pt (bR hd (bR hd (upd_same _ _ _))) rfl rfl | exact .pt (bR hd hob) rfl rfl | exact .pt (hbuf) rfl rfl) (by first | exact .pt _ _ _ _ _ | exact .pp _ _)) ?_
  refine oI rfl rfl (dZ rfl nW rfl rfl (by first | exact rfl | exact hob | exact upd_same _ _ _ | exact bR hd (bR hd (upd_same _ _ _)) | exact bR hd hob | exact hbuf) rfl rfl rfl rfl rfl rfl) ?_
  refine bQ (hK _ ?_);clear hK K
  refine bN ?_
  refine bS ?_;intro K hK
  refine st rfl rfl rfl (bF rfl rfl) ?_
  refine st rfl rfl rfl (qB rfl Tryz.underlying9 rfl) ?_
  refine st rfl rfl rfl (dG rfl rfl) ?_
  refine st rfl rfl rfl (dG rfl rfl) ?_
  refine bQ (hK _ ?_);clear hK K
  refine iG (hret _ _ (upd (upd H ib (some (jY 5 v14 (l++t)))) id (some (mV 97 id aD ib (some (v14,l++t))))) (.tmp rfl (.tmp rfl .nil)) (λt v h=>by rw [<- h];simp only [sI];by_cases h0:t=id <;> by_cases h1:t=ib <;> simp_all [cB] <;> rfl) ?_)
  exact ⟨rfl,_,rfl⟩
theorem KE {H:AH} {id aD ib vb:Nat} {l:List UInt8} (hob:H id=some (mV 97 id aD ib (some (vb,l)))) (hbuf:H ib=some (jY 5 vb l)) (hne:l≠[]) (hl:l.length<=1099511627776):PC Tryz.prog 47 [.pt id aD 0 0] H (λy H'=>y=str l/\H'=upd H ib none):=by
  have hrow:(jY 5 vb l).rows[0]?=some [.sc (.int .u8 ((l.head hne).toNat:Nat))]:=by
    cases l with
    | nil=>exact absurd rfl hne
    | cons a r=>rfl
  refine kG (c:=_) Tryz.func47 rfl rfl ?_
  intro Q hret hnorm
  refine bN ?_
  refine bS ?_;intro K hK
  refine st rfl rfl rfl (dG rfl rfl) ?_
  refine bQ (hK _ ?_);clear hK K
  refine bN ?_
  refine AQ [0,1,3,7,15,0,32,96,224,480,1023,2047] (λ_ _=>true) (λi=>bif Nat.beq i 10 then some ib else none) mixed (by kernel_rfl) ?_;intro C K hK
  refine iH rfl (λH hH=>bF rfl rfl) ?_
  refine iH rfl (λH hH=>fU rfl rfl (by first | exact .pp _ | exact .pt ((hH _ rfl).trans (rfl)) rfl rfl | exact .pt ((hH _ rfl).trans (hob)) rfl rfl | exact .pt ((hH _ rfl).trans (hbuf)) rfl rfl)) ?_
  refine iH rfl (λH hH=>fT rfl nZ rfl (by first | exact .pp _ | exact .pt ((hH _ rfl).trans (rfl)) rfl rfl | exact .pt ((hH _ rfl).trans (hob)) rfl rfl | exact .pt ((hH _ rfl).trans (hbuf)) rfl rfl) (by first | exact .pt _ _ _ _ _ | exact .pp _ _)) ?_
  refine iH rfl (λH hH=>eT rfl nW rfl (by first | exact .pp _ | exact .pt ((hH _ rfl).trans (rfl)) rfl rfl | exact .pt ((hH _ rfl).trans (hob)) rfl rfl | exact .pt ((hH _ rfl).trans (hbuf)) rfl rfl) rfl) ?_
  refine iH rfl (λH hH=>XQ rfl rfl ((hH _ rfl).trans hbuf) rfl hrow (by have:=List.length_pos_iff.2 hne;omega)) ?_
  refine iH rfl (λH hH=>bF rfl rfl) ?_
  refine iH rfl (λH hH=>fU rfl rfl (by first | exact .pp _ | exact .pt ((hH _ rfl).trans (rfl)) rfl rfl | exact .pt ((hH _ rfl).trans (hob)) rfl rfl | exact .pt ((hH _ rfl).trans (hbuf)) rfl rfl)) ?_
  refine iH rfl (λH hH=>fT rfl nZ rfl (by first | exact .pp _ | exact .pt ((hH _ rfl).trans (rfl)) rfl rfl | exact .pt ((hH _ rfl).trans (hob)) rfl rfl | exact .pt ((hH _ rfl).trans (hbuf)) rfl rfl) (by first | exact .pt _ _ _ _ _ | exact .pp _ _)) ?_
  refine iH rfl (λH hH=>eT rfl nW rfl (by first | exact .pp _ | exact .pt ((hH _ rfl).trans (rfl)) rfl rfl | exact .pt ((hH _ rfl).trans (hob)) rfl rfl | exact .pt ((hH _ rfl).trans (hbuf)) rfl rfl) rfl) ?_
  refine iH rfl (λH hH=>iT rfl Tryz.underlying51 rfl (.sl ((hH _ rfl).trans hbuf) rfl)) ?_
  refine oN (k:=ib) (ob:=none) (x:=str l) rfl rfl (λH hH=>(UZ rfl Tryz.underlying165 c5 rfl rfl ((hH _ rfl).trans hbuf) rfl rfl rfl rfl rfl rfl hne (by omega)).fA (λ_ h=>h.elim) (λ_ h=>h.elim)) ?_
  refine iH rfl (λH hH=>dG rfl rfl) ?_
  refine zY (hK _ ?_);clear hK K
  refine iG (hret _ _ _ (.tmp rfl .nil) (λ_ _ h=>h) ?_)
  exact ⟨rfl,rfl⟩
theorem X0 {H:AH} {id aD ib:Nat} {o:Option (Nat×List UInt8)} {c:UInt8} (hd:id≠ib) (hib:H ib=none) (hl:(held o).length<=1099511627776) :
    PC Tryz.prog 121 [.pt id aD 0 0,.sc (.int .u8 (c.toNat:Nat))] (bH 97 5 H id aD ib o) (λy H'=>y=.sc .nilIface/\∃ vb',H'=bH 97 5 H id aD ib (some (vb',held o++[c]))):=by
  cases o with
  | none =>
    exact (aL8 hd (upd_same _ _ _) ((upd_ne _ _ (Ne.symm hd)).trans hib)).mono λy H' ⟨h1,vb',h2⟩=>⟨h1,vb',h2.trans (by
      funext t;simp only [bH,sI,held,List.nil_append];by_cases h0:t=id <;> by_cases h1:t=ib <;> simp [h0,h1])⟩
  | some p =>
    obtain ⟨vb,l⟩:=p
    exact (aKI hd (upd_same _ _ _) ((upd_ne _ _ (Ne.symm hd)).trans (upd_same _ _ _)) hl).mono λy H' ⟨h1,vb',h2⟩=>⟨h1,vb',h2.trans (by
      funext t;simp only [bH,sI,held];by_cases h0:t=id <;> by_cases h1:t=ib <;> simp [h0,h1])⟩
theorem VZ {H:AH} {id aD ib:Nat} {o:Option (Nat×List UInt8)} {t:List UInt8} (hd:id≠ib) (hib:H ib=none) (hl:(held o).length<=1099511627776) (ht:t.length<=1099511627776) :
    PC Tryz.prog 44 [.pt id aD 0 0,str t] (bH 97 5 H id aD ib o) (λy H'=>y=mQ [int t.length,.sc .nilIface]/\∃ vb',H'=bH 97 5 H id aD ib (some (vb',held o++t))):=by
  cases o with
  | none =>
    exact (O4 hd (upd_same _ _ _) ((upd_ne _ _ (Ne.symm hd)).trans hib) ht).mono λy H' ⟨h1,vb',h2⟩=>⟨h1,vb',h2.trans (by
      funext t;simp only [bH,sI,held,List.nil_append];by_cases h0:t=id <;> by_cases h1:t=ib <;> simp [h0,h1])⟩
  | some p =>
    obtain ⟨vb,l⟩:=p
    exact (XG hd (upd_same _ _ _) ((upd_ne _ _ (Ne.symm hd)).trans (upd_same _ _ _)) hl ht).mono λy H' ⟨h1,vb',h2⟩=>⟨h1,vb',h2.trans (by
      funext t;simp only [bH,sI,held];by_cases h0:t=id <;> by_cases h1:t=ib <;> simp [h0,h1])⟩
theorem aB4 {v:Int} (hv:gT v):PC Tryz.prog 77 [int v] H0 (λy _=>y=str (enc v)):=by
  have hd:77004≠77090:=by decide
  refine kG (c:=_) Tryz.func77 rfl rfl ?_
  intro Q hret hnorm
  refine bN ?_
  refine bS ?_;intro K hK
  refine st rfl rfl rfl (dG rfl rfl) ?_
  refine bQ (hK _ ?_);clear hK K
  refine bN ?_
  refine bS ?_;intro K hK
  refine st rfl rfl rfl (bF rfl rfl) ?_
  refine st rfl rfl rfl (jS (r:=(wY v:Nat)) rfl Tryz.underlying3 Tryz.underlying108 rfl (Q9 hv)) ?_
  refine st rfl rfl rfl (wZ (r:=(tw v:Nat)) rfl rfl rfl (by omega) (SK hv)) ?_
  refine st rfl rfl rfl (bF rfl rfl) ?_
  refine st rfl rfl rfl (rD (r:=sg v) rfl rfl rfl (by omega) (aHP hv)) ?_
  refine st rfl rfl rfl (jS (r:=(pE v:Nat)) rfl Tryz.underlying3 Tryz.underlying108 rfl (aOL v)) ?_
  refine st rfl rfl rfl (AP (r:=(zz v:Nat)) rfl rfl rfl (TY hv)) ?_
  refine st rfl rfl rfl (dG rfl rfl) ?_
  refine bQ (hK _ ?_);clear hK K
  refine bN ?_
  refine bS ?_;intro K hK
  refine se rfl rfl rfl (xW 77004 .any rfl KQ rfl) ?_
  rintro _ _ ⟨v4,-,rfl,rfl⟩
  refine bQ (hK _ ?_);clear hK K
  refine bN ?_
  refine qL ?_;intro Q1 bn1 bx1 br1 bo1
  refine BF (ι:=Nat×Nat) (κ:=Option (Nat×List UInt8)) (λp o=>⟨kn [(3,.sc (.int .u64 (p.2:Nat))),(4,.pt 77004 v4 0 0)],bH 97 5 H0 77004 v4 77090 o⟩) (λp o=>p.2<128 ^ p.1/\held o++lN p.1 p.2=enc v) (λp o=>p.2) ⟨10,zz v⟩ none ⟨Nat.lt_of_lt_of_le (EF hv) (show 18446744073709551616<=128 ^ 10 by decide),rfl⟩ (by refine qK ?_;exact ⟨rfl,rfl,trivial⟩) ?_
  rintro ⟨f,u⟩ o ⟨huf,hen⟩ Q2 ln2 lx2 lr2
  have hol:(held o).length<=11:=by
    have h1:=congrArg List.length hen
    have h2:=xR 10 (zz v)
    rw [List.length_append] at h1;unfold enc at h1;omega
  refine bN ?_
  refine bN ?_
  refine bS ?_;intro K hK
  refine st rfl rfl rfl (bF rfl rfl) ?_
  refine st rfl rfl rfl (qF rfl rfl rfl) ?_
  refine bQ (hK _ ?_);clear hK K
  refine o7 rfl ?_ ?_
  · intro h13
    obtain ⟨f,rfl⟩:∃ f0,f=f0+1:=⟨f-1,by
      rcases Nat.eq_zero_or_pos f with h0 | h0
      · subst h0;simp at huf;omega
      · omega⟩
    refine kQ ?_
    refine bN ?_
    refine qL ?_;intro Q3 bn3 bx3 br3 bo3
    refine bS ?_;intro K hK
    refine st rfl rfl rfl (bF rfl rfl) ?_
    refine st rfl rfl rfl (zL (r:=((u % 128:Nat):Int)) rfl rfl rfl (by decide) rfl) ?_
    refine st rfl rfl rfl (sD (r:=((u % 128+128:Nat):Int)) rfl rfl rfl (BK (by omega))) ?_
    refine st rfl rfl rfl (jS (r:=((UInt8.ofNat (u % 128+128)).toNat:Nat)) rfl Tryz.underlying108 Tryz.underlying5 rfl (zJ _)) ?_
    refine se rfl rfl rfl (aN rfl rfl (.cons rfl (.cons rfl .nil)) SC (X0 hd rfl (by omega))) ?_
    rintro _ _ ⟨rfl,vb,rfl⟩
    refine bQ (hK _ ?_);clear hK K
    refine l7 (bn3 _ ?_)
    refine bS ?_;intro K hK
    refine st rfl rfl rfl (bF rfl rfl) ?_
    refine st rfl rfl rfl (rD (r:=((u / 128:Nat):Int)) rfl rfl rfl (by omega) J3) ?_
    refine st rfl rfl rfl (dG rfl rfl) ?_
    refine bQ (hK _ ?_);clear hK K
    refine l7 (ln2 _ ⟨⟨f,u / 128⟩,some (vb,held o++[UInt8.ofNat (u % 128+128)]),⟨?_,?_⟩,?_,qK ⟨rfl,rfl,trivial⟩⟩)
    · show u / 128<128 ^ f;rw [Nat.pow_succ] at huf;omega
    · show (held o++[_])++lN f (u / 128)=_;rw [List.append_assoc,List.singleton_append,<- GX f (by omega)];exact hen
    · show u / 128<u;omega
  · intro h13
    have hlt:u<128:=by omega
    rw [GQ f hlt] at hen
    refine pP (lx2 _ _ (bx1 _ ?_))
    refine bN ?_
    refine bS ?_;intro K hK
    refine st rfl rfl rfl (bF rfl rfl) ?_
    refine st rfl rfl rfl (jS (r:=((UInt8.ofNat u).toNat:Nat)) rfl Tryz.underlying108 Tryz.underlying5 rfl (zJ _)) ?_
    refine se rfl rfl rfl (aN rfl rfl (.cons rfl (.cons rfl .nil)) SC (X0 hd rfl (by omega))) ?_
    rintro _ _ ⟨rfl,vb,rfl⟩
    rw [hen]
    refine bQ (hK _ ?_);clear hK K
    refine bN ?_
    refine bS ?_;intro K hK
    refine se rfl rfl rfl (aN rfl rfl (.cons rfl .nil) DJ (KE rfl rfl (P9 _ _) (Nat.le_trans (xR _ _) (by decide)))) ?_
    rintro _ _ ⟨rfl,rfl⟩
    refine st rfl rfl rfl (dG rfl rfl) ?_
    refine bQ (hK _ ?_);clear hK K
    refine iG (hret _ _ H0 (.tmp rfl .nil) (λ_ _ h=>by cases h) ?_)
    exact rfl
theorem KS {v:Int} (hv:gT v):PP Tryz.prog 77 [int v] (λy=>y=str (enc v)):=kE (aB4 hv) λy H h=>⟨_,rfl,.sc _,by rw [h];exact .refl _⟩
theorem aOE {l:List Int} (hv:∀ v∈l,gT v) (hl:l.length<=68719476736):PC Tryz.prog 45 [ints l] H0 (λy _=>y=str (lG l)):=by
  have hd:45003≠45090:=by decide
  have hlen:=NZ l
  refine kG (c:=_) Tryz.func45 rfl rfl ?_
  intro Q hret hnorm
  refine bN ?_
  refine bS ?_;intro K hK
  refine st rfl rfl rfl (dG rfl rfl) ?_
  refine bQ (hK _ ?_);clear hK K
  refine bN ?_
  refine bS ?_;intro K hK
  refine se rfl rfl rfl (xW 45003 .any rfl KQ rfl) ?_
  rintro _ _ ⟨v3,-,rfl,rfl⟩
  refine bQ (hK _ ?_);clear hK K
  refine bN ?_
  refine bS ?_;intro K hK
  refine st rfl rfl rfl (bF rfl rfl) ?_
  refine st rfl rfl rfl (iT rfl Tryz.underlying23 rfl (mK l)) ?_
  refine st rfl rfl rfl (gH rfl rfl (.cons rfl .nil) eY (bO.refl _) (KS (BC (n:=l.length) (by omega)))) ?_
  refine se rfl rfl rfl (aN rfl rfl (.cons rfl (.cons rfl .nil)) eO (VZ (o:=none) hd rfl (show 0<=_ by omega) (Nat.le_trans (pV _) (by decide)))) ?_
  rintro _ _ ⟨rfl,vb0,rfl⟩
  refine bQ (hK _ ?_);clear hK K
  refine bN ?_
  refine bN ?_
  refine bS ?_;intro K hK
  refine st rfl rfl rfl (bF rfl rfl) ?_
  refine st rfl rfl rfl (iT rfl Tryz.underlying23 rfl (mK l)) ?_
  refine st rfl rfl rfl (bF rfl rfl) ?_
  refine bQ (hK _ ?_);clear hK K
  refine qL ?_;intro Q1 bn1 bx1 br1 bo1
  refine BF (ι:=Nat) (κ:=Option (Nat×List UInt8)) (λk o=>⟨kn [(3,.pt 45003 v3 0 0),(10,ints l),(11,int l.length),(12,int k)],bH 97 5 H0 45003 v3 45090 o⟩) (λk o=>k<=l.length/\held o++(l.drop k).flatMap enc=lG l) (λk o=>l.length-k) 0 (some (vb0,enc l.length)) ⟨Nat.zero_le _,rfl⟩ (qK ⟨rfl,rfl,rfl,rfl,trivial⟩) ?_
  rintro k o ⟨hk,hen⟩ Q2 ln2 lx2 lr2
  have hol:(held o).length<=1099511627776:=by
    have h1:=congrArg List.length hen
    rw [List.length_append] at h1;omega
  refine bN ?_
  refine bS ?_;intro K hK
  refine st rfl rfl rfl (mU rfl rfl rfl) ?_
  refine bQ (hK _ ?_);clear hK K
  refine bN ?_
  refine o7 rfl ?_ ?_
  · intro h13
    have hkl:k<l.length:=by omega
    refine kQ ?_
    refine bN ?_
    refine qL ?_;intro Q3 bn3 bx3 br3 bo3
    refine bN ?_
    refine bS ?_;intro K hK
    refine st rfl rfl rfl (aFM rfl Tryz.underlying23 bW rfl rfl rfl hkl rfl) ?_
    refine st rfl rfl rfl (eT rfl bW rfl (by first | exact .pp _ | exact .pt (rfl) rfl rfl) rfl) ?_
    refine st rfl rfl rfl (dG rfl rfl) ?_
    refine bQ (hK _ ?_);clear hK K
    refine bS ?_;intro K hK
    refine st rfl rfl rfl (bF rfl rfl) ?_
    refine st rfl rfl rfl (gH rfl rfl (.cons rfl .nil) eY (bO.refl _) (KS (hv _ (List.getElem_mem hkl)))) ?_
    refine se rfl rfl rfl (aN rfl rfl (.cons rfl (.cons rfl .nil)) eO (VZ hd rfl hol (Nat.le_trans (pV _) (by decide)))) ?_
    rintro _ _ ⟨rfl,vb,rfl⟩
    refine bQ (hK _ ?_);clear hK K
    refine l7 (bn3 _ ?_)
    refine bS ?_;intro K hK
    refine st rfl rfl rfl (sD rfl rfl rfl (wrap64 (by omega))) ?_
    refine st rfl rfl rfl (bF rfl rfl) ?_
    refine bQ (hK _ ?_);clear hK K
    refine l7 (ln2 _ ⟨k+1,some (vb,held o++enc l[k]),⟨by omega,?_⟩,by omega,qK ⟨rfl,rfl,rfl,rfl,trivial⟩⟩)
    show (held o++enc l[k])++_=_;rw [List.append_assoc,<- JH hkl];exact hen
  · intro h13
    have hke:k=l.length:=by omega
    subst hke
    rw [List.drop_length,List.flatMap_nil,List.append_nil] at hen
    obtain ⟨vb,rfl⟩:∃ vb,o=some (vb,lG l):=by
      cases o with
      | none=>exact absurd hen.symm (RY l)
      | some p=>obtain ⟨vb,m⟩:=p;exact ⟨vb,by rw [<- hen];rfl⟩
    refine pP (lx2 _ _ (bx1 _ ?_))
    refine bN ?_
    refine bS ?_;intro K hK
    refine se rfl rfl rfl (aN rfl rfl (.cons rfl .nil) DJ (KE rfl rfl (RY l) (by omega))) ?_
    rintro _ _ ⟨rfl,rfl⟩
    refine st rfl rfl rfl (dG rfl rfl) ?_
    refine bQ (hK _ ?_);clear hK K
    refine iG (hret _ _ H0 (.tmp rfl .nil) (λ_ _ h=>by cases h) ?_)
    exact rfl
theorem aED {l:List Int} (hv:∀ v∈l,gT v) (hl:l.length<=68719476736):PP Tryz.prog 45 [ints l] (λy=>y=str (lG l)):=kE (aOE hv hl) λy H h=>⟨_,rfl,.sc _,by rw [h];exact .refl _⟩
theorem aND {H:AH} {id aD ib:Nat} {x:AV} (hob:H id=some (qX 99 id aD ib x none)):PC Tryz.prog 79 [.pt id aD 0 0] H (λ_ H'=>H'=upd H id (some ⟨99,3,true,true,aD,[[.pt id aD 0 0,.sc (.slice none 0 0),x]]⟩)):=by
  refine kG (c:=_) Tryz.func79 rfl rfl ?_
  intro Q hret hnorm
  refine bN ?_
  refine bS ?_;intro K hK
  refine st rfl rfl rfl (bF rfl rfl) ?_
  refine st rfl rfl rfl (fU rfl rfl (by first | exact .pp _ | exact .pt (rfl) rfl rfl | exact .pt (hob) rfl rfl | exact .pt (upd_same _ _ _) rfl rfl)) ?_
  refine st rfl rfl rfl (fT rfl vU rfl (by first | exact .pp _ | exact .pt (rfl) rfl rfl | exact .pt (hob) rfl rfl | exact .pt (upd_same _ _ _) rfl rfl) (by first | exact .pt _ _ _ _ _ | exact .pp _ _)) ?_
  refine st rfl rfl rfl (eT rfl vR rfl (by first | exact .pp _ | exact .pt (rfl) rfl rfl | exact .pt (hob) rfl rfl | exact .pt (upd_same _ _ _) rfl rfl) rfl) ?_
  refine st rfl rfl rfl (fE rfl Tryz.underlying95 rfl rfl) ?_
  refine bQ (hK _ ?_);clear hK K
  refine BM rfl ?_
  refine bS ?_;intro K hK
  refine st rfl rfl rfl (bF rfl rfl) ?_
  refine st rfl rfl rfl (bF rfl rfl) ?_
  refine st rfl rfl rfl (VT rfl Tryz.underlying95 Tryz.underlying207 H6 rfl hob rfl rfl (Nat.zero_lt_succ 2)) ?_
  refine st rfl rfl rfl (QD rfl Tryz.func123 rfl rfl (by kernel_rfl) (by kernel_rfl) rfl) ?_
  refine st rfl rfl rfl (Q6 rfl Tryz.underlying207 Tryz.underlying95 H6 rfl hob rfl rfl rfl aAC cW (Nat.zero_lt_succ 2)) ?_
  refine st rfl rfl rfl (fU rfl rfl (by first | exact .pp _ | exact .pt (rfl) rfl rfl | exact .pt (hob) rfl rfl | exact .pt (upd_same _ _ _) rfl rfl)) ?_
  refine st rfl rfl rfl (fT rfl vU rfl (by first | exact .pp _ | exact .pt (rfl) rfl rfl | exact .pt (hob) rfl rfl | exact .pt (upd_same _ _ _) rfl rfl) (by first | exact .pt _ _ _ _ _ | exact .pp _ _)) ?_
  refine oI rfl rfl (dZ rfl vR rfl rfl (by first | exact rfl | exact hob | exact upd_same _ _ _) rfl rfl rfl rfl rfl rfl) ?_
  refine bQ (hK _ ?_);clear hK K
  refine l7 (hnorm _ _ _ .nil (λ_ _ h=>h) ?_)
  exact rfl
theorem aNG {H:AH} {id aD ib:Nat} {x:AV} {o:Nat×List UInt8} (hob:H id=some (qX 99 id aD ib x (some o))):PC Tryz.prog 79 [.pt id aD 0 0] H (λ_ H'=>H'=H):=by
  refine kG (c:=_) Tryz.func79 rfl rfl ?_
  intro Q hret hnorm
  refine bN ?_
  refine bS ?_;intro K hK
  refine st rfl rfl rfl (bF rfl rfl) ?_
  refine st rfl rfl rfl (fU rfl rfl (by first | exact .pp _ | exact .pt (rfl) rfl rfl | exact .pt (hob) rfl rfl | exact .pt (upd_same _ _ _) rfl rfl)) ?_
  refine st rfl rfl rfl (fT rfl vU rfl (by first | exact .pp _ | exact .pt (rfl) rfl rfl | exact .pt (hob) rfl rfl | exact .pt (upd_same _ _ _) rfl rfl) (by first | exact .pt _ _ _ _ _ | exact .pp _ _)) ?_
  refine st rfl rfl rfl (eT rfl vR rfl (by first | exact .pp _ | exact .pt (rfl) rfl rfl | exact .pt (hob) rfl rfl | exact .pt (upd_same _ _ _) rfl rfl) rfl) ?_
  refine st rfl rfl rfl (QE rfl Tryz.underlying95 rfl (.pt hob rfl rfl) rfl) ?_
  refine bQ (hK _ ?_);clear hK K
  refine sN rfl ?_
  refine bN ?_
  refine bS ?_;intro K hK
  refine st rfl rfl rfl (bF rfl rfl) ?_
  refine st rfl rfl rfl (fU rfl rfl (by first | exact .pp _ | exact .pt (rfl) rfl rfl | exact .pt (hob) rfl rfl | exact .pt (upd_same _ _ _) rfl rfl)) ?_
  refine st rfl rfl rfl (fT rfl vU rfl (by first | exact .pp _ | exact .pt (rfl) rfl rfl | exact .pt (hob) rfl rfl | exact .pt (upd_same _ _ _) rfl rfl) (by first | exact .pt _ _ _ _ _ | exact .pp _ _)) ?_
  refine st rfl rfl rfl (eT rfl vR rfl (by first | exact .pp _ | exact .pt (rfl) rfl rfl | exact .pt (hob) rfl rfl | exact .pt (upd_same _ _ _) rfl rfl) rfl) ?_
  refine st rfl rfl rfl (bF rfl rfl) ?_
  refine st rfl rfl rfl (TR rfl Tryz.underlying95 H6 rfl rfl hob rfl (by simp)) ?_
  refine bQ (hK _ ?_);clear hK K
  refine sN rfl ?_
  refine kQ ?_
  refine l7 (hnorm _ _ _ .nil (λ_ _ h=>h) ?_)
  exact rfl
theorem aM5 {H:AH} {id aD ib:Nat} {x:AV} {t:List UInt8} (hd:id≠ib) (hob:H id=some (qX 99 id aD ib x none)) (hib:H ib=none) (ht:t.length<=1099511627776):PC Tryz.prog 44 [.pt id aD 0 0,str t] H (λy H'=>y=mQ [int t.length,.sc .nilIface]/\∃ vb',H'=upd (upd H ib (some (jY 5 vb' (t)))) id (some (qX 99 id aD ib x (some (vb',t))))):=by
  refine kG (c:=_) Tryz.func44 rfl rfl ?_
  intro Q hret hnorm
  refine bN ?_
  refine bS ?_;intro K hK
  refine st rfl rfl rfl (dG rfl rfl) ?_
  refine st rfl rfl rfl (dG rfl rfl) ?_
  refine bQ (hK _ ?_);clear hK K
  refine bN ?_
  refine bS ?_;intro K hK
  refine st rfl rfl rfl (bF rfl rfl) ?_
  refine se rfl rfl rfl (aN rfl rfl (.cons rfl .nil) zO (aND hob)) ?_
  rintro _ _ rfl
  refine bQ (hK _ ?_);clear hK K
  refine bN ?_
  refine bS ?_;intro K hK
  refine st rfl rfl rfl (bF rfl rfl) ?_
  refine st rfl rfl rfl (bF rfl rfl) ?_
  refine st rfl rfl rfl (fU rfl rfl (by first | exact .pp _ | exact .pt (rfl) rfl rfl | exact .pt (hob) rfl rfl | exact .pt (upd_same _ _ _) rfl rfl | exact .pt (bR hd (bR hd (upd_same _ _ _))) rfl rfl | exact .pt (bR hd hob) rfl rfl | exact .pt (hbuf) rfl rfl)) ?_
  refine st rfl rfl rfl (fT rfl nZ rfl (by first | exact .pp _ | exact .pt (rfl) rfl rfl | exact .pt (hob) rfl rfl | exact .pt (upd_same _ _ _) rfl rfl | exact .pt (bR hd (bR hd (upd_same _ _ _))) rfl rfl | exact .pt (bR hd hob) rfl rfl | exact .pt (hbuf) rfl rfl) (by first | exact .pt _ _ _ _ _ | exact .pp _ _)) ?_
  refine st rfl rfl rfl (eT rfl nW rfl (by first | exact .pp _ | exact .pt (rfl) rfl rfl | exact .pt (hob) rfl rfl | exact .pt (upd_same _ _ _) rfl rfl | exact .pt (bR hd (bR hd (upd_same _ _ _))) rfl rfl | exact .pt (bR hd hob) rfl rfl | exact .pt (hbuf) rfl rfl) rfl) ?_
  refine I7 12 ib 5 1 rfl ((upd_ne _ _ (Ne.symm hd)).trans hib) ?_;intro vn
  refine st rfl rfl rfl (bF rfl rfl) ?_
  refine se rfl rfl rfl (DW (l:=[]) .any rfl Tryz.underlying51 Tryz.underlying9 nP sU rfl rfl (by first | exact rfl | exact hbuf | exact upd_same _ _ _) rfl rfl rfl rfl rfl rfl rfl (by show 0+t.length<=140737488355328;omega)) ?_
  rintro _ _ ⟨v14,-,rfl,rfl⟩
  refine st rfl rfl rfl (fU rfl rfl (by first | exact .pp _ | exact .pt (rfl) rfl rfl | exact .pt (hob) rfl rfl | exact .pt (upd_same _ _ _) rfl rfl | exact .pt (bR hd (bR hd (upd_same _ _ _))) rfl rfl | exact .pt (bR hd hob) rfl rfl | exact .pt (hbuf) rfl rfl)) ?_
  refine st rfl rfl rfl (fT rfl nZ rfl (by first | exact .pp _ | exact .pt (rfl) rfl rfl | exact .pt (hob) rfl rfl | exact .pt (upd_same _ _ _) rfl rfl | exact .pt (bR hd (bR hd (upd_same _ _ _))) rfl rfl | exact .pt (bR hd hob) rfl rfl | exact .pt (hbuf) rfl rfl) (by first | exact .pt _ _ _ _ _ | exact .pp _ _)) ?_
  refine oI rfl rfl (dZ rfl nW rfl rfl (by first | exact rfl | exact hob | exact upd_same _ _ _ | exact bR hd (bR hd (upd_same _ _ _)) | exact bR hd hob | exact hbuf) rfl rfl rfl rfl rfl rfl) ?_
  refine bQ (hK _ ?_);clear hK K
  refine bN ?_
  refine bS ?_;intro K hK
  refine st rfl rfl rfl (bF rfl rfl) ?_
  refine st rfl rfl rfl (qB rfl Tryz.underlying9 rfl) ?_
  refine st rfl rfl rfl (dG rfl rfl) ?_
  refine st rfl rfl rfl (dG rfl rfl) ?_
  refine bQ (hK _ ?_);clear hK K
  refine iG (hret _ _ (upd (upd H ib (some (jY 5 v14 (t)))) id (some (qX 99 id aD ib x (some (v14,t))))) (.tmp rfl (.tmp rfl .nil)) (λt v h=>by rw [<- h];simp only [sI];by_cases h0:t=id <;> by_cases h1:t=ib <;> simp_all [cB] <;> rfl) ?_)
  exact ⟨rfl,_,rfl⟩
theorem aG3 {H:AH} {id aD ib:Nat} {x:AV} {t:List UInt8} {vb:Nat} {l:List UInt8} (hd:id≠ib) (hob:H id=some (qX 99 id aD ib x (some (vb,l)))) (hbuf:H ib=some (jY 5 vb l)) (hl:l.length<=1099511627776) (ht:t.length<=1099511627776):PC Tryz.prog 44 [.pt id aD 0 0,str t] H (λy H'=>y=mQ [int t.length,.sc .nilIface]/\∃ vb',H'=upd (upd H ib (some (jY 5 vb' (l++t)))) id (some (qX 99 id aD ib x (some (vb',l++t))))):=by
  refine kG (c:=_) Tryz.func44 rfl rfl ?_
  intro Q hret hnorm
  refine bN ?_
  refine bS ?_;intro K hK
  refine st rfl rfl rfl (dG rfl rfl) ?_
  refine st rfl rfl rfl (dG rfl rfl) ?_
  refine bQ (hK _ ?_);clear hK K
  refine bN ?_
  refine bS ?_;intro K hK
  refine st rfl rfl rfl (bF rfl rfl) ?_
  refine se rfl rfl rfl (aN rfl rfl (.cons rfl .nil) zO (aNG hob)) ?_
  rintro _ _ he;obtain rfl:=he.symm
  refine bQ (hK _ ?_);clear hK K
  refine bN ?_
  refine bS ?_;intro K hK
  refine st rfl rfl rfl (bF rfl rfl) ?_
  refine st rfl rfl rfl (bF rfl rfl) ?_
  refine st rfl rfl rfl (fU rfl rfl (by first | exact .pp _ | exact .pt (rfl) rfl rfl | exact .pt (hob) rfl rfl | exact .pt (upd_same _ _ _) rfl rfl | exact .pt (bR hd (bR hd (upd_same _ _ _))) rfl rfl | exact .pt (bR hd hob) rfl rfl | exact .pt (hbuf) rfl rfl)) ?_
  refine st rfl rfl rfl (fT rfl nZ rfl (by first | exact .pp _ | exact .pt (rfl) rfl rfl | exact .pt (hob) rfl rfl | exact .pt (upd_same _ _ _) rfl rfl | exact .pt (bR hd (bR hd (upd_same _ _ _))) rfl rfl | exact .pt (bR hd hob) rfl rfl | exact .pt (hbuf) rfl rfl) (by first | exact .pt _ _ _ _ _ | exact .pp _ _)) ?_
  refine st rfl rfl rfl (eT rfl nW rfl (by first | exact .pp _ | exact .pt (rfl) rfl rfl | exact .pt (hob) rfl rfl | exact .pt (upd_same _ _ _) rfl rfl | exact .pt (bR hd (bR hd (upd_same _ _ _))) rfl rfl | exact .pt (bR hd hob) rfl rfl | exact .pt (hbuf) rfl rfl) rfl) ?_
  refine st rfl rfl rfl (bF rfl rfl) ?_
  refine se rfl rfl rfl (DW (l:=l) .any rfl Tryz.underlying51 Tryz.underlying9 nP sU rfl rfl (by first | exact rfl | exact hbuf | exact upd_same _ _ _) rfl rfl rfl rfl rfl rfl rfl (by omega)) ?_
  rintro _ _ ⟨v14,-,rfl,rfl⟩
  refine st rfl rfl rfl (fU rfl rfl (by first | exact .pp _ | exact .pt (rfl) rfl rfl | exact .pt (hob) rfl rfl | exact .pt (upd_same _ _ _) rfl rfl | exact .pt (bR hd (bR hd (upd_same _ _ _))) rfl rfl | exact .pt (bR hd hob) rfl rfl | exact .pt (hbuf) rfl rfl)) ?_
  refine st rfl rfl rfl (fT rfl nZ rfl (by first | exact .pp _ | exact .pt (rfl) rfl rfl | exact .pt (hob) rfl rfl | exact .pt (upd_same _ _ _) rfl rfl | exact .pt (bR hd (bR hd (upd_same _ _ _))) rfl rfl | exact .pt (bR hd hob) rfl rfl | exact .pt (hbuf) rfl rfl) (by first | exact .pt _ _ _ _ _ | exact .pp _ _)) ?_
  refine oI rfl rfl (dZ rfl nW rfl rfl (by first | exact rfl | exact hob | exact upd_same _ _ _ | exact bR hd (bR hd (upd_same _ _ _)) | exact bR hd hob | exact hbuf) rfl rfl rfl rfl rfl rfl) ?_
  refine bQ (hK _ ?_);clear hK K
  refine bN ?_
  refine bS ?_;intro K hK
  refine st rfl rfl rfl (bF rfl rfl) ?_
  refine st rfl rfl rfl (qB rfl Tryz.underlying9 rfl) ?_
  refine st rfl rfl rfl (dG rfl rfl) ?_
  refine st rfl rfl rfl (dG rfl rfl) ?_
  refine bQ (hK _ ?_);clear hK K
  refine iG (hret _ _ (upd (upd H ib (some (jY 5 v14 (l++t)))) id (some (qX 99 id aD ib x (some (v14,l++t))))) (.tmp rfl (.tmp rfl .nil)) (λt v h=>by rw [<- h];simp only [sI];by_cases h0:t=id <;> by_cases h1:t=ib <;> simp_all [cB] <;> rfl) ?_)
  exact ⟨rfl,_,rfl⟩
theorem aA3 {H:AH} {id aD ib vb:Nat} {x:AV} {l:List UInt8} (hob:H id=some (qX 99 id aD ib x (some (vb,l)))) (hbuf:H ib=some (jY 5 vb l)) (hne:l≠[]) (hl:l.length<=1099511627776):PC Tryz.prog 47 [.pt id aD 0 0] H (λy H'=>y=str l/\H'=upd H ib none):=by
  have hrow:(jY 5 vb l).rows[0]?=some [.sc (.int .u8 ((l.head hne).toNat:Nat))]:=by
    cases l with
    | nil=>exact absurd rfl hne
    | cons a r=>rfl
  refine kG (c:=_) Tryz.func47 rfl rfl ?_
  intro Q hret hnorm
  refine bN ?_
  refine bS ?_;intro K hK
  refine st rfl rfl rfl (dG rfl rfl) ?_
  refine bQ (hK _ ?_);clear hK K
  refine bN ?_
  refine AQ [0,1,3,7,15,0,32,96,224,480,1023,2047] (λ_ _=>true) (λi=>bif Nat.beq i 10 then some ib else none) mixed (by kernel_rfl) ?_;intro C K hK
  refine iH rfl (λH hH=>bF rfl rfl) ?_
  refine iH rfl (λH hH=>fU rfl rfl (by first | exact .pp _ | exact .pt ((hH _ rfl).trans (rfl)) rfl rfl | exact .pt ((hH _ rfl).trans (hob)) rfl rfl | exact .pt ((hH _ rfl).trans (hbuf)) rfl rfl)) ?_
  refine iH rfl (λH hH=>fT rfl nZ rfl (by first | exact .pp _ | exact .pt ((hH _ rfl).trans (rfl)) rfl rfl | exact .pt ((hH _ rfl).trans (hob)) rfl rfl | exact .pt ((hH _ rfl).trans (hbuf)) rfl rfl) (by first | exact .pt _ _ _ _ _ | exact .pp _ _)) ?_
  refine iH rfl (λH hH=>eT rfl nW rfl (by first | exact .pp _ | exact .pt ((hH _ rfl).trans (rfl)) rfl rfl | exact .pt ((hH _ rfl).trans (hob)) rfl rfl | exact .pt ((hH _ rfl).trans (hbuf)) rfl rfl) rfl) ?_
  refine iH rfl (λH hH=>XQ rfl rfl ((hH _ rfl).trans hbuf) rfl hrow (by have:=List.length_pos_iff.2 hne;omega)) ?_
  refine iH rfl (λH hH=>bF rfl rfl) ?_
  refine iH rfl (λH hH=>fU rfl rfl (by first | exact .pp _ | exact .pt ((hH _ rfl).trans (rfl)) rfl rfl | exact .pt ((hH _ rfl).trans (hob)) rfl rfl | exact .pt ((hH _ rfl).trans (hbuf)) rfl rfl)) ?_
  refine iH rfl (λH hH=>fT rfl nZ rfl (by first | exact .pp _ | exact .pt ((hH _ rfl).trans (rfl)) rfl rfl | exact .pt ((hH _ rfl).trans (hob)) rfl rfl | exact .pt ((hH _ rfl).trans (hbuf)) rfl rfl) (by first | exact .pt _ _ _ _ _ | exact .pp _ _)) ?_
  refine iH rfl (λH hH=>eT rfl nW rfl (by first | exact .pp _ | exact .pt ((hH _ rfl).trans (rfl)) rfl rfl | exact .pt ((hH _ rfl).trans (hob)) rfl rfl | exact .pt ((hH _ rfl).trans (hbuf)) rfl rfl) rfl) ?_
  refine iH rfl (λH hH=>iT rfl Tryz.underlying51 rfl (.sl ((hH _ rfl).trans hbuf) rfl)) ?_
  refine oN (k:=ib) (ob:=none) (x:=str l) rfl rfl (λH hH=>(UZ rfl Tryz.underlying165 c5 rfl rfl ((hH _ rfl).trans hbuf) rfl rfl rfl rfl rfl rfl hne (by omega)).fA (λ_ h=>h.elim) (λ_ h=>h.elim)) ?_
  refine iH rfl (λH hH=>dG rfl rfl) ?_
  refine zY (hK _ ?_);clear hK K
  refine iG (hret _ _ _ (.tmp rfl .nil) (λ_ _ h=>h) ?_)
  exact ⟨rfl,rfl⟩
end Go.Pv
