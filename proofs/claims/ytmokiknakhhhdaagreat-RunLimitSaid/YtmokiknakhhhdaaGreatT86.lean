import Derived.Test.YtmokiknakhhhdaaGreatPvU
import Derived.Test.YtmokiknakhhhdaaGreatT85
import Derived.Test.YtmokiknakhhhdaaGreatProg
set_option linter.unusedVariables false
set_option linter.unusedSimpArgs false
namespace Go.Pv
open Go.Proofs
set_option maxRecDepth 10000
theorem aDJ {v:Int} (hv:gT v):PC Tryz.prog 20 [int v] H0 (λy _=>y=str (enc v)):=by
  refine kG (c:=_) Tryz.func20 rfl rfl ?_
  intro Q hret hnorm
  refine bN ?_
  refine bS ?_;intro K hK
  refine st rfl rfl rfl (dG rfl rfl) ?_
  refine bQ (hK _ ?_);clear hK K
  refine bN ?_
  refine bS ?_;intro K hK
  refine st rfl rfl rfl (bF rfl rfl) ?_
  refine st rfl rfl rfl (jS (r:=(wY v:Nat)) rfl Tryz.underlying3 Tryz.underlying108 rfl (Q9 hv)) ?_
  refine st rfl rfl rfl (wZ (r:=(tw v:Nat)) rfl rfl rfl (by omega) (SK hv)) ?_
  refine st rfl rfl rfl (dG rfl rfl) ?_
  refine bQ (hK _ ?_);clear hK K
  refine bN ?_
  refine bN ?_
  refine bS ?_;intro K hK
  refine st rfl rfl rfl (bF rfl rfl) ?_
  refine st rfl rfl rfl (mU rfl rfl rfl) ?_
  refine bQ (hK _ ?_);clear hK K
  refine o7 rfl ?_ ?_
  · intro h9
    have hz:zz v=zz v:=rfl
    refine bS ?_;intro K hK
    refine st rfl rfl rfl (bF rfl rfl) ?_
    refine st rfl rfl rfl (aD8 (r:=(zz v:Nat)) rfl rfl (aLE hv h9)) ?_
    refine st rfl rfl rfl (dG rfl rfl) ?_
    refine bQ (hK _ ?_);clear hK K
    refine bN ?_
    refine bS ?_;intro K hK
    refine st rfl rfl rfl (dG rfl rfl) ?_
    refine bQ (hK _ ?_);clear hK K
    refine bN ?_
    refine qL ?_;intro Q1 bn1 bx1 br1 bo1
    refine tJ 4 20004 5 1 rfl rfl ?_
    intro v4
    refine BF (ι:=Nat×Nat×Nat) (κ:=Nat×List UInt8) (λp q=>⟨kn [(3,.sc (.int .u64 (p.2.1:Nat))),(4,.sl 20004 q.1 0 p.2.2)],upd H0 20004 (some (jY 5 q.1 q.2))⟩) (λp q=>p.2.1<128 ^ p.1/\q.2++lN p.1 p.2.1=enc v/\q.2.length=p.2.2) (λp q=>p.2.1) ⟨10,zz v,0⟩ ⟨v4,[]⟩ ⟨Nat.lt_of_lt_of_le (EF hv) (show 18446744073709551616<=128 ^ 10 by decide),rfl,rfl⟩ (by first | exact qK ⟨rfl,rfl,trivial⟩ | (rw [hz];exact qK ⟨rfl,rfl,trivial⟩)) ?_
    rintro ⟨f,u,k⟩ ⟨lv,h⟩ ⟨huf,hen,hhk⟩ Q2 ln2 lx2 lr2
    have huf:u<128 ^ f:=huf
    have hen:h++lN f u=enc v:=hen
    have hhk:h.length=k:=hhk
    have hol:h.length<=11:=by
      have h1:=congrArg List.length hen
      have h2:=xR 10 (zz v)
      rw [List.length_append] at h1;unfold enc at h1;omega
    refine bN ?_
    refine bN ?_
    refine bS ?_;intro K hK
    refine st rfl rfl rfl (bF rfl rfl) ?_
    refine st rfl rfl rfl (qF rfl rfl rfl) ?_
    refine bQ (hK _ ?_);clear hK K
    refine o7 rfl ?_ ?_
    · intro h13
      have h13:128<=u:=by have h13:(128:Int)<=(u:Int):=h13;omega
      obtain ⟨f,rfl⟩:∃ f0,f=f0+1:=⟨f-1,by
        rcases Nat.eq_zero_or_pos f with h0 | h0
        · subst h0;simp at huf;omega
        · omega⟩
      refine kQ ?_
      refine qL ?_;intro Q3 bn3 bx3 br3 bo3
      refine bN ?_
      refine bS ?_;intro K hK
      refine st rfl rfl rfl (bF rfl rfl) ?_
      refine st rfl rfl rfl (bF rfl rfl) ?_
      refine st rfl rfl rfl (jS (r:=((UInt8.ofNat u).toNat:Nat)) rfl Tryz.underlying108 Tryz.underlying5 rfl (zJ _)) ?_
      refine st rfl rfl rfl (xS (r:=((UInt8.ofNat (u % 128+128)).toNat:Nat)) rfl rfl rfl (SA u)) ?_
      refine st rfl rfl rfl (dQ (ps:=[(0,_)]) (rows:=[[.sc (.int .u8 ((UInt8.ofNat (u % 128+128)).toNat:Nat))]]) rfl Tryz.underlying51 nP (.cons rfl .nil) rfl rfl rfl rfl) ?_
      refine se rfl rfl rfl (vS .any rfl Tryz.underlying51 nP sU rfl rfl (rfl) rfl rfl rfl rfl rfl ((AL h).trans hhk) (.refl _) (by intro r hr;simp at hr;subst hr;rfl) (by simp only [List.length_cons,List.length_nil];omega) (by simp only [List.length_cons,List.length_nil];omega)) ?_
      rintro _ _ ⟨v19,-,rfl,rfl⟩
      refine st rfl rfl rfl (dG rfl rfl) ?_
      refine bQ (hK _ ?_);clear hK K
      refine bS ?_;intro K hK
      refine st rfl rfl rfl (bF rfl rfl) ?_
      refine st rfl rfl rfl (rD (r:=((u / 128:Nat):Int)) rfl rfl rfl (by omega) J3) ?_
      refine st rfl rfl rfl (dG rfl rfl) ?_
      refine bQ (hK _ ?_);clear hK K
      refine l7 (bn3 _ ?_)
      refine l7 (ln2 _ ⟨⟨f,u / 128,k+1⟩,⟨v19,h++[UInt8.ofNat (u % 128+128)]⟩,⟨?_,?_,?_⟩,?_,DX (KN.le ⟨rfl,rfl,trivial⟩) (λt v h=>?_)⟩)
      · show u / 128<128 ^ f;rw [Nat.pow_succ] at huf;omega
      · show (h++[_])++lN f (u / 128)=_;rw [List.append_assoc,List.singleton_append,<- GX f (by omega)];exact hen
      · show (h++[_]).length=k+1;rw [List.length_append,hhk];rfl
      · show u / 128<u;omega
      · by_cases h0:t=20004
        · subst h0;rw [upd_same] at h;rw [<- h];refine (upd_same _ _ _).trans ?_;simp [cB]
        · rw [upd_ne _ _ h0] at h;cases h
    · intro h13
      have hlt:u<128:=by have h13:¬ (128:Int)<=(u:Int):=h13;omega
      rw [GQ f hlt] at hen
      refine pP (lx2 _ _ (bx1 _ ?_))
      refine bN ?_
      refine bS ?_;intro K hK
      refine st rfl rfl rfl (bF rfl rfl) ?_
      refine st rfl rfl rfl (bF rfl rfl) ?_
      refine st rfl rfl rfl (jS (r:=((UInt8.ofNat u).toNat:Nat)) rfl Tryz.underlying108 Tryz.underlying5 rfl (zJ _)) ?_
      refine st rfl rfl rfl (dQ (ps:=[(0,_)]) (rows:=[[.sc (.int .u8 ((UInt8.ofNat u).toNat:Nat))]]) rfl Tryz.underlying51 nP (.cons rfl .nil) rfl rfl rfl rfl) ?_
      refine se rfl rfl rfl (vS .any rfl Tryz.underlying51 nP sU rfl rfl (rfl) rfl rfl rfl rfl rfl ((AL h).trans hhk) (.refl _) (by intro r hr;simp at hr;subst hr;rfl) (by simp only [List.length_cons,List.length_nil];omega) (by simp only [List.length_cons,List.length_nil];omega)) ?_
      rintro _ _ ⟨v26,-,rfl,rfl⟩
      refine st rfl rfl rfl (TT (l:=enc v) rfl Tryz.underlying51 Tryz.underlying5 Tryz.underlying9 rfl rfl rfl rfl (by rw [<- hen,OV];rfl) (by rw [<- hen,List.length_append,hhk];rfl)) ?_
      refine st rfl rfl rfl (dG rfl rfl) ?_
      refine bQ (hK _ ?_);clear hK K
      refine iG (hret _ _ H0 (.tmp rfl .nil) (λ_ _ h=>by cases h) ?_)
      exact rfl
  · intro h9
    have hz:tw v=zz v:=aK4 h9
    refine kQ ?_
    refine bN ?_
    refine bS ?_;intro K hK
    refine st rfl rfl rfl (dG rfl rfl) ?_
    refine bQ (hK _ ?_);clear hK K
    refine bN ?_
    refine qL ?_;intro Q1 bn1 bx1 br1 bo1
    refine tJ 4 20004 5 1 rfl rfl ?_
    intro v4
    refine BF (ι:=Nat×Nat×Nat) (κ:=Nat×List UInt8) (λp q=>⟨kn [(3,.sc (.int .u64 (p.2.1:Nat))),(4,.sl 20004 q.1 0 p.2.2)],upd H0 20004 (some (jY 5 q.1 q.2))⟩) (λp q=>p.2.1<128 ^ p.1/\q.2++lN p.1 p.2.1=enc v/\q.2.length=p.2.2) (λp q=>p.2.1) ⟨10,zz v,0⟩ ⟨v4,[]⟩ ⟨Nat.lt_of_lt_of_le (EF hv) (show 18446744073709551616<=128 ^ 10 by decide),rfl,rfl⟩ (by first | exact qK ⟨rfl,rfl,trivial⟩ | (rw [hz];exact qK ⟨rfl,rfl,trivial⟩)) ?_
    rintro ⟨f,u,k⟩ ⟨lv,h⟩ ⟨huf,hen,hhk⟩ Q2 ln2 lx2 lr2
    have huf:u<128 ^ f:=huf
    have hen:h++lN f u=enc v:=hen
    have hhk:h.length=k:=hhk
    have hol:h.length<=11:=by
      have h1:=congrArg List.length hen
      have h2:=xR 10 (zz v)
      rw [List.length_append] at h1;unfold enc at h1;omega
    refine bN ?_
    refine bN ?_
    refine bS ?_;intro K hK
    refine st rfl rfl rfl (bF rfl rfl) ?_
    refine st rfl rfl rfl (qF rfl rfl rfl) ?_
    refine bQ (hK _ ?_);clear hK K
    refine o7 rfl ?_ ?_
    · intro h13
      have h13:128<=u:=by have h13:(128:Int)<=(u:Int):=h13;omega
      obtain ⟨f,rfl⟩:∃ f0,f=f0+1:=⟨f-1,by
        rcases Nat.eq_zero_or_pos f with h0 | h0
        · subst h0;simp at huf;omega
        · omega⟩
      refine kQ ?_
      refine qL ?_;intro Q3 bn3 bx3 br3 bo3
      refine bN ?_
      refine bS ?_;intro K hK
      refine st rfl rfl rfl (bF rfl rfl) ?_
      refine st rfl rfl rfl (bF rfl rfl) ?_
      refine st rfl rfl rfl (jS (r:=((UInt8.ofNat u).toNat:Nat)) rfl Tryz.underlying108 Tryz.underlying5 rfl (zJ _)) ?_
      refine st rfl rfl rfl (xS (r:=((UInt8.ofNat (u % 128+128)).toNat:Nat)) rfl rfl rfl (SA u)) ?_
      refine st rfl rfl rfl (dQ (ps:=[(0,_)]) (rows:=[[.sc (.int .u8 ((UInt8.ofNat (u % 128+128)).toNat:Nat))]]) rfl Tryz.underlying51 nP (.cons rfl .nil) rfl rfl rfl rfl) ?_
      refine se rfl rfl rfl (vS .any rfl Tryz.underlying51 nP sU rfl rfl (rfl) rfl rfl rfl rfl rfl ((AL h).trans hhk) (.refl _) (by intro r hr;simp at hr;subst hr;rfl) (by simp only [List.length_cons,List.length_nil];omega) (by simp only [List.length_cons,List.length_nil];omega)) ?_
      rintro _ _ ⟨v19,-,rfl,rfl⟩
      refine st rfl rfl rfl (dG rfl rfl) ?_
      refine bQ (hK _ ?_);clear hK K
      refine bS ?_;intro K hK
      refine st rfl rfl rfl (bF rfl rfl) ?_
      refine st rfl rfl rfl (rD (r:=((u / 128:Nat):Int)) rfl rfl rfl (by omega) J3) ?_
      refine st rfl rfl rfl (dG rfl rfl) ?_
      refine bQ (hK _ ?_);clear hK K
      refine l7 (bn3 _ ?_)
      refine l7 (ln2 _ ⟨⟨f,u / 128,k+1⟩,⟨v19,h++[UInt8.ofNat (u % 128+128)]⟩,⟨?_,?_,?_⟩,?_,DX (KN.le ⟨rfl,rfl,trivial⟩) (λt v h=>?_)⟩)
      · show u / 128<128 ^ f;rw [Nat.pow_succ] at huf;omega
      · show (h++[_])++lN f (u / 128)=_;rw [List.append_assoc,List.singleton_append,<- GX f (by omega)];exact hen
      · show (h++[_]).length=k+1;rw [List.length_append,hhk];rfl
      · show u / 128<u;omega
      · by_cases h0:t=20004
        · subst h0;rw [upd_same] at h;rw [<- h];refine (upd_same _ _ _).trans ?_;simp [cB]
        · rw [upd_ne _ _ h0] at h;cases h
    · intro h13
      have hlt:u<128:=by have h13:¬ (128:Int)<=(u:Int):=h13;omega
      rw [GQ f hlt] at hen
      refine pP (lx2 _ _ (bx1 _ ?_))
      refine bN ?_
      refine bS ?_;intro K hK
      refine st rfl rfl rfl (bF rfl rfl) ?_
      refine st rfl rfl rfl (bF rfl rfl) ?_
      refine st rfl rfl rfl (jS (r:=((UInt8.ofNat u).toNat:Nat)) rfl Tryz.underlying108 Tryz.underlying5 rfl (zJ _)) ?_
      refine st rfl rfl rfl (dQ (ps:=[(0,_)]) (rows:=[[.sc (.int .u8 ((UInt8.ofNat u).toNat:Nat))]]) rfl Tryz.underlying51 nP (.cons rfl .nil) rfl rfl rfl rfl) ?_
      refine se rfl rfl rfl (vS .any rfl Tryz.underlying51 nP sU rfl rfl (rfl) rfl rfl rfl rfl rfl ((AL h).trans hhk) (.refl _) (by intro r hr;simp at hr;subst hr;rfl) (by simp only [List.length_cons,List.length_nil];omega) (by simp only [List.length_cons,List.length_nil];omega)) ?_
      rintro _ _ ⟨v26,-,rfl,rfl⟩
      refine st rfl rfl rfl (TT (l:=enc v) rfl Tryz.underlying51 Tryz.underlying5 Tryz.underlying9 rfl rfl rfl rfl (by rw [<- hen,OV];rfl) (by rw [<- hen,List.length_append,hhk];rfl)) ?_
      refine st rfl rfl rfl (dG rfl rfl) ?_
      refine bQ (hK _ ?_);clear hK K
      refine iG (hret _ _ H0 (.tmp rfl .nil) (λ_ _ h=>by cases h) ?_)
      exact rfl
theorem aNC {v:Int} (hv:gT v):PP Tryz.prog 20 [int v] (λy=>y=str (enc v)):=kE (aDJ hv) λy H h=>⟨_,rfl,.sc _,by rw [h];exact .refl _⟩
end Go.Pv
