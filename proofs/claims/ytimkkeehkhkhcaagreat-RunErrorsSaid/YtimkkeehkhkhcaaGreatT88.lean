import Derived.Test.YtimkkeehkhkhcaaGreatPvT
import Derived.Test.YtimkkeehkhkhcaaGreatT87
import Derived.Test.YtimkkeehkhkhcaaGreatProg
set_option linter.unusedVariables false
set_option linter.unusedSimpArgs false
namespace Go.Pv
open Go.Proofs
set_option maxRecDepth 10000
theorem XD {v:Int} (hv:kM v):PC Tryz.prog 13 [int v] H0 (λy _=>y=str (enc v)):=by
  refine jZ (c:=_) Tryz.func13 rfl rfl ?_
  intro Q hret hnorm
  refine bR ?_
  refine cB ?_;intro K hK
  refine st rfl rfl rfl (eO rfl rfl) ?_
  refine bT (hK _ ?_);clear hK K
  refine bR ?_
  refine cB ?_;intro K hK
  refine st rfl rfl rfl (bM rfl rfl) ?_
  refine st rfl rfl rfl (jX (r:=(vN v:Nat)) rfl Tryz.underlying3 Tryz.underlying70 rfl (TY hv)) ?_
  refine st rfl rfl rfl (vD (r:=(tw v:Nat)) rfl rfl rfl (by omega) (OI hv)) ?_
  refine st rfl rfl rfl (eO rfl rfl) ?_
  refine bT (hK _ ?_);clear hK K
  refine bR ?_
  refine bR ?_
  refine cB ?_;intro K hK
  refine st rfl rfl rfl (bM rfl rfl) ?_
  refine st rfl rfl rfl (oC rfl rfl rfl) ?_
  refine bT (hK _ ?_);clear hK K
  refine nV rfl ?_ ?_
  · intro h9
    have hz:zz v=zz v:=rfl
    refine cB ?_;intro K hK
    refine st rfl rfl rfl (bM rfl rfl) ?_
    refine st rfl rfl rfl (aF0 (r:=(zz v:Nat)) rfl rfl (aEX hv h9)) ?_
    refine st rfl rfl rfl (eO rfl rfl) ?_
    refine bT (hK _ ?_);clear hK K
    refine bR ?_
    refine cB ?_;intro K hK
    refine st rfl rfl rfl (eO rfl rfl) ?_
    refine bT (hK _ ?_);clear hK K
    refine bR ?_
    refine pU ?_;intro Q1 bn1 bx1 br1 bo1
    refine sH 4 13004 5 1 rfl rfl ?_
    intro v4
    refine yQ (ι:=Nat×Nat×Nat) (κ:=Nat×List UInt8) (λp q=>⟨kn [(3,.sc (.int .u64 (p.2.1:Nat))),(4,.sl 13004 q.1 0 p.2.2)],upd H0 13004 (some (dV 5 q.1 q.2))⟩) (λp q=>p.2.1<128 ^ p.1/\q.2++lC p.1 p.2.1=enc v/\q.2.length=p.2.2) (λp q=>p.2.1) ⟨10,zz v,0⟩ ⟨v4,[]⟩ ⟨Nat.lt_of_lt_of_le (I7 hv) (show 18446744073709551616<=128 ^ 10 by decide),rfl,rfl⟩ (by first | exact pF ⟨rfl,rfl,trivial⟩ | (rw [hz];exact pF ⟨rfl,rfl,trivial⟩)) ?_
    rintro ⟨f,u,k⟩ ⟨lv,h⟩ ⟨huf,hen,hhk⟩ Q2 ln2 lx2 lr2
    have huf:u<128 ^ f:=huf
    have hen:h++lC f u=enc v:=hen
    have hhk:h.length=k:=hhk
    have hol:h.length<=11:=by
      have h1:=congrArg List.length hen
      have h2:=wH 10 (zz v)
      rw [List.length_append] at h1;unfold enc at h1;omega
    refine bR ?_
    refine bR ?_
    refine cB ?_;intro K hK
    refine st rfl rfl rfl (bM rfl rfl) ?_
    refine st rfl rfl rfl (xH rfl rfl rfl) ?_
    refine bT (hK _ ?_);clear hK K
    refine nV rfl ?_ ?_
    · intro h13
      have h13:128<=u:=by have h13:(128:Int)<=(u:Int):=h13;omega
      obtain ⟨f,rfl⟩:∃ f0,f=f0+1:=⟨f-1,by
        rcases Nat.eq_zero_or_pos f with h0 | h0
        · subst h0;simp at huf;omega
        · omega⟩
      refine kE ?_
      refine pU ?_;intro Q3 bn3 bx3 br3 bo3
      refine bR ?_
      refine cB ?_;intro K hK
      refine st rfl rfl rfl (bM rfl rfl) ?_
      refine st rfl rfl rfl (bM rfl rfl) ?_
      refine st rfl rfl rfl (jX (r:=((UInt8.ofNat u).toNat:Nat)) rfl Tryz.underlying70 Tryz.underlying5 rfl (wO _)) ?_
      refine st rfl rfl rfl (wX (r:=((UInt8.ofNat (u % 128+128)).toNat:Nat)) rfl rfl rfl (NC u)) ?_
      refine st rfl rfl rfl (dY (ps:=[(0,_)]) (rows:=[[.sc (.int .u8 ((UInt8.ofNat (u % 128+128)).toNat:Nat))]]) rfl Tryz.underlying37 lT (.cons rfl .nil) rfl rfl rfl rfl) ?_
      refine se rfl rfl rfl (tT .any rfl Tryz.underlying37 lT pM rfl rfl (rfl) rfl rfl rfl rfl rfl ((yV h).trans hhk) (.refl _) (by intro r hr;simp at hr;subst hr;rfl) (by simp only [List.length_cons,List.length_nil];omega) (by simp only [List.length_cons,List.length_nil];omega)) ?_
      rintro _ _ ⟨v19,-,rfl,rfl⟩
      refine st rfl rfl rfl (eO rfl rfl) ?_
      refine bT (hK _ ?_);clear hK K
      refine cB ?_;intro K hK
      refine st rfl rfl rfl (bM rfl rfl) ?_
      refine st rfl rfl rfl (qA (r:=((u / 128:Nat):Int)) rfl rfl rfl (by omega) FF) ?_
      refine st rfl rfl rfl (eO rfl rfl) ?_
      refine bT (hK _ ?_);clear hK K
      refine lS (bn3 _ ?_)
      refine lS (ln2 _ ⟨⟨f,u / 128,k+1⟩,⟨v19,h++[UInt8.ofNat (u % 128+128)]⟩,⟨?_,?_,?_⟩,?_,CV (KN.le ⟨rfl,rfl,trivial⟩) (λt v h=>?_)⟩)
      · show u / 128<128 ^ f;rw [Nat.pow_succ] at huf;omega
      · show (h++[_])++lC f (u / 128)=_;rw [List.append_assoc,List.singleton_append,<- GN f (by omega)];exact hen
      · show (h++[_]).length=k+1;rw [List.length_append,hhk];rfl
      · show u / 128<u;omega
      · by_cases h0:t=13004
        · subst h0;rw [upd_same] at h;rw [<- h];refine (upd_same _ _ _).trans ?_;simp [bN]
        · rw [upd_ne _ _ h0] at h;cases h
    · intro h13
      have hlt:u<128:=by have h13:¬ (128:Int)<=(u:Int):=h13;omega
      rw [FR f hlt] at hen
      refine oV (lx2 _ _ (bx1 _ ?_))
      refine bR ?_
      refine cB ?_;intro K hK
      refine st rfl rfl rfl (bM rfl rfl) ?_
      refine st rfl rfl rfl (bM rfl rfl) ?_
      refine st rfl rfl rfl (jX (r:=((UInt8.ofNat u).toNat:Nat)) rfl Tryz.underlying70 Tryz.underlying5 rfl (wO _)) ?_
      refine st rfl rfl rfl (dY (ps:=[(0,_)]) (rows:=[[.sc (.int .u8 ((UInt8.ofNat u).toNat:Nat))]]) rfl Tryz.underlying37 lT (.cons rfl .nil) rfl rfl rfl rfl) ?_
      refine se rfl rfl rfl (tT .any rfl Tryz.underlying37 lT pM rfl rfl (rfl) rfl rfl rfl rfl rfl ((yV h).trans hhk) (.refl _) (by intro r hr;simp at hr;subst hr;rfl) (by simp only [List.length_cons,List.length_nil];omega) (by simp only [List.length_cons,List.length_nil];omega)) ?_
      rintro _ _ ⟨v26,-,rfl,rfl⟩
      refine st rfl rfl rfl (CY (l:=enc v) rfl Tryz.underlying37 Tryz.underlying5 Tryz.underlying9 rfl rfl rfl rfl (by rw [<- hen,MV];rfl) (by rw [<- hen,List.length_append,hhk];rfl)) ?_
      refine st rfl rfl rfl (eO rfl rfl) ?_
      refine bT (hK _ ?_);clear hK K
      refine iZ (hret _ _ H0 (.tmp rfl .nil) (λ_ _ h=>by cases h) ?_)
      exact rfl
  · intro h9
    have hz:tw v=zz v:=aJ7 h9
    refine kE ?_
    refine bR ?_
    refine cB ?_;intro K hK
    refine st rfl rfl rfl (eO rfl rfl) ?_
    refine bT (hK _ ?_);clear hK K
    refine bR ?_
    refine pU ?_;intro Q1 bn1 bx1 br1 bo1
    refine sH 4 13004 5 1 rfl rfl ?_
    intro v4
    refine yQ (ι:=Nat×Nat×Nat) (κ:=Nat×List UInt8) (λp q=>⟨kn [(3,.sc (.int .u64 (p.2.1:Nat))),(4,.sl 13004 q.1 0 p.2.2)],upd H0 13004 (some (dV 5 q.1 q.2))⟩) (λp q=>p.2.1<128 ^ p.1/\q.2++lC p.1 p.2.1=enc v/\q.2.length=p.2.2) (λp q=>p.2.1) ⟨10,zz v,0⟩ ⟨v4,[]⟩ ⟨Nat.lt_of_lt_of_le (I7 hv) (show 18446744073709551616<=128 ^ 10 by decide),rfl,rfl⟩ (by first | exact pF ⟨rfl,rfl,trivial⟩ | (rw [hz];exact pF ⟨rfl,rfl,trivial⟩)) ?_
    rintro ⟨f,u,k⟩ ⟨lv,h⟩ ⟨huf,hen,hhk⟩ Q2 ln2 lx2 lr2
    have huf:u<128 ^ f:=huf
    have hen:h++lC f u=enc v:=hen
    have hhk:h.length=k:=hhk
    have hol:h.length<=11:=by
      have h1:=congrArg List.length hen
      have h2:=wH 10 (zz v)
      rw [List.length_append] at h1;unfold enc at h1;omega
    refine bR ?_
    refine bR ?_
    refine cB ?_;intro K hK
    refine st rfl rfl rfl (bM rfl rfl) ?_
    refine st rfl rfl rfl (xH rfl rfl rfl) ?_
    refine bT (hK _ ?_);clear hK K
    refine nV rfl ?_ ?_
    · intro h13
      have h13:128<=u:=by have h13:(128:Int)<=(u:Int):=h13;omega
      obtain ⟨f,rfl⟩:∃ f0,f=f0+1:=⟨f-1,by
        rcases Nat.eq_zero_or_pos f with h0 | h0
        · subst h0;simp at huf;omega
        · omega⟩
      refine kE ?_
      refine pU ?_;intro Q3 bn3 bx3 br3 bo3
      refine bR ?_
      refine cB ?_;intro K hK
      refine st rfl rfl rfl (bM rfl rfl) ?_
      refine st rfl rfl rfl (bM rfl rfl) ?_
      refine st rfl rfl rfl (jX (r:=((UInt8.ofNat u).toNat:Nat)) rfl Tryz.underlying70 Tryz.underlying5 rfl (wO _)) ?_
      refine st rfl rfl rfl (wX (r:=((UInt8.ofNat (u % 128+128)).toNat:Nat)) rfl rfl rfl (NC u)) ?_
      refine st rfl rfl rfl (dY (ps:=[(0,_)]) (rows:=[[.sc (.int .u8 ((UInt8.ofNat (u % 128+128)).toNat:Nat))]]) rfl Tryz.underlying37 lT (.cons rfl .nil) rfl rfl rfl rfl) ?_
      refine se rfl rfl rfl (tT .any rfl Tryz.underlying37 lT pM rfl rfl (rfl) rfl rfl rfl rfl rfl ((yV h).trans hhk) (.refl _) (by intro r hr;simp at hr;subst hr;rfl) (by simp only [List.length_cons,List.length_nil];omega) (by simp only [List.length_cons,List.length_nil];omega)) ?_
      rintro _ _ ⟨v19,-,rfl,rfl⟩
      refine st rfl rfl rfl (eO rfl rfl) ?_
      refine bT (hK _ ?_);clear hK K
      refine cB ?_;intro K hK
      refine st rfl rfl rfl (bM rfl rfl) ?_
      refine st rfl rfl rfl (qA (r:=((u / 128:Nat):Int)) rfl rfl rfl (by omega) FF) ?_
      refine st rfl rfl rfl (eO rfl rfl) ?_
      refine bT (hK _ ?_);clear hK K
      refine lS (bn3 _ ?_)
      refine lS (ln2 _ ⟨⟨f,u / 128,k+1⟩,⟨v19,h++[UInt8.ofNat (u % 128+128)]⟩,⟨?_,?_,?_⟩,?_,CV (KN.le ⟨rfl,rfl,trivial⟩) (λt v h=>?_)⟩)
      · show u / 128<128 ^ f;rw [Nat.pow_succ] at huf;omega
      · show (h++[_])++lC f (u / 128)=_;rw [List.append_assoc,List.singleton_append,<- GN f (by omega)];exact hen
      · show (h++[_]).length=k+1;rw [List.length_append,hhk];rfl
      · show u / 128<u;omega
      · by_cases h0:t=13004
        · subst h0;rw [upd_same] at h;rw [<- h];refine (upd_same _ _ _).trans ?_;simp [bN]
        · rw [upd_ne _ _ h0] at h;cases h
    · intro h13
      have hlt:u<128:=by have h13:¬ (128:Int)<=(u:Int):=h13;omega
      rw [FR f hlt] at hen
      refine oV (lx2 _ _ (bx1 _ ?_))
      refine bR ?_
      refine cB ?_;intro K hK
      refine st rfl rfl rfl (bM rfl rfl) ?_
      refine st rfl rfl rfl (bM rfl rfl) ?_
      refine st rfl rfl rfl (jX (r:=((UInt8.ofNat u).toNat:Nat)) rfl Tryz.underlying70 Tryz.underlying5 rfl (wO _)) ?_
      refine st rfl rfl rfl (dY (ps:=[(0,_)]) (rows:=[[.sc (.int .u8 ((UInt8.ofNat u).toNat:Nat))]]) rfl Tryz.underlying37 lT (.cons rfl .nil) rfl rfl rfl rfl) ?_
      refine se rfl rfl rfl (tT .any rfl Tryz.underlying37 lT pM rfl rfl (rfl) rfl rfl rfl rfl rfl ((yV h).trans hhk) (.refl _) (by intro r hr;simp at hr;subst hr;rfl) (by simp only [List.length_cons,List.length_nil];omega) (by simp only [List.length_cons,List.length_nil];omega)) ?_
      rintro _ _ ⟨v26,-,rfl,rfl⟩
      refine st rfl rfl rfl (CY (l:=enc v) rfl Tryz.underlying37 Tryz.underlying5 Tryz.underlying9 rfl rfl rfl rfl (by rw [<- hen,MV];rfl) (by rw [<- hen,List.length_append,hhk];rfl)) ?_
      refine st rfl rfl rfl (eO rfl rfl) ?_
      refine bT (hK _ ?_);clear hK K
      refine iZ (hret _ _ H0 (.tmp rfl .nil) (λ_ _ h=>by cases h) ?_)
      exact rfl
theorem aCV {v:Int} (hv:kM v):PP Tryz.prog 13 [int v] (λy=>y=str (enc v)):=sG (XD hv) λy H h=>⟨_,rfl,.sc _,by rw [h];exact .refl _⟩
end Go.Pv
