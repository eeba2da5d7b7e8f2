import Derived.Test.YtfamehgkphejnaaGreatXTj
set_option linter.unusedVariables false
set_option linter.unusedSimpArgs false
namespace Go.Pv
open Go.Proofs
set_option maxRecDepth 100000
set_option maxHeartbeats 4000000
noncomputable section
def kT (s:aA) (k:Int):bH:=(ix s.bP k).getD ⟨0,-1,0,0,0,0,0,0⟩
def tK (s:aA) (refs:List Int):List (AV×AV):=refs.zipIdx.map λx=>(int x.2,.agg (bH.av (kT s x.1)))
section
noncomputable section
def tU:WT Tryz.prog (.s Unit (.b Unit)):=.brk ()
def aCI (l:List Int):WT Tryz.prog (.s Unit (.b Unit)):=.ln 8 fI l <| .brk ()
def KU (l:List Int) (i:Int):WT Tryz.prog (.s Int (.b Unit)):=.ix 12 fI l i λx=>.brk x
def I4 (s:aA) (k:Int):WT Tryz.prog (.s bH (.b Unit)) :=
 .bB 16 (decide (k>=0)) λx1 =>
 .ifs [16] x1 (.ln 21 bH.av s.bP <| .bB 22 (decide (k<(s.bP.length:Int))) λx2=>.ifs [22] x2 (.ix 27 bH.av s.bP k λr=>.brk r) (.brk ⟨0,-1,0,0,0,0,0,0⟩)) (.brk ⟨0,-1,0,0,0,0,0,0⟩)
def aBC:WT Tryz.prog (.s Unit (.b Unit)):=.al 777 <| .brk ()
end
theorem aAM (s:aA) (k:Int):(I4 s k).run=some (.inl (kT s k)):=by
  unfold I4 kT
  simp only [WT.run,bnd,cond,Go.Pv.brk]
  by_cases h:k>=0
  · by_cases h2:k<(s.bP.length:Int)
    · obtain ⟨r,hr⟩:∃ r,ix s.bP k=some r:=by
        unfold ix;rw [if_neg (by omega)]
        exact ⟨s.bP[k.toNat]'(by omega),by simp⟩
      simp [h,h2,hr]
    · have:ix s.bP k=none:=by unfold ix;rw [if_neg (by omega)];simp;omega
      simp [h,h2,this]
  · have:ix s.bP k=none:=by unfold ix;rw [if_pos (by omega)]
    simp [h,this]
abbrev JN (_:Unit) (_:FS) (_:AH) (_:List (Nat×Nat)):Prop:=False
theorem kD {a:Unit} {f:FS} {hp:AH} {vs:List (Nat×Nat)} (h:JN a f hp vs):bN vs/\JN a f hp []:=h.elim
abbrev kR (s:aA) (refs:List Int) (y:AV) (i:Int):List (Nat×AV):=[(0,y),(1,.pp [aD 1 fI refs]),(2,.pp (aA.av s)),(7,aD 1 fI refs),(8,int refs.length),(9,int i)]
theorem OW (s:aA) (refs:List Int) (hfit:refs.length<=68719476736):T3 Tryz.prog 164 [.pp [aD 1 fI refs],.pp (aA.av s)] (tK s refs):=by
  intro lp fn tmps p q assign body D J K s0 H vs hH hvs hJ hJ7 hK7 hn hY
  have ha:jI s0 [.sc (.func (.yield lp) #[] #[]),.pp [aD 1 fI refs],.pp (aA.av s)] (#[.func (.yield lp) #[] #[]]++vs):=jI.append (xs:=[.sc (.func (.yield lp) #[] #[])]) ⟨rfl,λi x v h1 h2=>by
    cases i with
    | zero=>simp at h1 h2;subst h1 h2;exact .sc _
    | succ i=>simp at h1⟩ hvs
  refine callsIn_wide.1 (callsIn_of_wp (n:=0) (c:=_) Tryz.func164 rfl trivial ?_)
  have hs:=sr0 (fn:=Tryz.f164) hH ha rfl
  generalize ({ tmps:=_,defers:=[] }:Act)=a0 at hs ⊢
  generalize hy:(AV.sc (.func (.yield lp) #[] #[]))=y at *
  refine wpIn_seq (lS mixed aN rfl (t:=aCI refs) (r:=.inl ()) rfl (J:=λ_ f hp=>jK hp f (kR s refs y 0)/\hp=H) (JR:=JN) (hJR:=kD) hs 1000 vO ?_ (λv S' s' a' e=>nomatch e))
  rintro _ S1 s1 a1 - ⟨hk1,e1⟩ hs1 hf1
  obtain ⟨hs1,hf1⟩:=hs1.k0 hf1 hk1 e1
  refine wpIn_block (wpIn_loop (λa w=>∃ (i:Nat) (s2:Sit) (H2:AH),i<=refs.length/\w=s2.w/\J i H2/\SR ⟨35,false,[]⟩ s2 ⟨kn (kR s refs y i),H2⟩ a/\Fr s0 H s2 H2)
    (λ(a:Act) _=>match (a.tmps[9]?:Option Value) with | some (Value.int _ v)=>refs.length-v.toNat | _=>0) ⟨0,s1,H,Nat.zero_le _,rfl,hJ,hs1,hf1⟩ ?_)
  rintro a w ⟨i,s2,H2,hi,rfl,hj,hs2,hf2⟩
  have hm2:(match (a.tmps[9]?:Option Value) with | some (Value.int _ v)=>refs.length-v.toNat | _=>0)=refs.length-i:=by
    obtain ⟨v,q1,q2⟩:=hs2.slot 9 (int i) rfl
    rw [q1,q2.dP];simp
  refine wpIn_seq (lS mixed aN rfl (t:=tU) (r:=.inl ()) rfl (J:=λ_ f hp=>jK hp f ((10,aF (decide ((i:Int)<(refs.length:Int)))) :: kR s refs y i)/\hp=H2) (JR:=JN) (hJR:=kD) hs2 1000 vO ?_ (λv S' s' a' e=>nomatch e))
  rintro _ S3 s3 a3 - ⟨hk3,e3⟩ hs3 hf3
  obtain ⟨hs3,hf3⟩:=hs3.k0 hf3 hk3 e3
  refine wpIn_seq (wpIn_cond_split (t:=decide ((i:Int)<(refs.length:Int))) (lG (o:=.tmp 10) hs3 rfl).dP (λhc=>?_) (λhc=>?_))
  · refine wpIn_skip ?_
    have hlt:i<refs.length:=by have:=of_decide_eq_true hc;omega
    obtain ⟨x,hx⟩:∃ x,refs[i]?=some x:=⟨refs[i],by simp [hlt]⟩
    have hix:ix refs (i:Int)=some x:=by unfold ix;rw [if_neg (by omega)];simpa using hx
    refine wpIn_seq (wpIn_block (wpIn_seq (lS mixed aN rfl (t:=KU refs i) (r:=.inl x) (by simp [KU,WT.run,hix,Go.Pv.brk]) (J:=λx f hp=>jK hp f ((4,int i) :: (5,int x) :: kR s refs y i)/\hp=H2) (JR:=JN) (hJR:=kD) hs3 1000 vO ?_ (λv S' s' a' e=>nomatch e))))
    rintro v S4 s4 a4 e4 ⟨hk4,h4⟩ hs4 hf4
    obtain rfl:x=v:=by injection e4
    obtain ⟨hs4,hf4⟩:=hs4.k0 hf4 hk4 h4
    refine wpIn_seq (lS mixed aN rfl (t:=aBC) (r:=.inl ()) rfl (J:=λ_ f hp=>∃ aG,jK hp f ((6,.pt 777 aG 0 0) :: (4,int i) :: (5,int x) :: kR s refs y i)/\hp=upd H2 777 (some ⟨134,8,true,true,aG,[bH.av ⟨0,-1,0,0,0,0,0,0⟩]⟩)) (JR:=JN) (hJR:=kD) hs4 1000 vO ?_ (λv S' s' a' e=>nomatch e))
    rintro _ S5 s5 a5 - ⟨aG,hk5,h5⟩ hs5 hf5
    obtain ⟨hs5,hf5⟩:=hs5.k0 hf5 hk5 h5
    refine wpIn_seq (lS mixed aN rfl (t:=I4 s x) (r:=.inl (kT s x)) (aAM s x) (J:=λr f hp=>jK hp f ((6,.pt 777 aG 0 0) :: (4,int i) :: (5,int x) :: kR s refs y i)/\hp=upd H2 777 (some ⟨134,8,true,true,aG,[bH.av r]⟩)) (JR:=JN) (hJR:=kD) hs5 1000 vO ?_ (λv S' s' a' e=>nomatch e))
    rintro v S6 s6 a6 e6 ⟨hk6,h6⟩ hs6 hf6
    obtain rfl:kT s x=v:=by injection e6
    obtain ⟨hs6,hf6⟩:=hs6.k0 hf6 hk6 h6
    generalize hr:kT s x=r at *
    have hxs:(tK s refs)[i]?=some (int i,.agg (bH.av r)):=by
      rw [<- hr];simp [tK,List.getElem?_map,List.getElem?_zipIdx,hx]
    refine wpIn_seq (wpIn_region ?_)
    show wpOpsIn Fence.wide 0 Tryz.prog (List.toArray _) _ [0,1,2,3,4] a6 s6.w
    refine go_in hs6 rfl rfl rfl rfl rfl (kV rfl rfl) ?_
    intro s7 a7 hs7 hf7
    refine go_in hs7 rfl rfl rfl rfl rfl (kV rfl rfl) ?_
    intro s8 a8 hs8 hf8
    refine go_in hs8 rfl rfl rfl rfl rfl (dV (cs:=bH.av r) (v:=.agg (bH.av r)) rfl bCC rfl (.pt (row:=0) (o:=⟨134,8,true,true,aG,[bH.av r]⟩) rfl rfl rfl) rfl) ?_
    intro s9 a9 hs9 hf9
    have h7:=hJ7 i H2 hj
    have hf29:Fr s2 H2 s9 H2:=ZS ((((((hf3.trans hf4).trans hf5).trans hf6).trans hf7).trans hf8).trans hf9) (PS h7)
    have hs9':=(⟨hs9.size,hs9.defers,hs9.slot,aEF hs9.heap (PS h7)⟩:SR ⟨35,false,[]⟩ s9 ⟨_,H2⟩ a9)
    have hfs9:=hf2.trans hf29
    have hn9:=hn.fr hH hfs9
    subst hy
    refine YZ (J':=J (i+1)) (K':=K) hs9' rfl rfl rfl rfl rfl rfl rfl rfl hn9 (λv u hv hu=>hY i (int i) (.agg (bH.av r)) hxs s9 H2 v u hj hs9'.heap hv hu hn9 hfs9) ?_ ?_
    · intro s10 kK H10 hj10 hs10 hf10
      refine go_in hs10 rfl rfl rfl rfl rfl (FL (b:=true) (r:=false) rfl rfl rfl) ?_
      intro s11 oM hs11 hf11
      refine VO ?_
      refine wpIn_cond_false (lG (o:=.tmp 33) hs11 rfl).dP (wpIn_skip ?_)
      have hs11':=hs11.knw (kR s refs (.sc (.func (.yield lp) #[] #[])) i) H10 rfl (RJ ⟨rfl,rfl,rfl,rfl,rfl,rfl,trivial⟩)
      refine lS mixed aN rfl (t:=tU) (r:=.inl ()) rfl (J:=λ_ f hp=>jK hp f (kR s refs (.sc (.func (.yield lp) #[] #[])) (aI ((i:Int)+1)))/\hp=H10) (JR:=JN) (hJR:=kD) hs11' 1000 vO ?_ (λv S' s' a' e=>nomatch e)
      rintro _ S12 s12 a12 - ⟨hk12,h12⟩ hs12 hf12
      obtain ⟨hs12,hf12⟩:=hs12.k0 hf12 hk12 h12
      have ew:aI ((i:Int)+1)=((i+1:Nat):Int):=(wrap64 (by omega)).trans (by omega)
      rw [ew] at hs12
      refine ⟨⟨i+1,s12,H10,hlt,rfl,hj10,hs12,((hfs9.trans hf10).trans hf11).trans hf12⟩,?_⟩
      obtain ⟨v,q1,q2⟩:=hs12.slot 9 (int ((i+1:Nat):Int)) rfl
      rw [hm2,q1,q2.dP]
      simp
      omega
    · intro s10 kK H10 hk10 hs10 hn10 hf10
      refine go_in hs10 rfl rfl rfl rfl rfl (FL (b:=false) (r:=true) rfl rfl rfl) ?_
      intro s11 oM hs11 hf11
      refine VO ?_
      refine wpIn_cond_true (lG (o:=.tmp 33) hs11 rfl).dP (wpIn_ret ?_)
      have hn11:=hn10.fr hs10.heap hf11
      refine ⟨hs11.defers,.tuple #[],TH rfl,.inr ⟨s11,H10,.tuple #[],rfl,rfl,hk10,hs11.heap,hn11,?_⟩⟩
      refine aWS (hfs9.trans hf10) (hn10.put hs10.heap _).1 (hn10.xW rfl) (o1:=.loop (pU fn tmps p q assign body D)) ?_ hs11.heap hn11 hn.at'
      rw [DU,F3 hn10];exact hf11
  · refine wpIn_exit ?_
    have hieq:i=refs.length:=by have:=of_decide_eq_false hc;omega
    subst hieq
    refine ⟨hs3.defers,.tuple #[],TH rfl,.inl ⟨s3,H2,.tuple #[],rfl,rfl,?_,hs3.heap,hf2.trans hf3⟩⟩
    have:(tK s refs).length=refs.length:=by simp [tK]
    rw [this];exact hj
end
theorem aOQ {s:aA} {refs:List Int}:PP Tryz.prog 110 [.agg (aA.av s),aD 1 fI refs] (λy=>y=.fn (.func 164) [] [.pp [aD 1 fI refs],.pp (aA.av s)]):=by
  refine uD (R0:=λy H=>Cv (jZ H) y (.fn (.func 164) [] [.pp [aD 1 fI refs],.pp (aA.av s)])) ?_ (λy H hc=>⟨_,rfl,.fn (by simp) (λx hx=>by
    simp only [List.mem_cons,List.not_mem_nil,or_false] at hx
    rcases hx with rfl | rfl
    · exact .pp λx hx=>by simp only [List.mem_singleton] at hx;subst hx;exact o8 vI refs
    · exact .pp λx hx=>aA.dA s x hx),hc⟩)
  refine gN (c:=_) Tryz.func110 rfl rfl ?_;intro Q hret hnorm
  refine tc aN 2 (.mk ?_)
  refine sB 2 λv2=>?_
  refine sB 3 λv3=>?_
  refine tr aN 7 (.mk ?_)
  refine wR hret (rT .nil) ?_
  exact bK.fn .nil (.cons (Cv.pt (ob:=⟨22,1,false,true,v3,[[aD 1 fI refs]]⟩) rfl rfl rfl rfl (.cons (.refl _) .nil)) (.cons (Cv.pt (ob:=⟨33,10,false,true,v2,[aA.av s]⟩) rfl rfl rfl rfl (bK.refl _)) .nil))
section
noncomputable section
def tA:WT Tryz.prog (.s Unit (.b Unit)):=.al 1 <| .al 2 <| .al 3 <| .al 4 <| .brk ()
theorem a9O:aT Tryz.prog 110=true:=by kernel_rfl
theorem a5P:aT Tryz.prog 164=true:=by kernel_rfl
def tC (d:Nat) (s:aA) (o:aS):WT Tryz.prog (.s Unit (.b Unit)):=.cl d (V:=λ_:Unit=>.fn (.func 164) [] [.pp [aD 1 fI o.bT],.pp (aA.av s)]) (some ()) a9O (λ_ _=>aOQ) λ_=>.brk ()
def NR (id:Nat):WT Tryz.prog (.s Unit (.b Unit)):=.al id <| .brk ()
def tD (s:aA) (o:aS):WT Tryz.prog (.s bH (.b Unit)):=.dr [(0,[1]),(1,[1]),(2,[2]),(3,[2])] [(9,[])] [1,2] [8,9] [0,1,2,3,4,5,6,7,8,9] (.ix 43 fI o.bT 0 λx11=>.ix 45 bH.av s.bP x11 λx12=>.al 7 <| .brk x12)
end
abbrev zSt:List AV:=[int 0,int 0,.sc (.slice none 0 0),.sc (.slice none 0 0),.sc (.slice none 0 0),.sc (.slice none 0 0),.sc (.slice none 0 0),.sc (.slice none 0 0),.sc (.slice none 0 0),int 0]
abbrev kB (v1 v2 v3 v4:Nat):List (Nat×AV):=[(2,.pt 1 v1 0 0),(3,.pt 2 v2 0 0),(4,.pt 3 v3 0 0),(5,.pt 4 v4 0 0)]
abbrev mB (s:aA) (o:aS) (v1 v2 v3 v4:Nat):List (Nat×bC):=[(1,⟨33,10,true,true,v1,[aA.av s]⟩),(2,⟨36,9,true,true,v2,[aS.av o]⟩),(3,⟨33,10,true,true,v3,[zSt]⟩),(4,⟨37,1,true,true,v4,[[int 0]]⟩)]
end
section
noncomputable section
def tW (s:aA) (b i:Int) (r:bH) (l:List Int):WT Tryz.prog (.s (List Int) (.b Unit)) :=
 .bB 20 (decide (b=0)) λx13 =>
 .ifs [20] x13 (.bo (ix l i) λx14 =>
 .gv 25<|
 .bl (l.set (Int.toNat i) r.aQ) λx15 =>
 .ge 1006005 0<|
 .brk x15) (.bB 28 (decide (b=1)) λx16 =>
 .ifs [28] x16 (.bo (ix l i) λx17 =>
 .gv 33<|
 .bl (l.set (Int.toNat i) r.Value) λx18 =>
 .ge 1008005 0<|
 .brk x18) (.jn 1 [3,5,7,8,9] [1,2,3,4,7] [] (λ_ (a:Bool)=>[(34,aF a)]) (λ_ _=>[]) (.bB 36 (decide (b=2)) λx19 =>
 .ifs [36] x19 (.bB 40 (decide (r.Item>=0)) λx18=>.ifs [40] x18 (
 .ln 48 fI s.bA.cB<|
 .bB 49 (decide (r.Item<(s.bA.cB.length:Int))) λx20 =>
 .ret x20) (.ret false)) (.ret false))
  (λy1_1 =>
 .ifs [34] y1_1 (.dr [(0,[4]),(2,[7]),(3,[7]),(4,[1]),(5,[1]),(6,[1]),(7,[7]),(8,[7]),(12,[3])] [(13,[])] [1,2,3,4,7] [13] [0,1,2,3,4,5,6,7,8,9,10,11,12,13] (.ix 60 fI s.bA.cB r.Item λx21 =>
 .bI 62 (aI (r.aQ*x21)) λx22 =>
 .bo (ix l i) λx23 =>
 .gv 63<|
 .bl (l.set (Int.toNat i) x22) λx24 =>
 .ge 1010013 0<|
 .brk x24)) (.brk l))))
end
abbrev kW (v1 v2 v4:Nat):List (Nat×AV):=[(3,.pt 1 v1 0 0),(5,.pt 2 v2 0 0),(7,.pt 4 v4 0 0)]
abbrev mW (s:aA) (b:Int) (l:List Int) (v1 v2 v3 v4:Nat):List (Nat×bC):=[(1,⟨33,10,true,true,v1,[aA.av s]⟩),(2,⟨3,1,true,true,v2,[[int b]]⟩),(3,⟨3,1,true,true,v3,l.map fI⟩),(4,⟨22,1,true,true,v4,[[.sl 3 v3 0 l.length]]⟩)]
noncomputable def aRW (s:aA) (b:Int):List Int->Nat->List Int->Option (List Int)
  | [],_,l=>some l
  | k :: ks,i,l=>(tW s b i (kT s k) l).run.bind λr=>match r with
    | .inl l'=>aRW s b ks (i+1) l'
    | .inr _=>none
noncomputable def aSB (s:aA) (refs:List Int) (b:Int):Option (List Int):=fG (refs.length<=1048576) <| aRW s b refs 0 (List.replicate refs.length 0)
noncomputable section
def tW0:WT Tryz.prog (.s Unit (.b Unit)):=.al 1 <| .al 2 <| .brk ()
def tW1 (refs:List Int):WT Tryz.prog (.s (List Int) (.b Unit)):=.ln 11 fI refs <| .as ((0:Int)<=(refs.length:Int)/\((refs.length:Int):Int)<=1048576) inferInstance <| .bl (List.replicate (Int.toNat (refs.length:Int)) (0:Int):List Int) λx7=>.ge 12 0 <| .al 4 <| .brk x7
def tW2 (s:aA) (refs:List Int):WT Tryz.prog (.s Unit (.b Unit)):=.cl 15 (V:=λ_:Unit=>.fn (.func 164) [] [.pp [aD 1 fI refs],.pp (aA.av s)]) (some ()) a9O (λ_ _=>aOQ) λ_=>.brk ()
def tW3 (l:List Int):WT Tryz.prog (.s Unit (.b (List Int))):=.esc (.ret l)
end
theorem aS3 {s:aA} {refs:List Int} {i:Nat} {x y:AV} (h:(tK s refs)[i]?=some (x,y)):∃ k,refs[i]?=some k/\x=int i/\y=.agg (bH.av (kT s k)):=by
  unfold tK at h
  rw [List.getElem?_map] at h
  obtain ⟨⟨k,j⟩,h1,h2⟩:=Option.map_eq_some_iff.1 h
  rw [List.getElem?_zipIdx] at h1
  obtain ⟨k',h3,h4⟩:=Option.map_eq_some_iff.1 h1
  simp only [Prod.mk.injEq,Nat.zero_add] at h4 h2
  obtain ⟨rfl,rfl⟩:=h4
  exact ⟨_,h3,h2.1.symm,h2.2.symm⟩
theorem drop_at {refs:List Int} {i:Nat} {k:Int} (h:refs[i]?=some k):refs.drop i=k :: refs.drop (i+1):=by
  obtain ⟨hl,he⟩:=List.getElem?_eq_some_iff.1 h
  rw [List.drop_eq_getElem_cons hl,he]
theorem a0S {s:aA} {refs:List Int} {b:Int}:PZ (aSB s refs b) 111 [.agg (aA.av s),aD 1 fI refs,int b] (λr=>aD 1 fI r):=by
  intro r h0
  unfold aSB at h0
  obtain ⟨hfit,h0⟩:=aQH h0
  have h1:(tW1 refs).run=some (.inl (List.replicate refs.length 0)):=by
    simp only [tW1,WT.run,bnd,fG,Go.Pv.brk]
    rw [if_pos (by omega),Int.toNat_natCast]
  refine uD (R0:=λy H=>Cv (jZ H) y (aD 1 fI r)) ?_ (λy H hc=>⟨_,rfl,o8 vI r,hc⟩)
  refine ZO (c:=_) Tryz.func111 rfl rfl ?_
  intro s0 q0 hs0
  refine wpIn_seq (lS mixed aN rfl (t:=tW0) (r:=.inl ()) rfl (J:=λ_ f hp=>jK hp f [(1,aD 1 fI refs),(3,.pt 1 (vr hp 1) 0 0),(5,.pt 2 (vr hp 2) 0 0)]/\nD hp [(1,⟨33,10,true,true,vr hp 1,[aA.av s]⟩),(2,⟨3,1,true,true,vr hp 2,[[int b]]⟩)]) (JR:=JN) (hJR:=kD) hs0 1000 au ?_ (λv S' s' a' e=>nomatch e))
  rintro _ S1 s1 q1-hj hs1 hf1
  obtain ⟨hs1,hf1⟩:=hs1.AA hf1 (mQ hj.1 hj.2)
  generalize vr S1.hp 1=v1 at hs1 hf1
  generalize vr S1.hp 2=v2 at hs1 hf1
  clear hj
  refine wpIn_seq (lS mixed aN rfl (t:=tW1 refs) h1 (J:=λl f hp=>jK hp f ((1,aD 1 fI refs) :: kW v1 v2 (vr hp 4))/\nD hp (mW s b l v1 v2 (vr hp 3) (vr hp 4))) (JR:=JN) (hJR:=kD) hs1 1000 ?_ ?_ (λv S' s' a' e=>nomatch e))
  · conv=>whnf
    refine .mk ?_
    refine .mk λp6=>?_
    refine .mk λx7 e7=>?_
    have lx7:x7.length=Int.toNat (refs.length:Int):=by rw [<- e7];exact List.length_replicate
    refine .mk _ ⟨λ_=>uL 3 (g:=fI) (z0:=(0:Int)) .any rfl Tryz.underlying22 fT kY rfl rfl rfl p6 (.cons (.sc _) .nil) e7,λ_ _ _=>trivial⟩ ?_
    rintro _ _ ⟨v8,-,rfl,rfl⟩
    intro v9
    exact EJ.mk aJ aV
  rintro l0 S2 s2 q2 el hj hs2 hf2
  obtain rfl:List.replicate refs.length 0=l0:=by injection el
  obtain ⟨hs2,hf2⟩:=hs2.AA (hf1.trans hf2) (mQ hj.1 hj.2)
  generalize vr S2.hp 3=v3 at hs2 hf2
  generalize vr S2.hp 4=v4 at hs2 hf2
  clear hj el
  generalize hl0:List.replicate refs.length (0:Int)=l0 at *
  refine wpIn_seq (wpIn_seq (lS mixed aN rfl (t:=tW2 s refs) (r:=.inl ()) rfl (J:=PJ (λ_=>(15,.fn (.func 164) [] [.pp [aD 1 fI refs],.pp (aA.av s)]) :: kW v1 v2 v4) (λ_=>mW s b l0 v1 v2 v3 v4)) (JR:=JN) (hJR:=kD) hs2 1000 au ?_ (λv S' s' a' e=>nomatch e)))
  rintro _ S3 s3 q3-hj hs3 hf3
  obtain ⟨hs3,hf3⟩:=hs3.pj (hf2.trans hf3) hj
  clear hj
  refine wpIn_block (K6 (n:=⟨65,false,[]⟩) (ds:=[]) rfl hs3 rfl a5P (OW s refs (by omega)) (λi H=>∃ l,H=Go.Pv.hk (mW s b l v1 v2 v3 v4)/\aRW s b (refs.drop i) i l=some r) (λ_=>False) ⟨l0,rfl,h0⟩ (by rintro i H ⟨l,rfl,-⟩;rfl) (λ_ h=>h.elim) (by decide) (by decide) ?_ ?_)
  · rintro i x y H hx ⟨l,rfl,hF⟩
    obtain ⟨k',hk',rfl,rfl⟩:=aS3 hx
    rw [drop_at hk'] at hF
    obtain ⟨z,hz,hF⟩:=dJ hF
    cases z with
    | inr _=>cases hF
    | inl l' =>
    generalize kT s k'=rr at hz
    refine BR mixed aN (t:=NR 7) (r:=.inl ()) rfl (J:=λ_ f' hp=>jK hp f' ((8,int i) :: (9,.pt 7 (vr hp 7) 0 0) :: kW v1 v2 v4)/\nD hp ((7,⟨134,8,true,true,vr hp 7,[bH.av rr]⟩) :: mW s b l v1 v2 v3 v4)) (JR:=JN) (hJR:=kD) 1000 au (λ_ S1 _ hj=>⟨rfl,EI (mQ hj.1 hj.2) ?_⟩) (λv S' e=>nomatch e)
    generalize vr S1.hp 7=v7
    refine Tr.yB (Q':=λe S'=>e=.normal/\PJ (λ_:List Int=>[]) (λl=>mW s b l v1 v2 v3 v4) l' S'.sl S'.hp) (BR mixed aN (t:=tW s b i rr l) hz (J:=PJ (λ_=>[]) (λl=>mW s b l v1 v2 v3 v4)) (JR:=JN) (hJR:=kD) 1000 au (λv S' e hj=>by cases e;exact ⟨rfl,hj⟩) (λv S' e=>nomatch e)) ?_
    rintro e S' ⟨rfl,hj⟩
    exact ⟨⟨kn [],Go.Pv.hk (mW s b l' v1 v2 v3 v4)⟩,mQ hj.1 hj.2,.inl ⟨rfl,l',rfl,hF⟩⟩
  rintro e' D s4 H4 hj hs4 hf4 hD4 hn4
  obtain ⟨rfl,l,rfl,hF⟩:e'=.normal/\∃ l,H4=Go.Pv.hk (mW s b l v1 v2 v3 v4)/\aRW s b (refs.drop (tK s refs).length) (tK s refs).length l=some r:=by
    rcases hj with h | h
    · exact h
    · exact h.2.elim
  have hlen:(tK s refs).length=refs.length:=by simp [tK]
  rw [hlen,List.drop_length] at hF
  obtain rfl:l=r:=Option.some.inj hF
  clear hj
  have hf4':=hf3.trans hf4
  refine lS mixed aN (n:=⟨65,false,[mk D]⟩) rfl (t:=tW3 l) (r:=.inr l) rfl (J:=PJ (λ_:Unit=>[]) (λ_=>[])) (JR:=JF tb Tryz.f111.results.toList (λr:List Int=>aD 1 fI r)) (hJR:=DJ) hs4 1000 au (λv S' s' a' e=>nomatch e) ?_
  rintro x S8 s8 q8 ex hj hs8 hf8
  obtain rfl:l=x:=by injection ex
  obtain ⟨ws,us,g1,g2,g3⟩:=vD aN hj
  cases g1 with
  | mk g1 a =>
    refine ⟨rfl,S8,s8,[D],us,S8.hp,rfl,hs8,hf4'.trans hf8,?_,by simp,?_,g3 a,λ_ _ h=>h,g1⟩
    · intro x hx
      simp only [List.mem_singleton] at hx
      subst hx
      have:=hf3.size;omega
    · intro x hx
      simp only [List.mem_singleton] at hx
      subst hx
      exact hn4.fr hs4.heap hf8
end
def aRK (s:aA) (refs:List Int):Bool:=refs.all λk=>!decide ((kT s k).Item<0)
def aRR (s:aA) (refs:List Int) (f:bH):Bool:=refs.all λk=>!decide ((kT s k).dG≠f.dG)
def aR4 {A R:Type} (f:A->Option R):A⊕R->Option R
  | .inl a=>f a
  | .inr r=>some r
theorem bBY:aT Tryz.prog 111=true:=by kernel_rfl
theorem bD0:aT Tryz.prog 92=true:=by kernel_rfl
theorem bEZ:aT Tryz.prog 112=true:=by kernel_rfl
theorem a6O:aT Tryz.prog 113=true:=by kernel_rfl
theorem bCS:aT Tryz.prog 51=true:=by kernel_rfl
section
noncomputable section
def tB' (s:aA) (o:aS):WT Tryz.prog (.s Unit (.b (aA×Int))) :=
 .jn 0 [2,3,4,5] [1,2,3,4] [] (λ_ (a:Bool)=>[(27,aF a)]) (λ_ _=>[]) (.bB 21 (decide (o.Kind≠11)) λx7 =>
 .ifs [21] x7 (.ret true) (.ln 25 fI o.bT<|
 .bB 26 (decide ((o.bT.length:Int)=0)) λx8 =>
 .ret x8))
  (λy =>
 .ifs [27] y (.esc (.ret (s,1))) (.brk ()))
def aTL (s:aA) (r:bH):WT Tryz.prog (.s Unit (.b (aA×Int))):=.bB 37 (decide (r.Item<0)) λx=>.ifs [37] x (.esc (.ret (s,4))) (.brk ())
def aTA (s:aA) (r f:bH):WT Tryz.prog (.s Unit (.b (aA×Int))):=.bB 57 (decide (r.dG≠f.dG)) λx=>.ifs [57] x (.esc (.ret (s,1))) (.brk ())
def tF' (s:aA) (f:bH):WT Tryz.prog (.s Unit (.b (aA×Int))):=.cl 64 (lH s f.dG f.Item) l8 mU λx16=>.bB 66 (decide (x16≠0)) λx17=>.ifs [66] x17 (.esc (.ret (s,x16))) (.brk ())
def tG (n:Nat) (s:aA) (o:aS):WT Tryz.prog (.s (List Int×Int) (.b Unit)):=.dg [(0,[2]),(1,[2]),(2,[1]),(3,[2]),(4,[2]),(5,[2]),(6,[2]),(14,[12]),(15,[13])] [(12,12),(13,13),(14,12),(15,13)] (.cl 77 (aSB s o.bT o.To) bBY a0S λx18=>.cl 78 (aRY n o.bD x18) bD0 (λ_=>a1I) λx19=>.al 12 <| .al 13 <| .brk x19)
def tH (s:aA) (e:Int):WT Tryz.prog (.s Unit (.b (aA×Int))):=.bB 82 (decide (e≠0)) λx=>.ifs [82] x (.dr [(0,[1]),(1,[13])] [(2,[13]),(3,[])] [1,13] [2,3] [0,1,2,3] (.esc (.ret (s,e)))) (.brk ())
def tI:WT Tryz.prog (.s Unit (.b Unit)):=.al 14 <| .al 15 <| .brk ()
def t3 (n:Nat) (s t:aA) (r:bH) (sh:List Int) (i a:Int):WT Tryz.prog (.s (aA×Int×Int) (.b (aA×Int))) :=
 .dr [(0,[14]),(1,[18]),(2,[12])] [(11,[]),(13,[])] [12,14,18] [11,13] [0,1,2,3,4,5,6,7,8,9,10,11,12,13] (.ix 97 fI sh i λq =>
 .cl 99 (aSS n t r q) bEZ aY2 λx =>
 .bB 104 (decide (x.2.2≠0)) λx33 =>
 .ifs [104] x33 (.dr [(0,[1]),(1,[13])] [(2,[13]),(3,[])] [1,13] [2,3] [0,1,2,3] (.esc (.ret (s,x.2.2)))) (.bI 109 (aI (a+x.2.1)) λx34 =>
 .brk (x.1,x34,x.2.2)))
def tL (n:Nat) (s:aA) (o:aS) (f:bH) (t:aA) (a:Int):WT Tryz.prog (.s Unit (.b (aA×Int))) :=
 .dr [(0,[14]),(1,[7]),(2,[7]),(3,[15]),(5,[2]),(6,[2]),(7,[15]),(10,[2]),(11,[2])] [(19,[]),(20,[])] [2,7,14,15] [19,20] [0,1,2,3,4,5,6,7,8,9,10,11,12,13,14,15,16,17,18,19,20] (.cl 115 (aR9 0 a) a6O aTS λx35 =>
 .bI 119 (aI (o.bD-a)) λx36 =>
 .cl 120 (aR9 9 x36) a6O aTS λx37 =>
 .bI 123 (aI (0-o.bD)) λx38 =>
 .cl 124 (aR9 2 x38) a6O aTS λx39 =>
 .to 125 (aD 2 aH.av ([x35,x37,x39]:List aH))<|
 .cl 126 (oN n t f.dG ([x35,x37,x39]:List aH)) bCS qN λx40 =>
 .bB 130 (decide (x40.2≠0)) λx41 =>
 .ifs [130] x41 (.dr [(0,[1]),(1,[13])] [(2,[13]),(3,[])] [1,13] [2,3] [0,1,2,3] (.esc (.ret (s,x40.2)))) (.esc (.ret (x40.1,0))))
def aRX (n:Nat) (s:aA) (sh:List Int):List Int->Nat->aA->Int->Option ((aA×Int)⊕(aA×Int))
  | [],_,t,a=>some (.inl (t,a))
  | k :: ks,i,t,a=>(t3 n s t (kT s k) sh i a).run.bind λz=>match z with
    | .inl p=>aRX n s sh ks (i+1) p.1 p.2.1
    | .inr r=>some (.inr r)
def JP (n:Nat) (s:aA) (o:aS):Option (aA×Int) :=
  (tB' s o).run.bind <| aR4 (λ_=>fG (o.bT.length<=1048576) <| bif aRK s o.bT then (ix o.bT 0).bind λk=>(ix s.bP k).bind λf=>bif aRR s o.bT f then
    (tF' s f).run.bind <| aR4 λ_=>(aSB s o.bT o.To).bind λw=>(aRY n o.bD w).bind λsh=>(tH s sh.2).run.bind <| aR4 λ_ =>
      (aRX n s sh.1 o.bT 0 s 0).bind <| aR4 λp=>(tL n s o f p.1 p.2).run.bind <| aR4 λ_=>none
    else some (s,1) else some (s,4))
end
abbrev JRk {A:Type} (M:A->List (Nat×bC)) (r:A) (f:FS) (hp:AH) (vs:List (Nat×Nat)):Prop:=EJ vs (PJ (λ_=>[]) M r f hp)
theorem aXX {A:Type} {M:A->List (Nat×bC)} {a:A} {f:FS} {hp:AH} {vs:List (Nat×Nat)} (h:JRk M a f hp vs):bN vs/\JRk M a f hp []:=by
  cases h with
  | mk h a=>exact ⟨a,.mk h trivial⟩
theorem aSQ {P:Program} {tb:dX} (hm:P.follows .mixedOrders=true) (ht:cK P tb) {n:NT} {A B:Type} {M:A->List (Nat×bC)} {MR:B->List (Nat×bC)} {t:WT P (.s A (.b B))} {z:A⊕B} (hz:t.run=some z) {c:Code} {f:FS} {hp:AH} {JJ KK:AH->Prop} (m:Nat)
    (h:WP P tb m n t (.dF (PJ (λ_=>[]) M) (.fn (JRk MR) aXX)) (.c [c]) f hp []) (h1:∀ v,z=.inl v->JJ (hk (M v))) (h2:∀ v,z=.inr v->KK (hk (MR v))):Tr P n c ⟨f,hp⟩ (λe S2=>(e=.normal/\JJ S2.hp)\/(e=.ret/\KK S2.hp)):=by
  refine Tr.yB (Q':=λe S'=>(∃ v,z=.inl v/\e=.normal/\PJ (λ_=>[]) M v S'.sl S'.hp)\/∃ v,z=.inr v/\e=.ret/\PJ (λ_=>[]) MR v S'.sl S'.hp) (BR hm ht hz m h (λv S' e hj=>.inl ⟨v,e,rfl,hj⟩) (λv S' e hj=>by
    cases hj with
    | mk hj a=>exact .inr ⟨v,e,rfl,hj⟩)) ?_
  rintro e S' (⟨v,hv,rfl,hj⟩ | ⟨v,hv,rfl,hj⟩)
  · exact ⟨⟨kn [],hk (M v)⟩,mQ hj.1 hj.2,.inl ⟨rfl,h1 v hv⟩⟩
  · exact ⟨⟨kn [],hk (MR v)⟩,mQ hj.1 hj.2,.inr ⟨rfl,h2 v hv⟩⟩
structure aQK (s0 s':Sit) (Ds:List Nat):Prop where
  le:∀ D∈Ds,s0.w.heap.size<=D
  nd:Ds.Nodup
  nc:∀ D∈Ds,NoC s' D (.deferred (some []))
theorem aQK.nil {s0 s':Sit}:aQK s0 s' []:=⟨(λ_ h=>by cases h),List.nodup_nil,(λ_ h=>by cases h)⟩
theorem aQK.fr {s0 s s':Sit} {H H':AH} {Ds:List Nat} (h:aQK s0 s Ds) (hH:HR s H) (hf:Fr s H s' H'):aQK s0 s' Ds:=⟨h.le,h.nd,λD hD=>(h.nc D hD).fr hH hf⟩
theorem aQK.cons {s0 s s':Sit} {H H':AH} {Ds:List Nat} {D:Nat} (h:aQK s0 s Ds) (hH:HR s H) (hf:Fr s H s' H') (h0:s0.w.heap.size<=s.w.heap.size) (hD:s.w.heap.size<=D) (hn:NoC s' D (.deferred (some []))):aQK s0 s' (D :: Ds):=by
  refine ⟨λx hx=>?_,List.nodup_cons.2 ⟨λhm=>?_,h.nd⟩,λx hx=>?_⟩
  · rcases List.mem_cons.1 hx with rfl | hx
    · omega
    · exact h.le x hx
  · have:=(h.nc D hm).lt;omega
  · rcases List.mem_cons.1 hx with rfl | hx
    · exact hn
    · exact (h.nc x hx).fr hH hf
abbrev aRF (r:aA×Int):AV:=.aU [.agg (aA.av r.1),int r.2]
def aTN (s0:Sit) (r:aA×Int) (e:Go.Exit) (a':Act) (w':World):Prop:=e=.ret/\∃ (S':AS) (s':Sit) (Ds:List Nat) (vs:List AV) (H2:AH),w'=s'.w/\SR ⟨134,false,Ds.map mk⟩ s' S' a'/\Fr s0 H0 s' S'.hp/\(∀ D∈Ds,s0.w.heap.size<=D)/\Ds.Nodup /\
  (∀ D∈Ds,NoC s' D (.deferred (some [])))/\jB Tryz.prog S' Tryz.f62.results.toList vs/\(∀ t v,H2 t=some v->S'.hp t=some v)/\Cv (jZ H2) (lT vs) (aRF r)
theorem aTE {s0 s':Sit} {S':AS} {a':Act} {r:aA×Int} (Ds:List Nat) (hj:JF tb Tryz.f62.results.toList aRF r S'.sl S'.hp []) (hs':SR ⟨134,false,Ds.map mk⟩ s' S' a') (hf:Fr s0 H0 s' S'.hp) (hd:aQK s0 s' Ds):aTN s0 r .ret a' s'.w:=by
  obtain ⟨ws,us,g1,g2,g3⟩:=vD aN hj
  cases g1 with
  | mk g1 a=>exact ⟨rfl,S',s',Ds,us,S'.hp,rfl,hs',hf,hd.le,hd.nd,hd.nc,g3 a,λ_ _ h=>h,g1⟩
abbrev mR (v3 v4:Nat) (r:aA×Int):List (Nat×bC):=[(3,⟨33,10,true,true,v3,[aA.av r.1]⟩),(4,⟨37,1,true,true,v4,[[int r.2]]⟩)]
theorem aTY {s0 s':Sit} {f:FS} {a':Act} {r:aA×Int} {v3 v4:Nat} (Ds:List Nat) (hs':SR ⟨134,false,Ds.map mk⟩ s' ⟨f,hk (mR v3 v4 r)⟩ a') (h4:f 4=some (.pt 3 v3 0 0)) (h5:f 5=some (.pt 4 v4 0 0)) (hf:Fr s0 H0 s' (hk (mR v3 v4 r))) (hd:aQK s0 s' Ds):aTN s0 r .ret a' s'.w :=
  ⟨rfl,_,s',Ds,[.agg (aA.av r.1),int r.2],_,rfl,hs',hf,hd.le,hd.nd,hd.nc,rC aVX (rC bC7 .nil h5) h4,λ_ _ h=>h,.refl _⟩
abbrev k7 (v1 v2 v3 v4 v7:Nat):List (Nat×AV):=(8,.pt 7 v7 0 0) :: kB v1 v2 v3 v4
abbrev m7 (s:aA) (o:aS) (f:bH) (v1 v2 v3 v4 v7:Nat):List (Nat×bC):=(7,⟨134,8,true,true,v7,[bH.av f]⟩) :: mB s o v1 v2 v3 v4
abbrev k13 (v1 v2 v3 v4 v7 v12 v13:Nat):List (Nat×AV):=(12,.pt 12 v12 0 0) :: (13,.pt 13 v13 0 0) :: k7 v1 v2 v3 v4 v7
abbrev m13 (s:aA) (o:aS) (f:bH) (sh:List Int) (e:Int) (v1 v2 v3 v4 v7 v12 v13:Nat):List (Nat×bC):=(12,⟨22,1,true,true,v12,[[aD 1 fI sh]]⟩) :: (13,⟨37,1,true,true,v13,[[int e]]⟩) :: m7 s o f v1 v2 v3 v4 v7
abbrev k15 (v1 v2 v3 v4 v7 v12 v13 v14 v15:Nat):List (Nat×AV):=(14,.pt 14 v14 0 0) :: (15,.pt 15 v15 0 0) :: k13 v1 v2 v3 v4 v7 v12 v13
abbrev m15 (s:aA) (o:aS) (f:bH) (sh:List Int) (e:Int) (t:aA) (a:Int) (v1 v2 v3 v4 v7 v12 v13 v14 v15:Nat):List (Nat×bC):=(14,⟨33,10,true,true,v14,[aA.av t]⟩) :: (15,⟨3,1,true,true,v15,[[int a]]⟩) :: m13 s o f sh e v1 v2 v3 v4 v7 v12 v13
theorem a1Y {s:aA} {refs:List Int} {i:Nat} {k:Int} (h:refs[i]?=some k) (hn:(kT s k).Item<0):aRK s refs=false:=by
  cases hv:aRK s refs with
  | false=>rfl
  | true=>have:=List.all_eq_true.1 hv k (List.mem_of_getElem? h);simp [hn] at this
theorem a2H {s:aA} {refs:List Int} {f:bH} {i:Nat} {k:Int} (h:refs[i]?=some k) (hn:(kT s k).dG≠f.dG):aRR s refs f=false:=by
  cases hv:aRR s refs f with
  | false=>rfl
  | true=>have:=List.all_eq_true.1 hv k (List.mem_of_getElem? h);simp [hn] at this
theorem aMA {n:Nat} {s:aA} {o:aS}:PZ (JP n s o) 62 [.agg (aA.av s),.agg (aS.av o)] (λr=>.aU [.agg (aA.av r.1),int r.2]):=by
  intro r h0
  unfold JP at h0
  refine uD (R0:=λy H=>Cv (jZ H) y (aRF r)) ?_ (λy H hc=>⟨_,rfl,(GL:∀ r:aA×Int,PV (aRF r)) r,hc⟩)
  refine ZO (c:=_) Tryz.func62 rfl rfl ?_
  intro s0 q0 hs0
  refine wpIn_mono (Q:=aTN s0 r) ?_ (λe a w h=>h)
  refine wpIn_seq (lS mixed aN rfl (t:=tA) (r:=.inl ()) rfl (J:=λ_ f hp=>jK hp f (kB (vr hp 1) (vr hp 2) (vr hp 3) (vr hp 4))/\nD hp (mB s o (vr hp 1) (vr hp 2) (vr hp 3) (vr hp 4))) (JR:=JN) (hJR:=kD) hs0 1000 au ?_ (λv S' s' a' e=>nomatch e))
  rintro _ S1 s1 q1-hj hs1 hf1
  obtain ⟨hs1,hf1⟩:=hs1.AA hf1 (mQ hj.1 hj.2)
  generalize vr S1.hp 1=v1 at hs1 hf1
  generalize vr S1.hp 2=v2 at hs1 hf1
  generalize vr S1.hp 3=v3 at hs1 hf1
  generalize vr S1.hp 4=v4 at hs1 hf1
  clear hj
  obtain ⟨z,hz,h0⟩:=dJ h0
  refine wpIn_seq (lS mixed aN rfl (t:=tB' s o) hz (J:=PJ (λ_=>kB v1 v2 v3 v4) (λ_=>mB s o v1 v2 v3 v4)) (JR:=JF tb Tryz.f62.results.toList aRF) (hJR:=DJ) hs1 1000 au ?_ ?_)
  rotate_left
  · rintro x S' s' a' rfl hj hs' hf'
    obtain rfl:x=r:=Option.some.inj h0
    exact aTE [] hj hs' (hf1.trans hf') .nil
  rintro _ S2 s2 q2 rfl hj hs2 hf2
  obtain ⟨hs2,hf2⟩:=hs2.pj (hf1.trans hf2) hj
  clear hj hz
  obtain ⟨hfit,h0⟩:=aQH h0
  refine wpIn_seq (wpIn_seq (lS mixed aN rfl (t:=tC 32 s o) (r:=.inl ()) rfl (J:=PJ (λ_=>(32,.fn (.func 164) [] [.pp [aD 1 fI o.bT],.pp (aA.av s)]) :: kB v1 v2 v3 v4) (λ_=>mB s o v1 v2 v3 v4)) (JR:=JN) (hJR:=kD) hs2 1000 au ?_ (λv S' s' a' e=>nomatch e)))
  rintro _ S3 s3 q3-hj hs3 hf3
  obtain ⟨hs3,hf3⟩:=hs3.pj (hf2.trans hf3) hj
  clear hj
  refine wpIn_block (K6 (n:=⟨134,false,[]⟩) (ds:=[]) rfl hs3 rfl a5P (OW s o.bT (by omega)) (λi H=>H=hk (mB s o v1 v2 v3 v4)/\∀ j k,j<i->o.bT[j]?=some k->¬ (kT s k).Item<0) (λH=>H=hk (mR v3 v4 (s,4))/\aRK s o.bT=false) ⟨rfl,λj k h=>absurd h (Nat.not_lt_zero _)⟩ (by rintro i H ⟨rfl,-⟩;rfl) (by rintro H ⟨rfl,-⟩;rfl) (by decide) (by decide) ?_ ?_)
  · rintro i x y H hx ⟨rfl,hall⟩
    obtain ⟨k',hk',rfl,rfl⟩:=aS3 hx
    generalize hrr:kT s k'=rr
    refine BR mixed aN (t:=NR 8) (r:=.inl ()) rfl (J:=λ_ f hp=>jK hp f ((7,.pt 8 (vr hp 8) 0 0) :: kB v1 v2 v3 v4)/\nD hp ((8,⟨134,8,true,true,vr hp 8,[bH.av rr]⟩) :: mB s o v1 v2 v3 v4)) (JR:=JN) (hJR:=kD) 1000 au (λ_ S1 _ hj=>⟨rfl,EI (mQ hj.1 hj.2) ?_⟩) (λv S' e=>nomatch e)
    generalize vr S1.hp 8=v5
    by_cases hi:rr.Item<0
    · refine aSQ mixed aN (JJ:=λH=>H=hk (mB s o v1 v2 v3 v4)/\∀ j k,j<i+1->o.bT[j]?=some k->¬ (kT s k).Item<0) (KK:=λH=>H=hk (mR v3 v4 (s,4))/\aRK s o.bT=false) (z:=.inr (s,4)) (t:=aTL s rr) (M:=λ_=>mB s o v1 v2 v3 v4) (MR:=mR v3 v4) (by simp [aTL,WT.run,bnd,hi,Go.Pv.esc]) 1000 au (λv e=>nomatch e) (λv e=>by cases e;exact ⟨rfl,a1Y hk' (hrr ▸ hi)⟩)
    · refine aSQ mixed aN (JJ:=λH=>H=hk (mB s o v1 v2 v3 v4)/\∀ j k,j<i+1->o.bT[j]?=some k->¬ (kT s k).Item<0) (KK:=λH=>H=hk (mR v3 v4 (s,4))/\aRK s o.bT=false) (z:=.inl ()) (t:=aTL s rr) (M:=λ_=>mB s o v1 v2 v3 v4) (MR:=mR v3 v4) (by simp [aTL,WT.run,bnd,hi,Go.Pv.brk]) 1000 au (λv e=>⟨rfl,λj k hj hk=>by
        rcases Nat.lt_succ_iff_lt_or_eq.1 hj with hj | rfl
        · exact hall j k hj hk
        · rw [hk'] at hk;cases hk;exact hrr ▸ hi⟩) (λv e=>nomatch e)
  rintro e' D s4 H4 hj hs4 hf4 hD4 hn4
  have hd4:aQK s0 s4 [D]:=aQK.cons .nil hs3.heap hf4 hf3.size hD4 hn4
  have hf4:=hf3.trans hf4
  have hlen:(tK s o.bT).length=o.bT.length:=by simp [tK]
  rcases hj with ⟨rfl,rfl,hall⟩ | ⟨rfl,rfl,hbad⟩
  rotate_left
  · rw [hbad] at h0
    obtain rfl:(s,4)=r:=Option.some.inj h0
    exact aTY [D] hs4 rfl rfl hf4 hd4
  have hV:aRK s o.bT=true:=by
    refine List.all_eq_true.2 λk hk=>?_
    obtain ⟨j,hj⟩:=List.getElem?_of_mem hk
    have:=hall j k (by rw [hlen];exact (List.getElem?_eq_some_iff.1 hj).1) hj
    simp [this]
  rw [hV] at h0
  obtain ⟨k,hkk,h0⟩:=dJ h0
  obtain ⟨f,hff,h0⟩:=dJ h0
  have hD:(tD s o).run=some (.inl f):=by simp [tD,WT.run,hkk,hff,Go.Pv.brk]
  refine wpIn_seq (lS mixed aN (n:=⟨134,false,[mk D]⟩) rfl (t:=tD s o) (r:=.inl f) hD (J:=λx f' hp=>jK hp f' ((8,.pt 7 (vr hp 7) 0 0) :: kB v1 v2 v3 v4)/\nD hp ((7,⟨134,8,true,true,vr hp 7,[bH.av x]⟩) :: mB s o v1 v2 v3 v4)) (JR:=JN) (hJR:=kD) hs4 1000 au ?_ (λv S' s' a' e=>nomatch e))
  rintro x S5 s5 q5 ex hj hs5 hf5
  obtain rfl:f=x:=by injection ex
  have hd5:=hd4.fr hs4.heap hf5
  obtain ⟨hs5,hf5⟩:=hs5.AA (hf4.trans hf5) (mQ hj.1 hj.2)
  generalize vr S5.hp 7=v7 at hs5 hf5
  clear hj
  refine wpIn_seq (wpIn_seq (lS mixed aN (n:=⟨134,false,[mk D]⟩) rfl (t:=tC 50 s o) (r:=.inl ()) rfl (J:=PJ (λ_=>(50,.fn (.func 164) [] [.pp [aD 1 fI o.bT],.pp (aA.av s)]) :: k7 v1 v2 v3 v4 v7) (λ_=>m7 s o f v1 v2 v3 v4 v7)) (JR:=JN) (hJR:=kD) hs5 1000 au ?_ (λv S' s' a' e=>nomatch e)))
  rintro _ S6 s6 q6-hj hs6 hf6
  have hd6:=hd5.fr hs5.heap hf6
  obtain ⟨hs6,hf6⟩:=hs6.pj (hf5.trans hf6) hj
  clear hj
  refine wpIn_block (K6 (n:=⟨134,false,[]⟩) (ds:=[mk D]) rfl hs6 rfl a5P (OW s o.bT (by omega)) (λi H=>H=hk (m7 s o f v1 v2 v3 v4 v7)/\∀ j k,j<i->o.bT[j]?=some k->¬ (kT s k).dG≠f.dG) (λH=>H=hk (mR v3 v4 (s,1))/\aRR s o.bT f=false) ⟨rfl,λj k h=>absurd h (Nat.not_lt_zero _)⟩ (by rintro i H ⟨rfl,-⟩;rfl) (by rintro H ⟨rfl,-⟩;rfl) (by decide) (by decide) ?_ ?_)
  · rintro i x y H hx ⟨rfl,hall⟩
    obtain ⟨k',hk',rfl,rfl⟩:=aS3 hx
    generalize hrr:kT s k'=rr
    refine BR mixed aN (t:=NR 8) (r:=.inl ()) rfl (J:=λ_ f' hp=>jK hp f' ((10,.pt 8 (vr hp 8) 0 0) :: k7 v1 v2 v3 v4 v7)/\nD hp ((8,⟨134,8,true,true,vr hp 8,[bH.av rr]⟩) :: m7 s o f v1 v2 v3 v4 v7)) (JR:=JN) (hJR:=kD) 1000 au (λ_ S1 _ hj=>⟨rfl,EI (mQ hj.1 hj.2) ?_⟩) (λv S' e=>nomatch e)
    generalize vr S1.hp 8=v5
    by_cases hi:rr.dG≠f.dG
    · refine aSQ mixed aN (JJ:=λH=>H=hk (m7 s o f v1 v2 v3 v4 v7)/\∀ j k,j<i+1->o.bT[j]?=some k->¬ (kT s k).dG≠f.dG) (KK:=λH=>H=hk (mR v3 v4 (s,1))/\aRR s o.bT f=false) (z:=.inr (s,1)) (t:=aTA s rr f) (M:=λ_=>m7 s o f v1 v2 v3 v4 v7) (MR:=mR v3 v4) (by simp [aTA,WT.run,bnd,hi,Go.Pv.esc]) 1000 au (λv e=>nomatch e) (λv e=>by cases e;exact ⟨rfl,a2H hk' (hrr ▸ hi)⟩)
    · refine aSQ mixed aN (JJ:=λH=>H=hk (m7 s o f v1 v2 v3 v4 v7)/\∀ j k,j<i+1->o.bT[j]?=some k->¬ (kT s k).dG≠f.dG) (KK:=λH=>H=hk (mR v3 v4 (s,1))/\aRR s o.bT f=false) (z:=.inl ()) (t:=aTA s rr f) (M:=λ_=>m7 s o f v1 v2 v3 v4 v7) (MR:=mR v3 v4) (by
        have hi:=Classical.not_not.1 hi
        simp [aTA,WT.run,bnd,hi,Go.Pv.brk]) 1000 au (λv e=>⟨rfl,λj k hj hk=>by
        rcases Nat.lt_succ_iff_lt_or_eq.1 hj with hj | rfl
        · exact hall j k hj hk
        · rw [hk'] at hk;cases hk;exact hrr ▸ hi⟩) (λv e=>nomatch e)
  rintro e' D2 s7 H7 hj hs7 hf7 hD7 hn7
  have hd7:aQK s0 s7 [D2,D]:=aQK.cons hd6 hs6.heap hf7 hf6.size hD7 hn7
  have hf7:=hf6.trans hf7
  rcases hj with ⟨rfl,rfl,hall2⟩ | ⟨rfl,rfl,hbad⟩
  rotate_left
  · rw [hbad] at h0
    obtain rfl:(s,1)=r:=Option.some.inj h0
    exact aTY [D2,D] hs7 rfl rfl hf7 hd7
  have hE:aRR s o.bT f=true:=by
    refine List.all_eq_true.2 λk hk=>?_
    obtain ⟨j,hj⟩:=List.getElem?_of_mem hk
    have:=Classical.not_not.1 (hall2 j k (by rw [hlen];exact (List.getElem?_eq_some_iff.1 hj).1) hj)
    simp [this]
  rw [hE] at h0
  obtain ⟨z,hz,h0⟩:=dJ h0
  refine wpIn_seq (lS mixed aN (n:=⟨134,false,mk D2 :: [mk D]⟩) rfl (t:=tF' s f) hz (J:=PJ (λ_=>k7 v1 v2 v3 v4 v7) (λ_=>m7 s o f v1 v2 v3 v4 v7)) (JR:=JF tb Tryz.f62.results.toList aRF) (hJR:=DJ) hs7 1000 au ?_ ?_)
  rotate_left
  · rintro x S' s' a' rfl hj hs' hf'
    obtain rfl:x=r:=Option.some.inj h0
    exact aTE [D2,D] hj hs' (hf7.trans hf') (hd7.fr hs7.heap hf')
  rintro _ S8 s8 q8 rfl hj hs8 hf8
  have hd8:=hd7.fr hs7.heap hf8
  obtain ⟨hs8,hf8⟩:=hs8.pj (hf7.trans hf8) hj
  clear hj hz
  obtain ⟨w,hw,h0⟩:=dJ h0
  obtain ⟨sh,hsh,h0⟩:=dJ h0
  refine wpIn_seq (lS mixed aN (n:=⟨134,false,mk D2 :: [mk D]⟩) rfl (t:=tG n s o) (r:=.inl sh) (by simp [tG,WT.run,hw,hsh,Go.Pv.brk]) (J:=λp f' hp=>jK hp f' ((12,.pt 12 (vr hp 12) 0 0) :: (13,.pt 13 (vr hp 13) 0 0) :: k7 v1 v2 v3 v4 v7)/\nD hp ((12,⟨22,1,true,true,vr hp 12,[[aD 1 fI p.1]]⟩) :: (13,⟨37,1,true,true,vr hp 13,[[int p.2]]⟩) :: m7 s o f v1 v2 v3 v4 v7)) (JR:=JN) (hJR:=kD) hs8 1000 au ?_ (λv S' s' a' e=>nomatch e))
  rintro x S9 s9 q9 ex hj hs9 hf9
  obtain rfl:sh=x:=by injection ex
  have hd9:=hd8.fr hs8.heap hf9
  obtain ⟨hs9,hf9⟩:=hs9.AA (hf8.trans hf9) (mQ hj.1 hj.2)
  generalize vr S9.hp 12=v12 at hs9 hf9
  generalize vr S9.hp 13=v13 at hs9 hf9
  clear hj ex
  obtain ⟨sh,e⟩:=sh
  obtain ⟨z,hz,h0⟩:=dJ h0
  refine wpIn_seq (lS mixed aN (n:=⟨134,false,mk D2 :: [mk D]⟩) rfl (t:=tH s e) hz (J:=PJ (λ_=>k13 v1 v2 v3 v4 v7 v12 v13) (λ_=>m13 s o f sh e v1 v2 v3 v4 v7 v12 v13)) (JR:=JF tb Tryz.f62.results.toList aRF) (hJR:=DJ) hs9 1000 au ?_ ?_)
  rotate_left
  · rintro x S' s' a' rfl hj hs' hf'
    obtain rfl:x=r:=Option.some.inj h0
    exact aTE [D2,D] hj hs' (hf9.trans hf') (hd9.fr hs9.heap hf')
  rintro _ Sa sa qa rfl hj hsa hfa
  have hda:=hd9.fr hs9.heap hfa
  obtain ⟨hsa,hfa⟩:=hsa.pj (hf9.trans hfa) hj
  clear hj hz
  refine wpIn_seq (lS mixed aN (n:=⟨134,false,mk D2 :: [mk D]⟩) rfl (t:=tI) (r:=.inl ()) rfl (J:=λ_ f' hp=>jK hp f' ((14,.pt 14 (vr hp 14) 0 0) :: (15,.pt 15 (vr hp 15) 0 0) :: k13 v1 v2 v3 v4 v7 v12 v13)/\nD hp ((14,⟨33,10,true,true,vr hp 14,[aA.av s]⟩) :: (15,⟨3,1,true,true,vr hp 15,[[int 0]]⟩) :: m13 s o f sh e v1 v2 v3 v4 v7 v12 v13)) (JR:=JN) (hJR:=kD) hsa 1000 au ?_ (λv S' s' a' e=>nomatch e))
  rintro _ Sb sb qb-hj hsb hfb
  have hdb:=hda.fr hsa.heap hfb
  obtain ⟨hsb,hfb⟩:=hsb.AA (hfa.trans hfb) (mQ hj.1 hj.2)
  generalize vr Sb.hp 14=v14 at hsb hfb
  generalize vr Sb.hp 15=v15 at hsb hfb
  clear hj
  refine wpIn_seq (wpIn_seq (lS mixed aN (n:=⟨134,false,mk D2 :: [mk D]⟩) rfl (t:=tC 89 s o) (r:=.inl ()) rfl (J:=PJ (λ_=>(89,.fn (.func 164) [] [.pp [aD 1 fI o.bT],.pp (aA.av s)]) :: k15 v1 v2 v3 v4 v7 v12 v13 v14 v15) (λ_=>m15 s o f sh e s 0 v1 v2 v3 v4 v7 v12 v13 v14 v15)) (JR:=JN) (hJR:=kD) hsb 1000 au ?_ (λv S' s' a' e=>nomatch e)))
  rintro _ Sc sc qc-hj hsc hfc
  have hdc:=hdb.fr hsb.heap hfc
  obtain ⟨hsc,hfc⟩:=hsc.pj (hfb.trans hfc) hj
  clear hj
  obtain ⟨z,hz,h0⟩:=dJ h0
  refine wpIn_block (K6 (n:=⟨134,false,[]⟩) (ds:=mk D2 :: [mk D]) rfl hsc rfl a5P (OW s o.bT (by omega)) (λi H=>∃ e t a,H=hk (m15 s o f sh e t a v1 v2 v3 v4 v7 v12 v13 v14 v15)/\aRX n s sh (o.bT.drop i) i t a=some z) (λH=>∃ r',H=hk (mR v3 v4 r')/\z=.inr r') ⟨e,s,0,rfl,hz⟩ (by rintro i H ⟨e,t,a,rfl,-⟩;rfl) (by rintro H ⟨r',rfl,-⟩;rfl) (by decide) (by decide) ?_ ?_)
  · rintro i x y H hx ⟨e,t,a,rfl,hF⟩
    obtain ⟨k',hk',rfl,rfl⟩:=aS3 hx
    rw [drop_at hk'] at hF
    obtain ⟨y,hy,hF⟩:=dJ hF
    generalize kT s k'=rr at hy
    refine BR mixed aN (t:=NR 18) (r:=.inl ()) rfl (J:=λ_ f' hp=>jK hp f' ((16,int i) :: (17,.pt 18 (vr hp 18) 0 0) :: k15 v1 v2 v3 v4 v7 v12 v13 v14 v15)/\nD hp ((18,⟨134,8,true,true,vr hp 18,[bH.av rr]⟩) :: m15 s o f sh e t a v1 v2 v3 v4 v7 v12 v13 v14 v15)) (JR:=JN) (hJR:=kD) 1000 au (λ_ S1 _ hj=>⟨rfl,EI (mQ hj.1 hj.2) ?_⟩) (λv S' e=>nomatch e)
    generalize vr S1.hp 18=v18
    refine aSQ mixed aN (JJ:=λH=>∃ e t a,H=hk (m15 s o f sh e t a v1 v2 v3 v4 v7 v12 v13 v14 v15)/\aRX n s sh (o.bT.drop (i+1)) (i+1) t a=some z) (KK:=λH=>∃ r',H=hk (mR v3 v4 r')/\z=.inr r') (t:=t3 n s t rr sh i a) (M:=λp=>m15 s o f sh p.2.2 p.1 p.2.1 v1 v2 v3 v4 v7 v12 v13 v14 v15) (MR:=mR v3 v4) hy 1000 au (λv e=>by subst e;exact ⟨v.2.2,v.1,v.2.1,rfl,hF⟩) (λv e=>by subst e;exact ⟨v,rfl,(Option.some.inj hF).symm⟩)
  rintro e' D3 sd Hd hj hsd hfd hDd hnd
  have hdd:aQK s0 sd [D3,D2,D]:=aQK.cons hdc hsc.heap hfd hfc.size hDd hnd
  have hfd:=hfc.trans hfd
  rcases hj with ⟨rfl,e,t,a,rfl,hF⟩ | ⟨rfl,r',rfl,rfl⟩
  rotate_left
  · obtain rfl:r'=r:=Option.some.inj h0
    exact aTY [D3,D2,D] hsd rfl rfl hfd hdd
  rw [hlen,List.drop_length] at hF
  obtain rfl:.inl (t,a)=z:=Option.some.inj hF
  obtain ⟨z,hzl,h0⟩:=dJ h0
  refine lS mixed aN (n:=⟨134,false,mk D3 :: mk D2 :: [mk D]⟩) rfl (t:=tL n s o f t a) hzl (J:=PJ (λ_=>[]) (λ_=>[])) (JR:=JF tb Tryz.f62.results.toList aRF) (hJR:=DJ) hsd 1000 ?_ (λv S' s' a' e=>by subst e;cases h0) ?_
  rotate_left
  · rintro x S' s' a' rfl hj hs' hf'
    obtain rfl:x=r:=Option.some.inj h0
    exact aTE [D3,D2,D] hj hs' (hfd.trans hf') (hdd.fr hsd.heap hf')
  exact au
end
def Z8 (a1:Int) (a2:Int):WB (aH) :=
 .al 1<|.ret (((⟨a1,a2⟩:aH):aH))
def nR (a1:Int) (a2:Int):Option (aH):=(Z8 a1 a2).run
theorem pE {a1 a2}:PZ (nR a1 a2) 168 [int a1,int a2] (λr=>.agg (aH.av r)):=wq Tryz.func168
def XB (n:Nat) (a1:aA) (a2:List gG):WB (aA×Int) :=
 .al 1<|.al 2<|.ln 10 gG.av a2<|.dF 0 [2,4,5] [2] [] (λ_ (a:aA)=>[]) (λ_ a=>[.kp 1 [(aA.av a)]]) (.lp [2,4,5,9,10] [2] [] (λ_ (a:Int×aA)=>[(11,int a.1)]) (λ_ a=>[.kp 1 [(aA.av a.2)]]) n ((0:Int),a1) (pw λy0_1 y0_2=>.bB 12 (decide (y0_1<(a2.length:Int))) λx5=>.ifs [12] x5 (.ix 13 gG.av a2 y0_1 λx6=>.al 3<|.cl 21 (oN n y0_2 x6.NB x6.lines) sH qN λx8=>.bB 25 (decide (x8.2≠0)) λx9=>.ifs [25] x9 (.esc (.esc (.ret ((x8.1:aA),x8.2)))) (.bI 28 (aI (y0_1+1)) λx10=>.brk ((x10:Int),x8.1))) (.esc (.brk y0_2)))) (λy1_1=>.ret ((y1_1:aA),0))
def a5X (n:Nat) (a1:aA) (a2:List gG):Option (aA×Int):=(XB n a1 a2).run
theorem SG {n a1 a2}:PZ (a5X n a1 a2) 167 [.agg (aA.av a1),aD 2 gG.av a2] (λr=>.aU [.agg (aA.av r.1),int r.2]):=wq Tryz.func167
def aIW (n:Nat) (a1:aA) (a2:aS):WB (aA×Int) :=
 .al 1<|.al 2<|.al 3<|.gv 17<|.dF 0 [2,3,4,5] [1,2,3] [] (λ_ (a:Unit)=>[]) (λ_ _=>[]) (.lp [2,3,4,5,17] [1,2,3] [] (λ_ (a:Int)=>[(18,int a)]) (λ_ _=>[]) n 0 (λy0_1=>.bB 19 (decide (y0_1<2)) λx6=>.ifs [19] x6 (.bo (ix ([a2.E,a2.To]:List Int) y0_1) λx7=>.gv 20<|.cl 25 (lH a1 x7 a2.Item) l8 mU λx8=>.bB 27 (decide (x8≠0)) λx9=>.ifs [27] x9 (.esc (.esc (.ret ((a1:aA),x8)))) (.bI 30 (aI (y0_1+1)) λx10=>.brk x10)) (.esc (.brk ())))) (λ_=>.ln 33 dB.av a1.bY<|.bB 34 (decide ((a1.bY.length:Int)>=40)) λx11=>.ifs [34] x11 (.ret ((a1:aA),6)) (.cl 46 (rR n a1 a2.E a2.Item a2.Loc 3 a2.aQ) aA0 wP λx12=>.al 4<|.bB 52 (decide (x12.2.2.2≠0)) λx14=>.ifs [52] x14 (.ret ((x12.1:aA),x12.2.2.2)) (.dr [(0,[1]),(1,[2]),(2,[2]),(3,[2]),(4,[2]),(6,[2]),(7,[2]),(10,[4]),(11,[4]),(13,[4]),(14,[4]),(19,[2]),(20,[2]),(21,[2]),(22,[2]),(24,[2]),(25,[2])] [(35,[])] [1,2,4] [35] [0,1,2,3,4,5,6,7,8,9,10,11,12,13,14,15,16,17,18,19,20,21,22,23,24,25,26,27,28,29,30,31,32,33,34,35,36] (.cl 61 (nR 13 a2.bD) VV pE λx15=>.bI 64 (aI (0-a2.bD)) λx16=>.cl 65 (nR 15 x16) VV pE λx17=>.cl 68 (nR 16 x12.2.1.Value) VV pE λx18=>.bI 71 (aI (0-x12.2.1.Value)) λx19=>.cl 72 (nR 0 x19) VV pE λx20=>.to 73 (aD 2 aH.av ([x15,x17,x18,x20]:List aH))<|.cl 79 (nR 12 a2.bD) VV pE λx21=>.bI 82 (aI (0-a2.bD)) λx22=>.cl 83 (nR 14 x22) VV pE λx23=>.to 84 (aD 2 aH.av ([x21,x23]:List aH))<|.to 86 (aD 2 gG.av ([(⟨a2.E,([x15,x17,x18,x20]:List aH)⟩:gG),(⟨a2.To,([x21,x23]:List aH)⟩:gG)]:List gG))<|.cl 87 (a5X n x12.1 ([(⟨a2.E,([x15,x17,x18,x20]:List aH)⟩:gG),(⟨a2.To,([x21,x23]:List aH)⟩:gG)]:List gG)) Q9 SG λx24=>.bB 91 (decide (x24.2≠0)) λx25=>.ifs [91] x25 (.ret ((x24.1:aA),x24.2)) (.cl 103 (qD x24.1 a2.E a2.Item (⟨0,0,0,0,0,0,x12.2.1.Value,0,0,0,0⟩:bM)) MQ sO λx26=>.bB 107 (decide (x26.2≠0)) λx27=>.ifs [107] x27 (.ret ((x26.1:aA),x26.2)) (.bI 114 (aI (a2.bD-x12.2.1.Value)) λx28=>.bI 117 (aI (x28+x12.2.1.bO)) λx29=>.jn 0 [2,3,4,5,12] [1,2,3] [] (λ_ (a:Bool)=>[(123,aF a)]) (λ_ _=>[]) (.bB 119 (decide (x29<(-288230376151711744))) λx30=>.ifs [119] x30 (.ret true) (.bB 122 (decide (x29>288230376151711744)) λx31=>.ret x31)) (λy2_1=>.ifs [123] y2_1 (.ret ((x26.1:aA),2)) (.dr [(0,[1]),(1,[1]),(3,[2]),(4,[2]),(5,[2]),(6,[2]),(7,[2]),(8,[2]),(9,[2]),(10,[2]),(11,[2]),(12,[2]),(17,[1])] [(2,[2]),(16,[]),(18,[])] [1,2] [2,16,18] [0,1,3,4,5,6,7,8,9,10,11,12,13,14,15,2,16,17,18] (.to 140 (aD 6 dB.av ([(⟨a2.E,a2.To,a2.Item,a2.aQ,a2.bD,x29⟩:dB)]:List dB))<|.as (x26.1.bY.length<=68719476736) inferInstance<|.ge 127 5<|.bl (x26.1.bY++([(⟨a2.E,a2.To,a2.Item,a2.aQ,a2.bD,x29⟩:dB)]:List dB):List dB) λx34=>.as (x34.length<=68719476736) inferInstance<|.ge 141 0<|.ret (((⟨x26.1.bA,x26.1.aW,x26.1.bP,x26.1.bU,x34,x26.1.Done⟩:aA):aA),0))))))))))
def KJ (n:Nat) (a1:aA) (a2:aS):Option (aA×Int):=(aIW n a1 a2).run
theorem Y8 {n a1 a2}:PZ (KJ n a1 a2) 114 [.agg (aA.av a1),.agg (aS.av a2)] (λr=>.aU [.agg (aA.av r.1),int r.2]):=by
 refine wm Tryz.func114 ?_
 intro v3
 intro v4
 intro v5
 refine .mk _ (bE (qJ (cs:=[int a2.E,int a2.To]) (ps:=[(0,_),(1,_)]) rfl Tryz.underlying135 fC a9L rfl (.cons rfl (.cons rfl .nil)) (by kernel_rfl))) ?_
 refine .mk ?_ ?_
 refine .mk ?_
 intro _ _
 refine .mk λx6=>?_
 refine .mk ?_ ?_
 refine .mk λx7 e7=>?_
 refine .mk _ (bE (uR (g:=fI) (l:=([a2.E,a2.To]:List Int)) (v:=x7) (w:=int x7) rfl Tryz.underlying135 fC rfl rfl rfl e7 (λ_=>rfl) hw1)) ?_
 refine .mk λx8 e8=>?_
 refine .mk λx9=>?_
 refine .mk .mk ?_
 refine .mk λx10=>?_
 exact .mk
 exact .mk
 intro _ _
 refine .mk ?_
 refine .mk λx11=>?_
 refine .mk .mk ?_
 refine .mk λx12 e12=>?_
 intro v13
 refine .mk λx14=>?_
 refine .mk .mk ?_
 refine .mk ?_
 refine .mk λx15 e15=>?_
 refine .mk λx16=>?_
 refine .mk λx17 e17=>?_
 refine .mk λx18 e18=>?_
 refine .mk λx19=>?_
 refine .mk λx20 e20=>?_
 refine .mk (λH hH _=>bX (y:=aD 2 aH.av ([x15,x17,x18,x20]:List aH)) (dQ (ps:=[(0,_),(1,_),(2,_),(3,_)]) (rows:=[[int x15.fM,int x15.bD],[int x17.fM,int x17.bD],[int x18.fM,int x18.bD],[int x20.fM,int x20.bD]]) rfl Tryz.underlying116 a3V (.cons rfl (.cons rfl (.cons rfl (.cons rfl .nil)))) (by kernel_rfl) rfl rfl rfl) rfl) ?_
 refine .mk λx21 e21=>?_
 refine .mk λx22=>?_
 refine .mk λx23 e23=>?_
 refine .mk (λH hH _=>bX (y:=aD 2 aH.av ([x21,x23]:List aH)) (dQ (ps:=[(0,_),(1,_)]) (rows:=[[int x21.fM,int x21.bD],[int x23.fM,int x23.bD]]) rfl Tryz.underlying116 a3V (.cons rfl (.cons rfl .nil)) (by kernel_rfl) rfl rfl rfl) rfl) ?_
 refine .mk (λH hH _=>bX (y:=aD 2 gG.av ([(⟨a2.E,([x15,x17,x18,x20]:List aH)⟩:gG),(⟨a2.To,([x21,x23]:List aH)⟩:gG)]:List gG)) (dQ (ps:=[(0,_),(1,_)]) (rows:=[[int a2.E,aD 2 aH.av ([x15,x17,x18,x20]:List aH)],[int a2.To,aD 2 aH.av ([x21,x23]:List aH)]]) rfl Tryz.underlying256 bD7 (.cons rfl (.cons rfl .nil)) (by kernel_rfl) rfl rfl rfl) rfl) ?_
 refine .mk λx24 e24=>?_
 refine .mk λx25=>?_
 refine .mk .mk ?_
 refine .mk λx26 e26=>?_
 refine .mk λx27=>?_
 refine .mk .mk ?_
 refine .mk λx28=>?_
 refine .mk λx29=>?_
 refine .mk ?_ ?_
 refine .mk λx30=>?_
 refine .mk .mk ?_
 refine .mk λx31=>?_
 exact .mk
 intro _ _
 refine .mk .mk ?_
 refine .mk ?_
 refine .mk (λH hH _=>bX (y:=aD 6 dB.av ([(⟨a2.E,a2.To,a2.Item,a2.aQ,a2.bD,x29⟩:dB)]:List dB)) (dQ (ps:=[(0,_)]) (rows:=[[int a2.E,int a2.To,int a2.Item,int a2.aQ,int a2.bD,int x29]]) rfl Tryz.underlying31 a6Y (.cons rfl .nil) (by kernel_rfl) rfl rfl rfl) rfl) ?_
 refine .mk λp32=>?_
 refine .mk _ ⟨λ_=>d9 rfl rfl (.cons rfl .nil) aL8 (iK (bAU.pc (id:=5) (l:=x26.1.bY) rfl p32) (.cons (.refl _) .nil)),by rintro _ _ ⟨v33,rfl,rfl⟩;exact ⟨rfl,trivial⟩⟩ ?_
 rintro _ _ ⟨v33,rfl,rfl⟩
 refine .mk λx34 e34=>?_
 refine .mk λp35=>?_
 refine .mk _ ⟨λ_=>jU (g:=dB.av) (l:=x26.1.bY) (m:=([(⟨a2.E,a2.To,a2.Item,a2.aQ,a2.bD,x29⟩:dB)]:List dB)) .any rfl Tryz.underlying31 a6Y bAP rfl rfl rfl rfl rfl rfl rfl rfl rfl rfl (Eq.symm rfl) (.refl _) (λ_=>rfl) e34 p35,by rintro _ _ ⟨v36,-,rfl,rfl⟩;exact trivial⟩ ?_
 rintro _ _ ⟨v36,-,rfl,rfl⟩
 exact .mk (bK.aU (.cons (bK.agg (.cons (.refl _) (.cons (.refl _) (.cons (.refl _) (.cons (.refl _) (.cons (.refl _) (.cons (.refl _) (.cons (.refl _) (.cons (.refl _) (.cons (dH rfl rfl rfl rfl rfl (Eq.symm rfl)) (.cons (.refl _) .nil))))))))))) (.cons (.refl _) .nil)))
end
end Go.Pv
