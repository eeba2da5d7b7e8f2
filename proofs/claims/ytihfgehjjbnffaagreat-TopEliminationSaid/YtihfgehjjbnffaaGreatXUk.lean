import Derived.Test.YtihfgehjjbnffaaGreatXUj
set_option linter.unusedVariables false
set_option linter.unusedSimpArgs false
namespace Go.Pv
open Go.Proofs
set_option maxRecDepth 100000
set_option maxHeartbeats 4000000
noncomputable section
def mQ (s:aA) (k:Int):dH:=(ix s.dG k).getD ⟨0,-1,0,0,0,0,0,0⟩
def qM (s:aA) (refs:List Int):List (AV×AV):=refs.zipIdx.map λx=>(int x.2,.agg (dH.av (mQ s x.1)))
section
noncomputable section
def tU:WT Tryz.prog (.s Unit (.b Unit)):=.brk ()
def aW5 (l:List Int):WT Tryz.prog (.s Unit (.b Unit)):=.ln 8 fI l <| .brk ()
def tIx (l:List Int) (i:Int):WT Tryz.prog (.s Int (.b Unit)):=.ix 12 fI l i λx=>.brk x
def QM (s:aA) (k:Int):WT Tryz.prog (.s dH (.b Unit)) :=
 .bB 16 (decide (k>=0)) λx1 =>
 .ifs [16] x1 (.ln 21 dH.av s.dG <| .bB 22 (decide (k<(s.dG.length:Int))) λx2=>.ifs [22] x2 (.ix 27 dH.av s.dG k λr=>.brk r) (.brk ⟨0,-1,0,0,0,0,0,0⟩)) (.brk ⟨0,-1,0,0,0,0,0,0⟩)
def aQP:WT Tryz.prog (.s Unit (.b Unit)):=.al 777 <| .brk ()
end
theorem aS1 (s:aA) (k:Int):(QM s k).run=some (.inl (mQ s k)):=by
  unfold QM mQ
  simp only [WT.run,bnd,cond,Go.Pv.brk]
  by_cases h:k>=0
  · by_cases h2:k<(s.dG.length:Int)
    · obtain ⟨r,hr⟩:∃ r,ix s.dG k=some r:=by
        unfold ix;rw [if_neg (by omega)]
        exact ⟨s.dG[k.toNat]'(by omega),by simp⟩
      simp [h,h2,hr]
    · have:ix s.dG k=none:=by unfold ix;rw [if_neg (by omega)];simp;omega
      simp [h,h2,this]
  · have:ix s.dG k=none:=by unfold ix;rw [if_pos (by omega)]
    simp [h,this]
abbrev JN (_:Unit) (_:FS) (_:AH) (_:List (Nat×Nat)):Prop:=False
theorem nH {a:Unit} {f:FS} {hp:AH} {vs:List (Nat×Nat)} (h:JN a f hp vs):cB vs/\JN a f hp []:=h.elim
abbrev kR (s:aA) (refs:List Int) (y:AV) (i:Int):List (Nat×AV):=[(0,y),(1,.pp [aH 1 fI refs]),(2,.pp (aA.av s)),(7,aH 1 fI refs),(8,int refs.length),(9,int i)]
theorem KZ (s:aA) (refs:List Int) (hfit:refs.length<=68719476736):aDL Tryz.prog 187 [.pp [aH 1 fI refs],.pp (aA.av s)] (qM s refs):=by
  intro lp fn tmps p q assign body D J K s0 H vs hH hvs hJ hJ7 hK7 hn hY
  have ha:mU s0 [.sc (.func (.yield lp) #[] #[]),.pp [aH 1 fI refs],.pp (aA.av s)] (#[.func (.yield lp) #[] #[]]++vs):=mU.append (xs:=[.sc (.func (.yield lp) #[] #[])]) ⟨rfl,λi x v h1 h2=>by
    cases i with
    | zero=>simp at h1 h2;subst h1 h2;exact .sc _
    | succ i=>simp at h1⟩ hvs
  refine callsIn_wide.1 (callsIn_of_wp (n:=0) (c:=_) Tryz.func187 rfl trivial ?_)
  have hs:=sr0 (fn:=Tryz.f187) hH ha rfl
  generalize ({ tmps:=_,defers:=[] }:Act)=a0 at hs ⊢
  generalize hy:(AV.sc (.func (.yield lp) #[] #[]))=y at *
  refine wpIn_seq (nE mixed aG rfl (t:=aW5 refs) (r:=.inl ()) rfl (J:=λ_ f hp=>kZ hp f (kR s refs y 0)/\hp=H) (JR:=JN) (hJR:=nH) hs 1000 D6 ?_ (λv S' s' a' e=>nomatch e))
  rintro _ S1 s1 a1 - ⟨hk1,e1⟩ hs1 hf1
  obtain ⟨hs1,hf1⟩:=hs1.k0 hf1 hk1 e1
  refine wpIn_block (wpIn_loop (λa w=>∃ (i:Nat) (s2:Sit) (H2:AH),i<=refs.length/\w=s2.w/\J i H2/\SR ⟨35,false,[]⟩ s2 ⟨kn (kR s refs y i),H2⟩ a/\Fr s0 H s2 H2)
    (λ(a:Act) _=>match (a.tmps[9]?:Option Value) with | some (Value.int _ v)=>refs.length-v.toNat | _=>0) ⟨0,s1,H,Nat.zero_le _,rfl,hJ,hs1,hf1⟩ ?_)
  rintro a w ⟨i,s2,H2,hi,rfl,hj,hs2,hf2⟩
  have hm2:(match (a.tmps[9]?:Option Value) with | some (Value.int _ v)=>refs.length-v.toNat | _=>0)=refs.length-i:=by
    obtain ⟨v,q1,q2⟩:=hs2.slot 9 (int i) rfl
    rw [q1,q2.fF];simp
  refine wpIn_seq (nE mixed aG rfl (t:=tU) (r:=.inl ()) rfl (J:=λ_ f hp=>kZ hp f ((10,aI (decide ((i:Int)<(refs.length:Int)))) :: kR s refs y i)/\hp=H2) (JR:=JN) (hJR:=nH) hs2 1000 D6 ?_ (λv S' s' a' e=>nomatch e))
  rintro _ S3 s3 a3 - ⟨hk3,e3⟩ hs3 hf3
  obtain ⟨hs3,hf3⟩:=hs3.k0 hf3 hk3 e3
  refine wpIn_seq (wpIn_cond_split (t:=decide ((i:Int)<(refs.length:Int))) (nX (o:=.tmp 10) hs3 rfl).fF (λhc=>?_) (λhc=>?_))
  · refine wpIn_skip ?_
    have hlt:i<refs.length:=by have:=of_decide_eq_true hc;omega
    obtain ⟨x,hx⟩:∃ x,refs[i]?=some x:=⟨refs[i],by simp [hlt]⟩
    have hix:ix refs (i:Int)=some x:=by unfold ix;rw [if_neg (by omega)];simpa using hx
    refine wpIn_seq (wpIn_block (wpIn_seq (nE mixed aG rfl (t:=tIx refs i) (r:=.inl x) (by simp [tIx,WT.run,hix,Go.Pv.brk]) (J:=λx f hp=>kZ hp f ((4,int i) :: (5,int x) :: kR s refs y i)/\hp=H2) (JR:=JN) (hJR:=nH) hs3 1000 D6 ?_ (λv S' s' a' e=>nomatch e))))
    rintro v S4 s4 a4 e4 ⟨hk4,h4⟩ hs4 hf4
    obtain rfl:x=v:=by injection e4
    obtain ⟨hs4,hf4⟩:=hs4.k0 hf4 hk4 h4
    refine wpIn_seq (nE mixed aG rfl (t:=aQP) (r:=.inl ()) rfl (J:=λ_ f hp=>∃ aN,kZ hp f ((6,.pt 777 aN 0 0) :: (4,int i) :: (5,int x) :: kR s refs y i)/\hp=upd H2 777 (some ⟨200,8,true,true,aN,[dH.av ⟨0,-1,0,0,0,0,0,0⟩]⟩)) (JR:=JN) (hJR:=nH) hs4 1000 D6 ?_ (λv S' s' a' e=>nomatch e))
    rintro _ S5 s5 a5 - ⟨aN,hk5,h5⟩ hs5 hf5
    obtain ⟨hs5,hf5⟩:=hs5.k0 hf5 hk5 h5
    refine wpIn_seq (nE mixed aG rfl (t:=QM s x) (r:=.inl (mQ s x)) (aS1 s x) (J:=λr f hp=>kZ hp f ((6,.pt 777 aN 0 0) :: (4,int i) :: (5,int x) :: kR s refs y i)/\hp=upd H2 777 (some ⟨200,8,true,true,aN,[dH.av r]⟩)) (JR:=JN) (hJR:=nH) hs5 1000 D6 ?_ (λv S' s' a' e=>nomatch e))
    rintro v S6 s6 a6 e6 ⟨hk6,h6⟩ hs6 hf6
    obtain rfl:mQ s x=v:=by injection e6
    obtain ⟨hs6,hf6⟩:=hs6.k0 hf6 hk6 h6
    generalize hr:mQ s x=r at *
    have hxs:(qM s refs)[i]?=some (int i,.agg (dH.av r)):=by
      rw [<- hr];simp [qM,List.getElem?_map,List.getElem?_zipIdx,hx]
    refine wpIn_seq (wpIn_region ?_)
    show wpOpsIn Fence.wide 0 Tryz.prog (List.toArray _) _ [0,1,2,3,4] a6 s6.w
    refine go_in hs6 rfl rfl rfl rfl rfl (mK rfl rfl) ?_
    intro s7 a7 hs7 hf7
    refine go_in hs7 rfl rfl rfl rfl rfl (mK rfl rfl) ?_
    intro s8 a8 hs8 hf8
    refine go_in hs8 rfl rfl rfl rfl rfl (fU (cs:=dH.av r) (v:=.agg (dH.av r)) rfl aXN rfl (.pt (row:=0) (o:=⟨200,8,true,true,aN,[dH.av r]⟩) rfl rfl rfl) rfl) ?_
    intro s9 a9 hs9 hf9
    have h7:=hJ7 i H2 hj
    have hf29:Fr s2 H2 s9 H2:=N8 ((((((hf3.trans hf4).trans hf5).trans hf6).trans hf7).trans hf8).trans hf9) (IA h7)
    have hs9':=(⟨hs9.size,hs9.defers,hs9.slot,TJ hs9.heap (IA h7)⟩:SR ⟨35,false,[]⟩ s9 ⟨_,H2⟩ a9)
    have hfs9:=hf2.trans hf29
    have hn9:=hn.fr hH hfs9
    subst hy
    refine aM0 (J':=J (i+1)) (K':=K) hs9' rfl rfl rfl rfl rfl rfl rfl rfl hn9 (λv u hv hu=>hY i (int i) (.agg (dH.av r)) hxs s9 H2 v u hj hs9'.heap hv hu hn9 hfs9) ?_ ?_
    · intro s10 pQ H10 hj10 hs10 hf10
      refine go_in hs10 rfl rfl rfl rfl rfl (MY (b:=true) (r:=false) rfl rfl rfl) ?_
      intro s11 oL hs11 hf11
      refine RS ?_
      refine wpIn_cond_false (nX (o:=.tmp 33) hs11 rfl).fF (wpIn_skip ?_)
      have hs11':=hs11.zR (kR s refs (.sc (.func (.yield lp) #[] #[])) i) H10 rfl (vY ⟨rfl,rfl,rfl,rfl,rfl,rfl,trivial⟩)
      refine nE mixed aG rfl (t:=tU) (r:=.inl ()) rfl (J:=λ_ f hp=>kZ hp f (kR s refs (.sc (.func (.yield lp) #[] #[])) (bA ((i:Int)+1)))/\hp=H10) (JR:=JN) (hJR:=nH) hs11' 1000 D6 ?_ (λv S' s' a' e=>nomatch e)
      rintro _ S12 s12 a12 - ⟨hk12,h12⟩ hs12 hf12
      obtain ⟨hs12,hf12⟩:=hs12.k0 hf12 hk12 h12
      have ew:bA ((i:Int)+1)=((i+1:Nat):Int):=(wrap64 (by omega)).trans (by omega)
      rw [ew] at hs12
      refine ⟨⟨i+1,s12,H10,hlt,rfl,hj10,hs12,((hfs9.trans hf10).trans hf11).trans hf12⟩,?_⟩
      obtain ⟨v,q1,q2⟩:=hs12.slot 9 (int ((i+1:Nat):Int)) rfl
      rw [hm2,q1,q2.fF]
      simp
      omega
    · intro s10 pQ H10 hk10 hs10 hn10 hf10
      refine go_in hs10 rfl rfl rfl rfl rfl (MY (b:=false) (r:=true) rfl rfl rfl) ?_
      intro s11 oL hs11 hf11
      refine RS ?_
      refine wpIn_cond_true (nX (o:=.tmp 33) hs11 rfl).fF (wpIn_ret ?_)
      have hn11:=hn10.fr hs10.heap hf11
      refine ⟨hs11.defers,.tuple #[],Q6 rfl,.inr ⟨s11,H10,.tuple #[],rfl,rfl,hk10,hs11.heap,hn11,?_⟩⟩
      refine OB (hfs9.trans hf10) (hn10.put hs10.heap _).1 (hn10.DJ rfl) (o1:=.loop (xB fn tmps p q assign body D)) ?_ hs11.heap hn11 hn.at'
      rw [LP,OA hn10];exact hf11
  · refine wpIn_exit ?_
    have hieq:i=refs.length:=by have:=of_decide_eq_false hc;omega
    subst hieq
    refine ⟨hs3.defers,.tuple #[],Q6 rfl,.inl ⟨s3,H2,.tuple #[],rfl,rfl,?_,hs3.heap,hf2.trans hf3⟩⟩
    have:(qM s refs).length=refs.length:=by simp [qM]
    rw [this];exact hj
end
theorem WN {s:aA} {refs:List Int}:PP Tryz.prog 143 [.agg (aA.av s),aH 1 fI refs] (λy=>y=.fn (.func 187) [] [.pp [aH 1 fI refs],.pp (aA.av s)]):=by
  refine rF (R0:=λy H=>Cv (l6 H) y (.fn (.func 187) [] [.pp [aH 1 fI refs],.pp (aA.av s)])) ?_ (λy H hc=>⟨_,rfl,.fn (by simp) (λx hx=>by
    simp only [List.mem_cons,List.not_mem_nil,or_false] at hx
    rcases hx with rfl | rfl
    · exact .pp λx hx=>by simp only [List.mem_singleton] at hx;subst hx;exact qL wC refs
    · exact .pp λx hx=>aA.dX s x hx),hc⟩)
  refine iI (c:=_) Tryz.func143 rfl rfl ?_;intro Q hret hnorm
  refine tc aG 2 (.mk ?_)
  refine sB 2 λv2=>?_
  refine sB 3 λv3=>?_
  refine tr aG 7 (.mk ?_)
  refine wR hret (rT .nil) ?_
  exact bT.fn .nil (.cons (Cv.pt (ob:=⟨22,1,false,true,v3,[[aH 1 fI refs]]⟩) rfl rfl rfl rfl (.cons (.refl _) .nil)) (.cons (Cv.pt (ob:=⟨33,10,false,true,v2,[aA.av s]⟩) rfl rfl rfl rfl (bT.refl _)) .nil))
section
noncomputable section
def tA:WT Tryz.prog (.s Unit (.b Unit)):=.al 1 <| .al 2 <| .al 3 <| .al 4 <| .brk ()
theorem YK:bC Tryz.prog 143=true:=by kernel_rfl
theorem IX:bC Tryz.prog 187=true:=by kernel_rfl
def tC (d:Nat) (s:aA) (o:bQ):WT Tryz.prog (.s Unit (.b Unit)):=.cl d (V:=λ_:Unit=>.fn (.func 187) [] [.pp [aH 1 fI o.dQ],.pp (aA.av s)]) (some ()) YK (λ_ _=>WN) λ_=>.brk ()
def JO (id:Nat):WT Tryz.prog (.s Unit (.b Unit)):=.al id <| .brk ()
def tD (s:aA) (o:bQ):WT Tryz.prog (.s dH (.b Unit)):=.dr [(0,[1]),(1,[1]),(2,[2]),(3,[2])] [(9,[])] [1,2] [8,9] [0,1,2,3,4,5,6,7,8,9] (.ix 43 fI o.dQ 0 λx11=>.ix 45 dH.av s.dG x11 λx12=>.al 7 <| .brk x12)
end
abbrev zSt:List AV:=[int 0,int 0,.sc (.slice none 0 0),.sc (.slice none 0 0),.sc (.slice none 0 0),.sc (.slice none 0 0),.sc (.slice none 0 0),.sc (.slice none 0 0),.sc (.slice none 0 0),int 0]
abbrev kB (v1 v2 v3 v4:Nat):List (Nat×AV):=[(2,.pt 1 v1 0 0),(3,.pt 2 v2 0 0),(4,.pt 3 v3 0 0),(5,.pt 4 v4 0 0)]
abbrev mB (s:aA) (o:bQ) (v1 v2 v3 v4:Nat):List (Nat×bH):=[(1,⟨33,10,true,true,v1,[aA.av s]⟩),(2,⟨36,9,true,true,v2,[bQ.av o]⟩),(3,⟨33,10,true,true,v3,[zSt]⟩),(4,⟨39,1,true,true,v4,[[int 0]]⟩)]
end
section
noncomputable section
def tW (s:aA) (b i:Int) (r:dH) (l:List Int):WT Tryz.prog (.s (List Int) (.b Unit)) :=
 .bB 20 (decide (b=0)) λx13 =>
 .ifs [20] x13 (.bo (ix l i) λx14 =>
 .gv 25<|
 .bl (l.set (Int.toNat i) r.aS) λx15 =>
 .ge 1006005 0<|
 .brk x15) (.bB 28 (decide (b=1)) λx16 =>
 .ifs [28] x16 (.bo (ix l i) λx17 =>
 .gv 33<|
 .bl (l.set (Int.toNat i) r.Value) λx18 =>
 .ge 1008005 0<|
 .brk x18) (.jn 1 [3,5,7,8,9] [1,2,3,4,7] [] (λ_ (a:Bool)=>[(34,aI a)]) (λ_ _=>[]) (.bB 36 (decide (b=2)) λx19 =>
 .ifs [36] x19 (.bB 40 (decide (r.Item>=0)) λx18=>.ifs [40] x18 (
 .ln 48 fI s.bF.bN<|
 .bB 49 (decide (r.Item<(s.bF.bN.length:Int))) λx20 =>
 .ret x20) (.ret false)) (.ret false))
  (λy1_1 =>
 .ifs [34] y1_1 (.dr [(0,[4]),(2,[7]),(3,[7]),(4,[1]),(5,[1]),(6,[1]),(7,[7]),(8,[7]),(12,[3])] [(13,[])] [1,2,3,4,7] [13] [0,1,2,3,4,5,6,7,8,9,10,11,12,13] (.ix 60 fI s.bF.bN r.Item λx21 =>
 .bI 62 (bA (r.aS*x21)) λx22 =>
 .bo (ix l i) λx23 =>
 .gv 63<|
 .bl (l.set (Int.toNat i) x22) λx24 =>
 .ge 1010013 0<|
 .brk x24)) (.brk l))))
end
abbrev kW (v1 v2 v4:Nat):List (Nat×AV):=[(3,.pt 1 v1 0 0),(5,.pt 2 v2 0 0),(7,.pt 4 v4 0 0)]
abbrev mW (s:aA) (b:Int) (l:List Int) (v1 v2 v3 v4:Nat):List (Nat×bH):=[(1,⟨33,10,true,true,v1,[aA.av s]⟩),(2,⟨3,1,true,true,v2,[[int b]]⟩),(3,⟨3,1,true,true,v3,l.map fI⟩),(4,⟨22,1,true,true,v4,[[.sl 3 v3 0 l.length]]⟩)]
noncomputable def JQ (s:aA) (b:Int):List Int->Nat->List Int->Option (List Int)
  | [],_,l=>some l
  | k :: ks,i,l=>(tW s b i (mQ s k) l).run.bind λr=>match r with
    | .inl l'=>JQ s b ks (i+1) l'
    | .inr _=>none
noncomputable def KP (s:aA) (refs:List Int) (b:Int):Option (List Int):=gZ (refs.length<=1048576) <| JQ s b refs 0 (List.replicate refs.length 0)
noncomputable section
def tW0:WT Tryz.prog (.s Unit (.b Unit)):=.al 1 <| .al 2 <| .brk ()
def UK (refs:List Int):WT Tryz.prog (.s (List Int) (.b Unit)):=.ln 11 fI refs <| .as ((0:Int)<=(refs.length:Int)/\((refs.length:Int):Int)<=1048576) inferInstance <| .bl (List.replicate (Int.toNat (refs.length:Int)) (0:Int):List Int) λx7=>.ge 12 0 <| .al 4 <| .brk x7
def tW2 (s:aA) (refs:List Int):WT Tryz.prog (.s Unit (.b Unit)):=.cl 15 (V:=λ_:Unit=>.fn (.func 187) [] [.pp [aH 1 fI refs],.pp (aA.av s)]) (some ()) YK (λ_ _=>WN) λ_=>.brk ()
def tW3 (l:List Int):WT Tryz.prog (.s Unit (.b (List Int))):=.esc (.ret l)
end
theorem KU {s:aA} {refs:List Int} {i:Nat} {x y:AV} (h:(qM s refs)[i]?=some (x,y)):∃ k,refs[i]?=some k/\x=int i/\y=.agg (dH.av (mQ s k)):=by
  unfold qM at h
  rw [List.getElem?_map] at h
  obtain ⟨⟨k,j⟩,h1,h2⟩:=Option.map_eq_some_iff.1 h
  rw [List.getElem?_zipIdx] at h1
  obtain ⟨k',h3,h4⟩:=Option.map_eq_some_iff.1 h1
  simp only [Prod.mk.injEq,Nat.zero_add] at h4 h2
  obtain ⟨rfl,rfl⟩:=h4
  exact ⟨_,h3,h2.1.symm,h2.2.symm⟩
theorem drop_at {refs:List Int} {i:Nat} {k:Int} (h:refs[i]?=some k):refs.drop i=k :: refs.drop (i+1):=by
  obtain ⟨hl,he⟩:=List.getElem?_eq_some_iff.1 h
  rw [List.drop_eq_getElem_cons hl,he]
theorem aI3 {s:aA} {refs:List Int} {b:Int}:PZ (KP s refs b) 144 [.agg (aA.av s),aH 1 fI refs,int b] (λr=>aH 1 fI r):=by
  intro r h0
  unfold KP at h0
  obtain ⟨hfit,h0⟩:=jQ h0
  have h1:(UK refs).run=some (.inl (List.replicate refs.length 0)):=by
    simp only [UK,WT.run,bnd,gZ,Go.Pv.brk]
    rw [if_pos (by omega),Int.toNat_natCast]
  refine rF (R0:=λy H=>Cv (l6 H) y (aH 1 fI r)) ?_ (λy H hc=>⟨_,rfl,qL wC r,hc⟩)
  refine aG8 (c:=_) Tryz.func144 rfl rfl ?_
  intro s0 q0 hs0
  refine wpIn_seq (nE mixed aG rfl (t:=tW0) (r:=.inl ()) rfl (J:=λ_ f hp=>kZ hp f [(1,aH 1 fI refs),(3,.pt 1 (vr hp 1) 0 0),(5,.pt 2 (vr hp 2) 0 0)]/\oK hp [(1,⟨33,10,true,true,vr hp 1,[aA.av s]⟩),(2,⟨3,1,true,true,vr hp 2,[[int b]]⟩)]) (JR:=JN) (hJR:=nH) hs0 1000 au ?_ (λv S' s' a' e=>nomatch e))
  rintro _ S1 s1 q1-hj hs1 hf1
  obtain ⟨hs1,hf1⟩:=hs1.yB hf1 (jX hj.1 hj.2)
  generalize vr S1.hp 1=v1 at hs1 hf1
  generalize vr S1.hp 2=v2 at hs1 hf1
  clear hj
  refine wpIn_seq (nE mixed aG rfl (t:=UK refs) h1 (J:=λl f hp=>kZ hp f ((1,aH 1 fI refs) :: kW v1 v2 (vr hp 4))/\oK hp (mW s b l v1 v2 (vr hp 3) (vr hp 4))) (JR:=JN) (hJR:=nH) hs1 1000 ?_ ?_ (λv S' s' a' e=>nomatch e))
  · conv=>whnf
    refine .mk ?_
    refine .mk λp6=>?_
    refine .mk λx7 e7=>?_
    have lx7:x7.length=Int.toNat (refs.length:Int):=by rw [<- e7];exact List.length_replicate
    refine .mk _ ⟨λ_=>pO 3 (g:=fI) (z0:=(0:Int)) .any rfl Tryz.underlying22 iH lT rfl rfl rfl p6 (.cons (.sc _) .nil) e7,λ_ _ _=>trivial⟩ ?_
    rintro _ _ ⟨v8,-,rfl,rfl⟩
    intro v9
    exact EJ.mk aJ aV
  rintro l0 S2 s2 q2 el hj hs2 hf2
  obtain rfl:List.replicate refs.length 0=l0:=by injection el
  obtain ⟨hs2,hf2⟩:=hs2.yB (hf1.trans hf2) (jX hj.1 hj.2)
  generalize vr S2.hp 3=v3 at hs2 hf2
  generalize vr S2.hp 4=v4 at hs2 hf2
  clear hj el
  generalize hl0:List.replicate refs.length (0:Int)=l0 at *
  refine wpIn_seq (wpIn_seq (nE mixed aG rfl (t:=tW2 s refs) (r:=.inl ()) rfl (J:=PJ (λ_=>(15,.fn (.func 187) [] [.pp [aH 1 fI refs],.pp (aA.av s)]) :: kW v1 v2 v4) (λ_=>mW s b l0 v1 v2 v3 v4)) (JR:=JN) (hJR:=nH) hs2 1000 au ?_ (λv S' s' a' e=>nomatch e)))
  rintro _ S3 s3 q3-hj hs3 hf3
  obtain ⟨hs3,hf3⟩:=hs3.pj (hf2.trans hf3) hj
  clear hj
  refine wpIn_block (K3 (n:=⟨65,false,[]⟩) (ds:=[]) rfl hs3 rfl IX (KZ s refs (by omega)) (λi H=>∃ l,H=Go.Pv.hk (mW s b l v1 v2 v3 v4)/\JQ s b (refs.drop i) i l=some r) (λ_=>False) ⟨l0,rfl,h0⟩ (by rintro i H ⟨l,rfl,-⟩;rfl) (λ_ h=>h.elim) (by decide) (by decide) ?_ ?_)
  · rintro i x y H hx ⟨l,rfl,hF⟩
    obtain ⟨k',hk',rfl,rfl⟩:=KU hx
    rw [drop_at hk'] at hF
    obtain ⟨z,hz,hF⟩:=dJ hF
    cases z with
    | inr _=>cases hF
    | inl l' =>
    generalize mQ s k'=rr at hz
    refine BS mixed aG (t:=JO 7) (r:=.inl ()) rfl (J:=λ_ f' hp=>kZ hp f' ((8,int i) :: (9,.pt 7 (vr hp 7) 0 0) :: kW v1 v2 v4)/\oK hp ((7,⟨200,8,true,true,vr hp 7,[dH.av rr]⟩) :: mW s b l v1 v2 v3 v4)) (JR:=JN) (hJR:=nH) 1000 au (λ_ S1 _ hj=>⟨rfl,EU (jX hj.1 hj.2) ?_⟩) (λv S' e=>nomatch e)
    generalize vr S1.hp 7=v7
    refine Tr.BJ (Q':=λe S'=>e=.normal/\PJ (λ_:List Int=>[]) (λl=>mW s b l v1 v2 v3 v4) l' S'.sl S'.hp) (BS mixed aG (t:=tW s b i rr l) hz (J:=PJ (λ_=>[]) (λl=>mW s b l v1 v2 v3 v4)) (JR:=JN) (hJR:=nH) 1000 au (λv S' e hj=>by cases e;exact ⟨rfl,hj⟩) (λv S' e=>nomatch e)) ?_
    rintro e S' ⟨rfl,hj⟩
    exact ⟨⟨kn [],Go.Pv.hk (mW s b l' v1 v2 v3 v4)⟩,jX hj.1 hj.2,.inl ⟨rfl,l',rfl,hF⟩⟩
  rintro e' D s4 H4 hj hs4 hf4 hD4 hn4
  obtain ⟨rfl,l,rfl,hF⟩:e'=.normal/\∃ l,H4=Go.Pv.hk (mW s b l v1 v2 v3 v4)/\JQ s b (refs.drop (qM s refs).length) (qM s refs).length l=some r:=by
    rcases hj with h | h
    · exact h
    · exact h.2.elim
  have hlen:(qM s refs).length=refs.length:=by simp [qM]
  rw [hlen,List.drop_length] at hF
  obtain rfl:l=r:=Option.some.inj hF
  clear hj
  have hf4':=hf3.trans hf4
  refine nE mixed aG (n:=⟨65,false,[mk D]⟩) rfl (t:=tW3 l) (r:=.inr l) rfl (J:=PJ (λ_:Unit=>[]) (λ_=>[])) (JR:=JF tb Tryz.f144.results.toList (λr:List Int=>aH 1 fI r)) (hJR:=yI) hs4 1000 au (λv S' s' a' e=>nomatch e) ?_
  rintro x S8 s8 q8 ex hj hs8 hf8
  obtain rfl:l=x:=by injection ex
  obtain ⟨ws,us,g1,g2,g3⟩:=zQ aG hj
  cases g1 with
  | mk g1 a =>
    refine ⟨rfl,S8,s8,[D],us,S8.hp,rfl,hs8,hf4'.trans hf8,?_,by simp,?_,g3 a,λ_ _ h=>h,g1⟩
    · intro x hx
      simp only [List.mem_singleton] at hx
      subst hx
      have:=hf3.size;omega
    · intro x hx
      simp only [List.mem_singleton] at hx
      subst hx
      exact hn4.fr hs4.heap hf8
end
def AA (s:aA) (refs:List Int):Bool:=refs.all λk=>!decide ((mQ s k).Item<0)
def AO (s:aA) (refs:List Int) (f:dH):Bool:=refs.all λk=>!decide ((mQ s k).fG≠f.fG)
def E8 {A R:Type} (f:A->Option R):A⊕R->Option R
  | .inl a=>f a
  | .inr r=>some r
theorem aV2:bC Tryz.prog 144=true:=by kernel_rfl
theorem aXI:bC Tryz.prog 101=true:=by kernel_rfl
theorem aS7:bC Tryz.prog 145=true:=by kernel_rfl
theorem UN:bC Tryz.prog 146=true:=by kernel_rfl
theorem aLU:bC Tryz.prog 50=true:=by kernel_rfl
section
noncomputable section
def tB' (s:aA) (o:bQ):WT Tryz.prog (.s Unit (.b (aA×Int))) :=
 .jn 0 [2,3,4,5] [1,2,3,4] [] (λ_ (a:Bool)=>[(27,aI a)]) (λ_ _=>[]) (.bB 21 (decide (o.Kind≠11)) λx7 =>
 .ifs [21] x7 (.ret true) (.ln 25 fI o.dQ<|
 .bB 26 (decide ((o.dQ.length:Int)=0)) λx8 =>
 .ret x8))
  (λy =>
 .ifs [27] y (.esc (.ret (s,1))) (.brk ()))
def JS (s:aA) (r:dH):WT Tryz.prog (.s Unit (.b (aA×Int))):=.bB 37 (decide (r.Item<0)) λx=>.ifs [37] x (.esc (.ret (s,4))) (.brk ())
def KB (s:aA) (r f:dH):WT Tryz.prog (.s Unit (.b (aA×Int))):=.bB 57 (decide (r.fG≠f.fG)) λx=>.ifs [57] x (.esc (.ret (s,1))) (.brk ())
def YE (s:aA) (f:dH):WT Tryz.prog (.s Unit (.b (aA×Int))):=.cl 64 (nW s f.fG f.Item) pE pG λx16=>.bB 66 (decide (x16≠0)) λx17=>.ifs [66] x17 (.esc (.ret (s,x16))) (.brk ())
def tG (n:Nat) (s:aA) (o:bQ):WT Tryz.prog (.s (List Int×Int) (.b Unit)):=.dg [(0,[2]),(1,[2]),(2,[1]),(3,[2]),(4,[2]),(5,[2]),(6,[2]),(14,[12]),(15,[13])] [(12,12),(13,13),(14,12),(15,13)] (.cl 77 (KP s o.dQ o.To) aV2 aI3 λx18=>.cl 78 (DZ n o.bO x18) aXI (λ_=>U8) λx19=>.al 12 <| .al 13 <| .brk x19)
def tH (s:aA) (e:Int):WT Tryz.prog (.s Unit (.b (aA×Int))):=.bB 82 (decide (e≠0)) λx=>.ifs [82] x (.dr [(0,[1]),(1,[13])] [(2,[13]),(3,[])] [1,13] [2,3] [0,1,2,3] (.esc (.ret (s,e)))) (.brk ())
def tI:WT Tryz.prog (.s Unit (.b Unit)):=.al 14 <| .al 15 <| .brk ()
def t3 (n:Nat) (s t:aA) (r:dH) (sh:List Int) (i a:Int):WT Tryz.prog (.s (aA×Int×Int) (.b (aA×Int))) :=
 .dr [(0,[14]),(1,[18]),(2,[12])] [(11,[]),(13,[])] [12,14,18] [11,13] [0,1,2,3,4,5,6,7,8,9,10,11,12,13] (.ix 97 fI sh i λq =>
 .cl 99 (YX n t r q) aS7 aOA λx =>
 .bB 104 (decide (x.2.2≠0)) λx33 =>
 .ifs [104] x33 (.dr [(0,[1]),(1,[13])] [(2,[13]),(3,[])] [1,13] [2,3] [0,1,2,3] (.esc (.ret (s,x.2.2)))) (.bI 109 (bA (a+x.2.1)) λx34 =>
 .brk (x.1,x34,x.2.2)))
def tL (n:Nat) (s:aA) (o:bQ) (f:dH) (t:aA) (a:Int):WT Tryz.prog (.s Unit (.b (aA×Int))) :=
 .dr [(0,[14]),(1,[7]),(2,[7]),(3,[15]),(5,[2]),(6,[2]),(7,[15]),(10,[2]),(11,[2])] [(19,[]),(20,[])] [2,7,14,15] [19,20] [0,1,2,3,4,5,6,7,8,9,10,11,12,13,14,15,16,17,18,19,20] (.cl 115 (J4 0 a) UN TH λx35 =>
 .bI 119 (bA (o.bO-a)) λx36 =>
 .cl 120 (J4 9 x36) UN TH λx37 =>
 .bI 123 (bA (0-o.bO)) λx38 =>
 .cl 124 (J4 2 x38) UN TH λx39 =>
 .to 125 (aH 2 aQ.av ([x35,x37,x39]:List aQ))<|
 .cl 126 (nP n t f.fG ([x35,x37,x39]:List aQ)) aLU tY λx40 =>
 .bB 130 (decide (x40.2≠0)) λx41 =>
 .ifs [130] x41 (.dr [(0,[1]),(1,[13])] [(2,[13]),(3,[])] [1,13] [2,3] [0,1,2,3] (.esc (.ret (s,x40.2)))) (.esc (.ret (x40.1,0))))
def KO (n:Nat) (s:aA) (sh:List Int):List Int->Nat->aA->Int->Option ((aA×Int)⊕(aA×Int))
  | [],_,t,a=>some (.inl (t,a))
  | k :: ks,i,t,a=>(t3 n s t (mQ s k) sh i a).run.bind λz=>match z with
    | .inl p=>KO n s sh ks (i+1) p.1 p.2.1
    | .inr r=>some (.inr r)
def UR (n:Nat) (s:aA) (o:bQ):Option (aA×Int) :=
  (tB' s o).run.bind <| E8 (λ_=>gZ (o.dQ.length<=1048576) <| bif AA s o.dQ then (ix o.dQ 0).bind λk=>(ix s.dG k).bind λf=>bif AO s o.dQ f then
    (YE s f).run.bind <| E8 λ_=>(KP s o.dQ o.To).bind λw=>(DZ n o.bO w).bind λsh=>(tH s sh.2).run.bind <| E8 λ_ =>
      (KO n s sh.1 o.dQ 0 s 0).bind <| E8 λp=>(tL n s o f p.1 p.2).run.bind <| E8 λ_=>none
    else some (s,1) else some (s,4))
end
abbrev VG {A:Type} (M:A->List (Nat×bH)) (r:A) (f:FS) (hp:AH) (vs:List (Nat×Nat)):Prop:=EJ vs (PJ (λ_=>[]) M r f hp)
theorem aTK {A:Type} {M:A->List (Nat×bH)} {a:A} {f:FS} {hp:AH} {vs:List (Nat×Nat)} (h:VG M a f hp vs):cB vs/\VG M a f hp []:=by
  cases h with
  | mk h a=>exact ⟨a,.mk h trivial⟩
theorem E9 {P:Program} {tb:gT} (hm:P.follows .mixedOrders=true) (ht:dW P tb) {n:NT} {A B:Type} {M:A->List (Nat×bH)} {MR:B->List (Nat×bH)} {t:WT P (.s A (.b B))} {z:A⊕B} (hz:t.run=some z) {c:Code} {f:FS} {hp:AH} {JJ KK:AH->Prop} (m:Nat)
    (h:WP P tb m n t (.dU (PJ (λ_=>[]) M) (.fn (VG MR) aTK)) (.c [c]) f hp []) (h1:∀ v,z=.inl v->JJ (hk (M v))) (h2:∀ v,z=.inr v->KK (hk (MR v))):Tr P n c ⟨f,hp⟩ (λe S2=>(e=.normal/\JJ S2.hp)\/(e=.ret/\KK S2.hp)):=by
  refine Tr.BJ (Q':=λe S'=>(∃ v,z=.inl v/\e=.normal/\PJ (λ_=>[]) M v S'.sl S'.hp)\/∃ v,z=.inr v/\e=.ret/\PJ (λ_=>[]) MR v S'.sl S'.hp) (BS hm ht hz m h (λv S' e hj=>.inl ⟨v,e,rfl,hj⟩) (λv S' e hj=>by
    cases hj with
    | mk hj a=>exact .inr ⟨v,e,rfl,hj⟩)) ?_
  rintro e S' (⟨v,hv,rfl,hj⟩ | ⟨v,hv,rfl,hj⟩)
  · exact ⟨⟨kn [],hk (M v)⟩,jX hj.1 hj.2,.inl ⟨rfl,h1 v hv⟩⟩
  · exact ⟨⟨kn [],hk (MR v)⟩,jX hj.1 hj.2,.inr ⟨rfl,h2 v hv⟩⟩
structure pM (s0 s':Sit) (Ds:List Nat):Prop where
  le:∀ D∈Ds,s0.w.heap.size<=D
  nd:Ds.Nodup
  nc:∀ D∈Ds,iG s' D (.deferred (some []))
theorem pM.nil {s0 s':Sit}:pM s0 s' []:=⟨(λ_ h=>by cases h),List.nodup_nil,(λ_ h=>by cases h)⟩
theorem pM.fr {s0 s s':Sit} {H H':AH} {Ds:List Nat} (h:pM s0 s Ds) (hH:HR s H) (hf:Fr s H s' H'):pM s0 s' Ds:=⟨h.le,h.nd,λD hD=>(h.nc D hD).fr hH hf⟩
theorem pM.cons {s0 s s':Sit} {H H':AH} {Ds:List Nat} {D:Nat} (h:pM s0 s Ds) (hH:HR s H) (hf:Fr s H s' H') (h0:s0.w.heap.size<=s.w.heap.size) (hD:s.w.heap.size<=D) (hn:iG s' D (.deferred (some []))):pM s0 s' (D :: Ds):=by
  refine ⟨λx hx=>?_,List.nodup_cons.2 ⟨λhm=>?_,h.nd⟩,λx hx=>?_⟩
  · rcases List.mem_cons.1 hx with rfl | hx
    · omega
    · exact h.le x hx
  · have:=(h.nc D hm).lt;omega
  · rcases List.mem_cons.1 hx with rfl | hx
    · exact hn
    · exact (h.nc x hx).fr hH hf
abbrev xP (r:aA×Int):AV:=.bD [.agg (aA.av r.1),int r.2]
def QN (s0:Sit) (r:aA×Int) (e:Go.Exit) (a':Act) (w':World):Prop:=e=.ret/\∃ (S':AS) (s':Sit) (Ds:List Nat) (vs:List AV) (H2:AH),w'=s'.w/\SR ⟨134,false,Ds.map mk⟩ s' S' a'/\Fr s0 H0 s' S'.hp/\(∀ D∈Ds,s0.w.heap.size<=D)/\Ds.Nodup /\
  (∀ D∈Ds,iG s' D (.deferred (some [])))/\mO Tryz.prog S' Tryz.f91.results.toList vs/\(∀ t v,H2 t=some v->S'.hp t=some v)/\Cv (l6 H2) (o9 vs) (xP r)
theorem LF {s0 s':Sit} {S':AS} {a':Act} {r:aA×Int} (Ds:List Nat) (hj:JF tb Tryz.f91.results.toList xP r S'.sl S'.hp []) (hs':SR ⟨134,false,Ds.map mk⟩ s' S' a') (hf:Fr s0 H0 s' S'.hp) (hd:pM s0 s' Ds):QN s0 r .ret a' s'.w:=by
  obtain ⟨ws,us,g1,g2,g3⟩:=zQ aG hj
  cases g1 with
  | mk g1 a=>exact ⟨rfl,S',s',Ds,us,S'.hp,rfl,hs',hf,hd.le,hd.nd,hd.nc,g3 a,λ_ _ h=>h,g1⟩
abbrev mR (v3 v4:Nat) (r:aA×Int):List (Nat×bH):=[(3,⟨33,10,true,true,v3,[aA.av r.1]⟩),(4,⟨39,1,true,true,v4,[[int r.2]]⟩)]
theorem R9 {s0 s':Sit} {f:FS} {a':Act} {r:aA×Int} {v3 v4:Nat} (Ds:List Nat) (hs':SR ⟨134,false,Ds.map mk⟩ s' ⟨f,hk (mR v3 v4 r)⟩ a') (h4:f 4=some (.pt 3 v3 0 0)) (h5:f 5=some (.pt 4 v4 0 0)) (hf:Fr s0 H0 s' (hk (mR v3 v4 r))) (hd:pM s0 s' Ds):QN s0 r .ret a' s'.w :=
  ⟨rfl,_,s',Ds,[.agg (aA.av r.1),int r.2],_,rfl,hs',hf,hd.le,hd.nd,hd.nc,rC oP (rC aPJ .nil h5) h4,λ_ _ h=>h,.refl _⟩
abbrev k7 (v1 v2 v3 v4 v7:Nat):List (Nat×AV):=(8,.pt 7 v7 0 0) :: kB v1 v2 v3 v4
abbrev m7 (s:aA) (o:bQ) (f:dH) (v1 v2 v3 v4 v7:Nat):List (Nat×bH):=(7,⟨200,8,true,true,v7,[dH.av f]⟩) :: mB s o v1 v2 v3 v4
abbrev k13 (v1 v2 v3 v4 v7 v12 v13:Nat):List (Nat×AV):=(12,.pt 12 v12 0 0) :: (13,.pt 13 v13 0 0) :: k7 v1 v2 v3 v4 v7
abbrev m13 (s:aA) (o:bQ) (f:dH) (sh:List Int) (e:Int) (v1 v2 v3 v4 v7 v12 v13:Nat):List (Nat×bH):=(12,⟨22,1,true,true,v12,[[aH 1 fI sh]]⟩) :: (13,⟨39,1,true,true,v13,[[int e]]⟩) :: m7 s o f v1 v2 v3 v4 v7
abbrev k15 (v1 v2 v3 v4 v7 v12 v13 v14 v15:Nat):List (Nat×AV):=(14,.pt 14 v14 0 0) :: (15,.pt 15 v15 0 0) :: k13 v1 v2 v3 v4 v7 v12 v13
abbrev m15 (s:aA) (o:bQ) (f:dH) (sh:List Int) (e:Int) (t:aA) (a:Int) (v1 v2 v3 v4 v7 v12 v13 v14 v15:Nat):List (Nat×bH):=(14,⟨33,10,true,true,v14,[aA.av t]⟩) :: (15,⟨3,1,true,true,v15,[[int a]]⟩) :: m13 s o f sh e v1 v2 v3 v4 v7 v12 v13
theorem aX6 {s:aA} {refs:List Int} {i:Nat} {k:Int} (h:refs[i]?=some k) (hn:(mQ s k).Item<0):AA s refs=false:=by
  cases hv:AA s refs with
  | false=>rfl
  | true=>have:=List.all_eq_true.1 hv k (List.mem_of_getElem? h);simp [hn] at this
theorem aMS {s:aA} {refs:List Int} {f:dH} {i:Nat} {k:Int} (h:refs[i]?=some k) (hn:(mQ s k).fG≠f.fG):AO s refs f=false:=by
  cases hv:AO s refs f with
  | false=>rfl
  | true=>have:=List.all_eq_true.1 hv k (List.mem_of_getElem? h);simp [hn] at this
theorem aSY {n:Nat} {s:aA} {o:bQ}:PZ (UR n s o) 91 [.agg (aA.av s),.agg (bQ.av o)] (λr=>.bD [.agg (aA.av r.1),int r.2]):=by
  intro r h0
  unfold UR at h0
  refine rF (R0:=λy H=>Cv (l6 H) y (xP r)) ?_ (λy H hc=>⟨_,rfl,(RG:∀ r:aA×Int,PV (xP r)) r,hc⟩)
  refine aG8 (c:=_) Tryz.func91 rfl rfl ?_
  intro s0 q0 hs0
  refine wpIn_mono (Q:=QN s0 r) ?_ (λe a w h=>h)
  refine wpIn_seq (nE mixed aG rfl (t:=tA) (r:=.inl ()) rfl (J:=λ_ f hp=>kZ hp f (kB (vr hp 1) (vr hp 2) (vr hp 3) (vr hp 4))/\oK hp (mB s o (vr hp 1) (vr hp 2) (vr hp 3) (vr hp 4))) (JR:=JN) (hJR:=nH) hs0 1000 au ?_ (λv S' s' a' e=>nomatch e))
  rintro _ S1 s1 q1-hj hs1 hf1
  obtain ⟨hs1,hf1⟩:=hs1.yB hf1 (jX hj.1 hj.2)
  generalize vr S1.hp 1=v1 at hs1 hf1
  generalize vr S1.hp 2=v2 at hs1 hf1
  generalize vr S1.hp 3=v3 at hs1 hf1
  generalize vr S1.hp 4=v4 at hs1 hf1
  clear hj
  obtain ⟨z,hz,h0⟩:=dJ h0
  refine wpIn_seq (nE mixed aG rfl (t:=tB' s o) hz (J:=PJ (λ_=>kB v1 v2 v3 v4) (λ_=>mB s o v1 v2 v3 v4)) (JR:=JF tb Tryz.f91.results.toList xP) (hJR:=yI) hs1 1000 au ?_ ?_)
  rotate_left
  · rintro x S' s' a' rfl hj hs' hf'
    obtain rfl:x=r:=Option.some.inj h0
    exact LF [] hj hs' (hf1.trans hf') .nil
  rintro _ S2 s2 q2 rfl hj hs2 hf2
  obtain ⟨hs2,hf2⟩:=hs2.pj (hf1.trans hf2) hj
  clear hj hz
  obtain ⟨hfit,h0⟩:=jQ h0
  refine wpIn_seq (wpIn_seq (nE mixed aG rfl (t:=tC 32 s o) (r:=.inl ()) rfl (J:=PJ (λ_=>(32,.fn (.func 187) [] [.pp [aH 1 fI o.dQ],.pp (aA.av s)]) :: kB v1 v2 v3 v4) (λ_=>mB s o v1 v2 v3 v4)) (JR:=JN) (hJR:=nH) hs2 1000 au ?_ (λv S' s' a' e=>nomatch e)))
  rintro _ S3 s3 q3-hj hs3 hf3
  obtain ⟨hs3,hf3⟩:=hs3.pj (hf2.trans hf3) hj
  clear hj
  refine wpIn_block (K3 (n:=⟨134,false,[]⟩) (ds:=[]) rfl hs3 rfl IX (KZ s o.dQ (by omega)) (λi H=>H=hk (mB s o v1 v2 v3 v4)/\∀ j k,j<i->o.dQ[j]?=some k->¬ (mQ s k).Item<0) (λH=>H=hk (mR v3 v4 (s,4))/\AA s o.dQ=false) ⟨rfl,λj k h=>absurd h (Nat.not_lt_zero _)⟩ (by rintro i H ⟨rfl,-⟩;rfl) (by rintro H ⟨rfl,-⟩;rfl) (by decide) (by decide) ?_ ?_)
  · rintro i x y H hx ⟨rfl,hall⟩
    obtain ⟨k',hk',rfl,rfl⟩:=KU hx
    generalize hrr:mQ s k'=rr
    refine BS mixed aG (t:=JO 8) (r:=.inl ()) rfl (J:=λ_ f hp=>kZ hp f ((7,.pt 8 (vr hp 8) 0 0) :: kB v1 v2 v3 v4)/\oK hp ((8,⟨200,8,true,true,vr hp 8,[dH.av rr]⟩) :: mB s o v1 v2 v3 v4)) (JR:=JN) (hJR:=nH) 1000 au (λ_ S1 _ hj=>⟨rfl,EU (jX hj.1 hj.2) ?_⟩) (λv S' e=>nomatch e)
    generalize vr S1.hp 8=v5
    by_cases hi:rr.Item<0
    · refine E9 mixed aG (JJ:=λH=>H=hk (mB s o v1 v2 v3 v4)/\∀ j k,j<i+1->o.dQ[j]?=some k->¬ (mQ s k).Item<0) (KK:=λH=>H=hk (mR v3 v4 (s,4))/\AA s o.dQ=false) (z:=.inr (s,4)) (t:=JS s rr) (M:=λ_=>mB s o v1 v2 v3 v4) (MR:=mR v3 v4) (by simp [JS,WT.run,bnd,hi,Go.Pv.esc]) 1000 au (λv e=>nomatch e) (λv e=>by cases e;exact ⟨rfl,aX6 hk' (hrr ▸ hi)⟩)
    · refine E9 mixed aG (JJ:=λH=>H=hk (mB s o v1 v2 v3 v4)/\∀ j k,j<i+1->o.dQ[j]?=some k->¬ (mQ s k).Item<0) (KK:=λH=>H=hk (mR v3 v4 (s,4))/\AA s o.dQ=false) (z:=.inl ()) (t:=JS s rr) (M:=λ_=>mB s o v1 v2 v3 v4) (MR:=mR v3 v4) (by simp [JS,WT.run,bnd,hi,Go.Pv.brk]) 1000 au (λv e=>⟨rfl,λj k hj hk=>by
        rcases Nat.lt_succ_iff_lt_or_eq.1 hj with hj | rfl
        · exact hall j k hj hk
        · rw [hk'] at hk;cases hk;exact hrr ▸ hi⟩) (λv e=>nomatch e)
  rintro e' D s4 H4 hj hs4 hf4 hD4 hn4
  have hd4:pM s0 s4 [D]:=pM.cons .nil hs3.heap hf4 hf3.size hD4 hn4
  have hf4:=hf3.trans hf4
  have hlen:(qM s o.dQ).length=o.dQ.length:=by simp [qM]
  rcases hj with ⟨rfl,rfl,hall⟩ | ⟨rfl,rfl,hbad⟩
  rotate_left
  · rw [hbad] at h0
    obtain rfl:(s,4)=r:=Option.some.inj h0
    exact R9 [D] hs4 rfl rfl hf4 hd4
  have hV:AA s o.dQ=true:=by
    refine List.all_eq_true.2 λk hk=>?_
    obtain ⟨j,hj⟩:=List.getElem?_of_mem hk
    have:=hall j k (by rw [hlen];exact (List.getElem?_eq_some_iff.1 hj).1) hj
    simp [this]
  rw [hV] at h0
  obtain ⟨k,hkk,h0⟩:=dJ h0
  obtain ⟨f,hff,h0⟩:=dJ h0
  have hD:(tD s o).run=some (.inl f):=by simp [tD,WT.run,hkk,hff,Go.Pv.brk]
  refine wpIn_seq (nE mixed aG (n:=⟨134,false,[mk D]⟩) rfl (t:=tD s o) (r:=.inl f) hD (J:=λx f' hp=>kZ hp f' ((8,.pt 7 (vr hp 7) 0 0) :: kB v1 v2 v3 v4)/\oK hp ((7,⟨200,8,true,true,vr hp 7,[dH.av x]⟩) :: mB s o v1 v2 v3 v4)) (JR:=JN) (hJR:=nH) hs4 1000 au ?_ (λv S' s' a' e=>nomatch e))
  rintro x S5 s5 q5 ex hj hs5 hf5
  obtain rfl:f=x:=by injection ex
  have hd5:=hd4.fr hs4.heap hf5
  obtain ⟨hs5,hf5⟩:=hs5.yB (hf4.trans hf5) (jX hj.1 hj.2)
  generalize vr S5.hp 7=v7 at hs5 hf5
  clear hj
  refine wpIn_seq (wpIn_seq (nE mixed aG (n:=⟨134,false,[mk D]⟩) rfl (t:=tC 50 s o) (r:=.inl ()) rfl (J:=PJ (λ_=>(50,.fn (.func 187) [] [.pp [aH 1 fI o.dQ],.pp (aA.av s)]) :: k7 v1 v2 v3 v4 v7) (λ_=>m7 s o f v1 v2 v3 v4 v7)) (JR:=JN) (hJR:=nH) hs5 1000 au ?_ (λv S' s' a' e=>nomatch e)))
  rintro _ S6 s6 q6-hj hs6 hf6
  have hd6:=hd5.fr hs5.heap hf6
  obtain ⟨hs6,hf6⟩:=hs6.pj (hf5.trans hf6) hj
  clear hj
  refine wpIn_block (K3 (n:=⟨134,false,[]⟩) (ds:=[mk D]) rfl hs6 rfl IX (KZ s o.dQ (by omega)) (λi H=>H=hk (m7 s o f v1 v2 v3 v4 v7)/\∀ j k,j<i->o.dQ[j]?=some k->¬ (mQ s k).fG≠f.fG) (λH=>H=hk (mR v3 v4 (s,1))/\AO s o.dQ f=false) ⟨rfl,λj k h=>absurd h (Nat.not_lt_zero _)⟩ (by rintro i H ⟨rfl,-⟩;rfl) (by rintro H ⟨rfl,-⟩;rfl) (by decide) (by decide) ?_ ?_)
  · rintro i x y H hx ⟨rfl,hall⟩
    obtain ⟨k',hk',rfl,rfl⟩:=KU hx
    generalize hrr:mQ s k'=rr
    refine BS mixed aG (t:=JO 8) (r:=.inl ()) rfl (J:=λ_ f' hp=>kZ hp f' ((10,.pt 8 (vr hp 8) 0 0) :: k7 v1 v2 v3 v4 v7)/\oK hp ((8,⟨200,8,true,true,vr hp 8,[dH.av rr]⟩) :: m7 s o f v1 v2 v3 v4 v7)) (JR:=JN) (hJR:=nH) 1000 au (λ_ S1 _ hj=>⟨rfl,EU (jX hj.1 hj.2) ?_⟩) (λv S' e=>nomatch e)
    generalize vr S1.hp 8=v5
    by_cases hi:rr.fG≠f.fG
    · refine E9 mixed aG (JJ:=λH=>H=hk (m7 s o f v1 v2 v3 v4 v7)/\∀ j k,j<i+1->o.dQ[j]?=some k->¬ (mQ s k).fG≠f.fG) (KK:=λH=>H=hk (mR v3 v4 (s,1))/\AO s o.dQ f=false) (z:=.inr (s,1)) (t:=KB s rr f) (M:=λ_=>m7 s o f v1 v2 v3 v4 v7) (MR:=mR v3 v4) (by simp [KB,WT.run,bnd,hi,Go.Pv.esc]) 1000 au (λv e=>nomatch e) (λv e=>by cases e;exact ⟨rfl,aMS hk' (hrr ▸ hi)⟩)
    · refine E9 mixed aG (JJ:=λH=>H=hk (m7 s o f v1 v2 v3 v4 v7)/\∀ j k,j<i+1->o.dQ[j]?=some k->¬ (mQ s k).fG≠f.fG) (KK:=λH=>H=hk (mR v3 v4 (s,1))/\AO s o.dQ f=false) (z:=.inl ()) (t:=KB s rr f) (M:=λ_=>m7 s o f v1 v2 v3 v4 v7) (MR:=mR v3 v4) (by
        have hi:=Classical.not_not.1 hi
        simp [KB,WT.run,bnd,hi,Go.Pv.brk]) 1000 au (λv e=>⟨rfl,λj k hj hk=>by
        rcases Nat.lt_succ_iff_lt_or_eq.1 hj with hj | rfl
        · exact hall j k hj hk
        · rw [hk'] at hk;cases hk;exact hrr ▸ hi⟩) (λv e=>nomatch e)
  rintro e' D2 s7 H7 hj hs7 hf7 hD7 hn7
  have hd7:pM s0 s7 [D2,D]:=pM.cons hd6 hs6.heap hf7 hf6.size hD7 hn7
  have hf7:=hf6.trans hf7
  rcases hj with ⟨rfl,rfl,hall2⟩ | ⟨rfl,rfl,hbad⟩
  rotate_left
  · rw [hbad] at h0
    obtain rfl:(s,1)=r:=Option.some.inj h0
    exact R9 [D2,D] hs7 rfl rfl hf7 hd7
  have hE:AO s o.dQ f=true:=by
    refine List.all_eq_true.2 λk hk=>?_
    obtain ⟨j,hj⟩:=List.getElem?_of_mem hk
    have:=Classical.not_not.1 (hall2 j k (by rw [hlen];exact (List.getElem?_eq_some_iff.1 hj).1) hj)
    simp [this]
  rw [hE] at h0
  obtain ⟨z,hz,h0⟩:=dJ h0
  refine wpIn_seq (nE mixed aG (n:=⟨134,false,mk D2 :: [mk D]⟩) rfl (t:=YE s f) hz (J:=PJ (λ_=>k7 v1 v2 v3 v4 v7) (λ_=>m7 s o f v1 v2 v3 v4 v7)) (JR:=JF tb Tryz.f91.results.toList xP) (hJR:=yI) hs7 1000 au ?_ ?_)
  rotate_left
  · rintro x S' s' a' rfl hj hs' hf'
    obtain rfl:x=r:=Option.some.inj h0
    exact LF [D2,D] hj hs' (hf7.trans hf') (hd7.fr hs7.heap hf')
  rintro _ S8 s8 q8 rfl hj hs8 hf8
  have hd8:=hd7.fr hs7.heap hf8
  obtain ⟨hs8,hf8⟩:=hs8.pj (hf7.trans hf8) hj
  clear hj hz
  obtain ⟨w,hw,h0⟩:=dJ h0
  obtain ⟨sh,hsh,h0⟩:=dJ h0
  refine wpIn_seq (nE mixed aG (n:=⟨134,false,mk D2 :: [mk D]⟩) rfl (t:=tG n s o) (r:=.inl sh) (by simp [tG,WT.run,hw,hsh,Go.Pv.brk]) (J:=λp f' hp=>kZ hp f' ((12,.pt 12 (vr hp 12) 0 0) :: (13,.pt 13 (vr hp 13) 0 0) :: k7 v1 v2 v3 v4 v7)/\oK hp ((12,⟨22,1,true,true,vr hp 12,[[aH 1 fI p.1]]⟩) :: (13,⟨39,1,true,true,vr hp 13,[[int p.2]]⟩) :: m7 s o f v1 v2 v3 v4 v7)) (JR:=JN) (hJR:=nH) hs8 1000 au ?_ (λv S' s' a' e=>nomatch e))
  rintro x S9 s9 q9 ex hj hs9 hf9
  obtain rfl:sh=x:=by injection ex
  have hd9:=hd8.fr hs8.heap hf9
  obtain ⟨hs9,hf9⟩:=hs9.yB (hf8.trans hf9) (jX hj.1 hj.2)
  generalize vr S9.hp 12=v12 at hs9 hf9
  generalize vr S9.hp 13=v13 at hs9 hf9
  clear hj ex
  obtain ⟨sh,e⟩:=sh
  obtain ⟨z,hz,h0⟩:=dJ h0
  refine wpIn_seq (nE mixed aG (n:=⟨134,false,mk D2 :: [mk D]⟩) rfl (t:=tH s e) hz (J:=PJ (λ_=>k13 v1 v2 v3 v4 v7 v12 v13) (λ_=>m13 s o f sh e v1 v2 v3 v4 v7 v12 v13)) (JR:=JF tb Tryz.f91.results.toList xP) (hJR:=yI) hs9 1000 au ?_ ?_)
  rotate_left
  · rintro x S' s' a' rfl hj hs' hf'
    obtain rfl:x=r:=Option.some.inj h0
    exact LF [D2,D] hj hs' (hf9.trans hf') (hd9.fr hs9.heap hf')
  rintro _ Sa sa qa rfl hj hsa hfa
  have hda:=hd9.fr hs9.heap hfa
  obtain ⟨hsa,hfa⟩:=hsa.pj (hf9.trans hfa) hj
  clear hj hz
  refine wpIn_seq (nE mixed aG (n:=⟨134,false,mk D2 :: [mk D]⟩) rfl (t:=tI) (r:=.inl ()) rfl (J:=λ_ f' hp=>kZ hp f' ((14,.pt 14 (vr hp 14) 0 0) :: (15,.pt 15 (vr hp 15) 0 0) :: k13 v1 v2 v3 v4 v7 v12 v13)/\oK hp ((14,⟨33,10,true,true,vr hp 14,[aA.av s]⟩) :: (15,⟨3,1,true,true,vr hp 15,[[int 0]]⟩) :: m13 s o f sh e v1 v2 v3 v4 v7 v12 v13)) (JR:=JN) (hJR:=nH) hsa 1000 au ?_ (λv S' s' a' e=>nomatch e))
  rintro _ Sb sb qb-hj hsb hfb
  have hdb:=hda.fr hsa.heap hfb
  obtain ⟨hsb,hfb⟩:=hsb.yB (hfa.trans hfb) (jX hj.1 hj.2)
  generalize vr Sb.hp 14=v14 at hsb hfb
  generalize vr Sb.hp 15=v15 at hsb hfb
  clear hj
  refine wpIn_seq (wpIn_seq (nE mixed aG (n:=⟨134,false,mk D2 :: [mk D]⟩) rfl (t:=tC 89 s o) (r:=.inl ()) rfl (J:=PJ (λ_=>(89,.fn (.func 187) [] [.pp [aH 1 fI o.dQ],.pp (aA.av s)]) :: k15 v1 v2 v3 v4 v7 v12 v13 v14 v15) (λ_=>m15 s o f sh e s 0 v1 v2 v3 v4 v7 v12 v13 v14 v15)) (JR:=JN) (hJR:=nH) hsb 1000 au ?_ (λv S' s' a' e=>nomatch e)))
  rintro _ Sc sc qc-hj hsc hfc
  have hdc:=hdb.fr hsb.heap hfc
  obtain ⟨hsc,hfc⟩:=hsc.pj (hfb.trans hfc) hj
  clear hj
  obtain ⟨z,hz,h0⟩:=dJ h0
  refine wpIn_block (K3 (n:=⟨134,false,[]⟩) (ds:=mk D2 :: [mk D]) rfl hsc rfl IX (KZ s o.dQ (by omega)) (λi H=>∃ e t a,H=hk (m15 s o f sh e t a v1 v2 v3 v4 v7 v12 v13 v14 v15)/\KO n s sh (o.dQ.drop i) i t a=some z) (λH=>∃ r',H=hk (mR v3 v4 r')/\z=.inr r') ⟨e,s,0,rfl,hz⟩ (by rintro i H ⟨e,t,a,rfl,-⟩;rfl) (by rintro H ⟨r',rfl,-⟩;rfl) (by decide) (by decide) ?_ ?_)
  · rintro i x y H hx ⟨e,t,a,rfl,hF⟩
    obtain ⟨k',hk',rfl,rfl⟩:=KU hx
    rw [drop_at hk'] at hF
    obtain ⟨y,hy,hF⟩:=dJ hF
    generalize mQ s k'=rr at hy
    refine BS mixed aG (t:=JO 18) (r:=.inl ()) rfl (J:=λ_ f' hp=>kZ hp f' ((16,int i) :: (17,.pt 18 (vr hp 18) 0 0) :: k15 v1 v2 v3 v4 v7 v12 v13 v14 v15)/\oK hp ((18,⟨200,8,true,true,vr hp 18,[dH.av rr]⟩) :: m15 s o f sh e t a v1 v2 v3 v4 v7 v12 v13 v14 v15)) (JR:=JN) (hJR:=nH) 1000 au (λ_ S1 _ hj=>⟨rfl,EU (jX hj.1 hj.2) ?_⟩) (λv S' e=>nomatch e)
    generalize vr S1.hp 18=v18
    refine E9 mixed aG (JJ:=λH=>∃ e t a,H=hk (m15 s o f sh e t a v1 v2 v3 v4 v7 v12 v13 v14 v15)/\KO n s sh (o.dQ.drop (i+1)) (i+1) t a=some z) (KK:=λH=>∃ r',H=hk (mR v3 v4 r')/\z=.inr r') (t:=t3 n s t rr sh i a) (M:=λp=>m15 s o f sh p.2.2 p.1 p.2.1 v1 v2 v3 v4 v7 v12 v13 v14 v15) (MR:=mR v3 v4) hy 1000 au (λv e=>by subst e;exact ⟨v.2.2,v.1,v.2.1,rfl,hF⟩) (λv e=>by subst e;exact ⟨v,rfl,(Option.some.inj hF).symm⟩)
  rintro e' D3 sd Hd hj hsd hfd hDd hnd
  have hdd:pM s0 sd [D3,D2,D]:=pM.cons hdc hsc.heap hfd hfc.size hDd hnd
  have hfd:=hfc.trans hfd
  rcases hj with ⟨rfl,e,t,a,rfl,hF⟩ | ⟨rfl,r',rfl,rfl⟩
  rotate_left
  · obtain rfl:r'=r:=Option.some.inj h0
    exact R9 [D3,D2,D] hsd rfl rfl hfd hdd
  rw [hlen,List.drop_length] at hF
  obtain rfl:.inl (t,a)=z:=Option.some.inj hF
  obtain ⟨z,hzl,h0⟩:=dJ h0
  refine nE mixed aG (n:=⟨134,false,mk D3 :: mk D2 :: [mk D]⟩) rfl (t:=tL n s o f t a) hzl (J:=PJ (λ_=>[]) (λ_=>[])) (JR:=JF tb Tryz.f91.results.toList xP) (hJR:=yI) hsd 1000 ?_ (λv S' s' a' e=>by subst e;cases h0) ?_
  rotate_left
  · rintro x S' s' a' rfl hj hs' hf'
    obtain rfl:x=r:=Option.some.inj h0
    exact LF [D3,D2,D] hj hs' (hfd.trans hf') (hdd.fr hsd.heap hf')
  exact au
end
def ZG (a1:Int) (a2:Int):WB (aQ) :=
 .al 1<|.ret (((⟨a1,a2⟩:aQ):aQ))
def rG (a1:Int) (a2:Int):Option (aQ):=(ZG a1 a2).run
theorem wS {a1 a2}:PZ (rG a1 a2) 191 [int a1,int a2] (λr=>.agg (aQ.av r)):=wq Tryz.func191
def U7 (n:Nat) (a1:aA) (a2:List jU):WB (aA×Int) :=
 .al 1<|.al 2<|.ln 10 jU.av a2<|.dU 0 [2,4,5] [2] [] (λ_ (a:aA)=>[]) (λ_ a=>[.kp 1 [(aA.av a)]]) (.lp [2,4,5,9,10] [2] [] (λ_ (a:Int×aA)=>[(11,int a.1)]) (λ_ a=>[.kp 1 [(aA.av a.2)]]) n ((0:Int),a1) (pw λy0_1 y0_2=>.bB 12 (decide (y0_1<(a2.length:Int))) λx5=>.ifs [12] x5 (.ix 13 jU.av a2 y0_1 λx6=>.al 3<|.cl 21 (nP n y0_2 x6.aHZ x6.lines) vC tY λx8=>.bB 25 (decide (x8.2≠0)) λx9=>.ifs [25] x9 (.esc (.esc (.ret ((x8.1:aA),x8.2)))) (.bI 28 (bA (y0_1+1)) λx10=>.brk ((x10:Int),x8.1))) (.esc (.brk y0_2)))) (λy1_1=>.ret ((y1_1:aA),0))
def BD (n:Nat) (a1:aA) (a2:List jU):Option (aA×Int):=(U7 n a1 a2).run
theorem ZJ {n a1 a2}:PZ (BD n a1 a2) 190 [.agg (aA.av a1),aH 2 jU.av a2] (λr=>.bD [.agg (aA.av r.1),int r.2]):=wq Tryz.func190
def aB6 (n:Nat) (a1:aA) (a2:bQ):WB (aA×Int) :=
 .al 1<|.al 2<|.al 3<|.gv 17<|.dU 0 [2,3,4,5] [1,2,3] [] (λ_ (a:Unit)=>[]) (λ_ _=>[]) (.lp [2,3,4,5,17] [1,2,3] [] (λ_ (a:Int)=>[(18,int a)]) (λ_ _=>[]) n 0 (λy0_1=>.bB 19 (decide (y0_1<2)) λx6=>.ifs [19] x6 (.bo (ix ([a2.E,a2.To]:List Int) y0_1) λx7=>.gv 20<|.cl 25 (nW a1 x7 a2.Item) pE pG λx8=>.bB 27 (decide (x8≠0)) λx9=>.ifs [27] x9 (.esc (.esc (.ret ((a1:aA),x8)))) (.bI 30 (bA (y0_1+1)) λx10=>.brk x10)) (.esc (.brk ())))) (λ_=>.ln 33 dD.av a1.bL<|.bB 34 (decide ((a1.bL.length:Int)>=40)) λx11=>.ifs [34] x11 (.ret ((a1:aA),6)) (.cl 46 (o5 n a1 a2.E a2.Item a2.Loc 3 a2.aS) yP zU λx12=>.al 4<|.bB 52 (decide (x12.2.2.2≠0)) λx14=>.ifs [52] x14 (.ret ((x12.1:aA),x12.2.2.2)) (.dr [(0,[1]),(1,[2]),(2,[2]),(3,[2]),(4,[2]),(6,[2]),(7,[2]),(10,[4]),(11,[4]),(13,[4]),(14,[4]),(19,[2]),(20,[2]),(21,[2]),(22,[2]),(24,[2]),(25,[2])] [(35,[])] [1,2,4] [35] [0,1,2,3,4,5,6,7,8,9,10,11,12,13,14,15,16,17,18,19,20,21,22,23,24,25,26,27,28,29,30,31,32,33,34,35,36] (.cl 61 (rG 13 a2.bO) wH wS λx15=>.bI 64 (bA (0-a2.bO)) λx16=>.cl 65 (rG 15 x16) wH wS λx17=>.cl 68 (rG 16 x12.2.1.Value) wH wS λx18=>.bI 71 (bA (0-x12.2.1.Value)) λx19=>.cl 72 (rG 0 x19) wH wS λx20=>.to 73 (aH 2 aQ.av ([x15,x17,x18,x20]:List aQ))<|.cl 79 (rG 12 a2.bO) wH wS λx21=>.bI 82 (bA (0-a2.bO)) λx22=>.cl 83 (rG 14 x22) wH wS λx23=>.to 84 (aH 2 aQ.av ([x21,x23]:List aQ))<|.to 86 (aH 2 jU.av ([(⟨a2.E,([x15,x17,x18,x20]:List aQ)⟩:jU),(⟨a2.To,([x21,x23]:List aQ)⟩:jU)]:List jU))<|.cl 87 (BD n x12.1 ([(⟨a2.E,([x15,x17,x18,x20]:List aQ)⟩:jU),(⟨a2.To,([x21,x23]:List aQ)⟩:jU)]:List jU)) XB ZJ λx24=>.bB 91 (decide (x24.2≠0)) λx25=>.ifs [91] x25 (.ret ((x24.1:aA),x24.2)) (.cl 103 (nZ x24.1 a2.E a2.Item (⟨0,0,0,0,0,0,x12.2.1.Value,0,0,0,0⟩:dL)) tJ tT λx26=>.bB 107 (decide (x26.2≠0)) λx27=>.ifs [107] x27 (.ret ((x26.1:aA),x26.2)) (.bI 114 (bA (a2.bO-x12.2.1.Value)) λx28=>.bI 117 (bA (x28+x12.2.1.bE)) λx29=>.jn 0 [2,3,4,5,12] [1,2,3] [] (λ_ (a:Bool)=>[(123,aI a)]) (λ_ _=>[]) (.bB 119 (decide (x29<(-288230376151711744))) λx30=>.ifs [119] x30 (.ret true) (.bB 122 (decide (x29>288230376151711744)) λx31=>.ret x31)) (λy2_1=>.ifs [123] y2_1 (.ret ((x26.1:aA),2)) (.dr [(0,[1]),(1,[1]),(3,[2]),(4,[2]),(5,[2]),(6,[2]),(7,[2]),(8,[2]),(9,[2]),(10,[2]),(11,[2]),(12,[2]),(17,[1])] [(2,[2]),(16,[]),(18,[])] [1,2] [2,16,18] [0,1,3,4,5,6,7,8,9,10,11,12,13,14,15,2,16,17,18] (.to 140 (aH 6 dD.av ([(⟨a2.E,a2.To,a2.Item,a2.aS,a2.bO,x29⟩:dD)]:List dD))<|.as (x26.1.bL.length<=68719476736) inferInstance<|.ge 127 5<|.bl (x26.1.bL++([(⟨a2.E,a2.To,a2.Item,a2.aS,a2.bO,x29⟩:dD)]:List dD):List dD) λx34=>.as (x34.length<=68719476736) inferInstance<|.ge 141 0<|.ret (((⟨x26.1.bF,x26.1.aW,x26.1.dG,x26.1.dO,x34,x26.1.Done⟩:aA):aA),0))))))))))
def UI (n:Nat) (a1:aA) (a2:bQ):Option (aA×Int):=(aB6 n a1 a2).run
theorem aI4 {n a1 a2}:PZ (UI n a1 a2) 147 [.agg (aA.av a1),.agg (bQ.av a2)] (λr=>.bD [.agg (aA.av r.1),int r.2]):=by
 refine wm Tryz.func147 ?_
 intro v3
 intro v4
 intro v5
 refine .mk _ (bK (wF (cs:=[int a2.E,int a2.To]) (ps:=[(0,_),(1,_)]) rfl Tryz.underlying201 dP z201 rfl (.cons rfl (.cons rfl .nil)) (by kernel_rfl))) ?_
 refine .mk ?_ ?_
 refine .mk ?_
 intro _ _
 refine .mk λx6=>?_
 refine .mk ?_ ?_
 refine .mk λx7 e7=>?_
 refine .mk _ (bK (xD (g:=fI) (l:=([a2.E,a2.To]:List Int)) (v:=x7) (w:=int x7) rfl Tryz.underlying201 dP rfl rfl rfl e7 (λ_=>rfl) hw1)) ?_
 refine .mk λx8 e8=>?_
 refine .mk λx9=>?_
 refine .mk .mk ?_
 refine .mk λx10=>?_
 exact .mk
 exact .mk
 intro _ _
 refine .mk ?_
 refine .mk λx11=>?_
 refine .mk .mk ?_
 refine .mk λx12 e12=>?_
 intro v13
 refine .mk λx14=>?_
 refine .mk .mk ?_
 refine .mk ?_
 refine .mk λx15 e15=>?_
 refine .mk λx16=>?_
 refine .mk λx17 e17=>?_
 refine .mk λx18 e18=>?_
 refine .mk λx19=>?_
 refine .mk λx20 e20=>?_
 refine .mk (λH hH _=>dK (y:=aH 2 aQ.av ([x15,x17,x18,x20]:List aQ)) (gM (ps:=[(0,_),(1,_),(2,_),(3,_)]) (rows:=[[int x15.jH,int x15.bO],[int x17.jH,int x17.bO],[int x18.jH,int x18.bO],[int x20.jH,int x20.bO]]) rfl Tryz.underlying46 qD (.cons rfl (.cons rfl (.cons rfl (.cons rfl .nil)))) (by kernel_rfl) rfl rfl rfl) rfl) ?_
 refine .mk λx21 e21=>?_
 refine .mk λx22=>?_
 refine .mk λx23 e23=>?_
 refine .mk (λH hH _=>dK (y:=aH 2 aQ.av ([x21,x23]:List aQ)) (gM (ps:=[(0,_),(1,_)]) (rows:=[[int x21.jH,int x21.bO],[int x23.jH,int x23.bO]]) rfl Tryz.underlying46 qD (.cons rfl (.cons rfl .nil)) (by kernel_rfl) rfl rfl rfl) rfl) ?_
 refine .mk (λH hH _=>dK (y:=aH 2 jU.av ([(⟨a2.E,([x15,x17,x18,x20]:List aQ)⟩:jU),(⟨a2.To,([x21,x23]:List aQ)⟩:jU)]:List jU)) (gM (ps:=[(0,_),(1,_)]) (rows:=[[int a2.E,aH 2 aQ.av ([x15,x17,x18,x20]:List aQ)],[int a2.To,aH 2 aQ.av ([x21,x23]:List aQ)]]) rfl Tryz.underlying280 aIW (.cons rfl (.cons rfl .nil)) (by kernel_rfl) rfl rfl rfl) rfl) ?_
 refine .mk λx24 e24=>?_
 refine .mk λx25=>?_
 refine .mk .mk ?_
 refine .mk λx26 e26=>?_
 refine .mk λx27=>?_
 refine .mk .mk ?_
 refine .mk λx28=>?_
 refine .mk λx29=>?_
 refine .mk ?_ ?_
 refine .mk λx30=>?_
 refine .mk .mk ?_
 refine .mk λx31=>?_
 exact .mk
 intro _ _
 refine .mk .mk ?_
 refine .mk ?_
 refine .mk (λH hH _=>dK (y:=aH 6 dD.av ([(⟨a2.E,a2.To,a2.Item,a2.aS,a2.bO,x29⟩:dD)]:List dD)) (gM (ps:=[(0,_)]) (rows:=[[int a2.E,int a2.To,int a2.Item,int a2.aS,int a2.bO,int x29]]) rfl Tryz.underlying31 R6 (.cons rfl .nil) (by kernel_rfl) rfl rfl rfl) rfl) ?_
 refine .mk λp32=>?_
 refine .mk _ ⟨λ_=>eO rfl rfl (.cons rfl .nil) aAJ (jD (XI.pc (id:=5) (l:=x26.1.bL) rfl p32) (.cons (.refl _) .nil)),by rintro _ _ ⟨v33,rfl,rfl⟩;exact ⟨rfl,trivial⟩⟩ ?_
 rintro _ _ ⟨v33,rfl,rfl⟩
 refine .mk λx34 e34=>?_
 refine .mk λp35=>?_
 refine .mk _ ⟨λ_=>kQ (g:=dD.av) (l:=x26.1.bL) (m:=([(⟨a2.E,a2.To,a2.Item,a2.aS,a2.bO,x29⟩:dD)]:List dD)) .any rfl Tryz.underlying31 R6 aCE rfl rfl rfl rfl rfl rfl rfl rfl rfl rfl (Eq.symm rfl) (.refl _) (λ_=>rfl) e34 p35,by rintro _ _ ⟨v36,-,rfl,rfl⟩;exact trivial⟩ ?_
 rintro _ _ ⟨v36,-,rfl,rfl⟩
 exact .mk (bT.bD (.cons (bT.agg (.cons (.refl _) (.cons (.refl _) (.cons (.refl _) (.cons (.refl _) (.cons (.refl _) (.cons (.refl _) (.cons (.refl _) (.cons (.refl _) (.cons (dZ rfl rfl rfl rfl rfl (Eq.symm rfl)) (.cons (.refl _) .nil))))))))))) (.cons (.refl _) .nil)))
end
end Go.Pv
