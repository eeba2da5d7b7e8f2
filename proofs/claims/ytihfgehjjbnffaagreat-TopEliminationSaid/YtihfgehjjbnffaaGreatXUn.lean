import Derived.Test.YtihfgehjjbnffaaGreatXUm
set_option linter.unusedVariables false
set_option linter.unusedSimpArgs false
namespace Go.Pv
open Go.Proofs
set_option maxRecDepth 100000
set_option maxHeartbeats 4000000
noncomputable section
theorem aL0 (l:List bQ):ItC Tryz.prog 170 [.pp [aH 9 bQ.av l]] ((l.take 400).map λx=>.agg (bQ.av x)):=by
  intro lp fn tmps p assign body D J s H vs hH hvs hJ hJ7 hn hY
  have ha:mU s [.sc (.func (.yield lp) #[] #[]),.pp [aH 9 bQ.av l]] (#[.func (.yield lp) #[] #[]]++vs):=mU.append (xs:=[.sc (.func (.yield lp) #[] #[])]) ⟨rfl,λi x v h1 h2=>by
    cases i with
    | zero=>simp at h1 h2;subst h1 h2;exact .sc _
    | succ i=>simp at h1⟩ hvs
  refine callsIn_wide.1 (callsIn_of_wp (n:=0) (c:=_) Tryz.func170 rfl trivial ?_)
  have hs:=sr0 (fn:=Tryz.f170) hH ha rfl
  generalize ({ tmps:=_,defers:=[] }:Act)=a0 at hs ⊢
  refine wpIn_seq (xR (Q0:=λe S'=>e=.normal/\S'.hp=H/\uP S'.sl [(0,.sc (.func (.yield lp) #[] #[])),(9,aH 9 bQ.av (l.take 400)),(10,int (l.take 400).length),(11,int 0)]) hs rfl ?_ ?_)
  · refine tc aG 3 (.mk ?_)
    refine sY (mP rfl Tryz.underlying87 rfl (uY _)) ?_
    refine sY (qN rfl rfl rfl rfl) ?_
    refine sY (aXK (i:=0) (j:=(if (400:Int)<(l.length:Int) then (400:Int) else (l.length:Int)).toNat) rfl Tryz.underlying87 FK rfl .no (.yes rfl (by split <;> omega)) (by omega) (by split <;> omega) (aJB l 400)) ?_
    refine sY (mP rfl Tryz.underlying87 rfl (uY _)) ?_
    refine tr aG 2 (.mk ?_)
    refine vK ?_
    exact ⟨rfl,rfl,rfl,rfl,rfl,rfl,trivial⟩
  rintro e S1 s1 a1 ⟨rfl,e2,hk1⟩ hs1 hf1
  rw [e2] at hf1
  have hlen:(l.take 400).length<=400:=by simp;omega
  generalize hL:l.take 400=L at *
  refine wpIn_block (wpIn_loop (λa w=>∃ i s2 H2,i<=L.length/\w=s2.w/\J i H2/\SR ⟨20,false,[]⟩ s2 ⟨kn [(0,.sc (.func (.yield lp) #[] #[])),(9,aH 9 bQ.av L),(10,int L.length),(11,int i)],H2⟩ a/\Fr s H s2 H2)
    (λ(a:Act) _=>match (a.tmps[11]?:Option Value) with | some (Value.int _ v)=>L.length-v.toNat | _=>0) ⟨0,s1,H,Nat.zero_le _,rfl,hJ,hs1.zR _ _ e2 (vY hk1),hf1⟩ ?_)
  rintro a w ⟨i,s2,H2,hi,rfl,hj,hs2,hf2⟩
  have hm2:(match (a.tmps[11]?:Option Value) with | some (Value.int _ v)=>L.length-v.toNat | _=>0)=L.length-i:=by
    obtain ⟨v,q1,q2⟩:=hs2.slot 11 (int i) rfl
    rw [q1,q2.fF];simp
  refine wpIn_seq (xR (Q0:=λe S'=>e=.normal/\S'.hp=H2/\uP S'.sl [(0,.sc (.func (.yield lp) #[] #[])),(9,aH 9 bQ.av L),(10,int L.length),(11,int i),(12,aI (decide ((i:Int)<(L.length:Int))))]) hs2 rfl ?_ ?_)
  · refine tc aG 3 (.mk ?_)
    refine vK ?_
    exact ⟨rfl,rfl,rfl,rfl,rfl,rfl,rfl,trivial⟩
  rintro e S3 s3 a3 ⟨rfl,e3,hk3⟩ hs3 hf3
  rw [e3] at hf3
  have hs3:=hs3.zR _ _ e3 (vY hk3)
  refine wpIn_seq (wpIn_cond_split (t:=decide ((i:Int)<(L.length:Int))) (nX (o:=.tmp 12) hs3 rfl).fF (λhc=>?_) (λhc=>?_))
  · refine wpIn_skip ?_
    have hlt:i<L.length:=by have:=of_decide_eq_true hc;omega
    obtain ⟨x,hx⟩:∃ x,L[i]?=some x:=⟨L[i],by simp [hlt]⟩
    have hix:ix L (i:Int)=some x:=by unfold ix;rw [if_neg (by omega)];simpa using hx
    refine wpIn_seq (wpIn_block (wpIn_seq (xR (Q0:=λe S'=>e=.normal/\∃ aN,S'.hp=upd H2 777 (some ⟨36,9,true,true,aN,[bQ.av x]⟩)/\uP S'.sl [(0,.sc (.func (.yield lp) #[] #[])),(9,aH 9 bQ.av L),(10,int L.length),(11,int i),(4,.pt 777 aN 0 0)]) hs3 rfl ?_ ?_)))
    · refine tc aG 1 (.mk ?_)
      refine sY (C8 rfl Tryz.underlying87 FK rfl rfl hix) ?_
      refine tr aG 1 (.mk ?_)
      refine sA 777 z36 λaN=>?_
      refine sS ⟨36,9,true,true,aN,[bQ.av x]⟩ FK ?_
      refine tr aG 1 (.mk ?_)
      refine vK ?_
      exact ⟨rfl,aN,wX,rfl,rfl,rfl,rfl,rfl,trivial⟩
    rintro e S4 s4 a4 ⟨rfl,aN,e4,hk4⟩ hs4 hf4
    rw [e4] at hf4
    have hs4:=hs4.zR _ _ e4 (vY hk4)
    refine wpIn_seq (wpIn_region ?_)
    show wpOpsIn Fence.wide 0 Tryz.prog (List.toArray _) _ [0,1,2,3] a4 s4.w
    refine go_in hs4 rfl rfl rfl rfl rfl (mK rfl rfl) ?_
    intro s5 a5 hs5 hf5
    refine go_in hs5 rfl rfl rfl rfl rfl (fU (cs:=bQ.av x) (v:=.agg (bQ.av x)) rfl FK rfl (.pt (row:=0) (o:=⟨36,9,true,true,aN,[bQ.av x]⟩) rfl rfl rfl) rfl) ?_
    intro s6 a6 hs6 hf6
    have h7:=hJ7 i H2 hj
    have hf26:Fr s2 H2 s6 H2:=N8 (((hf3.trans hf4).trans hf5).trans hf6) (IA h7)
    have hs6':=(⟨hs6.size,hs6.defers,hs6.slot,TJ hs6.heap (IA h7)⟩:SR ⟨20,false,[]⟩ s6 ⟨_,H2⟩ a6)
    have hfs6:=hf2.trans hf26
    have hn6:=hn.fr hH hfs6
    refine aXA (J':=J (i+1)) hs6' rfl rfl rfl rfl rfl rfl rfl hn6 (λv hv=>hY i (.agg (bQ.av x)) (by rw [List.getElem?_map,hx];rfl) s6 H2 v hj hs6'.heap hv hn6 hfs6) ?_
    intro s7 a7 H7 hj7 hs7 hf7
    refine go_in hs7 rfl rfl rfl rfl rfl (MY (b:=true) (r:=false) rfl rfl rfl) ?_
    intro s8 a8 hs8 hf8
    refine RS ?_
    refine wpIn_cond_false (nX (o:=.tmp 18) hs8 rfl).fF (wpIn_skip ?_)
    have hs8':=hs8.zR [(0,.sc (.func (.yield lp) #[] #[])),(9,aH 9 bQ.av L),(10,int L.length),(11,int i)] H7 rfl (vY ⟨rfl,rfl,rfl,rfl,trivial⟩)
    refine xR (Q0:=λe S'=>e=.normal/\S'.hp=H7/\uP S'.sl [(0,.sc (.func (.yield lp) #[] #[])),(9,aH 9 bQ.av L),(10,int L.length),(11,int (bA ((i:Int)+1)))]) hs8' rfl ?_ ?_
    · refine tc aG 4 (.mk ?_)
      refine vK ?_
      exact ⟨rfl,rfl,rfl,rfl,rfl,rfl,trivial⟩
    rintro e S9 s9 a9 ⟨rfl,e9,hk9⟩ hs9 hf9
    rw [e9] at hf9
    have hs9:=hs9.zR _ _ e9 (vY hk9)
    have ew:bA ((i:Int)+1)=((i+1:Nat):Int):=(wrap64 (by omega)).trans (by omega)
    rw [ew] at hs9
    refine ⟨⟨i+1,s9,H7,hlt,rfl,hj7,hs9,((hfs6.trans hf7).trans hf8).trans hf9⟩,?_⟩
    obtain ⟨v,q1,q2⟩:=hs9.slot 11 (int ((i+1:Nat):Int)) rfl
    rw [hm2,q1,q2.fF]
    simp
    omega
  · refine wpIn_exit ?_
    have hieq:i=L.length:=by have:=of_decide_eq_false hc;omega
    subst hieq
    refine ⟨hs3.defers,.tuple #[],Q6 rfl,s3,H2,.tuple #[],rfl,rfl,?_,hs3.heap,hf2.trans hf3⟩
    rw [List.length_map];exact hj
theorem aXJ {l:List bQ}:PP Tryz.prog 115 [aH 9 bQ.av l] (λy=>y=.fn (.func 170) [] [.pp [aH 9 bQ.av l]]):=by
  refine rF (R0:=λy H=>Cv (l6 H) y (.fn (.func 170) [] [.pp [aH 9 bQ.av l]])) ?_ (λy H hc=>⟨_,rfl,.fn (by simp) (λx hx=>by
    simp only [List.mem_singleton] at hx;subst hx
    exact .pp λx hx=>by simp only [List.mem_singleton] at hx;subst hx;exact qL bQ.dX l),hc⟩)
  refine iI (c:=_) Tryz.func115 rfl rfl ?_;intro Q hret hnorm
  refine tc aG 2 (.mk ?_)
  refine sB 1 λv1=>?_
  refine tr aG 7 (.mk ?_)
  refine wR hret (rT .nil) ?_
  exact bT.fn .nil (.cons (Cv.pt (ob:=⟨87,1,false,true,v1,[[aH 9 bQ.av l]]⟩) rfl rfl rfl rfl (.cons (.refl _) .nil)) .nil)
def yR (dS:aA->bQ->Option (aA×Int)):List bQ->aA->List Int->Option (aA×(List Int))
  | [],s,e=>some (s,e)
  | o :: r,s,e=>(dS s o).bind λx=>yR dS r x.1 (e++[x.2])
theorem aRN {dS:aA->bQ->Option (aA×Int)} (hS:∀ {s o r},dS s o=some r->PP Tryz.prog 8 [.agg (aA.av s),.agg (bQ.av o)] (λy=>y=.bD [.agg (aA.av r.1),int r.2]))
    {s:aA} {l:List bQ} {r:aA×(List Int)} (h0:yR dS (l.take 400) s []=some r):PP Tryz.prog 70 [.agg (aA.av s),aH 9 bQ.av l] (λy=>y=.bD [.agg (aA.av r.1),aH 1 fI r.2]):=by
  refine rF (R0:=λy H=>Cv (l6 H) y (.bD [.agg (aA.av r.1),aH 1 fI r.2])) ?_ (λy H hc=>⟨_,rfl,.bD (λx hx=>by
    simp only [List.mem_cons,List.not_mem_nil,or_false] at hx
    rcases hx with rfl | rfl
    · exact .agg (aA.dX r.1)
    · exact qL wC r.2),hc⟩)
  refine aIM (c:=_) Tryz.func70 rfl rfl ?_
  intro s0 a0 hs0
  refine wpIn_seq (xR (Q0:=λe S'=>e=.normal/\∃ v2 v4,BE S'.hp [(2,⟨33,10,true,true,v2,[aA.av s]⟩),(4,⟨33,10,true,true,v4,[[int 0,int 0,.sc (.slice none 0 0),.sc (.slice none 0 0),.sc (.slice none 0 0),.sc (.slice none 0 0),.sc (.slice none 0 0),.sc (.slice none 0 0),.sc (.slice none 0 0),int 0]]⟩)]/\uP S'.sl [(1,aH 9 bQ.av l),(2,.pt 2 v2 0 0),(4,.pt 4 v4 0 0)]) hs0 rfl ?_ ?_)
  · refine tc aG 1 (.mk ?_)
    refine sB 2 λv2=>?_
    refine sA 4 z33 λv4=>?_
    refine tr aG 2 (.mk ?_)
    refine vK ?_
    exact ⟨rfl,v2,v4,⟨rfl,rfl,trivial⟩,rfl,rfl,rfl,trivial⟩
  rintro e S1 s1 a1 ⟨rfl,v2,v4,hh1,hk1⟩ hs1 hf1
  obtain ⟨hs1,hf1⟩:=hs1.kh hf1 _ _ hk1 hh1
  generalize hz:([[int 0,int 0,.sc (.slice none 0 0),.sc (.slice none 0 0),.sc (.slice none 0 0),.sc (.slice none 0 0),.sc (.slice none 0 0),.sc (.slice none 0 0),.sc (.slice none 0 0),int 0]]:List (List AV))=zr at *
  refine wpIn_seq (xR (Q0:=λe S'=>e=.normal/\∃ v6,BE S'.hp [(2,⟨33,10,true,true,v2,[aA.av s]⟩),(4,⟨33,10,true,true,v4,zr⟩),(6,⟨84,1,true,true,v6,[[.sc (.slice none 0 0)]]⟩)]/\uP S'.sl [(1,aH 9 bQ.av l),(2,.pt 2 v2 0 0),(4,.pt 4 v4 0 0),(6,.pt 6 v6 0 0)]) hs1 rfl ?_ ?_)
  · refine tc aG 1 (.mk ?_)
    refine sA 6 z84 λv6=>?_
    refine tr aG 1 (.mk ?_)
    refine vK ?_
    exact ⟨rfl,v6,⟨rfl,rfl,rfl,trivial⟩,rfl,rfl,rfl,rfl,trivial⟩
  rintro e S2 s2 a2 ⟨rfl,v6,hh2,hk2⟩ hs2 hf2
  obtain ⟨hs2,hf2⟩:=hs2.kh (hf1.trans hf2) _ _ hk2 hh2
  refine wpIn_seq (wpIn_seq (xR (Q0:=λe S'=>e=.normal/\BE S'.hp [(2,⟨33,10,true,true,v2,[aA.av s]⟩),(4,⟨33,10,true,true,v4,zr⟩),(6,⟨84,1,true,true,v6,[[.sc (.slice none 0 0)]]⟩)]/\uP S'.sl [(2,.pt 2 v2 0 0),(4,.pt 4 v4 0 0),(6,.pt 6 v6 0 0),(11,.fn (.func 170) [] [.pp [aH 9 bQ.av l]])]) hs2 rfl ?_ ?_))
  · refine tc aG 2 (.mk ?_)
    refine sC aR2 aXJ ?_
    refine tr aG 1 (.mk ?_)
    refine vK ?_
    exact ⟨rfl,⟨rfl,rfl,rfl,trivial⟩,rfl,rfl,rfl,rfl,trivial⟩
  rintro e S3 s3 a3 ⟨rfl,hh3,hk3⟩ hs3 hf3
  obtain ⟨hs3,hf3⟩:=hs3.kh (hf2.trans hf3) _ _ hk3 hh3
  obtain ⟨s4,vA,ew,hs4,hf4⟩:=aS9 hs3 6 20 39 1 (ob:=⟨84,1,true,true,v6,[[.sc (.slice none 0 0)]]⟩) rfl rfl rfl
  obtain ⟨hs4,hf4⟩:=hs4.kh (hf3.trans hf4) [(2,.pt 2 v2 0 0),(4,.pt 4 v4 0 0),(6,.pt 6 v6 0 0),(11,.fn (.func 170) [] [.pp [aH 9 bQ.av l]])] [(2,⟨33,10,true,true,v2,[aA.av s]⟩),(4,⟨33,10,true,true,v4,zr⟩),(6,⟨84,1,true,true,v6,[[.sl 20 vA 0 ([]:List Int).length]]⟩),(20,⟨39,1,true,true,vA,([]:List Int).map fI⟩)] ⟨rfl,rfl,rfl,rfl,trivial⟩ ⟨rfl,rfl,rfl,rfl,trivial⟩
  rw [<- ew]
  have hlen:(l.take 400).length<=400:=by simp;omega
  have hit:=aL0 l
  generalize hL:l.take 400=L at *
  refine wpIn_block (aI5 (n:=⟨26,false,[]⟩) rfl hs4 rfl aR9 hit (λi H=>∃ s' e' vA,e'.length=i/\yR dS (L.drop i) s' e'=some r /\
    H=hk [(2,⟨33,10,true,true,v2,[aA.av s']⟩),(4,⟨33,10,true,true,v4,zr⟩),(6,⟨84,1,true,true,v6,[[.sl 20 vA 0 e'.length]]⟩),(20,⟨39,1,true,true,vA,e'.map fI⟩)])
    ⟨s,[],vA,rfl,h0,rfl⟩ (by rintro i H ⟨s',e',vA,_,_,rfl⟩;rfl) (by decide) ?_ ?_)
  · rintro i xv H hx ⟨s',e',vA,hi,hd,rfl⟩
    rw [List.getElem?_map] at hx
    obtain ⟨x,hx1,rfl⟩:=Option.map_eq_some_iff.1 hx
    have hiL:=(List.getElem?_eq_some_iff.1 hx1).1
    have hdr:L.drop i=x :: L.drop (i+1):=by
      rw [List.drop_eq_getElem_cons hiL,(List.getElem?_eq_some_iff.1 hx1).2]
    rw [hdr] at hd
    obtain ⟨y,hy,hd⟩:=dJ hd
    have hfit:(e'++[y.2]).length<=68719476736:=by simp;omega
    refine tr1 ?_
    refine tc aG 1 (.mk ?_)
    refine sA 7 z36 λv7=>?_
    refine sS ⟨36,9,true,true,v7,[bQ.av x]⟩ FK ?_
    refine tr aG 1 (.mk ?_)
    refine vK ?_
    refine ⟨rfl,?_⟩
    refine Tr.BJ (Q':=λe S'=>e=.normal/\∃ S'',S'.kV S''/\∃ s' e' vA,e'.length=i+1/\yR dS (L.drop (i+1)) s' e'=some r /\
      S''.hp=hk [(2,⟨33,10,true,true,v2,[aA.av s']⟩),(4,⟨33,10,true,true,v4,zr⟩),(6,⟨84,1,true,true,v6,[[.sl 20 vA 0 e'.length]]⟩),(20,⟨39,1,true,true,vA,e'.map fI⟩)]) (tr1 ?_) (by
        rintro e S' ⟨rfl,S'',h1,h2⟩
        exact ⟨S'',h1,rfl,h2⟩)
    refine tc aG 5 (.mk ?_)
    refine sC UD (hS hy) ?_
    refine tr aG 3 (.mk ?_)
    refine sA 8 z33 λv8=>?_
    refine sS ⟨33,10,true,true,v8,[aA.av y.1]⟩ oP ?_
    refine tr aG 2 (.mk ?_)
    refine wZ [0,0,0,4,14,31,63] (rl [(0,[8]),(1,[6])] []) (rl [(4,[8]),(5,[]),(6,[])] [6,8]) (rl [(4,false),(5,false),(6,false)] true) [0,1,2,3,4,5,6] mixed (by kernel_rfl) ?_;intro K hK
    refine eL oP ?_
    refine eL SY ?_
    refine eM ?_
    refine eP (λH hH=>dK (y:=aH 1 fI ([y.2]:List Int)) (gM (ps:=[(0,_)]) (rows:=[[int y.2]]) rfl Tryz.underlying84 XR (.cons rfl .nil) (by kernel_rfl) rfl rfl rfl) rfl) ?_
    refine RY rfl rfl rfl rfl (kQ (g:=fI) (l:=e') (m:=([y.2]:List Int)) .any rfl Tryz.underlying84 XR aWE rfl rfl rfl rfl rfl rfl rfl rfl rfl rfl (Eq.symm rfl) (.refl _) (λ_=>rfl) rfl hfit) (by rintro _ _ ⟨v,-,rfl,rfl⟩;exact ⟨rfl,trivial⟩) ?_;rintro _ _ ⟨vB,-,rfl,rfl⟩
    refine xN rfl rfl rfl rfl (bY.eX (fH (ob':=(⟨33,10,true,true,v2,[aA.av y.1]⟩:bH)) (fC rfl oP rfl rfl rfl rfl rfl rfl rfl rfl rfl) rfl) (λ_ h=>h) (λ_ _=>trivial)) (by rintro _ _ ⟨rfl,rfl⟩;exact trivial) ?_;rintro _ _ ⟨rfl,rfl⟩
    refine xN rfl rfl rfl rfl (bY.eX (fH (ob':=(⟨84,1,true,true,v6,[[.sl 20 vB 0 (e'++[y.2]).length]]⟩:bH)) (fC rfl SY rfl rfl rfl rfl rfl rfl rfl rfl rfl) rfl) (λ_ h=>h) (λ_ _=>trivial)) (by rintro _ _ ⟨rfl,rfl⟩;exact trivial) ?_;rintro _ _ ⟨rfl,rfl⟩
    refine wU (hK _ ?_)
    refine tc aG 1 (.mk ?_)
    refine vK ?_
    exact ⟨rfl,⟨kn [],hk [(2,⟨33,10,true,true,v2,[aA.av y.1]⟩),(4,⟨33,10,true,true,v4,zr⟩),(6,⟨84,1,true,true,v6,[[.sl 20 vB 0 (e'++[y.2]).length]]⟩),(20,⟨39,1,true,true,vB,(e'++[y.2]).map fI⟩)]⟩,jX (l:=[]) trivial ⟨⟨_,rfl,.refl _⟩,⟨_,rfl,.refl _⟩,⟨_,rfl,.refl _⟩,⟨_,rfl,.refl _⟩,trivial⟩,y.1,e'++[y.2],vB,by simp [hi],hd,rfl⟩
  · rintro D s5 H5 ⟨s',e',vA,hi,hd,rfl⟩ hs5 hf5 hD hn5
    rw [List.length_map] at hi
    have hd':yR dS [] s' e'=some r:=by rw [<- hd,List.length_map,List.drop_length]
    obtain rfl:(s',e')=r:=by simpa [yR] using hd'
    have hs5':SR ⟨26,false,[mk D]⟩ s5 ⟨kn [(2,.pt 2 v2 0 0),(4,.pt 4 v4 0 0),(6,.pt 6 v6 0 0)],hk [(2,⟨33,10,true,true,v2,[aA.av s']⟩),(4,⟨33,10,true,true,v4,zr⟩),(6,⟨84,1,true,true,v6,[[.sl 20 vA 0 e'.length]]⟩),(20,⟨39,1,true,true,vA,e'.map fI⟩)]⟩ _:=hs5.zR _ _ rfl (vY ⟨rfl,rfl,rfl,trivial⟩)
    subst hz
    refine xR (Q0:=λe S'=>e=.ret/\∃ vs H2,mO Tryz.prog S' Tryz.f70.results.toList vs/\(∀ t v,H2 t=some v->S'.hp t=some v)/\Cv (l6 H2) (o9 vs) (.bD [.agg (aA.av s'),aH 1 fI e'])) hs5' rfl ?_ ?_
    · refine tc aG 1 (.mk ?_)
      refine wZ [0,0,1,7] (rl [(0,[2]),(1,[6])] []) (rl [(2,[6])] [2,6]) (rl [(2,false)] true) [0,1,2,3] mixed (by kernel_rfl) ?_;intro K hK
      refine eL oP ?_
      refine eL SY ?_
      refine xN rfl rfl rfl rfl (bY.eX (fH (ob':=(⟨33,10,true,true,v4,[aA.av s']⟩:bH)) (fC rfl oP rfl rfl rfl rfl rfl rfl rfl rfl rfl) rfl) (λ_ h=>h) (λ_ _=>trivial)) (by rintro _ _ ⟨rfl,rfl⟩;exact ⟨rfl,trivial⟩) ?_;rintro _ _ ⟨rfl,rfl⟩
      refine eA ?_
      refine wU (hK _ ?_)
      refine iX ⟨rfl,_,_,rC oP (rT .nil),λ_ _ h=>h,?_⟩
      exact bT.bD (.cons (.refl _) (.cons (dZ rfl rfl rfl rfl rfl (Eq.symm rfl)) .nil))
    · rintro e S6 s6 a6 ⟨rfl,vs,H2,q1,q2,q3⟩ hs6 hf6
      have hn6:=hn5.fr hs5'.heap hf6
      exact ⟨rfl,S6,s6,D,vs,H2,rfl,hs6,(hf4.trans hf5).trans hf6,Nat.le_trans (by rw [ew];exact hf3.size) hD,hn6,q1,q2,q3⟩
def aFD (n:Nat) (a1:aA) (a2:List bQ):Option (aA×(List Int)):=yR (rP n) (a2.take 400) a1 []
theorem aIJ {n:Nat} {a1:aA} {a2:List bQ} {r:aA×(List Int)} (h0:aFD n a1 a2=some r):PP Tryz.prog 70 [.agg (aA.av a1),aH 9 bQ.av a2] (λy=>y=.bD [.agg (aA.av r.1),aH 1 fI r.2]):=aRN (λh=>OJ _ h) h0
def aOW (n:Nat) (a1:gD) (a2:List bQ):WB (aA×(List Int)×Int) :=
 .al 1<|.al 2<|.cl 12 (UH n a1) aS6 (λ_=>aII) λx5=>.al 3<|.bB 16 (decide (x5.2≠0)) λx7=>.ifs [16] x7 (.ret (((⟨(⟨0,0,[],[],[]⟩:gD),[],[],[],[],0⟩:aA):aA),([]:List Int),x5.2)) (.cl 22 (aFD n x5.1 a2) aP2 (λ_=>aIJ) λx8=>.ret ((x8.1:aA),x8.2,0))
def aA3 (n:Nat) (a1:gD) (a2:List bQ):Option (aA×(List Int)×Int):=(aOW n a1 a2).run
theorem aPM {n a1 a2}:PZ (aA3 n a1 a2) 29 [.agg (gD.av a1),aH 9 bQ.av a2] (λr=>.bD [.agg (aA.av r.1),aH 1 fI r.2.1,int r.2.2]):=wq Tryz.func29
def aRR (n:Nat) (a1:Int) (a2:List Int):WB (Bool) :=
 .al 1<|.inl 7 DL Tryz.func155 [1] [] (λ_ (a:Bool)=>aI a) (λ_ _=>[]) (.inl 7 DY Tryz.func197 [1] [] (λ_ (a:Int)=>int a) (λ_ _=>[]) (.ln 7 fI a2<|.dU 0 [4] [1] [] (λ_ (a:Unit)=>[]) (λ_ _=>[]) (.lp [0,1,4,7] [1] [] (λ_ (a:Int)=>[(8,int a)]) (λ_ _=>[]) n 0 (λy0_1=>.bB 9 (decide (y0_1<(a2.length:Int))) λx4=>.ifs [9] x4 (.ix 14 fI a2 y0_1 λx5=>.inl 16 aMQ Tryz.func171 [1] [] (λ_ (a:Bool)=>aI a) (λ_ _=>[]) (.cl 6 (mE x5 a1 288230376151711744) nU nT λx6=>.bB 7 (!x6) λx7=>.ret x7) (λy1_1=>.ifs [16] y1_1 (.esc (.esc (.ret y0_1))) (.bI 18 (bA (y0_1+1)) λx8=>.brk x8))) (.esc (.brk ())))) (λ_=>.ret (-1))) (λy3_1=>.bB 8 (decide (y3_1>=0)) λx9=>.ret x9)) (λy4_1=>.bB 8 (!y4_1) λx10=>.ret ((x10:Bool)))
def tQ (n:Nat) (a1:Int) (a2:List Int):Option (Bool):=(aRR n a1 a2).run
theorem vI {n a1 a2}:PZ (tQ n a1 a2) 116 [int a1,aH 1 fI a2] aI:=wq Tryz.func116
def aOO (F:gD->Int->aP->Option (Bool)) (hF:∀ {a1:gD} {a2:Int} {a3:aP},PZ (F a1 a2 a3) 117 [.agg (gD.av a1),int a2,.agg [int a3.fD,aI a3.Closed,aH 4 aT.av a3.cK,aH 1 fI a3.dM,aH 11 dL.av a3.d9,aH 1 fI a3.eH,aH 1 fI a3.Down,aH 8 aP.av a3.gK]] aI) (n:Nat) (a1:gD) (a2:Int) (a3:aP):WB (Bool) :=
 .al 1<|.al 2<|.ln 14 fI a1.bN<|.jn 0 [1,3,5,6] [1,2] [] (λ_ (a:Bool)=>[(55,aI a)]) (λ_ _=>[]) (.cl 19 (mE a3.fD 1 a1.iB) nU nT λx6=>.bB 20 (!x6) λx7=>.ifs [20] x7 (.ret true) (.ln 24 aT.av a3.cK<|.bI 26 (bA ((a1.bN.length:Int)*2)) λx8=>.bB 27 (decide ((a3.cK.length:Int)≠x8)) λx9=>.ifs [27] x9 (.ret true) (.ln 32 fI a3.dM<|.bB 33 (decide ((a3.dM.length:Int)≠17)) λx10=>.ifs [33] x10 (.ret true) (.ln 38 dL.av a3.d9<|.bB 40 (decide ((a3.d9.length:Int)≠(a1.bN.length:Int))) λx11=>.ifs [40] x11 (.ret true) (.ln 45 fI a3.eH<|.bB 47 (decide ((a3.eH.length:Int)≠(a1.bN.length:Int))) λx12=>.ifs [47] x12 (.ret true) (.ln 52 fI a3.Down<|.bB 54 (decide ((a3.Down.length:Int)≠(a1.bN.length:Int))) λx13=>.ret x13)))))) (λy0_1=>.ifs [55] y0_1 (.ret ((false:Bool))) (.ln 58 aT.av a3.cK<|.dU 0 [1,3,5,6] [1,2] [] (λ_ (a:Unit)=>[]) (λ_ _=>[]) (.lp [1,3,5,6,57,58] [1,2] [] (λ_ (a:Int)=>[(59,int a)]) (λ_ _=>[]) n 0 (λy1_1=>.bB 60 (decide (y1_1<(a3.cK.length:Int))) λx14=>.ifs [60] x14 (.ix 62 aT.av a3.cK y1_1 λx15=>.al 3<|.dr [(0,[1]),(1,[1]),(9,[3])] [] [1,3] [] [0,1,2,3,4,5,6,7,8,9,10,11] (.ix 67 (fL 1 fI) a1.Methods a2 λx17=>.bI 70 (bA (y1_1.tdiv 2)) λx18=>.ix 71 fI x17 x18 λx19=>.cl 74 (PO n x19 x15) aHY aCZ λx20=>.bB 75 (!x20) λx21=>.ifs [75] x21 (.esc (.esc (.ret ((false:Bool))))) (.bI 76 (bA (y1_1+1)) λx22=>.brk x22))) (.esc (.brk ())))) (λ_=>.ln 79 dL.av a3.d9<|.dU 0 [1,3,5,6] [1,2] [] (λ_ (a:Unit)=>[]) (λ_ _=>[]) (.lp [1,3,5,6,78,79] [1,2] [] (λ_ (a:Int)=>[(80,int a)]) (λ_ _=>[]) n 0 (λy3_1=>.bB 81 (decide (y3_1<(a3.d9.length:Int))) λx23=>.ifs [81] x23 (.ix 82 dL.av a3.d9 y3_1 λx24=>.al 4<|.inl 85 aCL Tryz.func98 [1,2,4] [] (λ_ (a:Unit)=>aH 1 fI ([x24.Open,x24.lS,x24.lJ,x24.lM,x24.lY,x24.l9,x24.lN,x24.lW,x24.l5,x24.mD,x24.lZ]:List Int)) (λ_ _=>[]) (.al 5<|.to 25 (aH 1 fI ([x24.Open,x24.lS,x24.lJ,x24.lM,x24.lY,x24.l9,x24.lN,x24.lW,x24.l5,x24.mD,x24.lZ]:List Int))<|.ret ()) (λ_=>.cl 86 (tQ n (-288230376151711744) ([x24.Open,x24.lS,x24.lJ,x24.lM,x24.lY,x24.l9,x24.lN,x24.lW,x24.l5,x24.mD,x24.lZ]:List Int)) vE vI λx27=>.bB 87 (!x27) λx28=>.ifs [87] x28 (.esc (.esc (.ret ((false:Bool))))) (.bI 88 (bA (y3_1+1)) λx29=>.brk x29))) (.esc (.brk ())))) (λ_=>.jn 0 [1,3,5,6] [1,2] [] (λ_ (a:Bool)=>[(119,aI a)]) (λ_ _=>[]) (.cl 91 (tQ n (-288230376151711744) a3.dM) vE vI λx30=>.bB 92 (!x30) λx31=>.ifs [92] x31 (.ret true) (.cl 96 (tQ n (-1) a3.eH) vE vI λx32=>.bB 97 (!x32) λx33=>.ifs [97] x33 (.ret true) (.cl 102 (tQ n 0 a3.Down) vE vI λx34=>.bB 103 (!x34) λx35=>.ifs [103] x35 (.ret true) (.ln 108 aP.av a3.gK<|.bB 109 (decide ((a3.gK.length:Int)>1)) λx36=>.ifs [109] x36 (.ret true) (.ln 116 aP.av a3.gK<|.bB 117 (decide ((a3.gK.length:Int)=1)) λx37=>.bl (decide (a3.Closed≠x37):Bool) λx38=>.gv 118<|.ret x38))))) (λy6_1=>.ifs [119] y6_1 (.ret ((false:Bool))) (.jn 1 [] [] [] (λ_ (a:Bool)=>[(6,aI a)]) (λ_ _=>[]) (.dr [(0,[2]),(1,[2]),(4,[2]),(5,[2]),(12,[1]),(14,[2]),(15,[2])] [] [1,2] [] [0,1,2,3,4,5,6,7,8,9,10,11,12,13,14,15,16,17,18,19,20,21] (.bB 122 (!a3.Closed) λx39=>.ifs [122] x39 (.ret true) (.iF 126 aP.av gE aP.dA a3.gK 0 λx40=>.ln 129 aP.av x40.gK<|.bB 130 (decide ((x40.gK.length:Int)=0)) λx41=>.ifs [130] x41 (.iF 136 aP.av gE aP.dA a3.gK 0 λx42=>.cl 138 (F a1 a2 x42) ZS hF λx43=>.ret x43) (.ret false)))) (λy7_1=>.ret ((y7_1:Bool)))))))))
noncomputable def NR:Nat->{ F:gD->Int->aP->Option (Bool) // ∀ {a1:gD} {a2:Int} {a3:aP},PZ (F a1 a2 a3) 117 [.agg (gD.av a1),int a2,.agg [int a3.fD,aI a3.Closed,aH 4 aT.av a3.cK,aH 1 fI a3.dM,aH 11 dL.av a3.d9,aH 1 fI a3.eH,aH 1 fI a3.Down,aH 8 aP.av a3.gK]] aI }
 | 0=>⟨λ_ _ _=>none,λ_ h=>nomatch h⟩
 | n+1=>⟨λa1 a2 a3=>(aOO (NR n).1 (NR n).2 n a1 a2 a3).run,wq Tryz.func117⟩
noncomputable def X3 (n:Nat) (a1:gD) (a2:Int) (a3:aP):Option (Bool):=(NR n).1 a1 a2 a3
theorem aNE {n a1 a2 a3}:PZ (X3 n a1 a2 a3) 117 [.agg (gD.av a1),int a2,.agg [int a3.fD,aI a3.Closed,aH 4 aT.av a3.cK,aH 1 fI a3.dM,aH 11 dL.av a3.d9,aH 1 fI a3.eH,aH 1 fI a3.Down,aH 8 aP.av a3.gK]] aI:=(NR n).2
def aQO (n:Nat) (a1:aA):WB (Bool) :=
 .al 1<|.al 2<|.jn 0 [1,2,3] [1,2] [] (λ_ (a:Bool)=>[(45,aI a)]) (λ_ _=>[]) (.cl 16 (V4 n a1.bF) aCQ YW λx4=>.bB 17 (!x4) λx5=>.ifs [17] x5 (.ret true) (.ln 21 aP.av a1.aW<|.bB 24 (decide ((a1.aW.length:Int)≠a1.bF.fO)) λx6=>.ifs [24] x6 (.ret true) (.ln 29 dH.av a1.dG<|.ln 32 dV.av a1.dO<|.ln 35 dD.av a1.bL<|.bl (if (a1.bL.length:Int)>(if (a1.dO.length:Int)>(a1.dG.length:Int) then (a1.dO.length:Int) else (a1.dG.length:Int)) then (a1.bL.length:Int) else (if (a1.dO.length:Int)>(a1.dG.length:Int) then (a1.dO.length:Int) else (a1.dG.length:Int)):Int) λx7=>.gv 36<|.bB 37 (decide (x7>40)) λx8=>.ifs [37] x8 (.ret true) (.to 42 (aH 1 fI ([a1.Done]:List Int))<|.cl 43 (tQ n 0 ([a1.Done]:List Int)) vE vI λx9=>.bB 44 (!x9) λx10=>.ret x10)))) (λy0_1=>.ifs [45] y0_1 (.ret ((false:Bool))) (.ln 48 aP.av a1.aW<|.dU 0 [1,2,3] [1,2] [] (λ_ (a:Unit)=>[]) (λ_ _=>[]) (.lp [1,2,3,47,48] [1,2] [] (λ_ (a:Int)=>[(49,int a)]) (λ_ _=>[]) n 0 (λy1_1=>.bB 50 (decide (y1_1<(a1.aW.length:Int))) λx11=>.ifs [50] x11 (.iF 52 aP.av gE aP.dA a1.aW y1_1 λx12=>.al 3<|.cl 57 (X3 n a1.bF y1_1 x12) ZS aNE λx14=>.bB 58 (!x14) λx15=>.ifs [58] x15 (.esc (.esc (.ret ((false:Bool))))) (.bI 59 (bA (y1_1+1)) λx16=>.brk x16)) (.esc (.brk ())))) (λ_=>.ln 63 dH.av a1.dG<|.dU 0 [1,2,6] [1,2] [] (λ_ (a:Unit)=>[]) (λ_ _=>[]) (.lp [1,2,6,62,63] [1,2] [] (λ_ (a:Int)=>[(64,int a)]) (λ_ _=>[]) n 0 (λy3_1=>.bB 65 (decide (y3_1<(a1.dG.length:Int))) λx17=>.ifs [65] x17 (.ix 66 dH.av a1.dG y3_1 λx18=>.al 4<|.jn 0 [1,2,6,62,63,64] [1,2] [] (λ_ (a:Bool)=>[(103,aI a)]) (λ_ _=>[]) (.inl 75 JB Tryz.func118 [1,2,4] [] (λ_ (a:Bool)=>aI a) (λ_ _=>[]) (.jn 1 [] [1,2,4] [] (λ_ (a:Bool)=>[(7,aI a)]) (λ_ _=>[]) (.bI 11 (bA (a1.bF.fO-1)) λx20=>.cl 12 (mE x18.fG 0 x20) nU nT λx21=>.ifs [12] x21 (.ln 17 fI a1.bF.bN<|.bI 18 (bA ((a1.bF.bN.length:Int)-1)) λx22=>.cl 19 (mE x18.Item 0 x22) nU nT λx23=>.ifs [19] x23 (.cl 23 (mE x18.Loc 0 1) nU nT λx24=>.ret x24) (.ret false)) (.ret false)) (λy4_1=>.ret y4_1)) (λy5_1=>.bB 76 (!y5_1) λx25=>.ifs [76] x25 (.ret true) (.to 84 (aH 1 fI ([x18.aS,x18.Value,x18.pV]:List Int))<|.cl 85 (tQ n 0 ([x18.aS,x18.Value,x18.pV]:List Int)) vE vI λx26=>.bB 86 (!x26) λx27=>.ifs [86] x27 (.ret true) (.cl 93 (mE x18.Open 0 x18.aS) nU nT λx28=>.bB 94 (!x28) λx29=>.ifs [94] x29 (.ret true) (.cl 101 (mE x18.jJ 0 x18.aS) nU nT λx30=>.bB 102 (!x30) λx31=>.ret x31))))) (λy6_1=>.ifs [103] y6_1 (.esc (.esc (.ret ((false:Bool))))) (.bI 104 (bA (y3_1+1)) λx32=>.brk x32))) (.esc (.brk ())))) (λ_=>.ln 107 dV.av a1.dO<|.dU 0 [1,2,6] [1,2] [] (λ_ (a:Unit)=>[]) (λ_ _=>[]) (.lp [1,2,6,106,107] [1,2] [] (λ_ (a:Int)=>[(108,int a)]) (λ_ _=>[]) n 0 (λy8_1=>.bB 109 (decide (y8_1<(a1.dO.length:Int))) λx33=>.ifs [109] x33 (.ix 110 dV.av a1.dO y8_1 λx34=>.al 5<|.jn 0 [1,2,6,106,107,108] [1,2] [] (λ_ (a:Bool)=>[(150,aI a)]) (λ_ _=>[]) (.inl 119 JB Tryz.func118 [1,2,5] [] (λ_ (a:Bool)=>aI a) (λ_ _=>[]) (.jn 1 [] [1,2,5] [] (λ_ (a:Bool)=>[(7,aI a)]) (λ_ _=>[]) (.bI 11 (bA (a1.bF.fO-1)) λx36=>.cl 12 (mE x34.fG 0 x36) nU nT λx37=>.ifs [12] x37 (.ln 17 fI a1.bF.bN<|.bI 18 (bA ((a1.bF.bN.length:Int)-1)) λx38=>.cl 19 (mE x34.Item 0 x38) nU nT λx39=>.ifs [19] x39 (.cl 23 (mE x34.Loc 0 1) nU nT λx40=>.ret x40) (.ret false)) (.ret false)) (λy9_1=>.ret y9_1)) (λy10_1=>.bB 120 (!y10_1) λx41=>.ifs [120] x41 (.ret true) (.to 126 (aH 1 fI ([x34.aS,x34.yD]:List Int))<|.cl 127 (tQ n 0 ([x34.aS,x34.yD]:List Int)) vE vI λx42=>.bB 128 (!x42) λx43=>.ifs [128] x43 (.ret true) (.cl 135 (mE x34.jJ 0 x34.aS) nU nT λx44=>.bB 136 (!x44) λx45=>.ifs [136] x45 (.ret true) (.to 141 (aH 1 fI ([x34.bE]:List Int))<|.cl 142 (tQ n (-288230376151711744) ([x34.bE]:List Int)) vE vI λx46=>.bB 143 (!x46) λx47=>.ifs [143] x47 (.ret true) (.cl 148 (mE x34.qT 1 12) nU nT λx48=>.bB 149 (!x48) λx49=>.ret x49)))))) (λy11_1=>.ifs [150] y11_1 (.esc (.esc (.ret ((false:Bool))))) (.bI 151 (bA (y8_1+1)) λx50=>.brk x50))) (.esc (.brk ())))) (λ_=>.ln 154 dD.av a1.bL<|.dU 0 [2] [] [] (λ_ (a:Unit)=>[]) (λ_ _=>[]) (.lp [2,6,153,154] [2] [] (λ_ (a:Int)=>[(155,int a)]) (λ_ _=>[]) n 0 (λy13_1=>.bB 156 (decide (y13_1<(a1.bL.length:Int))) λx51=>.ifs [156] x51 (.ix 157 dD.av a1.bL y13_1 λx52=>.al 6<|.jn 0 [2,6,153,154,155] [2] [] (λ_ (a:Bool)=>[(190,aI a)]) (λ_ _=>[]) (.inl 164 JB Tryz.func118 [2,6] [] (λ_ (a:Bool)=>aI a) (λ_ _=>[]) (.jn 1 [] [2,6] [] (λ_ (a:Bool)=>[(7,aI a)]) (λ_ _=>[]) (.bI 11 (bA (a1.bF.fO-1)) λx54=>.cl 12 (mE x52.yH 0 x54) nU nT λx55=>.ifs [12] x55 (.ln 17 fI a1.bF.bN<|.bI 18 (bA ((a1.bF.bN.length:Int)-1)) λx56=>.cl 19 (mE x52.Item 0 x56) nU nT λx57=>.ifs [19] x57 (.cl 23 (mE 0 0 1) nU nT λx58=>.ret x58) (.ret false)) (.ret false)) (λy14_1=>.ret y14_1)) (λy15_1=>.bB 165 (!y15_1) λx59=>.ifs [165] x59 (.ret true) (.inl 172 JB Tryz.func118 [2,6] [] (λ_ (a:Bool)=>aI a) (λ_ _=>[]) (.jn 1 [] [2,6] [] (λ_ (a:Bool)=>[(7,aI a)]) (λ_ _=>[]) (.bI 11 (bA (a1.bF.fO-1)) λx60=>.cl 12 (mE x52.To 0 x60) nU nT λx61=>.ifs [12] x61 (.ln 17 fI a1.bF.bN<|.bI 18 (bA ((a1.bF.bN.length:Int)-1)) λx62=>.cl 19 (mE x52.Item 0 x62) nU nT λx63=>.ifs [19] x63 (.cl 23 (mE 0 0 1) nU nT λx64=>.ret x64) (.ret false)) (.ret false)) (λy16_1=>.ret y16_1)) (λy17_1=>.bB 173 (!y17_1) λx65=>.ifs [173] x65 (.ret true) (.to 180 (aH 1 fI ([x52.aS,x52.Value]:List Int))<|.cl 181 (tQ n 0 ([x52.aS,x52.Value]:List Int)) vE vI λx66=>.bB 182 (!x66) λx67=>.ifs [182] x67 (.ret true) (.to 187 (aH 1 fI ([x52.bE]:List Int))<|.cl 188 (tQ n (-288230376151711744) ([x52.bE]:List Int)) vE vI λx68=>.bB 189 (!x68) λx69=>.ret x69)))))) (λy18_1=>.ifs [190] y18_1 (.esc (.esc (.ret ((false:Bool))))) (.bI 191 (bA (y13_1+1)) λx70=>.brk x70))) (.esc (.brk ())))) (λ_=>.ret ((true:Bool))))))))
def aG4 (n:Nat) (a1:aA):Option (Bool):=(aQO n a1).run
theorem aSB {n a1}:PZ (aG4 n a1) 71 [.agg (aA.av a1)] aI:=wq Tryz.func71
def aL9 (a1:aA) (a2:Int) (a3:Int):WB (Int×Bool) :=
 .al 1<|.jn 0 [1,2,3,6,7] [1] [] (λ_ (a:Bool)=>[(27,aI a)]) (λ_ _=>[]) (.bB 9 (decide (a2<0)) λx5=>.ifs [9] x5 (.ret true) (.ln 14 aP.av a1.aW<|.bB 15 (decide (a2>=(a1.aW.length:Int))) λx6=>.ifs [15] x6 (.ret true) (.iF 22 aP.av gE aP.dA a1.aW a2 λx7=>.ln 25 fI x7.dM<|.bB 26 (decide (a3>=(x7.dM.length:Int))) λx8=>.ret x8))) (λy0_1=>.ifs [27] y0_1 (.ret ((0:Int),false)) (.iF 31 aP.av gE aP.dA a1.aW a2 λx9=>.ix 35 fI x9.dM a3 λx10=>.ret ((x10:Int),true)))
def WC (a1:aA) (a2:Int) (a3:Int):Option (Int×Bool):=(aL9 a1 a2 a3).run
theorem aGH {a1 a2 a3}:PZ (WC a1 a2 a3) 119 [.agg (aA.av a1),int a2,int a3] (λr=>.bD [int r.1,aI r.2]):=wq Tryz.func119
def aM2 (n:Nat) (a1:aA):WB (Bool) :=
 .al 1<|.ln 11 aP.av a1.aW<|.dU 0 [2] [] [] (λ_ (a:Int)=>[(3,int a)]) (λ_ _=>[]) (.lp [1,2,11] [1] [] (λ_ (a:Int×Int)=>[(3,int a.1),(12,int a.2)]) (λ_ _=>[]) n ((0:Int),0) (pw λy0_1 y0_2=>.bB 13 (decide (y0_2<(a1.aW.length:Int))) λx3=>.ifs [13] x3 (.dU 1 [1,2,11,12] [1] [] (λ_ (a:Int)=>[(3,int a)]) (λ_ _=>[]) (.gv 15<|.dU 0 [1,2,11,12] [1] [] (λ_ (a:Int)=>[(3,int a)]) (λ_ _=>[]) (.lp [1,2,4,11,12,15] [1] [] (λ_ (a:Int×Int)=>[(3,int a.1),(16,int a.2)]) (λ_ _=>[]) n ((y0_1:Int),0) (pw λy1_1 y1_2=>.bB 17 (decide (y1_2<2)) λx4=>.ifs [17] x4 (.bo (ix ([13,14]:List Int) y1_2) λx5=>.gv 18<|.cl 23 (WC a1 y0_2 x5) aAE aGH λx6=>.bB 27 (!x6.2) λx7=>.ifs [27] x7 (.esc (.esc (.esc (.esc (.esc (.ret ((false:Bool)))))))) (.bI 30 (bA (y1_1+x6.1)) λx8=>.bI 31 (bA (y1_2+1)) λx9=>.brk ((x8:Int),x9))) (.esc (.brk y1_1)))) (λy2_1=>.brk y2_1)) (λy3_1=>.bI 32 (bA (y0_2+1)) λx10=>.brk ((y3_1:Int),x10))) (.esc (.brk y0_1)))) (λy4_1=>.bB 34 (decide (y4_1=0)) λx11=>.ret ((x11:Bool)))
def aGI (n:Nat) (a1:aA):Option (Bool):=(aM2 n a1).run
theorem aS2 {n a1}:PZ (aGI n a1) 72 [.agg (aA.av a1)] aI:=by
 refine wm Tryz.func72 ?_
 intro v2
 refine .mk ?_
 refine .mk ?_ ?_
 refine .mk ?_
 intro _ _
 refine .mk λx3=>?_
 refine .mk ?_ ?_
 refine .mk ?_ ?_
 refine .mk _ (bK (wF (cs:=[int 13,int 14]) (ps:=[(0,_),(1,_)]) rfl Tryz.underlying201 dP z201 rfl (.cons rfl (.cons rfl .nil)) (by kernel_rfl))) ?_
 refine .mk ?_ ?_
 refine .mk ?_
 intro _ _
 refine .mk λx4=>?_
 refine .mk ?_ ?_
 refine .mk λx5 e5=>?_
 refine .mk _ (bK (xD (g:=fI) (l:=([13,14]:List Int)) (v:=x5) (w:=int x5) rfl Tryz.underlying201 dP rfl rfl rfl e5 (λ_=>rfl) hw1)) ?_
 refine .mk λx6 e6=>?_
 refine .mk λx7=>?_
 refine .mk .mk ?_
 refine .mk λx8=>?_
 refine .mk λx9=>?_
 exact .mk
 exact .mk
 intro _ _
 exact .mk
 intro _ _
 refine .mk λx10=>?_
 exact .mk
 exact .mk
 intro _ _
 refine .mk λx11=>?_
 exact .mk
def aWP (n:Nat) (a1:aA) (a2:Int):WB (Int) :=
 .al 1<|.ln 12 fI a1.bF.bN<|.jn 0 [4] [] [3] (λu2 (a:(List Int))=>[(5,.sl 3 (u2 3) 0 a.length)]) (λ_ a=>[.nw 3 3 1 (a.map fI)]) (.no 5 3 3 1<|.lp [1,2,4,12] [1] [3] (λu3 (a:Int×(List Int))=>[(5,.sl 3 (u3 3) 0 a.2.length),(13,int a.1)]) (λ_ a=>[.nw 3 3 1 (a.2.map fI)]) n ((0:Int),(([]:List Int):List Int)) (pw λy0_2 y0_3=>.bB 14 (decide (y0_2<(a1.bF.bN.length:Int))) λx5=>.ifs [14] x5 (.cl 20 (wM n a1 a2 y0_2) B9 CW λx6=>.to 22 (aH 1 fI ([x6.Value]:List Int))<|.bl (y0_3++([x6.Value]:List Int):List Int) λx7=>.as (x7.length<=68719476736) inferInstance<|.ge 23 0<|.bI 24 (bA (y0_2+1)) λx10=>.brk ((x10:Int),x7)) (.esc (.ret y0_3)))) (λy1_2=>.jF 27 (kN n y1_2) nM nO (λ_=>rfl) λx11=>.ret ((x11.1:Int)))
def YI (n:Nat) (a1:aA) (a2:Int):Option (Int):=(aWP n a1 a2).run
theorem aIE {n a1 a2}:PZ (YI n a1 a2) 121 [.agg (aA.av a1),int a2] int:=wq Tryz.func121
def aIS (n:Nat) (a1:aA) (a2:Int) (a3:Int) (a4:List Int) (a5:Int):WB (Bool) :=
 .al 1<|.cl 19 (WC a1 a2 a3) aAE aGH λx7=>.cl 24 (kN n a4) nM nO λx8=>.jn 0 [] [] [] (λ_ (a:Bool)=>[(10,aI a)]) (λ_ _=>[]) (.ifs [12,21] x7.2 (.bB 30 (decide (x8.2=0)) λx9=>.ifs [30] x9 (.bI 35 (bA (x8.1*a5)) λx10=>.bB 37 (decide (x10=x7.1)) λx11=>.ret x11) (.ret false)) (.ret false)) (λy0_1=>.ret ((y0_1:Bool)))
def EX (n:Nat) (a1:aA) (a2:Int) (a3:Int) (a4:List Int) (a5:Int):Option (Bool):=(aIS n a1 a2 a3 a4 a5).run
theorem KI {n a1 a2 a3 a4 a5}:PZ (EX n a1 a2 a3 a4 a5) 120 [.agg (aA.av a1),int a2,int a3,aH 1 fI a4,int a5] aI:=wq Tryz.func120
def aVV (n:Nat) (a1:aA) (a2:Int):WB (Bool) :=
 .al 1<|.dr [(0,[1]),(2,[1])] [] [1] [] [0,1,2,3,4,5,6,7] (.cl 9 (YI n a1 a2) aUE aIE λx4=>.to 10 (aH 1 fI ([x4]:List Int))<|.cl 11 (EX n a1 a2 0 ([x4]:List Int) 1) LU KI λx5=>.ret ((x5:Bool)))
def YS (n:Nat) (a1:aA) (a2:Int):Option (Bool):=(aVV n a1 a2).run
theorem aUM {n a1 a2}:PZ (YS n a1 a2) 73 [.agg (aA.av a1),int a2] aI:=wq Tryz.func73
def aKI (n:Nat) (a1:aA) (a2:Int):WB (Bool) :=
 .al 1<|.ln 10 dH.av a1.dG<|.jn 0 [1,2,4] [1] [4] (λu6 (a:(List Int))=>[(5,.sl 4 (u6 4) 0 a.length)]) (λ_ a=>[.nw 4 3 1 (a.map fI)]) (.no 5 4 3 1<|.lp [1,2,4,9,10] [1] [4] (λu10 (a:Int×(List Int))=>[(5,.sl 4 (u10 4) 0 a.2.length),(11,int a.1)]) (λ_ a=>[.nw 4 3 1 (a.2.map fI)]) n ((0:Int),(([]:List Int):List Int)) (pw λy0_2 y0_3=>.bB 12 (decide (y0_2<(a1.dG.length:Int))) λx5=>.ifs [12] x5 (.jn 1 [1,2,4,9,10,11] [1] [4] (λu11 (a:(List Int))=>[(5,.sl 4 (u11 4) 0 a.length)]) (λ_ a=>[.nw 4 3 1 (a.map fI)]) (.ix 13 dH.av a1.dG y0_2 λx6=>.al 2<|.bB 18 (decide (x6.fG=a2)) λx8=>.ifs [18] x8 (.to 22 (aH 1 fI ([x6.pV]:List Int))<|.bl (y0_3++([x6.pV]:List Int):List Int) λx9=>.as (x9.length<=68719476736) inferInstance<|.ge 23 0<|.ret x9) (.ret y0_3)) (λy1_2=>.bI 24 (bA (y0_2+1)) λx12=>.brk ((x12:Int),y1_2))) (.esc (.ret y0_3)))) (λy2_2=>.jF 28 (EX n a1 a2 1 y2_2 (-1)) LU KI (λ_=>rfl) λx13=>.ret ((x13:Bool)))
def aHE (n:Nat) (a1:aA) (a2:Int):Option (Bool):=(aKI n a1 a2).run
theorem aUW {n a1 a2}:PZ (aHE n a1 a2) 74 [.agg (aA.av a1),int a2] aI:=wq Tryz.func74
def aTI (n:Nat) (a1:aA) (a2:Int):WB (Bool) :=
 .al 1<|.ln 10 dD.av a1.bL<|.jn 0 [1,2,4] [1] [4] (λu6 (a:(List Int))=>[(5,.sl 4 (u6 4) 0 a.length)]) (λ_ a=>[.nw 4 3 1 (a.map fI)]) (.no 5 4 3 1<|.lp [1,2,4,9,10] [1] [4] (λu10 (a:Int×(List Int))=>[(5,.sl 4 (u10 4) 0 a.2.length),(11,int a.1)]) (λ_ a=>[.nw 4 3 1 (a.2.map fI)]) n ((0:Int),(([]:List Int):List Int)) (pw λy0_2 y0_3=>.bB 12 (decide (y0_2<(a1.bL.length:Int))) λx5=>.ifs [12] x5 (.jn 1 [1,2,4,9,10,11] [1] [4] (λu11 (a:(List Int))=>[(5,.sl 4 (u11 4) 0 a.length)]) (λ_ a=>[.nw 4 3 1 (a.map fI)]) (.ix 13 dD.av a1.bL y0_2 λx6=>.al 2<|.bB 18 (decide (x6.To=a2)) λx8=>.ifs [18] x8 (.to 22 (aH 1 fI ([x6.Value]:List Int))<|.bl (y0_3++([x6.Value]:List Int):List Int) λx9=>.as (x9.length<=68719476736) inferInstance<|.ge 23 0<|.ret x9) (.ret y0_3)) (λy1_2=>.bI 24 (bA (y0_2+1)) λx12=>.brk ((x12:Int),y1_2))) (.esc (.ret y0_3)))) (λy2_2=>.jF 28 (EX n a1 a2 12 y2_2 1) LU KI (λ_=>rfl) λx13=>.ret ((x13:Bool)))
def aD2 (n:Nat) (a1:aA) (a2:Int):Option (Bool):=(aTI n a1 a2).run
theorem aH4 {n a1 a2}:PZ (aD2 n a1 a2) 75 [.agg (aA.av a1),int a2] aI:=wq Tryz.func75
def aTF (n:Nat) (a1:aA) (a2:Int):WB (Bool) :=
 .al 1<|.jn 0 [1,2,4] [1] [] (λ_ (a:Bool)=>[(13,aI a)]) (λ_ _=>[]) (.bB 6 (decide (a2<0)) λx4=>.ifs [6] x4 (.ret true) (.ln 11 aP.av a1.aW<|.bB 12 (decide (a2>=(a1.aW.length:Int))) λx5=>.ret x5)) (λy0_1=>.ifs [13] y0_1 (.ret ((false:Bool))) (.dr [(0,[1]),(2,[1]),(3,[1])] [] [1] [] [0,1,2,3,4,5,6,7,8,9] (.iF 19 aP.av gE aP.dA a1.aW a2 λx6=>.cl 22 (EX n a1 a2 11 x6.Down (-1)) LU KI λx7=>.ret ((x7:Bool)))))
def aE9 (n:Nat) (a1:aA) (a2:Int):Option (Bool):=(aTF n a1 a2).run
theorem aRC {n a1 a2}:PZ (aE9 n a1 a2) 76 [.agg (aA.av a1),int a2] aI:=wq Tryz.func76
def aKT (n:Nat) (a1:List Int):WB (Int×Int×Int) :=
 .ln 8 fI a1<|.bB 9 (decide ((a1.length:Int)≠17)) λx2=>.ifs [9] x2 (.ret ((0:Int),0,1)) (.ln 11 fI a1<|.dU 0 [4] [] [] (λ_ (a:Int×Int)=>[(2,int a.1),(3,int a.2)]) (λ_ _=>[]) (.lp [4,10,11] [] [] (λ_ (a:Int×Int×Int)=>[(2,int a.1),(3,int a.2.1),(12,int a.2.2)]) (λ_ _=>[]) n ((0:Int),0,0) (pw λy0_1 q0=>(pw λy0_2 y0_3=>.bB 13 (decide (y0_3<(a1.length:Int))) λx3=>.ifs [13] x3 (.dU 1 [4,10,11,12] [] [] (λ_ (a:Int×Int)=>[(2,int a.1),(3,int a.2)]) (λ_ _=>[]) (.ix 14 fI a1 y0_3 λx4=>.jn 1 [2,3,4,6,10,11,12] [] [] (λ_ (a:Bool)=>[(19,aI a)]) (λ_ _=>[]) (.bB 21 (decide (x4<(-288230376151711744))) λx5=>.ifs [21] x5 (.ret true) (.bB 24 (decide (x4>288230376151711744)) λx6=>.ret x6)) (λy1_1=>.ifs [19] y1_1 (.esc (.esc (.esc (.ret ((0:Int),0,2))))) (.bB 28 (decide (x4>0)) λx7=>.ifs [28] x7 (.bI 31 (bA (y0_1+x4)) λx8=>.brk ((x8:Int),y0_2)) (.bI 18 (bA (y0_2-x4)) λx9=>.brk ((y0_1:Int),x9))))) (pw λy2_1 y2_2=>.bI 32 (bA (y0_3+1)) λx10=>.brk ((y2_1:Int),y2_2,x10))) (.esc (.brk ((y0_1:Int),y0_2)))) q0)) (pw λy3_1 y3_2=>.ret ((y3_1:Int),y3_2,0)))
def YZ (n:Nat) (a1:List Int):Option (Int×Int×Int):=(aKT n a1).run
theorem aXO {n a1}:PZ (YZ n a1) 122 [aH 1 fI a1] (λr=>.bD [int r.1,int r.2.1,int r.2.2]):=wq Tryz.func122
def aTU (n:Nat) (a1:aA) (a2:Int):WB (Bool) :=
 .al 1<|.jn 0 [1,2,4] [1] [] (λ_ (a:Bool)=>[(16,aI a)]) (λ_ _=>[]) (.bB 9 (decide (a2<0)) λx4=>.ifs [9] x4 (.ret true) (.ln 14 aP.av a1.aW<|.bB 15 (decide (a2>=(a1.aW.length:Int))) λx5=>.ret x5)) (λy0_1=>.ifs [16] y0_1 (.ret ((false:Bool))) (.iF 21 aP.av gE aP.dA a1.aW a2 λx6=>.cl 24 (YZ n x6.dM) aVQ aXO λx7=>.jn 0 [] [] [] (λ_ (a:Bool)=>[(4,aI a)]) (λ_ _=>[]) (.bB 29 (decide (x7.2.2=0)) λx8=>.ifs [29] x8 (.bB 33 (decide (x7.1=x7.2.1)) λx9=>.ret x9) (.ret false)) (λy1_1=>.ret ((y1_1:Bool)))))
def ZI (n:Nat) (a1:aA) (a2:Int):Option (Bool):=(aTU n a1 a2).run
theorem aWS {n a1 a2}:PZ (ZI n a1 a2) 77 [.agg (aA.av a1),int a2] aI:=wq Tryz.func77
def aO0 (n:Nat) (a1:aA) (a2:Int) (a3:Int):WB (Bool) :=
 .al 1<|.jn 0 [1,2,3,6] [1] [] (λ_ (a:Bool)=>[(41,aI a)]) (λ_ _=>[]) (.bB 11 (decide (a2<0)) λx5=>.ifs [11] x5 (.ret true) (.ln 16 aP.av a1.aW<|.bB 17 (decide (a2>=(a1.aW.length:Int))) λx6=>.ifs [17] x6 (.ret true) (.bB 21 (decide (a3<0)) λx7=>.ifs [21] x7 (.ret true) (.iF 28 aP.av gE aP.dA a1.aW a2 λx8=>.ln 31 dL.av x8.d9<|.bB 32 (decide (a3>=(x8.d9.length:Int))) λx9=>.ifs [32] x9 (.ret true) (.ln 39 fI a1.bF.bN<|.bB 40 (decide (a3>=(a1.bF.bN.length:Int))) λx10=>.ret x10))))) (λy0_1=>.ifs [41] y0_1 (.ret ((false:Bool))) (.iF 45 aP.av gE aP.dA a1.aW a2 λx11=>.ix 49 dL.av x11.d9 a3 λx12=>.al 2<|.bI 55 (bA (x12.Open+x12.lS)) λx14=>.bI 58 (bA (x14+x12.lJ)) λx15=>.bI 61 (bA (x15+x12.lM)) λx16=>.bI 64 (bA (x16+x12.lY)) λx17=>.bI 67 (bA (x17+x12.lZ)) λx18=>.bI 72 (bA (x12.l9+x12.lN)) λx19=>.bI 75 (bA (x19+x12.lW)) λx20=>.bI 78 (bA (x20+x12.l5)) λx21=>.bI 81 (bA (x21+x12.mD)) λx22=>.bI 84 (bA (x18-x22)) λx23=>.cl 88 (wM n a1 a2 a3) B9 CW λx24=>.bB 90 (decide (x23=x24.Value)) λx25=>.ret ((x25:Bool))))
def aGR (n:Nat) (a1:aA) (a2:Int) (a3:Int):Option (Bool):=(aO0 n a1 a2 a3).run
theorem aJJ {n a1 a2 a3}:PZ (aGR n a1 a2 a3) 78 [.agg (aA.av a1),int a2,int a3] aI:=wq Tryz.func78
def aSJ (n:Nat) (a1:aA):WB (Bool) :=
 .al 1<|.jn 0 [1,2] [1] [] (λ_ (a:Bool)=>[(15,aI a)]) (λ_ _=>[]) (.cl 9 (aG4 n a1) aUK aSB λx3=>.bB 10 (!x3) λx4=>.ifs [10] x4 (.ret true) (.cl 13 (aGI n a1) aTL aS2 λx5=>.bB 14 (!x5) λx6=>.ret x6)) (λy0_1=>.ifs [15] y0_1 (.ret ((false:Bool))) (.gv 21<|.al 2<|.ln 24 aP.av a1.aW<|.dU 0 [2] [] [] (λ_ (a:Unit)=>[]) (λ_ _=>[]) (.lp [1,2,3,24] [1,2] [] (λ_ (a:Int)=>[(25,int a)]) (λ_ _=>[]) n 0 (λy1_1=>.bB 26 (decide (y1_1<(a1.aW.length:Int))) λx8=>.ifs [26] x8 (.dU 1 [1,2,3,24,25] [1,2] [] (λ_ (a:Unit)=>[]) (λ_ _=>[]) (.dU 3 [1,2,3,4,24,25] [1,2] [] (λ_ (a:Unit)=>[]) (λ_ _=>[]) (.un 24 (.kB 30 true<|.gv 31<|.al 3<|.cl 36 (YS n a1 y1_1) aO7 aUM λx10=>.bB 37 (!x10) λx11=>.ifs [37] x11 (.esc (.esc (.esc (.esc (.ret ((false:Bool))))))) (.kI 38 1<|.kB 30 true<|.gv 31<|.al 4<|.cl 36 (aHE n a1 y1_1) aIG aUW λx13=>.bB 37 (!x13) λx14=>.ifs [37] x14 (.esc (.esc (.esc (.esc (.ret ((false:Bool))))))) (.kI 38 2<|.kB 30 true<|.gv 31<|.al 5<|.cl 36 (aD2 n a1 y1_1) aQH aH4 λx16=>.bB 37 (!x16) λx17=>.ifs [37] x17 (.esc (.esc (.esc (.esc (.ret ((false:Bool))))))) (.kI 38 3<|.kB 30 true<|.gv 31<|.al 6<|.cl 36 (aE9 n a1 y1_1) aK1 aRC λx19=>.bB 37 (!x19) λx20=>.ifs [37] x20 (.esc (.esc (.esc (.esc (.ret ((false:Bool))))))) (.kI 38 4<|.kB 30 true<|.gv 31<|.al 7<|.cl 36 (ZI n a1 y1_1) aN0 aWS λx22=>.bB 37 (!x22) λx23=>.ifs [37] x23 (.esc (.esc (.esc (.esc (.ret ((false:Bool))))))) (.kI 38 5<|.kB 30 false<|.brk ()))))))) (λ_=>.ln 42 fI a1.bF.bN<|.dU 0 [1,2,3,24,25] [1,2] [] (λ_ (a:Unit)=>[]) (λ_ _=>[]) (.lp [1,2,3,4,24,25,42] [1,2] [] (λ_ (a:Int)=>[(43,int a)]) (λ_ _=>[]) n 0 (λy4_1=>.bB 44 (decide (y4_1<(a1.bF.bN.length:Int))) λx24=>.ifs [44] x24 (.cl 49 (aGR n a1 y1_1 y4_1) aUI aJJ λx25=>.bB 50 (!x25) λx26=>.ifs [50] x26 (.esc (.esc (.esc (.esc (.esc (.ret ((false:Bool)))))))) (.bI 51 (bA (y4_1+1)) λx27=>.brk x27)) (.esc (.brk ())))) (λ_=>.brk ()))) (λ_=>.bI 52 (bA (y1_1+1)) λx28=>.brk x28)) (.esc (.brk ())))) (λ_=>.ret ((true:Bool)))))
def aAG (n:Nat) (a1:aA):Option (Bool):=(aSJ n a1).run
theorem aUZ {n a1}:PZ (aAG n a1) 30 [.agg (aA.av a1)] aI:=by
 refine wm Tryz.func30 ?_
 intro v2
 refine .mk ?_ ?_
 refine .mk λx3 e3=>?_
 refine .mk λx4=>?_
 refine .mk .mk ?_
 refine .mk λx5 e5=>?_
 refine .mk λx6=>?_
 exact .mk
 intro _ _
 refine .mk .mk ?_
 refine .mk _ (bK (wF (cs:=[.fn (.func 73) [] [],.fn (.func 74) [] [],.fn (.func 75) [] [],.fn (.func 76) [] [],.fn (.func 77) [] []]) (ps:=[(0,_),(1,_),(2,_),(3,_),(4,_)]) rfl Tryz.underlying153 DO aFO rfl (.cons rfl (.cons rfl (.cons rfl (.cons rfl (.cons rfl .nil))))) (by kernel_rfl))) ?_
 intro v7
 refine .mk ?_
 refine .mk ?_ ?_
 refine .mk ?_
 intro _ _
 refine .mk λx8=>?_
 refine .mk ?_ ?_
 refine .mk ?_ ?_
 refine .mk ?_ ?_
 refine .mk ?_
 refine .mk _ (bK (wK rfl Tryz.underlying153 DO rfl rfl (by decide) rfl)) ?_
 intro v9
 refine .mk λx10 e10=>?_
 refine .mk λx11=>?_
 refine .mk .mk ?_
 refine .mk ?_
 refine .mk ?_
 refine .mk _ (bK (wK rfl Tryz.underlying153 DO rfl rfl (by decide) rfl)) ?_
 intro v12
 refine .mk λx13 e13=>?_
 refine .mk λx14=>?_
 refine .mk .mk ?_
 refine .mk ?_
 refine .mk ?_
 refine .mk _ (bK (wK rfl Tryz.underlying153 DO rfl rfl (by decide) rfl)) ?_
 intro v15
 refine .mk λx16 e16=>?_
 refine .mk λx17=>?_
 refine .mk .mk ?_
 refine .mk ?_
 refine .mk ?_
 refine .mk _ (bK (wK rfl Tryz.underlying153 DO rfl rfl (by decide) rfl)) ?_
 intro v18
 refine .mk λx19 e19=>?_
 refine .mk λx20=>?_
 refine .mk .mk ?_
 refine .mk ?_
 refine .mk ?_
 refine .mk _ (bK (wK rfl Tryz.underlying153 DO rfl rfl (by decide) rfl)) ?_
 intro v21
 refine .mk λx22 e22=>?_
 refine .mk λx23=>?_
 refine .mk .mk ?_
 refine .mk ?_
 refine .mk ?_
 exact .mk
 intro _ _
 refine .mk ?_
 refine .mk ?_ ?_
 refine .mk ?_
 intro _ _
 refine .mk λx24=>?_
 refine .mk ?_ ?_
 refine .mk λx25 e25=>?_
 refine .mk λx26=>?_
 refine .mk .mk ?_
 refine .mk λx27=>?_
 exact .mk
 exact .mk
 intro _ _
 exact .mk
 intro _ _
 refine .mk λx28=>?_
 exact .mk
 exact .mk
 intro _ _
 exact .mk
end
end Go.Pv
