import Derived.Test.YtimkkeehkhkhcaaGreatXSg
set_option linter.unusedVariables false
set_option linter.unusedSimpArgs false
namespace Go.Pv
open Go.Proofs
set_option maxRecDepth 100000
set_option maxHeartbeats 4000000
noncomputable section
theorem aIG (l:List aP):UG Tryz.prog 86 [.pp [aG 9 aP.av l]] ((l.take 400).map λx=>.agg (aP.av x)):=by
  intro lp fn tmps p assign body D J s H vs hH hvs hJ hJ7 hn hY
  have ha:lX s [.sc (.func (.yield lp) #[] #[]),.pp [aG 9 aP.av l]] (#[.func (.yield lp) #[] #[]]++vs):=lX.append (xs:=[.sc (.func (.yield lp) #[] #[])]) ⟨rfl,λi x v h1 h2=>by
    cases i with
    | zero=>simp at h1 h2;subst h1 h2;exact .sc _
    | succ i=>simp at h1⟩ hvs
  refine callsIn_wide.1 (callsIn_of_wp (n:=0) (c:=_) Tryz.func86 rfl trivial ?_)
  have hs:=sr0 (fn:=Tryz.f86) hH ha rfl
  generalize ({ tmps:=_,defers:=[] }:Act)=a0 at hs ⊢
  refine wpIn_seq (tJ (Q0:=λe S'=>e=.normal/\S'.hp=H/\qN S'.sl [(0,.sc (.func (.yield lp) #[] #[])),(9,aG 9 aP.av (l.take 400)),(10,int (l.take 400).length),(11,int 0)]) hs rfl ?_ ?_)
  · refine tc aB 3 (.mk ?_)
    refine sY (mY rfl Tryz.underlying31 rfl (wB _)) ?_
    refine sY (DF rfl rfl rfl rfl) ?_
    refine sY (ZA (i:=0) (j:=(if (400:Int)<(l.length:Int) then (400:Int) else (l.length:Int)).toNat) rfl Tryz.underlying31 wT rfl .no (.yes rfl (by split <;> omega)) (by omega) (by split <;> omega) (aBD l 400)) ?_
    refine sY (mY rfl Tryz.underlying31 rfl (wB _)) ?_
    refine tr aB 2 (.mk ?_)
    refine sK ?_
    exact ⟨rfl,rfl,rfl,rfl,rfl,rfl,trivial⟩
  rintro e S1 s1 a1 ⟨rfl,e2,hk1⟩ hs1 hf1
  rw [e2] at hf1
  have hlen:(l.take 400).length<=400:=by simp;omega
  generalize hL:l.take 400=L at *
  refine wpIn_block (wpIn_loop (λa w=>∃ i s2 H2,i<=L.length/\w=s2.w/\J i H2/\SR ⟨20,false,[]⟩ s2 ⟨kn [(0,.sc (.func (.yield lp) #[] #[])),(9,aG 9 aP.av L),(10,int L.length),(11,int i)],H2⟩ a/\Fr s H s2 H2)
    (λ(a:Act) _=>match (a.tmps[11]?:Option Value) with | some (Value.int _ v)=>L.length-v.toNat | _=>0) ⟨0,s1,H,Nat.zero_le _,rfl,hJ,hs1.xI _ _ e2 (uD hk1),hf1⟩ ?_)
  rintro a w ⟨i,s2,H2,hi,rfl,hj,hs2,hf2⟩
  have hm2:(match (a.tmps[11]?:Option Value) with | some (Value.int _ v)=>L.length-v.toNat | _=>0)=L.length-i:=by
    obtain ⟨v,q1,q2⟩:=hs2.slot 11 (int i) rfl
    rw [q1,q2.gJ];simp
  refine wpIn_seq (tJ (Q0:=λe S'=>e=.normal/\S'.hp=H2/\qN S'.sl [(0,.sc (.func (.yield lp) #[] #[])),(9,aG 9 aP.av L),(10,int L.length),(11,int i),(12,aA (decide ((i:Int)<(L.length:Int))))]) hs2 rfl ?_ ?_)
  · refine tc aB 3 (.mk ?_)
    refine sK ?_
    exact ⟨rfl,rfl,rfl,rfl,rfl,rfl,rfl,trivial⟩
  rintro e S3 s3 a3 ⟨rfl,e3,hk3⟩ hs3 hf3
  rw [e3] at hf3
  have hs3:=hs3.xI _ _ e3 (uD hk3)
  refine wpIn_seq (wpIn_cond_split (t:=decide ((i:Int)<(L.length:Int))) (tC (o:=.tmp 12) hs3 rfl).gJ (λhc=>?_) (λhc=>?_))
  · refine wpIn_skip ?_
    have hlt:i<L.length:=by have:=of_decide_eq_true hc;omega
    obtain ⟨x,hx⟩:∃ x,L[i]?=some x:=⟨L[i],by simp [hlt]⟩
    have hix:ix L (i:Int)=some x:=by unfold ix;rw [if_neg (by omega)];simpa using hx
    refine wpIn_seq (wpIn_block (wpIn_seq (tJ (Q0:=λe S'=>e=.normal/\∃ aD,S'.hp=upd H2 777 (some ⟨30,9,true,true,aD,[aP.av x]⟩)/\qN S'.sl [(0,.sc (.func (.yield lp) #[] #[])),(9,aG 9 aP.av L),(10,int L.length),(11,int i),(4,.pt 777 aD 0 0)]) hs3 rfl ?_ ?_)))
    · refine tc aB 1 (.mk ?_)
      refine sY (JO rfl Tryz.underlying31 wT rfl rfl hix) ?_
      refine tr aB 1 (.mk ?_)
      refine sA 777 z30 λaD=>?_
      refine sS ⟨30,9,true,true,aD,[aP.av x]⟩ wT ?_
      refine tr aB 1 (.mk ?_)
      refine sK ?_
      exact ⟨rfl,aD,J7,rfl,rfl,rfl,rfl,rfl,trivial⟩
    rintro e S4 s4 a4 ⟨rfl,aD,e4,hk4⟩ hs4 hf4
    rw [e4] at hf4
    have hs4:=hs4.xI _ _ e4 (uD hk4)
    refine wpIn_seq (wpIn_region ?_)
    show wpOpsIn Fence.wide 0 Tryz.prog (List.toArray _) _ [0,1,2,3] a4 s4.w
    refine go_in hs4 rfl rfl rfl rfl rfl (bM rfl rfl) ?_
    intro s5 a5 hs5 hf5
    refine go_in hs5 rfl rfl rfl rfl rfl (fG (cs:=aP.av x) (v:=.agg (aP.av x)) rfl wT rfl (.pt (row:=0) (o:=⟨30,9,true,true,aD,[aP.av x]⟩) rfl rfl rfl) rfl) ?_
    intro s6 a6 hs6 hf6
    have h7:=hJ7 i H2 hj
    have hf26:Fr s2 H2 s6 H2:=RJ (((hf3.trans hf4).trans hf5).trans hf6) (PK h7)
    have hs6':=(⟨hs6.size,hs6.defers,hs6.slot,P8 hs6.heap (PK h7)⟩:SR ⟨20,false,[]⟩ s6 ⟨_,H2⟩ a6)
    have hfs6:=hf2.trans hf26
    have hn6:=hn.fr hH hfs6
    refine aKL (J':=J (i+1)) hs6' rfl rfl rfl rfl rfl rfl rfl hn6 (λv hv=>hY i (.agg (aP.av x)) (by rw [List.getElem?_map,hx];rfl) s6 H2 v hj hs6'.heap hv hn6 hfs6) ?_
    intro s7 a7 H7 hj7 hs7 hf7
    refine go_in hs7 rfl rfl rfl rfl rfl (EA (b:=true) (r:=false) rfl rfl rfl) ?_
    intro s8 a8 hs8 hf8
    refine aIS ?_
    refine wpIn_cond_false (tC (o:=.tmp 18) hs8 rfl).gJ (wpIn_skip ?_)
    have hs8':=hs8.xI [(0,.sc (.func (.yield lp) #[] #[])),(9,aG 9 aP.av L),(10,int L.length),(11,int i)] H7 rfl (uD ⟨rfl,rfl,rfl,rfl,trivial⟩)
    refine tJ (Q0:=λe S'=>e=.normal/\S'.hp=H7/\qN S'.sl [(0,.sc (.func (.yield lp) #[] #[])),(9,aG 9 aP.av L),(10,int L.length),(11,int (bL ((i:Int)+1)))]) hs8' rfl ?_ ?_
    · refine tc aB 4 (.mk ?_)
      refine sK ?_
      exact ⟨rfl,rfl,rfl,rfl,rfl,rfl,trivial⟩
    rintro e S9 s9 a9 ⟨rfl,e9,hk9⟩ hs9 hf9
    rw [e9] at hf9
    have hs9:=hs9.xI _ _ e9 (uD hk9)
    have ew:bL ((i:Int)+1)=((i+1:Nat):Int):=(wrap64 (by omega)).trans (by omega)
    rw [ew] at hs9
    refine ⟨⟨i+1,s9,H7,hlt,rfl,hj7,hs9,((hfs6.trans hf7).trans hf8).trans hf9⟩,?_⟩
    obtain ⟨v,q1,q2⟩:=hs9.slot 11 (int ((i+1:Nat):Int)) rfl
    rw [hm2,q1,q2.gJ]
    simp
    omega
  · refine wpIn_exit ?_
    have hieq:i=L.length:=by have:=of_decide_eq_false hc;omega
    subst hieq
    refine ⟨hs3.defers,.tuple #[],aKP rfl,s3,H2,.tuple #[],rfl,rfl,?_,hs3.heap,hf2.trans hf3⟩
    rw [List.length_map];exact hj
theorem aHE {l:List aP}:PP Tryz.prog 46 [aG 9 aP.av l] (λy=>y=.fn (.func 86) [] [.pp [aG 9 aP.av l]]):=by
  refine sG (R0:=λy H=>Cv (mI H) y (.fn (.func 86) [] [.pp [aG 9 aP.av l]])) ?_ (λy H hc=>⟨_,rfl,.fn (by simp) (λx hx=>by
    simp only [List.mem_singleton] at hx;subst hx
    exact .pp λx hx=>by simp only [List.mem_singleton] at hx;subst hx;exact qC aP.fZ l),hc⟩)
  refine fC (c:=_) Tryz.func46 rfl rfl ?_;intro Q hret hnorm
  refine tc aB 2 (.mk ?_)
  refine sB 1 λv1=>?_
  refine tr aB 7 (.mk ?_)
  refine wR hret (rT .nil) ?_
  exact cO.fn .nil (.cons (Cv.pt (ob:=⟨31,1,false,true,v1,[[aG 9 aP.av l]]⟩) rfl rfl rfl rfl (.cons (.refl _) .nil)) .nil)
def vH (dS:bF->aP->Option (bF×Int)):List aP->bF->List Int->Option (bF×(List Int))
  | [],s,e=>some (s,e)
  | o :: r,s,e=>(dS s o).bind λx=>vH dS r x.1 (e++[x.2])
theorem aC4 {dS:bF->aP->Option (bF×Int)} (hS:∀ {s o r},dS s o=some r->PP Tryz.prog 47 [.agg (bF.av s),.agg (aP.av o)] (λy=>y=.aM [.agg (bF.av r.1),int r.2]))
    {s:bF} {l:List aP} {r:bF×(List Int)} (h0:vH dS (l.take 400) s []=some r):PP Tryz.prog 23 [.agg (bF.av s),aG 9 aP.av l] (λy=>y=.aM [.agg (bF.av r.1),aG 1 fI r.2]):=by
  refine sG (R0:=λy H=>Cv (mI H) y (.aM [.agg (bF.av r.1),aG 1 fI r.2])) ?_ (λy H hc=>⟨_,rfl,.aM (λx hx=>by
    simp only [List.mem_cons,List.not_mem_nil,or_false] at hx
    rcases hx with rfl | rfl
    · exact .agg (bF.fZ r.1)
    · exact qC wI r.2),hc⟩)
  refine aEY (c:=_) Tryz.func23 rfl rfl ?_
  intro s0 a0 hs0
  refine wpIn_seq (tJ (Q0:=λe S'=>e=.normal/\∃ v2 v4,wD S'.hp [(2,⟨60,10,true,true,v2,[bF.av s]⟩),(4,⟨60,10,true,true,v4,[[int 0,int 0,.sc (.slice none 0 0),.sc (.slice none 0 0),.sc (.slice none 0 0),.sc (.slice none 0 0),.sc (.slice none 0 0),.sc (.slice none 0 0),.sc (.slice none 0 0),int 0]]⟩)]/\qN S'.sl [(1,aG 9 aP.av l),(2,.pt 2 v2 0 0),(4,.pt 4 v4 0 0)]) hs0 rfl ?_ ?_)
  · refine tc aB 1 (.mk ?_)
    refine sB 2 λv2=>?_
    refine sA 4 z60 λv4=>?_
    refine tr aB 2 (.mk ?_)
    refine sK ?_
    exact ⟨rfl,v2,v4,⟨rfl,rfl,trivial⟩,rfl,rfl,rfl,trivial⟩
  rintro e S1 s1 a1 ⟨rfl,v2,v4,hh1,hk1⟩ hs1 hf1
  obtain ⟨hs1,hf1⟩:=hs1.kh hf1 _ _ hk1 hh1
  generalize hz:([[int 0,int 0,.sc (.slice none 0 0),.sc (.slice none 0 0),.sc (.slice none 0 0),.sc (.slice none 0 0),.sc (.slice none 0 0),.sc (.slice none 0 0),.sc (.slice none 0 0),int 0]]:List (List AV))=zr at *
  refine wpIn_seq (tJ (Q0:=λe S'=>e=.normal/\∃ v6,wD S'.hp [(2,⟨60,10,true,true,v2,[bF.av s]⟩),(4,⟨60,10,true,true,v4,zr⟩),(6,⟨32,1,true,true,v6,[[.sc (.slice none 0 0)]]⟩)]/\qN S'.sl [(1,aG 9 aP.av l),(2,.pt 2 v2 0 0),(4,.pt 4 v4 0 0),(6,.pt 6 v6 0 0)]) hs1 rfl ?_ ?_)
  · refine tc aB 1 (.mk ?_)
    refine sA 6 z32 λv6=>?_
    refine tr aB 1 (.mk ?_)
    refine sK ?_
    exact ⟨rfl,v6,⟨rfl,rfl,rfl,trivial⟩,rfl,rfl,rfl,rfl,trivial⟩
  rintro e S2 s2 a2 ⟨rfl,v6,hh2,hk2⟩ hs2 hf2
  obtain ⟨hs2,hf2⟩:=hs2.kh (hf1.trans hf2) _ _ hk2 hh2
  refine wpIn_seq (wpIn_seq (tJ (Q0:=λe S'=>e=.normal/\wD S'.hp [(2,⟨60,10,true,true,v2,[bF.av s]⟩),(4,⟨60,10,true,true,v4,zr⟩),(6,⟨32,1,true,true,v6,[[.sc (.slice none 0 0)]]⟩)]/\qN S'.sl [(2,.pt 2 v2 0 0),(4,.pt 4 v4 0 0),(6,.pt 6 v6 0 0),(11,.fn (.func 86) [] [.pp [aG 9 aP.av l]])]) hs2 rfl ?_ ?_))
  · refine tc aB 2 (.mk ?_)
    refine sC aEF aHE ?_
    refine tr aB 1 (.mk ?_)
    refine sK ?_
    exact ⟨rfl,⟨rfl,rfl,rfl,trivial⟩,rfl,rfl,rfl,rfl,trivial⟩
  rintro e S3 s3 a3 ⟨rfl,hh3,hk3⟩ hs3 hf3
  obtain ⟨hs3,hf3⟩:=hs3.kh (hf2.trans hf3) _ _ hk3 hh3
  obtain ⟨s4,vA,ew,hs4,hf4⟩:=YG hs3 6 20 33 1 (ob:=⟨32,1,true,true,v6,[[.sc (.slice none 0 0)]]⟩) rfl rfl rfl
  obtain ⟨hs4,hf4⟩:=hs4.kh (hf3.trans hf4) [(2,.pt 2 v2 0 0),(4,.pt 4 v4 0 0),(6,.pt 6 v6 0 0),(11,.fn (.func 86) [] [.pp [aG 9 aP.av l]])] [(2,⟨60,10,true,true,v2,[bF.av s]⟩),(4,⟨60,10,true,true,v4,zr⟩),(6,⟨32,1,true,true,v6,[[.sl 20 vA 0 ([]:List Int).length]]⟩),(20,⟨33,1,true,true,vA,([]:List Int).map fI⟩)] ⟨rfl,rfl,rfl,rfl,trivial⟩ ⟨rfl,rfl,rfl,rfl,trivial⟩
  rw [<- ew]
  have hlen:(l.take 400).length<=400:=by simp;omega
  have hit:=aIG l
  generalize hL:l.take 400=L at *
  refine wpIn_block (aAO (n:=⟨26,false,[]⟩) rfl hs4 rfl Y0 hit (λi H=>∃ s' e' vA,e'.length=i/\vH dS (L.drop i) s' e'=some r /\
    H=hk [(2,⟨60,10,true,true,v2,[bF.av s']⟩),(4,⟨60,10,true,true,v4,zr⟩),(6,⟨32,1,true,true,v6,[[.sl 20 vA 0 e'.length]]⟩),(20,⟨33,1,true,true,vA,e'.map fI⟩)])
    ⟨s,[],vA,rfl,h0,rfl⟩ (by rintro i H ⟨s',e',vA,_,_,rfl⟩;rfl) (by decide) ?_ ?_)
  · rintro i xv H hx ⟨s',e',vA,hi,hd,rfl⟩
    rw [List.getElem?_map] at hx
    obtain ⟨x,hx1,rfl⟩:=Option.map_eq_some_iff.1 hx
    have hiL:=(List.getElem?_eq_some_iff.1 hx1).1
    have hdr:L.drop i=x :: L.drop (i+1):=by
      rw [List.drop_eq_getElem_cons hiL,(List.getElem?_eq_some_iff.1 hx1).2]
    rw [hdr] at hd
    obtain ⟨y,hy,hd⟩:=dD hd
    have hfit:(e'++[y.2]).length<=68719476736:=by simp;omega
    refine SH ?_
    refine tc aB 1 (.mk ?_)
    refine sA 7 z30 λv7=>?_
    refine sS ⟨30,9,true,true,v7,[aP.av x]⟩ wT ?_
    refine tr aB 1 (.mk ?_)
    refine sK ?_
    refine ⟨rfl,?_⟩
    refine Tr.BZ (Q':=λe S'=>e=.normal/\∃ S'',S'.kS S''/\∃ s' e' vA,e'.length=i+1/\vH dS (L.drop (i+1)) s' e'=some r /\
      S''.hp=hk [(2,⟨60,10,true,true,v2,[bF.av s']⟩),(4,⟨60,10,true,true,v4,zr⟩),(6,⟨32,1,true,true,v6,[[.sl 20 vA 0 e'.length]]⟩),(20,⟨33,1,true,true,vA,e'.map fI⟩)]) (SH ?_) (by
        rintro e S' ⟨rfl,S'',h1,h2⟩
        exact ⟨S'',h1,rfl,h2⟩)
    refine tc aB 5 (.mk ?_)
    refine sC aBO (hS hy) ?_
    refine tr aB 3 (.mk ?_)
    refine sA 8 z60 λv8=>?_
    refine sS ⟨60,10,true,true,v8,[bF.av y.1]⟩ vX ?_
    refine tr aB 2 (.mk ?_)
    refine C8 [0,0,0,4,14,31,63] (rl [(0,[8]),(1,[6])] []) (rl [(4,[8]),(5,[]),(6,[])] [6,8]) (rl [(4,false),(5,false),(6,false)] true) [0,1,2,3,4,5,6] mixed (by kernel_rfl) ?_;intro K hK
    refine eL vX ?_
    refine eL J4 ?_
    refine eM ?_
    refine eP (λH hH=>aN (y:=aG 1 fI ([y.2]:List Int)) (dY (ps:=[(0,_)]) (rows:=[[int y.2]]) rfl Tryz.underlying32 V7 (.cons rfl .nil) (by kernel_rfl) rfl rfl rfl) rfl) ?_
    refine aB4 rfl rfl rfl rfl (iP (g:=fI) (l:=e') (m:=([y.2]:List Int)) .any rfl Tryz.underlying32 V7 aDU rfl rfl rfl rfl rfl rfl rfl rfl rfl rfl (Eq.symm rfl) (.refl _) (λ_=>rfl) rfl hfit) (by rintro _ _ ⟨v,-,rfl,rfl⟩;exact ⟨rfl,trivial⟩) ?_;rintro _ _ ⟨vB,-,rfl,rfl⟩
    refine IE rfl rfl rfl rfl (bW.d9 (fH (ob':=(⟨60,10,true,true,v2,[bF.av y.1]⟩:aW)) (dZ rfl vX rfl rfl rfl rfl rfl rfl rfl rfl rfl) rfl) (λ_ h=>h) (λ_ _=>trivial)) (by rintro _ _ ⟨rfl,rfl⟩;exact trivial) ?_;rintro _ _ ⟨rfl,rfl⟩
    refine IE rfl rfl rfl rfl (bW.d9 (fH (ob':=(⟨32,1,true,true,v6,[[.sl 20 vB 0 (e'++[y.2]).length]]⟩:aW)) (dZ rfl J4 rfl rfl rfl rfl rfl rfl rfl rfl rfl) rfl) (λ_ h=>h) (λ_ _=>trivial)) (by rintro _ _ ⟨rfl,rfl⟩;exact trivial) ?_;rintro _ _ ⟨rfl,rfl⟩
    refine AZ (hK _ ?_)
    refine tc aB 1 (.mk ?_)
    refine sK ?_
    exact ⟨rfl,⟨kn [],hk [(2,⟨60,10,true,true,v2,[bF.av y.1]⟩),(4,⟨60,10,true,true,v4,zr⟩),(6,⟨32,1,true,true,v6,[[.sl 20 vB 0 (e'++[y.2]).length]]⟩),(20,⟨33,1,true,true,vB,(e'++[y.2]).map fI⟩)]⟩,JY (l:=[]) trivial ⟨⟨_,rfl,.refl _⟩,⟨_,rfl,.refl _⟩,⟨_,rfl,.refl _⟩,⟨_,rfl,.refl _⟩,trivial⟩,y.1,e'++[y.2],vB,by simp [hi],hd,rfl⟩
  · rintro D s5 H5 ⟨s',e',vA,hi,hd,rfl⟩ hs5 hf5 hD hn5
    rw [List.length_map] at hi
    have hd':vH dS [] s' e'=some r:=by rw [<- hd,List.length_map,List.drop_length]
    obtain rfl:(s',e')=r:=by simpa [vH] using hd'
    have hs5':SR ⟨26,false,[mk D]⟩ s5 ⟨kn [(2,.pt 2 v2 0 0),(4,.pt 4 v4 0 0),(6,.pt 6 v6 0 0)],hk [(2,⟨60,10,true,true,v2,[bF.av s']⟩),(4,⟨60,10,true,true,v4,zr⟩),(6,⟨32,1,true,true,v6,[[.sl 20 vA 0 e'.length]]⟩),(20,⟨33,1,true,true,vA,e'.map fI⟩)]⟩ _:=hs5.xI _ _ rfl (uD ⟨rfl,rfl,rfl,trivial⟩)
    subst hz
    refine tJ (Q0:=λe S'=>e=.ret/\∃ vs H2,kX Tryz.prog S' Tryz.f23.results.toList vs/\(∀ t v,H2 t=some v->S'.hp t=some v)/\Cv (mI H2) (l8 vs) (.aM [.agg (bF.av s'),aG 1 fI e'])) hs5' rfl ?_ ?_
    · refine tc aB 1 (.mk ?_)
      refine C8 [0,0,1,7] (rl [(0,[2]),(1,[6])] []) (rl [(2,[6])] [2,6]) (rl [(2,false)] true) [0,1,2,3] mixed (by kernel_rfl) ?_;intro K hK
      refine eL vX ?_
      refine eL J4 ?_
      refine IE rfl rfl rfl rfl (bW.d9 (fH (ob':=(⟨60,10,true,true,v4,[bF.av s']⟩:aW)) (dZ rfl vX rfl rfl rfl rfl rfl rfl rfl rfl rfl) rfl) (λ_ h=>h) (λ_ _=>trivial)) (by rintro _ _ ⟨rfl,rfl⟩;exact ⟨rfl,trivial⟩) ?_;rintro _ _ ⟨rfl,rfl⟩
      refine eA ?_
      refine AZ (hK _ ?_)
      refine fF ⟨rfl,_,_,rC vX (rT .nil),λ_ _ h=>h,?_⟩
      exact cO.aM (.cons (.refl _) (.cons (gB rfl rfl rfl rfl rfl (Eq.symm rfl)) .nil))
    · rintro e S6 s6 a6 ⟨rfl,vs,H2,q1,q2,q3⟩ hs6 hf6
      have hn6:=hn5.fr hs5'.heap hf6
      exact ⟨rfl,S6,s6,D,vs,H2,rfl,hs6,(hf4.trans hf5).trans hf6,Nat.le_trans (by rw [ew];exact hf3.size) hD,hn6,q1,q2,q3⟩
def NL (n:Nat) (a1:bF) (a2:List aP):Option (bF×(List Int)):=vH (R5 n) (a2.take 400) a1 []
theorem aII {n:Nat} {a1:bF} {a2:List aP} {r:bF×(List Int)} (h0:NL n a1 a2=some r):PP Tryz.prog 23 [.agg (bF.av a1),aG 9 aP.av a2] (λy=>y=.aM [.agg (bF.av r.1),aG 1 fI r.2]):=aC4 (λh=>aMD _ h) h0
def aJR (n:Nat) (a1:dB) (a2:List aP):WB (bF×(List Int)×Int) :=
 .al 1<|.al 2<|.cl 12 (M3 n a1) Z9 aHL λx5=>.al 3<|.bB 16 (decide (x5.2≠0)) λx7=>.az [16] x7 (.cl 22 (NL n x5.1 a2) aB3 (λ_=>aII) λx8=>.ret ((x8.1:bF),x8.2,0))
def KC (n:Nat) (a1:dB) (a2:List aP):Option (bF×(List Int)×Int):=(aJR n a1 a2).run
theorem UN {n a1 a2}:PZ (KC n a1 a2) 20 [.agg (dB.av a1),aG 9 aP.av a2] (λr=>.aM [.agg (bF.av r.1),aG 1 fI r.2.1,int r.2.2]):=wq Tryz.func20
def ZS (n:Nat) (a1:Int) (a2:List Int):WB (Bool) :=
 .al 1<|.inl 7 DD Tryz.func105 [1] [] (λ_ (a:Bool)=>aA a) (λ_ _=>[]) (.inl 7 DO Tryz.func147 [1] [] (λ_ (a:Int)=>int a) (λ_ _=>[]) (.ln 7 fI a2<|.jS 0 [4] [1] [] (λ_ (a:Unit)=>[]) (λ_ _=>[]) (.lp [0,1,4,7] [1] [] (λ_ (a:Int)=>[(8,int a)]) (λ_ _=>[]) n 0 (λy0_1=>.bB 9 (decide (y0_1<(a2.length:Int))) λx4=>.ifs [9] x4 (.ix 14 fI a2 y0_1 λx5=>.inl 16 aCC Tryz.func110 [1] [] (λ_ (a:Bool)=>aA a) (λ_ _=>[]) (.cl 6 (lG x5 a1 288230376151711744) lN lU λx6=>.bB 7 (!x6) λx7=>.ret x7) (λy1_1=>.ifs [16] y1_1 (.esc (.esc (.ret y0_1))) (.bI 18 (bL (y0_1+1)) λx8=>.brk x8))) (.esc (.brk ())))) (λ_=>.ret (-1))) (λy3_1=>.bB 8 (decide (y3_1>=0)) λx9=>.ret x9)) (λy4_1=>.bB 8 (!y4_1) λx10=>.ret ((x10:Bool)))
def qH (n:Nat) (a1:Int) (a2:List Int):Option (Bool):=(ZS n a1 a2).run
theorem qX {n a1 a2}:PZ (qH n a1 a2) 70 [int a1,aG 1 fI a2] aA:=wq Tryz.func70
def aHZ (n:Nat) (a1:aT):WB (bQ) :=
 .al 1<|.al 2<|.cl 8 (xW n a1.jA) C7 AJ λx4=>.al 3<|.ret ((x4.1:bQ))
def BK (n:Nat) (a1:aT):Option (bQ):=(aHZ n a1).run
theorem H9 {n a1}:PZ (BK n a1) 155 [.agg (aT.av a1)] (λr=>.agg (bQ.av r)):=wq Tryz.func155
def aE0 (n:Nat) (a1:Int) (a2:aT):WB (Bool) :=
 .al 1<|.inl 10 MW Tryz.func153 [1] [] (B:=(Unit)⊕(Unit)⊕(Unit)⊕(Unit)) (λu2=>Sum.elim (λa=>.iG 277 (.agg [])) (Sum.elim (λa=>.iG 278 (.agg [])) (Sum.elim (λa=>.iG 279 (.agg [])) (λa=>.sc .nilIface)))) (λu2=>Sum.elim (λa=>[]) (Sum.elim (λa=>[]) (Sum.elim (λa=>[]) (λa=>[])))) (.bB 7 (decide (a1=1)) λx4=>.ifs [7] x4 (.gv 9<|.ret (.inl ())) (.bB 11 (decide (a1=2)) λx5=>.ifs [11] x5 (.gv 13<|.ret (.inr (.inl ()))) (.bB 15 (decide (a1=3)) λx6=>.ifs [15] x6 (.gv 17<|.ret (.inr (.inr (.inl ())))) (.bB 19 (decide (a1=4)) λx7=>.az [19] x7 (.ret (.inr (.inr (.inr ())))))))) (Sum.elim (λ_=>.jn 0 [3,4,5] [1] [] (λ_ (a:Bool)=>[(28,aA a)]) (λ_ _=>[]) (.gv 12<|.cl 16 (yK n a2.jA) AF DV λx8=>.bB 17 (!x8) λx9=>.ifs [17] x9 (.ret true) (.bB 21 (decide (a1≠1)) λx10=>.ifs [21] x10 (.ln 25 bQ.av a2.jA<|.bB 26 (decide ((a2.jA.length:Int)>1)) λx11=>.ret x11) (.ret false))) (λy4_1=>.az [28] y4_1 (.cl 30 (BK n a2) FL H9 λx12=>.jn 1 [4] [] [] (λ_ (a:Unit)=>[]) (λ_ _=>[]) (.lp [4,5,33] [] [] (λ_ (a:Int×Int)=>[(6,int a.1),(34,int a.2)]) (λ_ _=>[]) n ((x12.dJ:Int),0) (pw λy5_1 y5_2=>.bB 35 (decide (y5_2<3)) λx13=>.ifs [35] x13 (.bo (ix ([a2.dU.a0,a2.dU.a1,a2.dU.a2]:List Int) y5_2) λx14=>.gv 36<|.jn 0 [4,5,6,8,33,34] [] [] (λ_ (a:Bool)=>[(52,aA a)]) (λ_ _=>[]) (.bB 38 (decide (x14<0)) λx15=>.ifs [38] x15 (.ret true) (.bB 42 (decide (x14>y5_1)) λx16=>.ifs [42] x16 (.ret true) (.bB 46 (decide (x14>0)) λx17=>.ifs [46] x17 (.inl 49 KY Tryz.func156 [] [] (λ_ (a:Unit)=>aA false) (λ_ _=>[]) (.gv 7<|.al 2<|.ret ()) (λ_=>.ret true)) (.ret false)))) (λy7_1=>.az [52] y7_1 (.bI 55 (bL (y5_1-x14)) λx19=>.bI 56 (bL (y5_2+1)) λx20=>.brk ((x19:Int),x20)))) (.esc (.ret ())))) (λ_=>.ret ((true:Bool)))))) (Sum.elim (λ_=>.jn 0 [3,4,5] [1] [] (λ_ (a:Bool)=>[(28,aA a)]) (λ_ _=>[]) (.gv 12<|.cl 16 (yK n a2.jA) AF DV λx21=>.bB 17 (!x21) λx22=>.ifs [17] x22 (.ret true) (.bB 21 (decide (a1≠1)) λx23=>.ifs [21] x23 (.ln 25 bQ.av a2.jA<|.bB 26 (decide ((a2.jA.length:Int)>1)) λx24=>.ret x24) (.ret false))) (λy4_1=>.az [28] y4_1 (.cl 30 (BK n a2) FL H9 λx25=>.jn 1 [4] [] [] (λ_ (a:Unit)=>[]) (λ_ _=>[]) (.lp [4,5,33] [] [] (λ_ (a:Int×Int)=>[(6,int a.1),(34,int a.2)]) (λ_ _=>[]) n ((x25.dJ:Int),0) (pw λy5_1 y5_2=>.bB 35 (decide (y5_2<3)) λx26=>.ifs [35] x26 (.bo (ix ([a2.dU.a0,a2.dU.a1,a2.dU.a2]:List Int) y5_2) λx27=>.gv 36<|.jn 0 [4,5,6,8,33,34] [] [] (λ_ (a:Bool)=>[(52,aA a)]) (λ_ _=>[]) (.bB 38 (decide (x27<0)) λx28=>.ifs [38] x28 (.ret true) (.bB 42 (decide (x27>y5_1)) λx29=>.ifs [42] x29 (.ret true) (.bB 46 (decide (x27>0)) λx30=>.ifs [46] x30 (.inl 49 KY Tryz.func156 [] [] (λ_ (a:Unit)=>aA false) (λ_ _=>[]) (.gv 7<|.al 2<|.ret ()) (λ_=>.ret true)) (.ret false)))) (λy7_1=>.az [52] y7_1 (.bI 55 (bL (y5_1-x27)) λx32=>.bI 56 (bL (y5_2+1)) λx33=>.brk ((x32:Int),x33)))) (.esc (.ret ())))) (λ_=>.ret ((true:Bool)))))) (Sum.elim (λ_=>.jn 0 [3,4,5] [1] [] (λ_ (a:Bool)=>[(28,aA a)]) (λ_ _=>[]) (.gv 12<|.cl 16 (yK n a2.jA) AF DV λx34=>.bB 17 (!x34) λx35=>.ifs [17] x35 (.ret true) (.bB 21 (decide (a1≠1)) λx36=>.ifs [21] x36 (.ln 25 bQ.av a2.jA<|.bB 26 (decide ((a2.jA.length:Int)>1)) λx37=>.ret x37) (.ret false))) (λy4_1=>.az [28] y4_1 (.cl 30 (BK n a2) FL H9 λx38=>.jn 1 [4] [] [] (λ_ (a:Unit)=>[]) (λ_ _=>[]) (.lp [4,5,33] [] [] (λ_ (a:Int×Int)=>[(6,int a.1),(34,int a.2)]) (λ_ _=>[]) n ((x38.dJ:Int),0) (pw λy5_1 y5_2=>.bB 35 (decide (y5_2<3)) λx39=>.ifs [35] x39 (.bo (ix ([a2.dU.a0,a2.dU.a1,a2.dU.a2]:List Int) y5_2) λx40=>.gv 36<|.jn 0 [4,5,6,8,33,34] [] [] (λ_ (a:Bool)=>[(52,aA a)]) (λ_ _=>[]) (.bB 38 (decide (x40<0)) λx41=>.ifs [38] x41 (.ret true) (.bB 42 (decide (x40>y5_1)) λx42=>.ifs [42] x42 (.ret true) (.bB 46 (decide (x40>0)) λx43=>.ifs [46] x43 (.inl 49 KY Tryz.func156 [] [] (λ_ (a:Unit)=>aA true) (λ_ _=>[]) (.gv 7<|.al 2<|.ret ()) (λ_=>.ret false)) (.ret false)))) (λy7_1=>.az [52] y7_1 (.bI 55 (bL (y5_1-x40)) λx45=>.bI 56 (bL (y5_2+1)) λx46=>.brk ((x45:Int),x46)))) (.esc (.ret ())))) (λ_=>.ret ((true:Bool)))))) (λ_=>.gv 12<|.ret ((false:Bool))))))
def NZ (n:Nat) (a1:Int) (a2:aT):Option (Bool):=(aE0 n a1 a2).run
theorem aGL {n a1 a2}:PZ (NZ n a1 a2) 111 [int a1,.agg (aT.av a2)] aA:=by
 refine wm Tryz.func111 ?_
 intro v3
 refine .mk ?_ ?_
 refine .mk λx4=>?_
 refine .mk ?_ ?_
 refine .mk _ (aF (zK rfl Tryz.underlying277 (by intro _ h;cases h) rfl)) ?_
 exact .mk
 refine .mk λx5=>?_
 refine .mk ?_ ?_
 refine .mk _ (aF (zK rfl Tryz.underlying278 (by intro _ h;cases h) rfl)) ?_
 exact .mk
 refine .mk λx6=>?_
 refine .mk ?_ ?_
 refine .mk _ (aF (zK rfl Tryz.underlying279 (by intro _ h;cases h) rfl)) ?_
 exact .mk
 refine .mk λx7=>?_
 refine .mk ?_
 exact .mk
 rintro (_ | _ | _ | _) _
 refine .mk trivial ?_
 refine .mk ?_ ?_
 refine .mk _ (aF (zL rfl Tryz.underlying249 rfl rfl)) ?_
 refine .mk λx8 e8=>?_
 refine .mk λx9=>?_
 refine .mk .mk ?_
 refine .mk λx10=>?_
 refine .mk ?_ ?_
 refine .mk ?_
 refine .mk λx11=>?_
 exact .mk
 exact .mk
 intro _ _
 refine .mk ?_
 refine .mk λx12 e12=>?_
 refine .mk ?_ ?_
 refine .mk ?_
 intro _ _
 refine .mk λx13=>?_
 refine .mk ?_ ?_
 refine .mk λx14 e14=>?_
 refine .mk _ (aF (BQ (g:=fI) (l:=([a2.dU.a0,a2.dU.a1,a2.dU.a2]:List Int)) (v:=x14) (w:=int x14) rfl Tryz.underlying188 bX rfl rfl rfl e14 (λ_=>rfl) hw1)) ?_
 refine .mk ?_ ?_
 refine .mk λx15=>?_
 refine .mk .mk ?_
 refine .mk λx16=>?_
 refine .mk .mk ?_
 refine .mk λx17=>?_
 refine .mk ?_ ?_
 refine .mk ?_ ?_
 refine .mk _ (aF (FZ rfl Tryz.underlying279 rfl rfl rfl S8)) ?_
 intro v18
 exact .mk
 intro _ _
 refine .mk trivial ?_
 exact .mk
 exact .mk
 intro _ _
 refine .mk ?_
 refine .mk λx19=>?_
 refine .mk λx20=>?_
 exact .mk
 exact .mk
 intro _ _
 exact .mk
 refine .mk trivial ?_
 refine .mk ?_ ?_
 refine .mk _ (aF (zL rfl Tryz.underlying249 rfl rfl)) ?_
 refine .mk λx21 e21=>?_
 refine .mk λx22=>?_
 refine .mk .mk ?_
 refine .mk λx23=>?_
 refine .mk ?_ ?_
 refine .mk ?_
 refine .mk λx24=>?_
 exact .mk
 exact .mk
 intro _ _
 refine .mk ?_
 refine .mk λx25 e25=>?_
 refine .mk ?_ ?_
 refine .mk ?_
 intro _ _
 refine .mk λx26=>?_
 refine .mk ?_ ?_
 refine .mk λx27 e27=>?_
 refine .mk _ (aF (BQ (g:=fI) (l:=([a2.dU.a0,a2.dU.a1,a2.dU.a2]:List Int)) (v:=x27) (w:=int x27) rfl Tryz.underlying188 bX rfl rfl rfl e27 (λ_=>rfl) hw1)) ?_
 refine .mk ?_ ?_
 refine .mk λx28=>?_
 refine .mk .mk ?_
 refine .mk λx29=>?_
 refine .mk .mk ?_
 refine .mk λx30=>?_
 refine .mk ?_ ?_
 refine .mk ?_ ?_
 refine .mk _ (aF (FZ rfl Tryz.underlying279 rfl rfl rfl S8)) ?_
 intro v31
 exact .mk
 intro _ _
 refine .mk trivial ?_
 exact .mk
 exact .mk
 intro _ _
 refine .mk ?_
 refine .mk λx32=>?_
 refine .mk λx33=>?_
 exact .mk
 exact .mk
 intro _ _
 exact .mk
 refine .mk trivial ?_
 refine .mk ?_ ?_
 refine .mk _ (aF (zL rfl Tryz.underlying249 rfl rfl)) ?_
 refine .mk λx34 e34=>?_
 refine .mk λx35=>?_
 refine .mk .mk ?_
 refine .mk λx36=>?_
 refine .mk ?_ ?_
 refine .mk ?_
 refine .mk λx37=>?_
 exact .mk
 exact .mk
 intro _ _
 refine .mk ?_
 refine .mk λx38 e38=>?_
 refine .mk ?_ ?_
 refine .mk ?_
 intro _ _
 refine .mk λx39=>?_
 refine .mk ?_ ?_
 refine .mk λx40 e40=>?_
 refine .mk _ (aF (BQ (g:=fI) (l:=([a2.dU.a0,a2.dU.a1,a2.dU.a2]:List Int)) (v:=x40) (w:=int x40) rfl Tryz.underlying188 bX rfl rfl rfl e40 (λ_=>rfl) hw1)) ?_
 refine .mk ?_ ?_
 refine .mk λx41=>?_
 refine .mk .mk ?_
 refine .mk λx42=>?_
 refine .mk .mk ?_
 refine .mk λx43=>?_
 refine .mk ?_ ?_
 refine .mk ?_ ?_
 refine .mk _ (aF (VH rfl Tryz.underlying279 rfl rfl)) ?_
 intro v44
 exact .mk
 intro _ _
 refine .mk trivial ?_
 exact .mk
 exact .mk
 intro _ _
 refine .mk ?_
 refine .mk λx45=>?_
 refine .mk λx46=>?_
 exact .mk
 exact .mk
 intro _ _
 exact .mk
 refine .mk trivial ?_
 refine .mk _ (aF (KP rfl Tryz.underlying249 rfl rfl)) ?_
 exact .mk
def WQ (F:dB->Int->aH->Option (Bool)) (hF:∀ {a1:dB} {a2:Int} {a3:aH},PZ (F a1 a2 a3) 71 [.agg (dB.av a1),int a2,.agg [int a3.jR,aA a3.Closed,aG 4 aT.av a3.gY,aG 1 fI a3.jB,aG 11 bA.av a3.iI,aG 1 fI a3.iL,aG 1 fI a3.Down,aG 8 aH.av a3.iQ]] aA) (n:Nat) (a1:dB) (a2:Int) (a3:aH):WB (Bool) :=
 .al 1<|.al 2<|.ln 14 fI a1.bC<|.jn 0 [1,3,5,6] [1,2] [] (λ_ (a:Bool)=>[(55,aA a)]) (λ_ _=>[]) (.cl 19 (lG a3.jR 1 a1.iX) lN lU λx6=>.bB 20 (!x6) λx7=>.ifs [20] x7 (.ret true) (.ln 24 aT.av a3.gY<|.bI 26 (bL ((a1.bC.length:Int)*2)) λx8=>.bB 27 (decide ((a3.gY.length:Int)≠x8)) λx9=>.ifs [27] x9 (.ret true) (.ln 32 fI a3.jB<|.bB 33 (decide ((a3.jB.length:Int)≠17)) λx10=>.ifs [33] x10 (.ret true) (.ln 38 bA.av a3.iI<|.bB 40 (decide ((a3.iI.length:Int)≠(a1.bC.length:Int))) λx11=>.ifs [40] x11 (.ret true) (.ln 45 fI a3.iL<|.bB 47 (decide ((a3.iL.length:Int)≠(a1.bC.length:Int))) λx12=>.ifs [47] x12 (.ret true) (.ln 52 fI a3.Down<|.bB 54 (decide ((a3.Down.length:Int)≠(a1.bC.length:Int))) λx13=>.ret x13)))))) (λy0_1=>.az [55] y0_1 (.ln 58 aT.av a3.gY<|.jn 0 [1,3,5,6] [1,2] [] (λ_ (a:Unit)=>[]) (λ_ _=>[]) (.lp [1,3,5,6,57,58] [1,2] [] (λ_ (a:Int)=>[(59,int a)]) (λ_ _=>[]) n 0 (λy1_1=>.bB 60 (decide (y1_1<(a3.gY.length:Int))) λx14=>.ifs [60] x14 (.ix 62 aT.av a3.gY y1_1 λx15=>.al 3<|.dr [(0,[1]),(1,[1]),(9,[3])] [] [1,3] [] [0,1,2,3,4,5,6,7,8,9,10,11] (.ix 67 (fL 1 fI) a1.Methods a2 λx17=>.bI 70 (bL (y1_1.tdiv 2)) λx18=>.ix 71 fI x17 x18 λx19=>.cl 74 (NZ n x19 x15) aCA aGL λx20=>.bB 75 (!x20) λx21=>.az [75] x21 (.bI 76 (bL (y1_1+1)) λx22=>.brk x22))) (.esc (.ret ())))) (λ_=>.ln 79 bA.av a3.iI<|.jn 0 [1,3,5,6] [1,2] [] (λ_ (a:Unit)=>[]) (λ_ _=>[]) (.lp [1,3,5,6,78,79] [1,2] [] (λ_ (a:Int)=>[(80,int a)]) (λ_ _=>[]) n 0 (λy3_1=>.bB 81 (decide (y3_1<(a3.iI.length:Int))) λx23=>.ifs [81] x23 (.ix 82 bA.av a3.iI y3_1 λx24=>.al 4<|.inl 85 R7 Tryz.func112 [1,2,4] [] (λ_ (a:Unit)=>aG 1 fI ([x24.Open,x24.jL,x24.jE,x24.iR,x24.iJ,x24.iB,x24.gW,x24.gL,x24.gH,x24.gD,x24.fU]:List Int)) (λ_ _=>[]) (.al 5<|.to 25 (aG 1 fI ([x24.Open,x24.jL,x24.jE,x24.iR,x24.iJ,x24.iB,x24.gW,x24.gL,x24.gH,x24.gD,x24.fU]:List Int))<|.ret ()) (λ_=>.cl 86 (qH n (-288230376151711744) ([x24.Open,x24.jL,x24.jE,x24.iR,x24.iJ,x24.iB,x24.gW,x24.gL,x24.gH,x24.gD,x24.fU]:List Int)) qV qX λx27=>.bB 87 (!x27) λx28=>.az [87] x28 (.bI 88 (bL (y3_1+1)) λx29=>.brk x29))) (.esc (.ret ())))) (λ_=>.jn 0 [1,3,5,6] [1,2] [] (λ_ (a:Bool)=>[(119,aA a)]) (λ_ _=>[]) (.cl 91 (qH n (-288230376151711744) a3.jB) qV qX λx30=>.bB 92 (!x30) λx31=>.ifs [92] x31 (.ret true) (.cl 96 (qH n (-1) a3.iL) qV qX λx32=>.bB 97 (!x32) λx33=>.ifs [97] x33 (.ret true) (.cl 102 (qH n 0 a3.Down) qV qX λx34=>.bB 103 (!x34) λx35=>.ifs [103] x35 (.ret true) (.ln 108 aH.av a3.iQ<|.bB 109 (decide ((a3.iQ.length:Int)>1)) λx36=>.ifs [109] x36 (.ret true) (.ln 116 aH.av a3.iQ<|.bB 117 (decide ((a3.iQ.length:Int)=1)) λx37=>.bl (decide (a3.Closed≠x37):Bool) λx38=>.gv 118<|.ret x38))))) (λy6_1=>.az [119] y6_1 (.jn 1 [] [] [] (λ_ (a:Bool)=>[(6,aA a)]) (λ_ _=>[]) (.dr [(0,[2]),(1,[2]),(4,[2]),(5,[2]),(12,[1]),(14,[2]),(15,[2])] [] [1,2] [] [0,1,2,3,4,5,6,7,8,9,10,11,12,13,14,15,16,17,18,19,20,21] (.bB 122 (!a3.Closed) λx39=>.ifs [122] x39 (.ret true) (.lV 126 aH.av gE aH.gI a3.iQ 0 λx40=>.ln 129 aH.av x40.iQ<|.bB 130 (decide ((x40.iQ.length:Int)=0)) λx41=>.ifs [130] x41 (.lV 136 aH.av gE aH.gI a3.iQ 0 λx42=>.cl 138 (F a1 a2 x42) VW hF λx43=>.ret x43) (.ret false)))) (λy7_1=>.ret ((y7_1:Bool)))))))))
noncomputable def DK:Nat->{ F:dB->Int->aH->Option (Bool) // ∀ {a1:dB} {a2:Int} {a3:aH},PZ (F a1 a2 a3) 71 [.agg (dB.av a1),int a2,.agg [int a3.jR,aA a3.Closed,aG 4 aT.av a3.gY,aG 1 fI a3.jB,aG 11 bA.av a3.iI,aG 1 fI a3.iL,aG 1 fI a3.Down,aG 8 aH.av a3.iQ]] aA }
 | 0=>⟨λ_ _ _=>none,λ_ h=>nomatch h⟩
 | n+1=>⟨λa1 a2 a3=>(WQ (DK n).1 (DK n).2 n a1 a2 a3).run,wq Tryz.func71⟩
noncomputable def NH (n:Nat) (a1:dB) (a2:Int) (a3:aH):Option (Bool):=(DK n).1 a1 a2 a3
theorem aKG {n a1 a2 a3}:PZ (NH n a1 a2 a3) 71 [.agg (dB.av a1),int a2,.agg [int a3.jR,aA a3.Closed,aG 4 aT.av a3.gY,aG 1 fI a3.jB,aG 11 bA.av a3.iI,aG 1 fI a3.iL,aG 1 fI a3.Down,aG 8 aH.av a3.iQ]] aA:=(DK n).2
def aGH (n:Nat) (a1:bF):WB (Bool) :=
 .al 1<|.al 2<|.jn 0 [1,2,3] [1,2] [] (λ_ (a:Bool)=>[(45,aA a)]) (λ_ _=>[]) (.cl 16 (zT n a1.fJ) AP DL λx4=>.bB 17 (!x4) λx5=>.ifs [17] x5 (.ret true) (.ln 21 aH.av a1.fO<|.bB 24 (decide ((a1.fO.length:Int)≠a1.fJ.fT)) λx6=>.ifs [24] x6 (.ret true) (.ln 29 fP.av a1.jD<|.ln 32 gV.av a1.jP<|.ln 35 iD.av a1.jW<|.bl (if (a1.jW.length:Int)>(if (a1.jP.length:Int)>(a1.jD.length:Int) then (a1.jP.length:Int) else (a1.jD.length:Int)) then (a1.jW.length:Int) else (if (a1.jP.length:Int)>(a1.jD.length:Int) then (a1.jP.length:Int) else (a1.jD.length:Int)):Int) λx7=>.gv 36<|.bB 37 (decide (x7>40)) λx8=>.ifs [37] x8 (.ret true) (.to 42 (aG 1 fI ([a1.Done]:List Int))<|.cl 43 (qH n 0 ([a1.Done]:List Int)) qV qX λx9=>.bB 44 (!x9) λx10=>.ret x10)))) (λy0_1=>.az [45] y0_1 (.ln 48 aH.av a1.fO<|.jn 0 [1,2,3] [1,2] [] (λ_ (a:Unit)=>[]) (λ_ _=>[]) (.lp [1,2,3,47,48] [1,2] [] (λ_ (a:Int)=>[(49,int a)]) (λ_ _=>[]) n 0 (λy1_1=>.bB 50 (decide (y1_1<(a1.fO.length:Int))) λx11=>.ifs [50] x11 (.lV 52 aH.av gE aH.gI a1.fO y1_1 λx12=>.al 3<|.cl 57 (NH n a1.fJ y1_1 x12) VW aKG λx14=>.bB 58 (!x14) λx15=>.az [58] x15 (.bI 59 (bL (y1_1+1)) λx16=>.brk x16)) (.esc (.ret ())))) (λ_=>.ln 63 fP.av a1.jD<|.jn 0 [1,2,6] [1,2] [] (λ_ (a:Unit)=>[]) (λ_ _=>[]) (.lp [1,2,6,62,63] [1,2] [] (λ_ (a:Int)=>[(64,int a)]) (λ_ _=>[]) n 0 (λy3_1=>.bB 65 (decide (y3_1<(a1.jD.length:Int))) λx17=>.ifs [65] x17 (.ix 66 fP.av a1.jD y3_1 λx18=>.al 4<|.jn 0 [1,2,6,62,63,64] [1,2] [] (λ_ (a:Bool)=>[(103,aA a)]) (λ_ _=>[]) (.inl 75 D5 Tryz.func72 [1,2,4] [] (λ_ (a:Bool)=>aA a) (λ_ _=>[]) (.jn 1 [] [1,2,4] [] (λ_ (a:Bool)=>[(7,aA a)]) (λ_ _=>[]) (.bI 11 (bL (a1.fJ.fT-1)) λx20=>.cl 12 (lG x18.rO 0 x20) lN lU λx21=>.ifs [12] x21 (.ln 17 fI a1.fJ.bC<|.bI 18 (bL ((a1.fJ.bC.length:Int)-1)) λx22=>.cl 19 (lG x18.Item 0 x22) lN lU λx23=>.ifs [19] x23 (.cl 23 (lG x18.Loc 0 1) lN lU λx24=>.ret x24) (.ret false)) (.ret false)) (λy4_1=>.ret y4_1)) (λy5_1=>.bB 76 (!y5_1) λx25=>.ifs [76] x25 (.ret true) (.to 84 (aG 1 fI ([x18.dJ,x18.Value,x18.pX]:List Int))<|.cl 85 (qH n 0 ([x18.dJ,x18.Value,x18.pX]:List Int)) qV qX λx26=>.bB 86 (!x26) λx27=>.ifs [86] x27 (.ret true) (.cl 93 (lG x18.Open 0 x18.dJ) lN lU λx28=>.bB 94 (!x28) λx29=>.ifs [94] x29 (.ret true) (.cl 101 (lG x18.lJ 0 x18.dJ) lN lU λx30=>.bB 102 (!x30) λx31=>.ret x31))))) (λy6_1=>.az [103] y6_1 (.bI 104 (bL (y3_1+1)) λx32=>.brk x32))) (.esc (.ret ())))) (λ_=>.ln 107 gV.av a1.jP<|.jn 0 [1,2,6] [1,2] [] (λ_ (a:Unit)=>[]) (λ_ _=>[]) (.lp [1,2,6,106,107] [1,2] [] (λ_ (a:Int)=>[(108,int a)]) (λ_ _=>[]) n 0 (λy8_1=>.bB 109 (decide (y8_1<(a1.jP.length:Int))) λx33=>.ifs [109] x33 (.ix 110 gV.av a1.jP y8_1 λx34=>.al 5<|.jn 0 [1,2,6,106,107,108] [1,2] [] (λ_ (a:Bool)=>[(150,aA a)]) (λ_ _=>[]) (.inl 119 D5 Tryz.func72 [1,2,5] [] (λ_ (a:Bool)=>aA a) (λ_ _=>[]) (.jn 1 [] [1,2,5] [] (λ_ (a:Bool)=>[(7,aA a)]) (λ_ _=>[]) (.bI 11 (bL (a1.fJ.fT-1)) λx36=>.cl 12 (lG x34.rO 0 x36) lN lU λx37=>.ifs [12] x37 (.ln 17 fI a1.fJ.bC<|.bI 18 (bL ((a1.fJ.bC.length:Int)-1)) λx38=>.cl 19 (lG x34.Item 0 x38) lN lU λx39=>.ifs [19] x39 (.cl 23 (lG x34.Loc 0 1) lN lU λx40=>.ret x40) (.ret false)) (.ret false)) (λy9_1=>.ret y9_1)) (λy10_1=>.bB 120 (!y10_1) λx41=>.ifs [120] x41 (.ret true) (.to 126 (aG 1 fI ([x34.dJ,x34.qU]:List Int))<|.cl 127 (qH n 0 ([x34.dJ,x34.qU]:List Int)) qV qX λx42=>.bB 128 (!x42) λx43=>.ifs [128] x43 (.ret true) (.cl 135 (lG x34.lJ 0 x34.dJ) lN lU λx44=>.bB 136 (!x44) λx45=>.ifs [136] x45 (.ret true) (.to 141 (aG 1 fI ([x34.gP]:List Int))<|.cl 142 (qH n (-288230376151711744) ([x34.gP]:List Int)) qV qX λx46=>.bB 143 (!x46) λx47=>.ifs [143] x47 (.ret true) (.cl 148 (lG x34.qE 1 12) lN lU λx48=>.bB 149 (!x48) λx49=>.ret x49)))))) (λy11_1=>.az [150] y11_1 (.bI 151 (bL (y8_1+1)) λx50=>.brk x50))) (.esc (.ret ())))) (λ_=>.ln 154 iD.av a1.jW<|.jn 0 [2] [] [] (λ_ (a:Unit)=>[]) (λ_ _=>[]) (.lp [2,6,153,154] [2] [] (λ_ (a:Int)=>[(155,int a)]) (λ_ _=>[]) n 0 (λy13_1=>.bB 156 (decide (y13_1<(a1.jW.length:Int))) λx51=>.ifs [156] x51 (.ix 157 iD.av a1.jW y13_1 λx52=>.al 6<|.jn 0 [2,6,153,154,155] [2] [] (λ_ (a:Bool)=>[(190,aA a)]) (λ_ _=>[]) (.inl 164 D5 Tryz.func72 [2,6] [] (λ_ (a:Bool)=>aA a) (λ_ _=>[]) (.jn 1 [] [2,6] [] (λ_ (a:Bool)=>[(7,aA a)]) (λ_ _=>[]) (.bI 11 (bL (a1.fJ.fT-1)) λx54=>.cl 12 (lG x52.DR 0 x54) lN lU λx55=>.ifs [12] x55 (.ln 17 fI a1.fJ.bC<|.bI 18 (bL ((a1.fJ.bC.length:Int)-1)) λx56=>.cl 19 (lG x52.Item 0 x56) lN lU λx57=>.ifs [19] x57 (.cl 23 (lG 0 0 1) lN lU λx58=>.ret x58) (.ret false)) (.ret false)) (λy14_1=>.ret y14_1)) (λy15_1=>.bB 165 (!y15_1) λx59=>.ifs [165] x59 (.ret true) (.inl 172 D5 Tryz.func72 [2,6] [] (λ_ (a:Bool)=>aA a) (λ_ _=>[]) (.jn 1 [] [2,6] [] (λ_ (a:Bool)=>[(7,aA a)]) (λ_ _=>[]) (.bI 11 (bL (a1.fJ.fT-1)) λx60=>.cl 12 (lG x52.To 0 x60) lN lU λx61=>.ifs [12] x61 (.ln 17 fI a1.fJ.bC<|.bI 18 (bL ((a1.fJ.bC.length:Int)-1)) λx62=>.cl 19 (lG x52.Item 0 x62) lN lU λx63=>.ifs [19] x63 (.cl 23 (lG 0 0 1) lN lU λx64=>.ret x64) (.ret false)) (.ret false)) (λy16_1=>.ret y16_1)) (λy17_1=>.bB 173 (!y17_1) λx65=>.ifs [173] x65 (.ret true) (.to 180 (aG 1 fI ([x52.dJ,x52.Value]:List Int))<|.cl 181 (qH n 0 ([x52.dJ,x52.Value]:List Int)) qV qX λx66=>.bB 182 (!x66) λx67=>.ifs [182] x67 (.ret true) (.to 187 (aG 1 fI ([x52.gP]:List Int))<|.cl 188 (qH n (-288230376151711744) ([x52.gP]:List Int)) qV qX λx68=>.bB 189 (!x68) λx69=>.ret x69)))))) (λy18_1=>.az [190] y18_1 (.bI 191 (bL (y13_1+1)) λx70=>.brk x70))) (.esc (.ret ())))) (λ_=>.ret ((true:Bool))))))))
def FO (n:Nat) (a1:bF):Option (Bool):=(aGH n a1).run
theorem QG {n a1}:PZ (FO n a1) 40 [.agg (bF.av a1)] aA:=wq Tryz.func40
def aIO (n:Nat) (a1:List (List (List Int))):WB ((List (List Int))) :=
 .ln 10 (fL 1 (fL 1 fI)) a1<|.jn 0 [0,2] [] [] (λ_ (a:Int)=>[(3,int a)]) (λ_ _=>[]) (.lp [0,2,9,10] [] [] (λ_ (a:Int×Int)=>[(3,int a.1),(11,int a.2)]) (λ_ _=>[]) n ((0:Int),0) (pw λy0_1 y0_2=>.bB 12 (decide (y0_2<(a1.length:Int))) λx2=>.ifs [12] x2 (.ix 13 (fL 1 (fL 1 fI)) a1 y0_2 λx3=>.ln 17 (fL 1 fI) x3<|.bI 18 (bL (y0_1+(x3.length:Int))) λx4=>.bB 20 (decide (x4<0)) λx5=>.ifs [20] x5 (.fl) (.bI 22 (bL (y0_2+1)) λx6=>.brk ((x4:Int),x6))) (.esc (.ret y0_1)))) (λy1_1=>.as ((0:Int)<=y1_1/\y1_1<=1048576) inferInstance<|.ge 24 1<|.ln 26 (fL 1 (fL 1 fI)) a1<|.jn 0 [2] [] [1] (λu5 (a:(List (List Int)))=>[(6,.sl 1 (u5 1) 0 a.length)]) (λ_ a=>[.nw 1 23 1 (a.map (fL 1 fI))]) (.lp [2,25,26] [] [1] (λu6 (a:Int×(List (List Int)))=>[(6,.sl 1 (u6 1) 0 a.2.length),(27,int a.1)]) (λ_ a=>[.nw 1 23 1 (a.2.map (fL 1 fI))]) n ((0:Int),(([]:List (List Int)):List (List Int))) (pw λy2_2 y2_3=>.bB 28 (decide (y2_2<(a1.length:Int))) λx9=>.ifs [28] x9 (.ix 29 (fL 1 (fL 1 fI)) a1 y2_2 λx10=>.bl (y2_3++x10:List (List Int)) λx11=>.as (x11.length<=68719476736) inferInstance<|.ge 33 0<|.bI 34 (bL (y2_2+1)) λx14=>.brk ((x14:Int),(x11:List (List Int)))) (.esc (.ret (y2_3:List (List Int)))))) (λy3_2=>.ret ((y3_2:List (List Int)))))
def PD (n:Nat) (a1:List (List (List Int))):Option ((List (List Int))):=(aIO n a1).run
theorem aK9 {n a1}:PZ (PD n a1) 75 [aG 1 (fL 1 (fL 1 fI)) a1] (λr=>aG 1 (fL 1 fI) r):=by
 refine wm Tryz.func75 ?_
 refine .mk ?_
 refine .mk ?_ ?_
 refine .mk ?_
 intro _ _
 refine .mk λx2=>?_
 refine .mk ?_ ?_
 refine .mk λx3 e3=>?_
 refine .mk ?_
 refine .mk λx4=>?_
 refine .mk λx5=>?_
 refine .mk ?_ ?_
 exact .mk trivial
 refine .mk λx6=>?_
 exact .mk
 exact .mk
 intro _ _
 refine .mk λp7=>?_
 refine .mk _ ⟨λ_=>aQ rfl rfl (.cons rfl (.cons rfl .nil)) aE1 (Y6 (id:=1) rfl p7),λ_ _ _=>trivial⟩ ?_
 rintro _ _ ⟨v8,rfl,rfl⟩
 refine .mk ?_
 refine .mk ?_ ?_
 refine .mk ?_
 rintro ⟨y2_2,y2_3⟩ _
 refine .mk λx9=>?_
 refine .mk ?_ ?_
 refine .mk λx10 e10=>?_
 refine .mk λx11 e11=>?_
 refine .mk λp12=>?_
 refine .mk _ ⟨λ_=>iP (g:=(fL 1 fI)) (l:=y2_3) (m:=x10) .any rfl Tryz.underlying24 pP uO rfl rfl rfl rfl rfl rfl rfl rfl rfl rfl (Eq.symm rfl) (.refl _) (λ_=>rfl) e11 p12,λ_ _ _=>trivial⟩ ?_
 rintro _ _ ⟨v13,-,rfl,rfl⟩
 refine .mk λx14=>?_
 exact .mk
 exact .mk
 intro _ _
 exact .mk (gB rfl rfl rfl rfl rfl (Eq.symm rfl))
def aK0 (n:Nat) (a1:dB):WB ((List UInt8)) :=
 .al 1<|.cl 7 (zT n a1) AP DL λx3=>.bB 8 (!x3) λx4=>.az [8] x4 (.al 2<|.dr [(0,[1]),(1,[1]),(3,[1]),(4,[1]),(7,[1]),(8,[1])] [(11,[])] [1] [11] [0,1,2,3,4,5,6,7,8,9,10,11] (.cl 11 (eX a1.fT) eU (λ_=>fA) λx6=>.cl 14 (eX a1.iX) eU (λ_=>fA) λx7=>.as (x6.length+x7.length<=9223372036854775807) inferInstance<|.bl (x6++x7:List UInt8) λx9=>.gv 15<|.cl 18 (yG a1.bC) EK (λ_=>EO) λx10=>.as (x9.length+x10.length<=9223372036854775807) inferInstance<|.bl (x9++x10:List UInt8) λx12=>.gv 19<|.as (x12.length<=1099511627776) inferInstance<|.ge 20 2<|.to 25 (aG 1 (fL 1 (fL 1 fI)) ([a1.Methods,a1.iF]:List (List (List Int))))<|.cl 26 (PD n ([a1.Methods,a1.iF]:List (List (List Int)))) aK5 aK9 λx15=>.ln 27 (fL 1 fI) x15<|.jn 0 [2,3] [] [3] (λ_ (a:(List UInt8))=>[]) (λu2 a=>[.kp 2 [[.pt 2 (u2 2) 0 0,.sl 3 (u2 3) 0 a.length]],.nw 3 5 1 (bN a)]) (.lp [2,3,26,27] [] [3] (λ_ (a:Int×(List UInt8))=>[(28,int a.1)]) (λu3 a=>[.kp 2 [[.pt 2 (u3 2) 0 0,.sl 3 (u3 3) 0 a.2.length]],.nw 3 5 1 (bN a.2)]) n ((0:Int),x12) (pw λy0_1 y0_3=>.bB 29 (decide (y0_1<(x15.length:Int))) λx16=>.ifs [29] x16 (.ix 30 (fL 1 fI) x15 y0_1 λx17=>.cl 33 (yG x17) EK (λ_=>EO) λx18=>.as (x18.length<=1099511627776) inferInstance<|.as (y0_3.length<=1099511627776) inferInstance<|.bl (y0_3++x18:List UInt8) λx22=>.ge 34 2<|.bI 35 (bL (y0_1+1)) λx23=>.brk ((x23:Int),x22)) (.esc (.ret y0_3)))) (λy1_2=>.as (y1_2≠[]) inferInstance<|.as (y1_2.length<=1099511627776) inferInstance<|.ge 36 2<|.ret ((y1_2:List UInt8)))))
def TI (n:Nat) (a1:dB):Option ((List UInt8)):=(aK0 n a1).run
theorem aF5 {n a1}:PZ (TI n a1) 41 [.agg (dB.av a1)] str:=by
 refine wm Tryz.func41 ?_
 intro v2
 refine .mk λx3 e3=>?_
 refine .mk λx4=>?_
 refine .mk ?_
 intro v5
 refine .mk ?_
 refine .mk λx6 e6=>?_
 refine .mk λx7 e7=>?_
 refine .mk λp8=>?_
 refine .mk λx9 e9=>?_
 refine .mk _ (λH hH _=>aN (y:=str x9) (qJ rfl rfl rfl p8) (congrArg str e9)) ?_
 refine .mk λx10 e10=>?_
 refine .mk λp11=>?_
 refine .mk λx12 e12=>?_
 refine .mk _ (λH hH _=>aN (y:=str x12) (qJ rfl rfl rfl p11) (congrArg str e12)) ?_
 refine .mk λp13=>?_
 refine .mk _ ⟨λ_=>aQ rfl rfl (.cons rfl (.cons rfl .nil)) eT (MX (id:=2) (aD:=v5) (ib:=3) (t:=x12) (by decide) rfl rfl p13),by rintro _ _ ⟨rfl,v14,rfl⟩;exact trivial⟩ ?_
 rintro _ _ ⟨rfl,v14,rfl⟩
 refine .mk (aF (aN (y:=aG 1 (fL 1 (fL 1 fI)) ([a1.Methods,a1.iF]:List (List (List Int)))) (dY (ps:=[(0,_),(1,_)]) (rows:=[[aG 1 (fL 1 fI) a1.Methods],[aG 1 (fL 1 fI) a1.iF]]) rfl Tryz.underlying196 aIL (.cons rfl (.cons rfl .nil)) (by kernel_rfl) rfl rfl rfl) rfl)) ?_
 refine .mk λx15 e15=>?_
 refine .mk ?_
 refine .mk ?_ ?_
 refine .mk ?_
 rintro ⟨y0_1,y0_3⟩ u3
 refine .mk λx16=>?_
 refine .mk ?_ ?_
 refine .mk λx17 e17=>?_
 refine .mk λx18 e18=>?_
 refine .mk λp19=>?_
 refine .mk λp21=>?_
 refine .mk λx22 e22=>?_
 refine .mk _ ⟨λ_=>aQ rfl rfl (.cons rfl (.cons rfl .nil)) eT (PC.mono (VP (id:=2) (aD:=v5) (ib:=3) (vb:=(u3 3)) (l:=y0_3) (t:=x18) (by decide) rfl rfl p21 p19) (R':=λy H'=>y=.aM [int (x18.length:Int),.sc .nilIface]/\∃ vb',H'=upd (upd _ 3 (some (dV 5 vb' x22))) 2 (some (lZ 92 2 v5 3 (some (vb',x22))))) (λy H' h=>by subst e22;exact h)),λ_ _ _=>trivial⟩ ?_
 rintro _ _ ⟨rfl,v20,rfl⟩
 refine .mk λx23=>?_
 exact .mk
 exact .mk
 intro y1_2 u2
 refine .mk λp24=>?_
 refine .mk λp25=>?_
 refine .mk _ ⟨λ_=>aQ rfl rfl (.cons rfl .nil) BF (FK (id:=2) (aD:=v5) (ib:=3) (vb:=(u2 3)) (l:=y1_2) rfl rfl p24 p25),λ_ _ _=>trivial⟩ ?_
 rintro _ _ ⟨rfl,rfl⟩
 exact .mk
end
end Go.Pv
