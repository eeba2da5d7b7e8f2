import Derived.Test.YtmokiknakhhhdaaGreatXRl
import Derived.Test.YtmokiknakhhhdaaGreatPvAG
set_option linter.unusedVariables false
set_option linter.unusedSimpArgs false
namespace Go.Pv
section
variable {α β γ δ R:Type}
theorem oV {x:α} {f:α->Option β} {r:Option β} (h:f x=r):bnd x f=r:=h
theorem vN {x:Int} {f:Int->Option β} {r:Option β} (hx:-9223372036854775808<=x/\x<=9223372036854775807) (h:f x=r):bnd (bM x) f=r:=by
  show f (bM x)=r
  rw [show bM x=x from wrap64 hx];exact h
theorem jF {p:Prop} [Decidable p] {f:Bool->Option β} {r:Option β} (hp:p) (h:f true=r):bnd (decide p) f=r:=by
  show f (decide p)=r
  rw [decide_eq_true hp];exact h
theorem gV {p:Prop} [Decidable p] {f:Bool->Option β} {r:Option β} (hp:¬ p) (h:f false=r):bnd (decide p) f=r:=by
  show f (decide p)=r
  rw [decide_eq_false hp];exact h
theorem aJQ {f:Bool->Option β} {r:Option β} (h:f false=r):bnd (!true) f=r:=h
theorem aNH {f:Bool->Option β} {r:Option β} (h:f true=r):bnd (!false) f=r:=h
theorem kT {a b:Option β} {r:Option β} (h:a=r):cond true a b=r:=h
theorem gN {a b:Option β} {r:Option β} (h:b=r):cond false a b=r:=h
theorem l6 {p:Prop} [Decidable p] {k r:Option β} (hp:p) (h:k=r):bU p k=r:=by unfold bU;rw [if_pos hp];exact h
theorem eD {x:Option α} {f:α->Option β} {a:α} {r:Option β} (hx:x=some a) (h:f a=r):x.bind f=r:=by rw [hx];exact h
theorem kC {l:List α} {i:Int} {v:α} {f:α->Option β} {r:Option β} (h0:0<=i) (hl:l[i.toNat]?=some v) (h:f v=r):(ix l i).bind f=r:=by
  unfold ix;rw [if_neg (by omega),hl];exact h
theorem aAO {f:α->β->Option γ} {a:α} {b:β} {r:Option γ} (h:f a b=r):p2 f (a,b)=r:=h
theorem yK {f:α->Option β} {a:α} {r:Option β} (h:f a=r):sel f (.inl a)=r:=h
end
set_option maxRecDepth 100000
theorem blk {α:Type} (a b:Bool) (f:Bool->Option α):((bnd a λx=>cond x (some true) (bnd b λy=>some y)).bind f)=f (a || b):=by cases a <;> cases b <;> rfl
theorem F4 {n:Nat} {a b c d e f g:Int} {l:List Int}:dL n ⟨1,a,b,c,d,e,f,g,l⟩=cond (decide (a<0) || decide (a>3)) (some false) (cond (decide (b<0) || decide (b>4)) (some false) (cond (decide (c<0) || decide (c>1)) (some false) (cond (decide (d<0) || decide (d>0)) (some false) (cond (decide (e<1) || decide (e>1073741824)) (some false) (cond (decide (f<0) || decide (f>1125899906842624)) (some false) (cond (decide (g<0) || decide (g>0)) (some false) (cond (decide ((l.length:Int)=0)) (some true) (some false)))))))):=by
  unfold dL
  simp only [blk]
  show _=_
  cases decide ((l.length:Int)=0) <;> kernel_rfl
theorem D3 {n:Nat} {a b c d e f g:Int} {l:List Int}:dL n ⟨2,a,b,c,d,e,f,g,l⟩=cond (decide (a<0) || decide (a>0)) (some false) (cond (decide (b<0) || decide (b>0)) (some false) (cond (decide (c<0) || decide (c>0)) (some false) (cond (decide (d<0) || decide (d>0)) (some false) (cond (decide (e<1) || decide (e>1073741824)) (some false) (cond (decide (f<0) || decide (f>1125899906842624)) (some false) (cond (decide (g<0) || decide (g>39)) (some false) (cond (decide ((l.length:Int)=0)) (some true) (some false)))))))):=by
  unfold dL
  simp only [blk]
  show _=_
  cases decide ((l.length:Int)=0) <;> kernel_rfl
theorem EG {n:Nat} {a b c d e f g:Int} {l:List Int}:dL n ⟨3,a,b,c,d,e,f,g,l⟩=cond (decide (a<0) || decide (a>0)) (some false) (cond (decide (b<0) || decide (b>0)) (some false) (cond (decide (c<0) || decide (c>0)) (some false) (cond (decide (d<0) || decide (d>0)) (some false) (cond (decide (e<1) || decide (e>1073741824)) (some false) (cond (decide (f<0) || decide (f>0)) (some false) (cond (decide (g<0) || decide (g>39)) (some false) (cond (decide ((l.length:Int)=0)) (some true) (some false)))))))):=by
  unfold dL
  simp only [blk]
  show _=_
  cases decide ((l.length:Int)=0) <;> kernel_rfl
theorem FD {n:Nat} {a b c d e f g:Int} {l:List Int}:dL n ⟨4,a,b,c,d,e,f,g,l⟩=cond (decide (a<0) || decide (a>3)) (some false) (cond (decide (b<0) || decide (b>4)) (some false) (cond (decide (c<0) || decide (c>1)) (some false) (cond (decide (d<0) || decide (d>0)) (some false) (cond (decide (e<1) || decide (e>1073741824)) (some false) (cond (decide (f<0) || decide (f>1125899906842624)) (some false) (cond (decide (g<0) || decide (g>0)) (some false) (cond (decide ((l.length:Int)=0)) (some true) (some false)))))))):=by
  unfold dL
  simp only [blk]
  show _=_
  cases decide ((l.length:Int)=0) <;> kernel_rfl
theorem GU {n:Nat} {a b c d e f g:Int} {l:List Int}:dL n ⟨5,a,b,c,d,e,f,g,l⟩=cond (decide (a<0) || decide (a>0)) (some false) (cond (decide (b<0) || decide (b>0)) (some false) (cond (decide (c<0) || decide (c>0)) (some false) (cond (decide (d<0) || decide (d>0)) (some false) (cond (decide (e<1) || decide (e>1073741824)) (some false) (cond (decide (f<0) || decide (f>1125899906842624)) (some false) (cond (decide (g<0) || decide (g>39)) (some false) (cond (decide ((l.length:Int)=0)) (some true) (some false)))))))):=by
  unfold dL
  simp only [blk]
  show _=_
  cases decide ((l.length:Int)=0) <;> kernel_rfl
theorem DZ {n:Nat} {a b c d e f g:Int} {l:List Int}:dL n ⟨6,a,b,c,d,e,f,g,l⟩=cond (decide (a<0) || decide (a>3)) (some false) (cond (decide (b<0) || decide (b>4)) (some false) (cond (decide (c<0) || decide (c>1)) (some false) (cond (decide (d<0) || decide (d>0)) (some false) (cond (decide (e<1) || decide (e>1073741824)) (some false) (cond (decide (f<0) || decide (f>0)) (some false) (cond (decide (g<0) || decide (g>0)) (some false) (cond (decide ((l.length:Int)=0)) (some true) (some false)))))))):=by
  unfold dL
  simp only [blk]
  show _=_
  cases decide ((l.length:Int)=0) <;> kernel_rfl
theorem GH {n:Nat} {a b c d e f g:Int} {l:List Int}:dL n ⟨7,a,b,c,d,e,f,g,l⟩=cond (decide (a<0) || decide (a>3)) (some false) (cond (decide (b<0) || decide (b>4)) (some false) (cond (decide (c<0) || decide (c>1)) (some false) (cond (decide (d<0) || decide (d>0)) (some false) (cond (decide (e<0) || decide (e>1073741824)) (some false) (cond (decide (f<0) || decide (f>0)) (some false) (cond (decide (g<0) || decide (g>0)) (some false) (cond (decide ((l.length:Int)=0)) (some true) (some false)))))))):=by
  unfold dL
  simp only [blk]
  show _=_
  cases decide ((l.length:Int)=0) <;> kernel_rfl
theorem C9 {n:Nat} {a b c d e f g:Int} {l:List Int}:dL n ⟨8,a,b,c,d,e,f,g,l⟩=cond (decide (a<0) || decide (a>3)) (some false) (cond (decide (b<0) || decide (b>4)) (some false) (cond (decide (c<0) || decide (c>1)) (some false) (cond (decide (d<0) || decide (d>1)) (some false) (cond (decide (e<1) || decide (e>1073741824)) (some false) (cond (decide (f<0) || decide (f>0)) (some false) (cond (decide (g<0) || decide (g>0)) (some false) (cond (decide ((l.length:Int)=0)) (some (!decide (d=c))) (some false)))))))):=by
  unfold dL
  simp only [blk]
  show _=_
  cases decide ((l.length:Int)=0) <;> cases decide (d=c) <;> kernel_rfl
theorem F6 {n:Nat} {a b c d e f g:Int} {l:List Int}:dL n ⟨9,a,b,c,d,e,f,g,l⟩=cond (decide (a<0) || decide (a>3)) (some false) (cond (decide (b<0) || decide (b>4)) (some false) (cond (decide (c<0) || decide (c>0)) (some false) (cond (decide (d<0) || decide (d>0)) (some false) (cond (decide (e<0) || decide (e>0)) (some false) (cond (decide (f<0) || decide (f>1073741824)) (some false) (cond (decide (g<0) || decide (g>0)) (some false) (cond (decide ((l.length:Int)=0)) (some true) (some false)))))))):=by
  unfold dL
  simp only [blk]
  show _=_
  cases decide ((l.length:Int)=0) <;> kernel_rfl
theorem AT {n:Nat} {a b c d e f g:Int} {l:List Int}:dL n ⟨10,a,b,c,d,e,f,g,l⟩=cond (decide (a<0) || decide (a>3)) (some false) (cond (decide (b<0) || decide (b>4)) (some false) (cond (decide (c<0) || decide (c>0)) (some false) (cond (decide (d<0) || decide (d>0)) (some false) (cond (decide (e<0) || decide (e>0)) (some false) (cond (decide (f<0) || decide (f>1073741824)) (some false) (cond (decide (g<0) || decide (g>0)) (some false) (cond (decide ((l.length:Int)=0)) (some true) (some false)))))))):=by
  unfold dL
  simp only [blk]
  show _=_
  cases decide ((l.length:Int)=0) <;> kernel_rfl
theorem E4 {n:Nat} {a b c d e f g:Int} {l:List Int}:dL n ⟨11,a,b,c,d,e,f,g,l⟩=cond (decide (a<0) || decide (a>0)) (some false) (cond (decide (b<0) || decide (b>0)) (some false) (cond (decide (c<0) || decide (c>0)) (some false) (cond (decide (d<0) || decide (d>2)) (some false) (cond (decide (e<0) || decide (e>0)) (some false) (cond (decide (f<0) || decide (f>1125899906842624)) (some false) (cond (decide (g<0) || decide (g>0)) (some false) ((y8 n l).bind λx=>some x))))))):=by
  unfold dL
  simp only [blk]
  show _=_
  cases decide ((l.length:Int)=0) <;> kernel_rfl
theorem G4 {n:Nat} {a b c d e f g:Int} {l:List Int}:dL n ⟨12,a,b,c,d,e,f,g,l⟩=cond (decide (a<0) || decide (a>3)) (some false) (cond (decide (b<0) || decide (b>4)) (some false) (cond (decide (c<0) || decide (c>1)) (some false) (cond (decide (d<0) || decide (d>3)) (some false) (cond (decide (e<1) || decide (e>1073741824)) (some false) (cond (decide (f<0) || decide (f>1125899906842624)) (some false) (cond (decide (g<0) || decide (g>0)) (some false) (cond (decide ((l.length:Int)=0)) (some (!decide (d=a))) (some false)))))))):=by
  unfold dL
  simp only [blk]
  show _=_
  cases decide ((l.length:Int)=0) <;> cases decide (d=a) <;> kernel_rfl
theorem C8 {n:Nat} {a b c d e f g:Int} {l:List Int}:dL n ⟨13,a,b,c,d,e,f,g,l⟩=cond (decide (a<0) || decide (a>0)) (some false) (cond (decide (b<0) || decide (b>0)) (some false) (cond (decide (c<0) || decide (c>1)) (some false) (cond (decide (d<0) || decide (d>0)) (some false) (cond (decide (e<1) || decide (e>1073741824)) (some false) (cond (decide (f<0) || decide (f>0)) (some false) (cond (decide (g<0) || decide (g>39)) (some false) (cond (decide ((l.length:Int)=0)) (some true) (some false)))))))):=by
  unfold dL
  simp only [blk]
  show _=_
  cases decide ((l.length:Int)=0) <;> kernel_rfl
theorem DC {n:Nat} {a b c d e f g:Int} {l:List Int}:dL n ⟨14,a,b,c,d,e,f,g,l⟩=cond (decide (a<0) || decide (a>3)) (some false) (cond (decide (b<0) || decide (b>0)) (some false) (cond (decide (c<0) || decide (c>0)) (some false) (cond (decide (d<0) || decide (d>0)) (some false) (cond (decide (e<0) || decide (e>0)) (some false) (cond (decide (f<0) || decide (f>0)) (some false) (cond (decide (g<0) || decide (g>0)) (some false) (cond (decide ((l.length:Int)=0)) (some true) (some false)))))))):=by
  unfold dL
  simp only [blk]
  show _=_
  cases decide ((l.length:Int)=0) <;> kernel_rfl
theorem FH {n:Nat} {a b c d e f g:Int} {l:List Int}:dL n ⟨15,a,b,c,d,e,f,g,l⟩=cond (decide (a<0) || decide (a>3)) (some false) (cond (decide (b<0) || decide (b>0)) (some false) (cond (decide (c<0) || decide (c>0)) (some false) (cond (decide (d<0) || decide (d>0)) (some false) (cond (decide (e<0) || decide (e>0)) (some false) (cond (decide (f<0) || decide (f>0)) (some false) (cond (decide (g<0) || decide (g>0)) (some false) (cond (decide ((l.length:Int)=0)) (some true) (some false)))))))):=by
  unfold dL
  simp only [blk]
  show _=_
  cases decide ((l.length:Int)=0) <;> kernel_rfl
theorem CS {n:Nat} {a b c d e f g:Int} {l:List Int}:dL n ⟨16,a,b,c,d,e,f,g,l⟩=cond (decide (a<0) || decide (a>3)) (some false) (cond (decide (b<0) || decide (b>0)) (some false) (cond (decide (c<0) || decide (c>0)) (some false) (cond (decide (d<0) || decide (d>0)) (some false) (cond (decide (e<0) || decide (e>0)) (some false) (cond (decide (f<0) || decide (f>0)) (some false) (cond (decide (g<0) || decide (g>0)) (some false) (cond (decide ((l.length:Int)=0)) (some true) (some false)))))))):=by
  unfold dL
  simp only [blk]
  show _=_
  cases decide ((l.length:Int)=0) <;> kernel_rfl
theorem xA {α:Type} (a b:Bool) (f:Bool->Option α):((bnd a λx=>cond x (bnd b λy=>some y) (some false)).bind f)=f (a && b):=by cases a <;> cases b <;> rfl
theorem nR {n:Nat} (x y:aF):fF n x y=cond (decide (x.Kind=y.Kind) && (decide (x.E=y.E) && (decide (x.Item=y.Item) && (decide (x.Loc=y.Loc) && (decide (x.To=y.To) && (decide (x.aM=y.aM) && (decide (x.aQ=y.aQ) && decide (x.Ref=y.Ref)))))))) (rF n x.bT y.bT) (some false):=by
  unfold fF
  cases decide (x.Kind=y.Kind)
  · rfl
  cases decide (x.E=y.E)
  · rfl
  cases decide (x.Item=y.Item)
  · rfl
  cases decide (x.Loc=y.Loc)
  · rfl
  cases decide (x.To=y.To)
  · rfl
  cases decide (x.aM=y.aM)
  · rfl
  cases decide (x.aQ=y.aQ)
  · rfl
  cases decide (x.Ref=y.Ref)
  · rfl
  show ((rF n x.bT y.bT).bind λx=>some x).bind (λx=>some x)=rF n x.bT y.bT
  cases rF n x.bT y.bT <;> rfl
theorem qY {n:Nat} (o x:aF):kX n o x 101=some ({ x with E:=o.E },decide (o.E>=0) && decide (o.E<4)):=by
  unfold kX
  simp only [xA]
  kernel_rfl
theorem uX {n:Nat} (o x:aF):kX n o x 105=some ({ x with Item:=o.Item },decide (o.Item>=0) && decide (o.Item<5)):=by
  unfold kX
  simp only [xA]
  kernel_rfl
theorem wV {n:Nat} (o x:aF):kX n o x 108=some ({ x with Loc:=o.Loc },decide (o.Loc>=0) && decide (o.Loc<2)):=by
  unfold kX
  simp only [xA]
  kernel_rfl
theorem LA {n:Nat} (o x:aF) {t:Bool} (h:pJ o=some t):kX n o x 116=some ({ x with To:=o.To },t):=by
  unfold kX
  simp only [h]
  kernel_rfl
theorem sO {n:Nat} (o x:aF):kX n o x 113=some ({ x with aM:=o.aM },decide (o.aM<=1073741824) && (decide (o.aM>=1) || (decide (o.aM=0) && decide (o.Kind=7)))):=by
  unfold kX
  generalize decide (o.aM<=1073741824)=q1
  generalize decide (o.aM>=1)=q2
  generalize decide (o.aM=0)=q3
  generalize decide (o.Kind=7)=q4
  cases q1 <;> cases q2 <;> cases q3 <;> cases q4 <;> kernel_rfl
theorem vM {n:Nat} (o x:aF):kX n o x 97=some ({ x with aQ:=o.aQ },decide (o.aQ>=0) && (decide (o.aQ<=1125899906842624) && (decide (o.aQ<=1073741824) || (decide (o.Kind≠9) && decide (o.Kind≠10))))):=by
  unfold kX
  generalize decide (o.aQ>=0)=q1
  generalize decide (o.aQ<=1125899906842624)=q2
  generalize decide (o.aQ<=1073741824)=q3
  generalize decide (o.Kind≠9)=q4
  generalize decide (o.Kind≠10)=q5
  cases q1 <;> cases q2 <;> cases q3 <;> cases q4 <;> cases q5 <;> kernel_rfl
theorem ER {n:Nat} (o x:aF):kX n o x 114=some ({ x with Ref:=o.Ref },decide (o.Ref>=0) && decide (o.Ref<40)):=by
  unfold kX
  simp only [xA]
  kernel_rfl
set_option maxHeartbeats 4000000
theorem fQ {o:aF} {s:List UInt8} {n:Nat} {i j:Int} {y y':aF} {c:UInt8} {b:Bool} (h1:decide (i<(s.length:Int))=true) (h2:ix s i=some c) (h3:kX n o y (c.toNat:Int)=some (y',b)) (h4:bM (i+1)=j) :
    jM o s (n+1) i y=cond b (jM o s n j y') (some (.inr false)):=by
  show (bnd (decide (i<(s.length:Int))) λx6=>cond x6 ((ix s i).bind λx7=>(kX n o y (x7.toNat:Int)).bind λx8=>bnd x8.2 λx10=>bnd (!x10) λx11=>cond x11 (esc (some false)) (bnd (bM (i+1)) λx12=>jM o s n x12 x8.1)) (brk y))=_
  rw [h1,h2]
  show ((kX n o y (c.toNat:Int)).bind λx8=>bnd x8.2 λx10=>bnd (!x10) λx11=>cond x11 (esc (some false)) (bnd (bM (i+1)) λx12=>jM o s n x12 x8.1))=_
  rw [h3,h4]
  cases b <;> rfl
theorem nE {o:aF} {s:List UInt8} {n:Nat} {i:Int} {y:aF} (h1:decide (i<(s.length:Int))=false):jM o s (n+1) i y=some (.inl y):=by
  show (bnd (decide (i<(s.length:Int))) λx6=>cond x6 ((ix s i).bind λx7=>(kX n o y (x7.toNat:Int)).bind λx8=>bnd x8.2 λx10=>bnd (!x10) λx11=>cond x11 (esc (some false)) (bnd (bM (i+1)) λx12=>jM o s n x12 x8.1)) (brk y))=_
  rw [h1];rfl
theorem oO {n:Nat} {l:List Int}:rF (n+1) l []=some (decide ((l.length:Int)=0)):=by
  unfold rF
  cases l with
  | nil=>rfl
  | cons x l =>
    rw [show (decide (((x :: l).length:Int)≠(([]:List Int).length:Int)))=true by simp;omega]
    rw [show decide ((((x :: l).length:Nat):Int)=0)=false by simp;omega];rfl
theorem aKK {n:Nat} {o:aF} (hk:o.Kind=1):fO (n+12) o=(cond (decide (o.E>=0) && decide (o.E<4)) (cond (decide (o.Item>=0) && decide (o.Item<5)) (cond (decide (o.Loc>=0) && decide (o.Loc<2)) (cond (decide (o.aM<=1073741824) && (decide (o.aM>=1) || (decide (o.aM=0) && decide (o.Kind=7)))) (cond (decide (o.aQ>=0) && (decide (o.aQ<=1125899906842624) && (decide (o.aQ<=1073741824) || (decide (o.Kind≠9) && decide (o.Kind≠10))))) (fF (n+12) o ⟨o.Kind,o.E,o.Item,o.Loc,0,o.aM,o.aQ,0,[]⟩) (some false)) (some false)) (some false)) (some false)) (some false)):=by
  unfold fO
  rw [show lC o.Kind=some ([101,105,108,113,97]:List UInt8) by rw [hk];rfl]
  show ((jM o ([101,105,108,113,97]:List UInt8) (n+12) 0 ⟨o.Kind,0,0,0,0,0,0,0,[]⟩).bind _)=_
  rw [fQ (i:=0) (j:=1) rfl rfl (qY _ _) rfl]
  rw [fQ (i:=1) (j:=2) rfl rfl (uX _ _) rfl]
  rw [fQ (i:=2) (j:=3) rfl rfl (wV _ _) rfl]
  rw [fQ (i:=3) (j:=4) rfl rfl (sO _ _) rfl]
  rw [fQ (i:=4) (j:=5) rfl rfl (vM _ _) rfl]
  rw [nE rfl]
  cases (decide (o.E>=0) && decide (o.E<4))
  · rfl
  cases (decide (o.Item>=0) && decide (o.Item<5))
  · rfl
  cases (decide (o.Loc>=0) && decide (o.Loc<2))
  · rfl
  cases (decide (o.aM<=1073741824) && (decide (o.aM>=1) || (decide (o.aM=0) && decide (o.Kind=7))))
  · rfl
  cases (decide (o.aQ>=0) && (decide (o.aQ<=1125899906842624) && (decide (o.aQ<=1073741824) || (decide (o.Kind≠9) && decide (o.Kind≠10)))))
  · rfl
  show ((fF _ _ _).bind _).bind _=_
  cases fF (n+12) o _ <;> rfl
theorem aLZ {n:Nat} {o:aF} (hk:o.Kind=2):fO (n+12) o=(cond (decide (o.aM<=1073741824) && (decide (o.aM>=1) || (decide (o.aM=0) && decide (o.Kind=7)))) (cond (decide (o.aQ>=0) && (decide (o.aQ<=1125899906842624) && (decide (o.aQ<=1073741824) || (decide (o.Kind≠9) && decide (o.Kind≠10))))) (cond (decide (o.Ref>=0) && decide (o.Ref<40)) (fF (n+12) o ⟨o.Kind,0,0,0,0,o.aM,o.aQ,o.Ref,[]⟩) (some false)) (some false)) (some false)):=by
  unfold fO
  rw [show lC o.Kind=some ([113,97,114]:List UInt8) by rw [hk];rfl]
  show ((jM o ([113,97,114]:List UInt8) (n+12) 0 ⟨o.Kind,0,0,0,0,0,0,0,[]⟩).bind _)=_
  rw [fQ (i:=0) (j:=1) rfl rfl (sO _ _) rfl]
  rw [fQ (i:=1) (j:=2) rfl rfl (vM _ _) rfl]
  rw [fQ (i:=2) (j:=3) rfl rfl (ER _ _) rfl]
  rw [nE rfl]
  cases (decide (o.aM<=1073741824) && (decide (o.aM>=1) || (decide (o.aM=0) && decide (o.Kind=7))))
  · rfl
  cases (decide (o.aQ>=0) && (decide (o.aQ<=1125899906842624) && (decide (o.aQ<=1073741824) || (decide (o.Kind≠9) && decide (o.Kind≠10)))))
  · rfl
  cases (decide (o.Ref>=0) && decide (o.Ref<40))
  · rfl
  show ((fF _ _ _).bind _).bind _=_
  cases fF (n+12) o _ <;> rfl
theorem aGC {n:Nat} {o:aF} (hk:o.Kind=3):fO (n+12) o=(cond (decide (o.aM<=1073741824) && (decide (o.aM>=1) || (decide (o.aM=0) && decide (o.Kind=7)))) (cond (decide (o.Ref>=0) && decide (o.Ref<40)) (fF (n+12) o ⟨o.Kind,0,0,0,0,o.aM,0,o.Ref,[]⟩) (some false)) (some false)):=by
  unfold fO
  rw [show lC o.Kind=some ([113,114]:List UInt8) by rw [hk];rfl]
  show ((jM o ([113,114]:List UInt8) (n+12) 0 ⟨o.Kind,0,0,0,0,0,0,0,[]⟩).bind _)=_
  rw [fQ (i:=0) (j:=1) rfl rfl (sO _ _) rfl]
  rw [fQ (i:=1) (j:=2) rfl rfl (ER _ _) rfl]
  rw [nE rfl]
  cases (decide (o.aM<=1073741824) && (decide (o.aM>=1) || (decide (o.aM=0) && decide (o.Kind=7))))
  · rfl
  cases (decide (o.Ref>=0) && decide (o.Ref<40))
  · rfl
  show ((fF _ _ _).bind _).bind _=_
  cases fF (n+12) o _ <;> rfl
theorem aGB {n:Nat} {o:aF} (hk:o.Kind=4):fO (n+12) o=(cond (decide (o.E>=0) && decide (o.E<4)) (cond (decide (o.Item>=0) && decide (o.Item<5)) (cond (decide (o.Loc>=0) && decide (o.Loc<2)) (cond (decide (o.aM<=1073741824) && (decide (o.aM>=1) || (decide (o.aM=0) && decide (o.Kind=7)))) (cond (decide (o.aQ>=0) && (decide (o.aQ<=1125899906842624) && (decide (o.aQ<=1073741824) || (decide (o.Kind≠9) && decide (o.Kind≠10))))) (fF (n+12) o ⟨o.Kind,o.E,o.Item,o.Loc,0,o.aM,o.aQ,0,[]⟩) (some false)) (some false)) (some false)) (some false)) (some false)):=by
  unfold fO
  rw [show lC o.Kind=some ([101,105,108,113,97]:List UInt8) by rw [hk];rfl]
  show ((jM o ([101,105,108,113,97]:List UInt8) (n+12) 0 ⟨o.Kind,0,0,0,0,0,0,0,[]⟩).bind _)=_
  rw [fQ (i:=0) (j:=1) rfl rfl (qY _ _) rfl]
  rw [fQ (i:=1) (j:=2) rfl rfl (uX _ _) rfl]
  rw [fQ (i:=2) (j:=3) rfl rfl (wV _ _) rfl]
  rw [fQ (i:=3) (j:=4) rfl rfl (sO _ _) rfl]
  rw [fQ (i:=4) (j:=5) rfl rfl (vM _ _) rfl]
  rw [nE rfl]
  cases (decide (o.E>=0) && decide (o.E<4))
  · rfl
  cases (decide (o.Item>=0) && decide (o.Item<5))
  · rfl
  cases (decide (o.Loc>=0) && decide (o.Loc<2))
  · rfl
  cases (decide (o.aM<=1073741824) && (decide (o.aM>=1) || (decide (o.aM=0) && decide (o.Kind=7))))
  · rfl
  cases (decide (o.aQ>=0) && (decide (o.aQ<=1125899906842624) && (decide (o.aQ<=1073741824) || (decide (o.Kind≠9) && decide (o.Kind≠10)))))
  · rfl
  show ((fF _ _ _).bind _).bind _=_
  cases fF (n+12) o _ <;> rfl
theorem aJY {n:Nat} {o:aF} (hk:o.Kind=5):fO (n+12) o=(cond (decide (o.aM<=1073741824) && (decide (o.aM>=1) || (decide (o.aM=0) && decide (o.Kind=7)))) (cond (decide (o.aQ>=0) && (decide (o.aQ<=1125899906842624) && (decide (o.aQ<=1073741824) || (decide (o.Kind≠9) && decide (o.Kind≠10))))) (cond (decide (o.Ref>=0) && decide (o.Ref<40)) (fF (n+12) o ⟨o.Kind,0,0,0,0,o.aM,o.aQ,o.Ref,[]⟩) (some false)) (some false)) (some false)):=by
  unfold fO
  rw [show lC o.Kind=some ([113,97,114]:List UInt8) by rw [hk];rfl]
  show ((jM o ([113,97,114]:List UInt8) (n+12) 0 ⟨o.Kind,0,0,0,0,0,0,0,[]⟩).bind _)=_
  rw [fQ (i:=0) (j:=1) rfl rfl (sO _ _) rfl]
  rw [fQ (i:=1) (j:=2) rfl rfl (vM _ _) rfl]
  rw [fQ (i:=2) (j:=3) rfl rfl (ER _ _) rfl]
  rw [nE rfl]
  cases (decide (o.aM<=1073741824) && (decide (o.aM>=1) || (decide (o.aM=0) && decide (o.Kind=7))))
  · rfl
  cases (decide (o.aQ>=0) && (decide (o.aQ<=1125899906842624) && (decide (o.aQ<=1073741824) || (decide (o.Kind≠9) && decide (o.Kind≠10)))))
  · rfl
  cases (decide (o.Ref>=0) && decide (o.Ref<40))
  · rfl
  show ((fF _ _ _).bind _).bind _=_
  cases fF (n+12) o _ <;> rfl
theorem aDA {n:Nat} {o:aF} (hk:o.Kind=6):fO (n+12) o=(cond (decide (o.E>=0) && decide (o.E<4)) (cond (decide (o.Item>=0) && decide (o.Item<5)) (cond (decide (o.Loc>=0) && decide (o.Loc<2)) (cond (decide (o.aM<=1073741824) && (decide (o.aM>=1) || (decide (o.aM=0) && decide (o.Kind=7)))) (fF (n+12) o ⟨o.Kind,o.E,o.Item,o.Loc,0,o.aM,0,0,[]⟩) (some false)) (some false)) (some false)) (some false)):=by
  unfold fO
  rw [show lC o.Kind=some ([101,105,108,113]:List UInt8) by rw [hk];rfl]
  show ((jM o ([101,105,108,113]:List UInt8) (n+12) 0 ⟨o.Kind,0,0,0,0,0,0,0,[]⟩).bind _)=_
  rw [fQ (i:=0) (j:=1) rfl rfl (qY _ _) rfl]
  rw [fQ (i:=1) (j:=2) rfl rfl (uX _ _) rfl]
  rw [fQ (i:=2) (j:=3) rfl rfl (wV _ _) rfl]
  rw [fQ (i:=3) (j:=4) rfl rfl (sO _ _) rfl]
  rw [nE rfl]
  cases (decide (o.E>=0) && decide (o.E<4))
  · rfl
  cases (decide (o.Item>=0) && decide (o.Item<5))
  · rfl
  cases (decide (o.Loc>=0) && decide (o.Loc<2))
  · rfl
  cases (decide (o.aM<=1073741824) && (decide (o.aM>=1) || (decide (o.aM=0) && decide (o.Kind=7))))
  · rfl
  show ((fF _ _ _).bind _).bind _=_
  cases fF (n+12) o _ <;> rfl
theorem aC3 {n:Nat} {o:aF} (hk:o.Kind=7):fO (n+12) o=(cond (decide (o.E>=0) && decide (o.E<4)) (cond (decide (o.Item>=0) && decide (o.Item<5)) (cond (decide (o.Loc>=0) && decide (o.Loc<2)) (cond (decide (o.aM<=1073741824) && (decide (o.aM>=1) || (decide (o.aM=0) && decide (o.Kind=7)))) (fF (n+12) o ⟨o.Kind,o.E,o.Item,o.Loc,0,o.aM,0,0,[]⟩) (some false)) (some false)) (some false)) (some false)):=by
  unfold fO
  rw [show lC o.Kind=some ([101,105,108,113]:List UInt8) by rw [hk];rfl]
  show ((jM o ([101,105,108,113]:List UInt8) (n+12) 0 ⟨o.Kind,0,0,0,0,0,0,0,[]⟩).bind _)=_
  rw [fQ (i:=0) (j:=1) rfl rfl (qY _ _) rfl]
  rw [fQ (i:=1) (j:=2) rfl rfl (uX _ _) rfl]
  rw [fQ (i:=2) (j:=3) rfl rfl (wV _ _) rfl]
  rw [fQ (i:=3) (j:=4) rfl rfl (sO _ _) rfl]
  rw [nE rfl]
  cases (decide (o.E>=0) && decide (o.E<4))
  · rfl
  cases (decide (o.Item>=0) && decide (o.Item<5))
  · rfl
  cases (decide (o.Loc>=0) && decide (o.Loc<2))
  · rfl
  cases (decide (o.aM<=1073741824) && (decide (o.aM>=1) || (decide (o.aM=0) && decide (o.Kind=7))))
  · rfl
  show ((fF _ _ _).bind _).bind _=_
  cases fF (n+12) o _ <;> rfl
theorem aE2 {n:Nat} {o:aF} (hk:o.Kind=8) {t:Bool} (ht:pJ o=some t):fO (n+12) o=(cond (decide (o.E>=0) && decide (o.E<4)) (cond (decide (o.Item>=0) && decide (o.Item<5)) (cond (decide (o.Loc>=0) && decide (o.Loc<2)) (cond t (cond (decide (o.aM<=1073741824) && (decide (o.aM>=1) || (decide (o.aM=0) && decide (o.Kind=7)))) (fF (n+12) o ⟨o.Kind,o.E,o.Item,o.Loc,o.To,o.aM,0,0,[]⟩) (some false)) (some false)) (some false)) (some false)) (some false)):=by
  unfold fO
  rw [show lC o.Kind=some ([101,105,108,116,113]:List UInt8) by rw [hk];rfl]
  show ((jM o ([101,105,108,116,113]:List UInt8) (n+12) 0 ⟨o.Kind,0,0,0,0,0,0,0,[]⟩).bind _)=_
  rw [fQ (i:=0) (j:=1) rfl rfl (qY _ _) rfl]
  rw [fQ (i:=1) (j:=2) rfl rfl (uX _ _) rfl]
  rw [fQ (i:=2) (j:=3) rfl rfl (wV _ _) rfl]
  rw [fQ (i:=3) (j:=4) rfl rfl (LA _ _ ht) rfl]
  rw [fQ (i:=4) (j:=5) rfl rfl (sO _ _) rfl]
  rw [nE rfl]
  cases (decide (o.E>=0) && decide (o.E<4))
  · rfl
  cases (decide (o.Item>=0) && decide (o.Item<5))
  · rfl
  cases (decide (o.Loc>=0) && decide (o.Loc<2))
  · rfl
  cases t
  · rfl
  cases (decide (o.aM<=1073741824) && (decide (o.aM>=1) || (decide (o.aM=0) && decide (o.Kind=7))))
  · rfl
  show ((fF _ _ _).bind _).bind _=_
  cases fF (n+12) o _ <;> rfl
theorem aKF {n:Nat} {o:aF} (hk:o.Kind=9):fO (n+12) o=(cond (decide (o.E>=0) && decide (o.E<4)) (cond (decide (o.Item>=0) && decide (o.Item<5)) (cond (decide (o.aQ>=0) && (decide (o.aQ<=1125899906842624) && (decide (o.aQ<=1073741824) || (decide (o.Kind≠9) && decide (o.Kind≠10))))) (fF (n+12) o ⟨o.Kind,o.E,o.Item,0,0,0,o.aQ,0,[]⟩) (some false)) (some false)) (some false)):=by
  unfold fO
  rw [show lC o.Kind=some ([101,105,97]:List UInt8) by rw [hk];rfl]
  show ((jM o ([101,105,97]:List UInt8) (n+12) 0 ⟨o.Kind,0,0,0,0,0,0,0,[]⟩).bind _)=_
  rw [fQ (i:=0) (j:=1) rfl rfl (qY _ _) rfl]
  rw [fQ (i:=1) (j:=2) rfl rfl (uX _ _) rfl]
  rw [fQ (i:=2) (j:=3) rfl rfl (vM _ _) rfl]
  rw [nE rfl]
  cases (decide (o.E>=0) && decide (o.E<4))
  · rfl
  cases (decide (o.Item>=0) && decide (o.Item<5))
  · rfl
  cases (decide (o.aQ>=0) && (decide (o.aQ<=1125899906842624) && (decide (o.aQ<=1073741824) || (decide (o.Kind≠9) && decide (o.Kind≠10)))))
  · rfl
  show ((fF _ _ _).bind _).bind _=_
  cases fF (n+12) o _ <;> rfl
theorem aCK {n:Nat} {o:aF} (hk:o.Kind=10):fO (n+12) o=(cond (decide (o.E>=0) && decide (o.E<4)) (cond (decide (o.Item>=0) && decide (o.Item<5)) (cond (decide (o.aQ>=0) && (decide (o.aQ<=1125899906842624) && (decide (o.aQ<=1073741824) || (decide (o.Kind≠9) && decide (o.Kind≠10))))) (fF (n+12) o ⟨o.Kind,o.E,o.Item,0,0,0,o.aQ,0,[]⟩) (some false)) (some false)) (some false)):=by
  unfold fO
  rw [show lC o.Kind=some ([101,105,97]:List UInt8) by rw [hk];rfl]
  show ((jM o ([101,105,97]:List UInt8) (n+12) 0 ⟨o.Kind,0,0,0,0,0,0,0,[]⟩).bind _)=_
  rw [fQ (i:=0) (j:=1) rfl rfl (qY _ _) rfl]
  rw [fQ (i:=1) (j:=2) rfl rfl (uX _ _) rfl]
  rw [fQ (i:=2) (j:=3) rfl rfl (vM _ _) rfl]
  rw [nE rfl]
  cases (decide (o.E>=0) && decide (o.E<4))
  · rfl
  cases (decide (o.Item>=0) && decide (o.Item<5))
  · rfl
  cases (decide (o.aQ>=0) && (decide (o.aQ<=1125899906842624) && (decide (o.aQ<=1073741824) || (decide (o.Kind≠9) && decide (o.Kind≠10)))))
  · rfl
  show ((fF _ _ _).bind _).bind _=_
  cases fF (n+12) o _ <;> rfl
theorem aDR {n:Nat} {o:aF} (hk:o.Kind=12) {t:Bool} (ht:pJ o=some t):fO (n+12) o=(cond (decide (o.E>=0) && decide (o.E<4)) (cond (decide (o.Item>=0) && decide (o.Item<5)) (cond (decide (o.Loc>=0) && decide (o.Loc<2)) (cond t (cond (decide (o.aM<=1073741824) && (decide (o.aM>=1) || (decide (o.aM=0) && decide (o.Kind=7)))) (cond (decide (o.aQ>=0) && (decide (o.aQ<=1125899906842624) && (decide (o.aQ<=1073741824) || (decide (o.Kind≠9) && decide (o.Kind≠10))))) (fF (n+12) o ⟨o.Kind,o.E,o.Item,o.Loc,o.To,o.aM,o.aQ,0,[]⟩) (some false)) (some false)) (some false)) (some false)) (some false)) (some false)):=by
  unfold fO
  rw [show lC o.Kind=some ([101,105,108,116,113,97]:List UInt8) by rw [hk];rfl]
  show ((jM o ([101,105,108,116,113,97]:List UInt8) (n+12) 0 ⟨o.Kind,0,0,0,0,0,0,0,[]⟩).bind _)=_
  rw [fQ (i:=0) (j:=1) rfl rfl (qY _ _) rfl]
  rw [fQ (i:=1) (j:=2) rfl rfl (uX _ _) rfl]
  rw [fQ (i:=2) (j:=3) rfl rfl (wV _ _) rfl]
  rw [fQ (i:=3) (j:=4) rfl rfl (LA _ _ ht) rfl]
  rw [fQ (i:=4) (j:=5) rfl rfl (sO _ _) rfl]
  rw [fQ (i:=5) (j:=6) rfl rfl (vM _ _) rfl]
  rw [nE rfl]
  cases (decide (o.E>=0) && decide (o.E<4))
  · rfl
  cases (decide (o.Item>=0) && decide (o.Item<5))
  · rfl
  cases (decide (o.Loc>=0) && decide (o.Loc<2))
  · rfl
  cases t
  · rfl
  cases (decide (o.aM<=1073741824) && (decide (o.aM>=1) || (decide (o.aM=0) && decide (o.Kind=7))))
  · rfl
  cases (decide (o.aQ>=0) && (decide (o.aQ<=1125899906842624) && (decide (o.aQ<=1073741824) || (decide (o.Kind≠9) && decide (o.Kind≠10)))))
  · rfl
  show ((fF _ _ _).bind _).bind _=_
  cases fF (n+12) o _ <;> rfl
theorem ZY {n:Nat} {o:aF} (hk:o.Kind=13):fO (n+12) o=(cond (decide (o.Loc>=0) && decide (o.Loc<2)) (cond (decide (o.aM<=1073741824) && (decide (o.aM>=1) || (decide (o.aM=0) && decide (o.Kind=7)))) (cond (decide (o.Ref>=0) && decide (o.Ref<40)) (fF (n+12) o ⟨o.Kind,0,0,o.Loc,0,o.aM,0,o.Ref,[]⟩) (some false)) (some false)) (some false)):=by
  unfold fO
  rw [show lC o.Kind=some ([108,113,114]:List UInt8) by rw [hk];rfl]
  show ((jM o ([108,113,114]:List UInt8) (n+12) 0 ⟨o.Kind,0,0,0,0,0,0,0,[]⟩).bind _)=_
  rw [fQ (i:=0) (j:=1) rfl rfl (wV _ _) rfl]
  rw [fQ (i:=1) (j:=2) rfl rfl (sO _ _) rfl]
  rw [fQ (i:=2) (j:=3) rfl rfl (ER _ _) rfl]
  rw [nE rfl]
  cases (decide (o.Loc>=0) && decide (o.Loc<2))
  · rfl
  cases (decide (o.aM<=1073741824) && (decide (o.aM>=1) || (decide (o.aM=0) && decide (o.Kind=7))))
  · rfl
  cases (decide (o.Ref>=0) && decide (o.Ref<40))
  · rfl
  show ((fF _ _ _).bind _).bind _=_
  cases fF (n+12) o _ <;> rfl
theorem aG4 {n:Nat} {o:aF} (hk:o.Kind=14):fO (n+12) o=(cond (decide (o.E>=0) && decide (o.E<4)) (fF (n+12) o ⟨o.Kind,o.E,0,0,0,0,0,0,[]⟩) (some false)):=by
  unfold fO
  rw [show lC o.Kind=some ([101]:List UInt8) by rw [hk];rfl]
  show ((jM o ([101]:List UInt8) (n+12) 0 ⟨o.Kind,0,0,0,0,0,0,0,[]⟩).bind _)=_
  rw [fQ (i:=0) (j:=1) rfl rfl (qY _ _) rfl]
  rw [nE rfl]
  cases (decide (o.E>=0) && decide (o.E<4))
  · rfl
  show ((fF _ _ _).bind _).bind _=_
  cases fF (n+12) o _ <;> rfl
theorem aB5 {n:Nat} {o:aF} (hk:o.Kind=15):fO (n+12) o=(cond (decide (o.E>=0) && decide (o.E<4)) (fF (n+12) o ⟨o.Kind,o.E,0,0,0,0,0,0,[]⟩) (some false)):=by
  unfold fO
  rw [show lC o.Kind=some ([101]:List UInt8) by rw [hk];rfl]
  show ((jM o ([101]:List UInt8) (n+12) 0 ⟨o.Kind,0,0,0,0,0,0,0,[]⟩).bind _)=_
  rw [fQ (i:=0) (j:=1) rfl rfl (qY _ _) rfl]
  rw [nE rfl]
  cases (decide (o.E>=0) && decide (o.E<4))
  · rfl
  show ((fF _ _ _).bind _).bind _=_
  cases fF (n+12) o _ <;> rfl
theorem aCB {n:Nat} {o:aF} (hk:o.Kind=16):fO (n+12) o=(cond (decide (o.E>=0) && decide (o.E<4)) (fF (n+12) o ⟨o.Kind,o.E,0,0,0,0,0,0,[]⟩) (some false)):=by
  unfold fO
  rw [show lC o.Kind=some ([101]:List UInt8) by rw [hk];rfl]
  show ((jM o ([101]:List UInt8) (n+12) 0 ⟨o.Kind,0,0,0,0,0,0,0,[]⟩).bind _)=_
  rw [fQ (i:=0) (j:=1) rfl rfl (qY _ _) rfl]
  rw [nE rfl]
  cases (decide (o.E>=0) && decide (o.E<4))
  · rfl
  show ((fF _ _ _).bind _).bind _=_
  cases fF (n+12) o _ <;> rfl
end Go.Pv
