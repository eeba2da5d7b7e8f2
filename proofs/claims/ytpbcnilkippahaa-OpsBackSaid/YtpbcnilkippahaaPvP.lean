/- Calls that only look. -/
import Derived.Test.YtpbcnilkippahaaPvO
set_option linter.unusedSimpArgs false
set_option linter.unusedVariables false
namespace Go.Pv
inductive Has : AV → Nat → Prop
  | pt {id ver row off : Nat} : Has (.pt id ver row off) ver
  | sl {id ver off len : Nat} : Has (.sl id ver off len) ver
  | list {sz k : Nat} {xs : List (List AV)} {i j : Nat} {r : List AV} {x : AV} (h1 : xs[i]? = some r) (h2 : r[j]? = some x) (h : Has x k) : Has (.list sz xs) k
  | pp {cs : List AV} {i k : Nat} {x : AV} (h1 : cs[i]? = some x) (h : Has x k) : Has (.pp cs) k
  | agg {cs : List AV} {i k : Nat} {x : AV} (h1 : cs[i]? = some x) (h : Has x k) : Has (.agg cs) k
  | fn1 {f : Fn} {a c : List AV} {i k : Nat} {x : AV} (h1 : a[i]? = some x) (h : Has x k) : Has (.fn f a c) k
  | fn2 {f : Fn} {a c : List AV} {i k : Nat} {x : AV} (h1 : c[i]? = some x) (h : Has x k) : Has (.fn f a c) k
  | ifc {t : TypeId} {k : Nat} {x : AV} (h : Has x k) : Has (.ifc t x) k
  | tup {cs : List AV} {i k : Nat} {x : AV} (h1 : cs[i]? = some x) (h : Has x k) : Has (.tup cs) k
  | mp {ks : List Int} {cs : List AV} {i k : Nat} {x : AV} (h1 : cs[i]? = some x) (h : Has x k) : Has (.mp ks cs) k
theorem get_of {α : Type} {l : Array α} {n i : Nat} (h : n = l.size) (hi : i < n) : ∃ v, l[i]? = some v := ⟨l[i]'(by omega), Array.getElem?_eq_getElem (by omega)⟩
theorem lt_of {α : Type} {l : List α} {i : Nat} {x : α} (h : l[i]? = some x) : i < l.length := (List.getElem?_eq_some_iff.1 h).1
theorem VR.has {s : Sit} {x : AV} {v : Value} (h : VR s x v) : ∀ k, Has x k → s.used k := by
  induction h with
  | sc v => intro k h; cases h
  | nil sz => intro k h; cases h with | list h1 _ _ => simp at h1
  | emp sz a => intro k h; cases h with | list h1 _ _ => simp at h1
  | list f hI hc hm hr hf _ ih => intro k h; cases h with | list h1 h2 h => exact ih _ _ _ _ h1 h2 k h
  | pp f hI hf _ ih => intro k h; cases h with | pp h1 h => exact ih _ _ h1 k h
  | pt hk h1 h => intro k h; cases h; exact hk
  | sl hk h1 h => intro k h; cases h; exact hk
  | agg hl _ ih => intro k h; cases h with | agg h1 h => obtain ⟨v, hv⟩ := get_of hl (lt_of h1); exact ih _ _ v h1 hv k h
  | fn hl hl' _ _ ih ih' =>
    intro k h
    cases h with
    | fn1 h1 h => obtain ⟨v, hv⟩ := get_of hl (lt_of h1); exact ih _ _ v h1 hv k h
    | fn2 h1 h => obtain ⟨v, hv⟩ := get_of hl' (lt_of h1); exact ih' _ _ v h1 hv k h
  | ifc _ ih => intro k h; cases h with | ifc h => exact ih k h
  | tup hl _ ih => intro k h; cases h with | tup h1 h => obtain ⟨v, hv⟩ := get_of hl (lt_of h1); exact ih _ _ v h1 hv k h
  | mp hI' hb hk hl _ ih => intro k h; cases h with | mp h1 h => exact ih _ _ _ h1 (List.getElem?_eq_getElem (by have := lt_of h1; omega)) k h
theorem VR.less {s s2 : Sit} (hw : s2.w = s.w) (hI : s2.Im = s.Im) (hm : s2.mu = s.mu) {x : AV} {v : Value} (h : VR s x v) : (∀ k, Has x k → s2.used k) → VR s2 x v := by
  induction h with
  | sc v => intro _; exact .sc v
  | nil sz => intro _; exact .nil sz
  | emp sz a => intro _; exact .emp sz a
  | list f hI' hc hm' hr hf _ ih => intro hk; exact .list f (by rw [hI]; exact hI') hc hm' hr (fun i r j x a b => by rw [hw]; exact hf i r j x a b) (fun i r j x a b => ih i r j x a b fun k hh => hk k (.list a b hh))
  | pp f hI' hf _ ih => intro hk; exact .pp f (by rw [hI]; exact hI') (fun j x a => by rw [hw]; exact hf j x a) (fun j x a => ih j x a fun k hh => hk k (.pp a hh))
  | pt hk' h1 h => intro hk; exact .pt (hk _ .pt) h1 (fun m a => h m (hm ▸ a))
  | sl hk' h1 h => intro hk; exact .sl (hk _ .sl) h1 (fun m a => h m (hm ▸ a))
  | agg hl _ ih => intro hk; exact .agg hl fun i x v a b => ih i x v a b fun k hh => hk k (.agg a hh)
  | fn hl hl' _ _ ih ih' => intro hk; exact .fn hl hl' (fun i x v a b => ih i x v a b fun k hh => hk k (.fn1 a hh)) (fun i x v a b => ih' i x v a b fun k hh => hk k (.fn2 a hh))
  | ifc _ ih => intro hk; exact .ifc (ih fun k hh => hk k (.ifc hh))
  | tup hl _ ih => intro hk; exact .tup hl fun i x v a b => ih i x v a b fun k hh => hk k (.tup a hh)
  | mp hI' hb hk0 hl _ ih => intro hk; exact .mp (by rw [hI]; exact hI') (by rw [hw]; exact hb) hk0 hl fun i x v a b => ih i x v a b fun k hh => hk k (.mp a hh)
theorem PV.has {x : AV} (h : PV x) : ∀ k, ¬ Has x k := by
  induction h with
  | sc v => intro k h; cases h
  | list _ ih => intro k h; cases h with | list h1 h2 h => exact ih _ (List.mem_of_getElem? h1) _ (List.mem_of_getElem? h2) k h
  | pp _ ih => intro k h; cases h with | pp h1 h => exact ih _ (List.mem_of_getElem? h1) k h
  | agg _ ih => intro k h; cases h with | agg h1 h => exact ih _ (List.mem_of_getElem? h1) k h
  | fn _ _ ih ih' =>
    intro k h
    cases h with
    | fn1 h1 h => exact ih _ (List.mem_of_getElem? h1) k h
    | fn2 h1 h => exact ih' _ (List.mem_of_getElem? h1) k h
  | ifc _ ih => intro k h; cases h with | ifc h => exact ih k h
  | tup _ ih => intro k h; cases h with | tup h1 h => exact ih _ (List.mem_of_getElem? h1) k h
  | mp _ ih => intro k h; cases h with | mp h1 h => exact ih _ (List.mem_of_getElem? h1) k h
theorem yv_callR {P : Program} {S : AS} {o : Oper} {fo : Operand} {as : List Operand} {ts : Array TypeId} {k : FuncId} {first cap vs : List AV} {y0 : AV} (ho : o.op = .call { callee := .value fo, args := as.toArray, argTypes := ts })
    (hf : S.ev fo = some (.fn (.func k) first cap)) (ha : EvL S as vs) (hc : cal P k = true) (hp : PC P k (first ++ vs ++ cap) S.hp (fun y H' => y = y0 ∧ H' = S.hp)) (hy : PV y0) : YieldV P o S y0 := by
  intro s a next Q hH hops _ hn
  obtain ⟨us, h1, h2⟩ := run_call (P := P) ho hf ha hc hops
  unfold Oper.wp
  rw [h2]
  refine (hp s us hH h1).mono ?_
  rintro e w' ⟨y, H', s', v, ⟨rfl, rfl⟩, rfl, rfl, q4, q5, q6⟩
  let s2 : Sit := { w := s'.w, Im := s'.Im, mu := s'.mu, used := s.used }
  have hless : ∀ x u, VR s' x u → (∀ k, Has x k → s.used k) → VR s2 x u := fun x u h hk => VR.less (s := s') (s2 := s2) rfl rfl rfl h hk
  refine hn s2 v _ S.hp ⟨rfl, rfl⟩ (hless _ _ q4 fun k h => absurd h (hy.has k)) ⟨fun id ob hob => ?_, q5.uniq, q5.im, hH.fin⟩
    ⟨q6.os, q6.tape, q6.output, q6.size, q6.keep, q6.imk, q6.imo, q6.own, fun x u h => hless x u (q6.vals x u h) h.has, fun _ h => h⟩ (fun _ h => .inl h)
  obtain ⟨m0, hm0⟩ := hH.obj id ob hob
  obtain ⟨m, hm⟩ := q5.obj id ob hob
  refine ⟨m, ⟨hm.hm, hm.hver, hm.hsz, hm0.hk, ?_⟩⟩
  rcases hm.body with hb | ⟨cur, fr, hb⟩
  · exact .inl hb
  · refine .inr ⟨cur, fr, ⟨hb.hnil, hb.hb, hb.hfr, hb.happ, hb.hcs, hb.hct, hb.hlen, hb.hr, fun i r j x u a b c => hless x u (hb.hv i r j x u a b c) ?_, hb.h1, hb.him, hb.hnim⟩⟩
    rcases hm0.body with hb0 | ⟨cur0, fr0, hb0⟩
    · rw [hb0.2] at a; simp at a
    · obtain ⟨u0, _, g2⟩ := hb0.rd a j x b
      exact g2.has
theorem yv_to {P : Program} {S : AS} {o : Oper} {x y : AV} (h : YieldV P o S x) (e : x = y) : YieldV P o S y := e ▸ h
theorem yv_com {P : Program} {S : AS} {o : Oper} {T : TypeId} {x : Operand} {k : IntKind} {a r : Int} (ho : o.op = .unOp .xor T x) (hx : S.ev x = some (.sc (.int k a)))
    (hr : k.wrap ((BitVec.ofInt k.bits (if k.signed then -1 else k.max) ^^^ BitVec.ofInt k.bits a).toNat : Int) = r) : YieldV P o S (.sc (.int k r)) :=
  yv_sc1 hx (by simp [ho, Op.operands]) fun ρ w h1 => by subst hr; simp [execOp, ho, h1, Op.unary, Op.intBits]
theorem zz_com {v : Int} (h : isI v) (hv : v < 0) : IntKind.u64.wrap ((BitVec.ofInt IntKind.u64.bits (if IntKind.u64.signed then -1 else IntKind.u64.max) ^^^ BitVec.ofInt IntKind.u64.bits (tw v : Nat)).toNat : Int) = (zz v : Nat) := by
  have := zz_xor h
  rw [BitVec.xor_comm] at this
  have e : (sgu v : Int) = if IntKind.u64.signed then -1 else IntKind.u64.max := by unfold sgu; rw [if_pos hv]; decide
  rw [e] at this; exact this
theorem zz_pos {v : Int} (hv : ¬ v < 0) : tw v = zz v := by unfold tw zz; rw [if_neg hv, if_neg hv]
theorem or_128 : ∀ c : Nat, c < 256 → c ||| 128 = c % 128 + 128 := by decide +kernel
theorem or_u8 (u : Nat) : IntKind.u8.wrap ((BitVec.ofInt IntKind.u8.bits ((UInt8.ofNat u).toNat : Nat) ||| BitVec.ofInt IntKind.u8.bits 128).toNat : Int) = ((UInt8.ofNat (u % 128 + 128)).toNat : Nat) := by
  have h1 : (UInt8.ofNat u).toNat = u % 256 := by simp
  have h2 : (UInt8.ofNat (u % 128 + 128)).toNat = u % 128 + 128 := by simp; omega
  rw [h1, h2]
  have e : (BitVec.ofInt IntKind.u8.bits ((u % 256 : Nat) : Int) ||| BitVec.ofInt IntKind.u8.bits 128).toNat = u % 128 + 128 := by
    show (BitVec.ofInt 8 ((u % 256 : Nat) : Int) ||| BitVec.ofInt 8 128).toNat = _
    rw [BitVec.toNat_or, BitVec.toNat_ofInt, BitVec.toNat_ofInt]
    have h3 : (((u % 256 : Nat) : Int) % ((2 ^ 8 : Nat) : Int)).toNat = u % 256 := by omega
    have h4 : ((128 : Int) % ((2 ^ 8 : Nat) : Int)).toNat = 128 := by decide
    rw [h3, h4, or_128 _ (by omega)]; omega
  rw [e]; exact wrapu8 (by omega)
end Go.Pv
