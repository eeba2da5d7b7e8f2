import Derived.Test.YtppokdmifjmdfaaGreatK13b
set_option linter.unusedVariables false
namespace Go.Pv
open Go.Proofs
set_option maxRecDepth 10000
set_option maxHeartbeats 1000000
def d_voucher_Plain_L0 (a1 : List GLine) : Nat → Int → Option ((Unit) ⊕ ((Int)))
  | 0, _ => none
  | n + 1, y0_1 =>
    bnd (decide (y0_1 < (a1.length : Int))) fun x5 =>
    cond x5 ((ix a1 y0_1).bind fun x6 =>
    (d_voucher_Plain_1 x6).bind fun x7 =>
    cond x7 (esc (some (y0_1 : Int))) (bnd (w64 (y0_1 + 1)) fun x8 =>
    d_voucher_Plain_L0 a1 n (x8 : Int))) (brk ())
def d_voucher_Plain_L1 (a1 : List GLine) : Nat → Option (Unit)
  | 0 => none
  | n + 1 =>
    bnd (decide (20 ≤ (a1.length : Int))) fun x18 =>
    asrt (x18 = false) <|
    some ()
def d_voucher_Plain_L3 : Nat → Int → (List GLine) → Option ((List GLine))
  | 0, _, _ => none
  | n + 1, y7_1, y7_2 =>
    (show Option (Bool) from
    bnd (decide (y7_1 > 0)) fun x26 =>
    cond x26 ((ix y7_2 y7_1).bind fun x27 =>
    bnd (w64 (y7_1 - 1)) fun x28 =>
    (ix y7_2 x28).bind fun x29 =>
    (show Option ((Int)) from
    (d_voucher_Plain_2 x27).bind fun x33 =>
    (d_voucher_Plain_2 x29).bind fun x34 =>
    (d_cmp_Compare_int x33 x34).bind fun x35 =>
    some (x35 : Int)).bind <| fun y8_1 =>
    bnd (decide (y8_1 < 0)) fun x36 =>
    some (x36 : Bool)) (some (false : Bool))).bind <| fun y10_1 =>
    cond y10_1 (bnd (w64 (y7_1 - 1)) fun x37 =>
    bnd (w64 (y7_1 - 1)) fun x38 =>
    (ix y7_2 x38).bind fun x39 =>
    (ix y7_2 y7_1).bind fun x40 =>
    bnd (y7_2.set (Int.toNat y7_1) (x39 : GLine)) fun x41 =>
    (ix x41 x37).bind fun x42 =>
    bnd (x41.set (Int.toNat x37) (x40 : GLine)) fun x43 =>
    bnd (w64 (y7_1 - 1)) fun x44 =>
    d_voucher_Plain_L3 n (x44 : Int) (x43 : List GLine)) (some (y7_2 : List GLine))
def d_voucher_Plain_L2 (a1 : List GLine) : Nat → Int → (List GLine) → Option ((List GLine))
  | 0, _, _ => none
  | n + 1, y6_1, y6_2 =>
    bnd (decide (y6_1 < (a1.length : Int))) fun x22 =>
    cond x22 ((show Option ((List GLine)) from
    (show Option ((List GLine)) from
    d_voucher_Plain_L3 n (y6_1 : Int) (y6_2 : List GLine)).bind <| fun y11_1 =>
    some (y11_1 : List GLine)).bind <| fun y12_1 =>
    bnd (w64 (y6_1 + 1)) fun x45 =>
    d_voucher_Plain_L2 a1 n (x45 : Int) (y12_1 : List GLine)) (some (y6_2 : List GLine))
def d_voucher_Plain_L4 (a1 : List GLine) : Nat → Option (Unit)
  | 0 => none
  | n + 1 =>
    bnd (decide (20 < (a1.length : Int))) fun x48 =>
    asrt (x48 = false) <|
    some ()
def d_voucher_Plain_L5 (a1 : List GLine) (y19_1 : List GLine) : Nat → Int → (List GLine) → Option (((List GLine)) ⊕ ((List GLine) × Int))
  | 0, _, _ => none
  | n + 1, y20_2, y20_3 =>
    bnd (decide (y20_2 < (a1.length : Int))) fun x53 =>
    cond x53 ((show Option (((List GLine)) ⊕ (((List GLine)) ⊕ ((List GLine) × Int))) from
    (ix y19_1 y20_2).bind fun x55 =>
    bnd (w64 ((y20_3.length : Int) - 1)) fun x57 =>
    (show Option (Bool) from
    bnd (decide (x57 ≥ 0)) fun x59 =>
    cond x59 ((ix y20_3 x57).bind fun x60 =>
    bnd (decide (x60.Account = x55.Account)) fun x61 =>
    some (x61 : Bool)) (some (false : Bool))).bind <| fun y21_1 =>
    cond y21_1 ((ix y20_3 x57).bind fun x65 =>
    (d_money_Add x65.Amount x55.Amount).bind fun x66 =>
    bnd (decide (x66.2 ≠ 0)) fun x67 =>
    cond x67 (esc (esc (some (([] : List GLine), (x66.2 : Int))))) (bnd (y20_3.set (Int.toNat x57) ((⟨x65.Account, x66.1⟩ : GLine) : GLine)) fun x68 =>
    brk (x68 : List GLine))) (bnd (y20_3 ++ ([x55] : List GLine)) fun x62 =>
    asrt (x62.length ≤ 68719476736) <|
    brk (x62 : List GLine))).bind <| sel <| fun y22_2 =>
    bnd (w64 (y20_2 + 1)) fun x71 =>
    d_voucher_Plain_L5 a1 y19_1 n (x71 : Int) (y22_2 : List GLine)) (brk (y20_3 : List GLine))
def d_voucher_Plain_L6 (y23_2 : List GLine) : Nat → Int → Option ((Unit) ⊕ ((Int)))
  | 0, _ => none
  | n + 1, y24_1 =>
    bnd (decide (y24_1 < (y23_2.length : Int))) fun x75 =>
    cond x75 ((ix y23_2 y24_1).bind fun x76 =>
    (d_voucher_Plain_3 x76).bind fun x77 =>
    cond x77 (esc (some (y24_1 : Int))) (bnd (w64 (y24_1 + 1)) fun x78 =>
    d_voucher_Plain_L6 y23_2 n (x78 : Int))) (brk ())
def d_voucher_Plain_L7 : Nat → Int → Int → (List GLine) → Option (Int × (List GLine))
  | 0, _, _, _ => none
  | n + 1, y27_1, y27_2, y27_3 =>
    bnd (decide (y27_2 < (y27_3.length : Int))) fun x83 =>
    cond x83 ((show Option (Int × (List GLine)) from
    (ix y27_3 y27_2).bind fun x85 =>
    (d_voucher_Plain_3 x85).bind fun x87 =>
    bnd (!x87) fun x88 =>
    cond x88 ((ix y27_3 y27_1).bind fun x89 =>
    bnd (y27_3.set (Int.toNat y27_1) (x85 : GLine)) fun x90 =>
    bnd (w64 (y27_1 + 1)) fun x91 =>
    some ((x91 : Int), (x90 : List GLine))) (some ((y27_1 : Int), (y27_3 : List GLine)))).bind <| p2 fun (y28_1 : Int) (y28_2 : List GLine) =>
    bnd (w64 (y27_2 + 1)) fun x92 =>
    d_voucher_Plain_L7 n (y28_1 : Int) (x92 : Int) (y28_2 : List GLine)) (some ((y27_1 : Int), (y27_3 : List GLine)))
def d_voucher_Plain (n : Nat) (a1 : List GLine) : Option ((List GLine) × Int) :=
(show Option ((Bool)) from
(show Option ((Int)) from
(show Option ((Unit) ⊕ ((Int))) from
d_voucher_Plain_L0 a1 n (0 : Int)).bind <| sel <| fun _ =>
some ((-1) : Int)).bind <| fun y2_1 =>
bnd (decide (y2_1 ≥ 0)) fun x10 =>
some (x10 : Bool)).bind <| fun y3_1 =>
cond y3_1 (some (([] : List GLine), (1 : Int))) (asrt (a1.length ≤ 68719476736) <|
(show Option (((List GLine))) from
(show Option (((List GLine))) from
(show Option (((List GLine))) from
(show Option (Unit) from
d_voucher_Plain_L1 a1 n).bind <| fun _ =>
(show Option (((List GLine))) from
(show Option ((List GLine)) from
d_voucher_Plain_L2 a1 n (1 : Int) (a1 : List GLine)).bind <| fun y13_1 =>
some (y13_1 : List GLine)).bind <| fun y14_1 =>
asrt (y14_1.length = a1.length) <|
(show Option (Unit) from
d_voucher_Plain_L4 a1 n).bind <| fun _ =>
some (y14_1 : List GLine)).bind <| fun y17_1 =>
some (y17_1 : List GLine)).bind <| fun y18_1 =>
some (y18_1 : List GLine)).bind <| fun y19_1 =>
asrt (y19_1.length = a1.length) <|
(show Option (((List GLine)) ⊕ ((List GLine) × Int)) from
d_voucher_Plain_L5 a1 y19_1 n (0 : Int) (([] : List GLine) : List GLine)).bind <| sel <| fun y23_2 =>
(show Option ((Nat × Nat × (List GLine))) from
(show Option ((Int)) from
(show Option ((Unit) ⊕ ((Int))) from
d_voucher_Plain_L6 y23_2 n (0 : Int)).bind <| sel <| fun _ =>
some ((-1) : Int)).bind <| fun y26_1 =>
bnd (decide (y26_1 = (-1))) fun x80 =>
cond x80 (some ((0 : Nat), (y23_2.length : Nat), (y23_2 : List GLine))) (bnd (w64 (y26_1 + 1)) fun x81 =>
(show Option (Int × (List GLine)) from
d_voucher_Plain_L7 n (y26_1 : Int) (x81 : Int) (y23_2 : List GLine)).bind <| p2 fun (y29_1 : Int) (y29_2 : List GLine) =>
asrt ((0 : Int) ≤ y29_1 ∧ y29_1 < (y29_2.length : Int)) <|
bnd (y29_2.take (0 + y29_1.toNat)) fun x94 =>
asrt ((0 : Int) ≤ y29_1 ∧ y29_1 ≤ (y29_2.length : Int)) <|
some (((0 + 0) : Nat), ((y29_1.toNat - 0) : Nat), (x94 : List GLine)))).bind <| p2 fun (y30_1 : Nat) (q0 : Nat × (List GLine)) => (p2 fun (y30_2 : Nat) (y30_3 : List GLine) =>
asrt (y30_1 + y30_2 ≤ y30_3.length) <|
some (((((y30_3).drop y30_1).take y30_2) : List GLine), (0 : Int))) q0)
theorem d_voucher_Plain_c {n : Nat} {a1 : List GLine} {r : (List GLine) × Int} (h0 : d_voucher_Plain n a1 = some r) : PP Tryz.prog 108 [lst 2 GLine.av a1] (fun y => y = .tup [lst 2 GLine.av r.1, int r.2]) := by
  unfold d_voucher_Plain at h0
  refine pp_of_pc (R0 := fun y H => Cv (frzH H) y (.tup [lst 2 GLine.av r.1, int r.2])) ?_ (fun y H hc => ⟨_, rfl, .tup (pvl2 ((pvLs GLine.pvc) (r.1)) (pvI (r.2))), hc⟩)
  refine pcw (c := _) Tryz.func108 rfl rfl ?_; intro Q hret hnorm
  refine tc tbk 9 (.mk ?_)
  obtain ⟨j2, h1, h0⟩ := bind_e h0
  refine rse (Out := fun y H' => (∃ (a : Bool) (k : Unit), a = j2 ∧ y = boo a ∧ H' = hk [])) rfl rfl rfl (yl_call rfl rfl (.cons rfl (.cons rfl .nil)) cal151 ?_) ?_
  refine pcw (c := _) Tryz.func151 rfl rfl ?_; intro Q hret hnorm
  refine tc tbk 8 (.mk ?_)
  obtain ⟨j3, h2, h1⟩ := bind_e h1
  refine rse (Out := fun y H' => (∃ (a : Int) (k : Unit), a = j3 ∧ y = int a ∧ H' = hk [])) rfl rfl rfl (yl_call rfl rfl (.cons rfl (.cons rfl .nil)) cal191 ?_) ?_
  refine pcw (c := _) Tryz.func191 rfl rfl ?_; intro Q hret hnorm
  refine tc tbk 8 (.mk ?_)
  refine sY (yv_len_sl rfl Tryz.underlying82 rfl (lst_len _)) ?_
  refine tr tbk 2 (.mk ?_)
  refine jnE h2 [4] [] (fun (a : Unit) (k : Unit) => []) (fun a k => []) ⟨fun j4 h3 h2 => ?_, ?_⟩
  refine tc tbk 1 (.mk ?_)
  refine lp (fun n (a : Int) => d_voucher_Plain_L0 a1 n a) (0 : Int) () h3 [0, 1, 4, 7] [] (fun (a : Int) (k : Unit) => [(8, int a)]) (fun a k => []) (fun _ => rfl) ⟨leA, ?_⟩
  rintro n y0_1 _ hm h3
  replace h3 : d_voucher_Plain_L0 a1 (n + 1) y0_1 = some _ := h3
  rw [d_voucher_Plain_L0] at h3
  refine tc tbk 2 (.mk ?_)
  refine nb tbk h3 fun x5 h3 => ?_
  refine tr tbk 2 (.mk ?_)
  cases x5
  replace h3 := cf h3
  refine tc tbk 2 (.mk ?_)
  exact lfE h3 () leA
  replace h3 := ct h3
  refine tc tbk 14 (.mk ?_)
  obtain ⟨x6, e6, h3⟩ := bind_e h3
  refine sY (yv_ixT rfl Tryz.underlying82 sh81 rfl rfl e6) ?_
  refine tr tbk 1 (.mk ?_)
  obtain ⟨x7, e7, h3⟩ := bind_e h3
  refine sC cal152 (d_voucher_Plain_1_c e7) ?_
  refine tr tbk 1 (.mk ?_)
  cases x7
  replace h3 := cf h3
  refine tc tbk 4 (.mk ?_)
  refine ni tbk h3 fun x8 h3 => ?_
  refine tr tbk 2 (.mk ?_)
  exact bk x8 () h3 leA
  replace h3 := ct h3
  refine tc tbk 6 (.mk ?_)
  obtain ⟨c9, hX, hj⟩ := esc_e h3; subst hj; replace h2 := hX.trans (sel_r h2)
  obtain rfl := nxt_e h2
  refine w_ret (hret _ _ (hk []) (.tmp rfl .nil) (fun _ _ h => nomatch h) ?_)
  exact ⟨y0_1, (), rfl, rfl, rfl⟩
  rintro _ _ h2
  refine tc tbk 4 (.mk ?_)
  obtain rfl := nxt_e h2
  refine w_ret (hret _ _ (hk []) (.tmp rfl .nil) (fun _ _ h => nomatch h) ?_)
  exact ⟨(-1), (), rfl, rfl, rfl⟩
  rintro y _ ⟨y2_1, _, rfl, hc, rfl⟩
  subst hc
  refine nb tbk h1 fun x10 h1 => ?_
  refine tr tbk 2 (.mk ?_)
  obtain rfl := nxt_e h1
  refine w_ret (hret _ _ (hk []) (.tmp rfl .nil) (fun _ _ h => nomatch h) ?_)
  exact ⟨x10, (), rfl, rfl, rfl⟩
  rintro y _ ⟨y3_1, _, rfl, hc, rfl⟩
  subst hc
  refine tr tbk 1 (.mk ?_)
  cases y3_1
  replace h0 := cf h0
  refine tc tbk 5 (.mk ?_)
  obtain ⟨p11, h0⟩ := asrt_e h0
  refine rse rfl rfl rfl (yl_call rfl rfl (.cons rfl .nil) cal155 (pc_cv (clone155_c (id := 1) (l := a1) rfl p11) (.cons (.refl _) .nil))) ?_; rintro _ _ ⟨v12, rfl, rfl⟩
  refine tr tbk 5 (.mk ?_)
  obtain ⟨j13, h1, h0⟩ := bind_e h0
  refine rse (Out := fun y H' => (∃ (a : (List GLine)) (k : Unit), a = j13 ∧ y = .tup [] ∧ H' = hk [(1, ⟨81, 2, true, true, v12, a.map GLine.av⟩)])) rfl rfl rfl (yl_call rfl rfl (.cons rfl (.cons rfl .nil)) cal156 ?_) ?_
  refine pcw (c := _) Tryz.func156 rfl rfl ?_; intro Q hret hnorm
  refine tc tbk 2 (.mk ?_)
  refine sB 2 fun v14 => ?_
  refine tr tbk 4 (.mk ?_)
  obtain ⟨j15, h2, h1⟩ := bind_e h1
  refine rse (Out := fun y H' => (∃ (a : (List GLine)) (k : Unit), a = j15 ∧ y = .tup [] ∧ H' = hk [(1, ⟨81, 2, true, true, v12, a.map GLine.av⟩), (2, ⟨203, 1, true, true, v14, [[.fn (.func 157) [] []]]⟩)])) rfl rfl rfl (yl_call rfl rfl (.cons rfl (.cons rfl .nil)) cal192 ?_) ?_
  refine pcw (c := _) Tryz.func192 rfl rfl ?_; intro Q hret hnorm
  refine tc tbk 3 (.mk ?_)
  refine sY (yv_len_sl rfl Tryz.underlying82 rfl (.sl rfl rfl)) ?_
  refine tr tbk 1 (.mk ?_)
  obtain ⟨j16, h3, h2⟩ := bind_e h2
  refine rse (Out := fun y H' => (∃ (a : (List GLine)) (k : Unit), a = j16 ∧ y = .tup [] ∧ H' = hk [(1, ⟨81, 2, true, true, v12, a.map GLine.av⟩), (2, ⟨203, 1, true, true, v14, [[.fn (.func 157) [] []]]⟩)])) rfl rfl rfl (yl_call rfl rfl (.cons rfl (.cons rfl (.cons rfl .nil))) cal222 ?_) ?_
  refine pcw (c := _) Tryz.func222 rfl rfl ?_; intro Q hret hnorm
  refine tc tbk 11 (.mk ?_)
  refine jn h3 [0, 1, 2, 6, 7] [1, 2] (fun (a : Unit) (k : Unit) => []) (fun a k => []) ⟨fun j17 h4 => ?_, ?_⟩
  refine tc tbk 1 (.mk ?_)
  refine lp (fun n (a : Unit) => d_voucher_Plain_L1 a1 n) () () h4 [0, 1, 2, 6, 7, 8] [1, 2] (fun (a : Unit) (k : Unit) => []) (fun a k => []) (fun _ => rfl) ⟨leA, ?_⟩
  rintro n _ _ hm h4
  replace h4 : d_voucher_Plain_L1 a1 (n + 1) = some _ := h4
  rw [d_voucher_Plain_L1] at h4
  refine tc tbk 5 (.mk ?_)
  refine nb tbk h4 fun x18 h4 => ?_
  refine tr tbk 1 (.mk ?_)
  obtain ⟨p19, h4⟩ := asrt_e h4
  subst p19
  refine tc tbk 2 (.mk ?_)
  exact lf h4 () leA
  rintro _ _ h3
  refine tc tbk 6 (.mk ?_)
  obtain ⟨j20, h4, h3⟩ := bind_e h3
  refine rse (Out := fun y H' => (∃ (a : (List GLine)) (k : Unit), a = j20 ∧ y = .tup [] ∧ H' = hk [(1, ⟨81, 2, true, true, v12, a.map GLine.av⟩), (2, ⟨203, 1, true, true, v14, [[.fn (.func 157) [] []]]⟩)])) rfl rfl rfl (yl_call rfl rfl (.cons rfl (.cons rfl (.cons rfl (.cons rfl .nil)))) cal240 ?_) ?_
  refine pcw (c := _) Tryz.func240 rfl rfl ?_; intro Q hret hnorm
  refine tc tbk 3 (.mk ?_)
  refine sY (yv_add (r := 1) rfl rfl rfl (by decide)) ?_
  refine tr tbk 2 (.mk ?_)
  refine jn h4 [] [2] (fun (a : (List GLine)) (k : Unit) => []) (fun a k => [(1, ⟨81, 2, true, true, v12, a.map GLine.av⟩)]) ⟨fun j21 h5 => ?_, ?_⟩
  refine tc tbk 1 (.mk ?_)
  refine lp (fun n (a : Int × (List GLine)) => d_voucher_Plain_L2 a1 n a.1 a.2) ((1 : Int), (a1 : List GLine)) () h5 [1, 2, 3] [2] (fun (a : Int × (List GLine)) (k : Unit) => [(0, .sl 1 v12 0 a.2.length), (8, int a.1)]) (fun a k => [(1, ⟨81, 2, true, true, v12, a.2.map GLine.av⟩)]) (fun _ => rfl) ⟨leA, ?_⟩
  rintro n ⟨y6_1, y6_2⟩ _ hm h5
  replace h5 : d_voucher_Plain_L2 a1 (n + 1) y6_1 y6_2 = some _ := h5
  rw [d_voucher_Plain_L2] at h5
  refine tc tbk 5 (.mk ?_)
  refine nb tbk h5 fun x22 h5 => ?_
  refine tr tbk 1 (.mk ?_)
  cases x22
  replace h5 := cf h5
  refine tc tbk 2 (.mk ?_)
  exact lf h5 () leA
  replace h5 := ct h5
  refine tc tbk 3 (.mk ?_)
  refine jn h5 [1, 2, 3, 8] [2] (fun (a : (List GLine)) (k : Unit) => [(0, .sl 1 v12 0 a.length)]) (fun a k => [(1, ⟨81, 2, true, true, v12, a.map GLine.av⟩)]) ⟨fun j23 h6 => ?_, ?_⟩
  refine tc tbk 6 (.mk ?_)
  refine jn h6 [1, 2, 3, 8] [2] (fun (a : (List GLine)) (k : Unit) => [(0, .sl 1 v12 0 a.length)]) (fun a k => [(1, ⟨81, 2, true, true, v12, a.map GLine.av⟩)]) ⟨fun j24 h7 => ?_, ?_⟩
  refine tc tbk 1 (.mk ?_)
  refine lp (fun n (a : Int × (List GLine)) => d_voucher_Plain_L3 n a.1 a.2) ((y6_1 : Int), (y6_2 : List GLine)) () h7 [1, 2, 3, 8] [2] (fun (a : Int × (List GLine)) (k : Unit) => [(0, .sl 1 v12 0 a.2.length), (9, int a.1)]) (fun a k => [(1, ⟨81, 2, true, true, v12, a.2.map GLine.av⟩)]) (fun _ => rfl) ⟨leA, ?_⟩
  rintro n ⟨y7_1, y7_2⟩ _ hm h7
  replace h7 : d_voucher_Plain_L3 (n + 1) y7_1 y7_2 = some _ := h7
  rw [d_voucher_Plain_L3] at h7
  refine tc tbk 2 (.mk ?_)
  refine jn h7 [0, 1, 2, 3, 8, 9] [1, 2] (fun (a : Bool) (k : Unit) => [(34, boo a)]) (fun a k => []) ⟨fun j25 h8 => ?_, ?_⟩
  refine c_drawE [0, 0, 3, 7, 15, 15, 15, 111, 239, 15, 15, 1039, 3599, 7695, 16383, 32767, 65535] (rl [(7, [1]), (8, [1]), (12, [1]), (13, [1])] []) (rl [(14, [])] [1]) (rl [(14, false)] true) [0, 1, 2, 3, 4, 5, 6, 7, 8, 9, 10, 11, 12, 13, 14, 15, 16] mixed (by kernel_rfl) ?_; intro K hK
  iterate 2 refine eM ?_
  obtain ⟨x26, e26, h8⟩ := bnd_e h8
  refine eP (fun H hH => yv_to (y := boo x26) (yv_gtr rfl rfl rfl) (congrArg boo e26)) ?_
  refine eM ?_
  cases x26
  replace h8 := cf h8
  refine de_skip rfl rfl rfl ?_
  refine de_skip rfl rfl rfl ?_
  refine de_skip rfl rfl rfl ?_
  refine de_skip rfl rfl rfl ?_
  refine de_skip rfl rfl rfl ?_
  refine de_skip rfl rfl rfl ?_
  refine de_skip rfl rfl rfl ?_
  refine de_skip rfl rfl rfl ?_
  refine de_skip rfl rfl rfl ?_
  refine de_skip rfl rfl rfl ?_
  refine de_skip rfl rfl rfl ?_
  refine de_skip rfl rfl rfl ?_
  refine eP (fun H hH => yv_pick rfl rfl (fun _ => rfl) (fun _ => rfl) rfl) ?_
  refine de_nil (hK _ ?_)
  exact lf h8 () leA
  replace h8 := ct h8
  iterate 3 refine eM ?_
  obtain ⟨x27, e27, h8⟩ := bind_e h8
  refine de_pure rfl rfl rfl rfl (fun H hH => yv_ixO rfl Tryz.underlying82 sh81 rfl rfl ((hH _ (by decide)).trans rfl) rfl rfl (Eq.symm rfl) (List.length_map _) e27) ?_
  refine eL sh81 (hr := ix_get e27) ?_
  iterate 2 refine eM ?_
  obtain ⟨x28, e28, h8⟩ := bnd_e h8
  refine eP (fun H hH => yv_sub rfl rfl rfl e28) ?_
  obtain ⟨x29, e29, h8⟩ := bind_e h8
  refine de_pure rfl rfl rfl rfl (fun H hH => yv_ixO rfl Tryz.underlying82 sh81 rfl rfl ((hH _ (by decide)).trans rfl) rfl rfl (Eq.symm rfl) (List.length_map _) e29) ?_
  refine eL sh81 (hr := ix_get e29) ?_
  obtain ⟨j30, h9, h8⟩ := bind_e h8
  refine de_eff (Out := fun y H' => (∃ (a : Int) (k : Unit), a = j30 ∧ y = int a ∧ H' = hk [(1, ⟨81, 2, true, true, v12, y7_2.map GLine.av⟩), (2, ⟨203, 1, true, true, v14, [[.fn (.func 157) [] []]]⟩)])) rfl rfl rfl rfl (yl_call rfl rfl (.cons rfl (.cons rfl .nil)) cal193 ?_) (by rintro y _ ⟨y8_1, _, rfl, hc, rfl⟩ <;> exact trivial) ?_
  refine pcw (c := _) Tryz.func193 rfl rfl ?_; intro Q hret hnorm
  refine tc tbk 2 (.mk ?_)
  refine sB 3 fun v31 => ?_
  refine sB 4 fun v32 => ?_
  refine tr tbk 3 (.mk ?_)
  refine c_drawE [0, 0, 3, 0, 0, 31, 63, 127] (rl [(0, [2]), (1, [3]), (3, [2]), (4, [4])] []) (fun i => [2, 3, 4]) (fun i => true) [0, 1, 2, 3, 4, 5, 6, 7] mixed (by kernel_rfl) ?_; intro K hK
  refine eL sh203 ?_
  refine eL sh81 ?_
  obtain ⟨x33, e33, h9⟩ := bind_e h9
  refine eP (fun H hH => yv_callP rfl rfl (.cons rfl .nil) cal157 (CvL.refl _) (d_voucher_Plain_2_c e33)) ?_
  refine eL sh203 ?_
  refine eL sh81 ?_
  obtain ⟨x34, e34, h9⟩ := bind_e h9
  refine eP (fun H hH => yv_callP rfl rfl (.cons rfl .nil) cal157 (CvL.refl _) (d_voucher_Plain_2_c e34)) ?_
  obtain ⟨x35, e35, h9⟩ := bind_e h9
  refine eP (fun H hH => yv_callP rfl rfl (.cons rfl (.cons rfl .nil)) cal194 (CvL.refl _) (d_cmp_Compare_int_c e35)) ?_
  refine eA ?_
  refine de_nil (hK _ ?_)
  obtain rfl := nxt_e h9
  refine w_ret (hret _ _ (hk [(1, ⟨81, 2, true, true, v12, y7_2.map GLine.av⟩), (2, ⟨203, 1, true, true, v14, [[.fn (.func 157) [] []]]⟩)]) (.tmp rfl .nil) (HK.le ⟨rfl, rfl, trivial⟩) ?_)
  exact ⟨x35, (), rfl, rfl, rfl⟩
  rintro y _ ⟨y8_1, _, rfl, hc, rfl⟩
  subst hc
  obtain ⟨x36, e36, h8⟩ := bnd_e h8
  refine eP (fun H hH => yv_to (y := boo x36) (yv_lss rfl rfl rfl) (congrArg boo e36)) ?_
  refine eP (fun H hH => yv_pick rfl rfl (fun _ => rfl) (fun _ => rfl) rfl) ?_
  refine de_nil (hK _ ?_)
  exact lf h8 () leA
  rintro y10_1 _ h7
  cases y10_1
  replace h7 := cf h7
  refine tc tbk 2 (.mk ?_)
  exact lf h7 () leA
  replace h7 := ct h7
  refine tc tbk 4 (.mk ?_)
  refine c_drawE [0, 0, 0, 0, 8, 0, 0, 64, 224, 480, 0, 0, 3072, 7168, 16355, 32739, 65535, 131071] (rl [(8, [1]), (9, [1]), (12, [1]), (13, [1]), (14, [1]), (16, [1])] []) (rl [(15, []), (17, [])] [1]) (rl [(15, false), (17, false)] true) [0, 1, 2, 3, 4, 5, 6, 7, 8, 9, 10, 11, 12, 13, 14, 15, 16, 17] mixed (by kernel_rfl) ?_; intro K hK
  iterate 4 refine eM ?_
  obtain ⟨x37, e37, h7⟩ := bnd_e h7
  refine eP (fun H hH => yv_sub rfl rfl rfl e37) ?_
  iterate 2 refine eM ?_
  obtain ⟨x38, e38, h7⟩ := bnd_e h7
  refine eP (fun H hH => yv_sub rfl rfl rfl e38) ?_
  obtain ⟨x39, e39, h7⟩ := bind_e h7
  refine de_pure rfl rfl rfl rfl (fun H hH => yv_ixO rfl Tryz.underlying82 sh81 rfl rfl ((hH _ (by decide)).trans rfl) rfl rfl (Eq.symm rfl) (List.length_map _) e39) ?_
  refine eL sh81 (hr := ix_get e39) ?_
  iterate 2 refine eM ?_
  obtain ⟨x40, e40, h7⟩ := bind_e h7
  refine de_pure rfl rfl rfl rfl (fun H hH => yv_ixO rfl Tryz.underlying82 sh81 rfl rfl ((hH _ (by decide)).trans rfl) rfl rfl (Eq.symm rfl) (List.length_map _) e40) ?_
  refine eL sh81 (hr := ix_get e40) ?_
  refine de_pure rfl rfl rfl rfl (fun H hH => yv_ixO rfl Tryz.underlying82 sh81 rfl rfl ((hH _ (by decide)).trans rfl) rfl rfl (Eq.symm rfl) (List.length_map _) e40) ?_
  obtain ⟨x41, e41, h7⟩ := bnd_e h7
  have fx41 := ix_set e40 e41; have lx41 := len_setV e41 (rfl : y7_2.length = y7_2.length)
  refine de_eff0 rfl rfl rfl rfl (Yield.weak (yl_ob (ob' := (⟨81, 2, true, true, v12, x41.map GLine.av⟩ : AObj)) (yl_store rfl sh81 rfl rfl rfl rfl rfl (ix_get e40) rfl rfl rfl) (ob_eq (map_setV e41))) (fun _ h => h) (fun _ _ => trivial)) (by rintro _ _ ⟨rfl, rfl⟩; exact trivial) ?_; rintro _ _ ⟨rfl, rfl⟩
  obtain ⟨x42, e42, h7⟩ := bind_e h7
  refine de_pure rfl rfl rfl rfl (fun H hH => yv_ixO rfl Tryz.underlying82 sh81 rfl rfl ((hH _ (by decide)).trans rfl) rfl rfl (Eq.symm lx41) (List.length_map _) e42) ?_
  obtain ⟨x43, e43, h7⟩ := bnd_e h7
  have fx43 := ix_set e42 e43; have lx43 := len_setV e43 lx41
  refine de_eff0 rfl rfl rfl rfl (Yield.weak (yl_ob (ob' := (⟨81, 2, true, true, v12, x43.map GLine.av⟩ : AObj)) (yl_store rfl sh81 rfl rfl rfl rfl rfl (ix_get e42) rfl rfl rfl) (ob_eq (map_setV e43))) (fun _ h => h) (fun _ _ => trivial)) (by rintro _ _ ⟨rfl, rfl⟩; exact trivial) ?_; rintro _ _ ⟨rfl, rfl⟩
  refine de_nil (hK _ ?_)
  refine tc tbk 3 (.mk ?_)
  refine ni tbk h7 fun x44 h7 => ?_
  refine tr tbk 2 (.mk ?_)
  exact bk (x44, x43) () h7 (leH_kn ⟨⟨_, rfl, (cv_slen (Eq.symm lx43))⟩, ⟨_, rfl, (.refl _)⟩, ⟨_, rfl, (.refl _)⟩, ⟨_, rfl, (.refl _)⟩, ⟨_, rfl, (.refl _)⟩, ⟨_, rfl, (.refl _)⟩, trivial⟩ ⟨⟨_, rfl, (.refl _)⟩, ⟨_, rfl, (.refl _)⟩, trivial⟩)
  rintro y11_1 _ h6
  refine tc tbk 1 (.mk ?_)
  exact lf h6 () leA
  rintro y12_1 _ h5
  refine tc tbk 2 (.mk ?_)
  refine ni tbk h5 fun x45 h5 => ?_
  refine tr tbk 2 (.mk ?_)
  exact bk (x45, y12_1) () h5 leA
  rintro y13_1 _ h4
  obtain rfl := nxt_e h4
  refine c_nil (hnorm _ _ (hk [(1, ⟨81, 2, true, true, v12, y13_1.map GLine.av⟩), (2, ⟨203, 1, true, true, v14, [[.fn (.func 157) [] []]]⟩)]) .nil (HK.le ⟨rfl, rfl, trivial⟩) ?_)
  exact ⟨y13_1, (), rfl, rfl, rfl⟩
  rintro y _ ⟨y14_1, _, rfl, hc, rfl⟩
  subst hc
  refine tr tbk 1 (.mk ?_)
  obtain ⟨p46, h3⟩ := asrt_e h3
  refine jn h3 [] [1, 2] (fun (a : Unit) (k : Unit) => []) (fun a k => []) ⟨fun j47 h4 => ?_, ?_⟩
  refine tc tbk 1 (.mk ?_)
  refine lp (fun n (a : Unit) => d_voucher_Plain_L4 a1 n) () () h4 [0, 1, 2, 6] [1, 2] (fun (a : Unit) (k : Unit) => []) (fun a k => []) (fun _ => rfl) ⟨leA, ?_⟩
  rintro n _ _ hm h4
  replace h4 : d_voucher_Plain_L4 a1 (n + 1) = some _ := h4
  rw [d_voucher_Plain_L4] at h4
  refine tc tbk 5 (.mk ?_)
  refine nb tbk h4 fun x48 h4 => ?_
  refine tr tbk 1 (.mk ?_)
  obtain ⟨p49, h4⟩ := asrt_e h4
  subst p49
  refine tc tbk 2 (.mk ?_)
  exact lf h4 () leA
  rintro _ _ h3
  obtain rfl := nxt_e h3
  refine c_nil (hnorm _ _ (hk [(1, ⟨81, 2, true, true, v12, y14_1.map GLine.av⟩), (2, ⟨203, 1, true, true, v14, [[.fn (.func 157) [] []]]⟩)]) .nil (HK.le ⟨rfl, rfl, trivial⟩) ?_)
  exact ⟨y14_1, (), rfl, rfl, rfl⟩
  rintro y _ ⟨y17_1, _, rfl, hc, rfl⟩
  subst hc
  refine tr tbk 1 (.mk ?_)
  obtain rfl := nxt_e h2
  refine g_nil (hnorm _ _ (hk [(1, ⟨81, 2, true, true, v12, y17_1.map GLine.av⟩), (2, ⟨203, 1, true, true, v14, [[.fn (.func 157) [] []]]⟩)]) .nil (HK.le ⟨rfl, rfl, trivial⟩) ?_)
  exact ⟨y17_1, (), rfl, rfl, rfl⟩
  rintro y _ ⟨y18_1, _, rfl, hc, rfl⟩
  subst hc
  refine tr tbk 1 (.mk ?_)
  obtain rfl := nxt_e h1
  refine g_nil (hnorm _ _ (hk [(1, ⟨81, 2, true, true, v12, y18_1.map GLine.av⟩)]) .nil (HK.le ⟨rfl, trivial⟩) ?_)
  exact ⟨y18_1, (), rfl, rfl, rfl⟩
  rintro y _ ⟨y19_1, _, rfl, hc, rfl⟩
  subst hc
  refine tr tbk 8 (.mk ?_)
  obtain ⟨p50, h0⟩ := asrt_e h0
  refine sY (yv_move rfl rfl) ?_
  refine sY (yv_len_sl rfl Tryz.underlying82 rfl (.sl rfl rfl)) ?_
  refine tr tbk 2 (.mk ?_)
  refine jnE h0 [2, 3] [] (fun (a : (List GLine)) (k : Nat) => [(5, .sl 7 k 0 a.length)]) (fun a k => [(7, ⟨81, 2, true, true, k, a.map GLine.av⟩)]) ⟨fun j51 h1 h0 => ?_, ?_⟩
  refine tc tbk 1 (.mk ?_)
  refine c_nilobj 5 7 81 2 rfl rfl ?_; intro v52
  refine lp (fun n (a : Int × (List GLine)) => d_voucher_Plain_L5 a1 y19_1 n a.1 a.2) ((0 : Int), (([] : List GLine) : List GLine)) v52 h1 [2, 3, 17, 18] [1] (fun (a : Int × (List GLine)) (k : Nat) => [(5, .sl 7 k 0 a.2.length), (19, int a.1)]) (fun a k => [(7, ⟨81, 2, true, true, k, a.2.map GLine.av⟩)]) (fun _ => rfl) ⟨leA, ?_⟩
  rintro n ⟨y20_2, y20_3⟩ w20_1 hm h1
  replace h1 : d_voucher_Plain_L5 a1 y19_1 (n + 1) y20_2 y20_3 = some _ := h1
  rw [d_voucher_Plain_L5] at h1
  refine tc tbk 2 (.mk ?_)
  refine nb tbk h1 fun x53 h1 => ?_
  refine tr tbk 2 (.mk ?_)
  cases x53
  replace h1 := cf h1
  refine tc tbk 2 (.mk ?_)
  exact lfE h1 w20_1 leA
  replace h1 := ct h1
  refine tc tbk 3 (.mk ?_)
  refine jnE h1 [2, 3, 17, 18, 19] [1] (fun (a : (List GLine)) (k : Nat) => [(5, .sl 7 k 0 a.length)]) (fun a k => [(7, ⟨81, 2, true, true, k, a.map GLine.av⟩)]) ⟨fun j54 h2 h1 => ?_, ?_⟩
  refine tc tbk 3 (.mk ?_)
  obtain ⟨x55, e55, h2⟩ := bind_e h2
  refine sY (yv_ixO rfl Tryz.underlying82 sh81 rfl rfl rfl rfl rfl (Eq.symm p50) (List.length_map _) e55) ?_
  refine sY (yv_load rfl sh81 rfl (.pt rfl rfl (ix_get e55)) rfl) ?_
  refine sA 5 z81 fun v56 => ?_
  refine sS ⟨81, 2, true, true, v56, [[int x55.Account, int x55.Amount]]⟩ sh81 ?_
  refine tr tbk 5 (.mk ?_)
  refine sY (yv_len_sl rfl Tryz.underlying82 rfl (.sl rfl rfl)) ?_
  refine ni tbk h2 fun x57 h2 => ?_
  refine tr tbk 3 (.mk ?_)
  refine jn h2 [2, 3, 5, 7, 8, 17, 18, 19] [1, 5, 7] (fun (a : Bool) (k : Unit) => [(37, boo a)]) (fun a k => []) ⟨fun j58 h3 => ?_, ?_⟩
  refine c_drawE [0, 1, 3, 7, 7, 31, 63, 127, 7, 263, 1023, 2047] (rl [(5, [7]), (6, [7]), (7, [7]), (8, [5]), (9, [5])] []) (fun i => [5, 7]) (fun i => true) [0, 1, 2, 3, 4, 5, 6, 7, 8, 9, 10, 11] mixed (by kernel_rfl) ?_; intro K hK
  refine eM ?_
  obtain ⟨x59, e59, h3⟩ := bnd_e h3
  refine eP (fun H hH => yv_to (y := boo x59) (yv_geq rfl rfl rfl) (congrArg boo e59)) ?_
  refine eM ?_
  cases x59
  replace h3 := cf h3
  refine de_skip rfl rfl rfl ?_
  refine de_skip rfl rfl rfl ?_
  refine de_skip rfl rfl rfl ?_
  refine de_skip rfl rfl rfl ?_
  refine de_skip rfl rfl rfl ?_
  refine de_skip rfl rfl rfl ?_
  refine de_skip rfl rfl rfl ?_
  refine de_skip rfl rfl rfl ?_
  refine eP (fun H hH => yv_pick rfl rfl (fun _ => rfl) (fun _ => rfl) rfl) ?_
  refine de_nil (hK _ ?_)
  exact lf h3 () leA
  replace h3 := ct h3
  iterate 2 refine eM ?_
  obtain ⟨x60, e60, h3⟩ := bind_e h3
  refine de_pure rfl rfl rfl rfl (fun H hH => yv_ixO rfl Tryz.underlying82 sh81 rfl rfl ((hH _ (by decide)).trans rfl) rfl rfl (Eq.symm rfl) (List.length_map _) e60) ?_
  refine eF fo81_0 (hr := ix_get e60) ?_
  refine eL sh3 (hr := ix_get e60) ?_
  refine eF fo81_0 ?_
  refine eL sh3 ?_
  obtain ⟨x61, e61, h3⟩ := bnd_e h3
  refine eP (fun H hH => yv_to (y := boo x61) (yv_eql rfl rfl rfl) (congrArg boo e61)) ?_
  refine eP (fun H hH => yv_pick rfl rfl (fun _ => rfl) (fun _ => rfl) rfl) ?_
  refine de_nil (hK _ ?_)
  exact lf h3 () leA
  rintro y21_1 _ h2
  cases y21_1
  replace h2 := cf h2
  refine tc tbk 5 (.mk ?_)
  refine sY (yv_to (y := lst 2 GLine.av ([x55] : List GLine)) (yv_buildSlice (ps := [(0, _)]) (rows := [[int x55.Account, int x55.Amount]]) rfl Tryz.underlying82 bz81 (.cons rfl .nil) (by kernel_rfl) rfl rfl rfl) rfl) ?_
  obtain ⟨x62, e62, h2⟩ := bnd_e h2
  obtain ⟨p63, h2⟩ := asrt_e h2
  refine rse rfl rfl rfl (yl_appT (g := GLine.av) (l := y20_3) (m := ([x55] : List GLine)) .any rfl Tryz.underlying82 bz81 by81 rfl rfl rfl rfl rfl rfl rfl rfl rfl rfl (Eq.symm rfl) (.refl _) (fun _ => rfl) e62 p63) ?_; rintro _ _ ⟨v64, -, rfl, rfl⟩
  refine tr tbk 3 (.mk ?_)
  exact lfE h2 v64 leA
  replace h2 := ct h2
  refine tc tbk 2 (.mk ?_)
  refine c_drawE [0, 0, 3, 7, 15, 0, 32, 127, 255, 511, 511, 1023, 4095] (rl [(2, [7]), (3, [7]), (4, [7]), (5, [5]), (6, [5])] []) (fun i => [5, 7]) (fun i => true) [0, 1, 2, 3, 4, 5, 6, 7, 8, 9, 10, 11, 12] mixed (by kernel_rfl) ?_; intro K hK
  iterate 2 refine eM ?_
  obtain ⟨x65, e65, h2⟩ := bind_e h2
  refine de_pure rfl rfl rfl rfl (fun H hH => yv_ixO rfl Tryz.underlying82 sh81 rfl rfl ((hH _ (by decide)).trans rfl) rfl rfl (Eq.symm rfl) (List.length_map _) e65) ?_
  refine eF fo81_1 (hr := ix_get e65) ?_
  refine eL sh3 (hr := ix_get e65) ?_
  refine eF fo81_1 ?_
  refine eL sh3 ?_
  obtain ⟨x66, e66, h2⟩ := bind_e h2
  refine eP (fun H hH => yv_callP rfl rfl (.cons rfl (.cons rfl .nil)) cal136 (CvL.refl _) (d_money_Add_c e66)) ?_
  refine eM ?_
  iterate 2 refine eX ?_
  iterate 2 refine eA ?_
  refine de_nil (hK _ ?_)
  refine tc tbk 4 (.mk ?_)
  refine nb tbk h2 fun x67 h2 => ?_
  refine tr tbk 1 (.mk ?_)
  cases x67
  replace h2 := cf h2
  refine tc tbk 7 (.mk ?_)
  refine sY (yv_ixO rfl Tryz.underlying82 sh81 rfl rfl rfl rfl rfl (Eq.symm rfl) (List.length_map _) e65) ?_
  refine sY (yv_fieldAddr rfl fo81_1 rfl (.pt rfl rfl (ix_get e65)) (.pt _ _ _ _ _)) ?_
  obtain ⟨x68, e68, h2⟩ := bnd_e h2
  have fx68 := ix_set e65 e68; have lx68 := len_setV e68 (rfl : y20_3.length = y20_3.length)
  refine rsstore rfl rfl (yl_ob (ob' := (⟨81, 2, true, true, w20_1, x68.map GLine.av⟩ : AObj)) (yl_store rfl sh3 rfl rfl rfl rfl rfl (ix_get e65) rfl rfl rfl) (ob_eq (map_setV e68))) ?_
  refine tr tbk 2 (.mk ?_)
  exact lfE h2 w20_1 (leH_kn ⟨⟨_, rfl, (cv_slen (Eq.symm lx68))⟩, ⟨_, rfl, (.refl _)⟩, ⟨_, rfl, (.refl _)⟩, ⟨_, rfl, (.refl _)⟩, ⟨_, rfl, (.refl _)⟩, ⟨_, rfl, (.refl _)⟩, trivial⟩ ⟨⟨_, rfl, (.refl _)⟩, ⟨_, rfl, (.refl _)⟩, trivial⟩)
  replace h2 := ct h2
  refine tc tbk 7 (.mk ?_)
  obtain ⟨c69, hX, hj⟩ := esc_e h2; subst hj; replace h1 := hX.trans (sel_r h1)
  obtain ⟨c70, hX, hj⟩ := esc_e h1; subst hj; replace h0 := hX.trans (sel_r h0)
  obtain rfl := nxt_e h0
  refine wR hret (rT (rT .nil)) ?_
  exact CvL.tup (.cons (.nil _) (.cons (.refl _) .nil))
  rintro y22_2 w22_1 h1
  refine tc tbk 1 (.mk ?_)
  refine ni tbk h1 fun x71 h1 => ?_
  refine tr tbk 2 (.mk ?_)
  exact bk (x71, y22_2) w22_1 h1 leA
  rintro y23_2 w23_1 h0
  refine tc tbk 3 (.mk ?_)
  obtain ⟨j72, h1, h0⟩ := bind_e h0
  refine rse (Out := fun y H' => (∃ (a : Nat × Nat × (List GLine)) (k : Unit), a = j72 ∧ y = .sl 7 w23_1 a.1 a.2.1 ∧ H' = hk [(7, ⟨81, 2, true, true, w23_1, a.2.2.map GLine.av⟩)])) rfl rfl rfl (yl_call rfl rfl (.cons rfl (.cons rfl .nil)) cal158 ?_) ?_
  refine pcw (c := _) Tryz.func158 rfl rfl ?_; intro Q hret hnorm
  refine tc tbk 8 (.mk ?_)
  obtain ⟨j73, h2, h1⟩ := bind_e h1
  refine rse (Out := fun y H' => (∃ (a : Int) (k : Unit), a = j73 ∧ y = int a ∧ H' = hk [(7, ⟨81, 2, true, true, w23_1, y23_2.map GLine.av⟩)])) rfl rfl rfl (yl_call rfl rfl (.cons rfl (.cons rfl .nil)) cal191 ?_) ?_
  refine pcw (c := _) Tryz.func191 rfl rfl ?_; intro Q hret hnorm
  refine tc tbk 8 (.mk ?_)
  refine sY (yv_len_sl rfl Tryz.underlying82 rfl (.sl rfl rfl)) ?_
  refine tr tbk 2 (.mk ?_)
  refine jnE h2 [4] [7] (fun (a : Unit) (k : Unit) => []) (fun a k => []) ⟨fun j74 h3 h2 => ?_, ?_⟩
  refine tc tbk 1 (.mk ?_)
  refine lp (fun n (a : Int) => d_voucher_Plain_L6 y23_2 n a) (0 : Int) () h3 [0, 1, 4, 7] [7] (fun (a : Int) (k : Unit) => [(8, int a)]) (fun a k => []) (fun _ => rfl) ⟨leA, ?_⟩
  rintro n y24_1 _ hm h3
  replace h3 : d_voucher_Plain_L6 y23_2 (n + 1) y24_1 = some _ := h3
  rw [d_voucher_Plain_L6] at h3
  refine tc tbk 2 (.mk ?_)
  refine nb tbk h3 fun x75 h3 => ?_
  refine tr tbk 2 (.mk ?_)
  cases x75
  replace h3 := cf h3
  refine tc tbk 2 (.mk ?_)
  exact lfE h3 () leA
  replace h3 := ct h3
  refine tc tbk 14 (.mk ?_)
  obtain ⟨x76, e76, h3⟩ := bind_e h3
  refine sY (yv_ixO rfl Tryz.underlying82 sh81 rfl rfl rfl rfl rfl (Eq.symm rfl) (List.length_map _) e76) ?_
  refine sY (yv_load rfl sh81 rfl (.pt rfl rfl (ix_get e76)) rfl) ?_
  obtain ⟨x77, e77, h3⟩ := bind_e h3
  refine sC cal159 (d_voucher_Plain_3_c e77) ?_
  refine tr tbk 1 (.mk ?_)
  cases x77
  replace h3 := cf h3
  refine tc tbk 4 (.mk ?_)
  refine ni tbk h3 fun x78 h3 => ?_
  refine tr tbk 2 (.mk ?_)
  exact bk x78 () h3 leA
  replace h3 := ct h3
  refine tc tbk 6 (.mk ?_)
  obtain ⟨c79, hX, hj⟩ := esc_e h3; subst hj; replace h2 := hX.trans (sel_r h2)
  obtain rfl := nxt_e h2
  refine w_ret (hret _ _ (hk [(7, ⟨81, 2, true, true, w23_1, y23_2.map GLine.av⟩)]) (.tmp rfl .nil) (HK.le ⟨rfl, trivial⟩) ?_)
  exact ⟨y24_1, (), rfl, rfl, rfl⟩
  rintro _ _ h2
  refine tc tbk 4 (.mk ?_)
  obtain rfl := nxt_e h2
  refine w_ret (hret _ _ (hk [(7, ⟨81, 2, true, true, w23_1, y23_2.map GLine.av⟩)]) (.tmp rfl .nil) (HK.le ⟨rfl, trivial⟩) ?_)
  exact ⟨(-1), (), rfl, rfl, rfl⟩
  rintro y _ ⟨y26_1, _, rfl, hc, rfl⟩
  subst hc
  refine tr tbk 6 (.mk ?_)
  refine nb tbk h1 fun x80 h1 => ?_
  refine tr tbk 1 (.mk ?_)
  cases x80
  replace h1 := cf h1
  refine tc tbk 6 (.mk ?_)
  refine ni tbk h1 fun x81 h1 => ?_
  refine tr tbk 2 (.mk ?_)
  refine jn h1 [4] [] (fun (a : Int × (List GLine)) (k : Unit) => [(0, .sl 7 w23_1 0 a.2.length), (5, int a.1)]) (fun a k => [(7, ⟨81, 2, true, true, w23_1, a.2.map GLine.av⟩)]) ⟨fun j82 h2 => ?_, ?_⟩
  refine tc tbk 1 (.mk ?_)
  refine lp (fun n (a : Int × Int × (List GLine)) => d_voucher_Plain_L7 n a.1 a.2.1 a.2.2) ((y26_1 : Int), (x81 : Int), (y23_2 : List GLine)) () h2 [1, 4] [] (fun (a : Int × Int × (List GLine)) (k : Unit) => [(0, .sl 7 w23_1 0 a.2.2.length), (5, int a.1), (6, int a.2.1)]) (fun a k => [(7, ⟨81, 2, true, true, w23_1, a.2.2.map GLine.av⟩)]) (fun _ => rfl) ⟨leA, ?_⟩
  rintro n ⟨y27_1, y27_2, y27_3⟩ _ hm h2
  replace h2 : d_voucher_Plain_L7 (n + 1) y27_1 y27_2 y27_3 = some _ := h2
  rw [d_voucher_Plain_L7] at h2
  refine tc tbk 5 (.mk ?_)
  refine sY (yv_len_sl rfl Tryz.underlying82 rfl (.sl rfl rfl)) ?_
  refine nb tbk h2 fun x83 h2 => ?_
  refine tr tbk 1 (.mk ?_)
  cases x83
  replace h2 := cf h2
  refine tc tbk 2 (.mk ?_)
  exact lf h2 () leA
  replace h2 := ct h2
  refine tc tbk 3 (.mk ?_)
  refine jn h2 [1, 4, 6] [] (fun (a : Int × (List GLine)) (k : Unit) => [(0, .sl 7 w23_1 0 a.2.length), (5, int a.1)]) (fun a k => [(7, ⟨81, 2, true, true, w23_1, a.2.map GLine.av⟩)]) ⟨fun j84 h3 => ?_, ?_⟩
  refine tc tbk 5 (.mk ?_)
  obtain ⟨x85, e85, h3⟩ := bind_e h3
  refine sY (yv_ixO rfl Tryz.underlying82 sh81 rfl rfl rfl rfl rfl (Eq.symm rfl) (List.length_map _) e85) ?_
  refine sY (yv_load rfl sh81 rfl (.pt rfl rfl (ix_get e85)) rfl) ?_
  refine sA 8 z81 fun v86 => ?_
  refine sS ⟨81, 2, true, true, v86, [[int x85.Account, int x85.Amount]]⟩ sh81 ?_
  refine tr tbk 5 (.mk ?_)
  obtain ⟨x87, e87, h3⟩ := bind_e h3
  refine sC cal159 (d_voucher_Plain_3_c e87) ?_
  refine nb tbk h3 fun x88 h3 => ?_
  refine tr tbk 1 (.mk ?_)
  cases x88
  replace h3 := cf h3
  refine tc tbk 3 (.mk ?_)
  exact lf h3 () leA
  replace h3 := ct h3
  refine tc tbk 6 (.mk ?_)
  obtain ⟨x89, e89, h3⟩ := bind_e h3
  refine sY (yv_ixO rfl Tryz.underlying82 sh81 rfl rfl rfl rfl rfl (Eq.symm rfl) (List.length_map _) e89) ?_
  obtain ⟨x90, e90, h3⟩ := bnd_e h3
  have fx90 := ix_set e89 e90; have lx90 := len_setV e90 (rfl : y27_3.length = y27_3.length)
  refine rsstore rfl rfl (yl_ob (ob' := (⟨81, 2, true, true, w23_1, x90.map GLine.av⟩ : AObj)) (yl_store rfl sh81 rfl rfl rfl rfl rfl (ix_get e89) rfl rfl rfl) (ob_eq (map_setV e90))) ?_
  refine tr tbk 3 (.mk ?_)
  refine ni tbk h3 fun x91 h3 => ?_
  refine tr tbk 3 (.mk ?_)
  exact lf h3 () (leH_kn ⟨⟨_, rfl, (cv_slen (Eq.symm lx90))⟩, ⟨_, rfl, (.refl _)⟩, ⟨_, rfl, (.refl _)⟩, ⟨_, rfl, (.refl _)⟩, ⟨_, rfl, (.refl _)⟩, trivial⟩ ⟨⟨_, rfl, (.refl _)⟩, trivial⟩)
  rintro ⟨y28_1, y28_2⟩ _ h2
  replace h2 := p2_e h2
  refine tc tbk 2 (.mk ?_)
  refine ni tbk h2 fun x92 h2 => ?_
  refine tr tbk 2 (.mk ?_)
  exact bk (y28_1, x92, y28_2) () h2 leA
  rintro ⟨y29_1, y29_2⟩ _ h1
  replace h1 := p2_e h1
  refine tc tbk 4 (.mk ?_)
  obtain ⟨p93, h1⟩ := asrt_e h1
  refine sY (yv_slO (len := y29_2.length) (i := y29_1.toNat) (j := y29_2.length) rfl Tryz.underlying82 sh81 rfl rfl rfl rfl (.yes rfl (by first | omega | (dsimp only; omega) | (dsimp only at *; omega))) .no (by first | omega | (dsimp only; omega) | (dsimp only at *; omega)) (Nat.le_refl _) (.inl (by first | omega | (dsimp only; omega) | (dsimp only at *; omega)))) ?_
  obtain ⟨x94, e94, h1⟩ := bnd_e h1
  refine rsstore rfl rfl (yl_ob (ob' := (⟨81, 2, true, true, w23_1, x94.map GLine.av⟩ : AObj)) (yl_clear rfl Tryz.underlying82 bz81 rfl rfl rfl rfl rfl rfl e94) rfl) ?_
  refine tr tbk 5 (.mk ?_)
  obtain ⟨p95, h1⟩ := asrt_e h1
  refine sY (yv_slO (len := y29_2.length) (i := 0) (j := y29_1.toNat) rfl Tryz.underlying82 sh81 rfl rfl rfl rfl .no (.yes rfl (by first | omega | (dsimp only; omega) | (dsimp only at *; omega))) (Nat.zero_le _) (by first | omega | (dsimp only; omega) | (dsimp only at *; omega)) (.inr rfl)) ?_
  refine tr tbk 2 (.mk ?_)
  obtain rfl := nxt_e h1
  refine w_ret (hret _ _ (hk [(7, ⟨81, 2, true, true, w23_1, x94.map GLine.av⟩)]) (.tmp rfl .nil) (HK.le ⟨rfl, trivial⟩) ?_)
  exact ⟨((0 + 0), (y29_1.toNat - 0), x94), (), rfl, rfl, rfl⟩
  replace h1 := ct h1
  refine tc tbk 6 (.mk ?_)
  obtain rfl := nxt_e h1
  refine w_ret (hret _ _ (hk [(7, ⟨81, 2, true, true, w23_1, y23_2.map GLine.av⟩)]) (.tmp rfl .nil) (HK.le ⟨rfl, trivial⟩) ?_)
  exact ⟨(0, y23_2.length, y23_2), (), rfl, rfl, rfl⟩
  rintro y _ ⟨⟨y30_1, y30_2, y30_3⟩, _, rfl, hc, rfl⟩
  replace h0 := p2_e h0
  replace h0 := p2_e h0
  subst hc
  refine tr tbk 3 (.mk ?_)
  obtain ⟨p96, h0⟩ := asrt_e h0
  obtain rfl := nxt_e h0
  refine wR hret (rT (rT .nil)) ?_
  exact CvL.tup (.cons (cv_win (l := y30_3) rfl rfl rfl rfl (CvLL.refl _) (by first | omega | (simp only [List.length_set]; omega)) rfl) (.cons (.refl _) .nil))
  replace h0 := ct h0
  refine tc tbk 6 (.mk ?_)
  obtain rfl := nxt_e h0
  refine wR hret (rT (rT .nil)) ?_
  exact CvL.tup (.cons (.nil _) (.cons (.refl _) .nil))
def d_voucher_sum_L0 (a1 : List GLine) : Nat → Int → (List Int) → Option ((List Int))
  | 0, _, _ => none
  | n + 1, y0_2, y0_3 =>
    bnd (decide (y0_2 < (a1.length : Int))) fun x4 =>
    cond x4 ((ix a1 y0_2).bind fun x5 =>
    bnd (y0_3 ++ ([x5.Amount] : List Int)) fun x7 =>
    asrt (x7.length ≤ 68719476736) <|
    bnd (w64 (y0_2 + 1)) fun x10 =>
    d_voucher_sum_L0 a1 n (x10 : Int) (x7 : List Int)) (some (y0_3 : List Int))
def d_voucher_sum (n : Nat) (a1 : List GLine) : Option (Int × Int) :=
(show Option ((List Int)) from
d_voucher_sum_L0 a1 n (0 : Int) (([] : List Int) : List Int)).bind <| fun y1_2 =>
(d_money_Sum n y1_2).bind fun x11 =>
some ((x11.1 : Int), (x11.2 : Int))
theorem d_voucher_sum_c {n : Nat} {a1 : List GLine} {r : Int × Int} (h0 : d_voucher_sum n a1 = some r) : PP Tryz.prog 196 [lst 2 GLine.av a1] (fun y => y = .tup [int r.1, int r.2]) := by
  unfold d_voucher_sum at h0
  refine pp_of_pc (R0 := fun y H => Cv (frzH H) y (.tup [int r.1, int r.2])) ?_ (fun y H hc => ⟨_, rfl, .tup (pvl2 (pvI (r.1)) (pvI (r.2))), hc⟩)
  refine pcw (c := _) Tryz.func196 rfl rfl ?_; intro Q hret hnorm
  refine tc tbk 13 (.mk ?_)
  refine sY (yv_len_sl rfl Tryz.underlying82 rfl (lst_len _)) ?_
  refine tr tbk 2 (.mk ?_)
  refine jn h0 [2, 3] [] (fun (a : (List Int)) (k : Nat) => [(4, .sl 3 k 0 a.length)]) (fun a k => [(3, ⟨3, 1, true, true, k, a.map fI⟩)]) ⟨fun j2 h1 => ?_, ?_⟩
  refine tc tbk 1 (.mk ?_)
  refine c_nilobj 4 3 3 1 rfl rfl ?_; intro v3
  refine lp (fun n (a : Int × (List Int)) => d_voucher_sum_L0 a1 n a.1 a.2) ((0 : Int), (([] : List Int) : List Int)) v3 h1 [2, 3, 7, 8] [] (fun (a : Int × (List Int)) (k : Nat) => [(4, .sl 3 k 0 a.2.length), (9, int a.1)]) (fun a k => [(3, ⟨3, 1, true, true, k, a.2.map fI⟩)]) (fun _ => rfl) ⟨leA, ?_⟩
  rintro n ⟨y0_2, y0_3⟩ w0_1 hm h1
  replace h1 : d_voucher_sum_L0 a1 (n + 1) y0_2 y0_3 = some _ := h1
  rw [d_voucher_sum_L0] at h1
  refine tc tbk 2 (.mk ?_)
  refine nb tbk h1 fun x4 h1 => ?_
  refine tr tbk 2 (.mk ?_)
  cases x4
  replace h1 := cf h1
  refine tc tbk 2 (.mk ?_)
  exact lf h1 w0_1 leA
  replace h1 := ct h1
  refine tc tbk 6 (.mk ?_)
  obtain ⟨x5, e5, h1⟩ := bind_e h1
  refine sY (yv_ixT rfl Tryz.underlying82 sh81 rfl rfl e5) ?_
  refine tr tbk 1 (.mk ?_)
  refine sA 1 z81 fun v6 => ?_
  refine sS ⟨81, 2, true, true, v6, [[int x5.Account, int x5.Amount]]⟩ sh81 ?_
  refine tr tbk 5 (.mk ?_)
  refine sY (yv_to (y := lst 1 fI ([x5.Amount] : List Int)) (yv_buildSlice (ps := [(0, _)]) (rows := [[int x5.Amount]]) rfl Tryz.underlying23 bz3 (.cons rfl .nil) (by kernel_rfl) rfl rfl rfl) rfl) ?_
  obtain ⟨x7, e7, h1⟩ := bnd_e h1
  obtain ⟨p8, h1⟩ := asrt_e h1
  refine rse rfl rfl rfl (yl_appT (g := fI) (l := y0_3) (m := ([x5.Amount] : List Int)) .any rfl Tryz.underlying23 bz3 by3 rfl rfl rfl rfl rfl rfl rfl rfl rfl rfl (Eq.symm rfl) (.refl _) (fun _ => rfl) e7 p8) ?_; rintro _ _ ⟨v9, -, rfl, rfl⟩
  refine tr tbk 4 (.mk ?_)
  refine ni tbk h1 fun x10 h1 => ?_
  refine tr tbk 2 (.mk ?_)
  exact bk (x10, x7) v9 h1 leA
  rintro y1_2 w1_1 h0
  refine tc tbk 3 (.mk ?_)
  obtain ⟨x11, e11, h0⟩ := bind_e h0
  refine sY (yv_callT (v := .tup [int x11.1, int x11.2]) rfl rfl (.cons rfl .nil) cal100 (.cons (cv_lst rfl rfl rfl rfl rfl (Eq.symm rfl)) .nil) (d_money_Sum_c e11) rfl) ?_
  refine tr tbk 5 (.mk ?_)
  obtain rfl := nxt_e h0
  refine wR hret (rT (rT .nil)) ?_
  exact .refl _
def d_voucher_Check_1 (a1 : GLine) : Option (Bool) :=
(show Option (Bool) from
(d_voucher_is a1.Account).bind fun x4 =>
bnd (!x4) fun x5 =>
cond x5 (some (true : Bool)) (bnd (decide (a1.Amount = 0)) fun x6 =>
cond x6 (some (true : Bool)) ((d_voucher_in a1.Amount).bind fun x7 =>
bnd (!x7) fun x8 =>
some (x8 : Bool)))).bind <| fun y0_1 =>
some ((y0_1 : Bool))
theorem d_voucher_Check_1_c {a1 : GLine} {r : Bool} (h0 : d_voucher_Check_1 a1 = some r) : PP Tryz.prog 195 [.agg (GLine.av a1)] (fun y => y = boo r) := by
  unfold d_voucher_Check_1 at h0
  refine pp_of_pc (R0 := fun y H => Cv (frzH H) y (boo r)) ?_ (fun y H hc => ⟨_, rfl, pvB r, hc⟩)
  refine pcw (c := _) Tryz.func195 rfl rfl ?_; intro Q hret hnorm
  refine tc tbk 2 (.mk ?_)
  refine sB 1 fun v2 => ?_
  refine tr tbk 3 (.mk ?_)
  refine jn h0 [] [] (fun (a : Bool) (k : Unit) => [(2, boo a)]) (fun a k => []) ⟨fun j3 h1 => ?_, ?_⟩
  refine tc tbk 3 (.mk ?_)
  obtain ⟨x4, e4, h1⟩ := bind_e h1
  refine sC cal153 (d_voucher_is_c e4) ?_
  refine nb tbk h1 fun x5 h1 => ?_
  refine tr tbk 1 (.mk ?_)
  cases x5
  replace h1 := cf h1
  refine tr tbk 2 (.mk ?_)
  refine nb tbk h1 fun x6 h1 => ?_
  refine tr tbk 2 (.mk ?_)
  cases x6
  replace h1 := cf h1
  refine tr tbk 2 (.mk ?_)
  obtain ⟨x7, e7, h1⟩ := bind_e h1
  refine sC cal154 (d_voucher_in_c e7) ?_
  refine nb tbk h1 fun x8 h1 => ?_
  refine tr tbk 3 (.mk ?_)
  exact lf h1 () leA
  replace h1 := ct h1
  refine tr tbk 7 (.mk ?_)
  exact lf h1 () leA
  replace h1 := ct h1
  refine tr tbk 12 (.mk ?_)
  exact lf h1 () leA
  rintro y0_1 _ h0
  obtain rfl := nxt_e h0
  refine wR hret (rT .nil) ?_
  exact .refl _
def d_voucher_Check_L0 (a1 : List GLine) : Nat → Int → Option ((Unit) ⊕ ((Int)))
  | 0, _ => none
  | n + 1, y1_1 =>
    bnd (decide (y1_1 < (a1.length : Int))) fun x10 =>
    cond x10 ((ix a1 y1_1).bind fun x11 =>
    (d_voucher_Check_1 x11).bind fun x12 =>
    cond x12 (esc (some (y1_1 : Int))) (bnd (w64 (y1_1 + 1)) fun x13 =>
    d_voucher_Check_L0 a1 n (x13 : Int))) (brk ())
def d_voucher_Check (n : Nat) (a1 : List GLine) : Option (Bool) :=
(show Option (Bool) from
bnd (decide ((a1.length : Int) < 1)) fun x3 =>
cond x3 (some (true : Bool)) (bnd (decide ((a1.length : Int) > 12)) fun x4 =>
some (x4 : Bool))).bind <| fun y0_1 =>
cond y0_1 (some ((false : Bool))) ((d_voucher_sum n a1).bind fun x5 =>
(show Option (Bool) from
(show Option ((Bool)) from
(show Option ((Int)) from
(show Option ((Unit) ⊕ ((Int))) from
d_voucher_Check_L0 a1 n (0 : Int)).bind <| sel <| fun _ =>
some ((-1) : Int)).bind <| fun y3_1 =>
bnd (decide (y3_1 ≥ 0)) fun x15 =>
some (x15 : Bool)).bind <| fun y4_1 =>
bnd (!y4_1) fun x16 =>
cond x16 (bnd (decide (x5.1 = 0)) fun x17 =>
cond x17 (bnd (decide (x5.2 = 0)) fun x18 =>
some (x18 : Bool)) (some (false : Bool))) (some (false : Bool))).bind <| fun y5_1 =>
some ((y5_1 : Bool)))
theorem d_voucher_Check_c {n : Nat} {a1 : List GLine} {r : Bool} (h0 : d_voucher_Check n a1 = some r) : PP Tryz.prog 162 [lst 2 GLine.av a1] (fun y => y = boo r) := by
  unfold d_voucher_Check at h0
  refine pp_of_pc (R0 := fun y H => Cv (frzH H) y (boo r)) ?_ (fun y H hc => ⟨_, rfl, pvB r, hc⟩)
  refine pcw (c := _) Tryz.func162 rfl rfl ?_; intro Q hret hnorm
  refine tc tbk 6 (.mk ?_)
  refine jn h0 [0, 2] [] (fun (a : Bool) (k : Unit) => [(13, boo a)]) (fun a k => []) ⟨fun j2 h1 => ?_, ?_⟩
  refine tc tbk 2 (.mk ?_)
  refine sY (yv_len_sl rfl Tryz.underlying82 rfl (lst_len _)) ?_
  refine nb tbk h1 fun x3 h1 => ?_
  refine tr tbk 1 (.mk ?_)
  cases x3
  replace h1 := cf h1
  refine tr tbk 1 (.mk ?_)
  refine sY (yv_len_sl rfl Tryz.underlying82 rfl (lst_len _)) ?_
  refine nb tbk h1 fun x4 h1 => ?_
  refine tr tbk 2 (.mk ?_)
  exact lf h1 () leA
  replace h1 := ct h1
  refine tr tbk 5 (.mk ?_)
  exact lf h1 () leA
  rintro y0_1 _ h0
  cases y0_1
  replace h0 := cf h0
  refine tc tbk 9 (.mk ?_)
  obtain ⟨x5, e5, h0⟩ := bind_e h0
  refine sC cal196 (d_voucher_sum_c e5) ?_
  refine tr tbk 7 (.mk ?_)
  refine jn h0 [] [] (fun (a : Bool) (k : Unit) => [(2, boo a)]) (fun a k => []) ⟨fun j6 h1 => ?_, ?_⟩
  refine tc tbk 3 (.mk ?_)
  obtain ⟨j7, h2, h1⟩ := bind_e h1
  refine rse (Out := fun y H' => (∃ (a : Bool) (k : Unit), a = j7 ∧ y = boo a ∧ H' = hk [])) rfl rfl rfl (yl_call rfl rfl (.cons rfl (.cons rfl .nil)) cal151 ?_) ?_
  refine pcw (c := _) Tryz.func151 rfl rfl ?_; intro Q hret hnorm
  refine tc tbk 8 (.mk ?_)
  obtain ⟨j8, h3, h2⟩ := bind_e h2
  refine rse (Out := fun y H' => (∃ (a : Int) (k : Unit), a = j8 ∧ y = int a ∧ H' = hk [])) rfl rfl rfl (yl_call rfl rfl (.cons rfl (.cons rfl .nil)) cal191 ?_) ?_
  refine pcw (c := _) Tryz.func191 rfl rfl ?_; intro Q hret hnorm
  refine tc tbk 8 (.mk ?_)
  refine sY (yv_len_sl rfl Tryz.underlying82 rfl (lst_len _)) ?_
  refine tr tbk 2 (.mk ?_)
  refine jnE h3 [4] [] (fun (a : Unit) (k : Unit) => []) (fun a k => []) ⟨fun j9 h4 h3 => ?_, ?_⟩
  refine tc tbk 1 (.mk ?_)
  refine lp (fun n (a : Int) => d_voucher_Check_L0 a1 n a) (0 : Int) () h4 [0, 1, 4, 7] [] (fun (a : Int) (k : Unit) => [(8, int a)]) (fun a k => []) (fun _ => rfl) ⟨leA, ?_⟩
  rintro n y1_1 _ hm h4
  replace h4 : d_voucher_Check_L0 a1 (n + 1) y1_1 = some _ := h4
  rw [d_voucher_Check_L0] at h4
  refine tc tbk 2 (.mk ?_)
  refine nb tbk h4 fun x10 h4 => ?_
  refine tr tbk 2 (.mk ?_)
  cases x10
  replace h4 := cf h4
  refine tc tbk 2 (.mk ?_)
  exact lfE h4 () leA
  replace h4 := ct h4
  refine tc tbk 14 (.mk ?_)
  obtain ⟨x11, e11, h4⟩ := bind_e h4
  refine sY (yv_ixT rfl Tryz.underlying82 sh81 rfl rfl e11) ?_
  refine tr tbk 1 (.mk ?_)
  obtain ⟨x12, e12, h4⟩ := bind_e h4
  refine sC cal195 (d_voucher_Check_1_c e12) ?_
  refine tr tbk 1 (.mk ?_)
  cases x12
  replace h4 := cf h4
  refine tc tbk 4 (.mk ?_)
  refine ni tbk h4 fun x13 h4 => ?_
  refine tr tbk 2 (.mk ?_)
  exact bk x13 () h4 leA
  replace h4 := ct h4
  refine tc tbk 6 (.mk ?_)
  obtain ⟨c14, hX, hj⟩ := esc_e h4; subst hj; replace h3 := hX.trans (sel_r h3)
  obtain rfl := nxt_e h3
  refine w_ret (hret _ _ (hk []) (.tmp rfl .nil) (fun _ _ h => nomatch h) ?_)
  exact ⟨y1_1, (), rfl, rfl, rfl⟩
  rintro _ _ h3
  refine tc tbk 4 (.mk ?_)
  obtain rfl := nxt_e h3
  refine w_ret (hret _ _ (hk []) (.tmp rfl .nil) (fun _ _ h => nomatch h) ?_)
  exact ⟨(-1), (), rfl, rfl, rfl⟩
  rintro y _ ⟨y3_1, _, rfl, hc, rfl⟩
  subst hc
  refine nb tbk h2 fun x15 h2 => ?_
  refine tr tbk 2 (.mk ?_)
  obtain rfl := nxt_e h2
  refine w_ret (hret _ _ (hk []) (.tmp rfl .nil) (fun _ _ h => nomatch h) ?_)
  exact ⟨x15, (), rfl, rfl, rfl⟩
  rintro y _ ⟨y4_1, _, rfl, hc, rfl⟩
  subst hc
  refine nb tbk h1 fun x16 h1 => ?_
  refine tr tbk 1 (.mk ?_)
  cases x16
  replace h1 := cf h1
  refine tr tbk 9 (.mk ?_)
  exact lf h1 () leA
  replace h1 := ct h1
  refine tr tbk 1 (.mk ?_)
  refine nb tbk h1 fun x17 h1 => ?_
  refine tr tbk 2 (.mk ?_)
  cases x17
  replace h1 := cf h1
  refine tr tbk 5 (.mk ?_)
  exact lf h1 () leA
  replace h1 := ct h1
  refine tr tbk 1 (.mk ?_)
  refine nb tbk h1 fun x18 h1 => ?_
  refine tr tbk 3 (.mk ?_)
  exact lf h1 () leA
  rintro y5_1 _ h0
  obtain rfl := nxt_e h0
  refine wR hret (rT .nil) ?_
  exact .refl _
  replace h0 := ct h0
  refine tc tbk 5 (.mk ?_)
  obtain rfl := nxt_e h0
  refine wR hret (rT .nil) ?_
  exact .refl _
def d_gl_Post_L0 (x9 : (List GLine) × Int) : Nat → Int → (List Int) → Option (((List Int)) ⊕ ((Int × (List Int))))
  | 0, _, _ => none
  | n + 1, y1_1, y1_2 =>
    bnd (decide (y1_1 < (x9.1.length : Int))) fun x16 =>
    cond x16 ((ix x9.1 y1_1).bind fun x17 =>
    (ix y1_2 x17.Account).bind fun x19 =>
    (d_money_Add x19 x17.Amount).bind fun x20 =>
    bnd (y1_2.set (Int.toNat x17.Account) (x20.1 : Int)) fun x21 =>
    bnd (decide (x20.2 ≠ 0)) fun x22 =>
    cond x22 (esc (some ((x20.2 : Int), (x21 : List Int)))) (bnd (w64 (y1_1 + 1)) fun x23 =>
    d_gl_Post_L0 x9 n (x23 : Int) (x21 : List Int))) (brk (y1_2 : List Int))
def d_gl_Post (n : Nat) (a1 : List Int) (a2 : List GLine) : Option ((List Int) × Int) :=
bnd (decide ((a1.length : Int) ≠ 17)) fun x4 =>
cond x4 (some (([] : List Int), (1 : Int))) ((show Option (((List Int)) ⊕ (Int)) from
asrt (a1.length ≤ 68719476736) <|
(show Option ((Int × (List Int))) from
(d_voucher_Plain n a2).bind fun x9 =>
(show Option (Bool) from
bnd (decide (x9.2 ≠ 0)) fun x11 =>
cond x11 (some (true : Bool)) (bnd (decide ((x9.1.length : Int) > 0)) fun x12 =>
cond x12 ((d_voucher_Check n x9.1).bind fun x13 =>
bnd (!x13) fun x14 =>
some (x14 : Bool)) (some (false : Bool)))).bind <| fun y0_1 =>
cond y0_1 (some ((10 : Int), (a1 : List Int))) ((show Option (((List Int)) ⊕ ((Int × (List Int)))) from
d_gl_Post_L0 x9 n (0 : Int) (a1 : List Int)).bind <| sel <| fun y2_1 =>
some ((0 : Int), (y2_1 : List Int)))).bind <| p2 fun (y3_1 : Int) (y3_2 : List Int) =>
bnd (decide (y3_1 ≠ 0)) fun x25 =>
cond x25 (asrt (a1.length ≤ 68719476736) <|
some (.inr (y3_1 : Int))) (asrt (y3_2.length = a1.length) <|
some (.inl (y3_2 : List Int)))).bind <| selr (fun y4_2 =>
some ((y4_2 : List Int), (0 : Int))) <| fun y5_2 =>
some ((a1 : List Int), (y5_2 : Int)))
theorem d_gl_Post_c {n : Nat} {a1 : List Int} {a2 : List GLine} {r : (List Int) × Int} (h0 : d_gl_Post n a1 a2 = some r) : PP Tryz.prog 109 [lst 1 fI a1, lst 2 GLine.av a2] (fun y => y = .tup [lst 1 fI r.1, int r.2]) := by
  unfold d_gl_Post at h0
  refine pp_of_pc (R0 := fun y H => Cv (frzH H) y (.tup [lst 1 fI r.1, int r.2])) ?_ (fun y H hc => ⟨_, rfl, .tup (pvl2 ((pvLs pvcI) (r.1)) (pvI (r.2))), hc⟩)
  refine pcw (c := _) Tryz.func109 rfl rfl ?_; intro Q hret hnorm
  refine tc tbk 2 (.mk ?_)
  refine sB 1 fun v3 => ?_
  refine tr tbk 7 (.mk ?_)
  refine sY (yv_len_sl rfl Tryz.underlying23 rfl (lst_len _)) ?_
  refine nb tbk h0 fun x4 h0 => ?_
  refine tr tbk 1 (.mk ?_)
  cases x4
  replace h0 := cf h0
  refine tc tbk 6 (.mk ?_)
  obtain ⟨j5, h1, h0⟩ := bind_e h0
  refine rse (Out := fun y H' => (∃ (a : (List Int)) (k : Nat), (.inl a) = j5 ∧ Cv H' y (.tup [.sl 2 k 0 a.length, int 0]) ∧ H' = hk [(1, ⟨82, 1, true, true, v3, [[lst 2 GLine.av a2]]⟩), (2, ⟨3, 1, true, true, k, a.map fI⟩)]) ∨ (∃ (a : Int) (k : Nat), (.inr a) = j5 ∧ Cv H' y (.tup [.sl 4 k 0 a1.length, int a]) ∧ H' = hk [(1, ⟨82, 1, true, true, v3, [[lst 2 GLine.av a2]]⟩), (4, ⟨3, 1, true, true, k, a1.map fI⟩)])) rfl rfl rfl (yl_call rfl rfl (.cons rfl (.cons rfl .nil)) cal160 ?_) ?_
  refine pcw (c := _) Tryz.func160 rfl rfl ?_; intro Q hret hnorm
  refine tc tbk 8 (.mk ?_)
  obtain ⟨p6, h1⟩ := asrt_e h1
  refine rse rfl rfl rfl (yl_call rfl rfl (.cons rfl .nil) cal120 (pc_cv (clone120_c (id := 2) (l := a1) rfl p6) (.cons (.refl _) .nil))) ?_; rintro _ _ ⟨v7, rfl, rfl⟩
  refine tr tbk 7 (.mk ?_)
  obtain ⟨j8, h2, h1⟩ := bind_e h1
  refine rse (Out := fun y H' => (∃ (a : Int × (List Int)) (k : Unit), a = j8 ∧ y = int a.1 ∧ H' = hk [(1, ⟨82, 1, true, true, v3, [[lst 2 GLine.av a2]]⟩), (2, ⟨3, 1, true, true, v7, a.2.map fI⟩)])) rfl rfl rfl (yl_call rfl rfl (.cons rfl .nil) cal161 ?_) ?_
  refine pcw (c := _) Tryz.func161 rfl rfl ?_; intro Q hret hnorm
  refine tc tbk 7 (.mk ?_)
  obtain ⟨x9, e9, h2⟩ := bind_e h2
  refine sC cal108 (d_voucher_Plain_c e9) ?_
  refine tr tbk 8 (.mk ?_)
  refine jn h2 [0, 3, 4] [1, 2] (fun (a : Bool) (k : Unit) => [(24, boo a)]) (fun a k => []) ⟨fun j10 h3 => ?_, ?_⟩
  refine tc tbk 2 (.mk ?_)
  refine nb tbk h3 fun x11 h3 => ?_
  refine tr tbk 1 (.mk ?_)
  cases x11
  replace h3 := cf h3
  refine tr tbk 1 (.mk ?_)
  refine sY (yv_len_sl rfl Tryz.underlying82 rfl (lst_len _)) ?_
  refine nb tbk h3 fun x12 h3 => ?_
  refine tr tbk 1 (.mk ?_)
  cases x12
  replace h3 := cf h3
  refine tr tbk 6 (.mk ?_)
  exact lf h3 () leA
  replace h3 := ct h3
  refine tr tbk 1 (.mk ?_)
  obtain ⟨x13, e13, h3⟩ := bind_e h3
  refine sC cal162 (d_voucher_Check_c e13) ?_
  refine nb tbk h3 fun x14 h3 => ?_
  refine tr tbk 3 (.mk ?_)
  exact lf h3 () leA
  replace h3 := ct h3
  refine tr tbk 10 (.mk ?_)
  exact lf h3 () leA
  rintro y0_1 _ h2
  cases y0_1
  replace h2 := cf h2
  refine tc tbk 6 (.mk ?_)
  refine sY (yv_len_sl rfl Tryz.underlying82 rfl (lst_len _)) ?_
  refine tr tbk 2 (.mk ?_)
  refine jnE h2 [3] [1] (fun (a : (List Int)) (k : Unit) => []) (fun a k => [(2, ⟨3, 1, true, true, v7, a.map fI⟩)]) ⟨fun j15 h3 h2 => ?_, ?_⟩
  refine tc tbk 1 (.mk ?_)
  refine lp (fun n (a : Int × (List Int)) => d_gl_Post_L0 x9 n a.1 a.2) ((0 : Int), (a1 : List Int)) () h3 [3, 25, 26] [1] (fun (a : Int × (List Int)) (k : Unit) => [(0, .sl 2 v7 0 a.2.length), (27, int a.1)]) (fun a k => [(2, ⟨3, 1, true, true, v7, a.2.map fI⟩)]) (fun _ => rfl) ⟨leA, ?_⟩
  rintro n ⟨y1_1, y1_2⟩ _ hm h3
  replace h3 : d_gl_Post_L0 x9 (n + 1) y1_1 y1_2 = some _ := h3
  rw [d_gl_Post_L0] at h3
  refine tc tbk 2 (.mk ?_)
  refine nb tbk h3 fun x16 h3 => ?_
  refine tr tbk 2 (.mk ?_)
  cases x16
  replace h3 := cf h3
  refine tc tbk 2 (.mk ?_)
  exact lfE h3 () leA
  replace h3 := ct h3
  refine tc tbk 6 (.mk ?_)
  obtain ⟨x17, e17, h3⟩ := bind_e h3
  refine sY (yv_ixT rfl Tryz.underlying82 sh81 rfl rfl e17) ?_
  refine tr tbk 1 (.mk ?_)
  refine sA 3 z81 fun v18 => ?_
  refine sS ⟨81, 2, true, true, v18, [[int x17.Account, int x17.Amount]]⟩ sh81 ?_
  refine tr tbk 2 (.mk ?_)
  refine c_drawE [0, 0, 2, 0, 0, 16, 56, 120, 0, 256, 1016, 2040, 4088, 4088, 8191, 24575, 65535] (rl [(1, [3]), (2, [3]), (4, [3]), (5, [3]), (6, [2]), (7, [2]), (8, [3]), (9, [3]), (14, [2])] []) (rl [(15, [])] [2, 3]) (rl [(15, false)] true) [0, 1, 2, 3, 4, 5, 6, 7, 8, 9, 10, 11, 12, 13, 14, 15, 16] mixed (by kernel_rfl) ?_; intro K hK
  refine eM ?_
  refine eF fo81_0 ?_
  refine eL sh3 ?_
  refine eM ?_
  refine eF fo81_0 ?_
  refine eL sh3 ?_
  obtain ⟨x19, e19, h3⟩ := bind_e h3
  refine de_pure rfl rfl rfl rfl (fun H hH => yv_ixO rfl Tryz.underlying23 sh3 rfl rfl ((hH _ (by decide)).trans rfl) rfl rfl (Eq.symm rfl) (List.length_map _) e19) ?_
  refine eL sh3 (hr := ix_get e19) ?_
  refine eF fo81_1 ?_
  refine eL sh3 ?_
  obtain ⟨x20, e20, h3⟩ := bind_e h3
  refine eP (fun H hH => yv_callP rfl rfl (.cons rfl (.cons rfl .nil)) cal136 (CvL.refl _) (d_money_Add_c e20)) ?_
  refine eM ?_
  iterate 2 refine eX ?_
  refine de_pure rfl rfl rfl rfl (fun H hH => yv_ixO rfl Tryz.underlying23 sh3 rfl rfl ((hH _ (by decide)).trans rfl) rfl rfl (Eq.symm rfl) (List.length_map _) e19) ?_
  obtain ⟨x21, e21, h3⟩ := bnd_e h3
  have fx21 := ix_set e19 e21; have lx21 := len_setV e21 (rfl : y1_2.length = y1_2.length)
  refine de_eff0 rfl rfl rfl rfl (Yield.weak (yl_ob (ob' := (⟨3, 1, true, true, v7, x21.map fI⟩ : AObj)) (yl_store rfl sh3 rfl rfl rfl rfl rfl (ix_get e19) rfl rfl rfl) (ob_eq (map_setV e21))) (fun _ h => h) (fun _ _ => trivial)) (by rintro _ _ ⟨rfl, rfl⟩; exact trivial) ?_; rintro _ _ ⟨rfl, rfl⟩
  refine eA ?_
  refine de_nil (hK _ ?_)
  refine tc tbk 3 (.mk ?_)
  refine nb tbk h3 fun x22 h3 => ?_
  refine tr tbk 1 (.mk ?_)
  cases x22
  replace h3 := cf h3
  refine tc tbk 4 (.mk ?_)
  refine ni tbk h3 fun x23 h3 => ?_
  refine tr tbk 2 (.mk ?_)
  exact bk (x23, x21) () h3 (leH_kn ⟨⟨_, rfl, (cv_slen (Eq.symm lx21))⟩, ⟨_, rfl, (.refl _)⟩, ⟨_, rfl, (.refl _)⟩, ⟨_, rfl, (.refl _)⟩, ⟨_, rfl, (.refl _)⟩, trivial⟩ ⟨⟨_, rfl, (.refl _)⟩, ⟨_, rfl, (.refl _)⟩, trivial⟩)
  replace h3 := ct h3
  refine tc tbk 6 (.mk ?_)
  obtain ⟨c24, hX, hj⟩ := esc_e h3; subst hj; replace h2 := hX.trans (sel_r h2)
  obtain rfl := nxt_e h2
  refine w_ret (hret _ _ (hk [(1, ⟨82, 1, true, true, v3, [[lst 2 GLine.av a2]]⟩), (2, ⟨3, 1, true, true, v7, x21.map fI⟩)]) (.tmp rfl .nil) (HK.le ⟨rfl, rfl, trivial⟩) ?_)
  exact ⟨(x20.2, x21), (), rfl, rfl, rfl⟩
  rintro y2_1 _ h2
  refine tc tbk 4 (.mk ?_)
  obtain rfl := nxt_e h2
  refine w_ret (hret _ _ (hk [(1, ⟨82, 1, true, true, v3, [[lst 2 GLine.av a2]]⟩), (2, ⟨3, 1, true, true, v7, y2_1.map fI⟩)]) (.tmp rfl .nil) (HK.le ⟨rfl, rfl, trivial⟩) ?_)
  exact ⟨(0, y2_1), (), rfl, rfl, rfl⟩
  replace h2 := ct h2
  refine tc tbk 5 (.mk ?_)
  obtain rfl := nxt_e h2
  refine w_ret (hret _ _ (hk [(1, ⟨82, 1, true, true, v3, [[lst 2 GLine.av a2]]⟩), (2, ⟨3, 1, true, true, v7, a1.map fI⟩)]) (.tmp rfl .nil) (HK.le ⟨rfl, rfl, trivial⟩) ?_)
  exact ⟨(10, a1), (), rfl, rfl, rfl⟩
  rintro y _ ⟨⟨y3_1, y3_2⟩, _, rfl, hc, rfl⟩
  replace h1 := p2_e h1
  subst hc
  refine tr tbk 5 (.mk ?_)
  refine nb tbk h1 fun x25 h1 => ?_
  refine tr tbk 1 (.mk ?_)
  cases x25
  replace h1 := cf h1
  refine tc tbk 4 (.mk ?_)
  obtain ⟨p26, h1⟩ := asrt_e h1
  refine sY (yv_move rfl rfl) ?_
  refine tr tbk 3 (.mk ?_)
  obtain rfl := nxt_e h1
  refine w_ret (hret _ _ (hk [(1, ⟨82, 1, true, true, v3, [[lst 2 GLine.av a2]]⟩), (2, ⟨3, 1, true, true, v7, y3_2.map fI⟩)]) (.tmp rfl (.tmp rfl .nil)) (HK.le ⟨rfl, rfl, trivial⟩) ?_)
  exact (.inl ⟨y3_2, v7, rfl, (CvL.tup (.cons (cv_slen (Eq.symm p26)) (.cons (.refl _) .nil))), rfl⟩)
  replace h1 := ct h1
  refine tc tbk 4 (.mk ?_)
  obtain ⟨p27, h1⟩ := asrt_e h1
  refine rse rfl rfl rfl (yl_call rfl rfl (.cons rfl .nil) cal120 (pc_cv (clone120_c (id := 4) (l := a1) rfl p27) (.cons (.refl _) .nil))) ?_; rintro _ _ ⟨v28, rfl, rfl⟩
  refine tr tbk 4 (.mk ?_)
  obtain rfl := nxt_e h1
  refine w_ret (hret _ _ (hk [(1, ⟨82, 1, true, true, v3, [[lst 2 GLine.av a2]]⟩), (4, ⟨3, 1, true, true, v28, a1.map fI⟩)]) (.tmp rfl (.tmp rfl .nil)) (HK.le ⟨rfl, rfl, trivial⟩) ?_)
  exact (.inr ⟨y3_1, v28, rfl, (.refl _), rfl⟩)
  rintro y _ (⟨y4_2, w4_1, rfl, hc, rfl⟩ | ⟨y5_2, w5_1, rfl, hc, rfl⟩)
  replace h0 := selr_l h0
  refine rs_cv 11 (.tup [.sl 2 w4_1 0 y4_2.length, int 0]) rfl hc ?_
  refine tr tbk 5 (.mk ?_)
  obtain rfl := nxt_e h0
  refine wR hret (rT (rT .nil)) ?_
  exact CvL.tup (.cons (cv_lst rfl rfl rfl rfl rfl (Eq.symm rfl)) (.cons (.refl _) .nil))
  replace h0 := selr_r h0
  refine rs_cv 11 (.tup [.sl 4 w5_1 0 a1.length, int y5_2]) rfl hc ?_
  refine tr tbk 5 (.mk ?_)
  obtain rfl := nxt_e h0
  refine wR hret (rT (rT .nil)) ?_
  exact CvL.tup (.cons (cv_lst rfl rfl rfl rfl rfl (Eq.symm rfl)) (.cons (.refl _) .nil))
  replace h0 := ct h0
  refine tc tbk 6 (.mk ?_)
  obtain rfl := nxt_e h0
  refine wR hret (rT (rT .nil)) ?_
  exact CvL.tup (.cons (.nil _) (.cons (.refl _) .nil))
def d_stock_Post (n : Nat) (a1 : GState) (a2 : Int) (a3 : List GLine) : Option (GState × Int) :=
(show Option (Bool) from
bnd (decide (a2 < 0)) fun x7 =>
cond x7 (some (true : Bool)) (bnd (decide (a2 ≥ (a1.Ents.length : Int))) fun x8 =>
some (x8 : Bool))).bind <| fun y0_1 =>
cond y0_1 (some ((a1 : GState), (4 : Int))) ((d_voucher_Plain n a3).bind fun x9 =>
bnd (decide (x9.2 ≠ 0)) fun x10 =>
cond x10 (some ((a1 : GState), (x9.2 : Int))) ((ix a1.Ents a2).bind fun x11 =>
(d_gl_Post n x11.Bal x9.1).bind fun x12 =>
bnd (decide (x12.2 ≠ 0)) fun x13 =>
cond x13 (some ((a1 : GState), (x12.2 : Int))) ((show Option ((Unit)) from
asrt (a1.Ents.length ≤ 68719476736) <|
(ix a1.Ents a2).bind fun x18 =>
some ()).bind <| fun _ =>
(ix a1.Ents a2).bind fun x19 =>
bnd (a1.Ents.set (Int.toNat a2) ((⟨x19.Now, x19.Closed, x19.Pools, x12.1, x19.Rolls, x19.Prices, x19.Down, x19.Ahead⟩ : GEnt) : GEnt)) fun x20 =>
some (((⟨a1.Master, x20, a1.Receipts, a1.Sales, a1.Transits, a1.Done⟩ : GState) : GState), (0 : Int)))))
theorem d_stock_Post_c {n : Nat} {a1 : GState} {a2 : Int} {a3 : List GLine} {r : GState × Int} (h0 : d_stock_Post n a1 a2 a3 = some r) : PP Tryz.prog 60 [.agg (GState.av a1), int a2, lst 2 GLine.av a3] (fun y => y = .tup [.agg (GState.av r.1), int r.2]) := by
  unfold d_stock_Post at h0
  refine pp_of_pc (R0 := fun y H => Cv (frzH H) y (.tup [.agg (GState.av r.1), int r.2])) ?_ (fun y H hc => ⟨_, rfl, .tup (pvl2 ((fun (a : GState) => PV.agg (GState.pvc a)) (r.1)) (pvI (r.2))), hc⟩)
  refine pcw (c := _) Tryz.func60 rfl rfl ?_; intro Q hret hnorm
  refine tc tbk 2 (.mk ?_)
  refine sB 1 fun v4 => ?_
  refine sA 2 z32 fun v5 => ?_
  refine tr tbk 4 (.mk ?_)
  refine jn h0 [1, 2, 3, 6, 7] [1, 2] (fun (a : Bool) (k : Unit) => [(20, boo a)]) (fun a k => []) ⟨fun j6 h1 => ?_, ?_⟩
  refine tc tbk 2 (.mk ?_)
  refine nb tbk h1 fun x7 h1 => ?_
  refine tr tbk 1 (.mk ?_)
  cases x7
  replace h1 := cf h1
  refine tr tbk 3 (.mk ?_)
  refine sY (yv_len_sl rfl Tryz.underlying27 rfl (lst_len _)) ?_
  refine nb tbk h1 fun x8 h1 => ?_
  refine tr tbk 2 (.mk ?_)
  exact lf h1 () leA
  replace h1 := ct h1
  refine tr tbk 7 (.mk ?_)
  exact lf h1 () leA
  rintro y0_1 _ h0
  cases y0_1
  replace h0 := cf h0
  refine tc tbk 5 (.mk ?_)
  obtain ⟨x9, e9, h0⟩ := bind_e h0
  refine sC cal108 (d_voucher_Plain_c e9) ?_
  refine tr tbk 10 (.mk ?_)
  refine nb tbk h0 fun x10 h0 => ?_
  refine tr tbk 1 (.mk ?_)
  cases x10
  replace h0 := cf h0
  refine tc tbk 7 (.mk ?_)
  obtain ⟨x11, e11, h0⟩ := bind_e h0
  refine sY (yv_to (y := .pp [int x11.Now, boo x11.Closed, lst 4 GPool.av x11.Pools, lst 1 fI x11.Bal, lst 11 GRoll.av x11.Rolls, lst 1 fI x11.Prices, lst 1 fI x11.Down, lst 8 GEnt.av x11.Ahead]) (yv_ixT rfl Tryz.underlying27 sh47 rfl rfl e11) (congrArg AV.pp (GEnt.av_eq x11))) ?_
  refine tr tbk 3 (.mk ?_)
  obtain ⟨x12, e12, h0⟩ := bind_e h0
  refine sC cal109 (d_gl_Post_c e12) ?_
  refine tr tbk 10 (.mk ?_)
  refine nb tbk h0 fun x13 h0 => ?_
  refine tr tbk 1 (.mk ?_)
  cases x13
  replace h0 := cf h0
  refine tc tbk 5 (.mk ?_)
  refine sY (yv_build (cs := (GState.av a1)) (ps := [(0, _)]) rfl pl93 z93 rfl (.cons rfl .nil) (by kernel_rfl)) ?_
  refine sA 3 z93 fun v14 => ?_
  refine sS ⟨93, 10, true, true, v14, [(GState.av a1)]⟩ sh93 ?_
  refine tr tbk 4 (.mk ?_)
  obtain ⟨j15, h1, h0⟩ := bind_e h0
  refine rse (Out := fun y H' => (∃ (a : Unit) (k : Nat), a = j15 ∧ y = .pt 4 k (Int.toNat a2) 0 ∧ H' = hk [(1, ⟨32, 10, true, true, v4, [(GState.av a1)]⟩), (2, ⟨32, 10, true, true, v5, [[int 0, int 0, .sc (.slice none 0 0), .sc (.slice none 0 0), .sc (.slice none 0 0), .sc (.slice none 0 0), .sc (.slice none 0 0), .sc (.slice none 0 0), .sc (.slice none 0 0), int 0]]⟩), (3, ⟨93, 10, true, true, v14, [[int a1.Master.Entities, int a1.Master.Periods, lst 1 fI a1.Master.Weights, lst 1 (fL 1 fI) a1.Master.Methods, lst 1 (fL 1 fI) a1.Master.Costs, .sl 4 k 0 a1.Ents.length, lst 8 GReceipt.av a1.Receipts, lst 9 GSale.av a1.Sales, lst 6 GTransit.av a1.Transits, int a1.Done]]⟩), (4, ⟨47, 8, true, true, k, a1.Ents.map GEnt.av⟩)])) rfl rfl rfl (yl_call rfl rfl (.cons rfl (.cons rfl .nil)) cal97 ?_) ?_
  refine pcw (c := _) Tryz.func97 rfl rfl ?_; intro Q hret hnorm
  refine tc tbk 12 (.mk ?_)
  obtain ⟨p16, h1⟩ := asrt_e h1
  refine rse rfl rfl rfl (yl_call rfl rfl (.cons rfl .nil) cal121 (pc_cv (clone121_c (id := 4) (l := a1.Ents) rfl p16) (.cons (.refl _) .nil))) ?_; rintro _ _ ⟨v17, rfl, rfl⟩
  refine tr tbk 3 (.mk ?_)
  refine sS ⟨93, 10, true, true, v14, [[int a1.Master.Entities, int a1.Master.Periods, lst 1 fI a1.Master.Weights, lst 1 (fL 1 fI) a1.Master.Methods, lst 1 (fL 1 fI) a1.Master.Costs, .sl 4 v17 0 a1.Ents.length, lst 8 GReceipt.av a1.Receipts, lst 9 GSale.av a1.Sales, lst 6 GTransit.av a1.Transits, int a1.Done]]⟩ sh27 ?_
  refine tr tbk 9 (.mk ?_)
  obtain ⟨x18, e18, h1⟩ := bind_e h1
  refine sY (yv_ixO rfl Tryz.underlying27 sh47 rfl rfl rfl rfl rfl (Eq.symm rfl) (List.length_map _) e18) ?_
  refine tr tbk 2 (.mk ?_)
  obtain rfl := nxt_e h1
  refine w_ret (hret _ _ (hk [(1, ⟨32, 10, true, true, v4, [(GState.av a1)]⟩), (2, ⟨32, 10, true, true, v5, [[int 0, int 0, .sc (.slice none 0 0), .sc (.slice none 0 0), .sc (.slice none 0 0), .sc (.slice none 0 0), .sc (.slice none 0 0), .sc (.slice none 0 0), .sc (.slice none 0 0), int 0]]⟩), (3, ⟨93, 10, true, true, v14, [[int a1.Master.Entities, int a1.Master.Periods, lst 1 fI a1.Master.Weights, lst 1 (fL 1 fI) a1.Master.Methods, lst 1 (fL 1 fI) a1.Master.Costs, .sl 4 v17 0 a1.Ents.length, lst 8 GReceipt.av a1.Receipts, lst 9 GSale.av a1.Sales, lst 6 GTransit.av a1.Transits, int a1.Done]]⟩), (4, ⟨47, 8, true, true, v17, a1.Ents.map GEnt.av⟩)]) (.tmp rfl .nil) (HK.le ⟨rfl, rfl, rfl, rfl, trivial⟩) ?_)
  exact ⟨(), v17, rfl, rfl, rfl⟩
  rintro y _ ⟨_, w1_1, rfl, hc, rfl⟩
  subst hc
  refine tr tbk 1 (.mk ?_)
  obtain ⟨x19, e19, h0⟩ := bind_e h0
  refine sY (yv_nilCheck rfl rfl (.pt rfl rfl (ix_get' e19 (GEnt.av_eq _)))) ?_
  refine sY (yv_fieldAddr rfl fo47_3 rfl (.pt rfl rfl (ix_get' e19 (GEnt.av_eq _))) (.pt _ _ _ _ _)) ?_
  obtain ⟨x20, e20, h0⟩ := bnd_e h0
  have fx20 := ix_set e19 e20; have lx20 := len_setV e20 (rfl : a1.Ents.length = a1.Ents.length)
  refine rsstore rfl rfl (yl_ob (ob' := (⟨47, 8, true, true, w1_1, x20.map GEnt.av⟩ : AObj)) (yl_store rfl sh23 rfl rfl rfl rfl rfl (ix_get' e19 (GEnt.av_eq _)) rfl rfl rfl) (ob_eq (map_setR e20 (GEnt.av_eq _)))) ?_
  refine tr tbk 5 (.mk ?_)
  refine sS ⟨32, 10, true, true, v5, [[int a1.Master.Entities, int a1.Master.Periods, lst 1 fI a1.Master.Weights, lst 1 (fL 1 fI) a1.Master.Methods, lst 1 (fL 1 fI) a1.Master.Costs, .sl 4 w1_1 0 a1.Ents.length, lst 8 GReceipt.av a1.Receipts, lst 9 GSale.av a1.Sales, lst 6 GTransit.av a1.Transits, int a1.Done]]⟩ sh32 ?_
  refine tr tbk 2 (.mk ?_)
  obtain rfl := nxt_e h0
  refine wR hret (rC sh32 (rT .nil)) ?_
  exact CvL.tup (.cons (CvL.agg (.cons (.refl _) (.cons (.refl _) (.cons (.refl _) (.cons (.refl _) (.cons (.refl _) (.cons (cv_lst rfl rfl rfl rfl rfl (Eq.symm lx20)) (.cons (.refl _) (.cons (.refl _) (.cons (.refl _) (.cons (.refl _) .nil))))))))))) (.cons (.refl _) .nil))
  replace h0 := ct h0
  refine tc tbk 5 (.mk ?_)
  refine sS ⟨32, 10, true, true, v5, [(GState.av a1)]⟩ sh32 ?_
  refine tr tbk 2 (.mk ?_)
  obtain rfl := nxt_e h0
  refine wR hret (rC sh32 (rT .nil)) ?_
  exact .refl _
  replace h0 := ct h0
  refine tc tbk 5 (.mk ?_)
  refine sS ⟨32, 10, true, true, v5, [(GState.av a1)]⟩ sh32 ?_
  refine tr tbk 2 (.mk ?_)
  obtain rfl := nxt_e h0
  refine wR hret (rC sh32 (rT .nil)) ?_
  exact .refl _
  replace h0 := ct h0
  refine tc tbk 4 (.mk ?_)
  refine sS ⟨32, 10, true, true, v5, [(GState.av a1)]⟩ sh32 ?_
  refine tr tbk 2 (.mk ?_)
  obtain rfl := nxt_e h0
  refine wR hret (rC sh32 (rT .nil)) ?_
  exact .refl _
def d_ship_post_L0 (a2 : List Gentry) : Nat → Int → GState → Option ((GState) ⊕ (GState × Int))
  | 0, _, _ => none
  | n + 1, y0_1, y0_2 =>
    bnd (decide (y0_1 < (a2.length : Int))) fun x6 =>
    cond x6 ((ix a2 y0_1).bind fun x7 =>
    (d_stock_Post n y0_2 x7.entity x7.lines).bind fun x9 =>
    bnd (decide (x9.2 ≠ 0)) fun x10 =>
    cond x10 (esc (some ((x9.1 : GState), (x9.2 : Int)))) (bnd (w64 (y0_1 + 1)) fun x11 =>
    d_ship_post_L0 a2 n (x11 : Int) (x9.1 : GState))) (brk (y0_2 : GState))
def d_ship_post (n : Nat) (a1 : GState) (a2 : List Gentry) : Option (GState × Int) :=
(show Option ((GState) ⊕ (GState × Int)) from
d_ship_post_L0 a2 n (0 : Int) (a1 : GState)).bind <| sel <| fun y1_1 =>
some ((y1_1 : GState), (0 : Int))
theorem d_ship_post_c {n : Nat} {a1 : GState} {a2 : List Gentry} {r : GState × Int} (h0 : d_ship_post n a1 a2 = some r) : PP Tryz.prog 82 [.agg (GState.av a1), lst 2 Gentry.av a2] (fun y => y = .tup [.agg (GState.av r.1), int r.2]) := by
  unfold d_ship_post at h0
  refine pp_of_pc (R0 := fun y H => Cv (frzH H) y (.tup [.agg (GState.av r.1), int r.2])) ?_ (fun y H hc => ⟨_, rfl, .tup (pvl2 ((fun (a : GState) => PV.agg (GState.pvc a)) (r.1)) (pvI (r.2))), hc⟩)
  refine pcw (c := _) Tryz.func82 rfl rfl ?_; intro Q hret hnorm
  refine tc tbk 2 (.mk ?_)
  refine sB 1 fun v3 => ?_
  refine sA 2 z32 fun v4 => ?_
  refine tr tbk 6 (.mk ?_)
  refine sY (yv_len_sl rfl Tryz.underlying174 rfl (lst_len _)) ?_
  refine tr tbk 2 (.mk ?_)
  refine jnE h0 [2, 4, 5] [2] (fun (a : GState) (k : Unit) => []) (fun a k => [(1, ⟨32, 10, true, true, v3, [(GState.av a)]⟩)]) ⟨fun j5 h1 h0 => ?_, ?_⟩
  refine tc tbk 1 (.mk ?_)
  refine lp (fun n (a : Int × GState) => d_ship_post_L0 a2 n a.1 a.2) ((0 : Int), (a1 : GState)) () h1 [2, 4, 5, 9, 10] [2] (fun (a : Int × GState) (k : Unit) => [(11, int a.1)]) (fun a k => [(1, ⟨32, 10, true, true, v3, [(GState.av a.2)]⟩)]) (fun _ => rfl) ⟨leA, ?_⟩
  rintro n ⟨y0_1, y0_2⟩ _ hm h1
  replace h1 : d_ship_post_L0 a2 (n + 1) y0_1 y0_2 = some _ := h1
  rw [d_ship_post_L0] at h1
  refine tc tbk 2 (.mk ?_)
  refine nb tbk h1 fun x6 h1 => ?_
  refine tr tbk 2 (.mk ?_)
  cases x6
  replace h1 := cf h1
  refine tc tbk 2 (.mk ?_)
  exact lfE h1 () leA
  replace h1 := ct h1
  refine tc tbk 6 (.mk ?_)
  obtain ⟨x7, e7, h1⟩ := bind_e h1
  refine sY (yv_ixT rfl Tryz.underlying174 sh127 rfl rfl e7) ?_
  refine tr tbk 1 (.mk ?_)
  refine sA 3 z127 fun v8 => ?_
  refine sS ⟨127, 2, true, true, v8, [[int x7.entity, lst 2 GLine.av x7.lines]]⟩ sh127 ?_
  refine tr tbk 12 (.mk ?_)
  obtain ⟨x9, e9, h1⟩ := bind_e h1
  refine sC cal60 (d_stock_Post_c e9) ?_
  refine tr tbk 3 (.mk ?_)
  refine sS ⟨32, 10, true, true, v3, [(GState.av x9.1)]⟩ sh32 ?_
  refine tr tbk 5 (.mk ?_)
  refine nb tbk h1 fun x10 h1 => ?_
  refine tr tbk 1 (.mk ?_)
  cases x10
  replace h1 := cf h1
  refine tc tbk 4 (.mk ?_)
  refine ni tbk h1 fun x11 h1 => ?_
  refine tr tbk 2 (.mk ?_)
  exact bk (x11, x9.1) () h1 leA
  replace h1 := ct h1
  refine tc tbk 5 (.mk ?_)
  refine sS ⟨32, 10, true, true, v4, [(GState.av x9.1)]⟩ sh32 ?_
  refine tr tbk 2 (.mk ?_)
  obtain ⟨c12, hX, hj⟩ := esc_e h1; subst hj; replace h0 := hX.trans (sel_r h0)
  obtain rfl := nxt_e h0
  refine wR hret (rC sh32 (rT .nil)) ?_
  exact .refl _
  rintro y1_1 _ h0
  refine tc tbk 3 (.mk ?_)
  refine sS ⟨32, 10, true, true, v4, [(GState.av y1_1)]⟩ sh32 ?_
  refine tr tbk 2 (.mk ?_)
  obtain rfl := nxt_e h0
  refine wR hret (rC sh32 (rT .nil)) ?_
  exact .refl _
def d_stock_Turn (a1 : GState) (a2 : Int) (a3 : Int) (a4 : GRoll) : Option (GState × Int) :=
(d_stock_is a1 a2 a3).bind fun x8 =>
bnd (!x8) fun x9 =>
cond x9 (some ((a1 : GState), (4 : Int))) ((ix a1.Ents a2).bind fun x10 =>
(ix x10.Rolls a3).bind fun x11 =>
(show Option ((Unit)) from
some ()).bind <| fun _ =>
(show Option ((GRoll) ⊕ (GState × Int)) from
(ix ([a4.Open, a4.Bought, a4.Landed, a4.Arrived, a4.Returned, a4.Sold, a4.Shipped, a4.SentBack, a4.Scrapped, a4.Lost, a4.Revalued] : List Int) 0).bind fun x16 =>
(show Option ((Unit)) from
some ()).bind <| fun _ =>
(d_money_Add x11.Open x16).bind fun x18 =>
bnd (decide (x18.2 ≠ 0)) fun x19 =>
cond x19 (esc (some ((a1 : GState), (x18.2 : Int)))) ((ix ([a4.Open, a4.Bought, a4.Landed, a4.Arrived, a4.Returned, a4.Sold, a4.Shipped, a4.SentBack, a4.Scrapped, a4.Lost, a4.Revalued] : List Int) 1).bind fun x20 =>
(show Option ((Unit)) from
some ()).bind <| fun _ =>
(d_money_Add x11.Bought x20).bind fun x22 =>
bnd (decide (x22.2 ≠ 0)) fun x23 =>
cond x23 (esc (some ((a1 : GState), (x22.2 : Int)))) ((ix ([a4.Open, a4.Bought, a4.Landed, a4.Arrived, a4.Returned, a4.Sold, a4.Shipped, a4.SentBack, a4.Scrapped, a4.Lost, a4.Revalued] : List Int) 2).bind fun x24 =>
(show Option ((Unit)) from
some ()).bind <| fun _ =>
(d_money_Add x11.Landed x24).bind fun x26 =>
bnd (decide (x26.2 ≠ 0)) fun x27 =>
cond x27 (esc (some ((a1 : GState), (x26.2 : Int)))) ((ix ([a4.Open, a4.Bought, a4.Landed, a4.Arrived, a4.Returned, a4.Sold, a4.Shipped, a4.SentBack, a4.Scrapped, a4.Lost, a4.Revalued] : List Int) 3).bind fun x28 =>
(show Option ((Unit)) from
some ()).bind <| fun _ =>
(d_money_Add x11.Arrived x28).bind fun x30 =>
bnd (decide (x30.2 ≠ 0)) fun x31 =>
cond x31 (esc (some ((a1 : GState), (x30.2 : Int)))) ((ix ([a4.Open, a4.Bought, a4.Landed, a4.Arrived, a4.Returned, a4.Sold, a4.Shipped, a4.SentBack, a4.Scrapped, a4.Lost, a4.Revalued] : List Int) 4).bind fun x32 =>
(show Option ((Unit)) from
some ()).bind <| fun _ =>
(d_money_Add x11.Returned x32).bind fun x34 =>
bnd (decide (x34.2 ≠ 0)) fun x35 =>
cond x35 (esc (some ((a1 : GState), (x34.2 : Int)))) ((ix ([a4.Open, a4.Bought, a4.Landed, a4.Arrived, a4.Returned, a4.Sold, a4.Shipped, a4.SentBack, a4.Scrapped, a4.Lost, a4.Revalued] : List Int) 5).bind fun x36 =>
(show Option ((Unit)) from
some ()).bind <| fun _ =>
(d_money_Add x11.Sold x36).bind fun x38 =>
bnd (decide (x38.2 ≠ 0)) fun x39 =>
cond x39 (esc (some ((a1 : GState), (x38.2 : Int)))) ((ix ([a4.Open, a4.Bought, a4.Landed, a4.Arrived, a4.Returned, a4.Sold, a4.Shipped, a4.SentBack, a4.Scrapped, a4.Lost, a4.Revalued] : List Int) 6).bind fun x40 =>
(show Option ((Unit)) from
some ()).bind <| fun _ =>
(d_money_Add x11.Shipped x40).bind fun x42 =>
bnd (decide (x42.2 ≠ 0)) fun x43 =>
cond x43 (esc (some ((a1 : GState), (x42.2 : Int)))) ((ix ([a4.Open, a4.Bought, a4.Landed, a4.Arrived, a4.Returned, a4.Sold, a4.Shipped, a4.SentBack, a4.Scrapped, a4.Lost, a4.Revalued] : List Int) 7).bind fun x44 =>
(show Option ((Unit)) from
some ()).bind <| fun _ =>
(d_money_Add x11.SentBack x44).bind fun x46 =>
bnd (decide (x46.2 ≠ 0)) fun x47 =>
cond x47 (esc (some ((a1 : GState), (x46.2 : Int)))) ((ix ([a4.Open, a4.Bought, a4.Landed, a4.Arrived, a4.Returned, a4.Sold, a4.Shipped, a4.SentBack, a4.Scrapped, a4.Lost, a4.Revalued] : List Int) 8).bind fun x48 =>
(show Option ((Unit)) from
some ()).bind <| fun _ =>
(d_money_Add x11.Scrapped x48).bind fun x50 =>
bnd (decide (x50.2 ≠ 0)) fun x51 =>
cond x51 (esc (some ((a1 : GState), (x50.2 : Int)))) ((ix ([a4.Open, a4.Bought, a4.Landed, a4.Arrived, a4.Returned, a4.Sold, a4.Shipped, a4.SentBack, a4.Scrapped, a4.Lost, a4.Revalued] : List Int) 9).bind fun x52 =>
(show Option ((Unit)) from
some ()).bind <| fun _ =>
(d_money_Add x11.Lost x52).bind fun x54 =>
bnd (decide (x54.2 ≠ 0)) fun x55 =>
cond x55 (esc (some ((a1 : GState), (x54.2 : Int)))) ((ix ([a4.Open, a4.Bought, a4.Landed, a4.Arrived, a4.Returned, a4.Sold, a4.Shipped, a4.SentBack, a4.Scrapped, a4.Lost, a4.Revalued] : List Int) 10).bind fun x56 =>
(show Option ((Unit)) from
some ()).bind <| fun _ =>
(d_money_Add x11.Revalued x56).bind fun x58 =>
bnd (decide (x58.2 ≠ 0)) fun x59 =>
cond x59 (esc (some ((a1 : GState), (x58.2 : Int)))) (brk ((⟨x18.1, x22.1, x26.1, x30.1, x34.1, x38.1, x42.1, x46.1, x50.1, x54.1, x58.1⟩ : GRoll) : GRoll))))))))))))).bind <| sel <| fun y2_1 =>
(show Option ((Unit)) from
asrt (a1.Ents.length ≤ 68719476736) <|
(ix a1.Ents a2).bind fun x75 =>
some ()).bind <| fun _ =>
(ix a1.Ents a2).bind fun x76 =>
asrt (x76.Rolls.length ≤ 68719476736) <|
(ix x76.Rolls a3).bind fun x79 =>
bnd (x76.Rolls.set (Int.toNat a3) (y2_1 : GRoll)) fun x80 =>
some (((⟨a1.Master, (a1.Ents.set (Int.toNat a2) (⟨x76.Now, x76.Closed, x76.Pools, x76.Bal, x80, x76.Prices, x76.Down, x76.Ahead⟩ : GEnt)), a1.Receipts, a1.Sales, a1.Transits, a1.Done⟩ : GState) : GState), (0 : Int)))
theorem d_stock_Turn_c {a1 : GState} {a2 : Int} {a3 : Int} {a4 : GRoll} {r : GState × Int} (h0 : d_stock_Turn a1 a2 a3 a4 = some r) : PP Tryz.prog 84 [.agg (GState.av a1), int a2, int a3, .agg (GRoll.av a4)] (fun y => y = .tup [.agg (GState.av r.1), int r.2]) := by
  unfold d_stock_Turn at h0
  refine pp_of_pc (R0 := fun y H => Cv (frzH H) y (.tup [.agg (GState.av r.1), int r.2])) ?_ (fun y H hc => ⟨_, rfl, .tup (pvl2 ((fun (a : GState) => PV.agg (GState.pvc a)) (r.1)) (pvI (r.2))), hc⟩)
  refine pcw (c := _) Tryz.func84 rfl rfl ?_; intro Q hret hnorm
  refine tc tbk 2 (.mk ?_)
  refine sB 1 fun v5 => ?_
  refine sB 2 fun v6 => ?_
  refine sA 3 z32 fun v7 => ?_
  refine tr tbk 8 (.mk ?_)
  obtain ⟨x8, e8, h0⟩ := bind_e h0
  refine sC cal52 (d_stock_is_c e8) ?_
  refine nb tbk h0 fun x9 h0 => ?_
  refine tr tbk 1 (.mk ?_)
  cases x9
  replace h0 := cf h0
  refine tc tbk 7 (.mk ?_)
  obtain ⟨x10, e10, h0⟩ := bind_e h0
  refine sY (yv_to (y := .pp [int x10.Now, boo x10.Closed, lst 4 GPool.av x10.Pools, lst 1 fI x10.Bal, lst 11 GRoll.av x10.Rolls, lst 1 fI x10.Prices, lst 1 fI x10.Down, lst 8 GEnt.av x10.Ahead]) (yv_ixT rfl Tryz.underlying27 sh47 rfl rfl e10) (congrArg AV.pp (GEnt.av_eq x10))) ?_
  refine tr tbk 3 (.mk ?_)
  obtain ⟨x11, e11, h0⟩ := bind_e h0
  refine sY (yv_ixT rfl Tryz.underlying45 sh54 rfl rfl e11) ?_
  refine tr tbk 1 (.mk ?_)
  refine sA 4 z54 fun v12 => ?_
  refine sS ⟨54, 11, true, true, v12, [[int x11.Open, int x11.Bought, int x11.Landed, int x11.Arrived, int x11.Returned, int x11.Sold, int x11.Shipped, int x11.SentBack, int x11.Scrapped, int x11.Lost, int x11.Revalued]]⟩ sh54 ?_
  refine tr tbk 5 (.mk ?_)
  obtain ⟨j13, h1, h0⟩ := bind_e h0
  refine rse (Out := fun y H' => (∃ (a : Unit) (k : Unit), a = j13 ∧ y = lst 1 fI ([a4.Open, a4.Bought, a4.Landed, a4.Arrived, a4.Returned, a4.Sold, a4.Shipped, a4.SentBack, a4.Scrapped, a4.Lost, a4.Revalued] : List Int) ∧ H' = hk [(1, ⟨32, 10, true, true, v5, [(GState.av a1)]⟩), (2, ⟨54, 11, true, true, v6, [[int a4.Open, int a4.Bought, int a4.Landed, int a4.Arrived, int a4.Returned, int a4.Sold, int a4.Shipped, int a4.SentBack, int a4.Scrapped, int a4.Lost, int a4.Revalued]]⟩), (3, ⟨32, 10, true, true, v7, [[int 0, int 0, .sc (.slice none 0 0), .sc (.slice none 0 0), .sc (.slice none 0 0), .sc (.slice none 0 0), .sc (.slice none 0 0), .sc (.slice none 0 0), .sc (.slice none 0 0), int 0]]⟩), (4, ⟨54, 11, true, true, v12, [[int x11.Open, int x11.Bought, int x11.Landed, int x11.Arrived, int x11.Returned, int x11.Sold, int x11.Shipped, int x11.SentBack, int x11.Scrapped, int x11.Lost, int x11.Revalued]]⟩)])) rfl rfl rfl (yl_call rfl rfl (.cons rfl .nil) cal134 ?_) ?_
  refine pcw (c := _) Tryz.func134 rfl rfl ?_; intro Q hret hnorm
  refine tc tbk 2 (.mk ?_)
  refine sB 5 fun v14 => ?_
  refine tr tbk 26 (.mk ?_)
  refine sY (yv_to (y := lst 1 fI ([a4.Open, a4.Bought, a4.Landed, a4.Arrived, a4.Returned, a4.Sold, a4.Shipped, a4.SentBack, a4.Scrapped, a4.Lost, a4.Revalued] : List Int)) (yv_buildSlice (ps := [(0, _), (1, _), (2, _), (3, _), (4, _), (5, _), (6, _), (7, _), (8, _), (9, _), (10, _)]) (rows := [[int a4.Open], [int a4.Bought], [int a4.Landed], [int a4.Arrived], [int a4.Returned], [int a4.Sold], [int a4.Shipped], [int a4.SentBack], [int a4.Scrapped], [int a4.Lost], [int a4.Revalued]]) rfl Tryz.underlying23 bz3 (.cons rfl (.cons rfl (.cons rfl (.cons rfl (.cons rfl (.cons rfl (.cons rfl (.cons rfl (.cons rfl (.cons rfl (.cons rfl .nil))))))))))) (by kernel_rfl) rfl rfl rfl) rfl) ?_
  refine tr tbk 2 (.mk ?_)
  obtain rfl := nxt_e h1
  refine w_ret (hret _ _ (hk [(1, ⟨32, 10, true, true, v5, [(GState.av a1)]⟩), (2, ⟨54, 11, true, true, v6, [[int a4.Open, int a4.Bought, int a4.Landed, int a4.Arrived, int a4.Returned, int a4.Sold, int a4.Shipped, int a4.SentBack, int a4.Scrapped, int a4.Lost, int a4.Revalued]]⟩), (3, ⟨32, 10, true, true, v7, [[int 0, int 0, .sc (.slice none 0 0), .sc (.slice none 0 0), .sc (.slice none 0 0), .sc (.slice none 0 0), .sc (.slice none 0 0), .sc (.slice none 0 0), .sc (.slice none 0 0), int 0]]⟩), (4, ⟨54, 11, true, true, v12, [[int x11.Open, int x11.Bought, int x11.Landed, int x11.Arrived, int x11.Returned, int x11.Sold, int x11.Shipped, int x11.SentBack, int x11.Scrapped, int x11.Lost, int x11.Revalued]]⟩)]) (.tmp rfl .nil) (HK.le ⟨rfl, rfl, rfl, rfl, trivial⟩) ?_)
  exact ⟨(), (), rfl, rfl, rfl⟩
  rintro y _ ⟨_, _, rfl, hc, rfl⟩
  subst hc
  refine sY (yv_to (y := int 11) (yv_len_sl rfl Tryz.underlying23 rfl (lst_len _)) rfl) ?_
  refine tr tbk 2 (.mk ?_)
  refine jnE h0 [1, 2, 4, 8, 9, 10] [1, 3] (fun (a : GRoll) (k : Unit) => []) (fun a k => [(4, ⟨54, 11, true, true, v12, [[int a.Open, int a.Bought, int a.Landed, int a.Arrived, int a.Returned, int a.Sold, int a.Shipped, int a.SentBack, int a.Scrapped, int a.Lost, int a.Revalued]]⟩)]) ⟨fun j15 h1 h0 => ?_, ?_⟩
  refine tc tbk 4 (.mk ?_)
  refine sY (yv_to (y := boo true) (yv_lss rfl rfl rfl) (congrArg boo (by decide))) ?_
  refine tr tbk 9 (.mk ?_)
  obtain ⟨x16, e16, h1⟩ := bind_e h1
  refine sY (yv_ixT rfl Tryz.underlying23 sh3 rfl rfl e16) ?_
  refine tr tbk 6 (.mk ?_)
  obtain ⟨j17, h2, h1⟩ := bind_e h1
  refine rse (Out := fun y H' => (∃ (a : Unit) (k : Unit), a = j17 ∧ y = .list 1 [[.pt 4 v12 0 0], [.pt 4 v12 0 1], [.pt 4 v12 0 2], [.pt 4 v12 0 3], [.pt 4 v12 0 4], [.pt 4 v12 0 5], [.pt 4 v12 0 6], [.pt 4 v12 0 7], [.pt 4 v12 0 8], [.pt 4 v12 0 9], [.pt 4 v12 0 10]] ∧ H' = hk [(1, ⟨32, 10, true, true, v5, [(GState.av a1)]⟩), (2, ⟨54, 11, true, true, v6, [[int a4.Open, int a4.Bought, int a4.Landed, int a4.Arrived, int a4.Returned, int a4.Sold, int a4.Shipped, int a4.SentBack, int a4.Scrapped, int a4.Lost, int a4.Revalued]]⟩), (3, ⟨32, 10, true, true, v7, [[int 0, int 0, .sc (.slice none 0 0), .sc (.slice none 0 0), .sc (.slice none 0 0), .sc (.slice none 0 0), .sc (.slice none 0 0), .sc (.slice none 0 0), .sc (.slice none 0 0), int 0]]⟩), (4, ⟨54, 11, true, true, v12, [[int x11.Open, int x11.Bought, int x11.Landed, int x11.Arrived, int x11.Returned, int x11.Sold, int x11.Shipped, int x11.SentBack, int x11.Scrapped, int x11.Lost, int x11.Revalued]]⟩)])) rfl rfl rfl (yl_call rfl rfl (.cons rfl .nil) cal135 ?_) ?_
  refine pcw (c := _) Tryz.func135 rfl rfl ?_; intro Q hret hnorm
  refine tc tbk 5 (.mk ?_)
  refine c_drawE [0, 1, 3, 0, 8, 24, 0, 64, 192, 0, 512, 1536, 0, 4096, 12288, 0, 32768, 98304, 0, 262144, 786432, 0, 2097152, 6291456, 0, 16777216, 50331648, 0, 134217728, 402653184, 0, 1073741824, 3221225472, 8589934591, 17179869183] (rl [(1, [4]), (2, [4]), (4, [4]), (5, [4]), (7, [4]), (8, [4]), (10, [4]), (11, [4]), (13, [4]), (14, [4]), (16, [4]), (17, [4]), (19, [4]), (20, [4]), (22, [4]), (23, [4]), (25, [4]), (26, [4]), (28, [4]), (29, [4]), (31, [4]), (32, [4])] []) (fun i => [4]) (fun i => true) [0, 1, 2, 3, 4, 5, 6, 7, 8, 9, 10, 11, 12, 13, 14, 15, 16, 17, 18, 19, 20, 21, 22, 23, 24, 25, 26, 27, 28, 29, 30, 31, 32, 33, 34] mixed (by kernel_rfl) ?_; intro K hK
  refine eM ?_
  refine eN ?_
  refine eF fo54_0 ?_
  refine eM ?_
  refine eN ?_
  refine eF fo54_1 ?_
  refine eM ?_
  refine eN ?_
  refine eF fo54_2 ?_
  refine eM ?_
  refine eN ?_
  refine eF fo54_3 ?_
  refine eM ?_
  refine eN ?_
  refine eF fo54_4 ?_
  refine eM ?_
  refine eN ?_
  refine eF fo54_5 ?_
  refine eM ?_
  refine eN ?_
  refine eF fo54_6 ?_
  refine eM ?_
  refine eN ?_
  refine eF fo54_7 ?_
  refine eM ?_
  refine eN ?_
  refine eF fo54_8 ?_
  refine eM ?_
  refine eN ?_
  refine eF fo54_9 ?_
  refine eM ?_
  refine eN ?_
  refine eF fo54_10 ?_
  refine eP (fun H hH => yv_buildSlice (ps := [(0, _), (1, _), (2, _), (3, _), (4, _), (5, _), (6, _), (7, _), (8, _), (9, _), (10, _)]) (rows := [[.pt 4 v12 0 0], [.pt 4 v12 0 1], [.pt 4 v12 0 2], [.pt 4 v12 0 3], [.pt 4 v12 0 4], [.pt 4 v12 0 5], [.pt 4 v12 0 6], [.pt 4 v12 0 7], [.pt 4 v12 0 8], [.pt 4 v12 0 9], [.pt 4 v12 0 10]]) rfl Tryz.underlying177 bz176 (.cons rfl (.cons rfl (.cons rfl (.cons rfl (.cons rfl (.cons rfl (.cons rfl (.cons rfl (.cons rfl (.cons rfl (.cons rfl .nil))))))))))) (by kernel_rfl) rfl rfl rfl) ?_
  refine eA ?_
  refine de_nil (hK _ ?_)
  obtain rfl := nxt_e h2
  refine w_ret (hret _ _ (hk [(1, ⟨32, 10, true, true, v5, [(GState.av a1)]⟩), (2, ⟨54, 11, true, true, v6, [[int a4.Open, int a4.Bought, int a4.Landed, int a4.Arrived, int a4.Returned, int a4.Sold, int a4.Shipped, int a4.SentBack, int a4.Scrapped, int a4.Lost, int a4.Revalued]]⟩), (3, ⟨32, 10, true, true, v7, [[int 0, int 0, .sc (.slice none 0 0), .sc (.slice none 0 0), .sc (.slice none 0 0), .sc (.slice none 0 0), .sc (.slice none 0 0), .sc (.slice none 0 0), .sc (.slice none 0 0), int 0]]⟩), (4, ⟨54, 11, true, true, v12, [[int x11.Open, int x11.Bought, int x11.Landed, int x11.Arrived, int x11.Returned, int x11.Sold, int x11.Shipped, int x11.SentBack, int x11.Scrapped, int x11.Lost, int x11.Revalued]]⟩)]) (.tmp rfl .nil) (HK.le ⟨rfl, rfl, rfl, rfl, trivial⟩) ?_)
  exact ⟨(), (), rfl, rfl, rfl⟩
  rintro y _ ⟨_, _, rfl, hc, rfl⟩
  subst hc
  refine tr tbk 1 (.mk ?_)
  refine sY (yv_indexAddr (j := 0) rfl Tryz.underlying177 sh176 rfl rfl rfl (.list rfl)) ?_
  refine tr tbk 9 (.mk ?_)
  obtain ⟨x18, e18, h1⟩ := bind_e h1
  refine sC cal136 (d_money_Add_c e18) ?_
  refine tr tbk 10 (.mk ?_)
  refine nb tbk h1 fun x19 h1 => ?_
  refine tr tbk 1 (.mk ?_)
  cases x19
  replace h1 := cf h1
  refine tc tbk 6 (.mk ?_)
  refine sS ⟨54, 11, true, true, v12, [[int x18.1, int x11.Bought, int x11.Landed, int x11.Arrived, int x11.Returned, int x11.Sold, int x11.Shipped, int x11.SentBack, int x11.Scrapped, int x11.Lost, int x11.Revalued]]⟩ sh3 ?_
  refine tr tbk 3 (.mk ?_)
  refine sY (yv_add (r := 1) rfl rfl rfl (by decide)) ?_
  refine tr tbk 5 (.mk ?_)
  refine sY (yv_to (y := boo true) (yv_lss rfl rfl rfl) (congrArg boo (by decide))) ?_
  refine tr tbk 9 (.mk ?_)
  obtain ⟨x20, e20, h1⟩ := bind_e h1
  refine sY (yv_ixT rfl Tryz.underlying23 sh3 rfl rfl e20) ?_
  refine tr tbk 6 (.mk ?_)
  obtain ⟨j21, h2, h1⟩ := bind_e h1
  refine rse (Out := fun y H' => (∃ (a : Unit) (k : Unit), a = j21 ∧ y = .list 1 [[.pt 4 v12 0 0], [.pt 4 v12 0 1], [.pt 4 v12 0 2], [.pt 4 v12 0 3], [.pt 4 v12 0 4], [.pt 4 v12 0 5], [.pt 4 v12 0 6], [.pt 4 v12 0 7], [.pt 4 v12 0 8], [.pt 4 v12 0 9], [.pt 4 v12 0 10]] ∧ H' = hk [(1, ⟨32, 10, true, true, v5, [(GState.av a1)]⟩), (2, ⟨54, 11, true, true, v6, [[int a4.Open, int a4.Bought, int a4.Landed, int a4.Arrived, int a4.Returned, int a4.Sold, int a4.Shipped, int a4.SentBack, int a4.Scrapped, int a4.Lost, int a4.Revalued]]⟩), (3, ⟨32, 10, true, true, v7, [[int 0, int 0, .sc (.slice none 0 0), .sc (.slice none 0 0), .sc (.slice none 0 0), .sc (.slice none 0 0), .sc (.slice none 0 0), .sc (.slice none 0 0), .sc (.slice none 0 0), int 0]]⟩), (4, ⟨54, 11, true, true, v12, [[int x18.1, int x11.Bought, int x11.Landed, int x11.Arrived, int x11.Returned, int x11.Sold, int x11.Shipped, int x11.SentBack, int x11.Scrapped, int x11.Lost, int x11.Revalued]]⟩)])) rfl rfl rfl (yl_call rfl rfl (.cons rfl .nil) cal135 ?_) ?_
  refine pcw (c := _) Tryz.func135 rfl rfl ?_; intro Q hret hnorm
  refine tc tbk 5 (.mk ?_)
  refine c_drawE [0, 1, 3, 0, 8, 24, 0, 64, 192, 0, 512, 1536, 0, 4096, 12288, 0, 32768, 98304, 0, 262144, 786432, 0, 2097152, 6291456, 0, 16777216, 50331648, 0, 134217728, 402653184, 0, 1073741824, 3221225472, 8589934591, 17179869183] (rl [(1, [4]), (2, [4]), (4, [4]), (5, [4]), (7, [4]), (8, [4]), (10, [4]), (11, [4]), (13, [4]), (14, [4]), (16, [4]), (17, [4]), (19, [4]), (20, [4]), (22, [4]), (23, [4]), (25, [4]), (26, [4]), (28, [4]), (29, [4]), (31, [4]), (32, [4])] []) (fun i => [4]) (fun i => true) [0, 1, 2, 3, 4, 5, 6, 7, 8, 9, 10, 11, 12, 13, 14, 15, 16, 17, 18, 19, 20, 21, 22, 23, 24, 25, 26, 27, 28, 29, 30, 31, 32, 33, 34] mixed (by kernel_rfl) ?_; intro K hK
  refine eM ?_
  refine eN ?_
  refine eF fo54_0 ?_
  refine eM ?_
  refine eN ?_
  refine eF fo54_1 ?_
  refine eM ?_
  refine eN ?_
  refine eF fo54_2 ?_
  refine eM ?_
  refine eN ?_
  refine eF fo54_3 ?_
  refine eM ?_
  refine eN ?_
  refine eF fo54_4 ?_
  refine eM ?_
  refine eN ?_
  refine eF fo54_5 ?_
  refine eM ?_
  refine eN ?_
  refine eF fo54_6 ?_
  refine eM ?_
  refine eN ?_
  refine eF fo54_7 ?_
  refine eM ?_
  refine eN ?_
  refine eF fo54_8 ?_
  refine eM ?_
  refine eN ?_
  refine eF fo54_9 ?_
  refine eM ?_
  refine eN ?_
  refine eF fo54_10 ?_
  refine eP (fun H hH => yv_buildSlice (ps := [(0, _), (1, _), (2, _), (3, _), (4, _), (5, _), (6, _), (7, _), (8, _), (9, _), (10, _)]) (rows := [[.pt 4 v12 0 0], [.pt 4 v12 0 1], [.pt 4 v12 0 2], [.pt 4 v12 0 3], [.pt 4 v12 0 4], [.pt 4 v12 0 5], [.pt 4 v12 0 6], [.pt 4 v12 0 7], [.pt 4 v12 0 8], [.pt 4 v12 0 9], [.pt 4 v12 0 10]]) rfl Tryz.underlying177 bz176 (.cons rfl (.cons rfl (.cons rfl (.cons rfl (.cons rfl (.cons rfl (.cons rfl (.cons rfl (.cons rfl (.cons rfl (.cons rfl .nil))))))))))) (by kernel_rfl) rfl rfl rfl) ?_
  refine eA ?_
  refine de_nil (hK _ ?_)
  obtain rfl := nxt_e h2
  refine w_ret (hret _ _ (hk [(1, ⟨32, 10, true, true, v5, [(GState.av a1)]⟩), (2, ⟨54, 11, true, true, v6, [[int a4.Open, int a4.Bought, int a4.Landed, int a4.Arrived, int a4.Returned, int a4.Sold, int a4.Shipped, int a4.SentBack, int a4.Scrapped, int a4.Lost, int a4.Revalued]]⟩), (3, ⟨32, 10, true, true, v7, [[int 0, int 0, .sc (.slice none 0 0), .sc (.slice none 0 0), .sc (.slice none 0 0), .sc (.slice none 0 0), .sc (.slice none 0 0), .sc (.slice none 0 0), .sc (.slice none 0 0), int 0]]⟩), (4, ⟨54, 11, true, true, v12, [[int x18.1, int x11.Bought, int x11.Landed, int x11.Arrived, int x11.Returned, int x11.Sold, int x11.Shipped, int x11.SentBack, int x11.Scrapped, int x11.Lost, int x11.Revalued]]⟩)]) (.tmp rfl .nil) (HK.le ⟨rfl, rfl, rfl, rfl, trivial⟩) ?_)
  exact ⟨(), (), rfl, rfl, rfl⟩
  rintro y _ ⟨_, _, rfl, hc, rfl⟩
  subst hc
  refine tr tbk 1 (.mk ?_)
  refine sY (yv_indexAddr (j := 1) rfl Tryz.underlying177 sh176 rfl rfl rfl (.list rfl)) ?_
  refine tr tbk 9 (.mk ?_)
  obtain ⟨x22, e22, h1⟩ := bind_e h1
  refine sC cal136 (d_money_Add_c e22) ?_
  refine tr tbk 10 (.mk ?_)
  refine nb tbk h1 fun x23 h1 => ?_
  refine tr tbk 1 (.mk ?_)
  cases x23
  replace h1 := cf h1
  refine tc tbk 6 (.mk ?_)
  refine sS ⟨54, 11, true, true, v12, [[int x18.1, int x22.1, int x11.Landed, int x11.Arrived, int x11.Returned, int x11.Sold, int x11.Shipped, int x11.SentBack, int x11.Scrapped, int x11.Lost, int x11.Revalued]]⟩ sh3 ?_
  refine tr tbk 3 (.mk ?_)
  refine sY (yv_add (r := 2) rfl rfl rfl (by decide)) ?_
  refine tr tbk 5 (.mk ?_)
  refine sY (yv_to (y := boo true) (yv_lss rfl rfl rfl) (congrArg boo (by decide))) ?_
  refine tr tbk 9 (.mk ?_)
  obtain ⟨x24, e24, h1⟩ := bind_e h1
  refine sY (yv_ixT rfl Tryz.underlying23 sh3 rfl rfl e24) ?_
  refine tr tbk 6 (.mk ?_)
  obtain ⟨j25, h2, h1⟩ := bind_e h1
  refine rse (Out := fun y H' => (∃ (a : Unit) (k : Unit), a = j25 ∧ y = .list 1 [[.pt 4 v12 0 0], [.pt 4 v12 0 1], [.pt 4 v12 0 2], [.pt 4 v12 0 3], [.pt 4 v12 0 4], [.pt 4 v12 0 5], [.pt 4 v12 0 6], [.pt 4 v12 0 7], [.pt 4 v12 0 8], [.pt 4 v12 0 9], [.pt 4 v12 0 10]] ∧ H' = hk [(1, ⟨32, 10, true, true, v5, [(GState.av a1)]⟩), (2, ⟨54, 11, true, true, v6, [[int a4.Open, int a4.Bought, int a4.Landed, int a4.Arrived, int a4.Returned, int a4.Sold, int a4.Shipped, int a4.SentBack, int a4.Scrapped, int a4.Lost, int a4.Revalued]]⟩), (3, ⟨32, 10, true, true, v7, [[int 0, int 0, .sc (.slice none 0 0), .sc (.slice none 0 0), .sc (.slice none 0 0), .sc (.slice none 0 0), .sc (.slice none 0 0), .sc (.slice none 0 0), .sc (.slice none 0 0), int 0]]⟩), (4, ⟨54, 11, true, true, v12, [[int x18.1, int x22.1, int x11.Landed, int x11.Arrived, int x11.Returned, int x11.Sold, int x11.Shipped, int x11.SentBack, int x11.Scrapped, int x11.Lost, int x11.Revalued]]⟩)])) rfl rfl rfl (yl_call rfl rfl (.cons rfl .nil) cal135 ?_) ?_
  refine pcw (c := _) Tryz.func135 rfl rfl ?_; intro Q hret hnorm
  refine tc tbk 5 (.mk ?_)
  refine c_drawE [0, 1, 3, 0, 8, 24, 0, 64, 192, 0, 512, 1536, 0, 4096, 12288, 0, 32768, 98304, 0, 262144, 786432, 0, 2097152, 6291456, 0, 16777216, 50331648, 0, 134217728, 402653184, 0, 1073741824, 3221225472, 8589934591, 17179869183] (rl [(1, [4]), (2, [4]), (4, [4]), (5, [4]), (7, [4]), (8, [4]), (10, [4]), (11, [4]), (13, [4]), (14, [4]), (16, [4]), (17, [4]), (19, [4]), (20, [4]), (22, [4]), (23, [4]), (25, [4]), (26, [4]), (28, [4]), (29, [4]), (31, [4]), (32, [4])] []) (fun i => [4]) (fun i => true) [0, 1, 2, 3, 4, 5, 6, 7, 8, 9, 10, 11, 12, 13, 14, 15, 16, 17, 18, 19, 20, 21, 22, 23, 24, 25, 26, 27, 28, 29, 30, 31, 32, 33, 34] mixed (by kernel_rfl) ?_; intro K hK
  refine eM ?_
  refine eN ?_
  refine eF fo54_0 ?_
  refine eM ?_
  refine eN ?_
  refine eF fo54_1 ?_
  refine eM ?_
  refine eN ?_
  refine eF fo54_2 ?_
  refine eM ?_
  refine eN ?_
  refine eF fo54_3 ?_
  refine eM ?_
  refine eN ?_
  refine eF fo54_4 ?_
  refine eM ?_
  refine eN ?_
  refine eF fo54_5 ?_
  refine eM ?_
  refine eN ?_
  refine eF fo54_6 ?_
  refine eM ?_
  refine eN ?_
  refine eF fo54_7 ?_
  refine eM ?_
  refine eN ?_
  refine eF fo54_8 ?_
  refine eM ?_
  refine eN ?_
  refine eF fo54_9 ?_
  refine eM ?_
  refine eN ?_
  refine eF fo54_10 ?_
  refine eP (fun H hH => yv_buildSlice (ps := [(0, _), (1, _), (2, _), (3, _), (4, _), (5, _), (6, _), (7, _), (8, _), (9, _), (10, _)]) (rows := [[.pt 4 v12 0 0], [.pt 4 v12 0 1], [.pt 4 v12 0 2], [.pt 4 v12 0 3], [.pt 4 v12 0 4], [.pt 4 v12 0 5], [.pt 4 v12 0 6], [.pt 4 v12 0 7], [.pt 4 v12 0 8], [.pt 4 v12 0 9], [.pt 4 v12 0 10]]) rfl Tryz.underlying177 bz176 (.cons rfl (.cons rfl (.cons rfl (.cons rfl (.cons rfl (.cons rfl (.cons rfl (.cons rfl (.cons rfl (.cons rfl (.cons rfl .nil))))))))))) (by kernel_rfl) rfl rfl rfl) ?_
  refine eA ?_
  refine de_nil (hK _ ?_)
  obtain rfl := nxt_e h2
  refine w_ret (hret _ _ (hk [(1, ⟨32, 10, true, true, v5, [(GState.av a1)]⟩), (2, ⟨54, 11, true, true, v6, [[int a4.Open, int a4.Bought, int a4.Landed, int a4.Arrived, int a4.Returned, int a4.Sold, int a4.Shipped, int a4.SentBack, int a4.Scrapped, int a4.Lost, int a4.Revalued]]⟩), (3, ⟨32, 10, true, true, v7, [[int 0, int 0, .sc (.slice none 0 0), .sc (.slice none 0 0), .sc (.slice none 0 0), .sc (.slice none 0 0), .sc (.slice none 0 0), .sc (.slice none 0 0), .sc (.slice none 0 0), int 0]]⟩), (4, ⟨54, 11, true, true, v12, [[int x18.1, int x22.1, int x11.Landed, int x11.Arrived, int x11.Returned, int x11.Sold, int x11.Shipped, int x11.SentBack, int x11.Scrapped, int x11.Lost, int x11.Revalued]]⟩)]) (.tmp rfl .nil) (HK.le ⟨rfl, rfl, rfl, rfl, trivial⟩) ?_)
  exact ⟨(), (), rfl, rfl, rfl⟩
  rintro y _ ⟨_, _, rfl, hc, rfl⟩
  subst hc
  refine tr tbk 1 (.mk ?_)
  refine sY (yv_indexAddr (j := 2) rfl Tryz.underlying177 sh176 rfl rfl rfl (.list rfl)) ?_
  refine tr tbk 9 (.mk ?_)
  obtain ⟨x26, e26, h1⟩ := bind_e h1
  refine sC cal136 (d_money_Add_c e26) ?_
  refine tr tbk 10 (.mk ?_)
  refine nb tbk h1 fun x27 h1 => ?_
  refine tr tbk 1 (.mk ?_)
  cases x27
  replace h1 := cf h1
  refine tc tbk 6 (.mk ?_)
  refine sS ⟨54, 11, true, true, v12, [[int x18.1, int x22.1, int x26.1, int x11.Arrived, int x11.Returned, int x11.Sold, int x11.Shipped, int x11.SentBack, int x11.Scrapped, int x11.Lost, int x11.Revalued]]⟩ sh3 ?_
  refine tr tbk 3 (.mk ?_)
  refine sY (yv_add (r := 3) rfl rfl rfl (by decide)) ?_
  refine tr tbk 5 (.mk ?_)
  refine sY (yv_to (y := boo true) (yv_lss rfl rfl rfl) (congrArg boo (by decide))) ?_
  refine tr tbk 9 (.mk ?_)
  obtain ⟨x28, e28, h1⟩ := bind_e h1
  refine sY (yv_ixT rfl Tryz.underlying23 sh3 rfl rfl e28) ?_
  refine tr tbk 6 (.mk ?_)
  obtain ⟨j29, h2, h1⟩ := bind_e h1
  refine rse (Out := fun y H' => (∃ (a : Unit) (k : Unit), a = j29 ∧ y = .list 1 [[.pt 4 v12 0 0], [.pt 4 v12 0 1], [.pt 4 v12 0 2], [.pt 4 v12 0 3], [.pt 4 v12 0 4], [.pt 4 v12 0 5], [.pt 4 v12 0 6], [.pt 4 v12 0 7], [.pt 4 v12 0 8], [.pt 4 v12 0 9], [.pt 4 v12 0 10]] ∧ H' = hk [(1, ⟨32, 10, true, true, v5, [(GState.av a1)]⟩), (2, ⟨54, 11, true, true, v6, [[int a4.Open, int a4.Bought, int a4.Landed, int a4.Arrived, int a4.Returned, int a4.Sold, int a4.Shipped, int a4.SentBack, int a4.Scrapped, int a4.Lost, int a4.Revalued]]⟩), (3, ⟨32, 10, true, true, v7, [[int 0, int 0, .sc (.slice none 0 0), .sc (.slice none 0 0), .sc (.slice none 0 0), .sc (.slice none 0 0), .sc (.slice none 0 0), .sc (.slice none 0 0), .sc (.slice none 0 0), int 0]]⟩), (4, ⟨54, 11, true, true, v12, [[int x18.1, int x22.1, int x26.1, int x11.Arrived, int x11.Returned, int x11.Sold, int x11.Shipped, int x11.SentBack, int x11.Scrapped, int x11.Lost, int x11.Revalued]]⟩)])) rfl rfl rfl (yl_call rfl rfl (.cons rfl .nil) cal135 ?_) ?_
  refine pcw (c := _) Tryz.func135 rfl rfl ?_; intro Q hret hnorm
  refine tc tbk 5 (.mk ?_)
  refine c_drawE [0, 1, 3, 0, 8, 24, 0, 64, 192, 0, 512, 1536, 0, 4096, 12288, 0, 32768, 98304, 0, 262144, 786432, 0, 2097152, 6291456, 0, 16777216, 50331648, 0, 134217728, 402653184, 0, 1073741824, 3221225472, 8589934591, 17179869183] (rl [(1, [4]), (2, [4]), (4, [4]), (5, [4]), (7, [4]), (8, [4]), (10, [4]), (11, [4]), (13, [4]), (14, [4]), (16, [4]), (17, [4]), (19, [4]), (20, [4]), (22, [4]), (23, [4]), (25, [4]), (26, [4]), (28, [4]), (29, [4]), (31, [4]), (32, [4])] []) (fun i => [4]) (fun i => true) [0, 1, 2, 3, 4, 5, 6, 7, 8, 9, 10, 11, 12, 13, 14, 15, 16, 17, 18, 19, 20, 21, 22, 23, 24, 25, 26, 27, 28, 29, 30, 31, 32, 33, 34] mixed (by kernel_rfl) ?_; intro K hK
  refine eM ?_
  refine eN ?_
  refine eF fo54_0 ?_
  refine eM ?_
  refine eN ?_
  refine eF fo54_1 ?_
  refine eM ?_
  refine eN ?_
  refine eF fo54_2 ?_
  refine eM ?_
  refine eN ?_
  refine eF fo54_3 ?_
  refine eM ?_
  refine eN ?_
  refine eF fo54_4 ?_
  refine eM ?_
  refine eN ?_
  refine eF fo54_5 ?_
  refine eM ?_
  refine eN ?_
  refine eF fo54_6 ?_
  refine eM ?_
  refine eN ?_
  refine eF fo54_7 ?_
  refine eM ?_
  refine eN ?_
  refine eF fo54_8 ?_
  refine eM ?_
  refine eN ?_
  refine eF fo54_9 ?_
  refine eM ?_
  refine eN ?_
  refine eF fo54_10 ?_
  refine eP (fun H hH => yv_buildSlice (ps := [(0, _), (1, _), (2, _), (3, _), (4, _), (5, _), (6, _), (7, _), (8, _), (9, _), (10, _)]) (rows := [[.pt 4 v12 0 0], [.pt 4 v12 0 1], [.pt 4 v12 0 2], [.pt 4 v12 0 3], [.pt 4 v12 0 4], [.pt 4 v12 0 5], [.pt 4 v12 0 6], [.pt 4 v12 0 7], [.pt 4 v12 0 8], [.pt 4 v12 0 9], [.pt 4 v12 0 10]]) rfl Tryz.underlying177 bz176 (.cons rfl (.cons rfl (.cons rfl (.cons rfl (.cons rfl (.cons rfl (.cons rfl (.cons rfl (.cons rfl (.cons rfl (.cons rfl .nil))))))))))) (by kernel_rfl) rfl rfl rfl) ?_
  refine eA ?_
  refine de_nil (hK _ ?_)
  obtain rfl := nxt_e h2
  refine w_ret (hret _ _ (hk [(1, ⟨32, 10, true, true, v5, [(GState.av a1)]⟩), (2, ⟨54, 11, true, true, v6, [[int a4.Open, int a4.Bought, int a4.Landed, int a4.Arrived, int a4.Returned, int a4.Sold, int a4.Shipped, int a4.SentBack, int a4.Scrapped, int a4.Lost, int a4.Revalued]]⟩), (3, ⟨32, 10, true, true, v7, [[int 0, int 0, .sc (.slice none 0 0), .sc (.slice none 0 0), .sc (.slice none 0 0), .sc (.slice none 0 0), .sc (.slice none 0 0), .sc (.slice none 0 0), .sc (.slice none 0 0), int 0]]⟩), (4, ⟨54, 11, true, true, v12, [[int x18.1, int x22.1, int x26.1, int x11.Arrived, int x11.Returned, int x11.Sold, int x11.Shipped, int x11.SentBack, int x11.Scrapped, int x11.Lost, int x11.Revalued]]⟩)]) (.tmp rfl .nil) (HK.le ⟨rfl, rfl, rfl, rfl, trivial⟩) ?_)
  exact ⟨(), (), rfl, rfl, rfl⟩
  rintro y _ ⟨_, _, rfl, hc, rfl⟩
  subst hc
  refine tr tbk 1 (.mk ?_)
  refine sY (yv_indexAddr (j := 3) rfl Tryz.underlying177 sh176 rfl rfl rfl (.list rfl)) ?_
  refine tr tbk 9 (.mk ?_)
  obtain ⟨x30, e30, h1⟩ := bind_e h1
  refine sC cal136 (d_money_Add_c e30) ?_
  refine tr tbk 10 (.mk ?_)
  refine nb tbk h1 fun x31 h1 => ?_
  refine tr tbk 1 (.mk ?_)
  cases x31
  replace h1 := cf h1
  refine tc tbk 6 (.mk ?_)
  refine sS ⟨54, 11, true, true, v12, [[int x18.1, int x22.1, int x26.1, int x30.1, int x11.Returned, int x11.Sold, int x11.Shipped, int x11.SentBack, int x11.Scrapped, int x11.Lost, int x11.Revalued]]⟩ sh3 ?_
  refine tr tbk 3 (.mk ?_)
  refine sY (yv_add (r := 4) rfl rfl rfl (by decide)) ?_
  refine tr tbk 5 (.mk ?_)
  refine sY (yv_to (y := boo true) (yv_lss rfl rfl rfl) (congrArg boo (by decide))) ?_
  refine tr tbk 9 (.mk ?_)
  obtain ⟨x32, e32, h1⟩ := bind_e h1
  refine sY (yv_ixT rfl Tryz.underlying23 sh3 rfl rfl e32) ?_
  refine tr tbk 6 (.mk ?_)
  obtain ⟨j33, h2, h1⟩ := bind_e h1
  refine rse (Out := fun y H' => (∃ (a : Unit) (k : Unit), a = j33 ∧ y = .list 1 [[.pt 4 v12 0 0], [.pt 4 v12 0 1], [.pt 4 v12 0 2], [.pt 4 v12 0 3], [.pt 4 v12 0 4], [.pt 4 v12 0 5], [.pt 4 v12 0 6], [.pt 4 v12 0 7], [.pt 4 v12 0 8], [.pt 4 v12 0 9], [.pt 4 v12 0 10]] ∧ H' = hk [(1, ⟨32, 10, true, true, v5, [(GState.av a1)]⟩), (2, ⟨54, 11, true, true, v6, [[int a4.Open, int a4.Bought, int a4.Landed, int a4.Arrived, int a4.Returned, int a4.Sold, int a4.Shipped, int a4.SentBack, int a4.Scrapped, int a4.Lost, int a4.Revalued]]⟩), (3, ⟨32, 10, true, true, v7, [[int 0, int 0, .sc (.slice none 0 0), .sc (.slice none 0 0), .sc (.slice none 0 0), .sc (.slice none 0 0), .sc (.slice none 0 0), .sc (.slice none 0 0), .sc (.slice none 0 0), int 0]]⟩), (4, ⟨54, 11, true, true, v12, [[int x18.1, int x22.1, int x26.1, int x30.1, int x11.Returned, int x11.Sold, int x11.Shipped, int x11.SentBack, int x11.Scrapped, int x11.Lost, int x11.Revalued]]⟩)])) rfl rfl rfl (yl_call rfl rfl (.cons rfl .nil) cal135 ?_) ?_
  refine pcw (c := _) Tryz.func135 rfl rfl ?_; intro Q hret hnorm
  refine tc tbk 5 (.mk ?_)
  refine c_drawE [0, 1, 3, 0, 8, 24, 0, 64, 192, 0, 512, 1536, 0, 4096, 12288, 0, 32768, 98304, 0, 262144, 786432, 0, 2097152, 6291456, 0, 16777216, 50331648, 0, 134217728, 402653184, 0, 1073741824, 3221225472, 8589934591, 17179869183] (rl [(1, [4]), (2, [4]), (4, [4]), (5, [4]), (7, [4]), (8, [4]), (10, [4]), (11, [4]), (13, [4]), (14, [4]), (16, [4]), (17, [4]), (19, [4]), (20, [4]), (22, [4]), (23, [4]), (25, [4]), (26, [4]), (28, [4]), (29, [4]), (31, [4]), (32, [4])] []) (fun i => [4]) (fun i => true) [0, 1, 2, 3, 4, 5, 6, 7, 8, 9, 10, 11, 12, 13, 14, 15, 16, 17, 18, 19, 20, 21, 22, 23, 24, 25, 26, 27, 28, 29, 30, 31, 32, 33, 34] mixed (by kernel_rfl) ?_; intro K hK
  refine eM ?_
  refine eN ?_
  refine eF fo54_0 ?_
  refine eM ?_
  refine eN ?_
  refine eF fo54_1 ?_
  refine eM ?_
  refine eN ?_
  refine eF fo54_2 ?_
  refine eM ?_
  refine eN ?_
  refine eF fo54_3 ?_
  refine eM ?_
  refine eN ?_
  refine eF fo54_4 ?_
  refine eM ?_
  refine eN ?_
  refine eF fo54_5 ?_
  refine eM ?_
  refine eN ?_
  refine eF fo54_6 ?_
  refine eM ?_
  refine eN ?_
  refine eF fo54_7 ?_
  refine eM ?_
  refine eN ?_
  refine eF fo54_8 ?_
  refine eM ?_
  refine eN ?_
  refine eF fo54_9 ?_
  refine eM ?_
  refine eN ?_
  refine eF fo54_10 ?_
  refine eP (fun H hH => yv_buildSlice (ps := [(0, _), (1, _), (2, _), (3, _), (4, _), (5, _), (6, _), (7, _), (8, _), (9, _), (10, _)]) (rows := [[.pt 4 v12 0 0], [.pt 4 v12 0 1], [.pt 4 v12 0 2], [.pt 4 v12 0 3], [.pt 4 v12 0 4], [.pt 4 v12 0 5], [.pt 4 v12 0 6], [.pt 4 v12 0 7], [.pt 4 v12 0 8], [.pt 4 v12 0 9], [.pt 4 v12 0 10]]) rfl Tryz.underlying177 bz176 (.cons rfl (.cons rfl (.cons rfl (.cons rfl (.cons rfl (.cons rfl (.cons rfl (.cons rfl (.cons rfl (.cons rfl (.cons rfl .nil))))))))))) (by kernel_rfl) rfl rfl rfl) ?_
  refine eA ?_
  refine de_nil (hK _ ?_)
  obtain rfl := nxt_e h2
  refine w_ret (hret _ _ (hk [(1, ⟨32, 10, true, true, v5, [(GState.av a1)]⟩), (2, ⟨54, 11, true, true, v6, [[int a4.Open, int a4.Bought, int a4.Landed, int a4.Arrived, int a4.Returned, int a4.Sold, int a4.Shipped, int a4.SentBack, int a4.Scrapped, int a4.Lost, int a4.Revalued]]⟩), (3, ⟨32, 10, true, true, v7, [[int 0, int 0, .sc (.slice none 0 0), .sc (.slice none 0 0), .sc (.slice none 0 0), .sc (.slice none 0 0), .sc (.slice none 0 0), .sc (.slice none 0 0), .sc (.slice none 0 0), int 0]]⟩), (4, ⟨54, 11, true, true, v12, [[int x18.1, int x22.1, int x26.1, int x30.1, int x11.Returned, int x11.Sold, int x11.Shipped, int x11.SentBack, int x11.Scrapped, int x11.Lost, int x11.Revalued]]⟩)]) (.tmp rfl .nil) (HK.le ⟨rfl, rfl, rfl, rfl, trivial⟩) ?_)
  exact ⟨(), (), rfl, rfl, rfl⟩
  rintro y _ ⟨_, _, rfl, hc, rfl⟩
  subst hc
  refine tr tbk 1 (.mk ?_)
  refine sY (yv_indexAddr (j := 4) rfl Tryz.underlying177 sh176 rfl rfl rfl (.list rfl)) ?_
  refine tr tbk 9 (.mk ?_)
  obtain ⟨x34, e34, h1⟩ := bind_e h1
  refine sC cal136 (d_money_Add_c e34) ?_
  refine tr tbk 10 (.mk ?_)
  refine nb tbk h1 fun x35 h1 => ?_
  refine tr tbk 1 (.mk ?_)
  cases x35
  replace h1 := cf h1
  refine tc tbk 6 (.mk ?_)
  refine sS ⟨54, 11, true, true, v12, [[int x18.1, int x22.1, int x26.1, int x30.1, int x34.1, int x11.Sold, int x11.Shipped, int x11.SentBack, int x11.Scrapped, int x11.Lost, int x11.Revalued]]⟩ sh3 ?_
  refine tr tbk 3 (.mk ?_)
  refine sY (yv_add (r := 5) rfl rfl rfl (by decide)) ?_
  refine tr tbk 5 (.mk ?_)
  refine sY (yv_to (y := boo true) (yv_lss rfl rfl rfl) (congrArg boo (by decide))) ?_
  refine tr tbk 9 (.mk ?_)
  obtain ⟨x36, e36, h1⟩ := bind_e h1
  refine sY (yv_ixT rfl Tryz.underlying23 sh3 rfl rfl e36) ?_
  refine tr tbk 6 (.mk ?_)
  obtain ⟨j37, h2, h1⟩ := bind_e h1
  refine rse (Out := fun y H' => (∃ (a : Unit) (k : Unit), a = j37 ∧ y = .list 1 [[.pt 4 v12 0 0], [.pt 4 v12 0 1], [.pt 4 v12 0 2], [.pt 4 v12 0 3], [.pt 4 v12 0 4], [.pt 4 v12 0 5], [.pt 4 v12 0 6], [.pt 4 v12 0 7], [.pt 4 v12 0 8], [.pt 4 v12 0 9], [.pt 4 v12 0 10]] ∧ H' = hk [(1, ⟨32, 10, true, true, v5, [(GState.av a1)]⟩), (2, ⟨54, 11, true, true, v6, [[int a4.Open, int a4.Bought, int a4.Landed, int a4.Arrived, int a4.Returned, int a4.Sold, int a4.Shipped, int a4.SentBack, int a4.Scrapped, int a4.Lost, int a4.Revalued]]⟩), (3, ⟨32, 10, true, true, v7, [[int 0, int 0, .sc (.slice none 0 0), .sc (.slice none 0 0), .sc (.slice none 0 0), .sc (.slice none 0 0), .sc (.slice none 0 0), .sc (.slice none 0 0), .sc (.slice none 0 0), int 0]]⟩), (4, ⟨54, 11, true, true, v12, [[int x18.1, int x22.1, int x26.1, int x30.1, int x34.1, int x11.Sold, int x11.Shipped, int x11.SentBack, int x11.Scrapped, int x11.Lost, int x11.Revalued]]⟩)])) rfl rfl rfl (yl_call rfl rfl (.cons rfl .nil) cal135 ?_) ?_
  refine pcw (c := _) Tryz.func135 rfl rfl ?_; intro Q hret hnorm
  refine tc tbk 5 (.mk ?_)
  refine c_drawE [0, 1, 3, 0, 8, 24, 0, 64, 192, 0, 512, 1536, 0, 4096, 12288, 0, 32768, 98304, 0, 262144, 786432, 0, 2097152, 6291456, 0, 16777216, 50331648, 0, 134217728, 402653184, 0, 1073741824, 3221225472, 8589934591, 17179869183] (rl [(1, [4]), (2, [4]), (4, [4]), (5, [4]), (7, [4]), (8, [4]), (10, [4]), (11, [4]), (13, [4]), (14, [4]), (16, [4]), (17, [4]), (19, [4]), (20, [4]), (22, [4]), (23, [4]), (25, [4]), (26, [4]), (28, [4]), (29, [4]), (31, [4]), (32, [4])] []) (fun i => [4]) (fun i => true) [0, 1, 2, 3, 4, 5, 6, 7, 8, 9, 10, 11, 12, 13, 14, 15, 16, 17, 18, 19, 20, 21, 22, 23, 24, 25, 26, 27, 28, 29, 30, 31, 32, 33, 34] mixed (by kernel_rfl) ?_; intro K hK
  refine eM ?_
  refine eN ?_
  refine eF fo54_0 ?_
  refine eM ?_
  refine eN ?_
  refine eF fo54_1 ?_
  refine eM ?_
  refine eN ?_
  refine eF fo54_2 ?_
  refine eM ?_
  refine eN ?_
  refine eF fo54_3 ?_
  refine eM ?_
  refine eN ?_
  refine eF fo54_4 ?_
  refine eM ?_
  refine eN ?_
  refine eF fo54_5 ?_
  refine eM ?_
  refine eN ?_
  refine eF fo54_6 ?_
  refine eM ?_
  refine eN ?_
  refine eF fo54_7 ?_
  refine eM ?_
  refine eN ?_
  refine eF fo54_8 ?_
  refine eM ?_
  refine eN ?_
  refine eF fo54_9 ?_
  refine eM ?_
  refine eN ?_
  refine eF fo54_10 ?_
  refine eP (fun H hH => yv_buildSlice (ps := [(0, _), (1, _), (2, _), (3, _), (4, _), (5, _), (6, _), (7, _), (8, _), (9, _), (10, _)]) (rows := [[.pt 4 v12 0 0], [.pt 4 v12 0 1], [.pt 4 v12 0 2], [.pt 4 v12 0 3], [.pt 4 v12 0 4], [.pt 4 v12 0 5], [.pt 4 v12 0 6], [.pt 4 v12 0 7], [.pt 4 v12 0 8], [.pt 4 v12 0 9], [.pt 4 v12 0 10]]) rfl Tryz.underlying177 bz176 (.cons rfl (.cons rfl (.cons rfl (.cons rfl (.cons rfl (.cons rfl (.cons rfl (.cons rfl (.cons rfl (.cons rfl (.cons rfl .nil))))))))))) (by kernel_rfl) rfl rfl rfl) ?_
  refine eA ?_
  refine de_nil (hK _ ?_)
  obtain rfl := nxt_e h2
  refine w_ret (hret _ _ (hk [(1, ⟨32, 10, true, true, v5, [(GState.av a1)]⟩), (2, ⟨54, 11, true, true, v6, [[int a4.Open, int a4.Bought, int a4.Landed, int a4.Arrived, int a4.Returned, int a4.Sold, int a4.Shipped, int a4.SentBack, int a4.Scrapped, int a4.Lost, int a4.Revalued]]⟩), (3, ⟨32, 10, true, true, v7, [[int 0, int 0, .sc (.slice none 0 0), .sc (.slice none 0 0), .sc (.slice none 0 0), .sc (.slice none 0 0), .sc (.slice none 0 0), .sc (.slice none 0 0), .sc (.slice none 0 0), int 0]]⟩), (4, ⟨54, 11, true, true, v12, [[int x18.1, int x22.1, int x26.1, int x30.1, int x34.1, int x11.Sold, int x11.Shipped, int x11.SentBack, int x11.Scrapped, int x11.Lost, int x11.Revalued]]⟩)]) (.tmp rfl .nil) (HK.le ⟨rfl, rfl, rfl, rfl, trivial⟩) ?_)
  exact ⟨(), (), rfl, rfl, rfl⟩
  rintro y _ ⟨_, _, rfl, hc, rfl⟩
  subst hc
  refine tr tbk 1 (.mk ?_)
  refine sY (yv_indexAddr (j := 5) rfl Tryz.underlying177 sh176 rfl rfl rfl (.list rfl)) ?_
  refine tr tbk 9 (.mk ?_)
  obtain ⟨x38, e38, h1⟩ := bind_e h1
  refine sC cal136 (d_money_Add_c e38) ?_
  refine tr tbk 10 (.mk ?_)
  refine nb tbk h1 fun x39 h1 => ?_
  refine tr tbk 1 (.mk ?_)
  cases x39
  replace h1 := cf h1
  refine tc tbk 6 (.mk ?_)
  refine sS ⟨54, 11, true, true, v12, [[int x18.1, int x22.1, int x26.1, int x30.1, int x34.1, int x38.1, int x11.Shipped, int x11.SentBack, int x11.Scrapped, int x11.Lost, int x11.Revalued]]⟩ sh3 ?_
  refine tr tbk 3 (.mk ?_)
  refine sY (yv_add (r := 6) rfl rfl rfl (by decide)) ?_
  refine tr tbk 5 (.mk ?_)
  refine sY (yv_to (y := boo true) (yv_lss rfl rfl rfl) (congrArg boo (by decide))) ?_
  refine tr tbk 9 (.mk ?_)
  obtain ⟨x40, e40, h1⟩ := bind_e h1
  refine sY (yv_ixT rfl Tryz.underlying23 sh3 rfl rfl e40) ?_
  refine tr tbk 6 (.mk ?_)
  obtain ⟨j41, h2, h1⟩ := bind_e h1
  refine rse (Out := fun y H' => (∃ (a : Unit) (k : Unit), a = j41 ∧ y = .list 1 [[.pt 4 v12 0 0], [.pt 4 v12 0 1], [.pt 4 v12 0 2], [.pt 4 v12 0 3], [.pt 4 v12 0 4], [.pt 4 v12 0 5], [.pt 4 v12 0 6], [.pt 4 v12 0 7], [.pt 4 v12 0 8], [.pt 4 v12 0 9], [.pt 4 v12 0 10]] ∧ H' = hk [(1, ⟨32, 10, true, true, v5, [(GState.av a1)]⟩), (2, ⟨54, 11, true, true, v6, [[int a4.Open, int a4.Bought, int a4.Landed, int a4.Arrived, int a4.Returned, int a4.Sold, int a4.Shipped, int a4.SentBack, int a4.Scrapped, int a4.Lost, int a4.Revalued]]⟩), (3, ⟨32, 10, true, true, v7, [[int 0, int 0, .sc (.slice none 0 0), .sc (.slice none 0 0), .sc (.slice none 0 0), .sc (.slice none 0 0), .sc (.slice none 0 0), .sc (.slice none 0 0), .sc (.slice none 0 0), int 0]]⟩), (4, ⟨54, 11, true, true, v12, [[int x18.1, int x22.1, int x26.1, int x30.1, int x34.1, int x38.1, int x11.Shipped, int x11.SentBack, int x11.Scrapped, int x11.Lost, int x11.Revalued]]⟩)])) rfl rfl rfl (yl_call rfl rfl (.cons rfl .nil) cal135 ?_) ?_
  refine pcw (c := _) Tryz.func135 rfl rfl ?_; intro Q hret hnorm
  refine tc tbk 5 (.mk ?_)
  refine c_drawE [0, 1, 3, 0, 8, 24, 0, 64, 192, 0, 512, 1536, 0, 4096, 12288, 0, 32768, 98304, 0, 262144, 786432, 0, 2097152, 6291456, 0, 16777216, 50331648, 0, 134217728, 402653184, 0, 1073741824, 3221225472, 8589934591, 17179869183] (rl [(1, [4]), (2, [4]), (4, [4]), (5, [4]), (7, [4]), (8, [4]), (10, [4]), (11, [4]), (13, [4]), (14, [4]), (16, [4]), (17, [4]), (19, [4]), (20, [4]), (22, [4]), (23, [4]), (25, [4]), (26, [4]), (28, [4]), (29, [4]), (31, [4]), (32, [4])] []) (fun i => [4]) (fun i => true) [0, 1, 2, 3, 4, 5, 6, 7, 8, 9, 10, 11, 12, 13, 14, 15, 16, 17, 18, 19, 20, 21, 22, 23, 24, 25, 26, 27, 28, 29, 30, 31, 32, 33, 34] mixed (by kernel_rfl) ?_; intro K hK
  refine eM ?_
  refine eN ?_
  refine eF fo54_0 ?_
  refine eM ?_
  refine eN ?_
  refine eF fo54_1 ?_
  refine eM ?_
  refine eN ?_
  refine eF fo54_2 ?_
  refine eM ?_
  refine eN ?_
  refine eF fo54_3 ?_
  refine eM ?_
  refine eN ?_
  refine eF fo54_4 ?_
  refine eM ?_
  refine eN ?_
  refine eF fo54_5 ?_
  refine eM ?_
  refine eN ?_
  refine eF fo54_6 ?_
  refine eM ?_
  refine eN ?_
  refine eF fo54_7 ?_
  refine eM ?_
  refine eN ?_
  refine eF fo54_8 ?_
  refine eM ?_
  refine eN ?_
  refine eF fo54_9 ?_
  refine eM ?_
  refine eN ?_
  refine eF fo54_10 ?_
  refine eP (fun H hH => yv_buildSlice (ps := [(0, _), (1, _), (2, _), (3, _), (4, _), (5, _), (6, _), (7, _), (8, _), (9, _), (10, _)]) (rows := [[.pt 4 v12 0 0], [.pt 4 v12 0 1], [.pt 4 v12 0 2], [.pt 4 v12 0 3], [.pt 4 v12 0 4], [.pt 4 v12 0 5], [.pt 4 v12 0 6], [.pt 4 v12 0 7], [.pt 4 v12 0 8], [.pt 4 v12 0 9], [.pt 4 v12 0 10]]) rfl Tryz.underlying177 bz176 (.cons rfl (.cons rfl (.cons rfl (.cons rfl (.cons rfl (.cons rfl (.cons rfl (.cons rfl (.cons rfl (.cons rfl (.cons rfl .nil))))))))))) (by kernel_rfl) rfl rfl rfl) ?_
  refine eA ?_
  refine de_nil (hK _ ?_)
  obtain rfl := nxt_e h2
  refine w_ret (hret _ _ (hk [(1, ⟨32, 10, true, true, v5, [(GState.av a1)]⟩), (2, ⟨54, 11, true, true, v6, [[int a4.Open, int a4.Bought, int a4.Landed, int a4.Arrived, int a4.Returned, int a4.Sold, int a4.Shipped, int a4.SentBack, int a4.Scrapped, int a4.Lost, int a4.Revalued]]⟩), (3, ⟨32, 10, true, true, v7, [[int 0, int 0, .sc (.slice none 0 0), .sc (.slice none 0 0), .sc (.slice none 0 0), .sc (.slice none 0 0), .sc (.slice none 0 0), .sc (.slice none 0 0), .sc (.slice none 0 0), int 0]]⟩), (4, ⟨54, 11, true, true, v12, [[int x18.1, int x22.1, int x26.1, int x30.1, int x34.1, int x38.1, int x11.Shipped, int x11.SentBack, int x11.Scrapped, int x11.Lost, int x11.Revalued]]⟩)]) (.tmp rfl .nil) (HK.le ⟨rfl, rfl, rfl, rfl, trivial⟩) ?_)
  exact ⟨(), (), rfl, rfl, rfl⟩
  rintro y _ ⟨_, _, rfl, hc, rfl⟩
  subst hc
  refine tr tbk 1 (.mk ?_)
  refine sY (yv_indexAddr (j := 6) rfl Tryz.underlying177 sh176 rfl rfl rfl (.list rfl)) ?_
  refine tr tbk 9 (.mk ?_)
  obtain ⟨x42, e42, h1⟩ := bind_e h1
  refine sC cal136 (d_money_Add_c e42) ?_
  refine tr tbk 10 (.mk ?_)
  refine nb tbk h1 fun x43 h1 => ?_
  refine tr tbk 1 (.mk ?_)
  cases x43
  replace h1 := cf h1
  refine tc tbk 6 (.mk ?_)
  refine sS ⟨54, 11, true, true, v12, [[int x18.1, int x22.1, int x26.1, int x30.1, int x34.1, int x38.1, int x42.1, int x11.SentBack, int x11.Scrapped, int x11.Lost, int x11.Revalued]]⟩ sh3 ?_
  refine tr tbk 3 (.mk ?_)
  refine sY (yv_add (r := 7) rfl rfl rfl (by decide)) ?_
  refine tr tbk 5 (.mk ?_)
  refine sY (yv_to (y := boo true) (yv_lss rfl rfl rfl) (congrArg boo (by decide))) ?_
  refine tr tbk 9 (.mk ?_)
  obtain ⟨x44, e44, h1⟩ := bind_e h1
  refine sY (yv_ixT rfl Tryz.underlying23 sh3 rfl rfl e44) ?_
  refine tr tbk 6 (.mk ?_)
  obtain ⟨j45, h2, h1⟩ := bind_e h1
  refine rse (Out := fun y H' => (∃ (a : Unit) (k : Unit), a = j45 ∧ y = .list 1 [[.pt 4 v12 0 0], [.pt 4 v12 0 1], [.pt 4 v12 0 2], [.pt 4 v12 0 3], [.pt 4 v12 0 4], [.pt 4 v12 0 5], [.pt 4 v12 0 6], [.pt 4 v12 0 7], [.pt 4 v12 0 8], [.pt 4 v12 0 9], [.pt 4 v12 0 10]] ∧ H' = hk [(1, ⟨32, 10, true, true, v5, [(GState.av a1)]⟩), (2, ⟨54, 11, true, true, v6, [[int a4.Open, int a4.Bought, int a4.Landed, int a4.Arrived, int a4.Returned, int a4.Sold, int a4.Shipped, int a4.SentBack, int a4.Scrapped, int a4.Lost, int a4.Revalued]]⟩), (3, ⟨32, 10, true, true, v7, [[int 0, int 0, .sc (.slice none 0 0), .sc (.slice none 0 0), .sc (.slice none 0 0), .sc (.slice none 0 0), .sc (.slice none 0 0), .sc (.slice none 0 0), .sc (.slice none 0 0), int 0]]⟩), (4, ⟨54, 11, true, true, v12, [[int x18.1, int x22.1, int x26.1, int x30.1, int x34.1, int x38.1, int x42.1, int x11.SentBack, int x11.Scrapped, int x11.Lost, int x11.Revalued]]⟩)])) rfl rfl rfl (yl_call rfl rfl (.cons rfl .nil) cal135 ?_) ?_
  refine pcw (c := _) Tryz.func135 rfl rfl ?_; intro Q hret hnorm
  refine tc tbk 5 (.mk ?_)
  refine c_drawE [0, 1, 3, 0, 8, 24, 0, 64, 192, 0, 512, 1536, 0, 4096, 12288, 0, 32768, 98304, 0, 262144, 786432, 0, 2097152, 6291456, 0, 16777216, 50331648, 0, 134217728, 402653184, 0, 1073741824, 3221225472, 8589934591, 17179869183] (rl [(1, [4]), (2, [4]), (4, [4]), (5, [4]), (7, [4]), (8, [4]), (10, [4]), (11, [4]), (13, [4]), (14, [4]), (16, [4]), (17, [4]), (19, [4]), (20, [4]), (22, [4]), (23, [4]), (25, [4]), (26, [4]), (28, [4]), (29, [4]), (31, [4]), (32, [4])] []) (fun i => [4]) (fun i => true) [0, 1, 2, 3, 4, 5, 6, 7, 8, 9, 10, 11, 12, 13, 14, 15, 16, 17, 18, 19, 20, 21, 22, 23, 24, 25, 26, 27, 28, 29, 30, 31, 32, 33, 34] mixed (by kernel_rfl) ?_; intro K hK
  refine eM ?_
  refine eN ?_
  refine eF fo54_0 ?_
  refine eM ?_
  refine eN ?_
  refine eF fo54_1 ?_
  refine eM ?_
  refine eN ?_
  refine eF fo54_2 ?_
  refine eM ?_
  refine eN ?_
  refine eF fo54_3 ?_
  refine eM ?_
  refine eN ?_
  refine eF fo54_4 ?_
  refine eM ?_
  refine eN ?_
  refine eF fo54_5 ?_
  refine eM ?_
  refine eN ?_
  refine eF fo54_6 ?_
  refine eM ?_
  refine eN ?_
  refine eF fo54_7 ?_
  refine eM ?_
  refine eN ?_
  refine eF fo54_8 ?_
  refine eM ?_
  refine eN ?_
  refine eF fo54_9 ?_
  refine eM ?_
  refine eN ?_
  refine eF fo54_10 ?_
  refine eP (fun H hH => yv_buildSlice (ps := [(0, _), (1, _), (2, _), (3, _), (4, _), (5, _), (6, _), (7, _), (8, _), (9, _), (10, _)]) (rows := [[.pt 4 v12 0 0], [.pt 4 v12 0 1], [.pt 4 v12 0 2], [.pt 4 v12 0 3], [.pt 4 v12 0 4], [.pt 4 v12 0 5], [.pt 4 v12 0 6], [.pt 4 v12 0 7], [.pt 4 v12 0 8], [.pt 4 v12 0 9], [.pt 4 v12 0 10]]) rfl Tryz.underlying177 bz176 (.cons rfl (.cons rfl (.cons rfl (.cons rfl (.cons rfl (.cons rfl (.cons rfl (.cons rfl (.cons rfl (.cons rfl (.cons rfl .nil))))))))))) (by kernel_rfl) rfl rfl rfl) ?_
  refine eA ?_
  refine de_nil (hK _ ?_)
  obtain rfl := nxt_e h2
  refine w_ret (hret _ _ (hk [(1, ⟨32, 10, true, true, v5, [(GState.av a1)]⟩), (2, ⟨54, 11, true, true, v6, [[int a4.Open, int a4.Bought, int a4.Landed, int a4.Arrived, int a4.Returned, int a4.Sold, int a4.Shipped, int a4.SentBack, int a4.Scrapped, int a4.Lost, int a4.Revalued]]⟩), (3, ⟨32, 10, true, true, v7, [[int 0, int 0, .sc (.slice none 0 0), .sc (.slice none 0 0), .sc (.slice none 0 0), .sc (.slice none 0 0), .sc (.slice none 0 0), .sc (.slice none 0 0), .sc (.slice none 0 0), int 0]]⟩), (4, ⟨54, 11, true, true, v12, [[int x18.1, int x22.1, int x26.1, int x30.1, int x34.1, int x38.1, int x42.1, int x11.SentBack, int x11.Scrapped, int x11.Lost, int x11.Revalued]]⟩)]) (.tmp rfl .nil) (HK.le ⟨rfl, rfl, rfl, rfl, trivial⟩) ?_)
  exact ⟨(), (), rfl, rfl, rfl⟩
  rintro y _ ⟨_, _, rfl, hc, rfl⟩
  subst hc
  refine tr tbk 1 (.mk ?_)
  refine sY (yv_indexAddr (j := 7) rfl Tryz.underlying177 sh176 rfl rfl rfl (.list rfl)) ?_
  refine tr tbk 9 (.mk ?_)
  obtain ⟨x46, e46, h1⟩ := bind_e h1
  refine sC cal136 (d_money_Add_c e46) ?_
  refine tr tbk 10 (.mk ?_)
  refine nb tbk h1 fun x47 h1 => ?_
  refine tr tbk 1 (.mk ?_)
  cases x47
  replace h1 := cf h1
  refine tc tbk 6 (.mk ?_)
  refine sS ⟨54, 11, true, true, v12, [[int x18.1, int x22.1, int x26.1, int x30.1, int x34.1, int x38.1, int x42.1, int x46.1, int x11.Scrapped, int x11.Lost, int x11.Revalued]]⟩ sh3 ?_
  refine tr tbk 3 (.mk ?_)
  refine sY (yv_add (r := 8) rfl rfl rfl (by decide)) ?_
  refine tr tbk 5 (.mk ?_)
  refine sY (yv_to (y := boo true) (yv_lss rfl rfl rfl) (congrArg boo (by decide))) ?_
  refine tr tbk 9 (.mk ?_)
  obtain ⟨x48, e48, h1⟩ := bind_e h1
  refine sY (yv_ixT rfl Tryz.underlying23 sh3 rfl rfl e48) ?_
  refine tr tbk 6 (.mk ?_)
  obtain ⟨j49, h2, h1⟩ := bind_e h1
  refine rse (Out := fun y H' => (∃ (a : Unit) (k : Unit), a = j49 ∧ y = .list 1 [[.pt 4 v12 0 0], [.pt 4 v12 0 1], [.pt 4 v12 0 2], [.pt 4 v12 0 3], [.pt 4 v12 0 4], [.pt 4 v12 0 5], [.pt 4 v12 0 6], [.pt 4 v12 0 7], [.pt 4 v12 0 8], [.pt 4 v12 0 9], [.pt 4 v12 0 10]] ∧ H' = hk [(1, ⟨32, 10, true, true, v5, [(GState.av a1)]⟩), (2, ⟨54, 11, true, true, v6, [[int a4.Open, int a4.Bought, int a4.Landed, int a4.Arrived, int a4.Returned, int a4.Sold, int a4.Shipped, int a4.SentBack, int a4.Scrapped, int a4.Lost, int a4.Revalued]]⟩), (3, ⟨32, 10, true, true, v7, [[int 0, int 0, .sc (.slice none 0 0), .sc (.slice none 0 0), .sc (.slice none 0 0), .sc (.slice none 0 0), .sc (.slice none 0 0), .sc (.slice none 0 0), .sc (.slice none 0 0), int 0]]⟩), (4, ⟨54, 11, true, true, v12, [[int x18.1, int x22.1, int x26.1, int x30.1, int x34.1, int x38.1, int x42.1, int x46.1, int x11.Scrapped, int x11.Lost, int x11.Revalued]]⟩)])) rfl rfl rfl (yl_call rfl rfl (.cons rfl .nil) cal135 ?_) ?_
  refine pcw (c := _) Tryz.func135 rfl rfl ?_; intro Q hret hnorm
  refine tc tbk 5 (.mk ?_)
  refine c_drawE [0, 1, 3, 0, 8, 24, 0, 64, 192, 0, 512, 1536, 0, 4096, 12288, 0, 32768, 98304, 0, 262144, 786432, 0, 2097152, 6291456, 0, 16777216, 50331648, 0, 134217728, 402653184, 0, 1073741824, 3221225472, 8589934591, 17179869183] (rl [(1, [4]), (2, [4]), (4, [4]), (5, [4]), (7, [4]), (8, [4]), (10, [4]), (11, [4]), (13, [4]), (14, [4]), (16, [4]), (17, [4]), (19, [4]), (20, [4]), (22, [4]), (23, [4]), (25, [4]), (26, [4]), (28, [4]), (29, [4]), (31, [4]), (32, [4])] []) (fun i => [4]) (fun i => true) [0, 1, 2, 3, 4, 5, 6, 7, 8, 9, 10, 11, 12, 13, 14, 15, 16, 17, 18, 19, 20, 21, 22, 23, 24, 25, 26, 27, 28, 29, 30, 31, 32, 33, 34] mixed (by kernel_rfl) ?_; intro K hK
  refine eM ?_
  refine eN ?_
  refine eF fo54_0 ?_
  refine eM ?_
  refine eN ?_
  refine eF fo54_1 ?_
  refine eM ?_
  refine eN ?_
  refine eF fo54_2 ?_
  refine eM ?_
  refine eN ?_
  refine eF fo54_3 ?_
  refine eM ?_
  refine eN ?_
  refine eF fo54_4 ?_
  refine eM ?_
  refine eN ?_
  refine eF fo54_5 ?_
  refine eM ?_
  refine eN ?_
  refine eF fo54_6 ?_
  refine eM ?_
  refine eN ?_
  refine eF fo54_7 ?_
  refine eM ?_
  refine eN ?_
  refine eF fo54_8 ?_
  refine eM ?_
  refine eN ?_
  refine eF fo54_9 ?_
  refine eM ?_
  refine eN ?_
  refine eF fo54_10 ?_
  refine eP (fun H hH => yv_buildSlice (ps := [(0, _), (1, _), (2, _), (3, _), (4, _), (5, _), (6, _), (7, _), (8, _), (9, _), (10, _)]) (rows := [[.pt 4 v12 0 0], [.pt 4 v12 0 1], [.pt 4 v12 0 2], [.pt 4 v12 0 3], [.pt 4 v12 0 4], [.pt 4 v12 0 5], [.pt 4 v12 0 6], [.pt 4 v12 0 7], [.pt 4 v12 0 8], [.pt 4 v12 0 9], [.pt 4 v12 0 10]]) rfl Tryz.underlying177 bz176 (.cons rfl (.cons rfl (.cons rfl (.cons rfl (.cons rfl (.cons rfl (.cons rfl (.cons rfl (.cons rfl (.cons rfl (.cons rfl .nil))))))))))) (by kernel_rfl) rfl rfl rfl) ?_
  refine eA ?_
  refine de_nil (hK _ ?_)
  obtain rfl := nxt_e h2
  refine w_ret (hret _ _ (hk [(1, ⟨32, 10, true, true, v5, [(GState.av a1)]⟩), (2, ⟨54, 11, true, true, v6, [[int a4.Open, int a4.Bought, int a4.Landed, int a4.Arrived, int a4.Returned, int a4.Sold, int a4.Shipped, int a4.SentBack, int a4.Scrapped, int a4.Lost, int a4.Revalued]]⟩), (3, ⟨32, 10, true, true, v7, [[int 0, int 0, .sc (.slice none 0 0), .sc (.slice none 0 0), .sc (.slice none 0 0), .sc (.slice none 0 0), .sc (.slice none 0 0), .sc (.slice none 0 0), .sc (.slice none 0 0), int 0]]⟩), (4, ⟨54, 11, true, true, v12, [[int x18.1, int x22.1, int x26.1, int x30.1, int x34.1, int x38.1, int x42.1, int x46.1, int x11.Scrapped, int x11.Lost, int x11.Revalued]]⟩)]) (.tmp rfl .nil) (HK.le ⟨rfl, rfl, rfl, rfl, trivial⟩) ?_)
  exact ⟨(), (), rfl, rfl, rfl⟩
  rintro y _ ⟨_, _, rfl, hc, rfl⟩
  subst hc
  refine tr tbk 1 (.mk ?_)
  refine sY (yv_indexAddr (j := 8) rfl Tryz.underlying177 sh176 rfl rfl rfl (.list rfl)) ?_
  refine tr tbk 9 (.mk ?_)
  obtain ⟨x50, e50, h1⟩ := bind_e h1
  refine sC cal136 (d_money_Add_c e50) ?_
  refine tr tbk 10 (.mk ?_)
  refine nb tbk h1 fun x51 h1 => ?_
  refine tr tbk 1 (.mk ?_)
  cases x51
  replace h1 := cf h1
  refine tc tbk 6 (.mk ?_)
  refine sS ⟨54, 11, true, true, v12, [[int x18.1, int x22.1, int x26.1, int x30.1, int x34.1, int x38.1, int x42.1, int x46.1, int x50.1, int x11.Lost, int x11.Revalued]]⟩ sh3 ?_
  refine tr tbk 3 (.mk ?_)
  refine sY (yv_add (r := 9) rfl rfl rfl (by decide)) ?_
  refine tr tbk 5 (.mk ?_)
  refine sY (yv_to (y := boo true) (yv_lss rfl rfl rfl) (congrArg boo (by decide))) ?_
  refine tr tbk 9 (.mk ?_)
  obtain ⟨x52, e52, h1⟩ := bind_e h1
  refine sY (yv_ixT rfl Tryz.underlying23 sh3 rfl rfl e52) ?_
  refine tr tbk 6 (.mk ?_)
  obtain ⟨j53, h2, h1⟩ := bind_e h1
  refine rse (Out := fun y H' => (∃ (a : Unit) (k : Unit), a = j53 ∧ y = .list 1 [[.pt 4 v12 0 0], [.pt 4 v12 0 1], [.pt 4 v12 0 2], [.pt 4 v12 0 3], [.pt 4 v12 0 4], [.pt 4 v12 0 5], [.pt 4 v12 0 6], [.pt 4 v12 0 7], [.pt 4 v12 0 8], [.pt 4 v12 0 9], [.pt 4 v12 0 10]] ∧ H' = hk [(1, ⟨32, 10, true, true, v5, [(GState.av a1)]⟩), (2, ⟨54, 11, true, true, v6, [[int a4.Open, int a4.Bought, int a4.Landed, int a4.Arrived, int a4.Returned, int a4.Sold, int a4.Shipped, int a4.SentBack, int a4.Scrapped, int a4.Lost, int a4.Revalued]]⟩), (3, ⟨32, 10, true, true, v7, [[int 0, int 0, .sc (.slice none 0 0), .sc (.slice none 0 0), .sc (.slice none 0 0), .sc (.slice none 0 0), .sc (.slice none 0 0), .sc (.slice none 0 0), .sc (.slice none 0 0), int 0]]⟩), (4, ⟨54, 11, true, true, v12, [[int x18.1, int x22.1, int x26.1, int x30.1, int x34.1, int x38.1, int x42.1, int x46.1, int x50.1, int x11.Lost, int x11.Revalued]]⟩)])) rfl rfl rfl (yl_call rfl rfl (.cons rfl .nil) cal135 ?_) ?_
  refine pcw (c := _) Tryz.func135 rfl rfl ?_; intro Q hret hnorm
  refine tc tbk 5 (.mk ?_)
  refine c_drawE [0, 1, 3, 0, 8, 24, 0, 64, 192, 0, 512, 1536, 0, 4096, 12288, 0, 32768, 98304, 0, 262144, 786432, 0, 2097152, 6291456, 0, 16777216, 50331648, 0, 134217728, 402653184, 0, 1073741824, 3221225472, 8589934591, 17179869183] (rl [(1, [4]), (2, [4]), (4, [4]), (5, [4]), (7, [4]), (8, [4]), (10, [4]), (11, [4]), (13, [4]), (14, [4]), (16, [4]), (17, [4]), (19, [4]), (20, [4]), (22, [4]), (23, [4]), (25, [4]), (26, [4]), (28, [4]), (29, [4]), (31, [4]), (32, [4])] []) (fun i => [4]) (fun i => true) [0, 1, 2, 3, 4, 5, 6, 7, 8, 9, 10, 11, 12, 13, 14, 15, 16, 17, 18, 19, 20, 21, 22, 23, 24, 25, 26, 27, 28, 29, 30, 31, 32, 33, 34] mixed (by kernel_rfl) ?_; intro K hK
  refine eM ?_
  refine eN ?_
  refine eF fo54_0 ?_
  refine eM ?_
  refine eN ?_
  refine eF fo54_1 ?_
  refine eM ?_
  refine eN ?_
  refine eF fo54_2 ?_
  refine eM ?_
  refine eN ?_
  refine eF fo54_3 ?_
  refine eM ?_
  refine eN ?_
  refine eF fo54_4 ?_
  refine eM ?_
  refine eN ?_
  refine eF fo54_5 ?_
  refine eM ?_
  refine eN ?_
  refine eF fo54_6 ?_
  refine eM ?_
  refine eN ?_
  refine eF fo54_7 ?_
  refine eM ?_
  refine eN ?_
  refine eF fo54_8 ?_
  refine eM ?_
  refine eN ?_
  refine eF fo54_9 ?_
  refine eM ?_
  refine eN ?_
  refine eF fo54_10 ?_
  refine eP (fun H hH => yv_buildSlice (ps := [(0, _), (1, _), (2, _), (3, _), (4, _), (5, _), (6, _), (7, _), (8, _), (9, _), (10, _)]) (rows := [[.pt 4 v12 0 0], [.pt 4 v12 0 1], [.pt 4 v12 0 2], [.pt 4 v12 0 3], [.pt 4 v12 0 4], [.pt 4 v12 0 5], [.pt 4 v12 0 6], [.pt 4 v12 0 7], [.pt 4 v12 0 8], [.pt 4 v12 0 9], [.pt 4 v12 0 10]]) rfl Tryz.underlying177 bz176 (.cons rfl (.cons rfl (.cons rfl (.cons rfl (.cons rfl (.cons rfl (.cons rfl (.cons rfl (.cons rfl (.cons rfl (.cons rfl .nil))))))))))) (by kernel_rfl) rfl rfl rfl) ?_
  refine eA ?_
  refine de_nil (hK _ ?_)
  obtain rfl := nxt_e h2
  refine w_ret (hret _ _ (hk [(1, ⟨32, 10, true, true, v5, [(GState.av a1)]⟩), (2, ⟨54, 11, true, true, v6, [[int a4.Open, int a4.Bought, int a4.Landed, int a4.Arrived, int a4.Returned, int a4.Sold, int a4.Shipped, int a4.SentBack, int a4.Scrapped, int a4.Lost, int a4.Revalued]]⟩), (3, ⟨32, 10, true, true, v7, [[int 0, int 0, .sc (.slice none 0 0), .sc (.slice none 0 0), .sc (.slice none 0 0), .sc (.slice none 0 0), .sc (.slice none 0 0), .sc (.slice none 0 0), .sc (.slice none 0 0), int 0]]⟩), (4, ⟨54, 11, true, true, v12, [[int x18.1, int x22.1, int x26.1, int x30.1, int x34.1, int x38.1, int x42.1, int x46.1, int x50.1, int x11.Lost, int x11.Revalued]]⟩)]) (.tmp rfl .nil) (HK.le ⟨rfl, rfl, rfl, rfl, trivial⟩) ?_)
  exact ⟨(), (), rfl, rfl, rfl⟩
  rintro y _ ⟨_, _, rfl, hc, rfl⟩
  subst hc
  refine tr tbk 1 (.mk ?_)
  refine sY (yv_indexAddr (j := 9) rfl Tryz.underlying177 sh176 rfl rfl rfl (.list rfl)) ?_
  refine tr tbk 9 (.mk ?_)
  obtain ⟨x54, e54, h1⟩ := bind_e h1
  refine sC cal136 (d_money_Add_c e54) ?_
  refine tr tbk 10 (.mk ?_)
  refine nb tbk h1 fun x55 h1 => ?_
  refine tr tbk 1 (.mk ?_)
  cases x55
  replace h1 := cf h1
  refine tc tbk 6 (.mk ?_)
  refine sS ⟨54, 11, true, true, v12, [[int x18.1, int x22.1, int x26.1, int x30.1, int x34.1, int x38.1, int x42.1, int x46.1, int x50.1, int x54.1, int x11.Revalued]]⟩ sh3 ?_
  refine tr tbk 3 (.mk ?_)
  refine sY (yv_add (r := 10) rfl rfl rfl (by decide)) ?_
  refine tr tbk 5 (.mk ?_)
  refine sY (yv_to (y := boo true) (yv_lss rfl rfl rfl) (congrArg boo (by decide))) ?_
  refine tr tbk 9 (.mk ?_)
  obtain ⟨x56, e56, h1⟩ := bind_e h1
  refine sY (yv_ixT rfl Tryz.underlying23 sh3 rfl rfl e56) ?_
  refine tr tbk 6 (.mk ?_)
  obtain ⟨j57, h2, h1⟩ := bind_e h1
  refine rse (Out := fun y H' => (∃ (a : Unit) (k : Unit), a = j57 ∧ y = .list 1 [[.pt 4 v12 0 0], [.pt 4 v12 0 1], [.pt 4 v12 0 2], [.pt 4 v12 0 3], [.pt 4 v12 0 4], [.pt 4 v12 0 5], [.pt 4 v12 0 6], [.pt 4 v12 0 7], [.pt 4 v12 0 8], [.pt 4 v12 0 9], [.pt 4 v12 0 10]] ∧ H' = hk [(1, ⟨32, 10, true, true, v5, [(GState.av a1)]⟩), (2, ⟨54, 11, true, true, v6, [[int a4.Open, int a4.Bought, int a4.Landed, int a4.Arrived, int a4.Returned, int a4.Sold, int a4.Shipped, int a4.SentBack, int a4.Scrapped, int a4.Lost, int a4.Revalued]]⟩), (3, ⟨32, 10, true, true, v7, [[int 0, int 0, .sc (.slice none 0 0), .sc (.slice none 0 0), .sc (.slice none 0 0), .sc (.slice none 0 0), .sc (.slice none 0 0), .sc (.slice none 0 0), .sc (.slice none 0 0), int 0]]⟩), (4, ⟨54, 11, true, true, v12, [[int x18.1, int x22.1, int x26.1, int x30.1, int x34.1, int x38.1, int x42.1, int x46.1, int x50.1, int x54.1, int x11.Revalued]]⟩)])) rfl rfl rfl (yl_call rfl rfl (.cons rfl .nil) cal135 ?_) ?_
  refine pcw (c := _) Tryz.func135 rfl rfl ?_; intro Q hret hnorm
  refine tc tbk 5 (.mk ?_)
  refine c_drawE [0, 1, 3, 0, 8, 24, 0, 64, 192, 0, 512, 1536, 0, 4096, 12288, 0, 32768, 98304, 0, 262144, 786432, 0, 2097152, 6291456, 0, 16777216, 50331648, 0, 134217728, 402653184, 0, 1073741824, 3221225472, 8589934591, 17179869183] (rl [(1, [4]), (2, [4]), (4, [4]), (5, [4]), (7, [4]), (8, [4]), (10, [4]), (11, [4]), (13, [4]), (14, [4]), (16, [4]), (17, [4]), (19, [4]), (20, [4]), (22, [4]), (23, [4]), (25, [4]), (26, [4]), (28, [4]), (29, [4]), (31, [4]), (32, [4])] []) (fun i => [4]) (fun i => true) [0, 1, 2, 3, 4, 5, 6, 7, 8, 9, 10, 11, 12, 13, 14, 15, 16, 17, 18, 19, 20, 21, 22, 23, 24, 25, 26, 27, 28, 29, 30, 31, 32, 33, 34] mixed (by kernel_rfl) ?_; intro K hK
  refine eM ?_
  refine eN ?_
  refine eF fo54_0 ?_
  refine eM ?_
  refine eN ?_
  refine eF fo54_1 ?_
  refine eM ?_
  refine eN ?_
  refine eF fo54_2 ?_
  refine eM ?_
  refine eN ?_
  refine eF fo54_3 ?_
  refine eM ?_
  refine eN ?_
  refine eF fo54_4 ?_
  refine eM ?_
  refine eN ?_
  refine eF fo54_5 ?_
  refine eM ?_
  refine eN ?_
  refine eF fo54_6 ?_
  refine eM ?_
  refine eN ?_
  refine eF fo54_7 ?_
  refine eM ?_
  refine eN ?_
  refine eF fo54_8 ?_
  refine eM ?_
  refine eN ?_
  refine eF fo54_9 ?_
  refine eM ?_
  refine eN ?_
  refine eF fo54_10 ?_
  refine eP (fun H hH => yv_buildSlice (ps := [(0, _), (1, _), (2, _), (3, _), (4, _), (5, _), (6, _), (7, _), (8, _), (9, _), (10, _)]) (rows := [[.pt 4 v12 0 0], [.pt 4 v12 0 1], [.pt 4 v12 0 2], [.pt 4 v12 0 3], [.pt 4 v12 0 4], [.pt 4 v12 0 5], [.pt 4 v12 0 6], [.pt 4 v12 0 7], [.pt 4 v12 0 8], [.pt 4 v12 0 9], [.pt 4 v12 0 10]]) rfl Tryz.underlying177 bz176 (.cons rfl (.cons rfl (.cons rfl (.cons rfl (.cons rfl (.cons rfl (.cons rfl (.cons rfl (.cons rfl (.cons rfl (.cons rfl .nil))))))))))) (by kernel_rfl) rfl rfl rfl) ?_
  refine eA ?_
  refine de_nil (hK _ ?_)
  obtain rfl := nxt_e h2
  refine w_ret (hret _ _ (hk [(1, ⟨32, 10, true, true, v5, [(GState.av a1)]⟩), (2, ⟨54, 11, true, true, v6, [[int a4.Open, int a4.Bought, int a4.Landed, int a4.Arrived, int a4.Returned, int a4.Sold, int a4.Shipped, int a4.SentBack, int a4.Scrapped, int a4.Lost, int a4.Revalued]]⟩), (3, ⟨32, 10, true, true, v7, [[int 0, int 0, .sc (.slice none 0 0), .sc (.slice none 0 0), .sc (.slice none 0 0), .sc (.slice none 0 0), .sc (.slice none 0 0), .sc (.slice none 0 0), .sc (.slice none 0 0), int 0]]⟩), (4, ⟨54, 11, true, true, v12, [[int x18.1, int x22.1, int x26.1, int x30.1, int x34.1, int x38.1, int x42.1, int x46.1, int x50.1, int x54.1, int x11.Revalued]]⟩)]) (.tmp rfl .nil) (HK.le ⟨rfl, rfl, rfl, rfl, trivial⟩) ?_)
  exact ⟨(), (), rfl, rfl, rfl⟩
  rintro y _ ⟨_, _, rfl, hc, rfl⟩
  subst hc
  refine tr tbk 1 (.mk ?_)
  refine sY (yv_indexAddr (j := 10) rfl Tryz.underlying177 sh176 rfl rfl rfl (.list rfl)) ?_
  refine tr tbk 9 (.mk ?_)
  obtain ⟨x58, e58, h1⟩ := bind_e h1
  refine sC cal136 (d_money_Add_c e58) ?_
  refine tr tbk 10 (.mk ?_)
  refine nb tbk h1 fun x59 h1 => ?_
  refine tr tbk 1 (.mk ?_)
  cases x59
  replace h1 := cf h1
  refine tc tbk 6 (.mk ?_)
  refine sS ⟨54, 11, true, true, v12, [[int x18.1, int x22.1, int x26.1, int x30.1, int x34.1, int x38.1, int x42.1, int x46.1, int x50.1, int x54.1, int x58.1]]⟩ sh3 ?_
  refine tr tbk 3 (.mk ?_)
  refine sY (yv_add (r := 11) rfl rfl rfl (by decide)) ?_
  refine tr tbk 5 (.mk ?_)
  refine sY (yv_to (y := boo false) (yv_lss rfl rfl rfl) (congrArg boo (by decide))) ?_
  refine tr tbk 4 (.mk ?_)
  exact lfE h1 () leA
  replace h1 := ct h1
  refine tc tbk 5 (.mk ?_)
  refine sS ⟨32, 10, true, true, v7, [(GState.av a1)]⟩ sh32 ?_
  refine tr tbk 2 (.mk ?_)
  obtain ⟨c60, hX, hj⟩ := esc_e h1; subst hj; replace h0 := hX.trans (sel_r h0)
  obtain rfl := nxt_e h0
  refine wR hret (rC sh32 (rT .nil)) ?_
  exact .refl _
  replace h1 := ct h1
  refine tc tbk 5 (.mk ?_)
  refine sS ⟨32, 10, true, true, v7, [(GState.av a1)]⟩ sh32 ?_
  refine tr tbk 2 (.mk ?_)
  obtain ⟨c61, hX, hj⟩ := esc_e h1; subst hj; replace h0 := hX.trans (sel_r h0)
  obtain rfl := nxt_e h0
  refine wR hret (rC sh32 (rT .nil)) ?_
  exact .refl _
  replace h1 := ct h1
  refine tc tbk 5 (.mk ?_)
  refine sS ⟨32, 10, true, true, v7, [(GState.av a1)]⟩ sh32 ?_
  refine tr tbk 2 (.mk ?_)
  obtain ⟨c62, hX, hj⟩ := esc_e h1; subst hj; replace h0 := hX.trans (sel_r h0)
  obtain rfl := nxt_e h0
  refine wR hret (rC sh32 (rT .nil)) ?_
  exact .refl _
  replace h1 := ct h1
  refine tc tbk 5 (.mk ?_)
  refine sS ⟨32, 10, true, true, v7, [(GState.av a1)]⟩ sh32 ?_
  refine tr tbk 2 (.mk ?_)
  obtain ⟨c63, hX, hj⟩ := esc_e h1; subst hj; replace h0 := hX.trans (sel_r h0)
  obtain rfl := nxt_e h0
  refine wR hret (rC sh32 (rT .nil)) ?_
  exact .refl _
  replace h1 := ct h1
  refine tc tbk 5 (.mk ?_)
  refine sS ⟨32, 10, true, true, v7, [(GState.av a1)]⟩ sh32 ?_
  refine tr tbk 2 (.mk ?_)
  obtain ⟨c64, hX, hj⟩ := esc_e h1; subst hj; replace h0 := hX.trans (sel_r h0)
  obtain rfl := nxt_e h0
  refine wR hret (rC sh32 (rT .nil)) ?_
  exact .refl _
  replace h1 := ct h1
  refine tc tbk 5 (.mk ?_)
  refine sS ⟨32, 10, true, true, v7, [(GState.av a1)]⟩ sh32 ?_
  refine tr tbk 2 (.mk ?_)
  obtain ⟨c65, hX, hj⟩ := esc_e h1; subst hj; replace h0 := hX.trans (sel_r h0)
  obtain rfl := nxt_e h0
  refine wR hret (rC sh32 (rT .nil)) ?_
  exact .refl _
  replace h1 := ct h1
  refine tc tbk 5 (.mk ?_)
  refine sS ⟨32, 10, true, true, v7, [(GState.av a1)]⟩ sh32 ?_
  refine tr tbk 2 (.mk ?_)
  obtain ⟨c66, hX, hj⟩ := esc_e h1; subst hj; replace h0 := hX.trans (sel_r h0)
  obtain rfl := nxt_e h0
  refine wR hret (rC sh32 (rT .nil)) ?_
  exact .refl _
  replace h1 := ct h1
  refine tc tbk 5 (.mk ?_)
  refine sS ⟨32, 10, true, true, v7, [(GState.av a1)]⟩ sh32 ?_
  refine tr tbk 2 (.mk ?_)
  obtain ⟨c67, hX, hj⟩ := esc_e h1; subst hj; replace h0 := hX.trans (sel_r h0)
  obtain rfl := nxt_e h0
  refine wR hret (rC sh32 (rT .nil)) ?_
  exact .refl _
  replace h1 := ct h1
  refine tc tbk 5 (.mk ?_)
  refine sS ⟨32, 10, true, true, v7, [(GState.av a1)]⟩ sh32 ?_
  refine tr tbk 2 (.mk ?_)
  obtain ⟨c68, hX, hj⟩ := esc_e h1; subst hj; replace h0 := hX.trans (sel_r h0)
  obtain rfl := nxt_e h0
  refine wR hret (rC sh32 (rT .nil)) ?_
  exact .refl _
  replace h1 := ct h1
  refine tc tbk 5 (.mk ?_)
  refine sS ⟨32, 10, true, true, v7, [(GState.av a1)]⟩ sh32 ?_
  refine tr tbk 2 (.mk ?_)
  obtain ⟨c69, hX, hj⟩ := esc_e h1; subst hj; replace h0 := hX.trans (sel_r h0)
  obtain rfl := nxt_e h0
  refine wR hret (rC sh32 (rT .nil)) ?_
  exact .refl _
  replace h1 := ct h1
  refine tc tbk 5 (.mk ?_)
  refine sS ⟨32, 10, true, true, v7, [(GState.av a1)]⟩ sh32 ?_
  refine tr tbk 2 (.mk ?_)
  obtain ⟨c70, hX, hj⟩ := esc_e h1; subst hj; replace h0 := hX.trans (sel_r h0)
  obtain rfl := nxt_e h0
  refine wR hret (rC sh32 (rT .nil)) ?_
  exact .refl _
  rintro y2_1 _ h0
  refine tc tbk 3 (.mk ?_)
  refine sY (yv_build (cs := (GState.av a1)) (ps := [(0, _)]) rfl pl93 z93 rfl (.cons rfl .nil) (by kernel_rfl)) ?_
  refine sA 6 z93 fun v71 => ?_
  refine sS ⟨93, 10, true, true, v71, [(GState.av a1)]⟩ sh93 ?_
  refine tr tbk 4 (.mk ?_)
  obtain ⟨j72, h1, h0⟩ := bind_e h0
  refine rse (Out := fun y H' => (∃ (a : Unit) (k : Nat), a = j72 ∧ y = .pt 7 k (Int.toNat a2) 0 ∧ H' = hk [(1, ⟨32, 10, true, true, v5, [(GState.av a1)]⟩), (3, ⟨32, 10, true, true, v7, [[int 0, int 0, .sc (.slice none 0 0), .sc (.slice none 0 0), .sc (.slice none 0 0), .sc (.slice none 0 0), .sc (.slice none 0 0), .sc (.slice none 0 0), .sc (.slice none 0 0), int 0]]⟩), (4, ⟨54, 11, true, true, v12, [[int y2_1.Open, int y2_1.Bought, int y2_1.Landed, int y2_1.Arrived, int y2_1.Returned, int y2_1.Sold, int y2_1.Shipped, int y2_1.SentBack, int y2_1.Scrapped, int y2_1.Lost, int y2_1.Revalued]]⟩), (6, ⟨93, 10, true, true, v71, [[int a1.Master.Entities, int a1.Master.Periods, lst 1 fI a1.Master.Weights, lst 1 (fL 1 fI) a1.Master.Methods, lst 1 (fL 1 fI) a1.Master.Costs, .sl 7 k 0 a1.Ents.length, lst 8 GReceipt.av a1.Receipts, lst 9 GSale.av a1.Sales, lst 6 GTransit.av a1.Transits, int a1.Done]]⟩), (7, ⟨47, 8, true, true, k, a1.Ents.map GEnt.av⟩)])) rfl rfl rfl (yl_call rfl rfl (.cons rfl (.cons rfl .nil)) cal97 ?_) ?_
  refine pcw (c := _) Tryz.func97 rfl rfl ?_; intro Q hret hnorm
  refine tc tbk 12 (.mk ?_)
  obtain ⟨p73, h1⟩ := asrt_e h1
  refine rse rfl rfl rfl (yl_call rfl rfl (.cons rfl .nil) cal121 (pc_cv (clone121_c (id := 7) (l := a1.Ents) rfl p73) (.cons (.refl _) .nil))) ?_; rintro _ _ ⟨v74, rfl, rfl⟩
  refine tr tbk 3 (.mk ?_)
  refine sS ⟨93, 10, true, true, v71, [[int a1.Master.Entities, int a1.Master.Periods, lst 1 fI a1.Master.Weights, lst 1 (fL 1 fI) a1.Master.Methods, lst 1 (fL 1 fI) a1.Master.Costs, .sl 7 v74 0 a1.Ents.length, lst 8 GReceipt.av a1.Receipts, lst 9 GSale.av a1.Sales, lst 6 GTransit.av a1.Transits, int a1.Done]]⟩ sh27 ?_
  refine tr tbk 9 (.mk ?_)
  obtain ⟨x75, e75, h1⟩ := bind_e h1
  refine sY (yv_ixO rfl Tryz.underlying27 sh47 rfl rfl rfl rfl rfl (Eq.symm rfl) (List.length_map _) e75) ?_
  refine tr tbk 2 (.mk ?_)
  obtain rfl := nxt_e h1
  refine w_ret (hret _ _ (hk [(1, ⟨32, 10, true, true, v5, [(GState.av a1)]⟩), (3, ⟨32, 10, true, true, v7, [[int 0, int 0, .sc (.slice none 0 0), .sc (.slice none 0 0), .sc (.slice none 0 0), .sc (.slice none 0 0), .sc (.slice none 0 0), .sc (.slice none 0 0), .sc (.slice none 0 0), int 0]]⟩), (4, ⟨54, 11, true, true, v12, [[int y2_1.Open, int y2_1.Bought, int y2_1.Landed, int y2_1.Arrived, int y2_1.Returned, int y2_1.Sold, int y2_1.Shipped, int y2_1.SentBack, int y2_1.Scrapped, int y2_1.Lost, int y2_1.Revalued]]⟩), (6, ⟨93, 10, true, true, v71, [[int a1.Master.Entities, int a1.Master.Periods, lst 1 fI a1.Master.Weights, lst 1 (fL 1 fI) a1.Master.Methods, lst 1 (fL 1 fI) a1.Master.Costs, .sl 7 v74 0 a1.Ents.length, lst 8 GReceipt.av a1.Receipts, lst 9 GSale.av a1.Sales, lst 6 GTransit.av a1.Transits, int a1.Done]]⟩), (7, ⟨47, 8, true, true, v74, a1.Ents.map GEnt.av⟩)]) (.tmp rfl .nil) (HK.le ⟨rfl, rfl, rfl, rfl, rfl, trivial⟩) ?_)
  exact ⟨(), v74, rfl, rfl, rfl⟩
  rintro y _ ⟨_, w3_1, rfl, hc, rfl⟩
  subst hc
  refine tr tbk 6 (.mk ?_)
  obtain ⟨x76, e76, h0⟩ := bind_e h0
  refine sY (yv_nilCheck rfl rfl (.pt rfl rfl (ix_get' e76 (GEnt.av_eq _)))) ?_
  refine sY (yv_fieldAddr rfl fo47_4 rfl (.pt rfl rfl (ix_get' e76 (GEnt.av_eq _))) (.pt _ _ _ _ _)) ?_
  refine sY (yv_load rfl sh45 rfl (.pt rfl rfl (ix_get' e76 (GEnt.av_eq _))) rfl) ?_
  obtain ⟨p77, h0⟩ := asrt_e h0
  refine rse rfl rfl rfl (yl_call rfl rfl (.cons rfl .nil) cal137 (pc_cv (clone137_c (id := 8) (l := x76.Rolls) rfl p77) (.cons (.refl _) .nil))) ?_; rintro _ _ ⟨v78, rfl, rfl⟩
  refine sY (yv_nilCheck rfl rfl (.pt rfl rfl (ix_get' e76 (GEnt.av_eq _)))) ?_
  refine sY (yv_fieldAddr rfl fo47_4 rfl (.pt rfl rfl (ix_get' e76 (GEnt.av_eq _))) (.pt _ _ _ _ _)) ?_
  refine rsstore rfl rfl (yl_ob (ob' := (⟨47, 8, true, true, w3_1, (a1.Ents.map GEnt.av).set (Int.toNat a2) [int x76.Now, boo x76.Closed, lst 4 GPool.av x76.Pools, lst 1 fI x76.Bal, .sl 8 v78 0 x76.Rolls.length, lst 1 fI x76.Prices, lst 1 fI x76.Down, lst 8 GEnt.av x76.Ahead]⟩ : AObj)) (yl_store rfl sh45 rfl rfl rfl rfl rfl (ix_get' e76 (GEnt.av_eq _)) rfl rfl rfl) (ob_eq rfl)) ?_
  refine tr tbk 2 (.mk ?_)
  refine c_drawE [0, 1, 3, 7, 0, 0, 63, 127] (rl [(1, [7]), (2, [7]), (3, [7]), (5, [4]), (6, [8])] []) (rl [(7, [])] [4, 7, 8]) (rl [(7, false)] true) [0, 1, 2, 3, 4, 5, 6, 7] mixed (by kernel_rfl) ?_; intro K hK
  refine eM ?_
  refine eN (hr := set_get e76) ?_
  refine eF fo47_4 (hr := set_get e76) ?_
  refine eL sh45 (hr := set_get e76) ?_
  refine eM ?_
  refine eL sh54 ?_
  obtain ⟨x79, e79, h0⟩ := bind_e h0
  refine de_pure rfl rfl rfl rfl (fun H hH => yv_ixO rfl Tryz.underlying45 sh54 rfl rfl ((hH _ (by decide)).trans rfl) rfl rfl (Eq.symm rfl) (List.length_map _) e79) ?_
  obtain ⟨x80, e80, h0⟩ := bnd_e h0
  have fx80 := ix_set e79 e80; have lx80 := len_setV e80 (rfl : x76.Rolls.length = x76.Rolls.length)
  refine de_eff0 rfl rfl rfl rfl (Yield.weak (yl_ob (ob' := (⟨54, 11, true, true, v78, x80.map GRoll.av⟩ : AObj)) (yl_store rfl sh54 rfl rfl rfl rfl rfl (ix_get e79) rfl rfl rfl) (ob_eq (map_setV e80))) (fun _ h => h) (fun _ _ => trivial)) (by rintro _ _ ⟨rfl, rfl⟩; exact trivial) ?_; rintro _ _ ⟨rfl, rfl⟩
  refine de_nil (hK _ ?_)
  refine tc tbk 4 (.mk ?_)
  refine sS ⟨32, 10, true, true, v7, [[int a1.Master.Entities, int a1.Master.Periods, lst 1 fI a1.Master.Weights, lst 1 (fL 1 fI) a1.Master.Methods, lst 1 (fL 1 fI) a1.Master.Costs, .sl 7 w3_1 0 a1.Ents.length, lst 8 GReceipt.av a1.Receipts, lst 9 GSale.av a1.Sales, lst 6 GTransit.av a1.Transits, int a1.Done]]⟩ sh32 ?_
  refine tr tbk 2 (.mk ?_)
  obtain rfl := nxt_e h0
  refine wR hret (rC sh32 (rT .nil)) ?_
  exact CvL.tup (.cons (CvL.agg (.cons (.refl _) (.cons (.refl _) (.cons (.refl _) (.cons (.refl _) (.cons (.refl _) (.cons (cv_ov rfl rfl rfl rfl rfl (Eq.symm rfl) e76 (cvl_to (.cons (.refl _) (.cons (.refl _) (.cons (.refl _) (.cons (.refl _) (.cons (cv_lst rfl rfl rfl rfl rfl (Eq.symm lx80)) (.cons (.refl _) (.cons (.refl _) (.cons (.refl _) .nil)))))))) (GEnt.av_eq _))) (.cons (.refl _) (.cons (.refl _) (.cons (.refl _) (.cons (.refl _) .nil))))))))))) (.cons (.refl _) .nil))
  replace h0 := ct h0
  refine tc tbk 4 (.mk ?_)
  refine sS ⟨32, 10, true, true, v7, [(GState.av a1)]⟩ sh32 ?_
  refine tr tbk 2 (.mk ?_)
  obtain rfl := nxt_e h0
  refine wR hret (rC sh32 (rT .nil)) ?_
  exact .refl _
def d_ship_arrive (n : Nat) (a1 : GState) (a2 : GOp) : Option (GState × Int) :=
(show Option (Bool) from
bnd (decide (a2.Ref < 0)) fun x7 =>
cond x7 (some (true : Bool)) (bnd (decide (a2.Ref ≥ (a1.Transits.length : Int))) fun x8 =>
some (x8 : Bool))).bind <| fun y0_1 =>
cond y0_1 (some ((a1 : GState), (4 : Int))) ((ix a1.Transits a2.Ref).bind fun x9 =>
(d_stock_Ready a1 x9.To x9.Item).bind fun x11 =>
bnd (decide (x11 ≠ 0)) fun x12 =>
cond x12 (some ((a1 : GState), (x11 : Int))) (bnd (decide (a2.Qty > x9.Qty)) fun x13 =>
cond x13 (some ((a1 : GState), (5 : Int))) ((d_money_Part n x9.Value a2.Qty x9.Qty).bind fun x14 =>
(d_money_Part n x9.Profit a2.Qty x9.Qty).bind fun x15 =>
(d_stock_Bring n a1 x9.To x9.Item a2.Loc (⟨a2.Qty, x14, x15⟩ : GLayer)).bind fun x16 =>
bnd (decide (x16.2.2.2 ≠ 0)) fun x17 =>
cond x17 (some ((x16.1 : GState), (x16.2.2.2 : Int))) ((d_ship_line 0 x16.2.1).bind fun x18 =>
(d_ship_line 6 x16.2.2.1).bind fun x19 =>
bnd (w64 (0 - x14)) fun x20 =>
(d_ship_line 12 x20).bind fun x21 =>
(d_ship_post n x16.1 ([(⟨x9.To, ([x18, x19, x21] : List GLine)⟩ : Gentry)] : List Gentry)).bind fun x22 =>
bnd (decide (x22.2 ≠ 0)) fun x23 =>
cond x23 (some ((x22.1 : GState), (x22.2 : Int))) ((d_stock_Turn x22.1 x9.To x9.Item (⟨0, 0, 0, x16.2.1, 0, 0, 0, 0, 0, 0, 0⟩ : GRoll)).bind fun x24 =>
bnd (decide (x24.2 ≠ 0)) fun x25 =>
cond x25 (some ((x24.1 : GState), (x24.2 : Int))) (asrt (x24.1.Transits.length ≤ 68719476736) <|
bnd (w64 (x9.Qty - a2.Qty)) fun x28 =>
bnd (w64 (x9.Value - x14)) fun x29 =>
bnd (w64 (x9.Profit - x15)) fun x30 =>
(ix x24.1.Transits a2.Ref).bind fun x31 =>
bnd (x24.1.Transits.set (Int.toNat a2.Ref) ((⟨x31.From, x31.To, x31.Item, x28, x31.Value, x31.Profit⟩ : GTransit) : GTransit)) fun x32 =>
bnd (x32.set (Int.toNat a2.Ref) ((⟨x31.From, x31.To, x31.Item, x28, x29, x31.Profit⟩ : GTransit) : GTransit)) fun x33 =>
bnd (x33.set (Int.toNat a2.Ref) ((⟨x31.From, x31.To, x31.Item, x28, x29, x30⟩ : GTransit) : GTransit)) fun x34 =>
some (((⟨x24.1.Master, x24.1.Ents, x24.1.Receipts, x24.1.Sales, x34, x24.1.Done⟩ : GState) : GState), (0 : Int))))))))
theorem d_ship_arrive_c {n : Nat} {a1 : GState} {a2 : GOp} {r : GState × Int} (h0 : d_ship_arrive n a1 a2 = some r) : PP Tryz.prog 41 [.agg (GState.av a1), .agg (GOp.av a2)] (fun y => y = .tup [.agg (GState.av r.1), int r.2]) := by
  unfold d_ship_arrive at h0
  refine pp_of_pc (R0 := fun y H => Cv (frzH H) y (.tup [.agg (GState.av r.1), int r.2])) ?_ (fun y H hc => ⟨_, rfl, .tup (pvl2 ((fun (a : GState) => PV.agg (GState.pvc a)) (r.1)) (pvI (r.2))), hc⟩)
  refine pcw (c := _) Tryz.func41 rfl rfl ?_; intro Q hret hnorm
  refine tc tbk 2 (.mk ?_)
  refine sB 1 fun v3 => ?_
  refine sB 2 fun v4 => ?_
  refine sA 3 z32 fun v5 => ?_
  refine tr tbk 4 (.mk ?_)
  refine jn h0 [2, 3, 4, 5] [1, 2, 3] (fun (a : Bool) (k : Unit) => [(23, boo a)]) (fun a k => []) ⟨fun j6 h1 => ?_, ?_⟩
  refine tc tbk 3 (.mk ?_)
  refine nb tbk h1 fun x7 h1 => ?_
  refine tr tbk 1 (.mk ?_)
  cases x7
  replace h1 := cf h1
  refine tr tbk 4 (.mk ?_)
  refine sY (yv_len_sl rfl Tryz.underlying30 rfl (lst_len _)) ?_
  refine nb tbk h1 fun x8 h1 => ?_
  refine tr tbk 2 (.mk ?_)
  exact lf h1 () leA
  replace h1 := ct h1
  refine tr tbk 8 (.mk ?_)
  exact lf h1 () leA
  rintro y0_1 _ h0
  cases y0_1
  replace h0 := cf h0
  refine tc tbk 8 (.mk ?_)
  obtain ⟨x9, e9, h0⟩ := bind_e h0
  refine sY (yv_ixT rfl Tryz.underlying30 sh56 rfl rfl e9) ?_
  refine tr tbk 1 (.mk ?_)
  refine sA 4 z56 fun v10 => ?_
  refine sS ⟨56, 6, true, true, v10, [[int x9.From, int x9.To, int x9.Item, int x9.Qty, int x9.Value, int x9.Profit]]⟩ sh56 ?_
  refine tr tbk 9 (.mk ?_)
  obtain ⟨x11, e11, h0⟩ := bind_e h0
  refine sC cal26 (d_stock_Ready_c e11) ?_
  refine tr tbk 5 (.mk ?_)
  refine nb tbk h0 fun x12 h0 => ?_
  refine tr tbk 1 (.mk ?_)
  cases x12
  replace h0 := cf h0
  refine tc tbk 9 (.mk ?_)
  refine nb tbk h0 fun x13 h0 => ?_
  refine tr tbk 1 (.mk ?_)
  cases x13
  replace h0 := cf h0
  refine tc tbk 3 (.mk ?_)
  refine c_drawE [0, 1, 0, 4, 0, 16, 63, 0, 128, 0, 512, 0, 2048, 8191, 16383, 32767] (rl [(0, [4]), (1, [4]), (2, [2]), (3, [2]), (4, [4]), (5, [4]), (7, [4]), (8, [4]), (9, [2]), (10, [2]), (11, [4]), (12, [4])] []) (fun i => [2, 4]) (fun i => true) [0, 1, 2, 3, 4, 5, 6, 7, 8, 9, 10, 11, 12, 13, 14, 15] mixed (by kernel_rfl) ?_; intro K hK
  refine eF fo56_4 ?_
  refine eL sh3 ?_
  refine eF fo38_5 ?_
  refine eL sh3 ?_
  refine eF fo56_3 ?_
  refine eL sh3 ?_
  obtain ⟨x14, e14, h0⟩ := bind_e h0
  refine eP (fun H hH => yv_callP rfl rfl (.cons rfl (.cons rfl (.cons rfl .nil))) cal86 (CvL.refl _) (d_money_Part_c e14)) ?_
  refine eF fo56_5 ?_
  refine eL sh3 ?_
  refine eF fo38_5 ?_
  refine eL sh3 ?_
  refine eF fo56_3 ?_
  refine eL sh3 ?_
  obtain ⟨x15, e15, h0⟩ := bind_e h0
  refine eP (fun H hH => yv_callP rfl rfl (.cons rfl (.cons rfl (.cons rfl .nil))) cal86 (CvL.refl _) (d_money_Part_c e15)) ?_
  iterate 2 refine eA ?_
  refine de_nil (hK _ ?_)
  refine tc tbk 14 (.mk ?_)
  obtain ⟨x16, e16, h0⟩ := bind_e h0
  refine sC cal24 (d_stock_Bring_c e16) ?_
  refine tr tbk 5 (.mk ?_)
  refine sS ⟨32, 10, true, true, v3, [(GState.av x16.1)]⟩ sh32 ?_
  refine tr tbk 8 (.mk ?_)
  refine nb tbk h0 fun x17 h0 => ?_
  refine tr tbk 1 (.mk ?_)
  cases x17
  replace h0 := cf h0
  refine tc tbk 3 (.mk ?_)
  refine c_drawE [0, 0, 2, 0, 8, 0, 56, 0, 128, 504, 1016, 2046, 4094, 8191, 16383, 32767, 32767, 65535, 262143] (rl [(0, [1]), (1, [4]), (2, [4])] []) (rl [(17, [])] [1, 4]) (rl [(17, false)] true) [0, 1, 2, 3, 4, 5, 6, 7, 8, 9, 10, 11, 12, 13, 14, 15, 16, 17, 18] mixed (by kernel_rfl) ?_; intro K hK
  refine eL sh32 ?_
  refine eF fo56_1 ?_
  refine eL sh3 ?_
  refine eM ?_
  obtain ⟨x18, e18, h0⟩ := bind_e h0
  refine eP (fun H hH => yv_callP rfl rfl (.cons rfl (.cons rfl .nil)) cal83 (CvL.refl _) (d_ship_line_c e18)) ?_
  refine eM ?_
  obtain ⟨x19, e19, h0⟩ := bind_e h0
  refine eP (fun H hH => yv_callP rfl rfl (.cons rfl (.cons rfl .nil)) cal83 (CvL.refl _) (d_ship_line_c e19)) ?_
  refine eM ?_
  obtain ⟨x20, e20, h0⟩ := bnd_e h0
  refine eP (fun H hH => yv_neg rfl rfl e20) ?_
  obtain ⟨x21, e21, h0⟩ := bind_e h0
  refine eP (fun H hH => yv_callP rfl rfl (.cons rfl (.cons rfl .nil)) cal83 (CvL.refl _) (d_ship_line_c e21)) ?_
  refine eP (fun H hH => yv_to (y := lst 2 GLine.av ([x18, x19, x21] : List GLine)) (yv_buildSlice (ps := [(0, _), (1, _), (2, _)]) (rows := [[int x18.Account, int x18.Amount], [int x19.Account, int x19.Amount], [int x21.Account, int x21.Amount]]) rfl Tryz.underlying82 bz81 (.cons rfl (.cons rfl (.cons rfl .nil))) (by kernel_rfl) rfl rfl rfl) rfl) ?_
  refine eP (fun H hH => yv_build (cs := [int x9.To, lst 2 GLine.av ([x18, x19, x21] : List GLine)]) (ps := [(0, _), (1, _)]) rfl pl127 z127 rfl (.cons rfl (.cons rfl .nil)) (by kernel_rfl)) ?_
  refine eP (fun H hH => yv_to (y := lst 2 Gentry.av ([(⟨x9.To, ([x18, x19, x21] : List GLine)⟩ : Gentry)] : List Gentry)) (yv_buildSlice (ps := [(0, _)]) (rows := [[int x9.To, lst 2 GLine.av ([x18, x19, x21] : List GLine)]]) rfl Tryz.underlying174 bz127 (.cons rfl .nil) (by kernel_rfl) rfl rfl rfl) rfl) ?_
  obtain ⟨x22, e22, h0⟩ := bind_e h0
  refine eP (fun H hH => yv_callP rfl rfl (.cons rfl (.cons rfl .nil)) cal82 (CvL.refl _) (d_ship_post_c e22)) ?_
  refine eM ?_
  iterate 2 refine eX ?_
  refine de_eff0 rfl rfl rfl rfl (Yield.weak (yl_ob (ob' := (⟨32, 10, true, true, v3, [(GState.av x22.1)]⟩ : AObj)) (yl_store rfl sh32 rfl rfl rfl rfl rfl rfl rfl rfl rfl) rfl) (fun _ h => h) (fun _ _ => trivial)) (by rintro _ _ ⟨rfl, rfl⟩; exact trivial) ?_; rintro _ _ ⟨rfl, rfl⟩
  refine eA ?_
  refine de_nil (hK _ ?_)
  refine tc tbk 4 (.mk ?_)
  refine nb tbk h0 fun x23 h0 => ?_
  refine tr tbk 1 (.mk ?_)
  cases x23
  replace h0 := cf h0
  refine tc tbk 11 (.mk ?_)
  refine sY (yv_build (cs := [int 0, int 0, int 0, int x16.2.1, int 0, int 0, int 0, int 0, int 0, int 0, int 0]) (ps := [(3, _)]) rfl pl54 z54 rfl (.cons rfl .nil) (by kernel_rfl)) ?_
  obtain ⟨x24, e24, h0⟩ := bind_e h0
  refine sC cal84 (d_stock_Turn_c e24) ?_
  refine tr tbk 3 (.mk ?_)
  refine sS ⟨32, 10, true, true, v3, [(GState.av x24.1)]⟩ sh32 ?_
  refine tr tbk 5 (.mk ?_)
  refine nb tbk h0 fun x25 h0 => ?_
  refine tr tbk 1 (.mk ?_)
  cases x25
  replace h0 := cf h0
  refine tc tbk 6 (.mk ?_)
  obtain ⟨p26, h0⟩ := asrt_e h0
  refine rse rfl rfl rfl (yl_call rfl rfl (.cons rfl .nil) cal85 (pc_cv (clone85_c (id := 5) (l := x24.1.Transits) rfl p26) (.cons (.refl _) .nil))) ?_; rintro _ _ ⟨v27, rfl, rfl⟩
  refine tr tbk 1 (.mk ?_)
  refine sS ⟨32, 10, true, true, v3, [[int x24.1.Master.Entities, int x24.1.Master.Periods, lst 1 fI x24.1.Master.Weights, lst 1 (fL 1 fI) x24.1.Master.Methods, lst 1 (fL 1 fI) x24.1.Master.Costs, lst 8 GEnt.av x24.1.Ents, lst 8 GReceipt.av x24.1.Receipts, lst 9 GSale.av x24.1.Sales, .sl 5 v27 0 x24.1.Transits.length, int x24.1.Done]]⟩ sh30 ?_
  refine tr tbk 2 (.mk ?_)
  refine c_drawE [0, 1, 0, 4, 0, 16, 0, 64, 0, 256, 0, 1024, 0, 4096, 0, 16384, 61440, 0, 131072, 0, 917504, 0, 2097152, 0, 14680064, 126991, 33681423, 100790287, 236974335, 505409791, 1042280703, 2147483647, 4294967295, 8589934591] (rl [(0, [1]), (1, [1]), (2, [2]), (3, [2]), (4, [1]), (5, [1]), (6, [2]), (7, [2]), (8, [1]), (9, [1]), (10, [2]), (11, [2]), (12, [4]), (13, [4]), (14, [2]), (15, [2]), (17, [4]), (18, [4]), (21, [4]), (22, [4]), (25, [5]), (26, [5]), (28, [5]), (29, [5]), (31, [5]), (32, [5])] []) (rl [(27, [1, 2, 4]), (30, [1, 2, 4]), (33, [])] [1, 2, 4, 5]) (rl [(27, false), (30, false), (33, false)] true) [0, 1, 2, 3, 4, 5, 6, 7, 8, 9, 10, 11, 12, 13, 14, 15, 16, 17, 18, 19, 20, 21, 22, 23, 24, 25, 26, 27, 28, 29, 30, 31, 32, 33] mixed (by kernel_rfl) ?_; intro K hK
  refine eF fo32_4 ?_
  refine eL sh30 ?_
  refine eF fo38_7 ?_
  refine eL sh3 ?_
  refine eF fo32_4 ?_
  refine eL sh30 ?_
  refine eF fo38_7 ?_
  refine eL sh3 ?_
  refine eF fo32_4 ?_
  refine eL sh30 ?_
  refine eF fo38_7 ?_
  refine eL sh3 ?_
  refine eF fo56_3 ?_
  refine eL sh3 ?_
  refine eF fo38_5 ?_
  refine eL sh3 ?_
  obtain ⟨x28, e28, h0⟩ := bnd_e h0
  refine eP (fun H hH => yv_sub rfl rfl rfl e28) ?_
  refine eF fo56_4 ?_
  refine eL sh3 ?_
  refine eM ?_
  obtain ⟨x29, e29, h0⟩ := bnd_e h0
  refine eP (fun H hH => yv_sub rfl rfl rfl e29) ?_
  refine eF fo56_5 ?_
  refine eL sh3 ?_
  refine eM ?_
  obtain ⟨x30, e30, h0⟩ := bnd_e h0
  refine eP (fun H hH => yv_sub rfl rfl rfl e30) ?_
  obtain ⟨x31, e31, h0⟩ := bind_e h0
  refine de_pure rfl rfl rfl rfl (fun H hH => yv_ixO rfl Tryz.underlying30 sh56 rfl rfl ((hH _ (by decide)).trans rfl) rfl rfl (Eq.symm rfl) (List.length_map _) e31) ?_
  refine eF fo56_3 (hr := ix_get e31) ?_
  obtain ⟨x32, e32, h0⟩ := bnd_e h0
  have fx32 := ix_set e31 e32; have lx32 := len_setV e32 (rfl : x24.1.Transits.length = x24.1.Transits.length)
  refine de_eff0 rfl rfl rfl rfl (Yield.weak (yl_ob (ob' := (⟨56, 6, true, true, v27, x32.map GTransit.av⟩ : AObj)) (yl_store rfl sh3 rfl rfl rfl rfl rfl (ix_get e31) rfl rfl rfl) (ob_eq (map_setV e32))) (fun _ h => h) (fun _ _ => trivial)) (by rintro _ _ ⟨rfl, rfl⟩; exact ⟨rfl, rfl, rfl, trivial⟩) ?_; rintro _ _ ⟨rfl, rfl⟩
  refine de_pure rfl rfl rfl rfl (fun H hH => yv_ixO rfl Tryz.underlying30 sh56 rfl rfl ((hH _ (by decide)).trans rfl) rfl rfl (Eq.symm lx32) (List.length_map _) fx32) ?_
  refine eF fo56_4 (hr := ix_get fx32) ?_
  obtain ⟨x33, e33, h0⟩ := bnd_e h0
  have fx33 := ix_set fx32 e33; have lx33 := len_setV e33 lx32
  refine de_eff0 rfl rfl rfl rfl (Yield.weak (yl_ob (ob' := (⟨56, 6, true, true, v27, x33.map GTransit.av⟩ : AObj)) (yl_store rfl sh3 rfl rfl rfl rfl rfl (ix_get fx32) rfl rfl rfl) (ob_eq (map_setV e33))) (fun _ h => h) (fun _ _ => trivial)) (by rintro _ _ ⟨rfl, rfl⟩; exact ⟨rfl, rfl, rfl, trivial⟩) ?_; rintro _ _ ⟨rfl, rfl⟩
  refine de_pure rfl rfl rfl rfl (fun H hH => yv_ixO rfl Tryz.underlying30 sh56 rfl rfl ((hH _ (by decide)).trans rfl) rfl rfl (Eq.symm lx33) (List.length_map _) fx33) ?_
  refine eF fo56_5 (hr := ix_get fx33) ?_
  obtain ⟨x34, e34, h0⟩ := bnd_e h0
  have fx34 := ix_set fx33 e34; have lx34 := len_setV e34 lx33
  refine de_eff0 rfl rfl rfl rfl (Yield.weak (yl_ob (ob' := (⟨56, 6, true, true, v27, x34.map GTransit.av⟩ : AObj)) (yl_store rfl sh3 rfl rfl rfl rfl rfl (ix_get fx33) rfl rfl rfl) (ob_eq (map_setV e34))) (fun _ h => h) (fun _ _ => trivial)) (by rintro _ _ ⟨rfl, rfl⟩; exact trivial) ?_; rintro _ _ ⟨rfl, rfl⟩
  refine de_nil (hK _ ?_)
  refine tc tbk 3 (.mk ?_)
  refine sS ⟨32, 10, true, true, v5, [[int x24.1.Master.Entities, int x24.1.Master.Periods, lst 1 fI x24.1.Master.Weights, lst 1 (fL 1 fI) x24.1.Master.Methods, lst 1 (fL 1 fI) x24.1.Master.Costs, lst 8 GEnt.av x24.1.Ents, lst 8 GReceipt.av x24.1.Receipts, lst 9 GSale.av x24.1.Sales, .sl 5 v27 0 x24.1.Transits.length, int x24.1.Done]]⟩ sh32 ?_
  refine tr tbk 2 (.mk ?_)
  obtain rfl := nxt_e h0
  refine wR hret (rC sh32 (rT .nil)) ?_
  exact CvL.tup (.cons (CvL.agg (.cons (.refl _) (.cons (.refl _) (.cons (.refl _) (.cons (.refl _) (.cons (.refl _) (.cons (.refl _) (.cons (.refl _) (.cons (.refl _) (.cons (cv_lst rfl rfl rfl rfl rfl (Eq.symm lx34)) (.cons (.refl _) .nil))))))))))) (.cons (.refl _) .nil))
  replace h0 := ct h0
  refine tc tbk 5 (.mk ?_)
  refine sS ⟨32, 10, true, true, v5, [(GState.av x24.1)]⟩ sh32 ?_
  refine tr tbk 2 (.mk ?_)
  obtain rfl := nxt_e h0
  refine wR hret (rC sh32 (rT .nil)) ?_
  exact .refl _
  replace h0 := ct h0
  refine tc tbk 5 (.mk ?_)
  refine sS ⟨32, 10, true, true, v5, [(GState.av x22.1)]⟩ sh32 ?_
  refine tr tbk 2 (.mk ?_)
  obtain rfl := nxt_e h0
  refine wR hret (rC sh32 (rT .nil)) ?_
  exact .refl _
  replace h0 := ct h0
  refine tc tbk 5 (.mk ?_)
  refine sS ⟨32, 10, true, true, v5, [(GState.av x16.1)]⟩ sh32 ?_
  refine tr tbk 2 (.mk ?_)
  obtain rfl := nxt_e h0
  refine wR hret (rC sh32 (rT .nil)) ?_
  exact .refl _
  replace h0 := ct h0
  refine tc tbk 4 (.mk ?_)
  refine sS ⟨32, 10, true, true, v5, [(GState.av a1)]⟩ sh32 ?_
  refine tr tbk 2 (.mk ?_)
  obtain rfl := nxt_e h0
  refine wR hret (rC sh32 (rT .nil)) ?_
  exact .refl _
  replace h0 := ct h0
  refine tc tbk 5 (.mk ?_)
  refine sS ⟨32, 10, true, true, v5, [(GState.av a1)]⟩ sh32 ?_
  refine tr tbk 2 (.mk ?_)
  obtain rfl := nxt_e h0
  refine wR hret (rC sh32 (rT .nil)) ?_
  exact .refl _
  replace h0 := ct h0
  refine tc tbk 4 (.mk ?_)
  refine sS ⟨32, 10, true, true, v5, [(GState.av a1)]⟩ sh32 ?_
  refine tr tbk 2 (.mk ?_)
  obtain rfl := nxt_e h0
  refine wR hret (rC sh32 (rT .nil)) ?_
  exact .refl _
def d_fifo_has_L0 (a1 : List GLayer) : Nat → Int → Int → Option ((Unit) ⊕ (Bool))
  | 0, _, _ => none
  | n + 1, y0_1, y0_2 =>
    bnd (decide (y0_2 < (a1.length : Int))) fun x4 =>
    cond x4 ((ix a1 y0_2).bind fun x5 =>
    bnd (if 0 > x5.Qty then 0 else x5.Qty) fun x7 =>
    bnd (if y0_1 < x7 then y0_1 else x7) fun x8 =>
    bnd (w64 (y0_1 - x8)) fun x9 =>
    bnd (decide (x9 = 0)) fun x10 =>
    cond x10 (esc (some ((true : Bool)))) (bnd (w64 (y0_2 + 1)) fun x11 =>
    d_fifo_has_L0 a1 n (x9 : Int) (x11 : Int))) (brk ())
def d_fifo_has (n : Nat) (a1 : List GLayer) (a2 : Int) : Option (Bool) :=
(show Option ((Unit) ⊕ (Bool)) from
d_fifo_has_L0 a1 n (a2 : Int) (0 : Int)).bind <| sel <| fun _ =>
some ((false : Bool))
theorem d_fifo_has_c {n : Nat} {a1 : List GLayer} {a2 : Int} {r : Bool} (h0 : d_fifo_has n a1 a2 = some r) : PP Tryz.prog 269 [lst 3 GLayer.av a1, int a2] (fun y => y = boo r) := by
  unfold d_fifo_has at h0
  refine pp_of_pc (R0 := fun y H => Cv (frzH H) y (boo r)) ?_ (fun y H hc => ⟨_, rfl, pvB r, hc⟩)
  refine pcw (c := _) Tryz.func269 rfl rfl ?_; intro Q hret hnorm
  refine tc tbk 8 (.mk ?_)
  refine sY (yv_len_sl rfl Tryz.underlying39 rfl (lst_len _)) ?_
  refine tr tbk 2 (.mk ?_)
  refine jnE h0 [4] [] (fun (a : Unit) (k : Unit) => []) (fun a k => []) ⟨fun j3 h1 h0 => ?_, ?_⟩
  refine tc tbk 1 (.mk ?_)
  refine lp (fun n (a : Int × Int) => d_fifo_has_L0 a1 n a.1 a.2) ((a2 : Int), (0 : Int)) () h1 [4, 7, 8] [] (fun (a : Int × Int) (k : Unit) => [(1, int a.1), (9, int a.2)]) (fun a k => []) (fun _ => rfl) ⟨leA, ?_⟩
  rintro n ⟨y0_1, y0_2⟩ _ hm h1
  replace h1 : d_fifo_has_L0 a1 (n + 1) y0_1 y0_2 = some _ := h1
  rw [d_fifo_has_L0] at h1
  refine tc tbk 2 (.mk ?_)
  refine nb tbk h1 fun x4 h1 => ?_
  refine tr tbk 2 (.mk ?_)
  cases x4
  replace h1 := cf h1
  refine tc tbk 2 (.mk ?_)
  exact lfE h1 () leA
  replace h1 := ct h1
  refine tc tbk 6 (.mk ?_)
  obtain ⟨x5, e5, h1⟩ := bind_e h1
  refine sY (yv_ixT rfl Tryz.underlying39 sh50 rfl rfl e5) ?_
  refine tr tbk 1 (.mk ?_)
  refine sA 1 z50 fun v6 => ?_
  refine sS ⟨50, 3, true, true, v6, [[int x5.Qty, int x5.Value, int x5.Profit]]⟩ sh50 ?_
  refine tr tbk 6 (.mk ?_)
  obtain ⟨x7, e7, h1⟩ := bnd_e h1
  refine sY (yv_max rfl rfl rfl e7) ?_
  refine tr tbk 1 (.mk ?_)
  obtain ⟨x8, e8, h1⟩ := bnd_e h1
  refine sY (yv_min rfl rfl rfl e8) ?_
  refine ni tbk h1 fun x9 h1 => ?_
  refine tr tbk 5 (.mk ?_)
  refine nb tbk h1 fun x10 h1 => ?_
  refine tr tbk 1 (.mk ?_)
  cases x10
  replace h1 := cf h1
  refine tc tbk 4 (.mk ?_)
  refine ni tbk h1 fun x11 h1 => ?_
  refine tr tbk 2 (.mk ?_)
  exact bk (x9, x11) () h1 leA
  replace h1 := ct h1
  refine tc tbk 5 (.mk ?_)
  obtain ⟨c12, hX, hj⟩ := esc_e h1; subst hj; replace h0 := hX.trans (sel_r h0)
  obtain rfl := nxt_e h0
  refine wR hret (rT .nil) ?_
  exact .refl _
  rintro _ _ h0
  refine tc tbk 4 (.mk ?_)
  obtain rfl := nxt_e h0
  refine wR hret (rT .nil) ?_
  exact .refl _
end Go.Pv
