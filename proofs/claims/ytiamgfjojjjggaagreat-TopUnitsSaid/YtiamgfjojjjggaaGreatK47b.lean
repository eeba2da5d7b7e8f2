import Derived.Test.YtiamgfjojjjggaaGreatK47
set_option linter.unusedVariables false
namespace Go.Pv
open Go.Proofs
set_option maxRecDepth 10000
set_option maxHeartbeats 1000000
def d_voucher_Plain_L0 (a1 : List GLine) : Nat → Int → Option ((Unit) ⊕ ((Int)))
  | 0, _ => none
  | n + 1, y0_1 =>
    bnd (decide (y0_1 < (a1.length : Int))) fun x5 =>
    cond x5 ((ix a1 y0_1).bind fun x6 =>
    (d_voucher_Plain_1 x6).bind fun x7 =>
    cond x7 (esc (some (y0_1 : Int))) (bnd (w64 (y0_1 + 1)) fun x8 =>
    d_voucher_Plain_L0 a1 n (x8 : Int))) (brk ())
def d_voucher_Plain_L1 (a1 : List GLine) : Nat → Option (Unit)
  | 0 => none
  | n + 1 =>
    bnd (decide (20 ≤ (a1.length : Int))) fun x18 =>
    asrt (x18 = false) <|
    some ()
def d_voucher_Plain_L3 : Nat → Int → (List GLine) → Option ((List GLine))
  | 0, _, _ => none
  | n + 1, y9_1, y9_2 =>
    (show Option (Bool) from
    bnd (decide (y9_1 > 0)) fun x25 =>
    cond x25 ((ix y9_2 y9_1).bind fun x26 =>
    bnd (w64 (y9_1 - 1)) fun x27 =>
    (ix y9_2 x27).bind fun x28 =>
    (show Option ((Int)) from
    (d_voucher_Plain_2 x26).bind fun x32 =>
    (d_voucher_Plain_2 x28).bind fun x33 =>
    (d_cmp_Compare_int x32 x33).bind fun x34 =>
    some (x34 : Int)).bind <| fun y10_1 =>
    bnd (decide (y10_1 < 0)) fun x35 =>
    some (x35 : Bool)) (some (false : Bool))).bind <| fun y12_1 =>
    cond y12_1 (bnd (w64 (y9_1 - 1)) fun x36 =>
    bnd (w64 (y9_1 - 1)) fun x37 =>
    (ix y9_2 x37).bind fun x38 =>
    (ix y9_2 y9_1).bind fun x39 =>
    bnd (y9_2.set (Int.toNat y9_1) (x38 : GLine)) fun x40 =>
    (ix x40 x36).bind fun x41 =>
    bnd (x40.set (Int.toNat x36) (x39 : GLine)) fun x42 =>
    bnd (w64 (y9_1 - 1)) fun x43 =>
    d_voucher_Plain_L3 n (x43 : Int) (x42 : List GLine)) (some (y9_2 : List GLine))
def d_voucher_Plain_L2 (a1 : List GLine) : Nat → Int → (List GLine) → Option ((List GLine))
  | 0, _, _ => none
  | n + 1, y8_1, y8_2 =>
    bnd (decide (y8_1 < (a1.length : Int))) fun x21 =>
    cond x21 ((show Option ((List GLine)) from
    (show Option ((List GLine)) from
    d_voucher_Plain_L3 n (y8_1 : Int) (y8_2 : List GLine)).bind <| fun y13_1 =>
    some (y13_1 : List GLine)).bind <| fun y14_1 =>
    bnd (w64 (y8_1 + 1)) fun x44 =>
    d_voucher_Plain_L2 a1 n (x44 : Int) (y14_1 : List GLine)) (some (y8_2 : List GLine))
def d_voucher_Plain_L4 (a1 : List GLine) : Nat → Option (Unit)
  | 0 => none
  | n + 1 =>
    bnd (decide (20 < (a1.length : Int))) fun x47 =>
    asrt (x47 = false) <|
    some ()
def d_voucher_Plain_L5 (a1 : List GLine) (y25_1 : List GLine) : Nat → Int → (List GLine) → Option ((List GLine))
  | 0, _, _ => none
  | n + 1, y26_2, y26_3 =>
    bnd (decide (y26_2 < (a1.length : Int))) fun x51 =>
    cond x51 ((ix y25_1 y26_2).bind fun x52 =>
    bnd (w64 ((y26_3.length : Int) - 1)) fun x54 =>
    (show Option (Bool) from
    bnd (decide (x54 ≥ 0)) fun x56 =>
    cond x56 ((ix y26_3 x54).bind fun x57 =>
    bnd (decide (x57.Account = x52.Account)) fun x58 =>
    some (x58 : Bool)) (some (false : Bool))).bind <| fun y27_1 =>
    asrt (y27_1 = false) <|
    bnd (y26_3 ++ ([x52] : List GLine)) fun x59 =>
    asrt (x59.length ≤ 68719476736) <|
    bnd (w64 (y26_2 + 1)) fun x62 =>
    d_voucher_Plain_L5 a1 y25_1 n (x62 : Int) (x59 : List GLine)) (some (y26_3 : List GLine))
def d_voucher_Plain_L6 (y28_2 : List GLine) : Nat → Int → Option ((Unit) ⊕ ((Int)))
  | 0, _ => none
  | n + 1, y29_1 =>
    bnd (decide (y29_1 < (y28_2.length : Int))) fun x66 =>
    cond x66 ((ix y28_2 y29_1).bind fun x67 =>
    (d_voucher_Plain_3 x67).bind fun x68 =>
    cond x68 (esc (some (y29_1 : Int))) (bnd (w64 (y29_1 + 1)) fun x69 =>
    d_voucher_Plain_L6 y28_2 n (x69 : Int))) (brk ())
def d_voucher_Plain_L7 : Nat → Int → Int → (List GLine) → Option (Int × (List GLine))
  | 0, _, _, _ => none
  | n + 1, y33_1, y33_2, y33_3 =>
    bnd (decide (y33_2 < (y33_3.length : Int))) fun x74 =>
    cond x74 ((show Option (Int × (List GLine)) from
    (ix y33_3 y33_2).bind fun x76 =>
    (d_voucher_Plain_3 x76).bind fun x78 =>
    bnd (!x78) fun x79 =>
    cond x79 ((ix y33_3 y33_1).bind fun x80 =>
    bnd (y33_3.set (Int.toNat y33_1) (x76 : GLine)) fun x81 =>
    bnd (w64 (y33_1 + 1)) fun x82 =>
    some ((x82 : Int), (x81 : List GLine))) (some ((y33_1 : Int), (y33_3 : List GLine)))).bind <| p2 fun (y34_1 : Int) (y34_2 : List GLine) =>
    bnd (w64 (y33_2 + 1)) fun x83 =>
    d_voucher_Plain_L7 n (y34_1 : Int) (x83 : Int) (y34_2 : List GLine)) (some ((y33_1 : Int), (y33_3 : List GLine)))
def d_voucher_Plain (n : Nat) (a1 : List GLine) : Option ((List GLine) × Int) :=
(show Option ((Bool)) from
(show Option ((Int)) from
(show Option ((Unit) ⊕ ((Int))) from
d_voucher_Plain_L0 a1 n (0 : Int)).bind <| sel <| fun _ =>
some ((-1) : Int)).bind <| fun y3_1 =>
bnd (decide (y3_1 ≥ 0)) fun x10 =>
some (x10 : Bool)).bind <| fun y5_1 =>
asrt (y5_1 = false) <|
asrt (a1.length ≤ 68719476736) <|
(show Option (((List GLine))) from
(show Option (((List GLine))) from
(show Option (((List GLine))) from
(show Option (Unit) from
d_voucher_Plain_L1 a1 n).bind <| fun _ =>
(show Option (((List GLine))) from
(show Option ((List GLine)) from
d_voucher_Plain_L2 a1 n (1 : Int) (a1 : List GLine)).bind <| fun y15_1 =>
some (y15_1 : List GLine)).bind <| fun y17_1 =>
asrt (y17_1.length = a1.length) <|
(show Option (Unit) from
d_voucher_Plain_L4 a1 n).bind <| fun _ =>
some (y17_1 : List GLine)).bind <| fun y21_1 =>
some (y21_1 : List GLine)).bind <| fun y23_1 =>
some (y23_1 : List GLine)).bind <| fun y25_1 =>
asrt (y25_1.length = a1.length) <|
(show Option ((List GLine)) from
d_voucher_Plain_L5 a1 y25_1 n (0 : Int) (([] : List GLine) : List GLine)).bind <| fun y28_2 =>
(show Option ((Nat × Nat × (List GLine))) from
(show Option ((Int)) from
(show Option ((Unit) ⊕ ((Int))) from
d_voucher_Plain_L6 y28_2 n (0 : Int)).bind <| sel <| fun _ =>
some ((-1) : Int)).bind <| fun y32_1 =>
bnd (decide (y32_1 = (-1))) fun x71 =>
cond x71 (some ((0 : Nat), (y28_2.length : Nat), (y28_2 : List GLine))) (bnd (w64 (y32_1 + 1)) fun x72 =>
(show Option (Int × (List GLine)) from
d_voucher_Plain_L7 n (y32_1 : Int) (x72 : Int) (y28_2 : List GLine)).bind <| p2 fun (y35_1 : Int) (y35_2 : List GLine) =>
asrt ((0 : Int) ≤ y35_1 ∧ y35_1 < (y35_2.length : Int)) <|
bnd (y35_2.take (0 + y35_1.toNat)) fun x85 =>
asrt ((0 : Int) ≤ y35_1 ∧ y35_1 ≤ (y35_2.length : Int)) <|
some (((0 + 0) : Nat), ((y35_1.toNat - 0) : Nat), (x85 : List GLine)))).bind <| p2 fun (y36_1 : Nat) (q0 : Nat × (List GLine)) => (p2 fun (y36_2 : Nat) (y36_3 : List GLine) =>
asrt (y36_1 + y36_2 ≤ y36_3.length) <|
some (((((y36_3).drop y36_1).take y36_2) : List GLine), (0 : Int))) q0
theorem d_voucher_Plain_c {n : Nat} {a1 : List GLine} {r : (List GLine) × Int} (h0 : d_voucher_Plain n a1 = some r) : PP Tryz.prog 84 [lst 2 GLine.av a1] (fun y => y = .tup [lst 2 GLine.av r.1, int r.2]) := by
  unfold d_voucher_Plain at h0
  refine pp_of_pc (R0 := fun y H => Cv (frzH H) y (.tup [lst 2 GLine.av r.1, int r.2])) ?_ (fun y H hc => ⟨_, rfl, .tup (pvl2 ((pvLs GLine.pvc) (r.1)) (pvI (r.2))), hc⟩)
  refine pcw (c := _) Tryz.func84 rfl rfl ?_; intro Q hret hnorm
  refine tc tbk 9 (.mk ?_)
  obtain ⟨j2, h1, h0⟩ := bind_e h0
  refine rse (Out := fun y H' => (∃ (a : Bool) (k : Unit), a = j2 ∧ y = boo a ∧ H' = hk [])) rfl rfl rfl (yl_call rfl rfl (.cons rfl (.cons rfl .nil)) cal127 ?_) ?_
  refine pcw (c := _) Tryz.func127 rfl rfl ?_; intro Q hret hnorm
  refine tc tbk 8 (.mk ?_)
  obtain ⟨j3, h2, h1⟩ := bind_e h1
  refine rse (Out := fun y H' => (∃ (a : Int) (k : Unit), a = j3 ∧ y = int a ∧ H' = hk [])) rfl rfl rfl (yl_call rfl rfl (.cons rfl (.cons rfl .nil)) cal175 ?_) ?_
  refine pcw (c := _) Tryz.func175 rfl rfl ?_; intro Q hret hnorm
  refine tc tbk 8 (.mk ?_)
  refine sY (yv_len_sl rfl Tryz.underlying109 rfl (lst_len _)) ?_
  refine tr tbk 2 (.mk ?_)
  refine jnE h2 [4] [] (fun (a : Unit) (k : Unit) => []) (fun a k => []) ⟨fun j4 h3 h2 => ?_, ?_⟩
  refine tc tbk 1 (.mk ?_)
  refine lp (fun n (a : Int) => d_voucher_Plain_L0 a1 n a) (0 : Int) () h3 [0, 1, 4, 7] [] (fun (a : Int) (k : Unit) => [(8, int a)]) (fun a k => []) (fun _ => rfl) ⟨leA, ?_⟩
  rintro n y0_1 _ hm h3
  replace h3 : d_voucher_Plain_L0 a1 (n + 1) y0_1 = some _ := h3
  rw [d_voucher_Plain_L0] at h3
  refine tc tbk 2 (.mk ?_)
  refine nb tbk h3 fun x5 h3 => ?_
  refine tr tbk 2 (.mk ?_)
  cases x5
  replace h3 := cf h3
  refine tc tbk 2 (.mk ?_)
  exact lfE h3 () leA
  replace h3 := ct h3
  refine tc tbk 14 (.mk ?_)
  obtain ⟨x6, e6, h3⟩ := bind_e h3
  refine sY (yv_ixT rfl Tryz.underlying109 sh108 rfl rfl e6) ?_
  refine tr tbk 1 (.mk ?_)
  obtain ⟨x7, e7, h3⟩ := bind_e h3
  refine sC cal128 (d_voucher_Plain_1_c e7) ?_
  refine tr tbk 1 (.mk ?_)
  cases x7
  replace h3 := cf h3
  refine tc tbk 4 (.mk ?_)
  refine ni tbk h3 fun x8 h3 => ?_
  refine tr tbk 2 (.mk ?_)
  exact bk x8 () h3 leA
  replace h3 := ct h3
  refine tc tbk 6 (.mk ?_)
  obtain ⟨c9, hX, hj⟩ := esc_e h3; subst hj; replace h2 := hX.trans (sel_r h2)
  obtain rfl := nxt_e h2
  refine w_ret (hret _ _ (hk []) (.tmp rfl .nil) (fun _ _ h => nomatch h) ?_)
  exact ⟨y0_1, (), rfl, rfl, rfl⟩
  rintro _ _ h2
  refine tc tbk 4 (.mk ?_)
  obtain rfl := nxt_e h2
  refine w_ret (hret _ _ (hk []) (.tmp rfl .nil) (fun _ _ h => nomatch h) ?_)
  exact ⟨(-1), (), rfl, rfl, rfl⟩
  rintro y _ ⟨y3_1, _, rfl, hc, rfl⟩
  subst hc
  refine nb tbk h1 fun x10 h1 => ?_
  refine tr tbk 2 (.mk ?_)
  obtain rfl := nxt_e h1
  refine w_ret (hret _ _ (hk []) (.tmp rfl .nil) (fun _ _ h => nomatch h) ?_)
  exact ⟨x10, (), rfl, rfl, rfl⟩
  rintro y _ ⟨y5_1, _, rfl, hc, rfl⟩
  subst hc
  refine tr tbk 1 (.mk ?_)
  replace h0 := asrt_e h0
  obtain ⟨rfl, h0⟩ := h0
  refine tc tbk 5 (.mk ?_)
  obtain ⟨p11, h0⟩ := asrt_e h0
  refine rse rfl rfl rfl (yl_call rfl rfl (.cons rfl .nil) cal131 (pc_cv (clone131_c (id := 1) (l := a1) rfl p11) (.cons (.refl _) .nil))) ?_; rintro _ _ ⟨v12, rfl, rfl⟩
  refine tr tbk 5 (.mk ?_)
  obtain ⟨j13, h1, h0⟩ := bind_e h0
  refine rse (Out := fun y H' => (∃ (a : (List GLine)) (k : Unit), a = j13 ∧ y = .tup [] ∧ H' = hk [(1, ⟨108, 2, true, true, v12, a.map GLine.av⟩)])) rfl rfl rfl (yl_call rfl rfl (.cons rfl (.cons rfl .nil)) cal132 ?_) ?_
  refine pcw (c := _) Tryz.func132 rfl rfl ?_; intro Q hret hnorm
  refine tc tbk 2 (.mk ?_)
  refine sB 2 fun v14 => ?_
  refine tr tbk 4 (.mk ?_)
  obtain ⟨j15, h2, h1⟩ := bind_e h1
  refine rse (Out := fun y H' => (∃ (a : (List GLine)) (k : Unit), a = j15 ∧ y = .tup [] ∧ H' = hk [(1, ⟨108, 2, true, true, v12, a.map GLine.av⟩), (2, ⟨197, 1, true, true, v14, [[.fn (.func 133) [] []]]⟩)])) rfl rfl rfl (yl_call rfl rfl (.cons rfl (.cons rfl .nil)) cal176 ?_) ?_
  refine pcw (c := _) Tryz.func176 rfl rfl ?_; intro Q hret hnorm
  refine tc tbk 3 (.mk ?_)
  refine sY (yv_len_sl rfl Tryz.underlying109 rfl (.sl rfl rfl)) ?_
  refine tr tbk 1 (.mk ?_)
  obtain ⟨j16, h3, h2⟩ := bind_e h2
  refine rse (Out := fun y H' => (∃ (a : (List GLine)) (k : Unit), a = j16 ∧ y = .tup [] ∧ H' = hk [(1, ⟨108, 2, true, true, v12, a.map GLine.av⟩), (2, ⟨197, 1, true, true, v14, [[.fn (.func 133) [] []]]⟩)])) rfl rfl rfl (yl_call rfl rfl (.cons rfl (.cons rfl (.cons rfl .nil))) cal198 ?_) ?_
  refine pcw (c := _) Tryz.func198 rfl rfl ?_; intro Q hret hnorm
  refine tc tbk 11 (.mk ?_)
  refine jn h3 [0, 1, 2, 6, 7] [1, 2] (fun (a : Unit) (k : Unit) => []) (fun a k => []) ⟨fun j17 h4 => ?_, ?_⟩
  refine tc tbk 1 (.mk ?_)
  refine lp (fun n (a : Unit) => d_voucher_Plain_L1 a1 n) () () h4 [0, 1, 2, 6, 7, 8] [1, 2] (fun (a : Unit) (k : Unit) => []) (fun a k => []) (fun _ => rfl) ⟨leA, ?_⟩
  rintro n _ _ hm h4
  replace h4 : d_voucher_Plain_L1 a1 (n + 1) = some _ := h4
  rw [d_voucher_Plain_L1] at h4
  refine tc tbk 5 (.mk ?_)
  refine nb tbk h4 fun x18 h4 => ?_
  refine tr tbk 1 (.mk ?_)
  replace h4 := asrt_e h4
  obtain ⟨rfl, h4⟩ := h4
  refine tc tbk 2 (.mk ?_)
  exact lf h4 () leA
  rintro _ _ h3
  refine tc tbk 6 (.mk ?_)
  obtain ⟨j19, h4, h3⟩ := bind_e h3
  refine rse (Out := fun y H' => (∃ (a : (List GLine)) (k : Unit), a = j19 ∧ y = .tup [] ∧ H' = hk [(1, ⟨108, 2, true, true, v12, a.map GLine.av⟩), (2, ⟨197, 1, true, true, v14, [[.fn (.func 133) [] []]]⟩)])) rfl rfl rfl (yl_call rfl rfl (.cons rfl (.cons rfl (.cons rfl (.cons rfl .nil)))) cal208 ?_) ?_
  refine pcw (c := _) Tryz.func208 rfl rfl ?_; intro Q hret hnorm
  refine tc tbk 3 (.mk ?_)
  refine sY (yv_add (r := 1) rfl rfl rfl (by decide)) ?_
  refine tr tbk 2 (.mk ?_)
  refine jn h4 [] [2] (fun (a : (List GLine)) (k : Unit) => []) (fun a k => [(1, ⟨108, 2, true, true, v12, a.map GLine.av⟩)]) ⟨fun j20 h5 => ?_, ?_⟩
  refine tc tbk 1 (.mk ?_)
  refine lp (fun n (a : Int × (List GLine)) => d_voucher_Plain_L2 a1 n a.1 a.2) ((1 : Int), (a1 : List GLine)) () h5 [1, 2, 3] [2] (fun (a : Int × (List GLine)) (k : Unit) => [(0, .sl 1 v12 0 a.2.length), (8, int a.1)]) (fun a k => [(1, ⟨108, 2, true, true, v12, a.2.map GLine.av⟩)]) (fun _ => rfl) ⟨leA, ?_⟩
  rintro n ⟨y8_1, y8_2⟩ _ hm h5
  replace h5 : d_voucher_Plain_L2 a1 (n + 1) y8_1 y8_2 = some _ := h5
  rw [d_voucher_Plain_L2] at h5
  refine tc tbk 5 (.mk ?_)
  refine nb tbk h5 fun x21 h5 => ?_
  refine tr tbk 1 (.mk ?_)
  cases x21
  replace h5 := cf h5
  refine tc tbk 2 (.mk ?_)
  exact lf h5 () leA
  replace h5 := ct h5
  refine tc tbk 3 (.mk ?_)
  refine jn h5 [1, 2, 3, 8] [2] (fun (a : (List GLine)) (k : Unit) => [(0, .sl 1 v12 0 a.length)]) (fun a k => [(1, ⟨108, 2, true, true, v12, a.map GLine.av⟩)]) ⟨fun j22 h6 => ?_, ?_⟩
  refine tc tbk 6 (.mk ?_)
  refine jn h6 [1, 2, 3, 8] [2] (fun (a : (List GLine)) (k : Unit) => [(0, .sl 1 v12 0 a.length)]) (fun a k => [(1, ⟨108, 2, true, true, v12, a.map GLine.av⟩)]) ⟨fun j23 h7 => ?_, ?_⟩
  refine tc tbk 1 (.mk ?_)
  refine lp (fun n (a : Int × (List GLine)) => d_voucher_Plain_L3 n a.1 a.2) ((y8_1 : Int), (y8_2 : List GLine)) () h7 [1, 2, 3, 8] [2] (fun (a : Int × (List GLine)) (k : Unit) => [(0, .sl 1 v12 0 a.2.length), (9, int a.1)]) (fun a k => [(1, ⟨108, 2, true, true, v12, a.2.map GLine.av⟩)]) (fun _ => rfl) ⟨leA, ?_⟩
  rintro n ⟨y9_1, y9_2⟩ _ hm h7
  replace h7 : d_voucher_Plain_L3 (n + 1) y9_1 y9_2 = some _ := h7
  rw [d_voucher_Plain_L3] at h7
  refine tc tbk 2 (.mk ?_)
  refine jn h7 [0, 1, 2, 3, 8, 9] [1, 2] (fun (a : Bool) (k : Unit) => [(34, boo a)]) (fun a k => []) ⟨fun j24 h8 => ?_, ?_⟩
  refine c_drawE [0, 0, 3, 7, 15, 15, 15, 111, 239, 15, 15, 1039, 3599, 7695, 16383, 32767, 65535] (rl [(7, [1]), (8, [1]), (12, [1]), (13, [1])] []) (rl [(14, [])] [1]) (rl [(14, false)] true) [0, 1, 2, 3, 4, 5, 6, 7, 8, 9, 10, 11, 12, 13, 14, 15, 16] mixed (by kernel_rfl) ?_; intro K hK
  iterate 2 refine eM ?_
  obtain ⟨x25, e25, h8⟩ := bnd_e h8
  refine eP (fun H hH => yv_to (y := boo x25) (yv_gtr rfl rfl rfl) (congrArg boo e25)) ?_
  refine eM ?_
  cases x25
  replace h8 := cf h8
  refine de_skip rfl rfl rfl ?_
  refine de_skip rfl rfl rfl ?_
  refine de_skip rfl rfl rfl ?_
  refine de_skip rfl rfl rfl ?_
  refine de_skip rfl rfl rfl ?_
  refine de_skip rfl rfl rfl ?_
  refine de_skip rfl rfl rfl ?_
  refine de_skip rfl rfl rfl ?_
  refine de_skip rfl rfl rfl ?_
  refine de_skip rfl rfl rfl ?_
  refine de_skip rfl rfl rfl ?_
  refine de_skip rfl rfl rfl ?_
  refine eP (fun H hH => yv_pick rfl rfl (fun _ => rfl) (fun _ => rfl) rfl) ?_
  refine de_nil (hK _ ?_)
  exact lf h8 () leA
  replace h8 := ct h8
  iterate 3 refine eM ?_
  obtain ⟨x26, e26, h8⟩ := bind_e h8
  refine de_pure rfl rfl rfl rfl (fun H hH => yv_ixO rfl Tryz.underlying109 sh108 rfl rfl ((hH _ (by decide)).trans rfl) rfl rfl (Eq.symm rfl) (List.length_map _) e26) ?_
  refine eL sh108 (hr := ix_get e26) ?_
  iterate 2 refine eM ?_
  obtain ⟨x27, e27, h8⟩ := bnd_e h8
  refine eP (fun H hH => yv_sub rfl rfl rfl e27) ?_
  obtain ⟨x28, e28, h8⟩ := bind_e h8
  refine de_pure rfl rfl rfl rfl (fun H hH => yv_ixO rfl Tryz.underlying109 sh108 rfl rfl ((hH _ (by decide)).trans rfl) rfl rfl (Eq.symm rfl) (List.length_map _) e28) ?_
  refine eL sh108 (hr := ix_get e28) ?_
  obtain ⟨j29, h9, h8⟩ := bind_e h8
  refine de_eff (Out := fun y H' => (∃ (a : Int) (k : Unit), a = j29 ∧ y = int a ∧ H' = hk [(1, ⟨108, 2, true, true, v12, y9_2.map GLine.av⟩), (2, ⟨197, 1, true, true, v14, [[.fn (.func 133) [] []]]⟩)])) rfl rfl rfl rfl (yl_call rfl rfl (.cons rfl (.cons rfl .nil)) cal177 ?_) (by rintro y _ ⟨y10_1, _, rfl, hc, rfl⟩ <;> exact trivial) ?_
  refine pcw (c := _) Tryz.func177 rfl rfl ?_; intro Q hret hnorm
  refine tc tbk 2 (.mk ?_)
  refine sB 3 fun v30 => ?_
  refine sB 4 fun v31 => ?_
  refine tr tbk 3 (.mk ?_)
  refine c_drawE [0, 0, 3, 0, 0, 31, 63, 127] (rl [(0, [2]), (1, [3]), (3, [2]), (4, [4])] []) (fun i => [2, 3, 4]) (fun i => true) [0, 1, 2, 3, 4, 5, 6, 7] mixed (by kernel_rfl) ?_; intro K hK
  refine eL sh197 ?_
  refine eL sh108 ?_
  obtain ⟨x32, e32, h9⟩ := bind_e h9
  refine eP (fun H hH => yv_callP rfl rfl (.cons rfl .nil) cal133 (CvL.refl _) (d_voucher_Plain_2_c e32)) ?_
  refine eL sh197 ?_
  refine eL sh108 ?_
  obtain ⟨x33, e33, h9⟩ := bind_e h9
  refine eP (fun H hH => yv_callP rfl rfl (.cons rfl .nil) cal133 (CvL.refl _) (d_voucher_Plain_2_c e33)) ?_
  obtain ⟨x34, e34, h9⟩ := bind_e h9
  refine eP (fun H hH => yv_callP rfl rfl (.cons rfl (.cons rfl .nil)) cal178 (CvL.refl _) (d_cmp_Compare_int_c e34)) ?_
  refine eA ?_
  refine de_nil (hK _ ?_)
  obtain rfl := nxt_e h9
  refine w_ret (hret _ _ (hk [(1, ⟨108, 2, true, true, v12, y9_2.map GLine.av⟩), (2, ⟨197, 1, true, true, v14, [[.fn (.func 133) [] []]]⟩)]) (.tmp rfl .nil) (HK.le ⟨rfl, rfl, trivial⟩) ?_)
  exact ⟨x34, (), rfl, rfl, rfl⟩
  rintro y _ ⟨y10_1, _, rfl, hc, rfl⟩
  subst hc
  obtain ⟨x35, e35, h8⟩ := bnd_e h8
  refine eP (fun H hH => yv_to (y := boo x35) (yv_lss rfl rfl rfl) (congrArg boo e35)) ?_
  refine eP (fun H hH => yv_pick rfl rfl (fun _ => rfl) (fun _ => rfl) rfl) ?_
  refine de_nil (hK _ ?_)
  exact lf h8 () leA
  rintro y12_1 _ h7
  cases y12_1
  replace h7 := cf h7
  refine tc tbk 2 (.mk ?_)
  exact lf h7 () leA
  replace h7 := ct h7
  refine tc tbk 4 (.mk ?_)
  refine c_drawE [0, 0, 0, 0, 8, 0, 0, 64, 224, 480, 0, 0, 3072, 7168, 16355, 32739, 65535, 131071] (rl [(8, [1]), (9, [1]), (12, [1]), (13, [1]), (14, [1]), (16, [1])] []) (rl [(15, []), (17, [])] [1]) (rl [(15, false), (17, false)] true) [0, 1, 2, 3, 4, 5, 6, 7, 8, 9, 10, 11, 12, 13, 14, 15, 16, 17] mixed (by kernel_rfl) ?_; intro K hK
  iterate 4 refine eM ?_
  obtain ⟨x36, e36, h7⟩ := bnd_e h7
  refine eP (fun H hH => yv_sub rfl rfl rfl e36) ?_
  iterate 2 refine eM ?_
  obtain ⟨x37, e37, h7⟩ := bnd_e h7
  refine eP (fun H hH => yv_sub rfl rfl rfl e37) ?_
  obtain ⟨x38, e38, h7⟩ := bind_e h7
  refine de_pure rfl rfl rfl rfl (fun H hH => yv_ixO rfl Tryz.underlying109 sh108 rfl rfl ((hH _ (by decide)).trans rfl) rfl rfl (Eq.symm rfl) (List.length_map _) e38) ?_
  refine eL sh108 (hr := ix_get e38) ?_
  iterate 2 refine eM ?_
  obtain ⟨x39, e39, h7⟩ := bind_e h7
  refine de_pure rfl rfl rfl rfl (fun H hH => yv_ixO rfl Tryz.underlying109 sh108 rfl rfl ((hH _ (by decide)).trans rfl) rfl rfl (Eq.symm rfl) (List.length_map _) e39) ?_
  refine eL sh108 (hr := ix_get e39) ?_
  refine de_pure rfl rfl rfl rfl (fun H hH => yv_ixO rfl Tryz.underlying109 sh108 rfl rfl ((hH _ (by decide)).trans rfl) rfl rfl (Eq.symm rfl) (List.length_map _) e39) ?_
  obtain ⟨x40, e40, h7⟩ := bnd_e h7
  have fx40 := ix_set e39 e40; have lx40 := len_setV e40 (rfl : y9_2.length = y9_2.length)
  refine de_eff0 rfl rfl rfl rfl (Yield.weak (yl_ob (ob' := (⟨108, 2, true, true, v12, x40.map GLine.av⟩ : AObj)) (yl_store rfl sh108 rfl rfl rfl rfl rfl (ix_get e39) rfl rfl rfl) (ob_eq (map_setV e40))) (fun _ h => h) (fun _ _ => trivial)) (by rintro _ _ ⟨rfl, rfl⟩; exact trivial) ?_; rintro _ _ ⟨rfl, rfl⟩
  obtain ⟨x41, e41, h7⟩ := bind_e h7
  refine de_pure rfl rfl rfl rfl (fun H hH => yv_ixO rfl Tryz.underlying109 sh108 rfl rfl ((hH _ (by decide)).trans rfl) rfl rfl (Eq.symm lx40) (List.length_map _) e41) ?_
  obtain ⟨x42, e42, h7⟩ := bnd_e h7
  have fx42 := ix_set e41 e42; have lx42 := len_setV e42 lx40
  refine de_eff0 rfl rfl rfl rfl (Yield.weak (yl_ob (ob' := (⟨108, 2, true, true, v12, x42.map GLine.av⟩ : AObj)) (yl_store rfl sh108 rfl rfl rfl rfl rfl (ix_get e41) rfl rfl rfl) (ob_eq (map_setV e42))) (fun _ h => h) (fun _ _ => trivial)) (by rintro _ _ ⟨rfl, rfl⟩; exact trivial) ?_; rintro _ _ ⟨rfl, rfl⟩
  refine de_nil (hK _ ?_)
  refine tc tbk 3 (.mk ?_)
  refine ni tbk h7 fun x43 h7 => ?_
  refine tr tbk 2 (.mk ?_)
  exact bk (x43, x42) () h7 (leH_kn ⟨⟨_, rfl, (cv_slen (Eq.symm lx42))⟩, ⟨_, rfl, (.refl _)⟩, ⟨_, rfl, (.refl _)⟩, ⟨_, rfl, (.refl _)⟩, ⟨_, rfl, (.refl _)⟩, ⟨_, rfl, (.refl _)⟩, trivial⟩ ⟨⟨_, rfl, (.refl _)⟩, ⟨_, rfl, (.refl _)⟩, trivial⟩)
  rintro y13_1 _ h6
  refine tc tbk 1 (.mk ?_)
  exact lf h6 () leA
  rintro y14_1 _ h5
  refine tc tbk 2 (.mk ?_)
  refine ni tbk h5 fun x44 h5 => ?_
  refine tr tbk 2 (.mk ?_)
  exact bk (x44, y14_1) () h5 leA
  rintro y15_1 _ h4
  obtain rfl := nxt_e h4
  refine c_nil (hnorm _ _ (hk [(1, ⟨108, 2, true, true, v12, y15_1.map GLine.av⟩), (2, ⟨197, 1, true, true, v14, [[.fn (.func 133) [] []]]⟩)]) .nil (HK.le ⟨rfl, rfl, trivial⟩) ?_)
  exact ⟨y15_1, (), rfl, rfl, rfl⟩
  rintro y _ ⟨y17_1, _, rfl, hc, rfl⟩
  subst hc
  refine tr tbk 1 (.mk ?_)
  obtain ⟨p45, h3⟩ := asrt_e h3
  refine jn h3 [] [1, 2] (fun (a : Unit) (k : Unit) => []) (fun a k => []) ⟨fun j46 h4 => ?_, ?_⟩
  refine tc tbk 1 (.mk ?_)
  refine lp (fun n (a : Unit) => d_voucher_Plain_L4 a1 n) () () h4 [0, 1, 2, 6] [1, 2] (fun (a : Unit) (k : Unit) => []) (fun a k => []) (fun _ => rfl) ⟨leA, ?_⟩
  rintro n _ _ hm h4
  replace h4 : d_voucher_Plain_L4 a1 (n + 1) = some _ := h4
  rw [d_voucher_Plain_L4] at h4
  refine tc tbk 5 (.mk ?_)
  refine nb tbk h4 fun x47 h4 => ?_
  refine tr tbk 1 (.mk ?_)
  replace h4 := asrt_e h4
  obtain ⟨rfl, h4⟩ := h4
  refine tc tbk 2 (.mk ?_)
  exact lf h4 () leA
  rintro _ _ h3
  obtain rfl := nxt_e h3
  refine c_nil (hnorm _ _ (hk [(1, ⟨108, 2, true, true, v12, y17_1.map GLine.av⟩), (2, ⟨197, 1, true, true, v14, [[.fn (.func 133) [] []]]⟩)]) .nil (HK.le ⟨rfl, rfl, trivial⟩) ?_)
  exact ⟨y17_1, (), rfl, rfl, rfl⟩
  rintro y _ ⟨y21_1, _, rfl, hc, rfl⟩
  subst hc
  refine tr tbk 1 (.mk ?_)
  obtain rfl := nxt_e h2
  refine g_nil (hnorm _ _ (hk [(1, ⟨108, 2, true, true, v12, y21_1.map GLine.av⟩), (2, ⟨197, 1, true, true, v14, [[.fn (.func 133) [] []]]⟩)]) .nil (HK.le ⟨rfl, rfl, trivial⟩) ?_)
  exact ⟨y21_1, (), rfl, rfl, rfl⟩
  rintro y _ ⟨y23_1, _, rfl, hc, rfl⟩
  subst hc
  refine tr tbk 1 (.mk ?_)
  obtain rfl := nxt_e h1
  refine g_nil (hnorm _ _ (hk [(1, ⟨108, 2, true, true, v12, y23_1.map GLine.av⟩)]) .nil (HK.le ⟨rfl, trivial⟩) ?_)
  exact ⟨y23_1, (), rfl, rfl, rfl⟩
  rintro y _ ⟨y25_1, _, rfl, hc, rfl⟩
  subst hc
  refine tr tbk 8 (.mk ?_)
  obtain ⟨p48, h0⟩ := asrt_e h0
  refine sY (yv_move rfl rfl) ?_
  refine sY (yv_len_sl rfl Tryz.underlying109 rfl (.sl rfl rfl)) ?_
  refine tr tbk 2 (.mk ?_)
  refine jn h0 [2, 3] [] (fun (a : (List GLine)) (k : Nat) => [(5, .sl 7 k 0 a.length)]) (fun a k => [(7, ⟨108, 2, true, true, k, a.map GLine.av⟩)]) ⟨fun j49 h1 => ?_, ?_⟩
  refine tc tbk 1 (.mk ?_)
  refine c_nilobj 5 7 108 2 rfl rfl ?_; intro v50
  refine lp (fun n (a : Int × (List GLine)) => d_voucher_Plain_L5 a1 y25_1 n a.1 a.2) ((0 : Int), (([] : List GLine) : List GLine)) v50 h1 [2, 3, 17, 18] [1] (fun (a : Int × (List GLine)) (k : Nat) => [(5, .sl 7 k 0 a.2.length), (19, int a.1)]) (fun a k => [(7, ⟨108, 2, true, true, k, a.2.map GLine.av⟩)]) (fun _ => rfl) ⟨leA, ?_⟩
  rintro n ⟨y26_2, y26_3⟩ w26_1 hm h1
  replace h1 : d_voucher_Plain_L5 a1 y25_1 (n + 1) y26_2 y26_3 = some _ := h1
  rw [d_voucher_Plain_L5] at h1
  refine tc tbk 2 (.mk ?_)
  refine nb tbk h1 fun x51 h1 => ?_
  refine tr tbk 2 (.mk ?_)
  cases x51
  replace h1 := cf h1
  refine tc tbk 2 (.mk ?_)
  exact lf h1 w26_1 leA
  replace h1 := ct h1
  refine tc tbk 6 (.mk ?_)
  obtain ⟨x52, e52, h1⟩ := bind_e h1
  refine sY (yv_ixO rfl Tryz.underlying109 sh108 rfl rfl rfl rfl rfl (Eq.symm p48) (List.length_map _) e52) ?_
  refine sY (yv_load rfl sh108 rfl (.pt rfl rfl (ix_get e52)) rfl) ?_
  refine sA 5 z108 fun v53 => ?_
  refine sS ⟨108, 2, true, true, v53, [[int x52.Account, int x52.Amount]]⟩ sh108 ?_
  refine tr tbk 5 (.mk ?_)
  refine sY (yv_len_sl rfl Tryz.underlying109 rfl (.sl rfl rfl)) ?_
  refine ni tbk h1 fun x54 h1 => ?_
  refine tr tbk 3 (.mk ?_)
  refine jn h1 [2, 3, 5, 7, 8, 17, 18, 19] [1, 5, 7] (fun (a : Bool) (k : Unit) => [(37, boo a)]) (fun a k => []) ⟨fun j55 h2 => ?_, ?_⟩
  refine c_drawE [0, 1, 3, 7, 7, 31, 63, 127, 7, 263, 1023, 2047] (rl [(5, [7]), (6, [7]), (7, [7]), (8, [5]), (9, [5])] []) (fun i => [5, 7]) (fun i => true) [0, 1, 2, 3, 4, 5, 6, 7, 8, 9, 10, 11] mixed (by kernel_rfl) ?_; intro K hK
  refine eM ?_
  obtain ⟨x56, e56, h2⟩ := bnd_e h2
  refine eP (fun H hH => yv_to (y := boo x56) (yv_geq rfl rfl rfl) (congrArg boo e56)) ?_
  refine eM ?_
  cases x56
  replace h2 := cf h2
  refine de_skip rfl rfl rfl ?_
  refine de_skip rfl rfl rfl ?_
  refine de_skip rfl rfl rfl ?_
  refine de_skip rfl rfl rfl ?_
  refine de_skip rfl rfl rfl ?_
  refine de_skip rfl rfl rfl ?_
  refine de_skip rfl rfl rfl ?_
  refine de_skip rfl rfl rfl ?_
  refine eP (fun H hH => yv_pick rfl rfl (fun _ => rfl) (fun _ => rfl) rfl) ?_
  refine de_nil (hK _ ?_)
  exact lf h2 () leA
  replace h2 := ct h2
  iterate 2 refine eM ?_
  obtain ⟨x57, e57, h2⟩ := bind_e h2
  refine de_pure rfl rfl rfl rfl (fun H hH => yv_ixO rfl Tryz.underlying109 sh108 rfl rfl ((hH _ (by decide)).trans rfl) rfl rfl (Eq.symm rfl) (List.length_map _) e57) ?_
  refine eF fo108_0 (hr := ix_get e57) ?_
  refine eL sh3 (hr := ix_get e57) ?_
  refine eF fo108_0 ?_
  refine eL sh3 ?_
  obtain ⟨x58, e58, h2⟩ := bnd_e h2
  refine eP (fun H hH => yv_to (y := boo x58) (yv_eql rfl rfl rfl) (congrArg boo e58)) ?_
  refine eP (fun H hH => yv_pick rfl rfl (fun _ => rfl) (fun _ => rfl) rfl) ?_
  refine de_nil (hK _ ?_)
  exact lf h2 () leA
  rintro y27_1 _ h1
  replace h1 := asrt_e h1
  obtain ⟨rfl, h1⟩ := h1
  refine tc tbk 5 (.mk ?_)
  refine sY (yv_to (y := lst 2 GLine.av ([x52] : List GLine)) (yv_buildSlice (ps := [(0, _)]) (rows := [[int x52.Account, int x52.Amount]]) rfl Tryz.underlying109 bz108 (.cons rfl .nil) (by kernel_rfl) rfl rfl rfl) rfl) ?_
  obtain ⟨x59, e59, h1⟩ := bnd_e h1
  obtain ⟨p60, h1⟩ := asrt_e h1
  refine rse rfl rfl rfl (yl_appT (g := GLine.av) (l := y26_3) (m := ([x52] : List GLine)) .any rfl Tryz.underlying109 bz108 by108 rfl rfl rfl rfl rfl rfl rfl rfl rfl rfl (Eq.symm rfl) (.refl _) (fun _ => rfl) e59 p60) ?_; rintro _ _ ⟨v61, -, rfl, rfl⟩
  refine tr tbk 4 (.mk ?_)
  refine ni tbk h1 fun x62 h1 => ?_
  refine tr tbk 2 (.mk ?_)
  exact bk (x62, x59) v61 h1 leA
  rintro y28_2 w28_1 h0
  refine tc tbk 3 (.mk ?_)
  obtain ⟨j63, h1, h0⟩ := bind_e h0
  refine rse (Out := fun y H' => (∃ (a : Nat × Nat × (List GLine)) (k : Unit), a = j63 ∧ y = .sl 7 w28_1 a.1 a.2.1 ∧ H' = hk [(7, ⟨108, 2, true, true, w28_1, a.2.2.map GLine.av⟩)])) rfl rfl rfl (yl_call rfl rfl (.cons rfl (.cons rfl .nil)) cal134 ?_) ?_
  refine pcw (c := _) Tryz.func134 rfl rfl ?_; intro Q hret hnorm
  refine tc tbk 8 (.mk ?_)
  obtain ⟨j64, h2, h1⟩ := bind_e h1
  refine rse (Out := fun y H' => (∃ (a : Int) (k : Unit), a = j64 ∧ y = int a ∧ H' = hk [(7, ⟨108, 2, true, true, w28_1, y28_2.map GLine.av⟩)])) rfl rfl rfl (yl_call rfl rfl (.cons rfl (.cons rfl .nil)) cal175 ?_) ?_
  refine pcw (c := _) Tryz.func175 rfl rfl ?_; intro Q hret hnorm
  refine tc tbk 8 (.mk ?_)
  refine sY (yv_len_sl rfl Tryz.underlying109 rfl (.sl rfl rfl)) ?_
  refine tr tbk 2 (.mk ?_)
  refine jnE h2 [4] [7] (fun (a : Unit) (k : Unit) => []) (fun a k => []) ⟨fun j65 h3 h2 => ?_, ?_⟩
  refine tc tbk 1 (.mk ?_)
  refine lp (fun n (a : Int) => d_voucher_Plain_L6 y28_2 n a) (0 : Int) () h3 [0, 1, 4, 7] [7] (fun (a : Int) (k : Unit) => [(8, int a)]) (fun a k => []) (fun _ => rfl) ⟨leA, ?_⟩
  rintro n y29_1 _ hm h3
  replace h3 : d_voucher_Plain_L6 y28_2 (n + 1) y29_1 = some _ := h3
  rw [d_voucher_Plain_L6] at h3
  refine tc tbk 2 (.mk ?_)
  refine nb tbk h3 fun x66 h3 => ?_
  refine tr tbk 2 (.mk ?_)
  cases x66
  replace h3 := cf h3
  refine tc tbk 2 (.mk ?_)
  exact lfE h3 () leA
  replace h3 := ct h3
  refine tc tbk 14 (.mk ?_)
  obtain ⟨x67, e67, h3⟩ := bind_e h3
  refine sY (yv_ixO rfl Tryz.underlying109 sh108 rfl rfl rfl rfl rfl (Eq.symm rfl) (List.length_map _) e67) ?_
  refine sY (yv_load rfl sh108 rfl (.pt rfl rfl (ix_get e67)) rfl) ?_
  obtain ⟨x68, e68, h3⟩ := bind_e h3
  refine sC cal135 (d_voucher_Plain_3_c e68) ?_
  refine tr tbk 1 (.mk ?_)
  cases x68
  replace h3 := cf h3
  refine tc tbk 4 (.mk ?_)
  refine ni tbk h3 fun x69 h3 => ?_
  refine tr tbk 2 (.mk ?_)
  exact bk x69 () h3 leA
  replace h3 := ct h3
  refine tc tbk 6 (.mk ?_)
  obtain ⟨c70, hX, hj⟩ := esc_e h3; subst hj; replace h2 := hX.trans (sel_r h2)
  obtain rfl := nxt_e h2
  refine w_ret (hret _ _ (hk [(7, ⟨108, 2, true, true, w28_1, y28_2.map GLine.av⟩)]) (.tmp rfl .nil) (HK.le ⟨rfl, trivial⟩) ?_)
  exact ⟨y29_1, (), rfl, rfl, rfl⟩
  rintro _ _ h2
  refine tc tbk 4 (.mk ?_)
  obtain rfl := nxt_e h2
  refine w_ret (hret _ _ (hk [(7, ⟨108, 2, true, true, w28_1, y28_2.map GLine.av⟩)]) (.tmp rfl .nil) (HK.le ⟨rfl, trivial⟩) ?_)
  exact ⟨(-1), (), rfl, rfl, rfl⟩
  rintro y _ ⟨y32_1, _, rfl, hc, rfl⟩
  subst hc
  refine tr tbk 6 (.mk ?_)
  refine nb tbk h1 fun x71 h1 => ?_
  refine tr tbk 1 (.mk ?_)
  cases x71
  replace h1 := cf h1
  refine tc tbk 6 (.mk ?_)
  refine ni tbk h1 fun x72 h1 => ?_
  refine tr tbk 2 (.mk ?_)
  refine jn h1 [4] [] (fun (a : Int × (List GLine)) (k : Unit) => [(0, .sl 7 w28_1 0 a.2.length), (5, int a.1)]) (fun a k => [(7, ⟨108, 2, true, true, w28_1, a.2.map GLine.av⟩)]) ⟨fun j73 h2 => ?_, ?_⟩
  refine tc tbk 1 (.mk ?_)
  refine lp (fun n (a : Int × Int × (List GLine)) => d_voucher_Plain_L7 n a.1 a.2.1 a.2.2) ((y32_1 : Int), (x72 : Int), (y28_2 : List GLine)) () h2 [1, 4] [] (fun (a : Int × Int × (List GLine)) (k : Unit) => [(0, .sl 7 w28_1 0 a.2.2.length), (5, int a.1), (6, int a.2.1)]) (fun a k => [(7, ⟨108, 2, true, true, w28_1, a.2.2.map GLine.av⟩)]) (fun _ => rfl) ⟨leA, ?_⟩
  rintro n ⟨y33_1, y33_2, y33_3⟩ _ hm h2
  replace h2 : d_voucher_Plain_L7 (n + 1) y33_1 y33_2 y33_3 = some _ := h2
  rw [d_voucher_Plain_L7] at h2
  refine tc tbk 5 (.mk ?_)
  refine sY (yv_len_sl rfl Tryz.underlying109 rfl (.sl rfl rfl)) ?_
  refine nb tbk h2 fun x74 h2 => ?_
  refine tr tbk 1 (.mk ?_)
  cases x74
  replace h2 := cf h2
  refine tc tbk 2 (.mk ?_)
  exact lf h2 () leA
  replace h2 := ct h2
  refine tc tbk 3 (.mk ?_)
  refine jn h2 [1, 4, 6] [] (fun (a : Int × (List GLine)) (k : Unit) => [(0, .sl 7 w28_1 0 a.2.length), (5, int a.1)]) (fun a k => [(7, ⟨108, 2, true, true, w28_1, a.2.map GLine.av⟩)]) ⟨fun j75 h3 => ?_, ?_⟩
  refine tc tbk 5 (.mk ?_)
  obtain ⟨x76, e76, h3⟩ := bind_e h3
  refine sY (yv_ixO rfl Tryz.underlying109 sh108 rfl rfl rfl rfl rfl (Eq.symm rfl) (List.length_map _) e76) ?_
  refine sY (yv_load rfl sh108 rfl (.pt rfl rfl (ix_get e76)) rfl) ?_
  refine sA 8 z108 fun v77 => ?_
  refine sS ⟨108, 2, true, true, v77, [[int x76.Account, int x76.Amount]]⟩ sh108 ?_
  refine tr tbk 5 (.mk ?_)
  obtain ⟨x78, e78, h3⟩ := bind_e h3
  refine sC cal135 (d_voucher_Plain_3_c e78) ?_
  refine nb tbk h3 fun x79 h3 => ?_
  refine tr tbk 1 (.mk ?_)
  cases x79
  replace h3 := cf h3
  refine tc tbk 3 (.mk ?_)
  exact lf h3 () leA
  replace h3 := ct h3
  refine tc tbk 6 (.mk ?_)
  obtain ⟨x80, e80, h3⟩ := bind_e h3
  refine sY (yv_ixO rfl Tryz.underlying109 sh108 rfl rfl rfl rfl rfl (Eq.symm rfl) (List.length_map _) e80) ?_
  obtain ⟨x81, e81, h3⟩ := bnd_e h3
  have fx81 := ix_set e80 e81; have lx81 := len_setV e81 (rfl : y33_3.length = y33_3.length)
  refine rsstore rfl rfl (yl_ob (ob' := (⟨108, 2, true, true, w28_1, x81.map GLine.av⟩ : AObj)) (yl_store rfl sh108 rfl rfl rfl rfl rfl (ix_get e80) rfl rfl rfl) (ob_eq (map_setV e81))) ?_
  refine tr tbk 3 (.mk ?_)
  refine ni tbk h3 fun x82 h3 => ?_
  refine tr tbk 3 (.mk ?_)
  exact lf h3 () (leH_kn ⟨⟨_, rfl, (cv_slen (Eq.symm lx81))⟩, ⟨_, rfl, (.refl _)⟩, ⟨_, rfl, (.refl _)⟩, ⟨_, rfl, (.refl _)⟩, ⟨_, rfl, (.refl _)⟩, trivial⟩ ⟨⟨_, rfl, (.refl _)⟩, trivial⟩)
  rintro ⟨y34_1, y34_2⟩ _ h2
  replace h2 := p2_e h2
  refine tc tbk 2 (.mk ?_)
  refine ni tbk h2 fun x83 h2 => ?_
  refine tr tbk 2 (.mk ?_)
  exact bk (y34_1, x83, y34_2) () h2 leA
  rintro ⟨y35_1, y35_2⟩ _ h1
  replace h1 := p2_e h1
  refine tc tbk 4 (.mk ?_)
  obtain ⟨p84, h1⟩ := asrt_e h1
  refine sY (yv_slO (len := y35_2.length) (i := y35_1.toNat) (j := y35_2.length) rfl Tryz.underlying109 sh108 rfl rfl rfl rfl (.yes rfl (by first | omega | (dsimp only; omega) | (dsimp only at *; omega))) .no (by first | omega | (dsimp only; omega) | (dsimp only at *; omega)) (Nat.le_refl _) (.inl (by first | omega | (dsimp only; omega) | (dsimp only at *; omega)))) ?_
  obtain ⟨x85, e85, h1⟩ := bnd_e h1
  refine rsstore rfl rfl (yl_ob (ob' := (⟨108, 2, true, true, w28_1, x85.map GLine.av⟩ : AObj)) (yl_clear rfl Tryz.underlying109 bz108 rfl rfl rfl rfl rfl rfl e85) rfl) ?_
  refine tr tbk 5 (.mk ?_)
  obtain ⟨p86, h1⟩ := asrt_e h1
  refine sY (yv_slO (len := y35_2.length) (i := 0) (j := y35_1.toNat) rfl Tryz.underlying109 sh108 rfl rfl rfl rfl .no (.yes rfl (by first | omega | (dsimp only; omega) | (dsimp only at *; omega))) (Nat.zero_le _) (by first | omega | (dsimp only; omega) | (dsimp only at *; omega)) (.inr rfl)) ?_
  refine tr tbk 2 (.mk ?_)
  obtain rfl := nxt_e h1
  refine w_ret (hret _ _ (hk [(7, ⟨108, 2, true, true, w28_1, x85.map GLine.av⟩)]) (.tmp rfl .nil) (HK.le ⟨rfl, trivial⟩) ?_)
  exact ⟨((0 + 0), (y35_1.toNat - 0), x85), (), rfl, rfl, rfl⟩
  replace h1 := ct h1
  refine tc tbk 6 (.mk ?_)
  obtain rfl := nxt_e h1
  refine w_ret (hret _ _ (hk [(7, ⟨108, 2, true, true, w28_1, y28_2.map GLine.av⟩)]) (.tmp rfl .nil) (HK.le ⟨rfl, trivial⟩) ?_)
  exact ⟨(0, y28_2.length, y28_2), (), rfl, rfl, rfl⟩
  rintro y _ ⟨⟨y36_1, y36_2, y36_3⟩, _, rfl, hc, rfl⟩
  replace h0 := p2_e h0
  replace h0 := p2_e h0
  subst hc
  refine tr tbk 3 (.mk ?_)
  obtain ⟨p87, h0⟩ := asrt_e h0
  obtain rfl := nxt_e h0
  refine wR hret (rT (rT .nil)) ?_
  exact CvL.tup (.cons (cv_win (l := y36_3) rfl rfl rfl rfl (CvLL.refl _) (by first | omega | (simp only [List.length_set]; omega)) rfl) (.cons (.refl _) .nil))
def d_money_Add (a1 : Int) (a2 : Int) : Option (Int × Int) :=
(show Option (Bool) from
(d_money_in a1).bind fun x4 =>
bnd (!x4) fun x5 =>
cond x5 (some (true : Bool)) ((d_money_in a2).bind fun x6 =>
bnd (!x6) fun x7 =>
cond x7 (some (true : Bool)) (bnd (w64 (a1 + a2)) fun x8 =>
(d_money_in x8).bind fun x9 =>
bnd (!x9) fun x10 =>
some (x10 : Bool)))).bind <| fun y0_1 =>
asrt (y0_1 = false) <|
bnd (w64 (a1 + a2)) fun x11 =>
some ((x11 : Int), (0 : Int))
theorem d_money_Add_c {a1 : Int} {a2 : Int} {r : Int × Int} (h0 : d_money_Add a1 a2 = some r) : PP Tryz.prog 64 [int a1, int a2] (fun y => y = .tup [int r.1, int r.2]) := by
  unfold d_money_Add at h0
  refine pp_of_pc (R0 := fun y H => Cv (frzH H) y (.tup [int r.1, int r.2])) ?_ (fun y H hc => ⟨_, rfl, .tup (pvl2 (pvI (r.1)) (pvI (r.2))), hc⟩)
  refine pcw (c := _) Tryz.func64 rfl rfl ?_; intro Q hret hnorm
  refine tc tbk 7 (.mk ?_)
  refine jn h0 [0, 1, 4, 5] [] (fun (a : Bool) (k : Unit) => [(20, boo a)]) (fun a k => []) ⟨fun j3 h1 => ?_, ?_⟩
  refine tc tbk 2 (.mk ?_)
  obtain ⟨x4, e4, h1⟩ := bind_e h1
  refine sC cal113 (d_money_in_c e4) ?_
  refine nb tbk h1 fun x5 h1 => ?_
  refine tr tbk 1 (.mk ?_)
  cases x5
  replace h1 := cf h1
  refine tr tbk 1 (.mk ?_)
  obtain ⟨x6, e6, h1⟩ := bind_e h1
  refine sC cal113 (d_money_in_c e6) ?_
  refine nb tbk h1 fun x7 h1 => ?_
  refine tr tbk 2 (.mk ?_)
  cases x7
  replace h1 := cf h1
  refine tr tbk 2 (.mk ?_)
  refine ni tbk h1 fun x8 h1 => ?_
  obtain ⟨x9, e9, h1⟩ := bind_e h1
  refine sC cal113 (d_money_in_c e9) ?_
  refine nb tbk h1 fun x10 h1 => ?_
  refine tr tbk 2 (.mk ?_)
  exact lf h1 () leA
  replace h1 := ct h1
  refine tr tbk 7 (.mk ?_)
  exact lf h1 () leA
  replace h1 := ct h1
  refine tr tbk 12 (.mk ?_)
  exact lf h1 () leA
  rintro y0_1 _ h0
  replace h0 := asrt_e h0
  obtain ⟨rfl, h0⟩ := h0
  refine tc tbk 6 (.mk ?_)
  refine ni tbk h0 fun x11 h0 => ?_
  refine tr tbk 3 (.mk ?_)
  obtain rfl := nxt_e h0
  refine wR hret (rT (rT .nil)) ?_
  exact .refl _
def d_money_Sum_L0 (a1 : List Int) : Nat → Int → Int → Option (Int)
  | 0, _, _ => none
  | n + 1, y0_1, y0_2 =>
    bnd (decide (y0_2 < (a1.length : Int))) fun x3 =>
    cond x3 ((ix a1 y0_2).bind fun x4 =>
    (d_money_Add y0_1 x4).bind fun x5 =>
    bnd (decide (x5.2 ≠ 0)) fun x6 =>
    asrt (x6 = false) <|
    bnd (w64 (y0_2 + 1)) fun x7 =>
    d_money_Sum_L0 a1 n (x5.1 : Int) (x7 : Int)) (some (y0_1 : Int))
def d_money_Sum (n : Nat) (a1 : List Int) : Option (Int × Int) :=
(show Option (Int) from
d_money_Sum_L0 a1 n (0 : Int) (0 : Int)).bind <| fun y1_1 =>
some ((y1_1 : Int), (0 : Int))
theorem d_money_Sum_c {n : Nat} {a1 : List Int} {r : Int × Int} (h0 : d_money_Sum n a1 = some r) : PP Tryz.prog 34 [lst 1 fI a1] (fun y => y = .tup [int r.1, int r.2]) := by
  unfold d_money_Sum at h0
  refine pp_of_pc (R0 := fun y H => Cv (frzH H) y (.tup [int r.1, int r.2])) ?_ (fun y H hc => ⟨_, rfl, .tup (pvl2 (pvI (r.1)) (pvI (r.2))), hc⟩)
  refine pcw (c := _) Tryz.func34 rfl rfl ?_; intro Q hret hnorm
  refine tc tbk 13 (.mk ?_)
  refine sY (yv_len_sl rfl Tryz.underlying22 rfl (lst_len _)) ?_
  refine tr tbk 2 (.mk ?_)
  refine jn h0 [2, 3] [] (fun (a : Int) (k : Unit) => [(4, int a)]) (fun a k => []) ⟨fun j2 h1 => ?_, ?_⟩
  refine tc tbk 1 (.mk ?_)
  refine lp (fun n (a : Int × Int) => d_money_Sum_L0 a1 n a.1 a.2) ((0 : Int), (0 : Int)) () h1 [2, 3, 8, 9] [] (fun (a : Int × Int) (k : Unit) => [(4, int a.1), (10, int a.2)]) (fun a k => []) (fun _ => rfl) ⟨leA, ?_⟩
  rintro n ⟨y0_1, y0_2⟩ _ hm h1
  replace h1 : d_money_Sum_L0 a1 (n + 1) y0_1 y0_2 = some _ := h1
  rw [d_money_Sum_L0] at h1
  refine tc tbk 2 (.mk ?_)
  refine nb tbk h1 fun x3 h1 => ?_
  refine tr tbk 2 (.mk ?_)
  cases x3
  replace h1 := cf h1
  refine tc tbk 2 (.mk ?_)
  exact lf h1 () leA
  replace h1 := ct h1
  refine tc tbk 6 (.mk ?_)
  obtain ⟨x4, e4, h1⟩ := bind_e h1
  refine sY (yv_ixT rfl Tryz.underlying22 sh3 rfl rfl e4) ?_
  refine tr tbk 11 (.mk ?_)
  obtain ⟨x5, e5, h1⟩ := bind_e h1
  refine sC cal64 (d_money_Add_c e5) ?_
  refine tr tbk 9 (.mk ?_)
  refine nb tbk h1 fun x6 h1 => ?_
  refine tr tbk 1 (.mk ?_)
  replace h1 := asrt_e h1
  obtain ⟨rfl, h1⟩ := h1
  refine tc tbk 4 (.mk ?_)
  refine ni tbk h1 fun x7 h1 => ?_
  refine tr tbk 2 (.mk ?_)
  exact bk (x5.1, x7) () h1 leA
  rintro y1_1 _ h0
  refine tc tbk 6 (.mk ?_)
  obtain rfl := nxt_e h0
  refine wR hret (rT (rT .nil)) ?_
  exact .refl _
def d_voucher_sum_L0 (a1 : List GLine) : Nat → Int → (List Int) → Option ((List Int))
  | 0, _, _ => none
  | n + 1, y0_2, y0_3 =>
    bnd (decide (y0_2 < (a1.length : Int))) fun x4 =>
    cond x4 ((ix a1 y0_2).bind fun x5 =>
    bnd (y0_3 ++ ([x5.Amount] : List Int)) fun x7 =>
    asrt (x7.length ≤ 68719476736) <|
    bnd (w64 (y0_2 + 1)) fun x10 =>
    d_voucher_sum_L0 a1 n (x10 : Int) (x7 : List Int)) (some (y0_3 : List Int))
def d_voucher_sum (n : Nat) (a1 : List GLine) : Option (Int × Int) :=
(show Option ((List Int)) from
d_voucher_sum_L0 a1 n (0 : Int) (([] : List Int) : List Int)).bind <| fun y1_2 =>
(d_money_Sum n y1_2).bind fun x11 =>
some ((x11.1 : Int), (x11.2 : Int))
theorem d_voucher_sum_c {n : Nat} {a1 : List GLine} {r : Int × Int} (h0 : d_voucher_sum n a1 = some r) : PP Tryz.prog 180 [lst 2 GLine.av a1] (fun y => y = .tup [int r.1, int r.2]) := by
  unfold d_voucher_sum at h0
  refine pp_of_pc (R0 := fun y H => Cv (frzH H) y (.tup [int r.1, int r.2])) ?_ (fun y H hc => ⟨_, rfl, .tup (pvl2 (pvI (r.1)) (pvI (r.2))), hc⟩)
  refine pcw (c := _) Tryz.func180 rfl rfl ?_; intro Q hret hnorm
  refine tc tbk 13 (.mk ?_)
  refine sY (yv_len_sl rfl Tryz.underlying109 rfl (lst_len _)) ?_
  refine tr tbk 2 (.mk ?_)
  refine jn h0 [2, 3] [] (fun (a : (List Int)) (k : Nat) => [(4, .sl 3 k 0 a.length)]) (fun a k => [(3, ⟨3, 1, true, true, k, a.map fI⟩)]) ⟨fun j2 h1 => ?_, ?_⟩
  refine tc tbk 1 (.mk ?_)
  refine c_nilobj 4 3 3 1 rfl rfl ?_; intro v3
  refine lp (fun n (a : Int × (List Int)) => d_voucher_sum_L0 a1 n a.1 a.2) ((0 : Int), (([] : List Int) : List Int)) v3 h1 [2, 3, 7, 8] [] (fun (a : Int × (List Int)) (k : Nat) => [(4, .sl 3 k 0 a.2.length), (9, int a.1)]) (fun a k => [(3, ⟨3, 1, true, true, k, a.2.map fI⟩)]) (fun _ => rfl) ⟨leA, ?_⟩
  rintro n ⟨y0_2, y0_3⟩ w0_1 hm h1
  replace h1 : d_voucher_sum_L0 a1 (n + 1) y0_2 y0_3 = some _ := h1
  rw [d_voucher_sum_L0] at h1
  refine tc tbk 2 (.mk ?_)
  refine nb tbk h1 fun x4 h1 => ?_
  refine tr tbk 2 (.mk ?_)
  cases x4
  replace h1 := cf h1
  refine tc tbk 2 (.mk ?_)
  exact lf h1 w0_1 leA
  replace h1 := ct h1
  refine tc tbk 6 (.mk ?_)
  obtain ⟨x5, e5, h1⟩ := bind_e h1
  refine sY (yv_ixT rfl Tryz.underlying109 sh108 rfl rfl e5) ?_
  refine tr tbk 1 (.mk ?_)
  refine sA 1 z108 fun v6 => ?_
  refine sS ⟨108, 2, true, true, v6, [[int x5.Account, int x5.Amount]]⟩ sh108 ?_
  refine tr tbk 5 (.mk ?_)
  refine sY (yv_to (y := lst 1 fI ([x5.Amount] : List Int)) (yv_buildSlice (ps := [(0, _)]) (rows := [[int x5.Amount]]) rfl Tryz.underlying22 bz3 (.cons rfl .nil) (by kernel_rfl) rfl rfl rfl) rfl) ?_
  obtain ⟨x7, e7, h1⟩ := bnd_e h1
  obtain ⟨p8, h1⟩ := asrt_e h1
  refine rse rfl rfl rfl (yl_appT (g := fI) (l := y0_3) (m := ([x5.Amount] : List Int)) .any rfl Tryz.underlying22 bz3 by3 rfl rfl rfl rfl rfl rfl rfl rfl rfl rfl (Eq.symm rfl) (.refl _) (fun _ => rfl) e7 p8) ?_; rintro _ _ ⟨v9, -, rfl, rfl⟩
  refine tr tbk 4 (.mk ?_)
  refine ni tbk h1 fun x10 h1 => ?_
  refine tr tbk 2 (.mk ?_)
  exact bk (x10, x7) v9 h1 leA
  rintro y1_2 w1_1 h0
  refine tc tbk 3 (.mk ?_)
  obtain ⟨x11, e11, h0⟩ := bind_e h0
  refine sY (yv_callT (v := .tup [int x11.1, int x11.2]) rfl rfl (.cons rfl .nil) cal34 (.cons (cv_lst rfl rfl rfl rfl rfl (Eq.symm rfl)) .nil) (d_money_Sum_c e11) rfl) ?_
  refine tr tbk 5 (.mk ?_)
  obtain rfl := nxt_e h0
  refine wR hret (rT (rT .nil)) ?_
  exact .refl _
def d_voucher_Check_1 (a1 : GLine) : Option (Bool) :=
(show Option (Bool) from
(d_voucher_is a1.Account).bind fun x4 =>
bnd (!x4) fun x5 =>
cond x5 (some (true : Bool)) (bnd (decide (a1.Amount = 0)) fun x6 =>
cond x6 (some (true : Bool)) ((d_voucher_in a1.Amount).bind fun x7 =>
bnd (!x7) fun x8 =>
some (x8 : Bool)))).bind <| fun y0_1 =>
some ((y0_1 : Bool))
theorem d_voucher_Check_1_c {a1 : GLine} {r : Bool} (h0 : d_voucher_Check_1 a1 = some r) : PP Tryz.prog 179 [.agg (GLine.av a1)] (fun y => y = boo r) := by
  unfold d_voucher_Check_1 at h0
  refine pp_of_pc (R0 := fun y H => Cv (frzH H) y (boo r)) ?_ (fun y H hc => ⟨_, rfl, pvB r, hc⟩)
  refine pcw (c := _) Tryz.func179 rfl rfl ?_; intro Q hret hnorm
  refine tc tbk 2 (.mk ?_)
  refine sB 1 fun v2 => ?_
  refine tr tbk 3 (.mk ?_)
  refine jn h0 [] [] (fun (a : Bool) (k : Unit) => [(2, boo a)]) (fun a k => []) ⟨fun j3 h1 => ?_, ?_⟩
  refine tc tbk 3 (.mk ?_)
  obtain ⟨x4, e4, h1⟩ := bind_e h1
  refine sC cal129 (d_voucher_is_c e4) ?_
  refine nb tbk h1 fun x5 h1 => ?_
  refine tr tbk 1 (.mk ?_)
  cases x5
  replace h1 := cf h1
  refine tr tbk 2 (.mk ?_)
  refine nb tbk h1 fun x6 h1 => ?_
  refine tr tbk 2 (.mk ?_)
  cases x6
  replace h1 := cf h1
  refine tr tbk 2 (.mk ?_)
  obtain ⟨x7, e7, h1⟩ := bind_e h1
  refine sC cal130 (d_voucher_in_c e7) ?_
  refine nb tbk h1 fun x8 h1 => ?_
  refine tr tbk 3 (.mk ?_)
  exact lf h1 () leA
  replace h1 := ct h1
  refine tr tbk 7 (.mk ?_)
  exact lf h1 () leA
  replace h1 := ct h1
  refine tr tbk 12 (.mk ?_)
  exact lf h1 () leA
  rintro y0_1 _ h0
  obtain rfl := nxt_e h0
  refine wR hret (rT .nil) ?_
  exact .refl _
def d_voucher_Check_L0 (a1 : List GLine) : Nat → Int → Option ((Unit) ⊕ ((Int)))
  | 0, _ => none
  | n + 1, y1_1 =>
    bnd (decide (y1_1 < (a1.length : Int))) fun x10 =>
    cond x10 ((ix a1 y1_1).bind fun x11 =>
    (d_voucher_Check_1 x11).bind fun x12 =>
    cond x12 (esc (some (y1_1 : Int))) (bnd (w64 (y1_1 + 1)) fun x13 =>
    d_voucher_Check_L0 a1 n (x13 : Int))) (brk ())
def d_voucher_Check (n : Nat) (a1 : List GLine) : Option (Bool) :=
(show Option (Bool) from
bnd (decide ((a1.length : Int) < 1)) fun x3 =>
cond x3 (some (true : Bool)) (bnd (decide ((a1.length : Int) > 12)) fun x4 =>
some (x4 : Bool))).bind <| fun y0_1 =>
asrt (y0_1 = false) <|
(d_voucher_sum n a1).bind fun x5 =>
(show Option (Bool) from
(show Option ((Bool)) from
(show Option ((Int)) from
(show Option ((Unit) ⊕ ((Int))) from
d_voucher_Check_L0 a1 n (0 : Int)).bind <| sel <| fun _ =>
some ((-1) : Int)).bind <| fun y4_1 =>
bnd (decide (y4_1 ≥ 0)) fun x15 =>
some (x15 : Bool)).bind <| fun y5_1 =>
bnd (!y5_1) fun x16 =>
cond x16 (bnd (decide (x5.1 = 0)) fun x17 =>
cond x17 (bnd (decide (x5.2 = 0)) fun x18 =>
some (x18 : Bool)) (some (false : Bool))) (some (false : Bool))).bind <| fun y6_1 =>
some ((y6_1 : Bool))
theorem d_voucher_Check_c {n : Nat} {a1 : List GLine} {r : Bool} (h0 : d_voucher_Check n a1 = some r) : PP Tryz.prog 138 [lst 2 GLine.av a1] (fun y => y = boo r) := by
  unfold d_voucher_Check at h0
  refine pp_of_pc (R0 := fun y H => Cv (frzH H) y (boo r)) ?_ (fun y H hc => ⟨_, rfl, pvB r, hc⟩)
  refine pcw (c := _) Tryz.func138 rfl rfl ?_; intro Q hret hnorm
  refine tc tbk 6 (.mk ?_)
  refine jn h0 [0, 2] [] (fun (a : Bool) (k : Unit) => [(13, boo a)]) (fun a k => []) ⟨fun j2 h1 => ?_, ?_⟩
  refine tc tbk 2 (.mk ?_)
  refine sY (yv_len_sl rfl Tryz.underlying109 rfl (lst_len _)) ?_
  refine nb tbk h1 fun x3 h1 => ?_
  refine tr tbk 1 (.mk ?_)
  cases x3
  replace h1 := cf h1
  refine tr tbk 1 (.mk ?_)
  refine sY (yv_len_sl rfl Tryz.underlying109 rfl (lst_len _)) ?_
  refine nb tbk h1 fun x4 h1 => ?_
  refine tr tbk 2 (.mk ?_)
  exact lf h1 () leA
  replace h1 := ct h1
  refine tr tbk 5 (.mk ?_)
  exact lf h1 () leA
  rintro y0_1 _ h0
  replace h0 := asrt_e h0
  obtain ⟨rfl, h0⟩ := h0
  refine tc tbk 9 (.mk ?_)
  obtain ⟨x5, e5, h0⟩ := bind_e h0
  refine sC cal180 (d_voucher_sum_c e5) ?_
  refine tr tbk 7 (.mk ?_)
  refine jn h0 [] [] (fun (a : Bool) (k : Unit) => [(2, boo a)]) (fun a k => []) ⟨fun j6 h1 => ?_, ?_⟩
  refine tc tbk 3 (.mk ?_)
  obtain ⟨j7, h2, h1⟩ := bind_e h1
  refine rse (Out := fun y H' => (∃ (a : Bool) (k : Unit), a = j7 ∧ y = boo a ∧ H' = hk [])) rfl rfl rfl (yl_call rfl rfl (.cons rfl (.cons rfl .nil)) cal127 ?_) ?_
  refine pcw (c := _) Tryz.func127 rfl rfl ?_; intro Q hret hnorm
  refine tc tbk 8 (.mk ?_)
  obtain ⟨j8, h3, h2⟩ := bind_e h2
  refine rse (Out := fun y H' => (∃ (a : Int) (k : Unit), a = j8 ∧ y = int a ∧ H' = hk [])) rfl rfl rfl (yl_call rfl rfl (.cons rfl (.cons rfl .nil)) cal175 ?_) ?_
  refine pcw (c := _) Tryz.func175 rfl rfl ?_; intro Q hret hnorm
  refine tc tbk 8 (.mk ?_)
  refine sY (yv_len_sl rfl Tryz.underlying109 rfl (lst_len _)) ?_
  refine tr tbk 2 (.mk ?_)
  refine jnE h3 [4] [] (fun (a : Unit) (k : Unit) => []) (fun a k => []) ⟨fun j9 h4 h3 => ?_, ?_⟩
  refine tc tbk 1 (.mk ?_)
  refine lp (fun n (a : Int) => d_voucher_Check_L0 a1 n a) (0 : Int) () h4 [0, 1, 4, 7] [] (fun (a : Int) (k : Unit) => [(8, int a)]) (fun a k => []) (fun _ => rfl) ⟨leA, ?_⟩
  rintro n y1_1 _ hm h4
  replace h4 : d_voucher_Check_L0 a1 (n + 1) y1_1 = some _ := h4
  rw [d_voucher_Check_L0] at h4
  refine tc tbk 2 (.mk ?_)
  refine nb tbk h4 fun x10 h4 => ?_
  refine tr tbk 2 (.mk ?_)
  cases x10
  replace h4 := cf h4
  refine tc tbk 2 (.mk ?_)
  exact lfE h4 () leA
  replace h4 := ct h4
  refine tc tbk 14 (.mk ?_)
  obtain ⟨x11, e11, h4⟩ := bind_e h4
  refine sY (yv_ixT rfl Tryz.underlying109 sh108 rfl rfl e11) ?_
  refine tr tbk 1 (.mk ?_)
  obtain ⟨x12, e12, h4⟩ := bind_e h4
  refine sC cal179 (d_voucher_Check_1_c e12) ?_
  refine tr tbk 1 (.mk ?_)
  cases x12
  replace h4 := cf h4
  refine tc tbk 4 (.mk ?_)
  refine ni tbk h4 fun x13 h4 => ?_
  refine tr tbk 2 (.mk ?_)
  exact bk x13 () h4 leA
  replace h4 := ct h4
  refine tc tbk 6 (.mk ?_)
  obtain ⟨c14, hX, hj⟩ := esc_e h4; subst hj; replace h3 := hX.trans (sel_r h3)
  obtain rfl := nxt_e h3
  refine w_ret (hret _ _ (hk []) (.tmp rfl .nil) (fun _ _ h => nomatch h) ?_)
  exact ⟨y1_1, (), rfl, rfl, rfl⟩
  rintro _ _ h3
  refine tc tbk 4 (.mk ?_)
  obtain rfl := nxt_e h3
  refine w_ret (hret _ _ (hk []) (.tmp rfl .nil) (fun _ _ h => nomatch h) ?_)
  exact ⟨(-1), (), rfl, rfl, rfl⟩
  rintro y _ ⟨y4_1, _, rfl, hc, rfl⟩
  subst hc
  refine nb tbk h2 fun x15 h2 => ?_
  refine tr tbk 2 (.mk ?_)
  obtain rfl := nxt_e h2
  refine w_ret (hret _ _ (hk []) (.tmp rfl .nil) (fun _ _ h => nomatch h) ?_)
  exact ⟨x15, (), rfl, rfl, rfl⟩
  rintro y _ ⟨y5_1, _, rfl, hc, rfl⟩
  subst hc
  refine nb tbk h1 fun x16 h1 => ?_
  refine tr tbk 1 (.mk ?_)
  cases x16
  replace h1 := cf h1
  refine tr tbk 9 (.mk ?_)
  exact lf h1 () leA
  replace h1 := ct h1
  refine tr tbk 1 (.mk ?_)
  refine nb tbk h1 fun x17 h1 => ?_
  refine tr tbk 2 (.mk ?_)
  cases x17
  replace h1 := cf h1
  refine tr tbk 5 (.mk ?_)
  exact lf h1 () leA
  replace h1 := ct h1
  refine tr tbk 1 (.mk ?_)
  refine nb tbk h1 fun x18 h1 => ?_
  refine tr tbk 3 (.mk ?_)
  exact lf h1 () leA
  rintro y6_1 _ h0
  obtain rfl := nxt_e h0
  refine wR hret (rT .nil) ?_
  exact .refl _
def d_gl_Post_L0 (x9 : (List GLine) × Int) : Nat → Int → (List Int) → Option ((List Int))
  | 0, _, _ => none
  | n + 1, y1_1, y1_2 =>
    bnd (decide (y1_1 < (x9.1.length : Int))) fun x16 =>
    cond x16 ((ix x9.1 y1_1).bind fun x17 =>
    (ix y1_2 x17.Account).bind fun x19 =>
    (d_money_Add x19 x17.Amount).bind fun x20 =>
    bnd (y1_2.set (Int.toNat x17.Account) (x20.1 : Int)) fun x21 =>
    bnd (decide (x20.2 ≠ 0)) fun x22 =>
    asrt (x22 = false) <|
    bnd (w64 (y1_1 + 1)) fun x23 =>
    d_gl_Post_L0 x9 n (x23 : Int) (x21 : List Int)) (some (y1_2 : List Int))
def d_gl_Post (n : Nat) (a1 : List Int) (a2 : List GLine) : Option ((List Int) × Int) :=
bnd (decide ((a1.length : Int) ≠ 17)) fun x4 =>
asrt (x4 = false) <|
(show Option (((List Int))) from
asrt (a1.length ≤ 68719476736) <|
(show Option (((List Int))) from
(d_voucher_Plain n a2).bind fun x9 =>
(show Option (Bool) from
bnd (decide (x9.2 ≠ 0)) fun x11 =>
cond x11 (some (true : Bool)) (bnd (decide ((x9.1.length : Int) > 0)) fun x12 =>
cond x12 ((d_voucher_Check n x9.1).bind fun x13 =>
bnd (!x13) fun x14 =>
some (x14 : Bool)) (some (false : Bool)))).bind <| fun y0_1 =>
asrt (y0_1 = false) <|
(show Option ((List Int)) from
d_gl_Post_L0 x9 n (0 : Int) (a1 : List Int)).bind <| fun y2_1 =>
some (y2_1 : List Int)).bind <| fun y4_1 =>
asrt (y4_1.length = a1.length) <|
some (y4_1 : List Int)).bind <| fun y5_2 =>
some ((y5_2 : List Int), (0 : Int))
theorem d_gl_Post_c {n : Nat} {a1 : List Int} {a2 : List GLine} {r : (List Int) × Int} (h0 : d_gl_Post n a1 a2 = some r) : PP Tryz.prog 85 [lst 1 fI a1, lst 2 GLine.av a2] (fun y => y = .tup [lst 1 fI r.1, int r.2]) := by
  unfold d_gl_Post at h0
  refine pp_of_pc (R0 := fun y H => Cv (frzH H) y (.tup [lst 1 fI r.1, int r.2])) ?_ (fun y H hc => ⟨_, rfl, .tup (pvl2 ((pvLs pvcI) (r.1)) (pvI (r.2))), hc⟩)
  refine pcw (c := _) Tryz.func85 rfl rfl ?_; intro Q hret hnorm
  refine tc tbk 2 (.mk ?_)
  refine sB 1 fun v3 => ?_
  refine tr tbk 7 (.mk ?_)
  refine sY (yv_len_sl rfl Tryz.underlying22 rfl (lst_len _)) ?_
  refine nb tbk h0 fun x4 h0 => ?_
  refine tr tbk 1 (.mk ?_)
  replace h0 := asrt_e h0
  obtain ⟨rfl, h0⟩ := h0
  refine tc tbk 6 (.mk ?_)
  obtain ⟨j5, h1, h0⟩ := bind_e h0
  refine rse (Out := fun y H' => (∃ (a : (List Int)) (k : Nat), a = j5 ∧ Cv H' y (.tup [.sl 2 k 0 a.length, int 0]) ∧ H' = hk [(1, ⟨109, 1, true, true, v3, [[lst 2 GLine.av a2]]⟩), (2, ⟨3, 1, true, true, k, a.map fI⟩)])) rfl rfl rfl (yl_call rfl rfl (.cons rfl (.cons rfl .nil)) cal136 ?_) ?_
  refine pcw (c := _) Tryz.func136 rfl rfl ?_; intro Q hret hnorm
  refine tc tbk 8 (.mk ?_)
  obtain ⟨p6, h1⟩ := asrt_e h1
  refine rse rfl rfl rfl (yl_call rfl rfl (.cons rfl .nil) cal52 (pc_cv (clone52_c (id := 2) (l := a1) rfl p6) (.cons (.refl _) .nil))) ?_; rintro _ _ ⟨v7, rfl, rfl⟩
  refine tr tbk 7 (.mk ?_)
  obtain ⟨j8, h2, h1⟩ := bind_e h1
  refine rse (Out := fun y H' => (∃ (a : (List Int)) (k : Unit), a = j8 ∧ y = int 0 ∧ H' = hk [(1, ⟨109, 1, true, true, v3, [[lst 2 GLine.av a2]]⟩), (2, ⟨3, 1, true, true, v7, a.map fI⟩)])) rfl rfl rfl (yl_call rfl rfl (.cons rfl .nil) cal137 ?_) ?_
  refine pcw (c := _) Tryz.func137 rfl rfl ?_; intro Q hret hnorm
  refine tc tbk 7 (.mk ?_)
  obtain ⟨x9, e9, h2⟩ := bind_e h2
  refine sC cal84 (d_voucher_Plain_c e9) ?_
  refine tr tbk 8 (.mk ?_)
  refine jn h2 [0, 3, 4] [1, 2] (fun (a : Bool) (k : Unit) => [(24, boo a)]) (fun a k => []) ⟨fun j10 h3 => ?_, ?_⟩
  refine tc tbk 2 (.mk ?_)
  refine nb tbk h3 fun x11 h3 => ?_
  refine tr tbk 1 (.mk ?_)
  cases x11
  replace h3 := cf h3
  refine tr tbk 1 (.mk ?_)
  refine sY (yv_len_sl rfl Tryz.underlying109 rfl (lst_len _)) ?_
  refine nb tbk h3 fun x12 h3 => ?_
  refine tr tbk 1 (.mk ?_)
  cases x12
  replace h3 := cf h3
  refine tr tbk 6 (.mk ?_)
  exact lf h3 () leA
  replace h3 := ct h3
  refine tr tbk 1 (.mk ?_)
  obtain ⟨x13, e13, h3⟩ := bind_e h3
  refine sC cal138 (d_voucher_Check_c e13) ?_
  refine nb tbk h3 fun x14 h3 => ?_
  refine tr tbk 3 (.mk ?_)
  exact lf h3 () leA
  replace h3 := ct h3
  refine tr tbk 10 (.mk ?_)
  exact lf h3 () leA
  rintro y0_1 _ h2
  replace h2 := asrt_e h2
  obtain ⟨rfl, h2⟩ := h2
  refine tc tbk 6 (.mk ?_)
  refine sY (yv_len_sl rfl Tryz.underlying109 rfl (lst_len _)) ?_
  refine tr tbk 2 (.mk ?_)
  refine jn h2 [3] [1] (fun (a : (List Int)) (k : Unit) => []) (fun a k => [(2, ⟨3, 1, true, true, v7, a.map fI⟩)]) ⟨fun j15 h3 => ?_, ?_⟩
  refine tc tbk 1 (.mk ?_)
  refine lp (fun n (a : Int × (List Int)) => d_gl_Post_L0 x9 n a.1 a.2) ((0 : Int), (a1 : List Int)) () h3 [3, 25, 26] [1] (fun (a : Int × (List Int)) (k : Unit) => [(0, .sl 2 v7 0 a.2.length), (27, int a.1)]) (fun a k => [(2, ⟨3, 1, true, true, v7, a.2.map fI⟩)]) (fun _ => rfl) ⟨leA, ?_⟩
  rintro n ⟨y1_1, y1_2⟩ _ hm h3
  replace h3 : d_gl_Post_L0 x9 (n + 1) y1_1 y1_2 = some _ := h3
  rw [d_gl_Post_L0] at h3
  refine tc tbk 2 (.mk ?_)
  refine nb tbk h3 fun x16 h3 => ?_
  refine tr tbk 2 (.mk ?_)
  cases x16
  replace h3 := cf h3
  refine tc tbk 2 (.mk ?_)
  exact lf h3 () leA
  replace h3 := ct h3
  refine tc tbk 6 (.mk ?_)
  obtain ⟨x17, e17, h3⟩ := bind_e h3
  refine sY (yv_ixT rfl Tryz.underlying109 sh108 rfl rfl e17) ?_
  refine tr tbk 1 (.mk ?_)
  refine sA 3 z108 fun v18 => ?_
  refine sS ⟨108, 2, true, true, v18, [[int x17.Account, int x17.Amount]]⟩ sh108 ?_
  refine tr tbk 2 (.mk ?_)
  refine c_drawE [0, 0, 2, 0, 0, 16, 56, 120, 0, 256, 1016, 2040, 4088, 4088, 8191, 24575, 65535] (rl [(1, [3]), (2, [3]), (4, [3]), (5, [3]), (6, [2]), (7, [2]), (8, [3]), (9, [3]), (14, [2])] []) (rl [(15, [])] [2, 3]) (rl [(15, false)] true) [0, 1, 2, 3, 4, 5, 6, 7, 8, 9, 10, 11, 12, 13, 14, 15, 16] mixed (by kernel_rfl) ?_; intro K hK
  refine eM ?_
  refine eF fo108_0 ?_
  refine eL sh3 ?_
  refine eM ?_
  refine eF fo108_0 ?_
  refine eL sh3 ?_
  obtain ⟨x19, e19, h3⟩ := bind_e h3
  refine de_pure rfl rfl rfl rfl (fun H hH => yv_ixO rfl Tryz.underlying22 sh3 rfl rfl ((hH _ (by decide)).trans rfl) rfl rfl (Eq.symm rfl) (List.length_map _) e19) ?_
  refine eL sh3 (hr := ix_get e19) ?_
  refine eF fo108_1 ?_
  refine eL sh3 ?_
  obtain ⟨x20, e20, h3⟩ := bind_e h3
  refine eP (fun H hH => yv_callP rfl rfl (.cons rfl (.cons rfl .nil)) cal64 (CvL.refl _) (d_money_Add_c e20)) ?_
  refine eM ?_
  iterate 2 refine eX ?_
  refine de_pure rfl rfl rfl rfl (fun H hH => yv_ixO rfl Tryz.underlying22 sh3 rfl rfl ((hH _ (by decide)).trans rfl) rfl rfl (Eq.symm rfl) (List.length_map _) e19) ?_
  obtain ⟨x21, e21, h3⟩ := bnd_e h3
  have fx21 := ix_set e19 e21; have lx21 := len_setV e21 (rfl : y1_2.length = y1_2.length)
  refine de_eff0 rfl rfl rfl rfl (Yield.weak (yl_ob (ob' := (⟨3, 1, true, true, v7, x21.map fI⟩ : AObj)) (yl_store rfl sh3 rfl rfl rfl rfl rfl (ix_get e19) rfl rfl rfl) (ob_eq (map_setV e21))) (fun _ h => h) (fun _ _ => trivial)) (by rintro _ _ ⟨rfl, rfl⟩; exact trivial) ?_; rintro _ _ ⟨rfl, rfl⟩
  refine eA ?_
  refine de_nil (hK _ ?_)
  refine tc tbk 3 (.mk ?_)
  refine nb tbk h3 fun x22 h3 => ?_
  refine tr tbk 1 (.mk ?_)
  replace h3 := asrt_e h3
  obtain ⟨rfl, h3⟩ := h3
  refine tc tbk 4 (.mk ?_)
  refine ni tbk h3 fun x23 h3 => ?_
  refine tr tbk 2 (.mk ?_)
  exact bk (x23, x21) () h3 (leH_kn ⟨⟨_, rfl, (cv_slen (Eq.symm lx21))⟩, ⟨_, rfl, (.refl _)⟩, ⟨_, rfl, (.refl _)⟩, ⟨_, rfl, (.refl _)⟩, ⟨_, rfl, (.refl _)⟩, trivial⟩ ⟨⟨_, rfl, (.refl _)⟩, ⟨_, rfl, (.refl _)⟩, trivial⟩)
  rintro y2_1 _ h2
  refine tc tbk 4 (.mk ?_)
  obtain rfl := nxt_e h2
  refine w_ret (hret _ _ (hk [(1, ⟨109, 1, true, true, v3, [[lst 2 GLine.av a2]]⟩), (2, ⟨3, 1, true, true, v7, y2_1.map fI⟩)]) (.tmp rfl .nil) (HK.le ⟨rfl, rfl, trivial⟩) ?_)
  exact ⟨y2_1, (), rfl, rfl, rfl⟩
  rintro y _ ⟨y4_1, _, rfl, hc, rfl⟩
  subst hc
  refine tr tbk 5 (.mk ?_)
  refine sY (yv_to (y := boo false) (yv_neq rfl rfl rfl) (congrArg boo (by decide))) ?_
  refine tr tbk 5 (.mk ?_)
  obtain ⟨p24, h1⟩ := asrt_e h1
  refine sY (yv_move rfl rfl) ?_
  refine tr tbk 3 (.mk ?_)
  obtain rfl := nxt_e h1
  refine w_ret (hret _ _ (hk [(1, ⟨109, 1, true, true, v3, [[lst 2 GLine.av a2]]⟩), (2, ⟨3, 1, true, true, v7, y4_1.map fI⟩)]) (.tmp rfl (.tmp rfl .nil)) (HK.le ⟨rfl, rfl, trivial⟩) ?_)
  exact ⟨y4_1, v7, rfl, (CvL.tup (.cons (cv_slen (Eq.symm p24)) (.cons (.refl _) .nil))), rfl⟩
  rintro y _ ⟨y5_2, w5_1, rfl, hc, rfl⟩
  refine rs_cv 11 (.tup [.sl 2 w5_1 0 y5_2.length, int 0]) rfl hc ?_
  refine tr tbk 5 (.mk ?_)
  obtain rfl := nxt_e h0
  refine wR hret (rT (rT .nil)) ?_
  exact CvL.tup (.cons (cv_lst rfl rfl rfl rfl rfl (Eq.symm rfl)) (.cons (.refl _) .nil))
def d_stock_Post (n : Nat) (a1 : GState) (a2 : Int) (a3 : List GLine) : Option (GState × Int) :=
(show Option (Bool) from
bnd (decide (a2 < 0)) fun x7 =>
cond x7 (some (true : Bool)) (bnd (decide (a2 ≥ (a1.Ents.length : Int))) fun x8 =>
some (x8 : Bool))).bind <| fun y0_1 =>
asrt (y0_1 = false) <|
(d_voucher_Plain n a3).bind fun x9 =>
bnd (decide (x9.2 ≠ 0)) fun x10 =>
asrt (x10 = false) <|
(ix a1.Ents a2).bind fun x11 =>
(d_gl_Post n x11.Bal x9.1).bind fun x12 =>
bnd (decide (x12.2 ≠ 0)) fun x13 =>
asrt (x13 = false) <|
(show Option ((Unit)) from
asrt (a1.Ents.length ≤ 68719476736) <|
(ix a1.Ents a2).bind fun x18 =>
some ()).bind <| fun _ =>
(ix a1.Ents a2).bind fun x19 =>
bnd (a1.Ents.set (Int.toNat a2) ((⟨x19.Now, x19.Closed, x19.Pools, x12.1, x19.Rolls, x19.Prices, x19.Down, x19.Ahead⟩ : GEnt) : GEnt)) fun x20 =>
some (((⟨a1.Master, x20, a1.Receipts, a1.Sales, a1.Transits, a1.Done⟩ : GState) : GState), (0 : Int))
theorem d_stock_Post_c {n : Nat} {a1 : GState} {a2 : Int} {a3 : List GLine} {r : GState × Int} (h0 : d_stock_Post n a1 a2 a3 = some r) : PP Tryz.prog 49 [.agg (GState.av a1), int a2, lst 2 GLine.av a3] (fun y => y = .tup [.agg (GState.av r.1), int r.2]) := by
  unfold d_stock_Post at h0
  refine pp_of_pc (R0 := fun y H => Cv (frzH H) y (.tup [.agg (GState.av r.1), int r.2])) ?_ (fun y H hc => ⟨_, rfl, .tup (pvl2 ((fun (a : GState) => PV.agg (GState.pvc a)) (r.1)) (pvI (r.2))), hc⟩)
  refine pcw (c := _) Tryz.func49 rfl rfl ?_; intro Q hret hnorm
  refine tc tbk 2 (.mk ?_)
  refine sB 1 fun v4 => ?_
  refine sA 2 z31 fun v5 => ?_
  refine tr tbk 4 (.mk ?_)
  refine jn h0 [1, 2, 3, 6, 7] [1, 2] (fun (a : Bool) (k : Unit) => [(20, boo a)]) (fun a k => []) ⟨fun j6 h1 => ?_, ?_⟩
  refine tc tbk 2 (.mk ?_)
  refine nb tbk h1 fun x7 h1 => ?_
  refine tr tbk 1 (.mk ?_)
  cases x7
  replace h1 := cf h1
  refine tr tbk 3 (.mk ?_)
  refine sY (yv_len_sl rfl Tryz.underlying26 rfl (lst_len _)) ?_
  refine nb tbk h1 fun x8 h1 => ?_
  refine tr tbk 2 (.mk ?_)
  exact lf h1 () leA
  replace h1 := ct h1
  refine tr tbk 7 (.mk ?_)
  exact lf h1 () leA
  rintro y0_1 _ h0
  replace h0 := asrt_e h0
  obtain ⟨rfl, h0⟩ := h0
  refine tc tbk 5 (.mk ?_)
  obtain ⟨x9, e9, h0⟩ := bind_e h0
  refine sC cal84 (d_voucher_Plain_c e9) ?_
  refine tr tbk 10 (.mk ?_)
  refine nb tbk h0 fun x10 h0 => ?_
  refine tr tbk 1 (.mk ?_)
  replace h0 := asrt_e h0
  obtain ⟨rfl, h0⟩ := h0
  refine tc tbk 7 (.mk ?_)
  obtain ⟨x11, e11, h0⟩ := bind_e h0
  refine sY (yv_to (y := .pp [int x11.Now, boo x11.Closed, lst 4 GPool.av x11.Pools, lst 1 fI x11.Bal, lst 11 GRoll.av x11.Rolls, lst 1 fI x11.Prices, lst 1 fI x11.Down, lst 8 GEnt.av x11.Ahead]) (yv_ixT rfl Tryz.underlying26 sh47 rfl rfl e11) (congrArg AV.pp (GEnt.av_eq x11))) ?_
  refine tr tbk 3 (.mk ?_)
  obtain ⟨x12, e12, h0⟩ := bind_e h0
  refine sC cal85 (d_gl_Post_c e12) ?_
  refine tr tbk 10 (.mk ?_)
  refine nb tbk h0 fun x13 h0 => ?_
  refine tr tbk 1 (.mk ?_)
  replace h0 := asrt_e h0
  obtain ⟨rfl, h0⟩ := h0
  refine tc tbk 5 (.mk ?_)
  refine sY (yv_build (cs := (GState.av a1)) (ps := [(0, _)]) rfl pl153 z153 rfl (.cons rfl .nil) (by kernel_rfl)) ?_
  refine sA 3 z153 fun v14 => ?_
  refine sS ⟨153, 10, true, true, v14, [(GState.av a1)]⟩ sh153 ?_
  refine tr tbk 4 (.mk ?_)
  obtain ⟨j15, h1, h0⟩ := bind_e h0
  refine rse (Out := fun y H' => (∃ (a : Unit) (k : Nat), a = j15 ∧ y = .pt 4 k (Int.toNat a2) 0 ∧ H' = hk [(1, ⟨31, 10, true, true, v4, [(GState.av a1)]⟩), (2, ⟨31, 10, true, true, v5, [[int 0, int 0, .sc (.slice none 0 0), .sc (.slice none 0 0), .sc (.slice none 0 0), .sc (.slice none 0 0), .sc (.slice none 0 0), .sc (.slice none 0 0), .sc (.slice none 0 0), int 0]]⟩), (3, ⟨153, 10, true, true, v14, [[int a1.Master.Entities, int a1.Master.Periods, lst 1 fI a1.Master.Weights, lst 1 (fL 1 fI) a1.Master.Methods, lst 1 (fL 1 fI) a1.Master.Costs, .sl 4 k 0 a1.Ents.length, lst 8 GReceipt.av a1.Receipts, lst 9 GSale.av a1.Sales, lst 6 GTransit.av a1.Transits, int a1.Done]]⟩), (4, ⟨47, 8, true, true, k, a1.Ents.map GEnt.av⟩)])) rfl rfl rfl (yl_call rfl rfl (.cons rfl (.cons rfl .nil)) cal86 ?_) ?_
  refine pcw (c := _) Tryz.func86 rfl rfl ?_; intro Q hret hnorm
  refine tc tbk 12 (.mk ?_)
  obtain ⟨p16, h1⟩ := asrt_e h1
  refine rse rfl rfl rfl (yl_call rfl rfl (.cons rfl .nil) cal28 (pc_cv (clone28_c (id := 4) (l := a1.Ents) rfl p16) (.cons (.refl _) .nil))) ?_; rintro _ _ ⟨v17, rfl, rfl⟩
  refine tr tbk 3 (.mk ?_)
  refine sS ⟨153, 10, true, true, v14, [[int a1.Master.Entities, int a1.Master.Periods, lst 1 fI a1.Master.Weights, lst 1 (fL 1 fI) a1.Master.Methods, lst 1 (fL 1 fI) a1.Master.Costs, .sl 4 v17 0 a1.Ents.length, lst 8 GReceipt.av a1.Receipts, lst 9 GSale.av a1.Sales, lst 6 GTransit.av a1.Transits, int a1.Done]]⟩ sh26 ?_
  refine tr tbk 9 (.mk ?_)
  obtain ⟨x18, e18, h1⟩ := bind_e h1
  refine sY (yv_ixO rfl Tryz.underlying26 sh47 rfl rfl rfl rfl rfl (Eq.symm rfl) (List.length_map _) e18) ?_
  refine tr tbk 2 (.mk ?_)
  obtain rfl := nxt_e h1
  refine w_ret (hret _ _ (hk [(1, ⟨31, 10, true, true, v4, [(GState.av a1)]⟩), (2, ⟨31, 10, true, true, v5, [[int 0, int 0, .sc (.slice none 0 0), .sc (.slice none 0 0), .sc (.slice none 0 0), .sc (.slice none 0 0), .sc (.slice none 0 0), .sc (.slice none 0 0), .sc (.slice none 0 0), int 0]]⟩), (3, ⟨153, 10, true, true, v14, [[int a1.Master.Entities, int a1.Master.Periods, lst 1 fI a1.Master.Weights, lst 1 (fL 1 fI) a1.Master.Methods, lst 1 (fL 1 fI) a1.Master.Costs, .sl 4 v17 0 a1.Ents.length, lst 8 GReceipt.av a1.Receipts, lst 9 GSale.av a1.Sales, lst 6 GTransit.av a1.Transits, int a1.Done]]⟩), (4, ⟨47, 8, true, true, v17, a1.Ents.map GEnt.av⟩)]) (.tmp rfl .nil) (HK.le ⟨rfl, rfl, rfl, rfl, trivial⟩) ?_)
  exact ⟨(), v17, rfl, rfl, rfl⟩
  rintro y _ ⟨_, w2_1, rfl, hc, rfl⟩
  subst hc
  refine tr tbk 1 (.mk ?_)
  obtain ⟨x19, e19, h0⟩ := bind_e h0
  refine sY (yv_nilCheck rfl rfl (.pt rfl rfl (ix_get' e19 (GEnt.av_eq _)))) ?_
  refine sY (yv_fieldAddr rfl fo47_3 rfl (.pt rfl rfl (ix_get' e19 (GEnt.av_eq _))) (.pt _ _ _ _ _)) ?_
  obtain ⟨x20, e20, h0⟩ := bnd_e h0
  have fx20 := ix_set e19 e20; have lx20 := len_setV e20 (rfl : a1.Ents.length = a1.Ents.length)
  refine rsstore rfl rfl (yl_ob (ob' := (⟨47, 8, true, true, w2_1, x20.map GEnt.av⟩ : AObj)) (yl_store rfl sh22 rfl rfl rfl rfl rfl (ix_get' e19 (GEnt.av_eq _)) rfl rfl rfl) (ob_eq (map_setR e20 (GEnt.av_eq _)))) ?_
  refine tr tbk 5 (.mk ?_)
  refine sS ⟨31, 10, true, true, v5, [[int a1.Master.Entities, int a1.Master.Periods, lst 1 fI a1.Master.Weights, lst 1 (fL 1 fI) a1.Master.Methods, lst 1 (fL 1 fI) a1.Master.Costs, .sl 4 w2_1 0 a1.Ents.length, lst 8 GReceipt.av a1.Receipts, lst 9 GSale.av a1.Sales, lst 6 GTransit.av a1.Transits, int a1.Done]]⟩ sh31 ?_
  refine tr tbk 2 (.mk ?_)
  obtain rfl := nxt_e h0
  refine wR hret (rC sh31 (rT .nil)) ?_
  exact CvL.tup (.cons (CvL.agg (.cons (.refl _) (.cons (.refl _) (.cons (.refl _) (.cons (.refl _) (.cons (.refl _) (.cons (cv_lst rfl rfl rfl rfl rfl (Eq.symm lx20)) (.cons (.refl _) (.cons (.refl _) (.cons (.refl _) (.cons (.refl _) .nil))))))))))) (.cons (.refl _) .nil))
def d_stock_Turn (a1 : GState) (a2 : Int) (a3 : Int) (a4 : GRoll) : Option (GState × Int) :=
(d_stock_is a1 a2 a3).bind fun x8 =>
bnd (!x8) fun x9 =>
asrt (x9 = false) <|
(ix a1.Ents a2).bind fun x10 =>
(ix x10.Rolls a3).bind fun x11 =>
(show Option ((Unit)) from
some ()).bind <| fun _ =>
(show Option (GRoll) from
(ix ([a4.Open, a4.Bought, a4.Landed, a4.Arrived, a4.Returned, a4.Sold, a4.Shipped, a4.SentBack, a4.Scrapped, a4.Lost, a4.Revalued] : List Int) 0).bind fun x16 =>
(show Option ((Unit)) from
some ()).bind <| fun _ =>
(d_money_Add x11.Open x16).bind fun x18 =>
bnd (decide (x18.2 ≠ 0)) fun x19 =>
asrt (x19 = false) <|
(ix ([a4.Open, a4.Bought, a4.Landed, a4.Arrived, a4.Returned, a4.Sold, a4.Shipped, a4.SentBack, a4.Scrapped, a4.Lost, a4.Revalued] : List Int) 1).bind fun x20 =>
(show Option ((Unit)) from
some ()).bind <| fun _ =>
(d_money_Add x11.Bought x20).bind fun x22 =>
bnd (decide (x22.2 ≠ 0)) fun x23 =>
asrt (x23 = false) <|
(ix ([a4.Open, a4.Bought, a4.Landed, a4.Arrived, a4.Returned, a4.Sold, a4.Shipped, a4.SentBack, a4.Scrapped, a4.Lost, a4.Revalued] : List Int) 2).bind fun x24 =>
(show Option ((Unit)) from
some ()).bind <| fun _ =>
(d_money_Add x11.Landed x24).bind fun x26 =>
bnd (decide (x26.2 ≠ 0)) fun x27 =>
asrt (x27 = false) <|
(ix ([a4.Open, a4.Bought, a4.Landed, a4.Arrived, a4.Returned, a4.Sold, a4.Shipped, a4.SentBack, a4.Scrapped, a4.Lost, a4.Revalued] : List Int) 3).bind fun x28 =>
(show Option ((Unit)) from
some ()).bind <| fun _ =>
(d_money_Add x11.Arrived x28).bind fun x30 =>
bnd (decide (x30.2 ≠ 0)) fun x31 =>
asrt (x31 = false) <|
(ix ([a4.Open, a4.Bought, a4.Landed, a4.Arrived, a4.Returned, a4.Sold, a4.Shipped, a4.SentBack, a4.Scrapped, a4.Lost, a4.Revalued] : List Int) 4).bind fun x32 =>
(show Option ((Unit)) from
some ()).bind <| fun _ =>
(d_money_Add x11.Returned x32).bind fun x34 =>
bnd (decide (x34.2 ≠ 0)) fun x35 =>
asrt (x35 = false) <|
(ix ([a4.Open, a4.Bought, a4.Landed, a4.Arrived, a4.Returned, a4.Sold, a4.Shipped, a4.SentBack, a4.Scrapped, a4.Lost, a4.Revalued] : List Int) 5).bind fun x36 =>
(show Option ((Unit)) from
some ()).bind <| fun _ =>
(d_money_Add x11.Sold x36).bind fun x38 =>
bnd (decide (x38.2 ≠ 0)) fun x39 =>
asrt (x39 = false) <|
(ix ([a4.Open, a4.Bought, a4.Landed, a4.Arrived, a4.Returned, a4.Sold, a4.Shipped, a4.SentBack, a4.Scrapped, a4.Lost, a4.Revalued] : List Int) 6).bind fun x40 =>
(show Option ((Unit)) from
some ()).bind <| fun _ =>
(d_money_Add x11.Shipped x40).bind fun x42 =>
bnd (decide (x42.2 ≠ 0)) fun x43 =>
asrt (x43 = false) <|
(ix ([a4.Open, a4.Bought, a4.Landed, a4.Arrived, a4.Returned, a4.Sold, a4.Shipped, a4.SentBack, a4.Scrapped, a4.Lost, a4.Revalued] : List Int) 7).bind fun x44 =>
(show Option ((Unit)) from
some ()).bind <| fun _ =>
(d_money_Add x11.SentBack x44).bind fun x46 =>
bnd (decide (x46.2 ≠ 0)) fun x47 =>
asrt (x47 = false) <|
(ix ([a4.Open, a4.Bought, a4.Landed, a4.Arrived, a4.Returned, a4.Sold, a4.Shipped, a4.SentBack, a4.Scrapped, a4.Lost, a4.Revalued] : List Int) 8).bind fun x48 =>
(show Option ((Unit)) from
some ()).bind <| fun _ =>
(d_money_Add x11.Scrapped x48).bind fun x50 =>
bnd (decide (x50.2 ≠ 0)) fun x51 =>
asrt (x51 = false) <|
(ix ([a4.Open, a4.Bought, a4.Landed, a4.Arrived, a4.Returned, a4.Sold, a4.Shipped, a4.SentBack, a4.Scrapped, a4.Lost, a4.Revalued] : List Int) 9).bind fun x52 =>
(show Option ((Unit)) from
some ()).bind <| fun _ =>
(d_money_Add x11.Lost x52).bind fun x54 =>
bnd (decide (x54.2 ≠ 0)) fun x55 =>
asrt (x55 = false) <|
(ix ([a4.Open, a4.Bought, a4.Landed, a4.Arrived, a4.Returned, a4.Sold, a4.Shipped, a4.SentBack, a4.Scrapped, a4.Lost, a4.Revalued] : List Int) 10).bind fun x56 =>
(show Option ((Unit)) from
some ()).bind <| fun _ =>
(d_money_Add x11.Revalued x56).bind fun x58 =>
bnd (decide (x58.2 ≠ 0)) fun x59 =>
asrt (x59 = false) <|
some ((⟨x18.1, x22.1, x26.1, x30.1, x34.1, x38.1, x42.1, x46.1, x50.1, x54.1, x58.1⟩ : GRoll) : GRoll)).bind <| fun y4_1 =>
(show Option ((Unit)) from
asrt (a1.Ents.length ≤ 68719476736) <|
(ix a1.Ents a2).bind fun x64 =>
some ()).bind <| fun _ =>
(ix a1.Ents a2).bind fun x65 =>
asrt (x65.Rolls.length ≤ 68719476736) <|
(ix x65.Rolls a3).bind fun x68 =>
bnd (x65.Rolls.set (Int.toNat a3) (y4_1 : GRoll)) fun x69 =>
some (((⟨a1.Master, (a1.Ents.set (Int.toNat a2) (⟨x65.Now, x65.Closed, x65.Pools, x65.Bal, x69, x65.Prices, x65.Down, x65.Ahead⟩ : GEnt)), a1.Receipts, a1.Sales, a1.Transits, a1.Done⟩ : GState) : GState), (0 : Int))
theorem d_stock_Turn_c {a1 : GState} {a2 : Int} {a3 : Int} {a4 : GRoll} {r : GState × Int} (h0 : d_stock_Turn a1 a2 a3 a4 = some r) : PP Tryz.prog 50 [.agg (GState.av a1), int a2, int a3, .agg (GRoll.av a4)] (fun y => y = .tup [.agg (GState.av r.1), int r.2]) := by
  unfold d_stock_Turn at h0
  refine pp_of_pc (R0 := fun y H => Cv (frzH H) y (.tup [.agg (GState.av r.1), int r.2])) ?_ (fun y H hc => ⟨_, rfl, .tup (pvl2 ((fun (a : GState) => PV.agg (GState.pvc a)) (r.1)) (pvI (r.2))), hc⟩)
  refine pcw (c := _) Tryz.func50 rfl rfl ?_; intro Q hret hnorm
  refine tc tbk 2 (.mk ?_)
  refine sB 1 fun v5 => ?_
  refine sB 2 fun v6 => ?_
  refine sA 3 z31 fun v7 => ?_
  refine tr tbk 8 (.mk ?_)
  obtain ⟨x8, e8, h0⟩ := bind_e h0
  refine sC cal87 (d_stock_is_c e8) ?_
  refine nb tbk h0 fun x9 h0 => ?_
  refine tr tbk 1 (.mk ?_)
  replace h0 := asrt_e h0
  obtain ⟨rfl, h0⟩ := h0
  refine tc tbk 7 (.mk ?_)
  obtain ⟨x10, e10, h0⟩ := bind_e h0
  refine sY (yv_to (y := .pp [int x10.Now, boo x10.Closed, lst 4 GPool.av x10.Pools, lst 1 fI x10.Bal, lst 11 GRoll.av x10.Rolls, lst 1 fI x10.Prices, lst 1 fI x10.Down, lst 8 GEnt.av x10.Ahead]) (yv_ixT rfl Tryz.underlying26 sh47 rfl rfl e10) (congrArg AV.pp (GEnt.av_eq x10))) ?_
  refine tr tbk 3 (.mk ?_)
  obtain ⟨x11, e11, h0⟩ := bind_e h0
  refine sY (yv_ixT rfl Tryz.underlying45 sh83 rfl rfl e11) ?_
  refine tr tbk 1 (.mk ?_)
  refine sA 4 z83 fun v12 => ?_
  refine sS ⟨83, 11, true, true, v12, [[int x11.Open, int x11.Bought, int x11.Landed, int x11.Arrived, int x11.Returned, int x11.Sold, int x11.Shipped, int x11.SentBack, int x11.Scrapped, int x11.Lost, int x11.Revalued]]⟩ sh83 ?_
  refine tr tbk 5 (.mk ?_)
  obtain ⟨j13, h1, h0⟩ := bind_e h0
  refine rse (Out := fun y H' => (∃ (a : Unit) (k : Unit), a = j13 ∧ y = lst 1 fI ([a4.Open, a4.Bought, a4.Landed, a4.Arrived, a4.Returned, a4.Sold, a4.Shipped, a4.SentBack, a4.Scrapped, a4.Lost, a4.Revalued] : List Int) ∧ H' = hk [(1, ⟨31, 10, true, true, v5, [(GState.av a1)]⟩), (2, ⟨83, 11, true, true, v6, [[int a4.Open, int a4.Bought, int a4.Landed, int a4.Arrived, int a4.Returned, int a4.Sold, int a4.Shipped, int a4.SentBack, int a4.Scrapped, int a4.Lost, int a4.Revalued]]⟩), (3, ⟨31, 10, true, true, v7, [[int 0, int 0, .sc (.slice none 0 0), .sc (.slice none 0 0), .sc (.slice none 0 0), .sc (.slice none 0 0), .sc (.slice none 0 0), .sc (.slice none 0 0), .sc (.slice none 0 0), int 0]]⟩), (4, ⟨83, 11, true, true, v12, [[int x11.Open, int x11.Bought, int x11.Landed, int x11.Arrived, int x11.Returned, int x11.Sold, int x11.Shipped, int x11.SentBack, int x11.Scrapped, int x11.Lost, int x11.Revalued]]⟩)])) rfl rfl rfl (yl_call rfl rfl (.cons rfl .nil) cal88 ?_) ?_
  refine pcw (c := _) Tryz.func88 rfl rfl ?_; intro Q hret hnorm
  refine tc tbk 2 (.mk ?_)
  refine sB 5 fun v14 => ?_
  refine tr tbk 26 (.mk ?_)
  refine sY (yv_to (y := lst 1 fI ([a4.Open, a4.Bought, a4.Landed, a4.Arrived, a4.Returned, a4.Sold, a4.Shipped, a4.SentBack, a4.Scrapped, a4.Lost, a4.Revalued] : List Int)) (yv_buildSlice (ps := [(0, _), (1, _), (2, _), (3, _), (4, _), (5, _), (6, _), (7, _), (8, _), (9, _), (10, _)]) (rows := [[int a4.Open], [int a4.Bought], [int a4.Landed], [int a4.Arrived], [int a4.Returned], [int a4.Sold], [int a4.Shipped], [int a4.SentBack], [int a4.Scrapped], [int a4.Lost], [int a4.Revalued]]) rfl Tryz.underlying22 bz3 (.cons rfl (.cons rfl (.cons rfl (.cons rfl (.cons rfl (.cons rfl (.cons rfl (.cons rfl (.cons rfl (.cons rfl (.cons rfl .nil))))))))))) (by kernel_rfl) rfl rfl rfl) rfl) ?_
  refine tr tbk 2 (.mk ?_)
  obtain rfl := nxt_e h1
  refine w_ret (hret _ _ (hk [(1, ⟨31, 10, true, true, v5, [(GState.av a1)]⟩), (2, ⟨83, 11, true, true, v6, [[int a4.Open, int a4.Bought, int a4.Landed, int a4.Arrived, int a4.Returned, int a4.Sold, int a4.Shipped, int a4.SentBack, int a4.Scrapped, int a4.Lost, int a4.Revalued]]⟩), (3, ⟨31, 10, true, true, v7, [[int 0, int 0, .sc (.slice none 0 0), .sc (.slice none 0 0), .sc (.slice none 0 0), .sc (.slice none 0 0), .sc (.slice none 0 0), .sc (.slice none 0 0), .sc (.slice none 0 0), int 0]]⟩), (4, ⟨83, 11, true, true, v12, [[int x11.Open, int x11.Bought, int x11.Landed, int x11.Arrived, int x11.Returned, int x11.Sold, int x11.Shipped, int x11.SentBack, int x11.Scrapped, int x11.Lost, int x11.Revalued]]⟩)]) (.tmp rfl .nil) (HK.le ⟨rfl, rfl, rfl, rfl, trivial⟩) ?_)
  exact ⟨(), (), rfl, rfl, rfl⟩
  rintro y _ ⟨_, _, rfl, hc, rfl⟩
  subst hc
  refine sY (yv_to (y := int 11) (yv_len_sl rfl Tryz.underlying22 rfl (lst_len _)) rfl) ?_
  refine tr tbk 2 (.mk ?_)
  refine jn h0 [1, 2, 4, 8, 9, 10] [1, 3] (fun (a : GRoll) (k : Unit) => []) (fun a k => [(4, ⟨83, 11, true, true, v12, [[int a.Open, int a.Bought, int a.Landed, int a.Arrived, int a.Returned, int a.Sold, int a.Shipped, int a.SentBack, int a.Scrapped, int a.Lost, int a.Revalued]]⟩)]) ⟨fun j15 h1 => ?_, ?_⟩
  refine tc tbk 4 (.mk ?_)
  refine sY (yv_to (y := boo true) (yv_lss rfl rfl rfl) (congrArg boo (by decide))) ?_
  refine tr tbk 9 (.mk ?_)
  obtain ⟨x16, e16, h1⟩ := bind_e h1
  refine sY (yv_ixT rfl Tryz.underlying22 sh3 rfl rfl e16) ?_
  refine tr tbk 6 (.mk ?_)
  obtain ⟨j17, h2, h1⟩ := bind_e h1
  refine rse (Out := fun y H' => (∃ (a : Unit) (k : Unit), a = j17 ∧ y = .list 1 [[.pt 4 v12 0 0], [.pt 4 v12 0 1], [.pt 4 v12 0 2], [.pt 4 v12 0 3], [.pt 4 v12 0 4], [.pt 4 v12 0 5], [.pt 4 v12 0 6], [.pt 4 v12 0 7], [.pt 4 v12 0 8], [.pt 4 v12 0 9], [.pt 4 v12 0 10]] ∧ H' = hk [(1, ⟨31, 10, true, true, v5, [(GState.av a1)]⟩), (2, ⟨83, 11, true, true, v6, [[int a4.Open, int a4.Bought, int a4.Landed, int a4.Arrived, int a4.Returned, int a4.Sold, int a4.Shipped, int a4.SentBack, int a4.Scrapped, int a4.Lost, int a4.Revalued]]⟩), (3, ⟨31, 10, true, true, v7, [[int 0, int 0, .sc (.slice none 0 0), .sc (.slice none 0 0), .sc (.slice none 0 0), .sc (.slice none 0 0), .sc (.slice none 0 0), .sc (.slice none 0 0), .sc (.slice none 0 0), int 0]]⟩), (4, ⟨83, 11, true, true, v12, [[int x11.Open, int x11.Bought, int x11.Landed, int x11.Arrived, int x11.Returned, int x11.Sold, int x11.Shipped, int x11.SentBack, int x11.Scrapped, int x11.Lost, int x11.Revalued]]⟩)])) rfl rfl rfl (yl_call rfl rfl (.cons rfl .nil) cal89 ?_) ?_
  refine pcw (c := _) Tryz.func89 rfl rfl ?_; intro Q hret hnorm
  refine tc tbk 5 (.mk ?_)
  refine c_drawE [0, 1, 3, 0, 8, 24, 0, 64, 192, 0, 512, 1536, 0, 4096, 12288, 0, 32768, 98304, 0, 262144, 786432, 0, 2097152, 6291456, 0, 16777216, 50331648, 0, 134217728, 402653184, 0, 1073741824, 3221225472, 8589934591, 17179869183] (rl [(1, [4]), (2, [4]), (4, [4]), (5, [4]), (7, [4]), (8, [4]), (10, [4]), (11, [4]), (13, [4]), (14, [4]), (16, [4]), (17, [4]), (19, [4]), (20, [4]), (22, [4]), (23, [4]), (25, [4]), (26, [4]), (28, [4]), (29, [4]), (31, [4]), (32, [4])] []) (fun i => [4]) (fun i => true) [0, 1, 2, 3, 4, 5, 6, 7, 8, 9, 10, 11, 12, 13, 14, 15, 16, 17, 18, 19, 20, 21, 22, 23, 24, 25, 26, 27, 28, 29, 30, 31, 32, 33, 34] mixed (by kernel_rfl) ?_; intro K hK
  refine eM ?_
  refine eN ?_
  refine eF fo83_0 ?_
  refine eM ?_
  refine eN ?_
  refine eF fo83_1 ?_
  refine eM ?_
  refine eN ?_
  refine eF fo83_2 ?_
  refine eM ?_
  refine eN ?_
  refine eF fo83_3 ?_
  refine eM ?_
  refine eN ?_
  refine eF fo83_4 ?_
  refine eM ?_
  refine eN ?_
  refine eF fo83_5 ?_
  refine eM ?_
  refine eN ?_
  refine eF fo83_6 ?_
  refine eM ?_
  refine eN ?_
  refine eF fo83_7 ?_
  refine eM ?_
  refine eN ?_
  refine eF fo83_8 ?_
  refine eM ?_
  refine eN ?_
  refine eF fo83_9 ?_
  refine eM ?_
  refine eN ?_
  refine eF fo83_10 ?_
  refine eP (fun H hH => yv_buildSlice (ps := [(0, _), (1, _), (2, _), (3, _), (4, _), (5, _), (6, _), (7, _), (8, _), (9, _), (10, _)]) (rows := [[.pt 4 v12 0 0], [.pt 4 v12 0 1], [.pt 4 v12 0 2], [.pt 4 v12 0 3], [.pt 4 v12 0 4], [.pt 4 v12 0 5], [.pt 4 v12 0 6], [.pt 4 v12 0 7], [.pt 4 v12 0 8], [.pt 4 v12 0 9], [.pt 4 v12 0 10]]) rfl Tryz.underlying156 bz67 (.cons rfl (.cons rfl (.cons rfl (.cons rfl (.cons rfl (.cons rfl (.cons rfl (.cons rfl (.cons rfl (.cons rfl (.cons rfl .nil))))))))))) (by kernel_rfl) rfl rfl rfl) ?_
  refine eA ?_
  refine de_nil (hK _ ?_)
  obtain rfl := nxt_e h2
  refine w_ret (hret _ _ (hk [(1, ⟨31, 10, true, true, v5, [(GState.av a1)]⟩), (2, ⟨83, 11, true, true, v6, [[int a4.Open, int a4.Bought, int a4.Landed, int a4.Arrived, int a4.Returned, int a4.Sold, int a4.Shipped, int a4.SentBack, int a4.Scrapped, int a4.Lost, int a4.Revalued]]⟩), (3, ⟨31, 10, true, true, v7, [[int 0, int 0, .sc (.slice none 0 0), .sc (.slice none 0 0), .sc (.slice none 0 0), .sc (.slice none 0 0), .sc (.slice none 0 0), .sc (.slice none 0 0), .sc (.slice none 0 0), int 0]]⟩), (4, ⟨83, 11, true, true, v12, [[int x11.Open, int x11.Bought, int x11.Landed, int x11.Arrived, int x11.Returned, int x11.Sold, int x11.Shipped, int x11.SentBack, int x11.Scrapped, int x11.Lost, int x11.Revalued]]⟩)]) (.tmp rfl .nil) (HK.le ⟨rfl, rfl, rfl, rfl, trivial⟩) ?_)
  exact ⟨(), (), rfl, rfl, rfl⟩
  rintro y _ ⟨_, _, rfl, hc, rfl⟩
  subst hc
  refine tr tbk 1 (.mk ?_)
  refine sY (yv_indexAddr (j := 0) rfl Tryz.underlying156 sh67 rfl rfl rfl (.list rfl)) ?_
  refine tr tbk 9 (.mk ?_)
  obtain ⟨x18, e18, h1⟩ := bind_e h1
  refine sC cal64 (d_money_Add_c e18) ?_
  refine tr tbk 10 (.mk ?_)
  refine nb tbk h1 fun x19 h1 => ?_
  refine tr tbk 1 (.mk ?_)
  replace h1 := asrt_e h1
  obtain ⟨rfl, h1⟩ := h1
  refine tc tbk 6 (.mk ?_)
  refine sS ⟨83, 11, true, true, v12, [[int x18.1, int x11.Bought, int x11.Landed, int x11.Arrived, int x11.Returned, int x11.Sold, int x11.Shipped, int x11.SentBack, int x11.Scrapped, int x11.Lost, int x11.Revalued]]⟩ sh3 ?_
  refine tr tbk 3 (.mk ?_)
  refine sY (yv_add (r := 1) rfl rfl rfl (by decide)) ?_
  refine tr tbk 5 (.mk ?_)
  refine sY (yv_to (y := boo true) (yv_lss rfl rfl rfl) (congrArg boo (by decide))) ?_
  refine tr tbk 9 (.mk ?_)
  obtain ⟨x20, e20, h1⟩ := bind_e h1
  refine sY (yv_ixT rfl Tryz.underlying22 sh3 rfl rfl e20) ?_
  refine tr tbk 6 (.mk ?_)
  obtain ⟨j21, h2, h1⟩ := bind_e h1
  refine rse (Out := fun y H' => (∃ (a : Unit) (k : Unit), a = j21 ∧ y = .list 1 [[.pt 4 v12 0 0], [.pt 4 v12 0 1], [.pt 4 v12 0 2], [.pt 4 v12 0 3], [.pt 4 v12 0 4], [.pt 4 v12 0 5], [.pt 4 v12 0 6], [.pt 4 v12 0 7], [.pt 4 v12 0 8], [.pt 4 v12 0 9], [.pt 4 v12 0 10]] ∧ H' = hk [(1, ⟨31, 10, true, true, v5, [(GState.av a1)]⟩), (2, ⟨83, 11, true, true, v6, [[int a4.Open, int a4.Bought, int a4.Landed, int a4.Arrived, int a4.Returned, int a4.Sold, int a4.Shipped, int a4.SentBack, int a4.Scrapped, int a4.Lost, int a4.Revalued]]⟩), (3, ⟨31, 10, true, true, v7, [[int 0, int 0, .sc (.slice none 0 0), .sc (.slice none 0 0), .sc (.slice none 0 0), .sc (.slice none 0 0), .sc (.slice none 0 0), .sc (.slice none 0 0), .sc (.slice none 0 0), int 0]]⟩), (4, ⟨83, 11, true, true, v12, [[int x18.1, int x11.Bought, int x11.Landed, int x11.Arrived, int x11.Returned, int x11.Sold, int x11.Shipped, int x11.SentBack, int x11.Scrapped, int x11.Lost, int x11.Revalued]]⟩)])) rfl rfl rfl (yl_call rfl rfl (.cons rfl .nil) cal89 ?_) ?_
  refine pcw (c := _) Tryz.func89 rfl rfl ?_; intro Q hret hnorm
  refine tc tbk 5 (.mk ?_)
  refine c_drawE [0, 1, 3, 0, 8, 24, 0, 64, 192, 0, 512, 1536, 0, 4096, 12288, 0, 32768, 98304, 0, 262144, 786432, 0, 2097152, 6291456, 0, 16777216, 50331648, 0, 134217728, 402653184, 0, 1073741824, 3221225472, 8589934591, 17179869183] (rl [(1, [4]), (2, [4]), (4, [4]), (5, [4]), (7, [4]), (8, [4]), (10, [4]), (11, [4]), (13, [4]), (14, [4]), (16, [4]), (17, [4]), (19, [4]), (20, [4]), (22, [4]), (23, [4]), (25, [4]), (26, [4]), (28, [4]), (29, [4]), (31, [4]), (32, [4])] []) (fun i => [4]) (fun i => true) [0, 1, 2, 3, 4, 5, 6, 7, 8, 9, 10, 11, 12, 13, 14, 15, 16, 17, 18, 19, 20, 21, 22, 23, 24, 25, 26, 27, 28, 29, 30, 31, 32, 33, 34] mixed (by kernel_rfl) ?_; intro K hK
  refine eM ?_
  refine eN ?_
  refine eF fo83_0 ?_
  refine eM ?_
  refine eN ?_
  refine eF fo83_1 ?_
  refine eM ?_
  refine eN ?_
  refine eF fo83_2 ?_
  refine eM ?_
  refine eN ?_
  refine eF fo83_3 ?_
  refine eM ?_
  refine eN ?_
  refine eF fo83_4 ?_
  refine eM ?_
  refine eN ?_
  refine eF fo83_5 ?_
  refine eM ?_
  refine eN ?_
  refine eF fo83_6 ?_
  refine eM ?_
  refine eN ?_
  refine eF fo83_7 ?_
  refine eM ?_
  refine eN ?_
  refine eF fo83_8 ?_
  refine eM ?_
  refine eN ?_
  refine eF fo83_9 ?_
  refine eM ?_
  refine eN ?_
  refine eF fo83_10 ?_
  refine eP (fun H hH => yv_buildSlice (ps := [(0, _), (1, _), (2, _), (3, _), (4, _), (5, _), (6, _), (7, _), (8, _), (9, _), (10, _)]) (rows := [[.pt 4 v12 0 0], [.pt 4 v12 0 1], [.pt 4 v12 0 2], [.pt 4 v12 0 3], [.pt 4 v12 0 4], [.pt 4 v12 0 5], [.pt 4 v12 0 6], [.pt 4 v12 0 7], [.pt 4 v12 0 8], [.pt 4 v12 0 9], [.pt 4 v12 0 10]]) rfl Tryz.underlying156 bz67 (.cons rfl (.cons rfl (.cons rfl (.cons rfl (.cons rfl (.cons rfl (.cons rfl (.cons rfl (.cons rfl (.cons rfl (.cons rfl .nil))))))))))) (by kernel_rfl) rfl rfl rfl) ?_
  refine eA ?_
  refine de_nil (hK _ ?_)
  obtain rfl := nxt_e h2
  refine w_ret (hret _ _ (hk [(1, ⟨31, 10, true, true, v5, [(GState.av a1)]⟩), (2, ⟨83, 11, true, true, v6, [[int a4.Open, int a4.Bought, int a4.Landed, int a4.Arrived, int a4.Returned, int a4.Sold, int a4.Shipped, int a4.SentBack, int a4.Scrapped, int a4.Lost, int a4.Revalued]]⟩), (3, ⟨31, 10, true, true, v7, [[int 0, int 0, .sc (.slice none 0 0), .sc (.slice none 0 0), .sc (.slice none 0 0), .sc (.slice none 0 0), .sc (.slice none 0 0), .sc (.slice none 0 0), .sc (.slice none 0 0), int 0]]⟩), (4, ⟨83, 11, true, true, v12, [[int x18.1, int x11.Bought, int x11.Landed, int x11.Arrived, int x11.Returned, int x11.Sold, int x11.Shipped, int x11.SentBack, int x11.Scrapped, int x11.Lost, int x11.Revalued]]⟩)]) (.tmp rfl .nil) (HK.le ⟨rfl, rfl, rfl, rfl, trivial⟩) ?_)
  exact ⟨(), (), rfl, rfl, rfl⟩
  rintro y _ ⟨_, _, rfl, hc, rfl⟩
  subst hc
  refine tr tbk 1 (.mk ?_)
  refine sY (yv_indexAddr (j := 1) rfl Tryz.underlying156 sh67 rfl rfl rfl (.list rfl)) ?_
  refine tr tbk 9 (.mk ?_)
  obtain ⟨x22, e22, h1⟩ := bind_e h1
  refine sC cal64 (d_money_Add_c e22) ?_
  refine tr tbk 10 (.mk ?_)
  refine nb tbk h1 fun x23 h1 => ?_
  refine tr tbk 1 (.mk ?_)
  replace h1 := asrt_e h1
  obtain ⟨rfl, h1⟩ := h1
  refine tc tbk 6 (.mk ?_)
  refine sS ⟨83, 11, true, true, v12, [[int x18.1, int x22.1, int x11.Landed, int x11.Arrived, int x11.Returned, int x11.Sold, int x11.Shipped, int x11.SentBack, int x11.Scrapped, int x11.Lost, int x11.Revalued]]⟩ sh3 ?_
  refine tr tbk 3 (.mk ?_)
  refine sY (yv_add (r := 2) rfl rfl rfl (by decide)) ?_
  refine tr tbk 5 (.mk ?_)
  refine sY (yv_to (y := boo true) (yv_lss rfl rfl rfl) (congrArg boo (by decide))) ?_
  refine tr tbk 9 (.mk ?_)
  obtain ⟨x24, e24, h1⟩ := bind_e h1
  refine sY (yv_ixT rfl Tryz.underlying22 sh3 rfl rfl e24) ?_
  refine tr tbk 6 (.mk ?_)
  obtain ⟨j25, h2, h1⟩ := bind_e h1
  refine rse (Out := fun y H' => (∃ (a : Unit) (k : Unit), a = j25 ∧ y = .list 1 [[.pt 4 v12 0 0], [.pt 4 v12 0 1], [.pt 4 v12 0 2], [.pt 4 v12 0 3], [.pt 4 v12 0 4], [.pt 4 v12 0 5], [.pt 4 v12 0 6], [.pt 4 v12 0 7], [.pt 4 v12 0 8], [.pt 4 v12 0 9], [.pt 4 v12 0 10]] ∧ H' = hk [(1, ⟨31, 10, true, true, v5, [(GState.av a1)]⟩), (2, ⟨83, 11, true, true, v6, [[int a4.Open, int a4.Bought, int a4.Landed, int a4.Arrived, int a4.Returned, int a4.Sold, int a4.Shipped, int a4.SentBack, int a4.Scrapped, int a4.Lost, int a4.Revalued]]⟩), (3, ⟨31, 10, true, true, v7, [[int 0, int 0, .sc (.slice none 0 0), .sc (.slice none 0 0), .sc (.slice none 0 0), .sc (.slice none 0 0), .sc (.slice none 0 0), .sc (.slice none 0 0), .sc (.slice none 0 0), int 0]]⟩), (4, ⟨83, 11, true, true, v12, [[int x18.1, int x22.1, int x11.Landed, int x11.Arrived, int x11.Returned, int x11.Sold, int x11.Shipped, int x11.SentBack, int x11.Scrapped, int x11.Lost, int x11.Revalued]]⟩)])) rfl rfl rfl (yl_call rfl rfl (.cons rfl .nil) cal89 ?_) ?_
  refine pcw (c := _) Tryz.func89 rfl rfl ?_; intro Q hret hnorm
  refine tc tbk 5 (.mk ?_)
  refine c_drawE [0, 1, 3, 0, 8, 24, 0, 64, 192, 0, 512, 1536, 0, 4096, 12288, 0, 32768, 98304, 0, 262144, 786432, 0, 2097152, 6291456, 0, 16777216, 50331648, 0, 134217728, 402653184, 0, 1073741824, 3221225472, 8589934591, 17179869183] (rl [(1, [4]), (2, [4]), (4, [4]), (5, [4]), (7, [4]), (8, [4]), (10, [4]), (11, [4]), (13, [4]), (14, [4]), (16, [4]), (17, [4]), (19, [4]), (20, [4]), (22, [4]), (23, [4]), (25, [4]), (26, [4]), (28, [4]), (29, [4]), (31, [4]), (32, [4])] []) (fun i => [4]) (fun i => true) [0, 1, 2, 3, 4, 5, 6, 7, 8, 9, 10, 11, 12, 13, 14, 15, 16, 17, 18, 19, 20, 21, 22, 23, 24, 25, 26, 27, 28, 29, 30, 31, 32, 33, 34] mixed (by kernel_rfl) ?_; intro K hK
  refine eM ?_
  refine eN ?_
  refine eF fo83_0 ?_
  refine eM ?_
  refine eN ?_
  refine eF fo83_1 ?_
  refine eM ?_
  refine eN ?_
  refine eF fo83_2 ?_
  refine eM ?_
  refine eN ?_
  refine eF fo83_3 ?_
  refine eM ?_
  refine eN ?_
  refine eF fo83_4 ?_
  refine eM ?_
  refine eN ?_
  refine eF fo83_5 ?_
  refine eM ?_
  refine eN ?_
  refine eF fo83_6 ?_
  refine eM ?_
  refine eN ?_
  refine eF fo83_7 ?_
  refine eM ?_
  refine eN ?_
  refine eF fo83_8 ?_
  refine eM ?_
  refine eN ?_
  refine eF fo83_9 ?_
  refine eM ?_
  refine eN ?_
  refine eF fo83_10 ?_
  refine eP (fun H hH => yv_buildSlice (ps := [(0, _), (1, _), (2, _), (3, _), (4, _), (5, _), (6, _), (7, _), (8, _), (9, _), (10, _)]) (rows := [[.pt 4 v12 0 0], [.pt 4 v12 0 1], [.pt 4 v12 0 2], [.pt 4 v12 0 3], [.pt 4 v12 0 4], [.pt 4 v12 0 5], [.pt 4 v12 0 6], [.pt 4 v12 0 7], [.pt 4 v12 0 8], [.pt 4 v12 0 9], [.pt 4 v12 0 10]]) rfl Tryz.underlying156 bz67 (.cons rfl (.cons rfl (.cons rfl (.cons rfl (.cons rfl (.cons rfl (.cons rfl (.cons rfl (.cons rfl (.cons rfl (.cons rfl .nil))))))))))) (by kernel_rfl) rfl rfl rfl) ?_
  refine eA ?_
  refine de_nil (hK _ ?_)
  obtain rfl := nxt_e h2
  refine w_ret (hret _ _ (hk [(1, ⟨31, 10, true, true, v5, [(GState.av a1)]⟩), (2, ⟨83, 11, true, true, v6, [[int a4.Open, int a4.Bought, int a4.Landed, int a4.Arrived, int a4.Returned, int a4.Sold, int a4.Shipped, int a4.SentBack, int a4.Scrapped, int a4.Lost, int a4.Revalued]]⟩), (3, ⟨31, 10, true, true, v7, [[int 0, int 0, .sc (.slice none 0 0), .sc (.slice none 0 0), .sc (.slice none 0 0), .sc (.slice none 0 0), .sc (.slice none 0 0), .sc (.slice none 0 0), .sc (.slice none 0 0), int 0]]⟩), (4, ⟨83, 11, true, true, v12, [[int x18.1, int x22.1, int x11.Landed, int x11.Arrived, int x11.Returned, int x11.Sold, int x11.Shipped, int x11.SentBack, int x11.Scrapped, int x11.Lost, int x11.Revalued]]⟩)]) (.tmp rfl .nil) (HK.le ⟨rfl, rfl, rfl, rfl, trivial⟩) ?_)
  exact ⟨(), (), rfl, rfl, rfl⟩
  rintro y _ ⟨_, _, rfl, hc, rfl⟩
  subst hc
  refine tr tbk 1 (.mk ?_)
  refine sY (yv_indexAddr (j := 2) rfl Tryz.underlying156 sh67 rfl rfl rfl (.list rfl)) ?_
  refine tr tbk 9 (.mk ?_)
  obtain ⟨x26, e26, h1⟩ := bind_e h1
  refine sC cal64 (d_money_Add_c e26) ?_
  refine tr tbk 10 (.mk ?_)
  refine nb tbk h1 fun x27 h1 => ?_
  refine tr tbk 1 (.mk ?_)
  replace h1 := asrt_e h1
  obtain ⟨rfl, h1⟩ := h1
  refine tc tbk 6 (.mk ?_)
  refine sS ⟨83, 11, true, true, v12, [[int x18.1, int x22.1, int x26.1, int x11.Arrived, int x11.Returned, int x11.Sold, int x11.Shipped, int x11.SentBack, int x11.Scrapped, int x11.Lost, int x11.Revalued]]⟩ sh3 ?_
  refine tr tbk 3 (.mk ?_)
  refine sY (yv_add (r := 3) rfl rfl rfl (by decide)) ?_
  refine tr tbk 5 (.mk ?_)
  refine sY (yv_to (y := boo true) (yv_lss rfl rfl rfl) (congrArg boo (by decide))) ?_
  refine tr tbk 9 (.mk ?_)
  obtain ⟨x28, e28, h1⟩ := bind_e h1
  refine sY (yv_ixT rfl Tryz.underlying22 sh3 rfl rfl e28) ?_
  refine tr tbk 6 (.mk ?_)
  obtain ⟨j29, h2, h1⟩ := bind_e h1
  refine rse (Out := fun y H' => (∃ (a : Unit) (k : Unit), a = j29 ∧ y = .list 1 [[.pt 4 v12 0 0], [.pt 4 v12 0 1], [.pt 4 v12 0 2], [.pt 4 v12 0 3], [.pt 4 v12 0 4], [.pt 4 v12 0 5], [.pt 4 v12 0 6], [.pt 4 v12 0 7], [.pt 4 v12 0 8], [.pt 4 v12 0 9], [.pt 4 v12 0 10]] ∧ H' = hk [(1, ⟨31, 10, true, true, v5, [(GState.av a1)]⟩), (2, ⟨83, 11, true, true, v6, [[int a4.Open, int a4.Bought, int a4.Landed, int a4.Arrived, int a4.Returned, int a4.Sold, int a4.Shipped, int a4.SentBack, int a4.Scrapped, int a4.Lost, int a4.Revalued]]⟩), (3, ⟨31, 10, true, true, v7, [[int 0, int 0, .sc (.slice none 0 0), .sc (.slice none 0 0), .sc (.slice none 0 0), .sc (.slice none 0 0), .sc (.slice none 0 0), .sc (.slice none 0 0), .sc (.slice none 0 0), int 0]]⟩), (4, ⟨83, 11, true, true, v12, [[int x18.1, int x22.1, int x26.1, int x11.Arrived, int x11.Returned, int x11.Sold, int x11.Shipped, int x11.SentBack, int x11.Scrapped, int x11.Lost, int x11.Revalued]]⟩)])) rfl rfl rfl (yl_call rfl rfl (.cons rfl .nil) cal89 ?_) ?_
  refine pcw (c := _) Tryz.func89 rfl rfl ?_; intro Q hret hnorm
  refine tc tbk 5 (.mk ?_)
  refine c_drawE [0, 1, 3, 0, 8, 24, 0, 64, 192, 0, 512, 1536, 0, 4096, 12288, 0, 32768, 98304, 0, 262144, 786432, 0, 2097152, 6291456, 0, 16777216, 50331648, 0, 134217728, 402653184, 0, 1073741824, 3221225472, 8589934591, 17179869183] (rl [(1, [4]), (2, [4]), (4, [4]), (5, [4]), (7, [4]), (8, [4]), (10, [4]), (11, [4]), (13, [4]), (14, [4]), (16, [4]), (17, [4]), (19, [4]), (20, [4]), (22, [4]), (23, [4]), (25, [4]), (26, [4]), (28, [4]), (29, [4]), (31, [4]), (32, [4])] []) (fun i => [4]) (fun i => true) [0, 1, 2, 3, 4, 5, 6, 7, 8, 9, 10, 11, 12, 13, 14, 15, 16, 17, 18, 19, 20, 21, 22, 23, 24, 25, 26, 27, 28, 29, 30, 31, 32, 33, 34] mixed (by kernel_rfl) ?_; intro K hK
  refine eM ?_
  refine eN ?_
  refine eF fo83_0 ?_
  refine eM ?_
  refine eN ?_
  refine eF fo83_1 ?_
  refine eM ?_
  refine eN ?_
  refine eF fo83_2 ?_
  refine eM ?_
  refine eN ?_
  refine eF fo83_3 ?_
  refine eM ?_
  refine eN ?_
  refine eF fo83_4 ?_
  refine eM ?_
  refine eN ?_
  refine eF fo83_5 ?_
  refine eM ?_
  refine eN ?_
  refine eF fo83_6 ?_
  refine eM ?_
  refine eN ?_
  refine eF fo83_7 ?_
  refine eM ?_
  refine eN ?_
  refine eF fo83_8 ?_
  refine eM ?_
  refine eN ?_
  refine eF fo83_9 ?_
  refine eM ?_
  refine eN ?_
  refine eF fo83_10 ?_
  refine eP (fun H hH => yv_buildSlice (ps := [(0, _), (1, _), (2, _), (3, _), (4, _), (5, _), (6, _), (7, _), (8, _), (9, _), (10, _)]) (rows := [[.pt 4 v12 0 0], [.pt 4 v12 0 1], [.pt 4 v12 0 2], [.pt 4 v12 0 3], [.pt 4 v12 0 4], [.pt 4 v12 0 5], [.pt 4 v12 0 6], [.pt 4 v12 0 7], [.pt 4 v12 0 8], [.pt 4 v12 0 9], [.pt 4 v12 0 10]]) rfl Tryz.underlying156 bz67 (.cons rfl (.cons rfl (.cons rfl (.cons rfl (.cons rfl (.cons rfl (.cons rfl (.cons rfl (.cons rfl (.cons rfl (.cons rfl .nil))))))))))) (by kernel_rfl) rfl rfl rfl) ?_
  refine eA ?_
  refine de_nil (hK _ ?_)
  obtain rfl := nxt_e h2
  refine w_ret (hret _ _ (hk [(1, ⟨31, 10, true, true, v5, [(GState.av a1)]⟩), (2, ⟨83, 11, true, true, v6, [[int a4.Open, int a4.Bought, int a4.Landed, int a4.Arrived, int a4.Returned, int a4.Sold, int a4.Shipped, int a4.SentBack, int a4.Scrapped, int a4.Lost, int a4.Revalued]]⟩), (3, ⟨31, 10, true, true, v7, [[int 0, int 0, .sc (.slice none 0 0), .sc (.slice none 0 0), .sc (.slice none 0 0), .sc (.slice none 0 0), .sc (.slice none 0 0), .sc (.slice none 0 0), .sc (.slice none 0 0), int 0]]⟩), (4, ⟨83, 11, true, true, v12, [[int x18.1, int x22.1, int x26.1, int x11.Arrived, int x11.Returned, int x11.Sold, int x11.Shipped, int x11.SentBack, int x11.Scrapped, int x11.Lost, int x11.Revalued]]⟩)]) (.tmp rfl .nil) (HK.le ⟨rfl, rfl, rfl, rfl, trivial⟩) ?_)
  exact ⟨(), (), rfl, rfl, rfl⟩
  rintro y _ ⟨_, _, rfl, hc, rfl⟩
  subst hc
  refine tr tbk 1 (.mk ?_)
  refine sY (yv_indexAddr (j := 3) rfl Tryz.underlying156 sh67 rfl rfl rfl (.list rfl)) ?_
  refine tr tbk 9 (.mk ?_)
  obtain ⟨x30, e30, h1⟩ := bind_e h1
  refine sC cal64 (d_money_Add_c e30) ?_
  refine tr tbk 10 (.mk ?_)
  refine nb tbk h1 fun x31 h1 => ?_
  refine tr tbk 1 (.mk ?_)
  replace h1 := asrt_e h1
  obtain ⟨rfl, h1⟩ := h1
  refine tc tbk 6 (.mk ?_)
  refine sS ⟨83, 11, true, true, v12, [[int x18.1, int x22.1, int x26.1, int x30.1, int x11.Returned, int x11.Sold, int x11.Shipped, int x11.SentBack, int x11.Scrapped, int x11.Lost, int x11.Revalued]]⟩ sh3 ?_
  refine tr tbk 3 (.mk ?_)
  refine sY (yv_add (r := 4) rfl rfl rfl (by decide)) ?_
  refine tr tbk 5 (.mk ?_)
  refine sY (yv_to (y := boo true) (yv_lss rfl rfl rfl) (congrArg boo (by decide))) ?_
  refine tr tbk 9 (.mk ?_)
  obtain ⟨x32, e32, h1⟩ := bind_e h1
  refine sY (yv_ixT rfl Tryz.underlying22 sh3 rfl rfl e32) ?_
  refine tr tbk 6 (.mk ?_)
  obtain ⟨j33, h2, h1⟩ := bind_e h1
  refine rse (Out := fun y H' => (∃ (a : Unit) (k : Unit), a = j33 ∧ y = .list 1 [[.pt 4 v12 0 0], [.pt 4 v12 0 1], [.pt 4 v12 0 2], [.pt 4 v12 0 3], [.pt 4 v12 0 4], [.pt 4 v12 0 5], [.pt 4 v12 0 6], [.pt 4 v12 0 7], [.pt 4 v12 0 8], [.pt 4 v12 0 9], [.pt 4 v12 0 10]] ∧ H' = hk [(1, ⟨31, 10, true, true, v5, [(GState.av a1)]⟩), (2, ⟨83, 11, true, true, v6, [[int a4.Open, int a4.Bought, int a4.Landed, int a4.Arrived, int a4.Returned, int a4.Sold, int a4.Shipped, int a4.SentBack, int a4.Scrapped, int a4.Lost, int a4.Revalued]]⟩), (3, ⟨31, 10, true, true, v7, [[int 0, int 0, .sc (.slice none 0 0), .sc (.slice none 0 0), .sc (.slice none 0 0), .sc (.slice none 0 0), .sc (.slice none 0 0), .sc (.slice none 0 0), .sc (.slice none 0 0), int 0]]⟩), (4, ⟨83, 11, true, true, v12, [[int x18.1, int x22.1, int x26.1, int x30.1, int x11.Returned, int x11.Sold, int x11.Shipped, int x11.SentBack, int x11.Scrapped, int x11.Lost, int x11.Revalued]]⟩)])) rfl rfl rfl (yl_call rfl rfl (.cons rfl .nil) cal89 ?_) ?_
  refine pcw (c := _) Tryz.func89 rfl rfl ?_; intro Q hret hnorm
  refine tc tbk 5 (.mk ?_)
  refine c_drawE [0, 1, 3, 0, 8, 24, 0, 64, 192, 0, 512, 1536, 0, 4096, 12288, 0, 32768, 98304, 0, 262144, 786432, 0, 2097152, 6291456, 0, 16777216, 50331648, 0, 134217728, 402653184, 0, 1073741824, 3221225472, 8589934591, 17179869183] (rl [(1, [4]), (2, [4]), (4, [4]), (5, [4]), (7, [4]), (8, [4]), (10, [4]), (11, [4]), (13, [4]), (14, [4]), (16, [4]), (17, [4]), (19, [4]), (20, [4]), (22, [4]), (23, [4]), (25, [4]), (26, [4]), (28, [4]), (29, [4]), (31, [4]), (32, [4])] []) (fun i => [4]) (fun i => true) [0, 1, 2, 3, 4, 5, 6, 7, 8, 9, 10, 11, 12, 13, 14, 15, 16, 17, 18, 19, 20, 21, 22, 23, 24, 25, 26, 27, 28, 29, 30, 31, 32, 33, 34] mixed (by kernel_rfl) ?_; intro K hK
  refine eM ?_
  refine eN ?_
  refine eF fo83_0 ?_
  refine eM ?_
  refine eN ?_
  refine eF fo83_1 ?_
  refine eM ?_
  refine eN ?_
  refine eF fo83_2 ?_
  refine eM ?_
  refine eN ?_
  refine eF fo83_3 ?_
  refine eM ?_
  refine eN ?_
  refine eF fo83_4 ?_
  refine eM ?_
  refine eN ?_
  refine eF fo83_5 ?_
  refine eM ?_
  refine eN ?_
  refine eF fo83_6 ?_
  refine eM ?_
  refine eN ?_
  refine eF fo83_7 ?_
  refine eM ?_
  refine eN ?_
  refine eF fo83_8 ?_
  refine eM ?_
  refine eN ?_
  refine eF fo83_9 ?_
  refine eM ?_
  refine eN ?_
  refine eF fo83_10 ?_
  refine eP (fun H hH => yv_buildSlice (ps := [(0, _), (1, _), (2, _), (3, _), (4, _), (5, _), (6, _), (7, _), (8, _), (9, _), (10, _)]) (rows := [[.pt 4 v12 0 0], [.pt 4 v12 0 1], [.pt 4 v12 0 2], [.pt 4 v12 0 3], [.pt 4 v12 0 4], [.pt 4 v12 0 5], [.pt 4 v12 0 6], [.pt 4 v12 0 7], [.pt 4 v12 0 8], [.pt 4 v12 0 9], [.pt 4 v12 0 10]]) rfl Tryz.underlying156 bz67 (.cons rfl (.cons rfl (.cons rfl (.cons rfl (.cons rfl (.cons rfl (.cons rfl (.cons rfl (.cons rfl (.cons rfl (.cons rfl .nil))))))))))) (by kernel_rfl) rfl rfl rfl) ?_
  refine eA ?_
  refine de_nil (hK _ ?_)
  obtain rfl := nxt_e h2
  refine w_ret (hret _ _ (hk [(1, ⟨31, 10, true, true, v5, [(GState.av a1)]⟩), (2, ⟨83, 11, true, true, v6, [[int a4.Open, int a4.Bought, int a4.Landed, int a4.Arrived, int a4.Returned, int a4.Sold, int a4.Shipped, int a4.SentBack, int a4.Scrapped, int a4.Lost, int a4.Revalued]]⟩), (3, ⟨31, 10, true, true, v7, [[int 0, int 0, .sc (.slice none 0 0), .sc (.slice none 0 0), .sc (.slice none 0 0), .sc (.slice none 0 0), .sc (.slice none 0 0), .sc (.slice none 0 0), .sc (.slice none 0 0), int 0]]⟩), (4, ⟨83, 11, true, true, v12, [[int x18.1, int x22.1, int x26.1, int x30.1, int x11.Returned, int x11.Sold, int x11.Shipped, int x11.SentBack, int x11.Scrapped, int x11.Lost, int x11.Revalued]]⟩)]) (.tmp rfl .nil) (HK.le ⟨rfl, rfl, rfl, rfl, trivial⟩) ?_)
  exact ⟨(), (), rfl, rfl, rfl⟩
  rintro y _ ⟨_, _, rfl, hc, rfl⟩
  subst hc
  refine tr tbk 1 (.mk ?_)
  refine sY (yv_indexAddr (j := 4) rfl Tryz.underlying156 sh67 rfl rfl rfl (.list rfl)) ?_
  refine tr tbk 9 (.mk ?_)
  obtain ⟨x34, e34, h1⟩ := bind_e h1
  refine sC cal64 (d_money_Add_c e34) ?_
  refine tr tbk 10 (.mk ?_)
  refine nb tbk h1 fun x35 h1 => ?_
  refine tr tbk 1 (.mk ?_)
  replace h1 := asrt_e h1
  obtain ⟨rfl, h1⟩ := h1
  refine tc tbk 6 (.mk ?_)
  refine sS ⟨83, 11, true, true, v12, [[int x18.1, int x22.1, int x26.1, int x30.1, int x34.1, int x11.Sold, int x11.Shipped, int x11.SentBack, int x11.Scrapped, int x11.Lost, int x11.Revalued]]⟩ sh3 ?_
  refine tr tbk 3 (.mk ?_)
  refine sY (yv_add (r := 5) rfl rfl rfl (by decide)) ?_
  refine tr tbk 5 (.mk ?_)
  refine sY (yv_to (y := boo true) (yv_lss rfl rfl rfl) (congrArg boo (by decide))) ?_
  refine tr tbk 9 (.mk ?_)
  obtain ⟨x36, e36, h1⟩ := bind_e h1
  refine sY (yv_ixT rfl Tryz.underlying22 sh3 rfl rfl e36) ?_
  refine tr tbk 6 (.mk ?_)
  obtain ⟨j37, h2, h1⟩ := bind_e h1
  refine rse (Out := fun y H' => (∃ (a : Unit) (k : Unit), a = j37 ∧ y = .list 1 [[.pt 4 v12 0 0], [.pt 4 v12 0 1], [.pt 4 v12 0 2], [.pt 4 v12 0 3], [.pt 4 v12 0 4], [.pt 4 v12 0 5], [.pt 4 v12 0 6], [.pt 4 v12 0 7], [.pt 4 v12 0 8], [.pt 4 v12 0 9], [.pt 4 v12 0 10]] ∧ H' = hk [(1, ⟨31, 10, true, true, v5, [(GState.av a1)]⟩), (2, ⟨83, 11, true, true, v6, [[int a4.Open, int a4.Bought, int a4.Landed, int a4.Arrived, int a4.Returned, int a4.Sold, int a4.Shipped, int a4.SentBack, int a4.Scrapped, int a4.Lost, int a4.Revalued]]⟩), (3, ⟨31, 10, true, true, v7, [[int 0, int 0, .sc (.slice none 0 0), .sc (.slice none 0 0), .sc (.slice none 0 0), .sc (.slice none 0 0), .sc (.slice none 0 0), .sc (.slice none 0 0), .sc (.slice none 0 0), int 0]]⟩), (4, ⟨83, 11, true, true, v12, [[int x18.1, int x22.1, int x26.1, int x30.1, int x34.1, int x11.Sold, int x11.Shipped, int x11.SentBack, int x11.Scrapped, int x11.Lost, int x11.Revalued]]⟩)])) rfl rfl rfl (yl_call rfl rfl (.cons rfl .nil) cal89 ?_) ?_
  refine pcw (c := _) Tryz.func89 rfl rfl ?_; intro Q hret hnorm
  refine tc tbk 5 (.mk ?_)
  refine c_drawE [0, 1, 3, 0, 8, 24, 0, 64, 192, 0, 512, 1536, 0, 4096, 12288, 0, 32768, 98304, 0, 262144, 786432, 0, 2097152, 6291456, 0, 16777216, 50331648, 0, 134217728, 402653184, 0, 1073741824, 3221225472, 8589934591, 17179869183] (rl [(1, [4]), (2, [4]), (4, [4]), (5, [4]), (7, [4]), (8, [4]), (10, [4]), (11, [4]), (13, [4]), (14, [4]), (16, [4]), (17, [4]), (19, [4]), (20, [4]), (22, [4]), (23, [4]), (25, [4]), (26, [4]), (28, [4]), (29, [4]), (31, [4]), (32, [4])] []) (fun i => [4]) (fun i => true) [0, 1, 2, 3, 4, 5, 6, 7, 8, 9, 10, 11, 12, 13, 14, 15, 16, 17, 18, 19, 20, 21, 22, 23, 24, 25, 26, 27, 28, 29, 30, 31, 32, 33, 34] mixed (by kernel_rfl) ?_; intro K hK
  refine eM ?_
  refine eN ?_
  refine eF fo83_0 ?_
  refine eM ?_
  refine eN ?_
  refine eF fo83_1 ?_
  refine eM ?_
  refine eN ?_
  refine eF fo83_2 ?_
  refine eM ?_
  refine eN ?_
  refine eF fo83_3 ?_
  refine eM ?_
  refine eN ?_
  refine eF fo83_4 ?_
  refine eM ?_
  refine eN ?_
  refine eF fo83_5 ?_
  refine eM ?_
  refine eN ?_
  refine eF fo83_6 ?_
  refine eM ?_
  refine eN ?_
  refine eF fo83_7 ?_
  refine eM ?_
  refine eN ?_
  refine eF fo83_8 ?_
  refine eM ?_
  refine eN ?_
  refine eF fo83_9 ?_
  refine eM ?_
  refine eN ?_
  refine eF fo83_10 ?_
  refine eP (fun H hH => yv_buildSlice (ps := [(0, _), (1, _), (2, _), (3, _), (4, _), (5, _), (6, _), (7, _), (8, _), (9, _), (10, _)]) (rows := [[.pt 4 v12 0 0], [.pt 4 v12 0 1], [.pt 4 v12 0 2], [.pt 4 v12 0 3], [.pt 4 v12 0 4], [.pt 4 v12 0 5], [.pt 4 v12 0 6], [.pt 4 v12 0 7], [.pt 4 v12 0 8], [.pt 4 v12 0 9], [.pt 4 v12 0 10]]) rfl Tryz.underlying156 bz67 (.cons rfl (.cons rfl (.cons rfl (.cons rfl (.cons rfl (.cons rfl (.cons rfl (.cons rfl (.cons rfl (.cons rfl (.cons rfl .nil))))))))))) (by kernel_rfl) rfl rfl rfl) ?_
  refine eA ?_
  refine de_nil (hK _ ?_)
  obtain rfl := nxt_e h2
  refine w_ret (hret _ _ (hk [(1, ⟨31, 10, true, true, v5, [(GState.av a1)]⟩), (2, ⟨83, 11, true, true, v6, [[int a4.Open, int a4.Bought, int a4.Landed, int a4.Arrived, int a4.Returned, int a4.Sold, int a4.Shipped, int a4.SentBack, int a4.Scrapped, int a4.Lost, int a4.Revalued]]⟩), (3, ⟨31, 10, true, true, v7, [[int 0, int 0, .sc (.slice none 0 0), .sc (.slice none 0 0), .sc (.slice none 0 0), .sc (.slice none 0 0), .sc (.slice none 0 0), .sc (.slice none 0 0), .sc (.slice none 0 0), int 0]]⟩), (4, ⟨83, 11, true, true, v12, [[int x18.1, int x22.1, int x26.1, int x30.1, int x34.1, int x11.Sold, int x11.Shipped, int x11.SentBack, int x11.Scrapped, int x11.Lost, int x11.Revalued]]⟩)]) (.tmp rfl .nil) (HK.le ⟨rfl, rfl, rfl, rfl, trivial⟩) ?_)
  exact ⟨(), (), rfl, rfl, rfl⟩
  rintro y _ ⟨_, _, rfl, hc, rfl⟩
  subst hc
  refine tr tbk 1 (.mk ?_)
  refine sY (yv_indexAddr (j := 5) rfl Tryz.underlying156 sh67 rfl rfl rfl (.list rfl)) ?_
  refine tr tbk 9 (.mk ?_)
  obtain ⟨x38, e38, h1⟩ := bind_e h1
  refine sC cal64 (d_money_Add_c e38) ?_
  refine tr tbk 10 (.mk ?_)
  refine nb tbk h1 fun x39 h1 => ?_
  refine tr tbk 1 (.mk ?_)
  replace h1 := asrt_e h1
  obtain ⟨rfl, h1⟩ := h1
  refine tc tbk 6 (.mk ?_)
  refine sS ⟨83, 11, true, true, v12, [[int x18.1, int x22.1, int x26.1, int x30.1, int x34.1, int x38.1, int x11.Shipped, int x11.SentBack, int x11.Scrapped, int x11.Lost, int x11.Revalued]]⟩ sh3 ?_
  refine tr tbk 3 (.mk ?_)
  refine sY (yv_add (r := 6) rfl rfl rfl (by decide)) ?_
  refine tr tbk 5 (.mk ?_)
  refine sY (yv_to (y := boo true) (yv_lss rfl rfl rfl) (congrArg boo (by decide))) ?_
  refine tr tbk 9 (.mk ?_)
  obtain ⟨x40, e40, h1⟩ := bind_e h1
  refine sY (yv_ixT rfl Tryz.underlying22 sh3 rfl rfl e40) ?_
  refine tr tbk 6 (.mk ?_)
  obtain ⟨j41, h2, h1⟩ := bind_e h1
  refine rse (Out := fun y H' => (∃ (a : Unit) (k : Unit), a = j41 ∧ y = .list 1 [[.pt 4 v12 0 0], [.pt 4 v12 0 1], [.pt 4 v12 0 2], [.pt 4 v12 0 3], [.pt 4 v12 0 4], [.pt 4 v12 0 5], [.pt 4 v12 0 6], [.pt 4 v12 0 7], [.pt 4 v12 0 8], [.pt 4 v12 0 9], [.pt 4 v12 0 10]] ∧ H' = hk [(1, ⟨31, 10, true, true, v5, [(GState.av a1)]⟩), (2, ⟨83, 11, true, true, v6, [[int a4.Open, int a4.Bought, int a4.Landed, int a4.Arrived, int a4.Returned, int a4.Sold, int a4.Shipped, int a4.SentBack, int a4.Scrapped, int a4.Lost, int a4.Revalued]]⟩), (3, ⟨31, 10, true, true, v7, [[int 0, int 0, .sc (.slice none 0 0), .sc (.slice none 0 0), .sc (.slice none 0 0), .sc (.slice none 0 0), .sc (.slice none 0 0), .sc (.slice none 0 0), .sc (.slice none 0 0), int 0]]⟩), (4, ⟨83, 11, true, true, v12, [[int x18.1, int x22.1, int x26.1, int x30.1, int x34.1, int x38.1, int x11.Shipped, int x11.SentBack, int x11.Scrapped, int x11.Lost, int x11.Revalued]]⟩)])) rfl rfl rfl (yl_call rfl rfl (.cons rfl .nil) cal89 ?_) ?_
  refine pcw (c := _) Tryz.func89 rfl rfl ?_; intro Q hret hnorm
  refine tc tbk 5 (.mk ?_)
  refine c_drawE [0, 1, 3, 0, 8, 24, 0, 64, 192, 0, 512, 1536, 0, 4096, 12288, 0, 32768, 98304, 0, 262144, 786432, 0, 2097152, 6291456, 0, 16777216, 50331648, 0, 134217728, 402653184, 0, 1073741824, 3221225472, 8589934591, 17179869183] (rl [(1, [4]), (2, [4]), (4, [4]), (5, [4]), (7, [4]), (8, [4]), (10, [4]), (11, [4]), (13, [4]), (14, [4]), (16, [4]), (17, [4]), (19, [4]), (20, [4]), (22, [4]), (23, [4]), (25, [4]), (26, [4]), (28, [4]), (29, [4]), (31, [4]), (32, [4])] []) (fun i => [4]) (fun i => true) [0, 1, 2, 3, 4, 5, 6, 7, 8, 9, 10, 11, 12, 13, 14, 15, 16, 17, 18, 19, 20, 21, 22, 23, 24, 25, 26, 27, 28, 29, 30, 31, 32, 33, 34] mixed (by kernel_rfl) ?_; intro K hK
  refine eM ?_
  refine eN ?_
  refine eF fo83_0 ?_
  refine eM ?_
  refine eN ?_
  refine eF fo83_1 ?_
  refine eM ?_
  refine eN ?_
  refine eF fo83_2 ?_
  refine eM ?_
  refine eN ?_
  refine eF fo83_3 ?_
  refine eM ?_
  refine eN ?_
  refine eF fo83_4 ?_
  refine eM ?_
  refine eN ?_
  refine eF fo83_5 ?_
  refine eM ?_
  refine eN ?_
  refine eF fo83_6 ?_
  refine eM ?_
  refine eN ?_
  refine eF fo83_7 ?_
  refine eM ?_
  refine eN ?_
  refine eF fo83_8 ?_
  refine eM ?_
  refine eN ?_
  refine eF fo83_9 ?_
  refine eM ?_
  refine eN ?_
  refine eF fo83_10 ?_
  refine eP (fun H hH => yv_buildSlice (ps := [(0, _), (1, _), (2, _), (3, _), (4, _), (5, _), (6, _), (7, _), (8, _), (9, _), (10, _)]) (rows := [[.pt 4 v12 0 0], [.pt 4 v12 0 1], [.pt 4 v12 0 2], [.pt 4 v12 0 3], [.pt 4 v12 0 4], [.pt 4 v12 0 5], [.pt 4 v12 0 6], [.pt 4 v12 0 7], [.pt 4 v12 0 8], [.pt 4 v12 0 9], [.pt 4 v12 0 10]]) rfl Tryz.underlying156 bz67 (.cons rfl (.cons rfl (.cons rfl (.cons rfl (.cons rfl (.cons rfl (.cons rfl (.cons rfl (.cons rfl (.cons rfl (.cons rfl .nil))))))))))) (by kernel_rfl) rfl rfl rfl) ?_
  refine eA ?_
  refine de_nil (hK _ ?_)
  obtain rfl := nxt_e h2
  refine w_ret (hret _ _ (hk [(1, ⟨31, 10, true, true, v5, [(GState.av a1)]⟩), (2, ⟨83, 11, true, true, v6, [[int a4.Open, int a4.Bought, int a4.Landed, int a4.Arrived, int a4.Returned, int a4.Sold, int a4.Shipped, int a4.SentBack, int a4.Scrapped, int a4.Lost, int a4.Revalued]]⟩), (3, ⟨31, 10, true, true, v7, [[int 0, int 0, .sc (.slice none 0 0), .sc (.slice none 0 0), .sc (.slice none 0 0), .sc (.slice none 0 0), .sc (.slice none 0 0), .sc (.slice none 0 0), .sc (.slice none 0 0), int 0]]⟩), (4, ⟨83, 11, true, true, v12, [[int x18.1, int x22.1, int x26.1, int x30.1, int x34.1, int x38.1, int x11.Shipped, int x11.SentBack, int x11.Scrapped, int x11.Lost, int x11.Revalued]]⟩)]) (.tmp rfl .nil) (HK.le ⟨rfl, rfl, rfl, rfl, trivial⟩) ?_)
  exact ⟨(), (), rfl, rfl, rfl⟩
  rintro y _ ⟨_, _, rfl, hc, rfl⟩
  subst hc
  refine tr tbk 1 (.mk ?_)
  refine sY (yv_indexAddr (j := 6) rfl Tryz.underlying156 sh67 rfl rfl rfl (.list rfl)) ?_
  refine tr tbk 9 (.mk ?_)
  obtain ⟨x42, e42, h1⟩ := bind_e h1
  refine sC cal64 (d_money_Add_c e42) ?_
  refine tr tbk 10 (.mk ?_)
  refine nb tbk h1 fun x43 h1 => ?_
  refine tr tbk 1 (.mk ?_)
  replace h1 := asrt_e h1
  obtain ⟨rfl, h1⟩ := h1
  refine tc tbk 6 (.mk ?_)
  refine sS ⟨83, 11, true, true, v12, [[int x18.1, int x22.1, int x26.1, int x30.1, int x34.1, int x38.1, int x42.1, int x11.SentBack, int x11.Scrapped, int x11.Lost, int x11.Revalued]]⟩ sh3 ?_
  refine tr tbk 3 (.mk ?_)
  refine sY (yv_add (r := 7) rfl rfl rfl (by decide)) ?_
  refine tr tbk 5 (.mk ?_)
  refine sY (yv_to (y := boo true) (yv_lss rfl rfl rfl) (congrArg boo (by decide))) ?_
  refine tr tbk 9 (.mk ?_)
  obtain ⟨x44, e44, h1⟩ := bind_e h1
  refine sY (yv_ixT rfl Tryz.underlying22 sh3 rfl rfl e44) ?_
  refine tr tbk 6 (.mk ?_)
  obtain ⟨j45, h2, h1⟩ := bind_e h1
  refine rse (Out := fun y H' => (∃ (a : Unit) (k : Unit), a = j45 ∧ y = .list 1 [[.pt 4 v12 0 0], [.pt 4 v12 0 1], [.pt 4 v12 0 2], [.pt 4 v12 0 3], [.pt 4 v12 0 4], [.pt 4 v12 0 5], [.pt 4 v12 0 6], [.pt 4 v12 0 7], [.pt 4 v12 0 8], [.pt 4 v12 0 9], [.pt 4 v12 0 10]] ∧ H' = hk [(1, ⟨31, 10, true, true, v5, [(GState.av a1)]⟩), (2, ⟨83, 11, true, true, v6, [[int a4.Open, int a4.Bought, int a4.Landed, int a4.Arrived, int a4.Returned, int a4.Sold, int a4.Shipped, int a4.SentBack, int a4.Scrapped, int a4.Lost, int a4.Revalued]]⟩), (3, ⟨31, 10, true, true, v7, [[int 0, int 0, .sc (.slice none 0 0), .sc (.slice none 0 0), .sc (.slice none 0 0), .sc (.slice none 0 0), .sc (.slice none 0 0), .sc (.slice none 0 0), .sc (.slice none 0 0), int 0]]⟩), (4, ⟨83, 11, true, true, v12, [[int x18.1, int x22.1, int x26.1, int x30.1, int x34.1, int x38.1, int x42.1, int x11.SentBack, int x11.Scrapped, int x11.Lost, int x11.Revalued]]⟩)])) rfl rfl rfl (yl_call rfl rfl (.cons rfl .nil) cal89 ?_) ?_
  refine pcw (c := _) Tryz.func89 rfl rfl ?_; intro Q hret hnorm
  refine tc tbk 5 (.mk ?_)
  refine c_drawE [0, 1, 3, 0, 8, 24, 0, 64, 192, 0, 512, 1536, 0, 4096, 12288, 0, 32768, 98304, 0, 262144, 786432, 0, 2097152, 6291456, 0, 16777216, 50331648, 0, 134217728, 402653184, 0, 1073741824, 3221225472, 8589934591, 17179869183] (rl [(1, [4]), (2, [4]), (4, [4]), (5, [4]), (7, [4]), (8, [4]), (10, [4]), (11, [4]), (13, [4]), (14, [4]), (16, [4]), (17, [4]), (19, [4]), (20, [4]), (22, [4]), (23, [4]), (25, [4]), (26, [4]), (28, [4]), (29, [4]), (31, [4]), (32, [4])] []) (fun i => [4]) (fun i => true) [0, 1, 2, 3, 4, 5, 6, 7, 8, 9, 10, 11, 12, 13, 14, 15, 16, 17, 18, 19, 20, 21, 22, 23, 24, 25, 26, 27, 28, 29, 30, 31, 32, 33, 34] mixed (by kernel_rfl) ?_; intro K hK
  refine eM ?_
  refine eN ?_
  refine eF fo83_0 ?_
  refine eM ?_
  refine eN ?_
  refine eF fo83_1 ?_
  refine eM ?_
  refine eN ?_
  refine eF fo83_2 ?_
  refine eM ?_
  refine eN ?_
  refine eF fo83_3 ?_
  refine eM ?_
  refine eN ?_
  refine eF fo83_4 ?_
  refine eM ?_
  refine eN ?_
  refine eF fo83_5 ?_
  refine eM ?_
  refine eN ?_
  refine eF fo83_6 ?_
  refine eM ?_
  refine eN ?_
  refine eF fo83_7 ?_
  refine eM ?_
  refine eN ?_
  refine eF fo83_8 ?_
  refine eM ?_
  refine eN ?_
  refine eF fo83_9 ?_
  refine eM ?_
  refine eN ?_
  refine eF fo83_10 ?_
  refine eP (fun H hH => yv_buildSlice (ps := [(0, _), (1, _), (2, _), (3, _), (4, _), (5, _), (6, _), (7, _), (8, _), (9, _), (10, _)]) (rows := [[.pt 4 v12 0 0], [.pt 4 v12 0 1], [.pt 4 v12 0 2], [.pt 4 v12 0 3], [.pt 4 v12 0 4], [.pt 4 v12 0 5], [.pt 4 v12 0 6], [.pt 4 v12 0 7], [.pt 4 v12 0 8], [.pt 4 v12 0 9], [.pt 4 v12 0 10]]) rfl Tryz.underlying156 bz67 (.cons rfl (.cons rfl (.cons rfl (.cons rfl (.cons rfl (.cons rfl (.cons rfl (.cons rfl (.cons rfl (.cons rfl (.cons rfl .nil))))))))))) (by kernel_rfl) rfl rfl rfl) ?_
  refine eA ?_
  refine de_nil (hK _ ?_)
  obtain rfl := nxt_e h2
  refine w_ret (hret _ _ (hk [(1, ⟨31, 10, true, true, v5, [(GState.av a1)]⟩), (2, ⟨83, 11, true, true, v6, [[int a4.Open, int a4.Bought, int a4.Landed, int a4.Arrived, int a4.Returned, int a4.Sold, int a4.Shipped, int a4.SentBack, int a4.Scrapped, int a4.Lost, int a4.Revalued]]⟩), (3, ⟨31, 10, true, true, v7, [[int 0, int 0, .sc (.slice none 0 0), .sc (.slice none 0 0), .sc (.slice none 0 0), .sc (.slice none 0 0), .sc (.slice none 0 0), .sc (.slice none 0 0), .sc (.slice none 0 0), int 0]]⟩), (4, ⟨83, 11, true, true, v12, [[int x18.1, int x22.1, int x26.1, int x30.1, int x34.1, int x38.1, int x42.1, int x11.SentBack, int x11.Scrapped, int x11.Lost, int x11.Revalued]]⟩)]) (.tmp rfl .nil) (HK.le ⟨rfl, rfl, rfl, rfl, trivial⟩) ?_)
  exact ⟨(), (), rfl, rfl, rfl⟩
  rintro y _ ⟨_, _, rfl, hc, rfl⟩
  subst hc
  refine tr tbk 1 (.mk ?_)
  refine sY (yv_indexAddr (j := 7) rfl Tryz.underlying156 sh67 rfl rfl rfl (.list rfl)) ?_
  refine tr tbk 9 (.mk ?_)
  obtain ⟨x46, e46, h1⟩ := bind_e h1
  refine sC cal64 (d_money_Add_c e46) ?_
  refine tr tbk 10 (.mk ?_)
  refine nb tbk h1 fun x47 h1 => ?_
  refine tr tbk 1 (.mk ?_)
  replace h1 := asrt_e h1
  obtain ⟨rfl, h1⟩ := h1
  refine tc tbk 6 (.mk ?_)
  refine sS ⟨83, 11, true, true, v12, [[int x18.1, int x22.1, int x26.1, int x30.1, int x34.1, int x38.1, int x42.1, int x46.1, int x11.Scrapped, int x11.Lost, int x11.Revalued]]⟩ sh3 ?_
  refine tr tbk 3 (.mk ?_)
  refine sY (yv_add (r := 8) rfl rfl rfl (by decide)) ?_
  refine tr tbk 5 (.mk ?_)
  refine sY (yv_to (y := boo true) (yv_lss rfl rfl rfl) (congrArg boo (by decide))) ?_
  refine tr tbk 9 (.mk ?_)
  obtain ⟨x48, e48, h1⟩ := bind_e h1
  refine sY (yv_ixT rfl Tryz.underlying22 sh3 rfl rfl e48) ?_
  refine tr tbk 6 (.mk ?_)
  obtain ⟨j49, h2, h1⟩ := bind_e h1
  refine rse (Out := fun y H' => (∃ (a : Unit) (k : Unit), a = j49 ∧ y = .list 1 [[.pt 4 v12 0 0], [.pt 4 v12 0 1], [.pt 4 v12 0 2], [.pt 4 v12 0 3], [.pt 4 v12 0 4], [.pt 4 v12 0 5], [.pt 4 v12 0 6], [.pt 4 v12 0 7], [.pt 4 v12 0 8], [.pt 4 v12 0 9], [.pt 4 v12 0 10]] ∧ H' = hk [(1, ⟨31, 10, true, true, v5, [(GState.av a1)]⟩), (2, ⟨83, 11, true, true, v6, [[int a4.Open, int a4.Bought, int a4.Landed, int a4.Arrived, int a4.Returned, int a4.Sold, int a4.Shipped, int a4.SentBack, int a4.Scrapped, int a4.Lost, int a4.Revalued]]⟩), (3, ⟨31, 10, true, true, v7, [[int 0, int 0, .sc (.slice none 0 0), .sc (.slice none 0 0), .sc (.slice none 0 0), .sc (.slice none 0 0), .sc (.slice none 0 0), .sc (.slice none 0 0), .sc (.slice none 0 0), int 0]]⟩), (4, ⟨83, 11, true, true, v12, [[int x18.1, int x22.1, int x26.1, int x30.1, int x34.1, int x38.1, int x42.1, int x46.1, int x11.Scrapped, int x11.Lost, int x11.Revalued]]⟩)])) rfl rfl rfl (yl_call rfl rfl (.cons rfl .nil) cal89 ?_) ?_
  refine pcw (c := _) Tryz.func89 rfl rfl ?_; intro Q hret hnorm
  refine tc tbk 5 (.mk ?_)
  refine c_drawE [0, 1, 3, 0, 8, 24, 0, 64, 192, 0, 512, 1536, 0, 4096, 12288, 0, 32768, 98304, 0, 262144, 786432, 0, 2097152, 6291456, 0, 16777216, 50331648, 0, 134217728, 402653184, 0, 1073741824, 3221225472, 8589934591, 17179869183] (rl [(1, [4]), (2, [4]), (4, [4]), (5, [4]), (7, [4]), (8, [4]), (10, [4]), (11, [4]), (13, [4]), (14, [4]), (16, [4]), (17, [4]), (19, [4]), (20, [4]), (22, [4]), (23, [4]), (25, [4]), (26, [4]), (28, [4]), (29, [4]), (31, [4]), (32, [4])] []) (fun i => [4]) (fun i => true) [0, 1, 2, 3, 4, 5, 6, 7, 8, 9, 10, 11, 12, 13, 14, 15, 16, 17, 18, 19, 20, 21, 22, 23, 24, 25, 26, 27, 28, 29, 30, 31, 32, 33, 34] mixed (by kernel_rfl) ?_; intro K hK
  refine eM ?_
  refine eN ?_
  refine eF fo83_0 ?_
  refine eM ?_
  refine eN ?_
  refine eF fo83_1 ?_
  refine eM ?_
  refine eN ?_
  refine eF fo83_2 ?_
  refine eM ?_
  refine eN ?_
  refine eF fo83_3 ?_
  refine eM ?_
  refine eN ?_
  refine eF fo83_4 ?_
  refine eM ?_
  refine eN ?_
  refine eF fo83_5 ?_
  refine eM ?_
  refine eN ?_
  refine eF fo83_6 ?_
  refine eM ?_
  refine eN ?_
  refine eF fo83_7 ?_
  refine eM ?_
  refine eN ?_
  refine eF fo83_8 ?_
  refine eM ?_
  refine eN ?_
  refine eF fo83_9 ?_
  refine eM ?_
  refine eN ?_
  refine eF fo83_10 ?_
  refine eP (fun H hH => yv_buildSlice (ps := [(0, _), (1, _), (2, _), (3, _), (4, _), (5, _), (6, _), (7, _), (8, _), (9, _), (10, _)]) (rows := [[.pt 4 v12 0 0], [.pt 4 v12 0 1], [.pt 4 v12 0 2], [.pt 4 v12 0 3], [.pt 4 v12 0 4], [.pt 4 v12 0 5], [.pt 4 v12 0 6], [.pt 4 v12 0 7], [.pt 4 v12 0 8], [.pt 4 v12 0 9], [.pt 4 v12 0 10]]) rfl Tryz.underlying156 bz67 (.cons rfl (.cons rfl (.cons rfl (.cons rfl (.cons rfl (.cons rfl (.cons rfl (.cons rfl (.cons rfl (.cons rfl (.cons rfl .nil))))))))))) (by kernel_rfl) rfl rfl rfl) ?_
  refine eA ?_
  refine de_nil (hK _ ?_)
  obtain rfl := nxt_e h2
  refine w_ret (hret _ _ (hk [(1, ⟨31, 10, true, true, v5, [(GState.av a1)]⟩), (2, ⟨83, 11, true, true, v6, [[int a4.Open, int a4.Bought, int a4.Landed, int a4.Arrived, int a4.Returned, int a4.Sold, int a4.Shipped, int a4.SentBack, int a4.Scrapped, int a4.Lost, int a4.Revalued]]⟩), (3, ⟨31, 10, true, true, v7, [[int 0, int 0, .sc (.slice none 0 0), .sc (.slice none 0 0), .sc (.slice none 0 0), .sc (.slice none 0 0), .sc (.slice none 0 0), .sc (.slice none 0 0), .sc (.slice none 0 0), int 0]]⟩), (4, ⟨83, 11, true, true, v12, [[int x18.1, int x22.1, int x26.1, int x30.1, int x34.1, int x38.1, int x42.1, int x46.1, int x11.Scrapped, int x11.Lost, int x11.Revalued]]⟩)]) (.tmp rfl .nil) (HK.le ⟨rfl, rfl, rfl, rfl, trivial⟩) ?_)
  exact ⟨(), (), rfl, rfl, rfl⟩
  rintro y _ ⟨_, _, rfl, hc, rfl⟩
  subst hc
  refine tr tbk 1 (.mk ?_)
  refine sY (yv_indexAddr (j := 8) rfl Tryz.underlying156 sh67 rfl rfl rfl (.list rfl)) ?_
  refine tr tbk 9 (.mk ?_)
  obtain ⟨x50, e50, h1⟩ := bind_e h1
  refine sC cal64 (d_money_Add_c e50) ?_
  refine tr tbk 10 (.mk ?_)
  refine nb tbk h1 fun x51 h1 => ?_
  refine tr tbk 1 (.mk ?_)
  replace h1 := asrt_e h1
  obtain ⟨rfl, h1⟩ := h1
  refine tc tbk 6 (.mk ?_)
  refine sS ⟨83, 11, true, true, v12, [[int x18.1, int x22.1, int x26.1, int x30.1, int x34.1, int x38.1, int x42.1, int x46.1, int x50.1, int x11.Lost, int x11.Revalued]]⟩ sh3 ?_
  refine tr tbk 3 (.mk ?_)
  refine sY (yv_add (r := 9) rfl rfl rfl (by decide)) ?_
  refine tr tbk 5 (.mk ?_)
  refine sY (yv_to (y := boo true) (yv_lss rfl rfl rfl) (congrArg boo (by decide))) ?_
  refine tr tbk 9 (.mk ?_)
  obtain ⟨x52, e52, h1⟩ := bind_e h1
  refine sY (yv_ixT rfl Tryz.underlying22 sh3 rfl rfl e52) ?_
  refine tr tbk 6 (.mk ?_)
  obtain ⟨j53, h2, h1⟩ := bind_e h1
  refine rse (Out := fun y H' => (∃ (a : Unit) (k : Unit), a = j53 ∧ y = .list 1 [[.pt 4 v12 0 0], [.pt 4 v12 0 1], [.pt 4 v12 0 2], [.pt 4 v12 0 3], [.pt 4 v12 0 4], [.pt 4 v12 0 5], [.pt 4 v12 0 6], [.pt 4 v12 0 7], [.pt 4 v12 0 8], [.pt 4 v12 0 9], [.pt 4 v12 0 10]] ∧ H' = hk [(1, ⟨31, 10, true, true, v5, [(GState.av a1)]⟩), (2, ⟨83, 11, true, true, v6, [[int a4.Open, int a4.Bought, int a4.Landed, int a4.Arrived, int a4.Returned, int a4.Sold, int a4.Shipped, int a4.SentBack, int a4.Scrapped, int a4.Lost, int a4.Revalued]]⟩), (3, ⟨31, 10, true, true, v7, [[int 0, int 0, .sc (.slice none 0 0), .sc (.slice none 0 0), .sc (.slice none 0 0), .sc (.slice none 0 0), .sc (.slice none 0 0), .sc (.slice none 0 0), .sc (.slice none 0 0), int 0]]⟩), (4, ⟨83, 11, true, true, v12, [[int x18.1, int x22.1, int x26.1, int x30.1, int x34.1, int x38.1, int x42.1, int x46.1, int x50.1, int x11.Lost, int x11.Revalued]]⟩)])) rfl rfl rfl (yl_call rfl rfl (.cons rfl .nil) cal89 ?_) ?_
  refine pcw (c := _) Tryz.func89 rfl rfl ?_; intro Q hret hnorm
  refine tc tbk 5 (.mk ?_)
  refine c_drawE [0, 1, 3, 0, 8, 24, 0, 64, 192, 0, 512, 1536, 0, 4096, 12288, 0, 32768, 98304, 0, 262144, 786432, 0, 2097152, 6291456, 0, 16777216, 50331648, 0, 134217728, 402653184, 0, 1073741824, 3221225472, 8589934591, 17179869183] (rl [(1, [4]), (2, [4]), (4, [4]), (5, [4]), (7, [4]), (8, [4]), (10, [4]), (11, [4]), (13, [4]), (14, [4]), (16, [4]), (17, [4]), (19, [4]), (20, [4]), (22, [4]), (23, [4]), (25, [4]), (26, [4]), (28, [4]), (29, [4]), (31, [4]), (32, [4])] []) (fun i => [4]) (fun i => true) [0, 1, 2, 3, 4, 5, 6, 7, 8, 9, 10, 11, 12, 13, 14, 15, 16, 17, 18, 19, 20, 21, 22, 23, 24, 25, 26, 27, 28, 29, 30, 31, 32, 33, 34] mixed (by kernel_rfl) ?_; intro K hK
  refine eM ?_
  refine eN ?_
  refine eF fo83_0 ?_
  refine eM ?_
  refine eN ?_
  refine eF fo83_1 ?_
  refine eM ?_
  refine eN ?_
  refine eF fo83_2 ?_
  refine eM ?_
  refine eN ?_
  refine eF fo83_3 ?_
  refine eM ?_
  refine eN ?_
  refine eF fo83_4 ?_
  refine eM ?_
  refine eN ?_
  refine eF fo83_5 ?_
  refine eM ?_
  refine eN ?_
  refine eF fo83_6 ?_
  refine eM ?_
  refine eN ?_
  refine eF fo83_7 ?_
  refine eM ?_
  refine eN ?_
  refine eF fo83_8 ?_
  refine eM ?_
  refine eN ?_
  refine eF fo83_9 ?_
  refine eM ?_
  refine eN ?_
  refine eF fo83_10 ?_
  refine eP (fun H hH => yv_buildSlice (ps := [(0, _), (1, _), (2, _), (3, _), (4, _), (5, _), (6, _), (7, _), (8, _), (9, _), (10, _)]) (rows := [[.pt 4 v12 0 0], [.pt 4 v12 0 1], [.pt 4 v12 0 2], [.pt 4 v12 0 3], [.pt 4 v12 0 4], [.pt 4 v12 0 5], [.pt 4 v12 0 6], [.pt 4 v12 0 7], [.pt 4 v12 0 8], [.pt 4 v12 0 9], [.pt 4 v12 0 10]]) rfl Tryz.underlying156 bz67 (.cons rfl (.cons rfl (.cons rfl (.cons rfl (.cons rfl (.cons rfl (.cons rfl (.cons rfl (.cons rfl (.cons rfl (.cons rfl .nil))))))))))) (by kernel_rfl) rfl rfl rfl) ?_
  refine eA ?_
  refine de_nil (hK _ ?_)
  obtain rfl := nxt_e h2
  refine w_ret (hret _ _ (hk [(1, ⟨31, 10, true, true, v5, [(GState.av a1)]⟩), (2, ⟨83, 11, true, true, v6, [[int a4.Open, int a4.Bought, int a4.Landed, int a4.Arrived, int a4.Returned, int a4.Sold, int a4.Shipped, int a4.SentBack, int a4.Scrapped, int a4.Lost, int a4.Revalued]]⟩), (3, ⟨31, 10, true, true, v7, [[int 0, int 0, .sc (.slice none 0 0), .sc (.slice none 0 0), .sc (.slice none 0 0), .sc (.slice none 0 0), .sc (.slice none 0 0), .sc (.slice none 0 0), .sc (.slice none 0 0), int 0]]⟩), (4, ⟨83, 11, true, true, v12, [[int x18.1, int x22.1, int x26.1, int x30.1, int x34.1, int x38.1, int x42.1, int x46.1, int x50.1, int x11.Lost, int x11.Revalued]]⟩)]) (.tmp rfl .nil) (HK.le ⟨rfl, rfl, rfl, rfl, trivial⟩) ?_)
  exact ⟨(), (), rfl, rfl, rfl⟩
  rintro y _ ⟨_, _, rfl, hc, rfl⟩
  subst hc
  refine tr tbk 1 (.mk ?_)
  refine sY (yv_indexAddr (j := 9) rfl Tryz.underlying156 sh67 rfl rfl rfl (.list rfl)) ?_
  refine tr tbk 9 (.mk ?_)
  obtain ⟨x54, e54, h1⟩ := bind_e h1
  refine sC cal64 (d_money_Add_c e54) ?_
  refine tr tbk 10 (.mk ?_)
  refine nb tbk h1 fun x55 h1 => ?_
  refine tr tbk 1 (.mk ?_)
  replace h1 := asrt_e h1
  obtain ⟨rfl, h1⟩ := h1
  refine tc tbk 6 (.mk ?_)
  refine sS ⟨83, 11, true, true, v12, [[int x18.1, int x22.1, int x26.1, int x30.1, int x34.1, int x38.1, int x42.1, int x46.1, int x50.1, int x54.1, int x11.Revalued]]⟩ sh3 ?_
  refine tr tbk 3 (.mk ?_)
  refine sY (yv_add (r := 10) rfl rfl rfl (by decide)) ?_
  refine tr tbk 5 (.mk ?_)
  refine sY (yv_to (y := boo true) (yv_lss rfl rfl rfl) (congrArg boo (by decide))) ?_
  refine tr tbk 9 (.mk ?_)
  obtain ⟨x56, e56, h1⟩ := bind_e h1
  refine sY (yv_ixT rfl Tryz.underlying22 sh3 rfl rfl e56) ?_
  refine tr tbk 6 (.mk ?_)
  obtain ⟨j57, h2, h1⟩ := bind_e h1
  refine rse (Out := fun y H' => (∃ (a : Unit) (k : Unit), a = j57 ∧ y = .list 1 [[.pt 4 v12 0 0], [.pt 4 v12 0 1], [.pt 4 v12 0 2], [.pt 4 v12 0 3], [.pt 4 v12 0 4], [.pt 4 v12 0 5], [.pt 4 v12 0 6], [.pt 4 v12 0 7], [.pt 4 v12 0 8], [.pt 4 v12 0 9], [.pt 4 v12 0 10]] ∧ H' = hk [(1, ⟨31, 10, true, true, v5, [(GState.av a1)]⟩), (2, ⟨83, 11, true, true, v6, [[int a4.Open, int a4.Bought, int a4.Landed, int a4.Arrived, int a4.Returned, int a4.Sold, int a4.Shipped, int a4.SentBack, int a4.Scrapped, int a4.Lost, int a4.Revalued]]⟩), (3, ⟨31, 10, true, true, v7, [[int 0, int 0, .sc (.slice none 0 0), .sc (.slice none 0 0), .sc (.slice none 0 0), .sc (.slice none 0 0), .sc (.slice none 0 0), .sc (.slice none 0 0), .sc (.slice none 0 0), int 0]]⟩), (4, ⟨83, 11, true, true, v12, [[int x18.1, int x22.1, int x26.1, int x30.1, int x34.1, int x38.1, int x42.1, int x46.1, int x50.1, int x54.1, int x11.Revalued]]⟩)])) rfl rfl rfl (yl_call rfl rfl (.cons rfl .nil) cal89 ?_) ?_
  refine pcw (c := _) Tryz.func89 rfl rfl ?_; intro Q hret hnorm
  refine tc tbk 5 (.mk ?_)
  refine c_drawE [0, 1, 3, 0, 8, 24, 0, 64, 192, 0, 512, 1536, 0, 4096, 12288, 0, 32768, 98304, 0, 262144, 786432, 0, 2097152, 6291456, 0, 16777216, 50331648, 0, 134217728, 402653184, 0, 1073741824, 3221225472, 8589934591, 17179869183] (rl [(1, [4]), (2, [4]), (4, [4]), (5, [4]), (7, [4]), (8, [4]), (10, [4]), (11, [4]), (13, [4]), (14, [4]), (16, [4]), (17, [4]), (19, [4]), (20, [4]), (22, [4]), (23, [4]), (25, [4]), (26, [4]), (28, [4]), (29, [4]), (31, [4]), (32, [4])] []) (fun i => [4]) (fun i => true) [0, 1, 2, 3, 4, 5, 6, 7, 8, 9, 10, 11, 12, 13, 14, 15, 16, 17, 18, 19, 20, 21, 22, 23, 24, 25, 26, 27, 28, 29, 30, 31, 32, 33, 34] mixed (by kernel_rfl) ?_; intro K hK
  refine eM ?_
  refine eN ?_
  refine eF fo83_0 ?_
  refine eM ?_
  refine eN ?_
  refine eF fo83_1 ?_
  refine eM ?_
  refine eN ?_
  refine eF fo83_2 ?_
  refine eM ?_
  refine eN ?_
  refine eF fo83_3 ?_
  refine eM ?_
  refine eN ?_
  refine eF fo83_4 ?_
  refine eM ?_
  refine eN ?_
  refine eF fo83_5 ?_
  refine eM ?_
  refine eN ?_
  refine eF fo83_6 ?_
  refine eM ?_
  refine eN ?_
  refine eF fo83_7 ?_
  refine eM ?_
  refine eN ?_
  refine eF fo83_8 ?_
  refine eM ?_
  refine eN ?_
  refine eF fo83_9 ?_
  refine eM ?_
  refine eN ?_
  refine eF fo83_10 ?_
  refine eP (fun H hH => yv_buildSlice (ps := [(0, _), (1, _), (2, _), (3, _), (4, _), (5, _), (6, _), (7, _), (8, _), (9, _), (10, _)]) (rows := [[.pt 4 v12 0 0], [.pt 4 v12 0 1], [.pt 4 v12 0 2], [.pt 4 v12 0 3], [.pt 4 v12 0 4], [.pt 4 v12 0 5], [.pt 4 v12 0 6], [.pt 4 v12 0 7], [.pt 4 v12 0 8], [.pt 4 v12 0 9], [.pt 4 v12 0 10]]) rfl Tryz.underlying156 bz67 (.cons rfl (.cons rfl (.cons rfl (.cons rfl (.cons rfl (.cons rfl (.cons rfl (.cons rfl (.cons rfl (.cons rfl (.cons rfl .nil))))))))))) (by kernel_rfl) rfl rfl rfl) ?_
  refine eA ?_
  refine de_nil (hK _ ?_)
  obtain rfl := nxt_e h2
  refine w_ret (hret _ _ (hk [(1, ⟨31, 10, true, true, v5, [(GState.av a1)]⟩), (2, ⟨83, 11, true, true, v6, [[int a4.Open, int a4.Bought, int a4.Landed, int a4.Arrived, int a4.Returned, int a4.Sold, int a4.Shipped, int a4.SentBack, int a4.Scrapped, int a4.Lost, int a4.Revalued]]⟩), (3, ⟨31, 10, true, true, v7, [[int 0, int 0, .sc (.slice none 0 0), .sc (.slice none 0 0), .sc (.slice none 0 0), .sc (.slice none 0 0), .sc (.slice none 0 0), .sc (.slice none 0 0), .sc (.slice none 0 0), int 0]]⟩), (4, ⟨83, 11, true, true, v12, [[int x18.1, int x22.1, int x26.1, int x30.1, int x34.1, int x38.1, int x42.1, int x46.1, int x50.1, int x54.1, int x11.Revalued]]⟩)]) (.tmp rfl .nil) (HK.le ⟨rfl, rfl, rfl, rfl, trivial⟩) ?_)
  exact ⟨(), (), rfl, rfl, rfl⟩
  rintro y _ ⟨_, _, rfl, hc, rfl⟩
  subst hc
  refine tr tbk 1 (.mk ?_)
  refine sY (yv_indexAddr (j := 10) rfl Tryz.underlying156 sh67 rfl rfl rfl (.list rfl)) ?_
  refine tr tbk 9 (.mk ?_)
  obtain ⟨x58, e58, h1⟩ := bind_e h1
  refine sC cal64 (d_money_Add_c e58) ?_
  refine tr tbk 10 (.mk ?_)
  refine nb tbk h1 fun x59 h1 => ?_
  refine tr tbk 1 (.mk ?_)
  replace h1 := asrt_e h1
  obtain ⟨rfl, h1⟩ := h1
  refine tc tbk 6 (.mk ?_)
  refine sS ⟨83, 11, true, true, v12, [[int x18.1, int x22.1, int x26.1, int x30.1, int x34.1, int x38.1, int x42.1, int x46.1, int x50.1, int x54.1, int x58.1]]⟩ sh3 ?_
  refine tr tbk 3 (.mk ?_)
  refine sY (yv_add (r := 11) rfl rfl rfl (by decide)) ?_
  refine tr tbk 5 (.mk ?_)
  refine sY (yv_to (y := boo false) (yv_lss rfl rfl rfl) (congrArg boo (by decide))) ?_
  refine tr tbk 4 (.mk ?_)
  exact lf h1 () leA
  rintro y4_1 _ h0
  refine tc tbk 3 (.mk ?_)
  refine sY (yv_build (cs := (GState.av a1)) (ps := [(0, _)]) rfl pl153 z153 rfl (.cons rfl .nil) (by kernel_rfl)) ?_
  refine sA 6 z153 fun v60 => ?_
  refine sS ⟨153, 10, true, true, v60, [(GState.av a1)]⟩ sh153 ?_
  refine tr tbk 4 (.mk ?_)
  obtain ⟨j61, h1, h0⟩ := bind_e h0
  refine rse (Out := fun y H' => (∃ (a : Unit) (k : Nat), a = j61 ∧ y = .pt 7 k (Int.toNat a2) 0 ∧ H' = hk [(1, ⟨31, 10, true, true, v5, [(GState.av a1)]⟩), (3, ⟨31, 10, true, true, v7, [[int 0, int 0, .sc (.slice none 0 0), .sc (.slice none 0 0), .sc (.slice none 0 0), .sc (.slice none 0 0), .sc (.slice none 0 0), .sc (.slice none 0 0), .sc (.slice none 0 0), int 0]]⟩), (4, ⟨83, 11, true, true, v12, [[int y4_1.Open, int y4_1.Bought, int y4_1.Landed, int y4_1.Arrived, int y4_1.Returned, int y4_1.Sold, int y4_1.Shipped, int y4_1.SentBack, int y4_1.Scrapped, int y4_1.Lost, int y4_1.Revalued]]⟩), (6, ⟨153, 10, true, true, v60, [[int a1.Master.Entities, int a1.Master.Periods, lst 1 fI a1.Master.Weights, lst 1 (fL 1 fI) a1.Master.Methods, lst 1 (fL 1 fI) a1.Master.Costs, .sl 7 k 0 a1.Ents.length, lst 8 GReceipt.av a1.Receipts, lst 9 GSale.av a1.Sales, lst 6 GTransit.av a1.Transits, int a1.Done]]⟩), (7, ⟨47, 8, true, true, k, a1.Ents.map GEnt.av⟩)])) rfl rfl rfl (yl_call rfl rfl (.cons rfl (.cons rfl .nil)) cal86 ?_) ?_
  refine pcw (c := _) Tryz.func86 rfl rfl ?_; intro Q hret hnorm
  refine tc tbk 12 (.mk ?_)
  obtain ⟨p62, h1⟩ := asrt_e h1
  refine rse rfl rfl rfl (yl_call rfl rfl (.cons rfl .nil) cal28 (pc_cv (clone28_c (id := 7) (l := a1.Ents) rfl p62) (.cons (.refl _) .nil))) ?_; rintro _ _ ⟨v63, rfl, rfl⟩
  refine tr tbk 3 (.mk ?_)
  refine sS ⟨153, 10, true, true, v60, [[int a1.Master.Entities, int a1.Master.Periods, lst 1 fI a1.Master.Weights, lst 1 (fL 1 fI) a1.Master.Methods, lst 1 (fL 1 fI) a1.Master.Costs, .sl 7 v63 0 a1.Ents.length, lst 8 GReceipt.av a1.Receipts, lst 9 GSale.av a1.Sales, lst 6 GTransit.av a1.Transits, int a1.Done]]⟩ sh26 ?_
  refine tr tbk 9 (.mk ?_)
  obtain ⟨x64, e64, h1⟩ := bind_e h1
  refine sY (yv_ixO rfl Tryz.underlying26 sh47 rfl rfl rfl rfl rfl (Eq.symm rfl) (List.length_map _) e64) ?_
  refine tr tbk 2 (.mk ?_)
  obtain rfl := nxt_e h1
  refine w_ret (hret _ _ (hk [(1, ⟨31, 10, true, true, v5, [(GState.av a1)]⟩), (3, ⟨31, 10, true, true, v7, [[int 0, int 0, .sc (.slice none 0 0), .sc (.slice none 0 0), .sc (.slice none 0 0), .sc (.slice none 0 0), .sc (.slice none 0 0), .sc (.slice none 0 0), .sc (.slice none 0 0), int 0]]⟩), (4, ⟨83, 11, true, true, v12, [[int y4_1.Open, int y4_1.Bought, int y4_1.Landed, int y4_1.Arrived, int y4_1.Returned, int y4_1.Sold, int y4_1.Shipped, int y4_1.SentBack, int y4_1.Scrapped, int y4_1.Lost, int y4_1.Revalued]]⟩), (6, ⟨153, 10, true, true, v60, [[int a1.Master.Entities, int a1.Master.Periods, lst 1 fI a1.Master.Weights, lst 1 (fL 1 fI) a1.Master.Methods, lst 1 (fL 1 fI) a1.Master.Costs, .sl 7 v63 0 a1.Ents.length, lst 8 GReceipt.av a1.Receipts, lst 9 GSale.av a1.Sales, lst 6 GTransit.av a1.Transits, int a1.Done]]⟩), (7, ⟨47, 8, true, true, v63, a1.Ents.map GEnt.av⟩)]) (.tmp rfl .nil) (HK.le ⟨rfl, rfl, rfl, rfl, rfl, trivial⟩) ?_)
  exact ⟨(), v63, rfl, rfl, rfl⟩
  rintro y _ ⟨_, w6_1, rfl, hc, rfl⟩
  subst hc
  refine tr tbk 6 (.mk ?_)
  obtain ⟨x65, e65, h0⟩ := bind_e h0
  refine sY (yv_nilCheck rfl rfl (.pt rfl rfl (ix_get' e65 (GEnt.av_eq _)))) ?_
  refine sY (yv_fieldAddr rfl fo47_4 rfl (.pt rfl rfl (ix_get' e65 (GEnt.av_eq _))) (.pt _ _ _ _ _)) ?_
  refine sY (yv_load rfl sh45 rfl (.pt rfl rfl (ix_get' e65 (GEnt.av_eq _))) rfl) ?_
  obtain ⟨p66, h0⟩ := asrt_e h0
  refine rse rfl rfl rfl (yl_call rfl rfl (.cons rfl .nil) cal90 (pc_cv (clone90_c (id := 8) (l := x65.Rolls) rfl p66) (.cons (.refl _) .nil))) ?_; rintro _ _ ⟨v67, rfl, rfl⟩
  refine sY (yv_nilCheck rfl rfl (.pt rfl rfl (ix_get' e65 (GEnt.av_eq _)))) ?_
  refine sY (yv_fieldAddr rfl fo47_4 rfl (.pt rfl rfl (ix_get' e65 (GEnt.av_eq _))) (.pt _ _ _ _ _)) ?_
  refine rsstore rfl rfl (yl_ob (ob' := (⟨47, 8, true, true, w6_1, (a1.Ents.map GEnt.av).set (Int.toNat a2) [int x65.Now, boo x65.Closed, lst 4 GPool.av x65.Pools, lst 1 fI x65.Bal, .sl 8 v67 0 x65.Rolls.length, lst 1 fI x65.Prices, lst 1 fI x65.Down, lst 8 GEnt.av x65.Ahead]⟩ : AObj)) (yl_store rfl sh45 rfl rfl rfl rfl rfl (ix_get' e65 (GEnt.av_eq _)) rfl rfl rfl) (ob_eq rfl)) ?_
  refine tr tbk 2 (.mk ?_)
  refine c_drawE [0, 1, 3, 7, 0, 0, 63, 127] (rl [(1, [7]), (2, [7]), (3, [7]), (5, [4]), (6, [8])] []) (rl [(7, [])] [4, 7, 8]) (rl [(7, false)] true) [0, 1, 2, 3, 4, 5, 6, 7] mixed (by kernel_rfl) ?_; intro K hK
  refine eM ?_
  refine eN (hr := set_get e65) ?_
  refine eF fo47_4 (hr := set_get e65) ?_
  refine eL sh45 (hr := set_get e65) ?_
  refine eM ?_
  refine eL sh83 ?_
  obtain ⟨x68, e68, h0⟩ := bind_e h0
  refine de_pure rfl rfl rfl rfl (fun H hH => yv_ixO rfl Tryz.underlying45 sh83 rfl rfl ((hH _ (by decide)).trans rfl) rfl rfl (Eq.symm rfl) (List.length_map _) e68) ?_
  obtain ⟨x69, e69, h0⟩ := bnd_e h0
  have fx69 := ix_set e68 e69; have lx69 := len_setV e69 (rfl : x65.Rolls.length = x65.Rolls.length)
  refine de_eff0 rfl rfl rfl rfl (Yield.weak (yl_ob (ob' := (⟨83, 11, true, true, v67, x69.map GRoll.av⟩ : AObj)) (yl_store rfl sh83 rfl rfl rfl rfl rfl (ix_get e68) rfl rfl rfl) (ob_eq (map_setV e69))) (fun _ h => h) (fun _ _ => trivial)) (by rintro _ _ ⟨rfl, rfl⟩; exact trivial) ?_; rintro _ _ ⟨rfl, rfl⟩
  refine de_nil (hK _ ?_)
  refine tc tbk 4 (.mk ?_)
  refine sS ⟨31, 10, true, true, v7, [[int a1.Master.Entities, int a1.Master.Periods, lst 1 fI a1.Master.Weights, lst 1 (fL 1 fI) a1.Master.Methods, lst 1 (fL 1 fI) a1.Master.Costs, .sl 7 w6_1 0 a1.Ents.length, lst 8 GReceipt.av a1.Receipts, lst 9 GSale.av a1.Sales, lst 6 GTransit.av a1.Transits, int a1.Done]]⟩ sh31 ?_
  refine tr tbk 2 (.mk ?_)
  obtain rfl := nxt_e h0
  refine wR hret (rC sh31 (rT .nil)) ?_
  exact CvL.tup (.cons (CvL.agg (.cons (.refl _) (.cons (.refl _) (.cons (.refl _) (.cons (.refl _) (.cons (.refl _) (.cons (cv_ov rfl rfl rfl rfl rfl (Eq.symm rfl) e65 (cvl_to (.cons (.refl _) (.cons (.refl _) (.cons (.refl _) (.cons (.refl _) (.cons (cv_lst rfl rfl rfl rfl rfl (Eq.symm lx69)) (.cons (.refl _) (.cons (.refl _) (.cons (.refl _) .nil)))))))) (GEnt.av_eq _))) (.cons (.refl _) (.cons (.refl _) (.cons (.refl _) (.cons (.refl _) .nil))))))))))) (.cons (.refl _) .nil))
def d_adjust_write (n : Nat) (a1 : GState) (a2 : GOp) (a3 : GRoll) (a4 : List GLine) : Option (GState × Int) :=
(d_stock_Post n a1 a2.E a4).bind fun x9 =>
bnd (decide (x9.2 ≠ 0)) fun x10 =>
asrt (x10 = false) <|
(d_stock_Turn x9.1 a2.E a2.Item a3).bind fun x11 =>
some ((x11.1 : GState), (x11.2 : Int))
theorem d_adjust_write_c {n : Nat} {a1 : GState} {a2 : GOp} {a3 : GRoll} {a4 : List GLine} {r : GState × Int} (h0 : d_adjust_write n a1 a2 a3 a4 = some r) : PP Tryz.prog 187 [.agg (GState.av a1), .agg (GOp.av a2), .agg (GRoll.av a3), lst 2 GLine.av a4] (fun y => y = .tup [.agg (GState.av r.1), int r.2]) := by
  unfold d_adjust_write at h0
  refine pp_of_pc (R0 := fun y H => Cv (frzH H) y (.tup [.agg (GState.av r.1), int r.2])) ?_ (fun y H hc => ⟨_, rfl, .tup (pvl2 ((fun (a : GState) => PV.agg (GState.pvc a)) (r.1)) (pvI (r.2))), hc⟩)
  refine pcw (c := _) Tryz.func187 rfl rfl ?_; intro Q hret hnorm
  refine tc tbk 2 (.mk ?_)
  refine sB 1 fun v5 => ?_
  refine sB 2 fun v6 => ?_
  refine sB 3 fun v7 => ?_
  refine sA 4 z31 fun v8 => ?_
  refine tr tbk 8 (.mk ?_)
  obtain ⟨x9, e9, h0⟩ := bind_e h0
  refine sC cal49 (d_stock_Post_c e9) ?_
  refine tr tbk 3 (.mk ?_)
  refine sS ⟨31, 10, true, true, v5, [(GState.av x9.1)]⟩ sh31 ?_
  refine tr tbk 6 (.mk ?_)
  refine nb tbk h0 fun x10 h0 => ?_
  refine tr tbk 1 (.mk ?_)
  replace h0 := asrt_e h0
  obtain ⟨rfl, h0⟩ := h0
  refine tc tbk 10 (.mk ?_)
  obtain ⟨x11, e11, h0⟩ := bind_e h0
  refine sC cal50 (d_stock_Turn_c e11) ?_
  refine tr tbk 2 (.mk ?_)
  refine sS ⟨31, 10, true, true, v8, [(GState.av x11.1)]⟩ sh31 ?_
  refine tr tbk 2 (.mk ?_)
  obtain rfl := nxt_e h0
  refine wR hret (rC sh31 (rT .nil)) ?_
  exact .refl _
def d_adjust_scrap (n : Nat) (a1 : GState) (a2 : GOp) : Option (GState × Int) :=
(d_stock_Fetch n a1 a2.E a2.Item a2.Loc 1 a2.Qty).bind fun x6 =>
bnd (decide (x6.2.2.2 ≠ 0)) fun x8 =>
cond x8 (some ((x6.1 : GState), (x6.2.2.2 : Int))) ((d_adjust_line 7 x6.2.1.Value).bind fun x9 =>
bnd (w64 (0 - x6.2.1.Value)) fun x10 =>
(d_adjust_line 0 x10).bind fun x11 =>
(d_adjust_write n x6.1 a2 (⟨0, 0, 0, 0, 0, 0, 0, 0, x6.2.1.Value, 0, 0⟩ : GRoll) ([x9, x11] : List GLine)).bind fun x12 =>
some ((x12.1 : GState), (x12.2 : Int)))
theorem d_adjust_scrap_c {n : Nat} {a1 : GState} {a2 : GOp} {r : GState × Int} (h0 : d_adjust_scrap n a1 a2 = some r) : PP Tryz.prog 152 [.agg (GState.av a1), .agg (GOp.av a2)] (fun y => y = .tup [.agg (GState.av r.1), int r.2]) := by
  unfold d_adjust_scrap at h0
  refine pp_of_pc (R0 := fun y H => Cv (frzH H) y (.tup [.agg (GState.av r.1), int r.2])) ?_ (fun y H hc => ⟨_, rfl, .tup (pvl2 ((fun (a : GState) => PV.agg (GState.pvc a)) (r.1)) (pvI (r.2))), hc⟩)
  refine pcw (c := _) Tryz.func152 rfl rfl ?_; intro Q hret hnorm
  refine tc tbk 2 (.mk ?_)
  refine sB 1 fun v3 => ?_
  refine sB 2 fun v4 => ?_
  refine sA 3 z31 fun v5 => ?_
  refine tr tbk 13 (.mk ?_)
  obtain ⟨x6, e6, h0⟩ := bind_e h0
  refine sC cal147 (d_stock_Fetch_c e6) ?_
  refine tr tbk 5 (.mk ?_)
  refine sA 4 z42 fun v7 => ?_
  refine sS ⟨31, 10, true, true, v3, [(GState.av x6.1)]⟩ sh31 ?_
  refine sS ⟨42, 3, true, true, v7, [[int x6.2.1.Qty, int x6.2.1.Value, int x6.2.1.Profit]]⟩ sh42 ?_
  refine tr tbk 7 (.mk ?_)
  refine nb tbk h0 fun x8 h0 => ?_
  refine tr tbk 1 (.mk ?_)
  cases x8
  replace h0 := cf h0
  refine tc tbk 3 (.mk ?_)
  refine c_drawE [0, 0, 0, 4, 12, 0, 32, 96, 0, 256, 768, 2016, 4064, 8191, 16383, 16383, 65535, 131071] (rl [(0, [1]), (1, [2]), (2, [4]), (3, [4]), (5, [4]), (6, [4]), (8, [4]), (9, [4])] []) (rl [(16, [])] [1, 2, 4]) (rl [(16, false)] true) [0, 1, 2, 3, 4, 5, 6, 7, 8, 9, 10, 11, 12, 13, 14, 15, 16, 17] mixed (by kernel_rfl) ?_; intro K hK
  refine eL sh31 ?_
  refine eL sh36 ?_
  refine eF fo42_1 ?_
  refine eL sh3 ?_
  refine eP (fun H hH => yv_build (cs := [int 0, int 0, int 0, int 0, int 0, int 0, int 0, int 0, int x6.2.1.Value, int 0, int 0]) (ps := [(8, _)]) rfl pl83 z83 rfl (.cons rfl .nil) (by kernel_rfl)) ?_
  refine eF fo42_1 ?_
  refine eL sh3 ?_
  obtain ⟨x9, e9, h0⟩ := bind_e h0
  refine eP (fun H hH => yv_callP rfl rfl (.cons rfl (.cons rfl .nil)) cal188 (CvL.refl _) (d_adjust_line_c e9)) ?_
  refine eF fo42_1 ?_
  refine eL sh3 ?_
  obtain ⟨x10, e10, h0⟩ := bnd_e h0
  refine eP (fun H hH => yv_neg rfl rfl e10) ?_
  obtain ⟨x11, e11, h0⟩ := bind_e h0
  refine eP (fun H hH => yv_callP rfl rfl (.cons rfl (.cons rfl .nil)) cal188 (CvL.refl _) (d_adjust_line_c e11)) ?_
  refine eP (fun H hH => yv_to (y := lst 2 GLine.av ([x9, x11] : List GLine)) (yv_buildSlice (ps := [(0, _), (1, _)]) (rows := [[int x9.Account, int x9.Amount], [int x11.Account, int x11.Amount]]) rfl Tryz.underlying109 bz108 (.cons rfl (.cons rfl .nil)) (by kernel_rfl) rfl rfl rfl) rfl) ?_
  obtain ⟨x12, e12, h0⟩ := bind_e h0
  refine eP (fun H hH => yv_callP rfl rfl (.cons rfl (.cons rfl (.cons rfl (.cons rfl .nil)))) cal187 (CvL.refl _) (d_adjust_write_c e12)) ?_
  iterate 2 refine eX ?_
  refine de_eff0 rfl rfl rfl rfl (Yield.weak (yl_ob (ob' := (⟨31, 10, true, true, v5, [(GState.av x12.1)]⟩ : AObj)) (yl_store rfl sh31 rfl rfl rfl rfl rfl rfl rfl rfl rfl) rfl) (fun _ h => h) (fun _ _ => trivial)) (by rintro _ _ ⟨rfl, rfl⟩; exact trivial) ?_; rintro _ _ ⟨rfl, rfl⟩
  refine eA ?_
  refine de_nil (hK _ ?_)
  obtain rfl := nxt_e h0
  refine wR hret (rC sh31 (rT .nil)) ?_
  exact .refl _
  replace h0 := ct h0
  refine tc tbk 5 (.mk ?_)
  refine sS ⟨31, 10, true, true, v5, [(GState.av x6.1)]⟩ sh31 ?_
  refine tr tbk 2 (.mk ?_)
  obtain rfl := nxt_e h0
  refine wR hret (rC sh31 (rT .nil)) ?_
  exact .refl _
def d_sell_line (a1 : Int) (a2 : Int) : Option (GLine) :=
some (((⟨a1, a2⟩ : GLine) : GLine))
theorem d_sell_line_c {a1 : Int} {a2 : Int} {r : GLine} (h0 : d_sell_line a1 a2 = some r) : PP Tryz.prog 148 [int a1, int a2] (fun y => y = .agg (GLine.av r)) := by
  unfold d_sell_line at h0
  refine pp_of_pc (R0 := fun y H => Cv (frzH H) y (.agg (GLine.av r))) ?_ (fun y H hc => ⟨_, rfl, (fun (a : GLine) => PV.agg (GLine.pvc a)) r, hc⟩)
  refine pcw (c := _) Tryz.func148 rfl rfl ?_; intro Q hret hnorm
  refine tc tbk 2 (.mk ?_)
  refine sA 1 z108 fun v3 => ?_
  refine tr tbk 6 (.mk ?_)
  refine sS ⟨108, 2, true, true, v3, [[int a1, int a2]]⟩ sh108 ?_
  refine tr tbk 1 (.mk ?_)
  obtain rfl := nxt_e h0
  refine wR hret (rC sh108 .nil) ?_
  exact .refl _
def d_sell_sell (n : Nat) (a1 : GState) (a2 : GOp) : Option (GState × Int) :=
bnd (decide ((a1.Sales.length : Int) ≥ 40)) fun x6 =>
cond x6 (some ((a1 : GState), (6 : Int))) ((d_stock_Fetch n a1 a2.E a2.Item a2.Loc 0 a2.Qty).bind fun x7 =>
bnd (decide (x7.2.2.2 ≠ 0)) fun x10 =>
cond x10 (some ((a1 : GState), (x7.2.2.2 : Int))) ((d_sell_line 3 a2.Amount).bind fun x11 =>
bnd (w64 (0 - a2.Amount)) fun x12 =>
(d_sell_line 4 x12).bind fun x13 =>
(d_sell_line 5 x7.2.1.Value).bind fun x14 =>
bnd (w64 (0 - x7.2.1.Value)) fun x15 =>
(d_sell_line 0 x15).bind fun x16 =>
(d_stock_Post n x7.1 a2.E ([x11, x13, x14, x16] : List GLine)).bind fun x17 =>
bnd (decide (x17.2 ≠ 0)) fun x18 =>
asrt (x18 = false) <|
(d_stock_Turn x17.1 a2.E a2.Item (⟨0, 0, 0, 0, 0, x7.2.1.Value, 0, 0, 0, 0, 0⟩ : GRoll)).bind fun x19 =>
bnd (decide (x19.2 ≠ 0)) fun x20 =>
asrt (x20 = false) <|
(ix a1.Ents a2.E).bind fun x21 =>
bnd x7.2.2.1 fun x22 =>
asrt (x19.1.Sales.length ≤ 68719476736) <|
bnd (x19.1.Sales ++ ([(⟨a2.E, a2.Item, a2.Loc, a2.Qty, 0, x7.2.1.Value, x7.2.1.Profit, x21.Now, x22⟩ : GSale)] : List GSale)) fun x25 =>
asrt (x25.length ≤ 68719476736) <|
some (((⟨x19.1.Master, x19.1.Ents, x19.1.Receipts, x25, x19.1.Transits, x19.1.Done⟩ : GState) : GState), (0 : Int))))
theorem d_sell_sell_c {n : Nat} {a1 : GState} {a2 : GOp} {r : GState × Int} (h0 : d_sell_sell n a1 a2 = some r) : PP Tryz.prog 101 [.agg (GState.av a1), .agg (GOp.av a2)] (fun y => y = .tup [.agg (GState.av r.1), int r.2]) := by
  unfold d_sell_sell at h0
  refine pp_of_pc (R0 := fun y H => Cv (frzH H) y (.tup [.agg (GState.av r.1), int r.2])) ?_ (fun y H hc => ⟨_, rfl, .tup (pvl2 ((fun (a : GState) => PV.agg (GState.pvc a)) (r.1)) (pvI (r.2))), hc⟩)
  refine pcw (c := _) Tryz.func101 rfl rfl ?_; intro Q hret hnorm
  refine tc tbk 2 (.mk ?_)
  refine sB 1 fun v3 => ?_
  refine sB 2 fun v4 => ?_
  refine sA 3 z31 fun v5 => ?_
  refine tr tbk 7 (.mk ?_)
  refine sY (yv_len_sl rfl Tryz.underlying28 rfl (lst_len _)) ?_
  refine nb tbk h0 fun x6 h0 => ?_
  refine tr tbk 1 (.mk ?_)
  cases x6
  replace h0 := cf h0
  refine tc tbk 13 (.mk ?_)
  obtain ⟨x7, e7, h0⟩ := bind_e h0
  refine sC cal147 (d_stock_Fetch_c e7) ?_
  refine tr tbk 5 (.mk ?_)
  refine sA 4 z31 fun v8 => ?_
  refine sA 5 z42 fun v9 => ?_
  refine sS ⟨31, 10, true, true, v8, [(GState.av x7.1)]⟩ sh31 ?_
  refine sS ⟨42, 3, true, true, v9, [[int x7.2.1.Qty, int x7.2.1.Value, int x7.2.1.Profit]]⟩ sh42 ?_
  refine tr tbk 7 (.mk ?_)
  refine nb tbk h0 fun x10 h0 => ?_
  refine tr tbk 1 (.mk ?_)
  cases x10
  replace h0 := cf h0
  refine tc tbk 3 (.mk ?_)
  refine c_drawE [0, 0, 2, 0, 8, 24, 0, 64, 192, 504, 0, 1024, 4088, 0, 8192, 24576, 65528, 131064, 262143, 524287, 1048575, 1048575, 2097151, 8388607] (rl [(0, [4]), (1, [2]), (2, [2]), (3, [2]), (4, [2]), (6, [2]), (7, [2]), (10, [5]), (11, [5]), (13, [5]), (14, [5])] []) (rl [(22, [])] [2, 4, 5]) (rl [(22, false)] true) [0, 1, 2, 3, 4, 5, 6, 7, 8, 9, 10, 11, 12, 13, 14, 15, 16, 17, 18, 19, 20, 21, 22, 23] mixed (by kernel_rfl) ?_; intro K hK
  refine eL sh31 ?_
  refine eF fo36_1 ?_
  refine eL sh3 ?_
  refine eF fo36_6 ?_
  refine eL sh3 ?_
  obtain ⟨x11, e11, h0⟩ := bind_e h0
  refine eP (fun H hH => yv_callP rfl rfl (.cons rfl (.cons rfl .nil)) cal148 (CvL.refl _) (d_sell_line_c e11)) ?_
  refine eF fo36_6 ?_
  refine eL sh3 ?_
  obtain ⟨x12, e12, h0⟩ := bnd_e h0
  refine eP (fun H hH => yv_neg rfl rfl e12) ?_
  obtain ⟨x13, e13, h0⟩ := bind_e h0
  refine eP (fun H hH => yv_callP rfl rfl (.cons rfl (.cons rfl .nil)) cal148 (CvL.refl _) (d_sell_line_c e13)) ?_
  refine eF fo42_1 ?_
  refine eL sh3 ?_
  obtain ⟨x14, e14, h0⟩ := bind_e h0
  refine eP (fun H hH => yv_callP rfl rfl (.cons rfl (.cons rfl .nil)) cal148 (CvL.refl _) (d_sell_line_c e14)) ?_
  refine eF fo42_1 ?_
  refine eL sh3 ?_
  obtain ⟨x15, e15, h0⟩ := bnd_e h0
  refine eP (fun H hH => yv_neg rfl rfl e15) ?_
  obtain ⟨x16, e16, h0⟩ := bind_e h0
  refine eP (fun H hH => yv_callP rfl rfl (.cons rfl (.cons rfl .nil)) cal148 (CvL.refl _) (d_sell_line_c e16)) ?_
  refine eP (fun H hH => yv_to (y := lst 2 GLine.av ([x11, x13, x14, x16] : List GLine)) (yv_buildSlice (ps := [(0, _), (1, _), (2, _), (3, _)]) (rows := [[int x11.Account, int x11.Amount], [int x13.Account, int x13.Amount], [int x14.Account, int x14.Amount], [int x16.Account, int x16.Amount]]) rfl Tryz.underlying109 bz108 (.cons rfl (.cons rfl (.cons rfl (.cons rfl .nil)))) (by kernel_rfl) rfl rfl rfl) rfl) ?_
  obtain ⟨x17, e17, h0⟩ := bind_e h0
  refine eP (fun H hH => yv_callP rfl rfl (.cons rfl (.cons rfl (.cons rfl .nil))) cal49 (CvL.refl _) (d_stock_Post_c e17)) ?_
  refine eM ?_
  iterate 2 refine eX ?_
  refine de_eff0 rfl rfl rfl rfl (Yield.weak (yl_ob (ob' := (⟨31, 10, true, true, v8, [(GState.av x17.1)]⟩ : AObj)) (yl_store rfl sh31 rfl rfl rfl rfl rfl rfl rfl rfl rfl) rfl) (fun _ h => h) (fun _ _ => trivial)) (by rintro _ _ ⟨rfl, rfl⟩; exact trivial) ?_; rintro _ _ ⟨rfl, rfl⟩
  refine eA ?_
  refine de_nil (hK _ ?_)
  refine tc tbk 4 (.mk ?_)
  refine nb tbk h0 fun x18 h0 => ?_
  refine tr tbk 1 (.mk ?_)
  replace h0 := asrt_e h0
  obtain ⟨rfl, h0⟩ := h0
  refine tc tbk 11 (.mk ?_)
  refine sY (yv_build (cs := [int 0, int 0, int 0, int 0, int 0, int x7.2.1.Value, int 0, int 0, int 0, int 0, int 0]) (ps := [(5, _)]) rfl pl83 z83 rfl (.cons rfl .nil) (by kernel_rfl)) ?_
  obtain ⟨x19, e19, h0⟩ := bind_e h0
  refine sC cal50 (d_stock_Turn_c e19) ?_
  refine tr tbk 3 (.mk ?_)
  refine sS ⟨31, 10, true, true, v8, [(GState.av x19.1)]⟩ sh31 ?_
  refine tr tbk 6 (.mk ?_)
  refine nb tbk h0 fun x20 h0 => ?_
  refine tr tbk 1 (.mk ?_)
  replace h0 := asrt_e h0
  obtain ⟨rfl, h0⟩ := h0
  refine tc tbk 3 (.mk ?_)
  refine c_drawE [0, 1, 3, 0, 8, 0, 32, 0, 128, 0, 512, 0, 2048, 0, 8192, 0, 32768, 0, 131072, 491520, 1015808, 2064384, 0, 8388600, 16777208, 33554431, 67108863, 134217727] (rl [(0, [4]), (1, [4]), (3, [2]), (4, [2]), (5, [2]), (6, [2]), (7, [2]), (8, [2]), (9, [2]), (10, [2]), (11, [5]), (12, [5]), (13, [5]), (14, [5]), (15, [1]), (16, [1]), (17, [2]), (18, [2]), (26, [4])] []) (rl [(2, [1, 2, 5]), (25, []), (27, [])] [1, 2, 4, 5]) (rl [(2, false), (25, false), (27, false)] true) [0, 1, 3, 4, 5, 6, 7, 8, 9, 10, 11, 12, 13, 14, 15, 16, 17, 18, 19, 20, 21, 22, 23, 24, 2, 25, 26, 27] mixed (by kernel_rfl) ?_; intro K hK
  refine eF fo31_3 ?_
  refine eL sh28 ?_
  refine eF fo36_1 ?_
  refine eL sh3 ?_
  refine eF fo36_2 ?_
  refine eL sh3 ?_
  refine eF fo36_3 ?_
  refine eL sh3 ?_
  refine eF fo36_5 ?_
  refine eL sh3 ?_
  refine eF fo42_1 ?_
  refine eL sh3 ?_
  refine eF fo42_2 ?_
  refine eL sh3 ?_
  refine eF fo31_1 ?_
  refine eL sh26 ?_
  refine eF fo36_1 ?_
  refine eL sh3 ?_
  obtain ⟨x21, e21, h0⟩ := bind_e h0
  refine eP (fun H hH => yv_to (y := .pp [int x21.Now, boo x21.Closed, lst 4 GPool.av x21.Pools, lst 1 fI x21.Bal, lst 11 GRoll.av x21.Rolls, lst 1 fI x21.Prices, lst 1 fI x21.Down, lst 8 GEnt.av x21.Ahead]) (yv_ixT rfl Tryz.underlying26 sh47 rfl rfl e21) (congrArg AV.pp (GEnt.av_eq x21))) ?_
  refine eP (fun H hH => yv_fieldAddr rfl fo47_0 rfl (.pp _) (.pp _ _)) ?_
  refine eP (fun H hH => yv_load rfl sh3 rfl (.pp _) rfl) ?_
  obtain ⟨x22, e22, h0⟩ := bnd_e h0
  refine eP (fun H hH => yv_to (y := boo x22) (yv_move rfl rfl) (congrArg boo e22)) ?_
  refine eP (fun H hH => yv_build (cs := [int a2.E, int a2.Item, int a2.Loc, int a2.Qty, int 0, int x7.2.1.Value, int x7.2.1.Profit, int x21.Now, boo x22]) (ps := [(0, _), (1, _), (2, _), (3, _), (5, _), (6, _), (7, _), (8, _)]) rfl pl79 z79 rfl (.cons rfl (.cons rfl (.cons rfl (.cons rfl (.cons rfl (.cons rfl (.cons rfl (.cons rfl .nil)))))))) (by kernel_rfl)) ?_
  refine eP (fun H hH => yv_to (y := lst 9 GSale.av ([(⟨a2.E, a2.Item, a2.Loc, a2.Qty, 0, x7.2.1.Value, x7.2.1.Profit, x21.Now, x22⟩ : GSale)] : List GSale)) (yv_buildSlice (ps := [(0, _)]) (rows := [[int a2.E, int a2.Item, int a2.Loc, int a2.Qty, int 0, int x7.2.1.Value, int x7.2.1.Profit, int x21.Now, boo x22]]) rfl Tryz.underlying28 bz79 (.cons rfl .nil) (by kernel_rfl) rfl rfl rfl) rfl) ?_
  obtain ⟨p23, h0⟩ := asrt_e h0
  refine de_eff rfl rfl rfl rfl (yl_call rfl rfl (.cons rfl .nil) cal29 (pc_cv (clone29_c (id := 6) (l := x19.1.Sales) rfl p23) (.cons (.refl _) .nil))) (by rintro _ _ ⟨v24, rfl, rfl⟩; exact ⟨rfl, rfl, rfl, trivial⟩) ?_; rintro _ _ ⟨v24, rfl, rfl⟩
  obtain ⟨x25, e25, h0⟩ := bnd_e h0
  obtain ⟨p26, h0⟩ := asrt_e h0
  refine de_eff rfl rfl rfl rfl (yl_appT (g := GSale.av) (l := x19.1.Sales) (m := ([(⟨a2.E, a2.Item, a2.Loc, a2.Qty, 0, x7.2.1.Value, x7.2.1.Profit, x21.Now, x22⟩ : GSale)] : List GSale)) .any rfl Tryz.underlying28 bz79 by79 rfl rfl rfl rfl rfl rfl rfl rfl rfl rfl (Eq.symm rfl) (.refl _) (fun _ => rfl) e25 p26) (by rintro _ _ ⟨v27, -, rfl, rfl⟩; exact trivial) ?_; rintro _ _ ⟨v27, -, rfl, rfl⟩
  refine eF fo31_3 ?_
  refine de_eff0 rfl rfl rfl rfl (Yield.weak (yl_ob (ob' := (⟨31, 10, true, true, v8, [[int x19.1.Master.Entities, int x19.1.Master.Periods, lst 1 fI x19.1.Master.Weights, lst 1 (fL 1 fI) x19.1.Master.Methods, lst 1 (fL 1 fI) x19.1.Master.Costs, lst 8 GEnt.av x19.1.Ents, lst 8 GReceipt.av x19.1.Receipts, .sl 6 v27 0 x25.length, lst 6 GTransit.av x19.1.Transits, int x19.1.Done]]⟩ : AObj)) (yl_store rfl sh28 rfl rfl rfl rfl rfl rfl rfl rfl rfl) rfl) (fun _ h => h) (fun _ _ => trivial)) (by rintro _ _ ⟨rfl, rfl⟩; exact trivial) ?_; rintro _ _ ⟨rfl, rfl⟩
  refine de_nil (hK _ ?_)
  refine tc tbk 3 (.mk ?_)
  refine sS ⟨31, 10, true, true, v5, [[int x19.1.Master.Entities, int x19.1.Master.Periods, lst 1 fI x19.1.Master.Weights, lst 1 (fL 1 fI) x19.1.Master.Methods, lst 1 (fL 1 fI) x19.1.Master.Costs, lst 8 GEnt.av x19.1.Ents, lst 8 GReceipt.av x19.1.Receipts, .sl 6 v27 0 x25.length, lst 6 GTransit.av x19.1.Transits, int x19.1.Done]]⟩ sh31 ?_
  refine tr tbk 2 (.mk ?_)
  obtain rfl := nxt_e h0
  refine wR hret (rC sh31 (rT .nil)) ?_
  exact CvL.tup (.cons (CvL.agg (.cons (.refl _) (.cons (.refl _) (.cons (.refl _) (.cons (.refl _) (.cons (.refl _) (.cons (.refl _) (.cons (.refl _) (.cons (cv_lst rfl rfl rfl rfl rfl (Eq.symm rfl)) (.cons (.refl _) (.cons (.refl _) .nil))))))))))) (.cons (.refl _) .nil))
  replace h0 := ct h0
  refine tc tbk 5 (.mk ?_)
  refine sS ⟨31, 10, true, true, v5, [(GState.av a1)]⟩ sh31 ?_
  refine tr tbk 2 (.mk ?_)
  obtain rfl := nxt_e h0
  refine wR hret (rC sh31 (rT .nil)) ?_
  exact .refl _
  replace h0 := ct h0
  refine tc tbk 4 (.mk ?_)
  refine sS ⟨31, 10, true, true, v5, [(GState.av a1)]⟩ sh31 ?_
  refine tr tbk 2 (.mk ?_)
  obtain rfl := nxt_e h0
  refine wR hret (rC sh31 (rT .nil)) ?_
  exact .refl _
def d_sell_Do (n : Nat) (a1 : GState) (a2 : GOp) : Option (GState × Int) :=
(show Option ((GOp × GSale) ⊕ (GState × Int)) from
bnd (decide (a2.Kind = 5)) fun x8 =>
cond x8 ((show Option (Bool) from
bnd (decide (a2.Ref < 0)) fun x12 =>
cond x12 (some (true : Bool)) (bnd (decide (a2.Ref ≥ (a1.Sales.length : Int))) fun x13 =>
some (x13 : Bool))).bind <| fun y0_1 =>
cond y0_1 (esc (some ((a1 : GState), (4 : Int)))) ((ix a1.Sales a2.Ref).bind fun x14 =>
brk (((⟨a2.Kind, x14.Entity, x14.Item, x14.Loc, a2.To, a2.Qty, a2.Amount, a2.Ref, a2.Refs⟩ : GOp) : GOp), (x14 : GSale)))) (bnd (decide (a2.Kind = 4)) fun x9 =>
cond x9 (brk ((a2 : GOp), ((⟨0, 0, 0, 0, 0, 0, 0, 0, false⟩ : GSale) : GSale))) (esc (some ((a1 : GState), (1 : Int)))))).bind <| sel <| p2 fun (y1_1 : GOp) (y1_2 : GSale) =>
(d_stock_Ready a1 y1_1.E y1_1.Item).bind fun x16 =>
bnd (decide (x16 ≠ 0)) fun x17 =>
asrt (x17 = false) <|
bnd (decide (y1_1.Kind = 4)) fun x19 =>
asrt (x19 = true) <|
(d_sell_sell n a1 y1_1).bind fun x20 =>
bnd (decide (x20.2 ≠ 0)) fun x21 =>
cond x21 (some ((a1 : GState), (x20.2 : Int))) (some ((x20.1 : GState), (0 : Int)))
theorem d_sell_Do_c {n : Nat} {a1 : GState} {a2 : GOp} {r : GState × Int} (h0 : d_sell_Do n a1 a2 = some r) : PP Tryz.prog 56 [.agg (GState.av a1), .agg (GOp.av a2)] (fun y => y = .tup [.agg (GState.av r.1), int r.2]) := by
  unfold d_sell_Do at h0
  refine pp_of_pc (R0 := fun y H => Cv (frzH H) y (.tup [.agg (GState.av r.1), int r.2])) ?_ (fun y H hc => ⟨_, rfl, .tup (pvl2 ((fun (a : GState) => PV.agg (GState.pvc a)) (r.1)) (pvI (r.2))), hc⟩)
  refine pcw (c := _) Tryz.func56 rfl rfl ?_; intro Q hret hnorm
  refine tc tbk 2 (.mk ?_)
  refine sB 1 fun v3 => ?_
  refine sB 2 fun v4 => ?_
  refine sA 3 z31 fun v5 => ?_
  refine tr tbk 4 (.mk ?_)
  refine sA 4 z79 fun v6 => ?_
  refine tr tbk 11 (.mk ?_)
  refine jnE h0 [2, 3, 4, 5, 6] [1, 3] (fun (a : GOp × GSale) (k : Unit) => []) (fun a k => [(2, ⟨36, 9, true, true, v4, [[int a.1.Kind, int a.1.E, int a.1.Item, int a.1.Loc, int a.1.To, int a.1.Qty, int a.1.Amount, int a.1.Ref, lst 1 fI a.1.Refs]]⟩), (4, ⟨79, 9, true, true, v6, [[int a.2.Entity, int a.2.Item, int a.2.Loc, int a.2.Qty, int a.2.Back, int a.2.Cost, int a.2.Profit, int a.2.Period, boo a.2.Waits]]⟩)]) ⟨fun j7 h1 h0 => ?_, ?_⟩
  refine tc tbk 7 (.mk ?_)
  refine nb tbk h1 fun x8 h1 => ?_
  refine tr tbk 2 (.mk ?_)
  cases x8
  replace h1 := cf h1
  refine tc tbk 4 (.mk ?_)
  refine nb tbk h1 fun x9 h1 => ?_
  refine tr tbk 2 (.mk ?_)
  cases x9
  replace h1 := cf h1
  refine tc tbk 2 (.mk ?_)
  obtain ⟨c10, hX, hj⟩ := esc_e h1; subst hj; replace h0 := hX.trans (sel_r h0)
  refine tc tbk 5 (.mk ?_)
  refine sS ⟨31, 10, true, true, v5, [(GState.av a1)]⟩ sh31 ?_
  refine tr tbk 2 (.mk ?_)
  obtain rfl := nxt_e h0
  refine wR hret (rC sh31 (rT .nil)) ?_
  exact .refl _
  replace h1 := ct h1
  refine tc tbk 2 (.mk ?_)
  exact lfE h1 () leA
  replace h1 := ct h1
  refine tc tbk 4 (.mk ?_)
  refine jn h1 [2, 3, 4, 5, 6] [1, 2, 3, 4] (fun (a : Bool) (k : Unit) => [(26, boo a)]) (fun a k => []) ⟨fun j11 h2 => ?_, ?_⟩
  refine tc tbk 3 (.mk ?_)
  refine nb tbk h2 fun x12 h2 => ?_
  refine tr tbk 1 (.mk ?_)
  cases x12
  replace h2 := cf h2
  refine tr tbk 4 (.mk ?_)
  refine sY (yv_len_sl rfl Tryz.underlying28 rfl (lst_len _)) ?_
  refine nb tbk h2 fun x13 h2 => ?_
  refine tr tbk 2 (.mk ?_)
  exact lf h2 () leA
  replace h2 := ct h2
  refine tr tbk 8 (.mk ?_)
  exact lf h2 () leA
  rintro y0_1 _ h1
  cases y0_1
  replace h1 := cf h1
  refine tc tbk 8 (.mk ?_)
  obtain ⟨x14, e14, h1⟩ := bind_e h1
  refine sY (yv_ixT rfl Tryz.underlying28 sh79 rfl rfl e14) ?_
  refine tr tbk 1 (.mk ?_)
  refine sS ⟨79, 9, true, true, v6, [[int x14.Entity, int x14.Item, int x14.Loc, int x14.Qty, int x14.Back, int x14.Cost, int x14.Profit, int x14.Period, boo x14.Waits]]⟩ sh79 ?_
  refine tr tbk 1 (.mk ?_)
  refine c_drawE [0, 1, 0, 4, 0, 16, 3, 67, 207, 463, 1023, 2047] (rl [(0, [4]), (1, [4]), (2, [4]), (3, [4]), (4, [4]), (5, [4]), (6, [2]), (8, [2]), (10, [2])] []) (rl [(7, [4]), (9, [4]), (11, [])] [2, 4]) (rl [(7, false), (9, false), (11, false)] true) [0, 1, 2, 3, 4, 5, 6, 7, 8, 9, 10, 11] mixed (by kernel_rfl) ?_; intro K hK
  refine eF fo79_0 ?_
  refine eL sh3 ?_
  refine eF fo79_1 ?_
  refine eL sh3 ?_
  refine eF fo79_2 ?_
  refine eL sh3 ?_
  refine eF fo36_1 ?_
  refine de_eff0 rfl rfl rfl rfl (Yield.weak (yl_ob (ob' := (⟨36, 9, true, true, v4, [[int a2.Kind, int x14.Entity, int a2.Item, int a2.Loc, int a2.To, int a2.Qty, int a2.Amount, int a2.Ref, lst 1 fI a2.Refs]]⟩ : AObj)) (yl_store rfl sh3 rfl rfl rfl rfl rfl rfl rfl rfl rfl) rfl) (fun _ h => h) (fun _ _ => trivial)) (by rintro _ _ ⟨rfl, rfl⟩; exact ⟨rfl, trivial⟩) ?_; rintro _ _ ⟨rfl, rfl⟩
  refine eF fo36_2 ?_
  refine de_eff0 rfl rfl rfl rfl (Yield.weak (yl_ob (ob' := (⟨36, 9, true, true, v4, [[int a2.Kind, int x14.Entity, int x14.Item, int a2.Loc, int a2.To, int a2.Qty, int a2.Amount, int a2.Ref, lst 1 fI a2.Refs]]⟩ : AObj)) (yl_store rfl sh3 rfl rfl rfl rfl rfl rfl rfl rfl rfl) rfl) (fun _ h => h) (fun _ _ => trivial)) (by rintro _ _ ⟨rfl, rfl⟩; exact ⟨rfl, trivial⟩) ?_; rintro _ _ ⟨rfl, rfl⟩
  refine eF fo36_3 ?_
  refine de_eff0 rfl rfl rfl rfl (Yield.weak (yl_ob (ob' := (⟨36, 9, true, true, v4, [[int a2.Kind, int x14.Entity, int x14.Item, int x14.Loc, int a2.To, int a2.Qty, int a2.Amount, int a2.Ref, lst 1 fI a2.Refs]]⟩ : AObj)) (yl_store rfl sh3 rfl rfl rfl rfl rfl rfl rfl rfl rfl) rfl) (fun _ h => h) (fun _ _ => trivial)) (by rintro _ _ ⟨rfl, rfl⟩; exact trivial) ?_; rintro _ _ ⟨rfl, rfl⟩
  refine de_nil (hK _ ?_)
  refine tc tbk 1 (.mk ?_)
  exact lfE h1 () leA
  replace h1 := ct h1
  refine tc tbk 4 (.mk ?_)
  refine sS ⟨31, 10, true, true, v5, [(GState.av a1)]⟩ sh31 ?_
  refine tr tbk 2 (.mk ?_)
  obtain ⟨c15, hX, hj⟩ := esc_e h1; subst hj; replace h0 := hX.trans (sel_r h0)
  obtain rfl := nxt_e h0
  refine wR hret (rC sh31 (rT .nil)) ?_
  exact .refl _
  rintro ⟨y1_1, y1_2⟩ _ h0
  replace h0 := p2_e h0
  refine tc tbk 8 (.mk ?_)
  obtain ⟨x16, e16, h0⟩ := bind_e h0
  refine sC cal94 (d_stock_Ready_c e16) ?_
  refine tr tbk 5 (.mk ?_)
  refine nb tbk h0 fun x17 h0 => ?_
  refine tr tbk 1 (.mk ?_)
  replace h0 := asrt_e h0
  obtain ⟨rfl, h0⟩ := h0
  refine tc tbk 6 (.mk ?_)
  refine sA 5 z31 fun v18 => ?_
  refine sS ⟨31, 10, true, true, v18, [(GState.av a1)]⟩ sh31 ?_
  refine tr tbk 8 (.mk ?_)
  refine nb tbk h0 fun x19 h0 => ?_
  refine tr tbk 2 (.mk ?_)
  replace h0 := asrt_e h0
  obtain ⟨rfl, h0⟩ := h0
  refine tc tbk 4 (.mk ?_)
  obtain ⟨x20, e20, h0⟩ := bind_e h0
  refine sC cal101 (d_sell_sell_c e20) ?_
  refine tr tbk 3 (.mk ?_)
  refine sS ⟨31, 10, true, true, v18, [(GState.av x20.1)]⟩ sh31 ?_
  refine tr tbk 7 (.mk ?_)
  refine nb tbk h0 fun x21 h0 => ?_
  refine tr tbk 1 (.mk ?_)
  cases x21
  replace h0 := cf h0
  refine tc tbk 5 (.mk ?_)
  refine sS ⟨31, 10, true, true, v5, [(GState.av x20.1)]⟩ sh31 ?_
  refine tr tbk 2 (.mk ?_)
  obtain rfl := nxt_e h0
  refine wR hret (rC sh31 (rT .nil)) ?_
  exact .refl _
  replace h0 := ct h0
  refine tc tbk 5 (.mk ?_)
  refine sS ⟨31, 10, true, true, v5, [(GState.av a1)]⟩ sh31 ?_
  refine tr tbk 2 (.mk ?_)
  obtain rfl := nxt_e h0
  refine wR hret (rC sh31 (rT .nil)) ?_
  exact .refl _
def d_fifo_wrong (a1 : GLayer) : Option (Bool) :=
(show Option (Bool) from
bnd (decide (a1.Qty < 1)) fun x4 =>
cond x4 (some (true : Bool)) (bnd (decide (a1.Qty > 288230376151711744)) fun x5 =>
cond x5 (some (true : Bool)) (bnd (decide (a1.Value < 0)) fun x6 =>
cond x6 (some (true : Bool)) (bnd (decide (a1.Value > 288230376151711744)) fun x7 =>
cond x7 (some (true : Bool)) (bnd (decide (a1.Profit < (-288230376151711744))) fun x8 =>
cond x8 (some (true : Bool)) (bnd (decide (a1.Profit > 288230376151711744)) fun x9 =>
some (x9 : Bool))))))).bind <| fun y0_1 =>
some ((y0_1 : Bool))
theorem d_fifo_wrong_c {a1 : GLayer} {r : Bool} (h0 : d_fifo_wrong a1 = some r) : PP Tryz.prog 195 [.agg (GLayer.av a1)] (fun y => y = boo r) := by
  unfold d_fifo_wrong at h0
  refine pp_of_pc (R0 := fun y H => Cv (frzH H) y (boo r)) ?_ (fun y H hc => ⟨_, rfl, pvB r, hc⟩)
  refine pcw (c := _) Tryz.func195 rfl rfl ?_; intro Q hret hnorm
  refine tc tbk 2 (.mk ?_)
  refine sB 1 fun v2 => ?_
  refine tr tbk 3 (.mk ?_)
  refine jn h0 [] [] (fun (a : Bool) (k : Unit) => [(2, boo a)]) (fun a k => []) ⟨fun j3 h1 => ?_, ?_⟩
  refine tc tbk 3 (.mk ?_)
  refine nb tbk h1 fun x4 h1 => ?_
  refine tr tbk 1 (.mk ?_)
  cases x4
  replace h1 := cf h1
  refine tr tbk 2 (.mk ?_)
  refine nb tbk h1 fun x5 h1 => ?_
  refine tr tbk 2 (.mk ?_)
  cases x5
  replace h1 := cf h1
  refine tr tbk 2 (.mk ?_)
  refine nb tbk h1 fun x6 h1 => ?_
  refine tr tbk 2 (.mk ?_)
  cases x6
  replace h1 := cf h1
  refine tr tbk 2 (.mk ?_)
  refine nb tbk h1 fun x7 h1 => ?_
  refine tr tbk 2 (.mk ?_)
  cases x7
  replace h1 := cf h1
  refine tr tbk 2 (.mk ?_)
  refine nb tbk h1 fun x8 h1 => ?_
  refine tr tbk 2 (.mk ?_)
  cases x8
  replace h1 := cf h1
  refine tr tbk 2 (.mk ?_)
  refine nb tbk h1 fun x9 h1 => ?_
  refine tr tbk 3 (.mk ?_)
  exact lf h1 () leA
  replace h1 := ct h1
  refine tr tbk 6 (.mk ?_)
  exact lf h1 () leA
  replace h1 := ct h1
  refine tr tbk 11 (.mk ?_)
  exact lf h1 () leA
  replace h1 := ct h1
  refine tr tbk 16 (.mk ?_)
  exact lf h1 () leA
  replace h1 := ct h1
  refine tr tbk 21 (.mk ?_)
  exact lf h1 () leA
  replace h1 := ct h1
  refine tr tbk 26 (.mk ?_)
  exact lf h1 () leA
  rintro y0_1 _ h0
  obtain rfl := nxt_e h0
  refine wR hret (rT .nil) ?_
  exact .refl _
def d_fifo_Total_L0 (a1 : List GLayer) : Nat → Int → (List Int) → (List Int) → (List Int) → Option ((List Int) × (List Int) × (List Int))
  | 0, _, _, _, _ => none
  | n + 1, y0_4, y0_5, y0_6, y0_7 =>
    bnd (decide (y0_4 < (a1.length : Int))) fun x7 =>
    cond x7 ((ix a1 y0_4).bind fun x8 =>
    bnd (y0_5 ++ ([x8.Qty] : List Int)) fun x10 =>
    asrt (x10.length ≤ 68719476736) <|
    bnd (y0_6 ++ ([x8.Value] : List Int)) fun x13 =>
    asrt (x13.length ≤ 68719476736) <|
    bnd (y0_7 ++ ([x8.Profit] : List Int)) fun x16 =>
    asrt (x16.length ≤ 68719476736) <|
    bnd (w64 (y0_4 + 1)) fun x19 =>
    d_fifo_Total_L0 a1 n (x19 : Int) (x10 : List Int) (x13 : List Int) (x16 : List Int)) (some ((y0_5 : List Int), (y0_6 : List Int), (y0_7 : List Int)))
def d_fifo_Total (n : Nat) (a1 : List GLayer) : Option (GLayer × Int) :=
(show Option ((List Int) × (List Int) × (List Int)) from
d_fifo_Total_L0 a1 n (0 : Int) (([] : List Int) : List Int) (([] : List Int) : List Int) (([] : List Int) : List Int)).bind <| p2 fun (y1_4 : List Int) (q0 : (List Int) × (List Int)) => (p2 fun (y1_5 : List Int) (y1_6 : List Int) =>
(show Option (GLayer) from
(d_money_Sum n y1_4).bind fun x23 =>
bnd (decide (x23.2 ≠ 0)) fun x24 =>
asrt (x24 = false) <|
(d_money_Sum n y1_5).bind fun x26 =>
bnd (decide (x26.2 ≠ 0)) fun x27 =>
asrt (x27 = false) <|
(d_money_Sum n y1_6).bind fun x29 =>
bnd (decide (x29.2 ≠ 0)) fun x30 =>
asrt (x30 = false) <|
some ((⟨x23.1, x26.1, x29.1⟩ : GLayer) : GLayer)).bind <| fun y2_1 =>
some ((y2_1 : GLayer), (0 : Int))) q0
theorem d_fifo_Total_c {n : Nat} {a1 : List GLayer} {r : GLayer × Int} (h0 : d_fifo_Total n a1 = some r) : PP Tryz.prog 32 [lst 3 GLayer.av a1] (fun y => y = .tup [.agg (GLayer.av r.1), int r.2]) := by
  unfold d_fifo_Total at h0
  refine pp_of_pc (R0 := fun y H => Cv (frzH H) y (.tup [.agg (GLayer.av r.1), int r.2])) ?_ (fun y H hc => ⟨_, rfl, .tup (pvl2 ((fun (a : GLayer) => PV.agg (GLayer.pvc a)) (r.1)) (pvI (r.2))), hc⟩)
  refine pcw (c := _) Tryz.func32 rfl rfl ?_; intro Q hret hnorm
  refine tc tbk 2 (.mk ?_)
  refine sA 1 z42 fun v2 => ?_
  refine tr tbk 12 (.mk ?_)
  refine sY (yv_len_sl rfl Tryz.underlying71 rfl (lst_len _)) ?_
  refine tr tbk 2 (.mk ?_)
  refine jn h0 [2, 3] [1] (fun (a : (List Int) × (List Int) × (List Int)) (k : Nat × Nat × Nat) => [(4, .sl 6 k.1 0 a.1.length), (5, .sl 7 k.2.1 0 a.2.1.length), (6, .sl 8 k.2.2 0 a.2.2.length)]) (fun a k => [(6, ⟨3, 1, true, true, k.1, a.1.map fI⟩), (7, ⟨3, 1, true, true, k.2.1, a.2.1.map fI⟩), (8, ⟨3, 1, true, true, k.2.2, a.2.2.map fI⟩)]) ⟨fun j3 h1 => ?_, ?_⟩
  refine tc tbk 1 (.mk ?_)
  refine c_nilobj 4 6 3 1 rfl rfl ?_; intro v4
  refine c_nilobj 5 7 3 1 rfl rfl ?_; intro v5
  refine c_nilobj 6 8 3 1 rfl rfl ?_; intro v6
  refine lp (fun n (a : Int × (List Int) × (List Int) × (List Int)) => d_fifo_Total_L0 a1 n a.1 a.2.1 a.2.2.1 a.2.2.2) ((0 : Int), (([] : List Int) : List Int), (([] : List Int) : List Int), (([] : List Int) : List Int)) (v4, v5, v6) h1 [2, 3, 14, 15] [1] (fun (a : Int × (List Int) × (List Int) × (List Int)) (k : Nat × Nat × Nat) => [(4, .sl 6 k.1 0 a.2.1.length), (5, .sl 7 k.2.1 0 a.2.2.1.length), (6, .sl 8 k.2.2 0 a.2.2.2.length), (16, int a.1)]) (fun a k => [(6, ⟨3, 1, true, true, k.1, a.2.1.map fI⟩), (7, ⟨3, 1, true, true, k.2.1, a.2.2.1.map fI⟩), (8, ⟨3, 1, true, true, k.2.2, a.2.2.2.map fI⟩)]) (fun _ => rfl) ⟨leA, ?_⟩
  rintro n ⟨y0_4, y0_5, y0_6, y0_7⟩ ⟨w0_1, w0_2, w0_3⟩ hm h1
  replace h1 : d_fifo_Total_L0 a1 (n + 1) y0_4 y0_5 y0_6 y0_7 = some _ := h1
  rw [d_fifo_Total_L0] at h1
  refine tc tbk 2 (.mk ?_)
  refine nb tbk h1 fun x7 h1 => ?_
  refine tr tbk 2 (.mk ?_)
  cases x7
  replace h1 := cf h1
  refine tc tbk 2 (.mk ?_)
  exact lf h1 (w0_1, w0_2, w0_3) leA
  replace h1 := ct h1
  refine tc tbk 6 (.mk ?_)
  obtain ⟨x8, e8, h1⟩ := bind_e h1
  refine sY (yv_ixT rfl Tryz.underlying71 sh42 rfl rfl e8) ?_
  refine tr tbk 1 (.mk ?_)
  refine sA 2 z42 fun v9 => ?_
  refine sS ⟨42, 3, true, true, v9, [[int x8.Qty, int x8.Value, int x8.Profit]]⟩ sh42 ?_
  refine tr tbk 1 (.mk ?_)
  refine c_drawE [0, 0, 2, 6, 15, 0, 0, 64, 192, 511, 0, 0, 2048, 6144, 16383, 32767, 65535, 131071] (rl [(1, [2]), (2, [2]), (6, [2]), (7, [2]), (11, [2]), (12, [2])] []) (rl [(14, [])] [2]) (rl [(4, false), (9, false), (14, false)] true) [0, 1, 2, 3, 5, 6, 7, 8, 10, 11, 12, 13, 4, 9, 14, 15, 16, 17] mixed (by kernel_rfl) ?_; intro K hK
  refine eM ?_
  refine eF fo42_0 ?_
  refine eL sh3 ?_
  refine eP (fun H hH => yv_to (y := lst 1 fI ([x8.Qty] : List Int)) (yv_buildSlice (ps := [(0, _)]) (rows := [[int x8.Qty]]) rfl Tryz.underlying22 bz3 (.cons rfl .nil) (by kernel_rfl) rfl rfl rfl) rfl) ?_
  refine eM ?_
  refine eF fo42_1 ?_
  refine eL sh3 ?_
  refine eP (fun H hH => yv_to (y := lst 1 fI ([x8.Value] : List Int)) (yv_buildSlice (ps := [(0, _)]) (rows := [[int x8.Value]]) rfl Tryz.underlying22 bz3 (.cons rfl .nil) (by kernel_rfl) rfl rfl rfl) rfl) ?_
  refine eM ?_
  refine eF fo42_2 ?_
  refine eL sh3 ?_
  refine eP (fun H hH => yv_to (y := lst 1 fI ([x8.Profit] : List Int)) (yv_buildSlice (ps := [(0, _)]) (rows := [[int x8.Profit]]) rfl Tryz.underlying22 bz3 (.cons rfl .nil) (by kernel_rfl) rfl rfl rfl) rfl) ?_
  obtain ⟨x10, e10, h1⟩ := bnd_e h1
  obtain ⟨p11, h1⟩ := asrt_e h1
  refine de_eff rfl rfl rfl rfl (yl_appT (g := fI) (l := y0_5) (m := ([x8.Qty] : List Int)) .any rfl Tryz.underlying22 bz3 by3 rfl rfl rfl rfl rfl rfl rfl rfl rfl rfl (Eq.symm rfl) (.refl _) (fun _ => rfl) e10 p11) (by rintro _ _ ⟨v12, -, rfl, rfl⟩; exact ⟨rfl, trivial⟩) ?_; rintro _ _ ⟨v12, -, rfl, rfl⟩
  obtain ⟨x13, e13, h1⟩ := bnd_e h1
  obtain ⟨p14, h1⟩ := asrt_e h1
  refine de_eff rfl rfl rfl rfl (yl_appT (g := fI) (l := y0_6) (m := ([x8.Value] : List Int)) .any rfl Tryz.underlying22 bz3 by3 rfl rfl rfl rfl rfl rfl rfl rfl rfl rfl (Eq.symm rfl) (.refl _) (fun _ => rfl) e13 p14) (by rintro _ _ ⟨v15, -, rfl, rfl⟩; exact ⟨rfl, trivial⟩) ?_; rintro _ _ ⟨v15, -, rfl, rfl⟩
  obtain ⟨x16, e16, h1⟩ := bnd_e h1
  obtain ⟨p17, h1⟩ := asrt_e h1
  refine de_eff rfl rfl rfl rfl (yl_appT (g := fI) (l := y0_7) (m := ([x8.Profit] : List Int)) .any rfl Tryz.underlying22 bz3 by3 rfl rfl rfl rfl rfl rfl rfl rfl rfl rfl (Eq.symm rfl) (.refl _) (fun _ => rfl) e16 p17) (by rintro _ _ ⟨v18, -, rfl, rfl⟩; exact trivial) ?_; rintro _ _ ⟨v18, -, rfl, rfl⟩
  iterate 3 refine eA ?_
  refine de_nil (hK _ ?_)
  refine tc tbk 2 (.mk ?_)
  refine ni tbk h1 fun x19 h1 => ?_
  refine tr tbk 2 (.mk ?_)
  exact bk (x19, x10, x13, x16) (v12, v15, v18) h1 leA
  rintro ⟨y1_4, y1_5, y1_6⟩ ⟨w1_1, w1_2, w1_3⟩ h0
  replace h0 := p2_e h0
  replace h0 := p2_e h0
  refine tc tbk 2 (.mk ?_)
  refine sA 9 z42 fun v20 => ?_
  refine tr tbk 13 (.mk ?_)
  refine sY (yv_buildSlice (ps := [(0, _), (1, _), (2, _)]) (rows := [[.pt 9 v20 0 0, .sl 6 w1_1 0 y1_4.length], [.pt 9 v20 0 1, .sl 7 w1_2 0 y1_5.length], [.pt 9 v20 0 2, .sl 8 w1_3 0 y1_6.length]]) rfl Tryz.underlying117 bz116 (.cons rfl (.cons rfl (.cons rfl .nil))) (by kernel_rfl) rfl rfl rfl) ?_
  refine sY (yv_to (y := int 3) (yv_len_sl rfl Tryz.underlying117 rfl (.list _ _)) rfl) ?_
  refine tr tbk 2 (.mk ?_)
  refine jn h0 [2, 3, 9] [1] (fun (a : GLayer) (k : Unit) => []) (fun a k => [(9, ⟨42, 3, true, true, v20, [[int a.Qty, int a.Value, int a.Profit]]⟩)]) ⟨fun j21 h1 => ?_, ?_⟩
  refine tc tbk 4 (.mk ?_)
  refine sY (yv_to (y := boo true) (yv_lss rfl rfl rfl) (congrArg boo (by decide))) ?_
  refine tr tbk 8 (.mk ?_)
  refine sY (yv_indexAddr (j := 0) rfl Tryz.underlying117 sh116 rfl rfl rfl (.list rfl)) ?_
  refine tr tbk 1 (.mk ?_)
  refine sA 10 z116 fun v22 => ?_
  refine sS ⟨116, 2, true, true, v22, [[.pt 9 v20 0 0, .sl 6 w1_1 0 y1_4.length]]⟩ sh116 ?_
  refine tr tbk 5 (.mk ?_)
  obtain ⟨x23, e23, h1⟩ := bind_e h1
  refine sY (yv_callT (v := .tup [int x23.1, int x23.2]) rfl rfl (.cons rfl .nil) cal34 (.cons (cv_lst rfl rfl rfl rfl rfl (Eq.symm rfl)) .nil) (d_money_Sum_c e23) rfl) ?_
  refine tr tbk 10 (.mk ?_)
  refine nb tbk h1 fun x24 h1 => ?_
  refine tr tbk 1 (.mk ?_)
  replace h1 := asrt_e h1
  obtain ⟨rfl, h1⟩ := h1
  refine tc tbk 7 (.mk ?_)
  refine sS ⟨42, 3, true, true, v20, [[int x23.1, int 0, int 0]]⟩ sh3 ?_
  refine tr tbk 3 (.mk ?_)
  refine sY (yv_add (r := 1) rfl rfl rfl (by decide)) ?_
  refine tr tbk 5 (.mk ?_)
  refine sY (yv_to (y := boo true) (yv_lss rfl rfl rfl) (congrArg boo (by decide))) ?_
  refine tr tbk 8 (.mk ?_)
  refine sY (yv_indexAddr (j := 1) rfl Tryz.underlying117 sh116 rfl rfl rfl (.list rfl)) ?_
  refine tr tbk 1 (.mk ?_)
  refine sA 11 z116 fun v25 => ?_
  refine sS ⟨116, 2, true, true, v25, [[.pt 9 v20 0 1, .sl 7 w1_2 0 y1_5.length]]⟩ sh116 ?_
  refine tr tbk 5 (.mk ?_)
  obtain ⟨x26, e26, h1⟩ := bind_e h1
  refine sY (yv_callT (v := .tup [int x26.1, int x26.2]) rfl rfl (.cons rfl .nil) cal34 (.cons (cv_lst rfl rfl rfl rfl rfl (Eq.symm rfl)) .nil) (d_money_Sum_c e26) rfl) ?_
  refine tr tbk 10 (.mk ?_)
  refine nb tbk h1 fun x27 h1 => ?_
  refine tr tbk 1 (.mk ?_)
  replace h1 := asrt_e h1
  obtain ⟨rfl, h1⟩ := h1
  refine tc tbk 7 (.mk ?_)
  refine sS ⟨42, 3, true, true, v20, [[int x23.1, int x26.1, int 0]]⟩ sh3 ?_
  refine tr tbk 3 (.mk ?_)
  refine sY (yv_add (r := 2) rfl rfl rfl (by decide)) ?_
  refine tr tbk 5 (.mk ?_)
  refine sY (yv_to (y := boo true) (yv_lss rfl rfl rfl) (congrArg boo (by decide))) ?_
  refine tr tbk 8 (.mk ?_)
  refine sY (yv_indexAddr (j := 2) rfl Tryz.underlying117 sh116 rfl rfl rfl (.list rfl)) ?_
  refine tr tbk 1 (.mk ?_)
  refine sA 12 z116 fun v28 => ?_
  refine sS ⟨116, 2, true, true, v28, [[.pt 9 v20 0 2, .sl 8 w1_3 0 y1_6.length]]⟩ sh116 ?_
  refine tr tbk 5 (.mk ?_)
  obtain ⟨x29, e29, h1⟩ := bind_e h1
  refine sY (yv_callT (v := .tup [int x29.1, int x29.2]) rfl rfl (.cons rfl .nil) cal34 (.cons (cv_lst rfl rfl rfl rfl rfl (Eq.symm rfl)) .nil) (d_money_Sum_c e29) rfl) ?_
  refine tr tbk 10 (.mk ?_)
  refine nb tbk h1 fun x30 h1 => ?_
  refine tr tbk 1 (.mk ?_)
  replace h1 := asrt_e h1
  obtain ⟨rfl, h1⟩ := h1
  refine tc tbk 7 (.mk ?_)
  refine sS ⟨42, 3, true, true, v20, [[int x23.1, int x26.1, int x29.1]]⟩ sh3 ?_
  refine tr tbk 3 (.mk ?_)
  refine sY (yv_add (r := 3) rfl rfl rfl (by decide)) ?_
  refine tr tbk 5 (.mk ?_)
  refine sY (yv_to (y := boo false) (yv_lss rfl rfl rfl) (congrArg boo (by decide))) ?_
  refine tr tbk 4 (.mk ?_)
  exact lf h1 () leA
  rintro y2_1 _ h0
  refine tc tbk 3 (.mk ?_)
  refine sS ⟨42, 3, true, true, v2, [[int y2_1.Qty, int y2_1.Value, int y2_1.Profit]]⟩ sh42 ?_
  refine tr tbk 2 (.mk ?_)
  obtain rfl := nxt_e h0
  refine wR hret (rC sh42 (rT .nil)) ?_
  exact .refl _
def d_fifo_steady_L0 (a1 : List GLayer) : Nat → Int → (List Int) → Option ((List Int))
  | 0, _, _ => none
  | n + 1, y0_2, y0_3 =>
    bnd (decide (y0_2 < (a1.length : Int))) fun x4 =>
    cond x4 ((ix a1 y0_2).bind fun x5 =>
    bnd (w64 (0 - x5.Profit)) fun x7 =>
    bnd (if x7 > x5.Profit then x7 else x5.Profit) fun x8 =>
    bnd (y0_3 ++ ([x8] : List Int)) fun x9 =>
    asrt (x9.length ≤ 68719476736) <|
    bnd (w64 (y0_2 + 1)) fun x12 =>
    d_fifo_steady_L0 a1 n (x12 : Int) (x9 : List Int)) (some (y0_3 : List Int))
def d_fifo_steady (n : Nat) (a1 : List GLayer) : Option (Bool) :=
(show Option ((List Int)) from
d_fifo_steady_L0 a1 n (0 : Int) (([] : List Int) : List Int)).bind <| fun y1_2 =>
(d_money_Sum n y1_2).bind fun x13 =>
bnd (decide (x13.2 = 0)) fun x14 =>
some ((x14 : Bool))
theorem d_fifo_steady_c {n : Nat} {a1 : List GLayer} {r : Bool} (h0 : d_fifo_steady n a1 = some r) : PP Tryz.prog 196 [lst 3 GLayer.av a1] (fun y => y = boo r) := by
  unfold d_fifo_steady at h0
  refine pp_of_pc (R0 := fun y H => Cv (frzH H) y (boo r)) ?_ (fun y H hc => ⟨_, rfl, pvB r, hc⟩)
  refine pcw (c := _) Tryz.func196 rfl rfl ?_; intro Q hret hnorm
  refine tc tbk 12 (.mk ?_)
  refine sY (yv_len_sl rfl Tryz.underlying71 rfl (lst_len _)) ?_
  refine tr tbk 2 (.mk ?_)
  refine jn h0 [2] [] (fun (a : (List Int)) (k : Nat) => [(3, .sl 3 k 0 a.length)]) (fun a k => [(3, ⟨3, 1, true, true, k, a.map fI⟩)]) ⟨fun j2 h1 => ?_, ?_⟩
  refine tc tbk 1 (.mk ?_)
  refine c_nilobj 3 3 3 1 rfl rfl ?_; intro v3
  refine lp (fun n (a : Int × (List Int)) => d_fifo_steady_L0 a1 n a.1 a.2) ((0 : Int), (([] : List Int) : List Int)) v3 h1 [2, 8, 9] [] (fun (a : Int × (List Int)) (k : Nat) => [(3, .sl 3 k 0 a.2.length), (10, int a.1)]) (fun a k => [(3, ⟨3, 1, true, true, k, a.2.map fI⟩)]) (fun _ => rfl) ⟨leA, ?_⟩
  rintro n ⟨y0_2, y0_3⟩ w0_1 hm h1
  replace h1 : d_fifo_steady_L0 a1 (n + 1) y0_2 y0_3 = some _ := h1
  rw [d_fifo_steady_L0] at h1
  refine tc tbk 2 (.mk ?_)
  refine nb tbk h1 fun x4 h1 => ?_
  refine tr tbk 2 (.mk ?_)
  cases x4
  replace h1 := cf h1
  refine tc tbk 2 (.mk ?_)
  exact lf h1 w0_1 leA
  replace h1 := ct h1
  refine tc tbk 6 (.mk ?_)
  obtain ⟨x5, e5, h1⟩ := bind_e h1
  refine sY (yv_ixT rfl Tryz.underlying71 sh42 rfl rfl e5) ?_
  refine tr tbk 1 (.mk ?_)
  refine sA 1 z42 fun v6 => ?_
  refine sS ⟨42, 3, true, true, v6, [[int x5.Qty, int x5.Value, int x5.Profit]]⟩ sh42 ?_
  refine tr tbk 7 (.mk ?_)
  refine ni tbk h1 fun x7 h1 => ?_
  obtain ⟨x8, e8, h1⟩ := bnd_e h1
  refine sY (yv_max rfl rfl rfl e8) ?_
  refine sY (yv_to (y := lst 1 fI ([x8] : List Int)) (yv_buildSlice (ps := [(0, _)]) (rows := [[int x8]]) rfl Tryz.underlying22 bz3 (.cons rfl .nil) (by kernel_rfl) rfl rfl rfl) rfl) ?_
  obtain ⟨x9, e9, h1⟩ := bnd_e h1
  obtain ⟨p10, h1⟩ := asrt_e h1
  refine rse rfl rfl rfl (yl_appT (g := fI) (l := y0_3) (m := ([x8] : List Int)) .any rfl Tryz.underlying22 bz3 by3 rfl rfl rfl rfl rfl rfl rfl rfl rfl rfl (Eq.symm rfl) (.refl _) (fun _ => rfl) e9 p10) ?_; rintro _ _ ⟨v11, -, rfl, rfl⟩
  refine tr tbk 4 (.mk ?_)
  refine ni tbk h1 fun x12 h1 => ?_
  refine tr tbk 2 (.mk ?_)
  exact bk (x12, x9) v11 h1 leA
  rintro y1_2 w1_1 h0
  refine tc tbk 3 (.mk ?_)
  obtain ⟨x13, e13, h0⟩ := bind_e h0
  refine sY (yv_callT (v := .tup [int x13.1, int x13.2]) rfl rfl (.cons rfl .nil) cal34 (.cons (cv_lst rfl rfl rfl rfl rfl (Eq.symm rfl)) .nil) (d_money_Sum_c e13) rfl) ?_
  refine tr tbk 9 (.mk ?_)
  refine nb tbk h0 fun x14 h0 => ?_
  refine tr tbk 2 (.mk ?_)
  obtain rfl := nxt_e h0
  refine wR hret (rT .nil) ?_
  exact .refl _
def d_fifo_Right_L0 (a1 : List GLayer) : Nat → Int → Option ((Unit) ⊕ ((Int)))
  | 0, _ => none
  | n + 1, y0_1 =>
    bnd (decide (y0_1 < (a1.length : Int))) fun x7 =>
    cond x7 ((ix a1 y0_1).bind fun x8 =>
    (d_fifo_wrong x8).bind fun x9 =>
    cond x9 (esc (some (y0_1 : Int))) (bnd (w64 (y0_1 + 1)) fun x10 =>
    d_fifo_Right_L0 a1 n (x10 : Int))) (brk ())
def d_fifo_Right (n : Nat) (a1 : List GLayer) : Option (Bool) :=
(show Option (Bool) from
bnd (decide ((a1.length : Int) > 30)) fun x3 =>
cond x3 (some (true : Bool)) ((show Option ((Bool)) from
(show Option ((Int)) from
(show Option ((Unit) ⊕ ((Int))) from
d_fifo_Right_L0 a1 n (0 : Int)).bind <| sel <| fun _ =>
some ((-1) : Int)).bind <| fun y3_1 =>
bnd (decide (y3_1 ≥ 0)) fun x12 =>
some (x12 : Bool)).bind <| fun y4_1 =>
some (y4_1 : Bool))).bind <| fun y5_1 =>
asrt (y5_1 = false) <|
(d_fifo_Total n a1).bind fun x13 =>
(show Option (Bool) from
bnd (decide (x13.2 = 0)) fun x16 =>
cond x16 ((d_fifo_steady n a1).bind fun x17 =>
some (x17 : Bool)) (some (false : Bool))).bind <| fun y6_1 =>
some ((y6_1 : Bool))
theorem d_fifo_Right_c {n : Nat} {a1 : List GLayer} {r : Bool} (h0 : d_fifo_Right n a1 = some r) : PP Tryz.prog 170 [lst 3 GLayer.av a1] (fun y => y = boo r) := by
  unfold d_fifo_Right at h0
  refine pp_of_pc (R0 := fun y H => Cv (frzH H) y (boo r)) ?_ (fun y H hc => ⟨_, rfl, pvB r, hc⟩)
  refine pcw (c := _) Tryz.func170 rfl rfl ?_; intro Q hret hnorm
  refine tc tbk 6 (.mk ?_)
  refine jn h0 [0, 2] [] (fun (a : Bool) (k : Unit) => [(11, boo a)]) (fun a k => []) ⟨fun j2 h1 => ?_, ?_⟩
  refine tc tbk 2 (.mk ?_)
  refine sY (yv_len_sl rfl Tryz.underlying71 rfl (lst_len _)) ?_
  refine nb tbk h1 fun x3 h1 => ?_
  refine tr tbk 1 (.mk ?_)
  cases x3
  replace h1 := cf h1
  refine tr tbk 1 (.mk ?_)
  obtain ⟨j4, h2, h1⟩ := bind_e h1
  refine rse (Out := fun y H' => (∃ (a : Bool) (k : Unit), a = j4 ∧ y = boo a ∧ H' = hk [])) rfl rfl rfl (yl_call rfl rfl (.cons rfl (.cons rfl .nil)) cal194 ?_) ?_
  refine pcw (c := _) Tryz.func194 rfl rfl ?_; intro Q hret hnorm
  refine tc tbk 8 (.mk ?_)
  obtain ⟨j5, h3, h2⟩ := bind_e h2
  refine rse (Out := fun y H' => (∃ (a : Int) (k : Unit), a = j5 ∧ y = int a ∧ H' = hk [])) rfl rfl rfl (yl_call rfl rfl (.cons rfl (.cons rfl .nil)) cal207 ?_) ?_
  refine pcw (c := _) Tryz.func207 rfl rfl ?_; intro Q hret hnorm
  refine tc tbk 8 (.mk ?_)
  refine sY (yv_len_sl rfl Tryz.underlying71 rfl (lst_len _)) ?_
  refine tr tbk 2 (.mk ?_)
  refine jnE h3 [4] [] (fun (a : Unit) (k : Unit) => []) (fun a k => []) ⟨fun j6 h4 h3 => ?_, ?_⟩
  refine tc tbk 1 (.mk ?_)
  refine lp (fun n (a : Int) => d_fifo_Right_L0 a1 n a) (0 : Int) () h4 [0, 1, 4, 7] [] (fun (a : Int) (k : Unit) => [(8, int a)]) (fun a k => []) (fun _ => rfl) ⟨leA, ?_⟩
  rintro n y0_1 _ hm h4
  replace h4 : d_fifo_Right_L0 a1 (n + 1) y0_1 = some _ := h4
  rw [d_fifo_Right_L0] at h4
  refine tc tbk 2 (.mk ?_)
  refine nb tbk h4 fun x7 h4 => ?_
  refine tr tbk 2 (.mk ?_)
  cases x7
  replace h4 := cf h4
  refine tc tbk 2 (.mk ?_)
  exact lfE h4 () leA
  replace h4 := ct h4
  refine tc tbk 14 (.mk ?_)
  obtain ⟨x8, e8, h4⟩ := bind_e h4
  refine sY (yv_ixT rfl Tryz.underlying71 sh42 rfl rfl e8) ?_
  refine tr tbk 1 (.mk ?_)
  obtain ⟨x9, e9, h4⟩ := bind_e h4
  refine sC cal195 (d_fifo_wrong_c e9) ?_
  refine tr tbk 1 (.mk ?_)
  cases x9
  replace h4 := cf h4
  refine tc tbk 4 (.mk ?_)
  refine ni tbk h4 fun x10 h4 => ?_
  refine tr tbk 2 (.mk ?_)
  exact bk x10 () h4 leA
  replace h4 := ct h4
  refine tc tbk 6 (.mk ?_)
  obtain ⟨c11, hX, hj⟩ := esc_e h4; subst hj; replace h3 := hX.trans (sel_r h3)
  obtain rfl := nxt_e h3
  refine w_ret (hret _ _ (hk []) (.tmp rfl .nil) (fun _ _ h => nomatch h) ?_)
  exact ⟨y0_1, (), rfl, rfl, rfl⟩
  rintro _ _ h3
  refine tc tbk 4 (.mk ?_)
  obtain rfl := nxt_e h3
  refine w_ret (hret _ _ (hk []) (.tmp rfl .nil) (fun _ _ h => nomatch h) ?_)
  exact ⟨(-1), (), rfl, rfl, rfl⟩
  rintro y _ ⟨y3_1, _, rfl, hc, rfl⟩
  subst hc
  refine nb tbk h2 fun x12 h2 => ?_
  refine tr tbk 2 (.mk ?_)
  obtain rfl := nxt_e h2
  refine w_ret (hret _ _ (hk []) (.tmp rfl .nil) (fun _ _ h => nomatch h) ?_)
  exact ⟨x12, (), rfl, rfl, rfl⟩
  rintro y _ ⟨y4_1, _, rfl, hc, rfl⟩
  subst hc
  refine tr tbk 2 (.mk ?_)
  exact lf h1 () leA
  replace h1 := ct h1
  refine tr tbk 4 (.mk ?_)
  exact lf h1 () leA
  rintro y5_1 _ h0
  replace h0 := asrt_e h0
  obtain ⟨rfl, h0⟩ := h0
  refine tc tbk 5 (.mk ?_)
  obtain ⟨x13, e13, h0⟩ := bind_e h0
  refine sC cal32 (d_fifo_Total_c e13) ?_
  refine tr tbk 3 (.mk ?_)
  refine sA 1 z42 fun v14 => ?_
  refine sS ⟨42, 3, true, true, v14, [[int x13.1.Qty, int x13.1.Value, int x13.1.Profit]]⟩ sh42 ?_
  refine tr tbk 3 (.mk ?_)
  refine jn h0 [] [] (fun (a : Bool) (k : Unit) => [(2, boo a)]) (fun a k => []) ⟨fun j15 h1 => ?_, ?_⟩
  refine tc tbk 2 (.mk ?_)
  refine nb tbk h1 fun x16 h1 => ?_
  refine tr tbk 1 (.mk ?_)
  cases x16
  replace h1 := cf h1
  refine tr tbk 5 (.mk ?_)
  exact lf h1 () leA
  replace h1 := ct h1
  refine tr tbk 1 (.mk ?_)
  obtain ⟨x17, e17, h1⟩ := bind_e h1
  refine sC cal196 (d_fifo_steady_c e17) ?_
  refine tr tbk 3 (.mk ?_)
  exact lf h1 () leA
  rintro y6_1 _ h0
  obtain rfl := nxt_e h0
  refine wR hret (rT .nil) ?_
  exact .refl _
def d_fifo_In (n : Nat) (a1 : List GLayer) (a2 : GLayer) : Option ((List GLayer) × Int) :=
asrt (a1.length ≤ 68719476736) <|
(show Option (Bool) from
bnd (decide (a2.Qty < 1)) fun x7 =>
cond x7 (some (true : Bool)) (bnd (decide (a2.Value < 0)) fun x8 =>
some (x8 : Bool))).bind <| fun y0_1 =>
asrt (y0_1 = false) <|
bnd (decide ((a1.length : Int) ≥ 30)) fun x9 =>
cond x9 (some ((a1 : List GLayer), (6 : Int))) (asrt (a1.length ≤ 68719476736) <|
bnd (a1 ++ ([a2] : List GLayer)) fun x12 =>
asrt (x12.length ≤ 68719476736) <|
(d_fifo_Right n x12).bind fun x15 =>
bnd (!x15) fun x16 =>
asrt (x16 = false) <|
some ((x12 : List GLayer), (0 : Int)))
theorem d_fifo_In_c {n : Nat} {a1 : List GLayer} {a2 : GLayer} {r : (List GLayer) × Int} (h0 : d_fifo_In n a1 a2 = some r) : PP Tryz.prog 173 [lst 3 GLayer.av a1, .agg (GLayer.av a2)] (fun y => y = .tup [lst 3 GLayer.av r.1, int r.2]) := by
  unfold d_fifo_In at h0
  refine pp_of_pc (R0 := fun y H => Cv (frzH H) y (.tup [lst 3 GLayer.av r.1, int r.2])) ?_ (fun y H hc => ⟨_, rfl, .tup (pvl2 ((pvLs GLayer.pvc) (r.1)) (pvI (r.2))), hc⟩)
  refine pcw (c := _) Tryz.func173 rfl rfl ?_; intro Q hret hnorm
  refine tc tbk 2 (.mk ?_)
  refine sB 1 fun v3 => ?_
  refine tr tbk 6 (.mk ?_)
  obtain ⟨p4, h0⟩ := asrt_e h0
  refine rse rfl rfl rfl (yl_call rfl rfl (.cons rfl .nil) cal63 (pc_cv (clone63_c (id := 2) (l := a1) rfl p4) (.cons (.refl _) .nil))) ?_; rintro _ _ ⟨v5, rfl, rfl⟩
  refine tr tbk 5 (.mk ?_)
  refine jn h0 [0, 3, 4, 5] [1, 2] (fun (a : Bool) (k : Unit) => [(9, boo a)]) (fun a k => []) ⟨fun j6 h1 => ?_, ?_⟩
  refine tc tbk 3 (.mk ?_)
  refine nb tbk h1 fun x7 h1 => ?_
  refine tr tbk 1 (.mk ?_)
  cases x7
  replace h1 := cf h1
  refine tr tbk 2 (.mk ?_)
  refine nb tbk h1 fun x8 h1 => ?_
  refine tr tbk 3 (.mk ?_)
  exact lf h1 () leA
  replace h1 := ct h1
  refine tr tbk 6 (.mk ?_)
  exact lf h1 () leA
  rintro y0_1 _ h0
  replace h0 := asrt_e h0
  obtain ⟨rfl, h0⟩ := h0
  refine tc tbk 4 (.mk ?_)
  refine sY (yv_len_sl rfl Tryz.underlying71 rfl (.sl rfl rfl)) ?_
  refine nb tbk h0 fun x9 h0 => ?_
  refine tr tbk 2 (.mk ?_)
  cases x9
  replace h0 := cf h0
  refine tc tbk 4 (.mk ?_)
  refine c_drawE [0, 1, 0, 4, 15, 31] (rl [(2, [1])] []) (rl [(4, [])] [1]) (rl [(1, false), (4, false)] true) [0, 2, 3, 1, 4, 5] mixed (by kernel_rfl) ?_; intro K hK
  refine eM ?_
  refine eL sh42 ?_
  refine eP (fun H hH => yv_to (y := lst 3 GLayer.av ([a2] : List GLayer)) (yv_buildSlice (ps := [(0, _)]) (rows := [[int a2.Qty, int a2.Value, int a2.Profit]]) rfl Tryz.underlying71 bz42 (.cons rfl .nil) (by kernel_rfl) rfl rfl rfl) rfl) ?_
  obtain ⟨p10, h0⟩ := asrt_e h0
  refine de_eff rfl rfl rfl rfl (Yield.frz 2 rfl (yl_call rfl rfl (.cons rfl .nil) cal63 (pc_cv (clone63_c (id := 3) (l := a1) rfl p10) (.cons (cv_lst rfl rfl rfl rfl rfl (Eq.symm rfl)) .nil)))) (by rintro _ _ ⟨v11, rfl, rfl⟩; exact ⟨rfl, trivial⟩) ?_; rintro _ _ ⟨v11, rfl, rfl⟩
  obtain ⟨x12, e12, h0⟩ := bnd_e h0
  obtain ⟨p13, h0⟩ := asrt_e h0
  refine de_eff rfl rfl rfl rfl (yl_appT (g := GLayer.av) (l := a1) (m := ([a2] : List GLayer)) .any rfl Tryz.underlying71 bz42 by42 rfl rfl rfl rfl rfl rfl rfl rfl rfl rfl (Eq.symm rfl) (.refl _) (fun _ => rfl) e12 p13) (by rintro _ _ ⟨v14, -, rfl, rfl⟩; exact trivial) ?_; rintro _ _ ⟨v14, -, rfl, rfl⟩
  refine eA ?_
  refine de_nil (hK _ ?_)
  refine tc tbk 4 (.mk ?_)
  obtain ⟨x15, e15, h0⟩ := bind_e h0
  refine sY (yv_callT (v := boo x15) rfl rfl (.cons rfl .nil) cal170 (.cons (cv_lst rfl rfl rfl rfl rfl (Eq.symm rfl)) .nil) (d_fifo_Right_c e15) rfl) ?_
  refine nb tbk h0 fun x16 h0 => ?_
  refine tr tbk 1 (.mk ?_)
  replace h0 := asrt_e h0
  obtain ⟨rfl, h0⟩ := h0
  refine tc tbk 8 (.mk ?_)
  obtain rfl := nxt_e h0
  refine wR hret (rT (rT .nil)) ?_
  exact CvL.tup (.cons (cv_lst rfl rfl rfl rfl rfl (Eq.symm rfl)) (.cons (.refl _) .nil))
  replace h0 := ct h0
  refine tc tbk 7 (.mk ?_)
  obtain rfl := nxt_e h0
  refine wR hret (rT (rT .nil)) ?_
  exact CvL.tup (.cons (cv_lst rfl rfl rfl rfl rfl (Eq.symm rfl)) (.cons (.refl _) .nil))
def d_pool_In (n : Nat) (a1 : Int) (a2 : Int) (a3 : GPool) (a4 : GLayer) : Option (GPool × Int × Int) :=
(show Option ((Unit) ⊕ (Unit)) from
bnd (decide (a1 = 1)) fun x9 =>
cond x9 (some (.inr ())) (bnd (decide (a1 = 2)) fun x10 =>
asrt (x10 = false) <|
bnd (decide (a1 = 3)) fun x11 =>
asrt (x11 = false) <|
bnd (decide (a1 = 4)) fun x12 =>
asrt (x12 = false) <|
some (.inl ()))).bind <| selr (fun _ =>
(d_pool_own a3).bind fun x13 =>
some ((x13 : GPool), (0 : Int), (12 : Int))) <| fun _ =>
(show Option ((GPool × Int)) from
(d_fifo_In n a3.Layers a4).bind fun x19 =>
(d_pool_with a3 x19.1).bind fun x20 =>
some ((x20 : GPool), (x19.2 : Int))).bind <| p2 fun (y3_1 : GPool) (y3_2 : Int) =>
bnd (decide (y3_2 ≠ 0)) fun x22 =>
cond x22 ((d_pool_own a3).bind fun x23 =>
some ((x23 : GPool), (0 : Int), (y3_2 : Int))) (some ((y3_1 : GPool), (0 : Int), (0 : Int)))
theorem d_pool_In_c {n : Nat} {a1 : Int} {a2 : Int} {a3 : GPool} {a4 : GLayer} {r : GPool × Int × Int} (h0 : d_pool_In n a1 a2 a3 a4 = some r) : PP Tryz.prog 144 [int a1, int a2, .agg (GPool.av a3), .agg (GLayer.av a4)] (fun y => y = .tup [.agg (GPool.av r.1), int r.2.1, int r.2.2]) := by
  unfold d_pool_In at h0
  refine pp_of_pc (R0 := fun y H => Cv (frzH H) y (.tup [.agg (GPool.av r.1), int r.2.1, int r.2.2])) ?_ (fun y H hc => ⟨_, rfl, .tup (pvl3 ((fun (a : GPool) => PV.agg (GPool.pvc a)) (r.1)) (pvI (r.2.1)) (pvI (r.2.2))), hc⟩)
  refine pcw (c := _) Tryz.func144 rfl rfl ?_; intro Q hret hnorm
  refine tc tbk 2 (.mk ?_)
  refine sB 1 fun v5 => ?_
  refine sB 2 fun v6 => ?_
  refine sA 3 z74 fun v7 => ?_
  refine tr tbk 7 (.mk ?_)
  obtain ⟨j8, h1, h0⟩ := bind_e h0
  refine rse (Out := fun y H' => (∃ (a : Unit) (k : Unit), (.inl a) = j8 ∧ y = .sc .nilIface ∧ H' = hk [(1, ⟨74, 4, true, true, v5, [[lst 3 GLayer.av a3.Layers, int a3.Pend.a0, int a3.Pend.a1, int a3.Pend.a2]]⟩), (2, ⟨42, 3, true, true, v6, [[int a4.Qty, int a4.Value, int a4.Profit]]⟩), (3, ⟨74, 4, true, true, v7, [[.sc (.slice none 0 0), int 0, int 0, int 0]]⟩)]) ∨ (∃ (a : Unit) (k : Unit), (.inr a) = j8 ∧ y = .ifc 249 (.agg []) ∧ H' = hk [(1, ⟨74, 4, true, true, v5, [[lst 3 GLayer.av a3.Layers, int a3.Pend.a0, int a3.Pend.a1, int a3.Pend.a2]]⟩), (2, ⟨42, 3, true, true, v6, [[int a4.Qty, int a4.Value, int a4.Profit]]⟩), (3, ⟨74, 4, true, true, v7, [[.sc (.slice none 0 0), int 0, int 0, int 0]]⟩)])) rfl rfl rfl (yl_call rfl rfl (.cons rfl (.cons rfl .nil)) cal169 ?_) ?_
  refine pcw (c := _) Tryz.func169 rfl rfl ?_; intro Q hret hnorm
  refine tc tbk 12 (.mk ?_)
  refine nb tbk h1 fun x9 h1 => ?_
  refine tr tbk 2 (.mk ?_)
  cases x9
  replace h1 := cf h1
  refine tc tbk 3 (.mk ?_)
  refine nb tbk h1 fun x10 h1 => ?_
  refine tr tbk 2 (.mk ?_)
  replace h1 := asrt_e h1
  obtain ⟨rfl, h1⟩ := h1
  refine tc tbk 3 (.mk ?_)
  refine nb tbk h1 fun x11 h1 => ?_
  refine tr tbk 2 (.mk ?_)
  replace h1 := asrt_e h1
  obtain ⟨rfl, h1⟩ := h1
  refine tc tbk 3 (.mk ?_)
  refine nb tbk h1 fun x12 h1 => ?_
  refine tr tbk 2 (.mk ?_)
  replace h1 := asrt_e h1
  obtain ⟨rfl, h1⟩ := h1
  refine tc tbk 7 (.mk ?_)
  obtain rfl := nxt_e h1
  refine w_ret (hret _ _ (hk [(1, ⟨74, 4, true, true, v5, [[lst 3 GLayer.av a3.Layers, int a3.Pend.a0, int a3.Pend.a1, int a3.Pend.a2]]⟩), (2, ⟨42, 3, true, true, v6, [[int a4.Qty, int a4.Value, int a4.Profit]]⟩), (3, ⟨74, 4, true, true, v7, [[.sc (.slice none 0 0), int 0, int 0, int 0]]⟩)]) (.tmp rfl .nil) (HK.le ⟨rfl, rfl, rfl, trivial⟩) ?_)
  exact (.inl ⟨(), (), rfl, rfl, rfl⟩)
  replace h1 := ct h1
  refine tc tbk 4 (.mk ?_)
  refine sY (yv_makeIface rfl Tryz.underlying249 (by intro _ h; cases h) rfl) ?_
  refine tr tbk 2 (.mk ?_)
  obtain rfl := nxt_e h1
  refine w_ret (hret _ _ (hk [(1, ⟨74, 4, true, true, v5, [[lst 3 GLayer.av a3.Layers, int a3.Pend.a0, int a3.Pend.a1, int a3.Pend.a2]]⟩), (2, ⟨42, 3, true, true, v6, [[int a4.Qty, int a4.Value, int a4.Profit]]⟩), (3, ⟨74, 4, true, true, v7, [[.sc (.slice none 0 0), int 0, int 0, int 0]]⟩)]) (.tmp rfl .nil) (HK.le ⟨rfl, rfl, rfl, trivial⟩) ?_)
  exact (.inr ⟨(), (), rfl, rfl, rfl⟩)
  rintro y _ (⟨_, _, rfl, hc, rfl⟩ | ⟨_, _, rfl, hc, rfl⟩)
  replace h0 := selr_l h0
  subst hc
  refine tr tbk 6 (.mk ?_)
  refine sY (yv_ifeqN rfl Tryz.underlying228 rfl rfl) ?_
  refine tr tbk 5 (.mk ?_)
  obtain ⟨x13, e13, h0⟩ := bind_e h0
  refine sC cal184 (d_pool_own_c e13) ?_
  refine sS ⟨74, 4, true, true, v7, [[lst 3 GLayer.av x13.Layers, int x13.Pend.a0, int x13.Pend.a1, int x13.Pend.a2]]⟩ sh74 ?_
  refine tr tbk 3 (.mk ?_)
  obtain rfl := nxt_e h0
  refine wR hret (rC sh74 (rT (rT .nil))) ?_
  exact .refl _
  replace h0 := selr_r h0
  subst hc
  refine tr tbk 6 (.mk ?_)
  refine sY (yv_ifeq rfl Tryz.underlying228 rfl rfl) ?_
  refine tr tbk 8 (.mk ?_)
  obtain ⟨j14, h1, h0⟩ := bind_e h0
  refine rse (Out := fun y H' => (∃ (a : GPool × Int) (k : Unit), a = j14 ∧ y = .tup [.agg [lst 3 GLayer.av a.1.Layers, int a.1.Pend.a0, int a.1.Pend.a1, int a.1.Pend.a2], int 0, int a.2] ∧ H' = hk [(1, ⟨74, 4, true, true, v5, [[lst 3 GLayer.av a3.Layers, int a3.Pend.a0, int a3.Pend.a1, int a3.Pend.a2]]⟩), (2, ⟨42, 3, true, true, v6, [[int a4.Qty, int a4.Value, int a4.Profit]]⟩), (3, ⟨74, 4, true, true, v7, [[.sc (.slice none 0 0), int 0, int 0, int 0]]⟩)])) rfl rfl rfl (yl_callI rfl rfl mth249_233 (.cons rfl (.cons rfl .nil)) cal233 ?_) ?_
  refine pcw (c := _) Tryz.func233 rfl rfl ?_; intro Q hret hnorm
  refine tc tbk 2 (.mk ?_)
  refine sB 9 fun v15 => ?_
  refine sB 10 fun v16 => ?_
  refine sB 11 fun v17 => ?_
  refine sA 12 z74 fun v18 => ?_
  refine tr tbk 8 (.mk ?_)
  obtain ⟨x19, e19, h1⟩ := bind_e h1
  refine sC cal173 (d_fifo_In_c e19) ?_
  refine tr tbk 10 (.mk ?_)
  obtain ⟨x20, e20, h1⟩ := bind_e h1
  refine sC cal202 (d_pool_with_c e20) ?_
  refine tr tbk 1 (.mk ?_)
  refine sS ⟨74, 4, true, true, v18, [[lst 3 GLayer.av x20.Layers, int x20.Pend.a0, int x20.Pend.a1, int x20.Pend.a2]]⟩ sh74 ?_
  refine tr tbk 3 (.mk ?_)
  obtain rfl := nxt_e h1
  refine w_ret (hret _ _ (hk [(1, ⟨74, 4, true, true, v5, [[lst 3 GLayer.av a3.Layers, int a3.Pend.a0, int a3.Pend.a1, int a3.Pend.a2]]⟩), (2, ⟨42, 3, true, true, v6, [[int a4.Qty, int a4.Value, int a4.Profit]]⟩), (3, ⟨74, 4, true, true, v7, [[.sc (.slice none 0 0), int 0, int 0, int 0]]⟩)]) (.cell rfl (.pt rfl rfl rfl) sh74 rfl (.tmp rfl (.tmp rfl .nil))) (HK.le ⟨rfl, rfl, rfl, trivial⟩) ?_)
  exact ⟨(x20, x19.2), (), rfl, rfl, rfl⟩
  rintro y _ ⟨⟨y3_1, y3_2⟩, _, rfl, hc, rfl⟩
  replace h0 := p2_e h0
  subst hc
  refine tr tbk 4 (.mk ?_)
  refine sA 8 z74 fun v21 => ?_
  refine sS ⟨74, 4, true, true, v21, [[lst 3 GLayer.av y3_1.Layers, int y3_1.Pend.a0, int y3_1.Pend.a1, int y3_1.Pend.a2]]⟩ sh74 ?_
  refine tr tbk 7 (.mk ?_)
  refine nb tbk h0 fun x22 h0 => ?_
  refine tr tbk 1 (.mk ?_)
  cases x22
  replace h0 := cf h0
  refine tc tbk 6 (.mk ?_)
  refine sS ⟨74, 4, true, true, v7, [[lst 3 GLayer.av y3_1.Layers, int y3_1.Pend.a0, int y3_1.Pend.a1, int y3_1.Pend.a2]]⟩ sh74 ?_
  refine tr tbk 3 (.mk ?_)
  obtain rfl := nxt_e h0
  refine wR hret (rC sh74 (rT (rT .nil))) ?_
  exact .refl _
  replace h0 := ct h0
  refine tc tbk 4 (.mk ?_)
  obtain ⟨x23, e23, h0⟩ := bind_e h0
  refine sC cal184 (d_pool_own_c e23) ?_
  refine tr tbk 1 (.mk ?_)
  refine sS ⟨74, 4, true, true, v7, [[lst 3 GLayer.av x23.Layers, int x23.Pend.a0, int x23.Pend.a1, int x23.Pend.a2]]⟩ sh74 ?_
  refine tr tbk 3 (.mk ?_)
  obtain rfl := nxt_e h0
  refine wR hret (rC sh74 (rT (rT .nil))) ?_
  exact .refl _
end Go.Pv
