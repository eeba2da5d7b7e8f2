/- The plain readings as trees. -/
import Derived.Test.YtpbcnilkippahaaK53c
import Derived.Test.YtpbcnilkippahaaPlT
set_option linter.unusedSimpArgs false
set_option linter.unusedVariables false
namespace Go.Pv
open Go.Proofs
set_option maxRecDepth 100000
set_option maxHeartbeats 4000000
@[reducible] def d_numD (v : Int) : Option (List UInt8) := numD v
@[reducible] def d_listD (v : List Int) : Option (List UInt8) := listD v
inductive An where
  | i (v : Int × Int × Int)
  | z (v : Int)
def An.gz : An → Option (Int)
  | .z v => some v
  | _ => none
def T_ixInt (l : List Int) (i : Int) : T An Int := T.opx An.z An.gz (ix l i)
theorem T_ixInt_ok (l : List Int) (i : Int) : (T_ixInt l i).run = ix l i := T.run_opx (f := An.z) (g := An.gz) (fun _ => rfl) _
def t_listD (v : List Int) : T An (List UInt8) := T.ofO (d_listD v)
theorem t_listD_ok (v : List Int) : (t_listD v).run = d_listD v := T.rPP _
def t_numD (v : Int) : T An (List UInt8) := T.ofO (d_numD v)
theorem t_numD_ok (v : Int) : (t_numD v).run = d_numD v := T.rPP _
def t_law00_Place (a1 : Int) (a2 : Int) : T An (Int) := T.opx An.z An.gz (d_law00_Place a1 a2)
theorem t_law00_Place_ok (a1 : Int) (a2 : Int) : (t_law00_Place a1 a2).run = d_law00_Place a1 a2 := T.run_opx (f := An.z) (g := An.gz) (fun _ => rfl) _
def t_ops_forms  : T An (A17_List_UInt8) :=
T.ret (((⟨([] : List UInt8), ([69, 73, 76, 81, 65] : List UInt8), ([81, 65, 82] : List UInt8), ([81, 82] : List UInt8), ([69, 73, 76, 81, 65] : List UInt8), ([81, 65, 82] : List UInt8), ([69, 73, 76, 81] : List UInt8), ([69, 73, 76, 81] : List UInt8), ([69, 73, 76, 84, 81] : List UInt8), ([69, 73, 65] : List UInt8), ([69, 73, 65] : List UInt8), ([84, 65, 83] : List UInt8), ([69, 73, 76, 84, 81, 65] : List UInt8), ([76, 81, 82] : List UInt8), ([69] : List UInt8), ([69] : List UInt8), ([69] : List UInt8)⟩ : A17_List_UInt8) : A17_List_UInt8))
theorem t_ops_forms_ok  : (t_ops_forms ).run = d_ops_forms  := by
  simp only [t_ops_forms, d_ops_forms, T.rs, T_ixInt_ok]
def t_internal_stringslite_IndexByte (a1 : List UInt8) (a2 : Int) : T An (Int) :=
T.bnd (ixB a1 a2) fun x3 =>
T.ret ((x3 : Int))
theorem t_internal_stringslite_IndexByte_ok (a1 : List UInt8) (a2 : Int) : (t_internal_stringslite_IndexByte a1 a2).run = d_internal_stringslite_IndexByte a1 a2 := by
  simp only [t_internal_stringslite_IndexByte, d_internal_stringslite_IndexByte, T.rs, T_ixInt_ok]
def t_strings_IndexByte (a1 : List UInt8) (a2 : Int) : T An (Int) :=
(t_internal_stringslite_IndexByte a1 a2).bind fun x3 =>
T.ret ((x3 : Int))
theorem t_strings_IndexByte_ok (a1 : List UInt8) (a2 : Int) : (t_strings_IndexByte a1 a2).run = d_strings_IndexByte a1 a2 := by
  simp only [t_strings_IndexByte, d_strings_IndexByte, T.rs, T_ixInt_ok, t_internal_stringslite_IndexByte_ok]
def t_ops_bounds (a1 : Int) (a2 : Int) : T An (Int × Int) :=
T.ask (decide (a2 = 69)) fun x3 =>
cond x3 (T.ret ((0 : Int), (3 : Int))) (T.ask (decide (a2 = 73)) fun x4 =>
cond x4 (T.ret ((0 : Int), (4 : Int))) (T.ask (decide (a2 = 76)) fun x5 =>
cond x5 (T.ret ((0 : Int), (1 : Int))) (T.ask (decide (a2 = 84)) fun x6 =>
cond x6 (T.ret ((0 : Int), ((lkI [(8, 1), (12, 3), (11, 2)] a1) : Int))) (T.ask (decide (a2 = 81)) fun x7 =>
cond x7 (T.ask (decide (a1 = 7)) fun x12 =>
cond x12 (T.ret ((0 : Int), (1073741824 : Int))) (T.ret ((1 : Int), (1073741824 : Int)))) (T.ask (decide (a2 = 65)) fun x8 =>
cond x8 ((show T An (Bool) from
T.ask (decide (a1 = 9)) fun x10 =>
cond x10 (T.ret true) (T.ask (decide (a1 = 10)) fun x11 =>
T.ret x11)).bind <| fun y0_1 =>
cond y0_1 (T.ret ((0 : Int), (1073741824 : Int))) (T.ret ((0 : Int), (1125899906842624 : Int)))) (T.ret ((0 : Int), (39 : Int))))))))
theorem t_ops_bounds_ok (a1 : Int) (a2 : Int) : (t_ops_bounds a1 a2).run = d_ops_bounds a1 a2 := by
  simp only [t_ops_bounds, d_ops_bounds, T.rs, T_ixInt_ok]
def t_ops_refs_L0 (a1 : List Int) : Nat → Int → (List Bool) → T An ((Unit) ⊕ (Bool))
  | 0, _, _ => T.fail
  | n + 1, y0_1, y0_2 =>
    T.ask (decide (y0_1 < (a1.length : Int))) fun x4 =>
    cond x4 ((T_ixInt a1 y0_1).bind fun x5 =>
    (show T An (Bool) from
    T.ask (decide (x5 < 0)) fun x7 =>
    cond x7 (T.ret true) (T.ask (decide (x5 ≥ 40)) fun x8 =>
    cond x8 (T.ret true) (T.asrt ((0 : Int) ≤ x5 ∧ x5 < (40 : Int)) <|
    (T.ix y0_2 x5).bind fun x10 =>
    T.ret x10))).bind <| fun y1_1 =>
    cond y1_1 (T.esc (T.ret (false))) (T.asrt ((0 : Int) ≤ x5 ∧ x5 < (40 : Int)) <|
    (T.ix y0_2 x5).bind fun x12 =>
    T.bnd (y0_2.set (Int.toNat x5) true) fun x13 =>
    T.wr (y0_1 + 1) fun x14 =>
    t_ops_refs_L0 a1 n (x14 : Int) x13)) (T.brk ())
theorem t_ops_refs_L0_ok (a1 : List Int) : ∀ (n : Nat) (z0 : Int) (z1 : (List Bool)), (t_ops_refs_L0 a1 n z0 z1).run = d_ops_refs_L0 a1 n z0 z1
  | 0, _, _ => rfl
  | n + 1, z0, z1 => by
    simp only [t_ops_refs_L0, d_ops_refs_L0, T.rs, T_ixInt_ok, t_ops_refs_L0_ok a1 n]
def t_ops_refs (n : Nat) (a1 : List Int) : T An (Bool) :=
(show T An ((Unit) ⊕ (Bool)) from
t_ops_refs_L0 a1 n (0 : Int) ((List.replicate 40 false) : List Bool)).bind <| T.sel <| fun _ =>
T.ask (decide ((a1.length : Int) > 0)) fun x16 =>
T.ret (x16)
theorem t_ops_refs_ok (n : Nat) (a1 : List Int) : (t_ops_refs n a1).run = d_ops_refs n a1 := by
  simp only [t_ops_refs, d_ops_refs, T.rs, T_ixInt_ok, t_ops_refs_L0_ok]
def t_ops_Check (n : Nat) (a1 : GOp) : T An (Bool) :=
(show T An (Bool) from
T.ask (decide (a1.Kind < 1)) fun x4 =>
cond x4 (T.ret true) (T.ask (decide (a1.Kind > 16)) fun x5 =>
T.ret x5)).bind <| fun y0_1 =>
cond y0_1 (T.ret (false)) (t_ops_forms.bind fun x6 =>
(T.ix ([x6.a0, x6.a1, x6.a2, x6.a3, x6.a4, x6.a5, x6.a6, x6.a7, x6.a8, x6.a9, x6.a10, x6.a11, x6.a12, x6.a13, x6.a14, x6.a15, x6.a16] : List (List UInt8)) a1.Kind).bind fun x7 =>
(show T An ((Bool)) from
(show T An ((Int)) from
(t_strings_IndexByte x7 69).bind fun x11 =>
T.ret (x11 : Int)).bind <| fun y1_1 =>
T.ask (decide (y1_1 ≥ 0)) fun x12 =>
T.ret x12).bind <| fun y2_1 =>
(show T An (Int × Int) from
cond y2_1 ((t_ops_bounds a1.Kind 69).bind fun x14 =>
T.ret ((x14.1 : Int), (x14.2 : Int))) (T.ret ((0 : Int), (0 : Int)))).bind <| p2 fun (y3_1 : Int) (y3_2 : Int) =>
(show T An ((Unit)) from
T.ret ()).bind <| fun _ =>
(show T An (Bool) from
T.ask (decide (a1.E < y3_1)) fun x17 =>
cond x17 (T.ret true) (T.ask (decide (a1.E > y3_2)) fun x18 =>
T.ret x18)).bind <| fun y5_1 =>
cond y5_1 (T.ret (false)) ((show T An ((Bool)) from
(show T An ((Int)) from
(t_strings_IndexByte x7 73).bind fun x21 =>
T.ret (x21 : Int)).bind <| fun y1_1 =>
T.ask (decide (y1_1 ≥ 0)) fun x22 =>
T.ret x22).bind <| fun y2_1_1 =>
(show T An (Int × Int) from
cond y2_1_1 ((t_ops_bounds a1.Kind 73).bind fun x24 =>
T.ret ((x24.1 : Int), (x24.2 : Int))) (T.ret ((0 : Int), (0 : Int)))).bind <| p2 fun (y3_1_1 : Int) (y3_2_1 : Int) =>
(show T An ((Unit)) from
T.ret ()).bind <| fun _ =>
(show T An (Bool) from
T.ask (decide (a1.Item < y3_1_1)) fun x27 =>
cond x27 (T.ret true) (T.ask (decide (a1.Item > y3_2_1)) fun x28 =>
T.ret x28)).bind <| fun y5_1_1 =>
cond y5_1_1 (T.ret (false)) ((show T An ((Bool)) from
(show T An ((Int)) from
(t_strings_IndexByte x7 76).bind fun x31 =>
T.ret (x31 : Int)).bind <| fun y1_1 =>
T.ask (decide (y1_1 ≥ 0)) fun x32 =>
T.ret x32).bind <| fun y2_1_2 =>
(show T An (Int × Int) from
cond y2_1_2 ((t_ops_bounds a1.Kind 76).bind fun x34 =>
T.ret ((x34.1 : Int), (x34.2 : Int))) (T.ret ((0 : Int), (0 : Int)))).bind <| p2 fun (y3_1_2 : Int) (y3_2_2 : Int) =>
(show T An ((Unit)) from
T.ret ()).bind <| fun _ =>
(show T An (Bool) from
T.ask (decide (a1.Loc < y3_1_2)) fun x37 =>
cond x37 (T.ret true) (T.ask (decide (a1.Loc > y3_2_2)) fun x38 =>
T.ret x38)).bind <| fun y5_1_2 =>
cond y5_1_2 (T.ret (false)) ((show T An ((Bool)) from
(show T An ((Int)) from
(t_strings_IndexByte x7 84).bind fun x41 =>
T.ret (x41 : Int)).bind <| fun y1_1 =>
T.ask (decide (y1_1 ≥ 0)) fun x42 =>
T.ret x42).bind <| fun y2_1_3 =>
(show T An (Int × Int) from
cond y2_1_3 ((t_ops_bounds a1.Kind 84).bind fun x44 =>
T.ret ((x44.1 : Int), (x44.2 : Int))) (T.ret ((0 : Int), (0 : Int)))).bind <| p2 fun (y3_1_3 : Int) (y3_2_3 : Int) =>
(show T An ((Unit)) from
T.ret ()).bind <| fun _ =>
(show T An (Bool) from
T.ask (decide (a1.To < y3_1_3)) fun x47 =>
cond x47 (T.ret true) (T.ask (decide (a1.To > y3_2_3)) fun x48 =>
T.ret x48)).bind <| fun y5_1_3 =>
cond y5_1_3 (T.ret (false)) ((show T An ((Bool)) from
(show T An ((Int)) from
(t_strings_IndexByte x7 81).bind fun x51 =>
T.ret (x51 : Int)).bind <| fun y1_1 =>
T.ask (decide (y1_1 ≥ 0)) fun x52 =>
T.ret x52).bind <| fun y2_1_4 =>
(show T An (Int × Int) from
cond y2_1_4 ((t_ops_bounds a1.Kind 81).bind fun x54 =>
T.ret ((x54.1 : Int), (x54.2 : Int))) (T.ret ((0 : Int), (0 : Int)))).bind <| p2 fun (y3_1_4 : Int) (y3_2_4 : Int) =>
(show T An ((Unit)) from
T.ret ()).bind <| fun _ =>
(show T An (Bool) from
T.ask (decide (a1.Qty < y3_1_4)) fun x57 =>
cond x57 (T.ret true) (T.ask (decide (a1.Qty > y3_2_4)) fun x58 =>
T.ret x58)).bind <| fun y5_1_4 =>
cond y5_1_4 (T.ret (false)) ((show T An ((Bool)) from
(show T An ((Int)) from
(t_strings_IndexByte x7 65).bind fun x61 =>
T.ret (x61 : Int)).bind <| fun y1_1 =>
T.ask (decide (y1_1 ≥ 0)) fun x62 =>
T.ret x62).bind <| fun y2_1_5 =>
(show T An (Int × Int) from
cond y2_1_5 ((t_ops_bounds a1.Kind 65).bind fun x64 =>
T.ret ((x64.1 : Int), (x64.2 : Int))) (T.ret ((0 : Int), (0 : Int)))).bind <| p2 fun (y3_1_5 : Int) (y3_2_5 : Int) =>
(show T An ((Unit)) from
T.ret ()).bind <| fun _ =>
(show T An (Bool) from
T.ask (decide (a1.Amount < y3_1_5)) fun x67 =>
cond x67 (T.ret true) (T.ask (decide (a1.Amount > y3_2_5)) fun x68 =>
T.ret x68)).bind <| fun y5_1_5 =>
cond y5_1_5 (T.ret (false)) ((show T An ((Bool)) from
(show T An ((Int)) from
(t_strings_IndexByte x7 82).bind fun x71 =>
T.ret (x71 : Int)).bind <| fun y1_1 =>
T.ask (decide (y1_1 ≥ 0)) fun x72 =>
T.ret x72).bind <| fun y2_1_6 =>
(show T An (Int × Int) from
cond y2_1_6 ((t_ops_bounds a1.Kind 82).bind fun x74 =>
T.ret ((x74.1 : Int), (x74.2 : Int))) (T.ret ((0 : Int), (0 : Int)))).bind <| p2 fun (y3_1_6 : Int) (y3_2_6 : Int) =>
(show T An ((Unit)) from
T.ret ()).bind <| fun _ =>
(show T An (Bool) from
T.ask (decide (a1.Ref < y3_1_6)) fun x77 =>
cond x77 (T.ret true) (T.ask (decide (a1.Ref > y3_2_6)) fun x78 =>
T.ret x78)).bind <| fun y5_1_6 =>
cond y5_1_6 (T.ret (false)) (T.ask (decide (a1.Kind = 11)) fun x79 =>
cond x79 ((t_ops_refs n a1.Refs).bind fun x91 =>
T.ret (x91)) ((show T An (Bool) from
T.ask (decide ((a1.Refs.length : Int) = 0)) fun x81 =>
cond x81 (T.ask (decide (a1.Kind = 8)) fun x82 =>
cond x82 (T.ask (decide (a1.To = a1.Loc)) fun x86 =>
T.bnd (!x86) fun x87 =>
cond x87 (T.ask (decide (a1.Kind = 12)) fun x88 =>
cond x88 (T.ask (decide (a1.To = a1.E)) fun x89 =>
T.bnd (!x89) fun x90 =>
T.ret x90) (T.ret true)) (T.ret false)) (T.ask (decide (a1.Kind = 12)) fun x83 =>
cond x83 (T.ask (decide (a1.To = a1.E)) fun x84 =>
T.bnd (!x84) fun x85 =>
T.ret x85) (T.ret true))) (T.ret false)).bind <| fun y6_1 =>
T.ret (y6_1))))))))))
theorem t_ops_Check_ok (n : Nat) (a1 : GOp) : (t_ops_Check n a1).run = d_ops_Check n a1 := by
  simp only [t_ops_Check, d_ops_Check, T.rs, T_ixInt_ok, t_ops_bounds_ok, t_ops_forms_ok, t_ops_refs_ok, t_strings_IndexByte_ok]
def t_ops_Bytes_L0 (a1 : List GOp) : Nat → Int → (List UInt8) → T An (((List UInt8)) ⊕ ((List UInt8)))
  | 0, _, _ => T.fail
  | n + 1, y0_1, y0_3 =>
    T.ask (decide (y0_1 < (a1.length : Int))) fun x8 =>
    cond x8 ((show T An (((List UInt8)) ⊕ (((List UInt8)) ⊕ ((List UInt8)))) from
    (T.ix a1 y0_1).bind fun x10 =>
    (t_ops_Check n x10).bind fun x12 =>
    T.bnd (!x12) fun x13 =>
    cond x13 (T.esc (T.esc (T.ret ((([] : List UInt8) : List UInt8))))) ((t_numD x10.Kind).bind fun x14 =>
    T.asrt (x14.length ≤ 1099511627776) <|
    T.asrt (y0_3.length ≤ 1099511627776) <|
    T.bnd (y0_3 ++ x14) fun x18 =>
    T.ask (decide (x10.Kind = 0)) fun x19 =>
    cond x19 (T.brk x18) (T.ask (decide (x10.Kind = 1)) fun x20 =>
    cond x20 ((show T An ((Unit)) from
    T.ret ()).bind <| fun _ =>
    (t_numD x10.E).bind fun x334 =>
    T.asrt (x334.length ≤ 1099511627776) <|
    T.asrt (x18.length ≤ 1099511627776) <|
    T.bnd (x18 ++ x334) fun x338 =>
    (show T An ((Unit)) from
    T.ret ()).bind <| fun _ =>
    (t_numD x10.Item).bind fun x340 =>
    T.asrt (x340.length ≤ 1099511627776) <|
    T.asrt (x338.length ≤ 1099511627776) <|
    T.bnd (x338 ++ x340) fun x344 =>
    (show T An ((Unit)) from
    T.ret ()).bind <| fun _ =>
    (t_numD x10.Loc).bind fun x346 =>
    T.asrt (x346.length ≤ 1099511627776) <|
    T.asrt (x344.length ≤ 1099511627776) <|
    T.bnd (x344 ++ x346) fun x350 =>
    (show T An ((Unit)) from
    T.ret ()).bind <| fun _ =>
    (t_numD x10.Qty).bind fun x352 =>
    T.asrt (x352.length ≤ 1099511627776) <|
    T.asrt (x350.length ≤ 1099511627776) <|
    T.bnd (x350 ++ x352) fun x356 =>
    (show T An ((Unit)) from
    T.ret ()).bind <| fun _ =>
    (t_numD x10.Amount).bind fun x358 =>
    T.asrt (x358.length ≤ 1099511627776) <|
    T.asrt (x356.length ≤ 1099511627776) <|
    T.bnd (x356 ++ x358) fun x362 =>
    T.brk x362) (T.ask (decide (x10.Kind = 2)) fun x21 =>
    cond x21 ((show T An ((Unit)) from
    T.ret ()).bind <| fun _ =>
    (t_numD x10.Qty).bind fun x315 =>
    T.asrt (x315.length ≤ 1099511627776) <|
    T.asrt (x18.length ≤ 1099511627776) <|
    T.bnd (x18 ++ x315) fun x319 =>
    (show T An ((Unit)) from
    T.ret ()).bind <| fun _ =>
    (t_numD x10.Amount).bind fun x321 =>
    T.asrt (x321.length ≤ 1099511627776) <|
    T.asrt (x319.length ≤ 1099511627776) <|
    T.bnd (x319 ++ x321) fun x325 =>
    (show T An ((Unit)) from
    T.ret ()).bind <| fun _ =>
    (t_numD x10.Ref).bind fun x327 =>
    T.asrt (x327.length ≤ 1099511627776) <|
    T.asrt (x325.length ≤ 1099511627776) <|
    T.bnd (x325 ++ x327) fun x331 =>
    T.brk x331) (T.ask (decide (x10.Kind = 3)) fun x22 =>
    cond x22 ((show T An ((Unit)) from
    T.ret ()).bind <| fun _ =>
    (t_numD x10.Qty).bind fun x302 =>
    T.asrt (x302.length ≤ 1099511627776) <|
    T.asrt (x18.length ≤ 1099511627776) <|
    T.bnd (x18 ++ x302) fun x306 =>
    (show T An ((Unit)) from
    T.ret ()).bind <| fun _ =>
    (t_numD x10.Ref).bind fun x308 =>
    T.asrt (x308.length ≤ 1099511627776) <|
    T.asrt (x306.length ≤ 1099511627776) <|
    T.bnd (x306 ++ x308) fun x312 =>
    T.brk x312) (T.ask (decide (x10.Kind = 4)) fun x23 =>
    cond x23 ((show T An ((Unit)) from
    T.ret ()).bind <| fun _ =>
    (t_numD x10.E).bind fun x271 =>
    T.asrt (x271.length ≤ 1099511627776) <|
    T.asrt (x18.length ≤ 1099511627776) <|
    T.bnd (x18 ++ x271) fun x275 =>
    (show T An ((Unit)) from
    T.ret ()).bind <| fun _ =>
    (t_numD x10.Item).bind fun x277 =>
    T.asrt (x277.length ≤ 1099511627776) <|
    T.asrt (x275.length ≤ 1099511627776) <|
    T.bnd (x275 ++ x277) fun x281 =>
    (show T An ((Unit)) from
    T.ret ()).bind <| fun _ =>
    (t_numD x10.Loc).bind fun x283 =>
    T.asrt (x283.length ≤ 1099511627776) <|
    T.asrt (x281.length ≤ 1099511627776) <|
    T.bnd (x281 ++ x283) fun x287 =>
    (show T An ((Unit)) from
    T.ret ()).bind <| fun _ =>
    (t_numD x10.Qty).bind fun x289 =>
    T.asrt (x289.length ≤ 1099511627776) <|
    T.asrt (x287.length ≤ 1099511627776) <|
    T.bnd (x287 ++ x289) fun x293 =>
    (show T An ((Unit)) from
    T.ret ()).bind <| fun _ =>
    (t_numD x10.Amount).bind fun x295 =>
    T.asrt (x295.length ≤ 1099511627776) <|
    T.asrt (x293.length ≤ 1099511627776) <|
    T.bnd (x293 ++ x295) fun x299 =>
    T.brk x299) (T.ask (decide (x10.Kind = 5)) fun x24 =>
    cond x24 ((show T An ((Unit)) from
    T.ret ()).bind <| fun _ =>
    (t_numD x10.Qty).bind fun x252 =>
    T.asrt (x252.length ≤ 1099511627776) <|
    T.asrt (x18.length ≤ 1099511627776) <|
    T.bnd (x18 ++ x252) fun x256 =>
    (show T An ((Unit)) from
    T.ret ()).bind <| fun _ =>
    (t_numD x10.Amount).bind fun x258 =>
    T.asrt (x258.length ≤ 1099511627776) <|
    T.asrt (x256.length ≤ 1099511627776) <|
    T.bnd (x256 ++ x258) fun x262 =>
    (show T An ((Unit)) from
    T.ret ()).bind <| fun _ =>
    (t_numD x10.Ref).bind fun x264 =>
    T.asrt (x264.length ≤ 1099511627776) <|
    T.asrt (x262.length ≤ 1099511627776) <|
    T.bnd (x262 ++ x264) fun x268 =>
    T.brk x268) (T.ask (decide (x10.Kind = 6)) fun x25 =>
    cond x25 ((show T An ((Unit)) from
    T.ret ()).bind <| fun _ =>
    (t_numD x10.E).bind fun x227 =>
    T.asrt (x227.length ≤ 1099511627776) <|
    T.asrt (x18.length ≤ 1099511627776) <|
    T.bnd (x18 ++ x227) fun x231 =>
    (show T An ((Unit)) from
    T.ret ()).bind <| fun _ =>
    (t_numD x10.Item).bind fun x233 =>
    T.asrt (x233.length ≤ 1099511627776) <|
    T.asrt (x231.length ≤ 1099511627776) <|
    T.bnd (x231 ++ x233) fun x237 =>
    (show T An ((Unit)) from
    T.ret ()).bind <| fun _ =>
    (t_numD x10.Loc).bind fun x239 =>
    T.asrt (x239.length ≤ 1099511627776) <|
    T.asrt (x237.length ≤ 1099511627776) <|
    T.bnd (x237 ++ x239) fun x243 =>
    (show T An ((Unit)) from
    T.ret ()).bind <| fun _ =>
    (t_numD x10.Qty).bind fun x245 =>
    T.asrt (x245.length ≤ 1099511627776) <|
    T.asrt (x243.length ≤ 1099511627776) <|
    T.bnd (x243 ++ x245) fun x249 =>
    T.brk x249) (T.ask (decide (x10.Kind = 7)) fun x26 =>
    cond x26 ((show T An ((Unit)) from
    T.ret ()).bind <| fun _ =>
    (t_numD x10.E).bind fun x202 =>
    T.asrt (x202.length ≤ 1099511627776) <|
    T.asrt (x18.length ≤ 1099511627776) <|
    T.bnd (x18 ++ x202) fun x206 =>
    (show T An ((Unit)) from
    T.ret ()).bind <| fun _ =>
    (t_numD x10.Item).bind fun x208 =>
    T.asrt (x208.length ≤ 1099511627776) <|
    T.asrt (x206.length ≤ 1099511627776) <|
    T.bnd (x206 ++ x208) fun x212 =>
    (show T An ((Unit)) from
    T.ret ()).bind <| fun _ =>
    (t_numD x10.Loc).bind fun x214 =>
    T.asrt (x214.length ≤ 1099511627776) <|
    T.asrt (x212.length ≤ 1099511627776) <|
    T.bnd (x212 ++ x214) fun x218 =>
    (show T An ((Unit)) from
    T.ret ()).bind <| fun _ =>
    (t_numD x10.Qty).bind fun x220 =>
    T.asrt (x220.length ≤ 1099511627776) <|
    T.asrt (x218.length ≤ 1099511627776) <|
    T.bnd (x218 ++ x220) fun x224 =>
    T.brk x224) (T.ask (decide (x10.Kind = 8)) fun x27 =>
    cond x27 ((show T An ((Unit)) from
    T.ret ()).bind <| fun _ =>
    (t_numD x10.E).bind fun x171 =>
    T.asrt (x171.length ≤ 1099511627776) <|
    T.asrt (x18.length ≤ 1099511627776) <|
    T.bnd (x18 ++ x171) fun x175 =>
    (show T An ((Unit)) from
    T.ret ()).bind <| fun _ =>
    (t_numD x10.Item).bind fun x177 =>
    T.asrt (x177.length ≤ 1099511627776) <|
    T.asrt (x175.length ≤ 1099511627776) <|
    T.bnd (x175 ++ x177) fun x181 =>
    (show T An ((Unit)) from
    T.ret ()).bind <| fun _ =>
    (t_numD x10.Loc).bind fun x183 =>
    T.asrt (x183.length ≤ 1099511627776) <|
    T.asrt (x181.length ≤ 1099511627776) <|
    T.bnd (x181 ++ x183) fun x187 =>
    (show T An ((Unit)) from
    T.ret ()).bind <| fun _ =>
    (t_numD x10.To).bind fun x189 =>
    T.asrt (x189.length ≤ 1099511627776) <|
    T.asrt (x187.length ≤ 1099511627776) <|
    T.bnd (x187 ++ x189) fun x193 =>
    (show T An ((Unit)) from
    T.ret ()).bind <| fun _ =>
    (t_numD x10.Qty).bind fun x195 =>
    T.asrt (x195.length ≤ 1099511627776) <|
    T.asrt (x193.length ≤ 1099511627776) <|
    T.bnd (x193 ++ x195) fun x199 =>
    T.brk x199) (T.ask (decide (x10.Kind = 9)) fun x28 =>
    cond x28 ((show T An ((Unit)) from
    T.ret ()).bind <| fun _ =>
    (t_numD x10.E).bind fun x152 =>
    T.asrt (x152.length ≤ 1099511627776) <|
    T.asrt (x18.length ≤ 1099511627776) <|
    T.bnd (x18 ++ x152) fun x156 =>
    (show T An ((Unit)) from
    T.ret ()).bind <| fun _ =>
    (t_numD x10.Item).bind fun x158 =>
    T.asrt (x158.length ≤ 1099511627776) <|
    T.asrt (x156.length ≤ 1099511627776) <|
    T.bnd (x156 ++ x158) fun x162 =>
    (show T An ((Unit)) from
    T.ret ()).bind <| fun _ =>
    (t_numD x10.Amount).bind fun x164 =>
    T.asrt (x164.length ≤ 1099511627776) <|
    T.asrt (x162.length ≤ 1099511627776) <|
    T.bnd (x162 ++ x164) fun x168 =>
    T.brk x168) (T.ask (decide (x10.Kind = 10)) fun x29 =>
    cond x29 ((show T An ((Unit)) from
    T.ret ()).bind <| fun _ =>
    (t_numD x10.E).bind fun x133 =>
    T.asrt (x133.length ≤ 1099511627776) <|
    T.asrt (x18.length ≤ 1099511627776) <|
    T.bnd (x18 ++ x133) fun x137 =>
    (show T An ((Unit)) from
    T.ret ()).bind <| fun _ =>
    (t_numD x10.Item).bind fun x139 =>
    T.asrt (x139.length ≤ 1099511627776) <|
    T.asrt (x137.length ≤ 1099511627776) <|
    T.bnd (x137 ++ x139) fun x143 =>
    (show T An ((Unit)) from
    T.ret ()).bind <| fun _ =>
    (t_numD x10.Amount).bind fun x145 =>
    T.asrt (x145.length ≤ 1099511627776) <|
    T.asrt (x143.length ≤ 1099511627776) <|
    T.bnd (x143 ++ x145) fun x149 =>
    T.brk x149) (T.ask (decide (x10.Kind = 11)) fun x30 =>
    cond x30 ((show T An ((Unit)) from
    T.ret ()).bind <| fun _ =>
    (t_numD x10.To).bind fun x115 =>
    T.asrt (x115.length ≤ 1099511627776) <|
    T.asrt (x18.length ≤ 1099511627776) <|
    T.bnd (x18 ++ x115) fun x119 =>
    (show T An ((Unit)) from
    T.ret ()).bind <| fun _ =>
    (t_numD x10.Amount).bind fun x121 =>
    T.asrt (x121.length ≤ 1099511627776) <|
    T.asrt (x119.length ≤ 1099511627776) <|
    T.bnd (x119 ++ x121) fun x125 =>
    (t_listD x10.Refs).bind fun x126 =>
    T.asrt (x126.length ≤ 1099511627776) <|
    T.asrt (x125.length ≤ 1099511627776) <|
    T.bnd (x125 ++ x126) fun x130 =>
    T.brk x130) (T.ask (decide (x10.Kind = 12)) fun x31 =>
    cond x31 ((show T An ((Unit)) from
    T.ret ()).bind <| fun _ =>
    (t_numD x10.E).bind fun x78 =>
    T.asrt (x78.length ≤ 1099511627776) <|
    T.asrt (x18.length ≤ 1099511627776) <|
    T.bnd (x18 ++ x78) fun x82 =>
    (show T An ((Unit)) from
    T.ret ()).bind <| fun _ =>
    (t_numD x10.Item).bind fun x84 =>
    T.asrt (x84.length ≤ 1099511627776) <|
    T.asrt (x82.length ≤ 1099511627776) <|
    T.bnd (x82 ++ x84) fun x88 =>
    (show T An ((Unit)) from
    T.ret ()).bind <| fun _ =>
    (t_numD x10.Loc).bind fun x90 =>
    T.asrt (x90.length ≤ 1099511627776) <|
    T.asrt (x88.length ≤ 1099511627776) <|
    T.bnd (x88 ++ x90) fun x94 =>
    (show T An ((Unit)) from
    T.ret ()).bind <| fun _ =>
    (t_numD x10.To).bind fun x96 =>
    T.asrt (x96.length ≤ 1099511627776) <|
    T.asrt (x94.length ≤ 1099511627776) <|
    T.bnd (x94 ++ x96) fun x100 =>
    (show T An ((Unit)) from
    T.ret ()).bind <| fun _ =>
    (t_numD x10.Qty).bind fun x102 =>
    T.asrt (x102.length ≤ 1099511627776) <|
    T.asrt (x100.length ≤ 1099511627776) <|
    T.bnd (x100 ++ x102) fun x106 =>
    (show T An ((Unit)) from
    T.ret ()).bind <| fun _ =>
    (t_numD x10.Amount).bind fun x108 =>
    T.asrt (x108.length ≤ 1099511627776) <|
    T.asrt (x106.length ≤ 1099511627776) <|
    T.bnd (x106 ++ x108) fun x112 =>
    T.brk x112) (T.ask (decide (x10.Kind = 13)) fun x32 =>
    cond x32 ((show T An ((Unit)) from
    T.ret ()).bind <| fun _ =>
    (t_numD x10.Loc).bind fun x59 =>
    T.asrt (x59.length ≤ 1099511627776) <|
    T.asrt (x18.length ≤ 1099511627776) <|
    T.bnd (x18 ++ x59) fun x63 =>
    (show T An ((Unit)) from
    T.ret ()).bind <| fun _ =>
    (t_numD x10.Qty).bind fun x65 =>
    T.asrt (x65.length ≤ 1099511627776) <|
    T.asrt (x63.length ≤ 1099511627776) <|
    T.bnd (x63 ++ x65) fun x69 =>
    (show T An ((Unit)) from
    T.ret ()).bind <| fun _ =>
    (t_numD x10.Ref).bind fun x71 =>
    T.asrt (x71.length ≤ 1099511627776) <|
    T.asrt (x69.length ≤ 1099511627776) <|
    T.bnd (x69 ++ x71) fun x75 =>
    T.brk x75) (T.ask (decide (x10.Kind = 14)) fun x33 =>
    cond x33 ((show T An ((Unit)) from
    T.ret ()).bind <| fun _ =>
    (t_numD x10.E).bind fun x52 =>
    T.asrt (x52.length ≤ 1099511627776) <|
    T.asrt (x18.length ≤ 1099511627776) <|
    T.bnd (x18 ++ x52) fun x56 =>
    T.brk x56) (T.ask (decide (x10.Kind = 15)) fun x34 =>
    cond x34 ((show T An ((Unit)) from
    T.ret ()).bind <| fun _ =>
    (t_numD x10.E).bind fun x45 =>
    T.asrt (x45.length ≤ 1099511627776) <|
    T.asrt (x18.length ≤ 1099511627776) <|
    T.bnd (x18 ++ x45) fun x49 =>
    T.brk x49) (T.asrt (x10.Kind = 16) <|
    (show T An ((Unit)) from
    T.ret ()).bind <| fun _ =>
    (t_numD x10.E).bind fun x38 =>
    T.asrt (x38.length ≤ 1099511627776) <|
    T.asrt (x18.length ≤ 1099511627776) <|
    T.bnd (x18 ++ x38) fun x42 =>
    T.brk x42)))))))))))))))))).bind <| T.sel <| fun y2_2 =>
    T.wr (y0_1 + 1) fun x366 =>
    t_ops_Bytes_L0 a1 n (x366 : Int) y2_2) (T.brk y0_3)
theorem t_ops_Bytes_L0_ok (a1 : List GOp) : ∀ (n : Nat) (z0 : Int) (z1 : (List UInt8)), (t_ops_Bytes_L0 a1 n z0 z1).run = d_ops_Bytes_L0 a1 n z0 z1
  | 0, _, _ => rfl
  | n + 1, z0, z1 => by
    simp only [t_ops_Bytes_L0, d_ops_Bytes_L0, T.rs, T_ixInt_ok, t_listD_ok, t_numD_ok, t_ops_Check_ok, t_ops_Bytes_L0_ok a1 n]
def t_ops_Bytes (n : Nat) (a1 : List GOp) : T An ((List UInt8)) :=
T.ask (decide ((a1.length : Int) > 400)) fun x2 =>
T.asrt (x2 = false) <|
(t_numD (a1.length : Int)).bind fun x4 =>
T.asrt (x4.length ≤ 1099511627776) <|
(show T An (((List UInt8)) ⊕ ((List UInt8))) from
t_ops_Bytes_L0 a1 n (0 : Int) x4).bind <| T.sel <| fun y4_2 =>
T.asrt (y4_2 ≠ []) <|
T.asrt (y4_2.length ≤ 1099511627776) <|
T.ret (y4_2)
theorem t_ops_Bytes_ok (n : Nat) (a1 : List GOp) : (t_ops_Bytes n a1).run = d_ops_Bytes n a1 := by
  simp only [t_ops_Bytes, d_ops_Bytes, T.rs, T_ixInt_ok, t_numD_ok, t_ops_Bytes_L0_ok]
def t_ops_Read_L0 (x6 : Int) : Nat → Int → GReader → (List GOp) → T An (GReader × (List GOp))
  | 0, _, _, _ => T.fail
  | n + 1, y1_2, y1_3, y1_4 =>
    T.ask (decide (y1_2 < x6)) fun x10 =>
    cond x10 ((show T An (GReader × (List GOp)) from
    T.asrt (((y1_3.s, y1_3.bad) : RS).1.length ≤ 9223372036854775806) <|
    T.bnd (cntV ((y1_3.s, y1_3.bad) : RS) 16) fun x13 =>
    T.bnd (cntR ((y1_3.s, y1_3.bad) : RS) 16) fun x14 =>
    T.ask (decide (x13 = 0)) fun x16 =>
    cond x16 ((show T An (Bool) from
    T.bnd (x14.2) fun x371 =>
    cond x371 (T.ret true) ((t_ops_Check n (⟨x13, 0, 0, 0, 0, 0, 0, 0, []⟩ : GOp)).bind fun x372 =>
    T.bnd (!x372) fun x373 =>
    T.ret x373)).bind <| fun y3_1 =>
    T.asrt (y3_1 = false) <|
    T.bnd (y1_4 ++ [(⟨x13, 0, 0, 0, 0, 0, 0, 0, []⟩ : GOp)]) fun x374 =>
    T.asrt (x374.length ≤ 68719476736) <|
    T.ret (((⟨x14.1, x14.2⟩ : GReader) : GReader), x374)) (T.ask (decide (x13 = 1)) fun x17 =>
    cond x17 ((show T An ((Unit)) from
    T.ret ()).bind <| fun _ =>
    T.asrt (x14.1.length ≤ 9223372036854775806) <|
    T.bnd (numV x14) fun x344 =>
    T.bnd (numR x14) fun x345 =>
    (show T An ((Unit)) from
    T.ret ()).bind <| fun _ =>
    T.asrt (x345.1.length ≤ 9223372036854775806) <|
    T.bnd (numV x345) fun x348 =>
    T.bnd (numR x345) fun x349 =>
    (show T An ((Unit)) from
    T.ret ()).bind <| fun _ =>
    T.asrt (x349.1.length ≤ 9223372036854775806) <|
    T.bnd (numV x349) fun x352 =>
    T.bnd (numR x349) fun x353 =>
    (show T An ((Unit)) from
    T.ret ()).bind <| fun _ =>
    T.asrt (x353.1.length ≤ 9223372036854775806) <|
    T.bnd (numV x353) fun x356 =>
    T.bnd (numR x353) fun x357 =>
    (show T An ((Unit)) from
    T.ret ()).bind <| fun _ =>
    T.asrt (x357.1.length ≤ 9223372036854775806) <|
    T.bnd (numV x357) fun x360 =>
    T.bnd (numR x357) fun x361 =>
    (show T An (Bool) from
    T.bnd (x361.2) fun x363 =>
    cond x363 (T.ret true) ((t_ops_Check n (⟨x13, x344, x348, x352, 0, x356, x360, 0, []⟩ : GOp)).bind fun x364 =>
    T.bnd (!x364) fun x365 =>
    T.ret x365)).bind <| fun y3_1 =>
    T.asrt (y3_1 = false) <|
    T.bnd (y1_4 ++ [(⟨x13, x344, x348, x352, 0, x356, x360, 0, []⟩ : GOp)]) fun x366 =>
    T.asrt (x366.length ≤ 68719476736) <|
    T.ret (((⟨x361.1, x361.2⟩ : GReader) : GReader), x366)) (T.ask (decide (x13 = 2)) fun x18 =>
    cond x18 ((show T An ((Unit)) from
    T.ret ()).bind <| fun _ =>
    T.asrt (x14.1.length ≤ 9223372036854775806) <|
    T.bnd (numV x14) fun x324 =>
    T.bnd (numR x14) fun x325 =>
    (show T An ((Unit)) from
    T.ret ()).bind <| fun _ =>
    T.asrt (x325.1.length ≤ 9223372036854775806) <|
    T.bnd (numV x325) fun x328 =>
    T.bnd (numR x325) fun x329 =>
    (show T An ((Unit)) from
    T.ret ()).bind <| fun _ =>
    T.asrt (x329.1.length ≤ 9223372036854775806) <|
    T.bnd (numV x329) fun x332 =>
    T.bnd (numR x329) fun x333 =>
    (show T An (Bool) from
    T.bnd (x333.2) fun x335 =>
    cond x335 (T.ret true) ((t_ops_Check n (⟨x13, 0, 0, 0, 0, x324, x328, x332, []⟩ : GOp)).bind fun x336 =>
    T.bnd (!x336) fun x337 =>
    T.ret x337)).bind <| fun y3_1 =>
    T.asrt (y3_1 = false) <|
    T.bnd (y1_4 ++ [(⟨x13, 0, 0, 0, 0, x324, x328, x332, []⟩ : GOp)]) fun x338 =>
    T.asrt (x338.length ≤ 68719476736) <|
    T.ret (((⟨x333.1, x333.2⟩ : GReader) : GReader), x338)) (T.ask (decide (x13 = 3)) fun x19 =>
    cond x19 ((show T An ((Unit)) from
    T.ret ()).bind <| fun _ =>
    T.asrt (x14.1.length ≤ 9223372036854775806) <|
    T.bnd (numV x14) fun x308 =>
    T.bnd (numR x14) fun x309 =>
    (show T An ((Unit)) from
    T.ret ()).bind <| fun _ =>
    T.asrt (x309.1.length ≤ 9223372036854775806) <|
    T.bnd (numV x309) fun x312 =>
    T.bnd (numR x309) fun x313 =>
    (show T An (Bool) from
    T.bnd (x313.2) fun x315 =>
    cond x315 (T.ret true) ((t_ops_Check n (⟨x13, 0, 0, 0, 0, x308, 0, x312, []⟩ : GOp)).bind fun x316 =>
    T.bnd (!x316) fun x317 =>
    T.ret x317)).bind <| fun y3_1 =>
    T.asrt (y3_1 = false) <|
    T.bnd (y1_4 ++ [(⟨x13, 0, 0, 0, 0, x308, 0, x312, []⟩ : GOp)]) fun x318 =>
    T.asrt (x318.length ≤ 68719476736) <|
    T.ret (((⟨x313.1, x313.2⟩ : GReader) : GReader), x318)) (T.ask (decide (x13 = 4)) fun x20 =>
    cond x20 ((show T An ((Unit)) from
    T.ret ()).bind <| fun _ =>
    T.asrt (x14.1.length ≤ 9223372036854775806) <|
    T.bnd (numV x14) fun x280 =>
    T.bnd (numR x14) fun x281 =>
    (show T An ((Unit)) from
    T.ret ()).bind <| fun _ =>
    T.asrt (x281.1.length ≤ 9223372036854775806) <|
    T.bnd (numV x281) fun x284 =>
    T.bnd (numR x281) fun x285 =>
    (show T An ((Unit)) from
    T.ret ()).bind <| fun _ =>
    T.asrt (x285.1.length ≤ 9223372036854775806) <|
    T.bnd (numV x285) fun x288 =>
    T.bnd (numR x285) fun x289 =>
    (show T An ((Unit)) from
    T.ret ()).bind <| fun _ =>
    T.asrt (x289.1.length ≤ 9223372036854775806) <|
    T.bnd (numV x289) fun x292 =>
    T.bnd (numR x289) fun x293 =>
    (show T An ((Unit)) from
    T.ret ()).bind <| fun _ =>
    T.asrt (x293.1.length ≤ 9223372036854775806) <|
    T.bnd (numV x293) fun x296 =>
    T.bnd (numR x293) fun x297 =>
    (show T An (Bool) from
    T.bnd (x297.2) fun x299 =>
    cond x299 (T.ret true) ((t_ops_Check n (⟨x13, x280, x284, x288, 0, x292, x296, 0, []⟩ : GOp)).bind fun x300 =>
    T.bnd (!x300) fun x301 =>
    T.ret x301)).bind <| fun y3_1 =>
    T.asrt (y3_1 = false) <|
    T.bnd (y1_4 ++ [(⟨x13, x280, x284, x288, 0, x292, x296, 0, []⟩ : GOp)]) fun x302 =>
    T.asrt (x302.length ≤ 68719476736) <|
    T.ret (((⟨x297.1, x297.2⟩ : GReader) : GReader), x302)) (T.ask (decide (x13 = 5)) fun x21 =>
    cond x21 ((show T An ((Unit)) from
    T.ret ()).bind <| fun _ =>
    T.asrt (x14.1.length ≤ 9223372036854775806) <|
    T.bnd (numV x14) fun x260 =>
    T.bnd (numR x14) fun x261 =>
    (show T An ((Unit)) from
    T.ret ()).bind <| fun _ =>
    T.asrt (x261.1.length ≤ 9223372036854775806) <|
    T.bnd (numV x261) fun x264 =>
    T.bnd (numR x261) fun x265 =>
    (show T An ((Unit)) from
    T.ret ()).bind <| fun _ =>
    T.asrt (x265.1.length ≤ 9223372036854775806) <|
    T.bnd (numV x265) fun x268 =>
    T.bnd (numR x265) fun x269 =>
    (show T An (Bool) from
    T.bnd (x269.2) fun x271 =>
    cond x271 (T.ret true) ((t_ops_Check n (⟨x13, 0, 0, 0, 0, x260, x264, x268, []⟩ : GOp)).bind fun x272 =>
    T.bnd (!x272) fun x273 =>
    T.ret x273)).bind <| fun y3_1 =>
    T.asrt (y3_1 = false) <|
    T.bnd (y1_4 ++ [(⟨x13, 0, 0, 0, 0, x260, x264, x268, []⟩ : GOp)]) fun x274 =>
    T.asrt (x274.length ≤ 68719476736) <|
    T.ret (((⟨x269.1, x269.2⟩ : GReader) : GReader), x274)) (T.ask (decide (x13 = 6)) fun x22 =>
    cond x22 ((show T An ((Unit)) from
    T.ret ()).bind <| fun _ =>
    T.asrt (x14.1.length ≤ 9223372036854775806) <|
    T.bnd (numV x14) fun x236 =>
    T.bnd (numR x14) fun x237 =>
    (show T An ((Unit)) from
    T.ret ()).bind <| fun _ =>
    T.asrt (x237.1.length ≤ 9223372036854775806) <|
    T.bnd (numV x237) fun x240 =>
    T.bnd (numR x237) fun x241 =>
    (show T An ((Unit)) from
    T.ret ()).bind <| fun _ =>
    T.asrt (x241.1.length ≤ 9223372036854775806) <|
    T.bnd (numV x241) fun x244 =>
    T.bnd (numR x241) fun x245 =>
    (show T An ((Unit)) from
    T.ret ()).bind <| fun _ =>
    T.asrt (x245.1.length ≤ 9223372036854775806) <|
    T.bnd (numV x245) fun x248 =>
    T.bnd (numR x245) fun x249 =>
    (show T An (Bool) from
    T.bnd (x249.2) fun x251 =>
    cond x251 (T.ret true) ((t_ops_Check n (⟨x13, x236, x240, x244, 0, x248, 0, 0, []⟩ : GOp)).bind fun x252 =>
    T.bnd (!x252) fun x253 =>
    T.ret x253)).bind <| fun y3_1 =>
    T.asrt (y3_1 = false) <|
    T.bnd (y1_4 ++ [(⟨x13, x236, x240, x244, 0, x248, 0, 0, []⟩ : GOp)]) fun x254 =>
    T.asrt (x254.length ≤ 68719476736) <|
    T.ret (((⟨x249.1, x249.2⟩ : GReader) : GReader), x254)) (T.ask (decide (x13 = 7)) fun x23 =>
    cond x23 ((show T An ((Unit)) from
    T.ret ()).bind <| fun _ =>
    T.asrt (x14.1.length ≤ 9223372036854775806) <|
    T.bnd (numV x14) fun x212 =>
    T.bnd (numR x14) fun x213 =>
    (show T An ((Unit)) from
    T.ret ()).bind <| fun _ =>
    T.asrt (x213.1.length ≤ 9223372036854775806) <|
    T.bnd (numV x213) fun x216 =>
    T.bnd (numR x213) fun x217 =>
    (show T An ((Unit)) from
    T.ret ()).bind <| fun _ =>
    T.asrt (x217.1.length ≤ 9223372036854775806) <|
    T.bnd (numV x217) fun x220 =>
    T.bnd (numR x217) fun x221 =>
    (show T An ((Unit)) from
    T.ret ()).bind <| fun _ =>
    T.asrt (x221.1.length ≤ 9223372036854775806) <|
    T.bnd (numV x221) fun x224 =>
    T.bnd (numR x221) fun x225 =>
    (show T An (Bool) from
    T.bnd (x225.2) fun x227 =>
    cond x227 (T.ret true) ((t_ops_Check n (⟨x13, x212, x216, x220, 0, x224, 0, 0, []⟩ : GOp)).bind fun x228 =>
    T.bnd (!x228) fun x229 =>
    T.ret x229)).bind <| fun y3_1 =>
    T.asrt (y3_1 = false) <|
    T.bnd (y1_4 ++ [(⟨x13, x212, x216, x220, 0, x224, 0, 0, []⟩ : GOp)]) fun x230 =>
    T.asrt (x230.length ≤ 68719476736) <|
    T.ret (((⟨x225.1, x225.2⟩ : GReader) : GReader), x230)) (T.ask (decide (x13 = 8)) fun x24 =>
    cond x24 ((show T An ((Unit)) from
    T.ret ()).bind <| fun _ =>
    T.asrt (x14.1.length ≤ 9223372036854775806) <|
    T.bnd (numV x14) fun x184 =>
    T.bnd (numR x14) fun x185 =>
    (show T An ((Unit)) from
    T.ret ()).bind <| fun _ =>
    T.asrt (x185.1.length ≤ 9223372036854775806) <|
    T.bnd (numV x185) fun x188 =>
    T.bnd (numR x185) fun x189 =>
    (show T An ((Unit)) from
    T.ret ()).bind <| fun _ =>
    T.asrt (x189.1.length ≤ 9223372036854775806) <|
    T.bnd (numV x189) fun x192 =>
    T.bnd (numR x189) fun x193 =>
    (show T An ((Unit)) from
    T.ret ()).bind <| fun _ =>
    T.asrt (x193.1.length ≤ 9223372036854775806) <|
    T.bnd (numV x193) fun x196 =>
    T.bnd (numR x193) fun x197 =>
    (show T An ((Unit)) from
    T.ret ()).bind <| fun _ =>
    T.asrt (x197.1.length ≤ 9223372036854775806) <|
    T.bnd (numV x197) fun x200 =>
    T.bnd (numR x197) fun x201 =>
    (show T An (Bool) from
    T.bnd (x201.2) fun x203 =>
    cond x203 (T.ret true) ((t_ops_Check n (⟨x13, x184, x188, x192, x196, x200, 0, 0, []⟩ : GOp)).bind fun x204 =>
    T.bnd (!x204) fun x205 =>
    T.ret x205)).bind <| fun y3_1 =>
    T.asrt (y3_1 = false) <|
    T.bnd (y1_4 ++ [(⟨x13, x184, x188, x192, x196, x200, 0, 0, []⟩ : GOp)]) fun x206 =>
    T.asrt (x206.length ≤ 68719476736) <|
    T.ret (((⟨x201.1, x201.2⟩ : GReader) : GReader), x206)) (T.ask (decide (x13 = 9)) fun x25 =>
    cond x25 ((show T An ((Unit)) from
    T.ret ()).bind <| fun _ =>
    T.asrt (x14.1.length ≤ 9223372036854775806) <|
    T.bnd (numV x14) fun x164 =>
    T.bnd (numR x14) fun x165 =>
    (show T An ((Unit)) from
    T.ret ()).bind <| fun _ =>
    T.asrt (x165.1.length ≤ 9223372036854775806) <|
    T.bnd (numV x165) fun x168 =>
    T.bnd (numR x165) fun x169 =>
    (show T An ((Unit)) from
    T.ret ()).bind <| fun _ =>
    T.asrt (x169.1.length ≤ 9223372036854775806) <|
    T.bnd (numV x169) fun x172 =>
    T.bnd (numR x169) fun x173 =>
    (show T An (Bool) from
    T.bnd (x173.2) fun x175 =>
    cond x175 (T.ret true) ((t_ops_Check n (⟨x13, x164, x168, 0, 0, 0, x172, 0, []⟩ : GOp)).bind fun x176 =>
    T.bnd (!x176) fun x177 =>
    T.ret x177)).bind <| fun y3_1 =>
    T.asrt (y3_1 = false) <|
    T.bnd (y1_4 ++ [(⟨x13, x164, x168, 0, 0, 0, x172, 0, []⟩ : GOp)]) fun x178 =>
    T.asrt (x178.length ≤ 68719476736) <|
    T.ret (((⟨x173.1, x173.2⟩ : GReader) : GReader), x178)) (T.ask (decide (x13 = 10)) fun x26 =>
    cond x26 ((show T An ((Unit)) from
    T.ret ()).bind <| fun _ =>
    T.asrt (x14.1.length ≤ 9223372036854775806) <|
    T.bnd (numV x14) fun x144 =>
    T.bnd (numR x14) fun x145 =>
    (show T An ((Unit)) from
    T.ret ()).bind <| fun _ =>
    T.asrt (x145.1.length ≤ 9223372036854775806) <|
    T.bnd (numV x145) fun x148 =>
    T.bnd (numR x145) fun x149 =>
    (show T An ((Unit)) from
    T.ret ()).bind <| fun _ =>
    T.asrt (x149.1.length ≤ 9223372036854775806) <|
    T.bnd (numV x149) fun x152 =>
    T.bnd (numR x149) fun x153 =>
    (show T An (Bool) from
    T.bnd (x153.2) fun x155 =>
    cond x155 (T.ret true) ((t_ops_Check n (⟨x13, x144, x148, 0, 0, 0, x152, 0, []⟩ : GOp)).bind fun x156 =>
    T.bnd (!x156) fun x157 =>
    T.ret x157)).bind <| fun y3_1 =>
    T.asrt (y3_1 = false) <|
    T.bnd (y1_4 ++ [(⟨x13, x144, x148, 0, 0, 0, x152, 0, []⟩ : GOp)]) fun x158 =>
    T.asrt (x158.length ≤ 68719476736) <|
    T.ret (((⟨x153.1, x153.2⟩ : GReader) : GReader), x158)) (T.ask (decide (x13 = 11)) fun x27 =>
    cond x27 ((show T An ((Unit)) from
    T.ret ()).bind <| fun _ =>
    T.asrt (x14.1.length ≤ 9223372036854775806) <|
    T.bnd (numV x14) fun x124 =>
    T.bnd (numR x14) fun x125 =>
    (show T An ((Unit)) from
    T.ret ()).bind <| fun _ =>
    T.asrt (x125.1.length ≤ 9223372036854775806) <|
    T.bnd (numV x125) fun x128 =>
    T.bnd (numR x125) fun x129 =>
    T.asrt (x129.1.length ≤ 1099511627776) <|
    T.asrt (x129.2 = true → x129.1 = []) <|
    T.bnd (lstV x129 40) fun x132 =>
    T.bnd (lstR x129 40) fun x133 =>
    (show T An (Bool) from
    T.bnd (x133.2) fun x135 =>
    cond x135 (T.ret true) ((t_ops_Check n (⟨x13, 0, 0, 0, x124, 0, x128, 0, x132⟩ : GOp)).bind fun x136 =>
    T.bnd (!x136) fun x137 =>
    T.ret x137)).bind <| fun y3_1 =>
    T.asrt (y3_1 = false) <|
    T.bnd (y1_4 ++ ([(⟨x13, 0, 0, 0, x124, 0, x128, 0, x132⟩ : GOp)] : List GOp)) fun x138 =>
    T.asrt (x138.length ≤ 68719476736) <|
    T.ret (((⟨x133.1, x133.2⟩ : GReader) : GReader), x138)) (T.ask (decide (x13 = 12)) fun x28 =>
    cond x28 ((show T An ((Unit)) from
    T.ret ()).bind <| fun _ =>
    T.asrt (x14.1.length ≤ 9223372036854775806) <|
    T.bnd (numV x14) fun x92 =>
    T.bnd (numR x14) fun x93 =>
    (show T An ((Unit)) from
    T.ret ()).bind <| fun _ =>
    T.asrt (x93.1.length ≤ 9223372036854775806) <|
    T.bnd (numV x93) fun x96 =>
    T.bnd (numR x93) fun x97 =>
    (show T An ((Unit)) from
    T.ret ()).bind <| fun _ =>
    T.asrt (x97.1.length ≤ 9223372036854775806) <|
    T.bnd (numV x97) fun x100 =>
    T.bnd (numR x97) fun x101 =>
    (show T An ((Unit)) from
    T.ret ()).bind <| fun _ =>
    T.asrt (x101.1.length ≤ 9223372036854775806) <|
    T.bnd (numV x101) fun x104 =>
    T.bnd (numR x101) fun x105 =>
    (show T An ((Unit)) from
    T.ret ()).bind <| fun _ =>
    T.asrt (x105.1.length ≤ 9223372036854775806) <|
    T.bnd (numV x105) fun x108 =>
    T.bnd (numR x105) fun x109 =>
    (show T An ((Unit)) from
    T.ret ()).bind <| fun _ =>
    T.asrt (x109.1.length ≤ 9223372036854775806) <|
    T.bnd (numV x109) fun x112 =>
    T.bnd (numR x109) fun x113 =>
    (show T An (Bool) from
    T.bnd (x113.2) fun x115 =>
    cond x115 (T.ret true) ((t_ops_Check n (⟨x13, x92, x96, x100, x104, x108, x112, 0, []⟩ : GOp)).bind fun x116 =>
    T.bnd (!x116) fun x117 =>
    T.ret x117)).bind <| fun y3_1 =>
    T.asrt (y3_1 = false) <|
    T.bnd (y1_4 ++ [(⟨x13, x92, x96, x100, x104, x108, x112, 0, []⟩ : GOp)]) fun x118 =>
    T.asrt (x118.length ≤ 68719476736) <|
    T.ret (((⟨x113.1, x113.2⟩ : GReader) : GReader), x118)) (T.ask (decide (x13 = 13)) fun x29 =>
    cond x29 ((show T An ((Unit)) from
    T.ret ()).bind <| fun _ =>
    T.asrt (x14.1.length ≤ 9223372036854775806) <|
    T.bnd (numV x14) fun x72 =>
    T.bnd (numR x14) fun x73 =>
    (show T An ((Unit)) from
    T.ret ()).bind <| fun _ =>
    T.asrt (x73.1.length ≤ 9223372036854775806) <|
    T.bnd (numV x73) fun x76 =>
    T.bnd (numR x73) fun x77 =>
    (show T An ((Unit)) from
    T.ret ()).bind <| fun _ =>
    T.asrt (x77.1.length ≤ 9223372036854775806) <|
    T.bnd (numV x77) fun x80 =>
    T.bnd (numR x77) fun x81 =>
    (show T An (Bool) from
    T.bnd (x81.2) fun x83 =>
    cond x83 (T.ret true) ((t_ops_Check n (⟨x13, 0, 0, x72, 0, x76, 0, x80, []⟩ : GOp)).bind fun x84 =>
    T.bnd (!x84) fun x85 =>
    T.ret x85)).bind <| fun y3_1 =>
    T.asrt (y3_1 = false) <|
    T.bnd (y1_4 ++ [(⟨x13, 0, 0, x72, 0, x76, 0, x80, []⟩ : GOp)]) fun x86 =>
    T.asrt (x86.length ≤ 68719476736) <|
    T.ret (((⟨x81.1, x81.2⟩ : GReader) : GReader), x86)) (T.ask (decide (x13 = 14)) fun x30 =>
    cond x30 ((show T An ((Unit)) from
    T.ret ()).bind <| fun _ =>
    T.asrt (x14.1.length ≤ 9223372036854775806) <|
    T.bnd (numV x14) fun x60 =>
    T.bnd (numR x14) fun x61 =>
    (show T An (Bool) from
    T.bnd (x61.2) fun x63 =>
    cond x63 (T.ret true) ((t_ops_Check n (⟨x13, x60, 0, 0, 0, 0, 0, 0, []⟩ : GOp)).bind fun x64 =>
    T.bnd (!x64) fun x65 =>
    T.ret x65)).bind <| fun y3_1 =>
    T.asrt (y3_1 = false) <|
    T.bnd (y1_4 ++ [(⟨x13, x60, 0, 0, 0, 0, 0, 0, []⟩ : GOp)]) fun x66 =>
    T.asrt (x66.length ≤ 68719476736) <|
    T.ret (((⟨x61.1, x61.2⟩ : GReader) : GReader), x66)) (T.ask (decide (x13 = 15)) fun x31 =>
    cond x31 ((show T An ((Unit)) from
    T.ret ()).bind <| fun _ =>
    T.asrt (x14.1.length ≤ 9223372036854775806) <|
    T.bnd (numV x14) fun x48 =>
    T.bnd (numR x14) fun x49 =>
    (show T An (Bool) from
    T.bnd (x49.2) fun x51 =>
    cond x51 (T.ret true) ((t_ops_Check n (⟨x13, x48, 0, 0, 0, 0, 0, 0, []⟩ : GOp)).bind fun x52 =>
    T.bnd (!x52) fun x53 =>
    T.ret x53)).bind <| fun y3_1 =>
    T.asrt (y3_1 = false) <|
    T.bnd (y1_4 ++ [(⟨x13, x48, 0, 0, 0, 0, 0, 0, []⟩ : GOp)]) fun x54 =>
    T.asrt (x54.length ≤ 68719476736) <|
    T.ret (((⟨x49.1, x49.2⟩ : GReader) : GReader), x54)) (T.asrt (x13 = 16) <|
    (show T An ((Unit)) from
    T.ret ()).bind <| fun _ =>
    T.asrt (x14.1.length ≤ 9223372036854775806) <|
    T.bnd (numV x14) fun x36 =>
    T.bnd (numR x14) fun x37 =>
    (show T An (Bool) from
    T.bnd (x37.2) fun x39 =>
    cond x39 (T.ret true) ((t_ops_Check n (⟨x13, x36, 0, 0, 0, 0, 0, 0, []⟩ : GOp)).bind fun x40 =>
    T.bnd (!x40) fun x41 =>
    T.ret x41)).bind <| fun y3_1 =>
    T.asrt (y3_1 = false) <|
    T.bnd (y1_4 ++ [(⟨x13, x36, 0, 0, 0, 0, 0, 0, []⟩ : GOp)]) fun x42 =>
    T.asrt (x42.length ≤ 68719476736) <|
    T.ret (((⟨x37.1, x37.2⟩ : GReader) : GReader), x42)))))))))))))))))).bind <| p2 fun y4_2 y4_3 =>
    T.wr (y1_2 + 1) fun x377 =>
    t_ops_Read_L0 x6 n (x377 : Int) y4_2 y4_3) (T.ret (y1_3, y1_4))
theorem t_ops_Read_L0_ok (x6 : Int) : ∀ (n : Nat) (z0 : Int) (z1 : GReader) (z2 : (List GOp)), (t_ops_Read_L0 x6 n z0 z1 z2).run = d_ops_Read_L0 x6 n z0 z1 z2
  | 0, _, _, _ => rfl
  | n + 1, z0, z1, z2 => by
    simp only [t_ops_Read_L0, d_ops_Read_L0, T.rs, T_ixInt_ok, t_ops_Check_ok, t_ops_Read_L0_ok x6 n]
def t_ops_Read (n : Nat) (a1 : List UInt8) : T An ((List GOp) × Int) :=
T.ask (decide ((a1.length : Int) > 131072)) fun x2 =>
T.asrt (x2 = false) <|
(show T An ((Unit)) from
T.ret ()).bind <| fun _ =>
T.asrt (((a1, false) : RS).1.length ≤ 9223372036854775806) <|
T.bnd (cntV ((a1, false) : RS) 400) fun x6 =>
T.bnd (cntR ((a1, false) : RS) 400) fun x7 =>
(show T An (GReader × (List GOp)) from
t_ops_Read_L0 x6 n (0 : Int) ((⟨x7.1, x7.2⟩ : GReader) : GReader) (([] : List GOp) : List GOp)).bind <| p2 fun y6_2 y6_3 =>
(show T An (Bool) from
T.bnd (((y6_2.s, y6_2.bad) : RS).2) fun x379 =>
cond x379 (T.ret true) (T.ask (decide ((((y6_2.s, y6_2.bad) : RS).1.length : Int) > 0)) fun x380 =>
T.ret x380)).bind <| fun y7_1 =>
T.asrt (y7_1 = false) <|
T.ret (y6_3, (0 : Int))
theorem t_ops_Read_ok (n : Nat) (a1 : List UInt8) : (t_ops_Read n a1).run = d_ops_Read n a1 := by
  simp only [t_ops_Read, d_ops_Read, T.rs, T_ixInt_ok, t_ops_Read_L0_ok]
def t_slices_Equal_int_int_L0 (a1 : List Int) (a2 : List Int) : Nat → Int → T An ((Unit) ⊕ (Bool))
  | 0, _ => T.fail
  | n + 1, y0_1 =>
    T.ask (decide (y0_1 < (a1.length : Int))) fun x5 =>
    cond x5 ((T_ixInt a1 y0_1).bind fun x6 =>
    (T_ixInt a2 y0_1).bind fun x7 =>
    T.ask (decide (x6 ≠ x7)) fun x8 =>
    cond x8 (T.esc (T.ret (false))) (T.wr (y0_1 + 1) fun x9 =>
    t_slices_Equal_int_int_L0 a1 a2 n (x9 : Int))) (T.brk ())
theorem t_slices_Equal_int_int_L0_ok (a1 : List Int) (a2 : List Int) : ∀ (n : Nat) (z0 : Int), (t_slices_Equal_int_int_L0 a1 a2 n z0).run = d_slices_Equal_int_int_L0 a1 a2 n z0
  | 0, _ => rfl
  | n + 1, z0 => by
    simp only [t_slices_Equal_int_int_L0, d_slices_Equal_int_int_L0, T.rs, T_ixInt_ok, t_slices_Equal_int_int_L0_ok a1 a2 n]
def t_slices_Equal_int_int (n : Nat) (a1 : List Int) (a2 : List Int) : T An (Bool) :=
T.ask (decide ((a1.length : Int) ≠ (a2.length : Int))) fun x3 =>
cond x3 (T.ret (false)) ((show T An ((Unit) ⊕ (Bool)) from
t_slices_Equal_int_int_L0 a1 a2 n (0 : Int)).bind <| T.sel <| fun _ =>
T.ret (true))
theorem t_slices_Equal_int_int_ok (n : Nat) (a1 : List Int) (a2 : List Int) : (t_slices_Equal_int_int n a1 a2).run = d_slices_Equal_int_int n a1 a2 := by
  simp only [t_slices_Equal_int_int, d_slices_Equal_int_int, T.rs, T_ixInt_ok, t_slices_Equal_int_int_L0_ok]
def t_ops_same (n : Nat) (a1 : GOp) (a2 : GOp) : T An (Bool) :=
(show T An ((Unit)) from
T.ret ()).bind <| fun _ =>
(show T An ((Unit)) from
T.ret ()).bind <| fun _ =>
T.ask (decide (a1.E ≠ a2.E)) fun x8 =>
T.asrt (x8 = false) <|
(show T An ((Unit)) from
T.ret ()).bind <| fun _ =>
(show T An ((Unit)) from
T.ret ()).bind <| fun _ =>
T.ask (decide (a1.Item ≠ a2.Item)) fun x11 =>
T.asrt (x11 = false) <|
(show T An ((Unit)) from
T.ret ()).bind <| fun _ =>
(show T An ((Unit)) from
T.ret ()).bind <| fun _ =>
T.ask (decide (a1.Loc ≠ a2.Loc)) fun x14 =>
T.asrt (x14 = false) <|
(show T An ((Unit)) from
T.ret ()).bind <| fun _ =>
(show T An ((Unit)) from
T.ret ()).bind <| fun _ =>
T.ask (decide (a1.To ≠ a2.To)) fun x17 =>
T.asrt (x17 = false) <|
(show T An ((Unit)) from
T.ret ()).bind <| fun _ =>
(show T An ((Unit)) from
T.ret ()).bind <| fun _ =>
T.ask (decide (a1.Qty ≠ a2.Qty)) fun x20 =>
T.asrt (x20 = false) <|
(show T An ((Unit)) from
T.ret ()).bind <| fun _ =>
(show T An ((Unit)) from
T.ret ()).bind <| fun _ =>
T.ask (decide (a1.Amount ≠ a2.Amount)) fun x23 =>
T.asrt (x23 = false) <|
(show T An ((Unit)) from
T.ret ()).bind <| fun _ =>
(show T An ((Unit)) from
T.ret ()).bind <| fun _ =>
T.ask (decide (a1.Ref ≠ a2.Ref)) fun x26 =>
T.asrt (x26 = false) <|
(show T An (Bool) from
T.ask (decide (a1.Kind = a2.Kind)) fun x28 =>
cond x28 ((t_slices_Equal_int_int n a1.Refs a2.Refs).bind fun x29 =>
T.ret x29) (T.ret false)).bind <| fun y4_1 =>
T.ret (y4_1)
theorem t_ops_same_ok (n : Nat) (a1 : GOp) (a2 : GOp) : (t_ops_same n a1 a2).run = d_ops_same n a1 a2 := by
  simp only [t_ops_same, d_ops_same, T.rs, T_ixInt_ok, t_slices_Equal_int_int_ok]
def t_ops_Same_L0 (a1 : List GOp) (a2 : List GOp) : Nat → Int → T An ((Unit) ⊕ ((Bool)))
  | 0, _ => T.fail
  | n + 1, y0_1 =>
    T.ask (decide (y0_1 < (a1.length : Int))) fun x6 =>
    cond x6 ((T.ix a1 y0_1).bind fun x7 =>
    (T.ix a2 y0_1).bind fun x9 =>
    (t_ops_same n x7 x9).bind fun x11 =>
    T.bnd (!x11) fun x12 =>
    cond x12 (T.esc (T.ret false)) (T.wr (y0_1 + 1) fun x13 =>
    t_ops_Same_L0 a1 a2 n (x13 : Int))) (T.brk ())
theorem t_ops_Same_L0_ok (a1 : List GOp) (a2 : List GOp) : ∀ (n : Nat) (z0 : Int), (t_ops_Same_L0 a1 a2 n z0).run = d_ops_Same_L0 a1 a2 n z0
  | 0, _ => rfl
  | n + 1, z0 => by
    simp only [t_ops_Same_L0, d_ops_Same_L0, T.rs, T_ixInt_ok, t_ops_same_ok, t_ops_Same_L0_ok a1 a2 n]
def t_ops_Same (n : Nat) (a1 : List GOp) (a2 : List GOp) : T An (Bool) :=
(show T An ((Bool)) from
T.ask (decide ((a1.length : Int) ≠ (a2.length : Int))) fun x4 =>
cond x4 (T.ret false) ((show T An ((Unit) ⊕ ((Bool))) from
t_ops_Same_L0 a1 a2 n (0 : Int)).bind <| T.sel <| fun _ =>
T.ret true)).bind <| fun y2_1 =>
T.ret (y2_1)
theorem t_ops_Same_ok (n : Nat) (a1 : List GOp) (a2 : List GOp) : (t_ops_Same n a1 a2).run = d_ops_Same n a1 a2 := by
  simp only [t_ops_Same, d_ops_Same, T.rs, T_ixInt_ok, t_ops_Same_L0_ok]
def t_law05_awake (n : Nat)  : T An (Bool) :=
(t_ops_Bytes n [(⟨1, 0, 0, 0, 0, 1, 5, 0, []⟩ : GOp)]).bind fun x1 =>
(t_ops_Read n x1).bind fun x2 =>
(show T An (Bool) from
(t_ops_Check n (⟨1, 0, 0, 0, 0, 1, 5, 0, []⟩ : GOp)).bind fun x4 =>
cond x4 (T.ask (decide (x2.2 = 0)) fun x5 =>
cond x5 ((t_ops_Same n [(⟨1, 0, 0, 0, 0, 1, 5, 0, []⟩ : GOp)] x2.1).bind fun x6 =>
cond x6 (T.ask (decide ((x2.1.length : Int) = 1)) fun x7 =>
cond x7 ((t_ops_Bytes n []).bind fun x8 =>
T.ask (decide (x8 = ([0] : List UInt8))) fun x9 =>
cond x9 ((t_ops_Check n (⟨0, 0, 0, 0, 0, 0, 0, 0, []⟩ : GOp)).bind fun x10 =>
T.bnd (!x10) fun x11 =>
T.ret x11) (T.ret false)) (T.ret false)) (T.ret false)) (T.ret false)) (T.ret false)).bind <| fun y0_1 =>
T.ret (y0_1)
theorem t_law05_awake_ok (n : Nat) : (t_law05_awake n).run = d_law05_awake n := by
  simp only [t_law05_awake, d_law05_awake, T.rs, T_ixInt_ok, t_ops_Bytes_ok, t_ops_Check_ok, t_ops_Read_ok, t_ops_Same_ok]
def t_law05_OpsWrong (n : Nat) (a1 : Int) (a2 : Int) (a3 : Int) : T An (Bool) :=
(t_law00_Place a1 16).bind fun x4 =>
T.wr (1 + x4) fun x5 =>
(t_law00_Place a3 1000).bind fun x6 =>
T.wr (1 + x6) fun x7 =>
T.ask (decide (x5 = 0)) fun x9 =>
cond x9 ((t_ops_Check n (⟨0, 0, 0, 0, 0, 0, 0, 0, []⟩ : GOp)).bind fun x586 =>
T.bnd (!x586) fun x587 =>
T.asrt (x587 = false) <|
(t_law00_Place a2 10).bind fun x588 =>
(show T An (Int × Int × Int × Int × Int × Int × Int × Int × (List Int)) from
T.ask (decide (x588 = 0)) fun x591 =>
cond x591 (T.wr (16 + x7) fun x613 =>
T.ret ((x613 : Int), (0 : Int), (0 : Int), (0 : Int), (0 : Int), (0 : Int), (0 : Int), (0 : Int), (([] : List Int) : List Int))) (T.ask (decide (x588 = 1)) fun x592 =>
cond x592 (T.wr (0 - x7) fun x612 =>
T.ret ((x612 : Int), (0 : Int), (0 : Int), (0 : Int), (0 : Int), (0 : Int), (0 : Int), (0 : Int), (([] : List Int) : List Int))) (T.ask (decide (x588 = 2)) fun x593 =>
cond x593 (T.wr (3 + x7) fun x611 =>
T.ret ((0 : Int), (x611 : Int), (0 : Int), (0 : Int), (0 : Int), (0 : Int), (0 : Int), (0 : Int), (([] : List Int) : List Int))) (T.ask (decide (x588 = 3)) fun x594 =>
cond x594 (T.wr (0 - x7) fun x610 =>
T.ret ((0 : Int), (0 : Int), (x610 : Int), (0 : Int), (0 : Int), (0 : Int), (0 : Int), (0 : Int), (([] : List Int) : List Int))) (T.ask (decide (x588 = 4)) fun x595 =>
cond x595 (T.wr (1 + x7) fun x609 =>
T.ret ((0 : Int), (0 : Int), (0 : Int), (x609 : Int), (0 : Int), (0 : Int), (0 : Int), (0 : Int), (([] : List Int) : List Int))) (T.ask (decide (x588 = 5)) fun x596 =>
cond x596 (T.wr (3 + x7) fun x608 =>
T.ret ((0 : Int), (0 : Int), (0 : Int), (0 : Int), (x608 : Int), (0 : Int), (0 : Int), (0 : Int), (([] : List Int) : List Int))) (T.ask (decide (x588 = 6)) fun x597 =>
cond x597 (T.wr (0 - x7) fun x607 =>
T.ret ((0 : Int), (0 : Int), (0 : Int), (0 : Int), (0 : Int), (x607 : Int), (0 : Int), (0 : Int), (([] : List Int) : List Int))) (T.ask (decide (x588 = 7)) fun x598 =>
cond x598 (T.wr (1125899906842624 + x7) fun x606 =>
T.ret ((0 : Int), (0 : Int), (0 : Int), (0 : Int), (0 : Int), (0 : Int), (x606 : Int), (0 : Int), (([] : List Int) : List Int))) (T.ask (decide (x588 = 8)) fun x599 =>
cond x599 (T.wr (39 + x7) fun x605 =>
T.ret ((0 : Int), (0 : Int), (0 : Int), (0 : Int), (0 : Int), (0 : Int), (0 : Int), (x605 : Int), (([] : List Int) : List Int))) (T.wr (0 - x7) fun x600 =>
T.bnd (([] : List Int) ++ ([x600] : List Int)) fun x602 =>
T.asrt (x602.length ≤ 68719476736) <|
T.ret ((0 : Int), (0 : Int), (0 : Int), (0 : Int), (0 : Int), (0 : Int), (0 : Int), (0 : Int), x602))))))))))).bind <| p2 fun (y0_1 : Int) (q0 : Int × Int × Int × Int × Int × Int × Int × (List Int)) => (p2 fun (y0_2 : Int) (q1 : Int × Int × Int × Int × Int × Int × (List Int)) => (p2 fun (y0_3 : Int) (q2 : Int × Int × Int × Int × Int × (List Int)) => (p2 fun (y0_4 : Int) (q3 : Int × Int × Int × Int × (List Int)) => (p2 fun (y0_5 : Int) (q4 : Int × Int × Int × (List Int)) => (p2 fun (y0_6 : Int) (q5 : Int × Int × (List Int)) => (p2 fun (y0_7 : Int) (q6 : Int × (List Int)) => (p2 fun (y0_8 : Int) y0_10 =>
(show T An (Bool) from
(t_ops_Check n (⟨y0_1, y0_2, y0_3, y0_4, y0_5, y0_6, y0_7, y0_8, y0_10⟩ : GOp)).bind fun x615 =>
T.bnd (!x615) fun x616 =>
cond x616 ((t_ops_Bytes n [(⟨y0_1, y0_2, y0_3, y0_4, y0_5, y0_6, y0_7, y0_8, y0_10⟩ : GOp)]).bind fun x617 =>
T.ask (decide (x617 = ([] : List UInt8))) fun x618 =>
cond x618 ((t_law05_awake n).bind fun x619 =>
T.ret x619) (T.ret false)) (T.ret false)).bind <| fun y1_1 =>
T.ret (y1_1)) q6) q5) q4) q3) q2) q1) q0) (T.ask (decide (x5 = 1)) fun x10 =>
cond x10 ((t_ops_Check n (⟨1, 0, 0, 0, 0, 1, 0, 0, []⟩ : GOp)).bind fun x551 =>
T.bnd (!x551) fun x552 =>
T.asrt (x552 = false) <|
(t_law00_Place a2 10).bind fun x553 =>
(show T An (Int × Int × Int × Int × Int × Int × Int × Int × (List Int)) from
T.ask (decide (x553 = 0)) fun x556 =>
cond x556 (T.wr (16 + x7) fun x578 =>
T.ret ((x578 : Int), (0 : Int), (0 : Int), (0 : Int), (0 : Int), (1 : Int), (0 : Int), (0 : Int), (([] : List Int) : List Int))) (T.ask (decide (x553 = 1)) fun x557 =>
cond x557 (T.wr (0 - x7) fun x577 =>
T.ret ((x577 : Int), (0 : Int), (0 : Int), (0 : Int), (0 : Int), (1 : Int), (0 : Int), (0 : Int), (([] : List Int) : List Int))) (T.ask (decide (x553 = 2)) fun x558 =>
cond x558 (T.wr (3 + x7) fun x576 =>
T.ret ((1 : Int), (x576 : Int), (0 : Int), (0 : Int), (0 : Int), (1 : Int), (0 : Int), (0 : Int), (([] : List Int) : List Int))) (T.ask (decide (x553 = 3)) fun x559 =>
cond x559 (T.wr (0 - x7) fun x575 =>
T.ret ((1 : Int), (0 : Int), (x575 : Int), (0 : Int), (0 : Int), (1 : Int), (0 : Int), (0 : Int), (([] : List Int) : List Int))) (T.ask (decide (x553 = 4)) fun x560 =>
cond x560 (T.wr (1 + x7) fun x574 =>
T.ret ((1 : Int), (0 : Int), (0 : Int), (x574 : Int), (0 : Int), (1 : Int), (0 : Int), (0 : Int), (([] : List Int) : List Int))) (T.ask (decide (x553 = 5)) fun x561 =>
cond x561 (T.wr (3 + x7) fun x573 =>
T.ret ((1 : Int), (0 : Int), (0 : Int), (0 : Int), (x573 : Int), (1 : Int), (0 : Int), (0 : Int), (([] : List Int) : List Int))) (T.ask (decide (x553 = 6)) fun x562 =>
cond x562 (T.wr (0 - x7) fun x572 =>
T.ret ((1 : Int), (0 : Int), (0 : Int), (0 : Int), (0 : Int), (x572 : Int), (0 : Int), (0 : Int), (([] : List Int) : List Int))) (T.ask (decide (x553 = 7)) fun x563 =>
cond x563 (T.wr (1125899906842624 + x7) fun x571 =>
T.ret ((1 : Int), (0 : Int), (0 : Int), (0 : Int), (0 : Int), (1 : Int), (x571 : Int), (0 : Int), (([] : List Int) : List Int))) (T.ask (decide (x553 = 8)) fun x564 =>
cond x564 (T.wr (39 + x7) fun x570 =>
T.ret ((1 : Int), (0 : Int), (0 : Int), (0 : Int), (0 : Int), (1 : Int), (0 : Int), (x570 : Int), (([] : List Int) : List Int))) (T.wr (0 - x7) fun x565 =>
T.bnd (([] : List Int) ++ ([x565] : List Int)) fun x567 =>
T.asrt (x567.length ≤ 68719476736) <|
T.ret ((1 : Int), (0 : Int), (0 : Int), (0 : Int), (0 : Int), (1 : Int), (0 : Int), (0 : Int), x567))))))))))).bind <| p2 fun (y0_1 : Int) (q0 : Int × Int × Int × Int × Int × Int × Int × (List Int)) => (p2 fun (y0_2 : Int) (q1 : Int × Int × Int × Int × Int × Int × (List Int)) => (p2 fun (y0_3 : Int) (q2 : Int × Int × Int × Int × Int × (List Int)) => (p2 fun (y0_4 : Int) (q3 : Int × Int × Int × Int × (List Int)) => (p2 fun (y0_5 : Int) (q4 : Int × Int × Int × (List Int)) => (p2 fun (y0_6 : Int) (q5 : Int × Int × (List Int)) => (p2 fun (y0_7 : Int) (q6 : Int × (List Int)) => (p2 fun (y0_8 : Int) y0_10 =>
(show T An (Bool) from
(t_ops_Check n (⟨y0_1, y0_2, y0_3, y0_4, y0_5, y0_6, y0_7, y0_8, y0_10⟩ : GOp)).bind fun x580 =>
T.bnd (!x580) fun x581 =>
cond x581 ((t_ops_Bytes n [(⟨y0_1, y0_2, y0_3, y0_4, y0_5, y0_6, y0_7, y0_8, y0_10⟩ : GOp)]).bind fun x582 =>
T.ask (decide (x582 = ([] : List UInt8))) fun x583 =>
cond x583 ((t_law05_awake n).bind fun x584 =>
T.ret x584) (T.ret false)) (T.ret false)).bind <| fun y1_1 =>
T.ret (y1_1)) q6) q5) q4) q3) q2) q1) q0) (T.ask (decide (x5 = 2)) fun x11 =>
cond x11 ((t_ops_Check n (⟨2, 0, 0, 0, 0, 1, 0, 0, []⟩ : GOp)).bind fun x516 =>
T.bnd (!x516) fun x517 =>
T.asrt (x517 = false) <|
(t_law00_Place a2 10).bind fun x518 =>
(show T An (Int × Int × Int × Int × Int × Int × Int × Int × (List Int)) from
T.ask (decide (x518 = 0)) fun x521 =>
cond x521 (T.wr (16 + x7) fun x543 =>
T.ret ((x543 : Int), (0 : Int), (0 : Int), (0 : Int), (0 : Int), (1 : Int), (0 : Int), (0 : Int), (([] : List Int) : List Int))) (T.ask (decide (x518 = 1)) fun x522 =>
cond x522 (T.wr (0 - x7) fun x542 =>
T.ret ((x542 : Int), (0 : Int), (0 : Int), (0 : Int), (0 : Int), (1 : Int), (0 : Int), (0 : Int), (([] : List Int) : List Int))) (T.ask (decide (x518 = 2)) fun x523 =>
cond x523 (T.wr (3 + x7) fun x541 =>
T.ret ((2 : Int), (x541 : Int), (0 : Int), (0 : Int), (0 : Int), (1 : Int), (0 : Int), (0 : Int), (([] : List Int) : List Int))) (T.ask (decide (x518 = 3)) fun x524 =>
cond x524 (T.wr (0 - x7) fun x540 =>
T.ret ((2 : Int), (0 : Int), (x540 : Int), (0 : Int), (0 : Int), (1 : Int), (0 : Int), (0 : Int), (([] : List Int) : List Int))) (T.ask (decide (x518 = 4)) fun x525 =>
cond x525 (T.wr (1 + x7) fun x539 =>
T.ret ((2 : Int), (0 : Int), (0 : Int), (x539 : Int), (0 : Int), (1 : Int), (0 : Int), (0 : Int), (([] : List Int) : List Int))) (T.ask (decide (x518 = 5)) fun x526 =>
cond x526 (T.wr (3 + x7) fun x538 =>
T.ret ((2 : Int), (0 : Int), (0 : Int), (0 : Int), (x538 : Int), (1 : Int), (0 : Int), (0 : Int), (([] : List Int) : List Int))) (T.ask (decide (x518 = 6)) fun x527 =>
cond x527 (T.wr (0 - x7) fun x537 =>
T.ret ((2 : Int), (0 : Int), (0 : Int), (0 : Int), (0 : Int), (x537 : Int), (0 : Int), (0 : Int), (([] : List Int) : List Int))) (T.ask (decide (x518 = 7)) fun x528 =>
cond x528 (T.wr (1125899906842624 + x7) fun x536 =>
T.ret ((2 : Int), (0 : Int), (0 : Int), (0 : Int), (0 : Int), (1 : Int), (x536 : Int), (0 : Int), (([] : List Int) : List Int))) (T.ask (decide (x518 = 8)) fun x529 =>
cond x529 (T.wr (39 + x7) fun x535 =>
T.ret ((2 : Int), (0 : Int), (0 : Int), (0 : Int), (0 : Int), (1 : Int), (0 : Int), (x535 : Int), (([] : List Int) : List Int))) (T.wr (0 - x7) fun x530 =>
T.bnd (([] : List Int) ++ ([x530] : List Int)) fun x532 =>
T.asrt (x532.length ≤ 68719476736) <|
T.ret ((2 : Int), (0 : Int), (0 : Int), (0 : Int), (0 : Int), (1 : Int), (0 : Int), (0 : Int), x532))))))))))).bind <| p2 fun (y0_1 : Int) (q0 : Int × Int × Int × Int × Int × Int × Int × (List Int)) => (p2 fun (y0_2 : Int) (q1 : Int × Int × Int × Int × Int × Int × (List Int)) => (p2 fun (y0_3 : Int) (q2 : Int × Int × Int × Int × Int × (List Int)) => (p2 fun (y0_4 : Int) (q3 : Int × Int × Int × Int × (List Int)) => (p2 fun (y0_5 : Int) (q4 : Int × Int × Int × (List Int)) => (p2 fun (y0_6 : Int) (q5 : Int × Int × (List Int)) => (p2 fun (y0_7 : Int) (q6 : Int × (List Int)) => (p2 fun (y0_8 : Int) y0_10 =>
(show T An (Bool) from
(t_ops_Check n (⟨y0_1, y0_2, y0_3, y0_4, y0_5, y0_6, y0_7, y0_8, y0_10⟩ : GOp)).bind fun x545 =>
T.bnd (!x545) fun x546 =>
cond x546 ((t_ops_Bytes n [(⟨y0_1, y0_2, y0_3, y0_4, y0_5, y0_6, y0_7, y0_8, y0_10⟩ : GOp)]).bind fun x547 =>
T.ask (decide (x547 = ([] : List UInt8))) fun x548 =>
cond x548 ((t_law05_awake n).bind fun x549 =>
T.ret x549) (T.ret false)) (T.ret false)).bind <| fun y1_1 =>
T.ret (y1_1)) q6) q5) q4) q3) q2) q1) q0) (T.ask (decide (x5 = 3)) fun x12 =>
cond x12 ((t_ops_Check n (⟨3, 0, 0, 0, 0, 1, 0, 0, []⟩ : GOp)).bind fun x481 =>
T.bnd (!x481) fun x482 =>
T.asrt (x482 = false) <|
(t_law00_Place a2 10).bind fun x483 =>
(show T An (Int × Int × Int × Int × Int × Int × Int × Int × (List Int)) from
T.ask (decide (x483 = 0)) fun x486 =>
cond x486 (T.wr (16 + x7) fun x508 =>
T.ret ((x508 : Int), (0 : Int), (0 : Int), (0 : Int), (0 : Int), (1 : Int), (0 : Int), (0 : Int), (([] : List Int) : List Int))) (T.ask (decide (x483 = 1)) fun x487 =>
cond x487 (T.wr (0 - x7) fun x507 =>
T.ret ((x507 : Int), (0 : Int), (0 : Int), (0 : Int), (0 : Int), (1 : Int), (0 : Int), (0 : Int), (([] : List Int) : List Int))) (T.ask (decide (x483 = 2)) fun x488 =>
cond x488 (T.wr (3 + x7) fun x506 =>
T.ret ((3 : Int), (x506 : Int), (0 : Int), (0 : Int), (0 : Int), (1 : Int), (0 : Int), (0 : Int), (([] : List Int) : List Int))) (T.ask (decide (x483 = 3)) fun x489 =>
cond x489 (T.wr (0 - x7) fun x505 =>
T.ret ((3 : Int), (0 : Int), (x505 : Int), (0 : Int), (0 : Int), (1 : Int), (0 : Int), (0 : Int), (([] : List Int) : List Int))) (T.ask (decide (x483 = 4)) fun x490 =>
cond x490 (T.wr (1 + x7) fun x504 =>
T.ret ((3 : Int), (0 : Int), (0 : Int), (x504 : Int), (0 : Int), (1 : Int), (0 : Int), (0 : Int), (([] : List Int) : List Int))) (T.ask (decide (x483 = 5)) fun x491 =>
cond x491 (T.wr (3 + x7) fun x503 =>
T.ret ((3 : Int), (0 : Int), (0 : Int), (0 : Int), (x503 : Int), (1 : Int), (0 : Int), (0 : Int), (([] : List Int) : List Int))) (T.ask (decide (x483 = 6)) fun x492 =>
cond x492 (T.wr (0 - x7) fun x502 =>
T.ret ((3 : Int), (0 : Int), (0 : Int), (0 : Int), (0 : Int), (x502 : Int), (0 : Int), (0 : Int), (([] : List Int) : List Int))) (T.ask (decide (x483 = 7)) fun x493 =>
cond x493 (T.wr (1125899906842624 + x7) fun x501 =>
T.ret ((3 : Int), (0 : Int), (0 : Int), (0 : Int), (0 : Int), (1 : Int), (x501 : Int), (0 : Int), (([] : List Int) : List Int))) (T.ask (decide (x483 = 8)) fun x494 =>
cond x494 (T.wr (39 + x7) fun x500 =>
T.ret ((3 : Int), (0 : Int), (0 : Int), (0 : Int), (0 : Int), (1 : Int), (0 : Int), (x500 : Int), (([] : List Int) : List Int))) (T.wr (0 - x7) fun x495 =>
T.bnd (([] : List Int) ++ ([x495] : List Int)) fun x497 =>
T.asrt (x497.length ≤ 68719476736) <|
T.ret ((3 : Int), (0 : Int), (0 : Int), (0 : Int), (0 : Int), (1 : Int), (0 : Int), (0 : Int), x497))))))))))).bind <| p2 fun (y0_1 : Int) (q0 : Int × Int × Int × Int × Int × Int × Int × (List Int)) => (p2 fun (y0_2 : Int) (q1 : Int × Int × Int × Int × Int × Int × (List Int)) => (p2 fun (y0_3 : Int) (q2 : Int × Int × Int × Int × Int × (List Int)) => (p2 fun (y0_4 : Int) (q3 : Int × Int × Int × Int × (List Int)) => (p2 fun (y0_5 : Int) (q4 : Int × Int × Int × (List Int)) => (p2 fun (y0_6 : Int) (q5 : Int × Int × (List Int)) => (p2 fun (y0_7 : Int) (q6 : Int × (List Int)) => (p2 fun (y0_8 : Int) y0_10 =>
(show T An (Bool) from
(t_ops_Check n (⟨y0_1, y0_2, y0_3, y0_4, y0_5, y0_6, y0_7, y0_8, y0_10⟩ : GOp)).bind fun x510 =>
T.bnd (!x510) fun x511 =>
cond x511 ((t_ops_Bytes n [(⟨y0_1, y0_2, y0_3, y0_4, y0_5, y0_6, y0_7, y0_8, y0_10⟩ : GOp)]).bind fun x512 =>
T.ask (decide (x512 = ([] : List UInt8))) fun x513 =>
cond x513 ((t_law05_awake n).bind fun x514 =>
T.ret x514) (T.ret false)) (T.ret false)).bind <| fun y1_1 =>
T.ret (y1_1)) q6) q5) q4) q3) q2) q1) q0) (T.ask (decide (x5 = 4)) fun x13 =>
cond x13 ((t_ops_Check n (⟨4, 0, 0, 0, 0, 1, 0, 0, []⟩ : GOp)).bind fun x446 =>
T.bnd (!x446) fun x447 =>
T.asrt (x447 = false) <|
(t_law00_Place a2 10).bind fun x448 =>
(show T An (Int × Int × Int × Int × Int × Int × Int × Int × (List Int)) from
T.ask (decide (x448 = 0)) fun x451 =>
cond x451 (T.wr (16 + x7) fun x473 =>
T.ret ((x473 : Int), (0 : Int), (0 : Int), (0 : Int), (0 : Int), (1 : Int), (0 : Int), (0 : Int), (([] : List Int) : List Int))) (T.ask (decide (x448 = 1)) fun x452 =>
cond x452 (T.wr (0 - x7) fun x472 =>
T.ret ((x472 : Int), (0 : Int), (0 : Int), (0 : Int), (0 : Int), (1 : Int), (0 : Int), (0 : Int), (([] : List Int) : List Int))) (T.ask (decide (x448 = 2)) fun x453 =>
cond x453 (T.wr (3 + x7) fun x471 =>
T.ret ((4 : Int), (x471 : Int), (0 : Int), (0 : Int), (0 : Int), (1 : Int), (0 : Int), (0 : Int), (([] : List Int) : List Int))) (T.ask (decide (x448 = 3)) fun x454 =>
cond x454 (T.wr (0 - x7) fun x470 =>
T.ret ((4 : Int), (0 : Int), (x470 : Int), (0 : Int), (0 : Int), (1 : Int), (0 : Int), (0 : Int), (([] : List Int) : List Int))) (T.ask (decide (x448 = 4)) fun x455 =>
cond x455 (T.wr (1 + x7) fun x469 =>
T.ret ((4 : Int), (0 : Int), (0 : Int), (x469 : Int), (0 : Int), (1 : Int), (0 : Int), (0 : Int), (([] : List Int) : List Int))) (T.ask (decide (x448 = 5)) fun x456 =>
cond x456 (T.wr (3 + x7) fun x468 =>
T.ret ((4 : Int), (0 : Int), (0 : Int), (0 : Int), (x468 : Int), (1 : Int), (0 : Int), (0 : Int), (([] : List Int) : List Int))) (T.ask (decide (x448 = 6)) fun x457 =>
cond x457 (T.wr (0 - x7) fun x467 =>
T.ret ((4 : Int), (0 : Int), (0 : Int), (0 : Int), (0 : Int), (x467 : Int), (0 : Int), (0 : Int), (([] : List Int) : List Int))) (T.ask (decide (x448 = 7)) fun x458 =>
cond x458 (T.wr (1125899906842624 + x7) fun x466 =>
T.ret ((4 : Int), (0 : Int), (0 : Int), (0 : Int), (0 : Int), (1 : Int), (x466 : Int), (0 : Int), (([] : List Int) : List Int))) (T.ask (decide (x448 = 8)) fun x459 =>
cond x459 (T.wr (39 + x7) fun x465 =>
T.ret ((4 : Int), (0 : Int), (0 : Int), (0 : Int), (0 : Int), (1 : Int), (0 : Int), (x465 : Int), (([] : List Int) : List Int))) (T.wr (0 - x7) fun x460 =>
T.bnd (([] : List Int) ++ ([x460] : List Int)) fun x462 =>
T.asrt (x462.length ≤ 68719476736) <|
T.ret ((4 : Int), (0 : Int), (0 : Int), (0 : Int), (0 : Int), (1 : Int), (0 : Int), (0 : Int), x462))))))))))).bind <| p2 fun (y0_1 : Int) (q0 : Int × Int × Int × Int × Int × Int × Int × (List Int)) => (p2 fun (y0_2 : Int) (q1 : Int × Int × Int × Int × Int × Int × (List Int)) => (p2 fun (y0_3 : Int) (q2 : Int × Int × Int × Int × Int × (List Int)) => (p2 fun (y0_4 : Int) (q3 : Int × Int × Int × Int × (List Int)) => (p2 fun (y0_5 : Int) (q4 : Int × Int × Int × (List Int)) => (p2 fun (y0_6 : Int) (q5 : Int × Int × (List Int)) => (p2 fun (y0_7 : Int) (q6 : Int × (List Int)) => (p2 fun (y0_8 : Int) y0_10 =>
(show T An (Bool) from
(t_ops_Check n (⟨y0_1, y0_2, y0_3, y0_4, y0_5, y0_6, y0_7, y0_8, y0_10⟩ : GOp)).bind fun x475 =>
T.bnd (!x475) fun x476 =>
cond x476 ((t_ops_Bytes n [(⟨y0_1, y0_2, y0_3, y0_4, y0_5, y0_6, y0_7, y0_8, y0_10⟩ : GOp)]).bind fun x477 =>
T.ask (decide (x477 = ([] : List UInt8))) fun x478 =>
cond x478 ((t_law05_awake n).bind fun x479 =>
T.ret x479) (T.ret false)) (T.ret false)).bind <| fun y1_1 =>
T.ret (y1_1)) q6) q5) q4) q3) q2) q1) q0) (T.ask (decide (x5 = 5)) fun x14 =>
cond x14 ((t_ops_Check n (⟨5, 0, 0, 0, 0, 1, 0, 0, []⟩ : GOp)).bind fun x411 =>
T.bnd (!x411) fun x412 =>
T.asrt (x412 = false) <|
(t_law00_Place a2 10).bind fun x413 =>
(show T An (Int × Int × Int × Int × Int × Int × Int × Int × (List Int)) from
T.ask (decide (x413 = 0)) fun x416 =>
cond x416 (T.wr (16 + x7) fun x438 =>
T.ret ((x438 : Int), (0 : Int), (0 : Int), (0 : Int), (0 : Int), (1 : Int), (0 : Int), (0 : Int), (([] : List Int) : List Int))) (T.ask (decide (x413 = 1)) fun x417 =>
cond x417 (T.wr (0 - x7) fun x437 =>
T.ret ((x437 : Int), (0 : Int), (0 : Int), (0 : Int), (0 : Int), (1 : Int), (0 : Int), (0 : Int), (([] : List Int) : List Int))) (T.ask (decide (x413 = 2)) fun x418 =>
cond x418 (T.wr (3 + x7) fun x436 =>
T.ret ((5 : Int), (x436 : Int), (0 : Int), (0 : Int), (0 : Int), (1 : Int), (0 : Int), (0 : Int), (([] : List Int) : List Int))) (T.ask (decide (x413 = 3)) fun x419 =>
cond x419 (T.wr (0 - x7) fun x435 =>
T.ret ((5 : Int), (0 : Int), (x435 : Int), (0 : Int), (0 : Int), (1 : Int), (0 : Int), (0 : Int), (([] : List Int) : List Int))) (T.ask (decide (x413 = 4)) fun x420 =>
cond x420 (T.wr (1 + x7) fun x434 =>
T.ret ((5 : Int), (0 : Int), (0 : Int), (x434 : Int), (0 : Int), (1 : Int), (0 : Int), (0 : Int), (([] : List Int) : List Int))) (T.ask (decide (x413 = 5)) fun x421 =>
cond x421 (T.wr (3 + x7) fun x433 =>
T.ret ((5 : Int), (0 : Int), (0 : Int), (0 : Int), (x433 : Int), (1 : Int), (0 : Int), (0 : Int), (([] : List Int) : List Int))) (T.ask (decide (x413 = 6)) fun x422 =>
cond x422 (T.wr (0 - x7) fun x432 =>
T.ret ((5 : Int), (0 : Int), (0 : Int), (0 : Int), (0 : Int), (x432 : Int), (0 : Int), (0 : Int), (([] : List Int) : List Int))) (T.ask (decide (x413 = 7)) fun x423 =>
cond x423 (T.wr (1125899906842624 + x7) fun x431 =>
T.ret ((5 : Int), (0 : Int), (0 : Int), (0 : Int), (0 : Int), (1 : Int), (x431 : Int), (0 : Int), (([] : List Int) : List Int))) (T.ask (decide (x413 = 8)) fun x424 =>
cond x424 (T.wr (39 + x7) fun x430 =>
T.ret ((5 : Int), (0 : Int), (0 : Int), (0 : Int), (0 : Int), (1 : Int), (0 : Int), (x430 : Int), (([] : List Int) : List Int))) (T.wr (0 - x7) fun x425 =>
T.bnd (([] : List Int) ++ ([x425] : List Int)) fun x427 =>
T.asrt (x427.length ≤ 68719476736) <|
T.ret ((5 : Int), (0 : Int), (0 : Int), (0 : Int), (0 : Int), (1 : Int), (0 : Int), (0 : Int), x427))))))))))).bind <| p2 fun (y0_1 : Int) (q0 : Int × Int × Int × Int × Int × Int × Int × (List Int)) => (p2 fun (y0_2 : Int) (q1 : Int × Int × Int × Int × Int × Int × (List Int)) => (p2 fun (y0_3 : Int) (q2 : Int × Int × Int × Int × Int × (List Int)) => (p2 fun (y0_4 : Int) (q3 : Int × Int × Int × Int × (List Int)) => (p2 fun (y0_5 : Int) (q4 : Int × Int × Int × (List Int)) => (p2 fun (y0_6 : Int) (q5 : Int × Int × (List Int)) => (p2 fun (y0_7 : Int) (q6 : Int × (List Int)) => (p2 fun (y0_8 : Int) y0_10 =>
(show T An (Bool) from
(t_ops_Check n (⟨y0_1, y0_2, y0_3, y0_4, y0_5, y0_6, y0_7, y0_8, y0_10⟩ : GOp)).bind fun x440 =>
T.bnd (!x440) fun x441 =>
cond x441 ((t_ops_Bytes n [(⟨y0_1, y0_2, y0_3, y0_4, y0_5, y0_6, y0_7, y0_8, y0_10⟩ : GOp)]).bind fun x442 =>
T.ask (decide (x442 = ([] : List UInt8))) fun x443 =>
cond x443 ((t_law05_awake n).bind fun x444 =>
T.ret x444) (T.ret false)) (T.ret false)).bind <| fun y1_1 =>
T.ret (y1_1)) q6) q5) q4) q3) q2) q1) q0) (T.ask (decide (x5 = 6)) fun x15 =>
cond x15 ((t_ops_Check n (⟨6, 0, 0, 0, 0, 1, 0, 0, []⟩ : GOp)).bind fun x376 =>
T.bnd (!x376) fun x377 =>
T.asrt (x377 = false) <|
(t_law00_Place a2 10).bind fun x378 =>
(show T An (Int × Int × Int × Int × Int × Int × Int × Int × (List Int)) from
T.ask (decide (x378 = 0)) fun x381 =>
cond x381 (T.wr (16 + x7) fun x403 =>
T.ret ((x403 : Int), (0 : Int), (0 : Int), (0 : Int), (0 : Int), (1 : Int), (0 : Int), (0 : Int), (([] : List Int) : List Int))) (T.ask (decide (x378 = 1)) fun x382 =>
cond x382 (T.wr (0 - x7) fun x402 =>
T.ret ((x402 : Int), (0 : Int), (0 : Int), (0 : Int), (0 : Int), (1 : Int), (0 : Int), (0 : Int), (([] : List Int) : List Int))) (T.ask (decide (x378 = 2)) fun x383 =>
cond x383 (T.wr (3 + x7) fun x401 =>
T.ret ((6 : Int), (x401 : Int), (0 : Int), (0 : Int), (0 : Int), (1 : Int), (0 : Int), (0 : Int), (([] : List Int) : List Int))) (T.ask (decide (x378 = 3)) fun x384 =>
cond x384 (T.wr (0 - x7) fun x400 =>
T.ret ((6 : Int), (0 : Int), (x400 : Int), (0 : Int), (0 : Int), (1 : Int), (0 : Int), (0 : Int), (([] : List Int) : List Int))) (T.ask (decide (x378 = 4)) fun x385 =>
cond x385 (T.wr (1 + x7) fun x399 =>
T.ret ((6 : Int), (0 : Int), (0 : Int), (x399 : Int), (0 : Int), (1 : Int), (0 : Int), (0 : Int), (([] : List Int) : List Int))) (T.ask (decide (x378 = 5)) fun x386 =>
cond x386 (T.wr (3 + x7) fun x398 =>
T.ret ((6 : Int), (0 : Int), (0 : Int), (0 : Int), (x398 : Int), (1 : Int), (0 : Int), (0 : Int), (([] : List Int) : List Int))) (T.ask (decide (x378 = 6)) fun x387 =>
cond x387 (T.wr (0 - x7) fun x397 =>
T.ret ((6 : Int), (0 : Int), (0 : Int), (0 : Int), (0 : Int), (x397 : Int), (0 : Int), (0 : Int), (([] : List Int) : List Int))) (T.ask (decide (x378 = 7)) fun x388 =>
cond x388 (T.wr (1125899906842624 + x7) fun x396 =>
T.ret ((6 : Int), (0 : Int), (0 : Int), (0 : Int), (0 : Int), (1 : Int), (x396 : Int), (0 : Int), (([] : List Int) : List Int))) (T.ask (decide (x378 = 8)) fun x389 =>
cond x389 (T.wr (39 + x7) fun x395 =>
T.ret ((6 : Int), (0 : Int), (0 : Int), (0 : Int), (0 : Int), (1 : Int), (0 : Int), (x395 : Int), (([] : List Int) : List Int))) (T.wr (0 - x7) fun x390 =>
T.bnd (([] : List Int) ++ ([x390] : List Int)) fun x392 =>
T.asrt (x392.length ≤ 68719476736) <|
T.ret ((6 : Int), (0 : Int), (0 : Int), (0 : Int), (0 : Int), (1 : Int), (0 : Int), (0 : Int), x392))))))))))).bind <| p2 fun (y0_1 : Int) (q0 : Int × Int × Int × Int × Int × Int × Int × (List Int)) => (p2 fun (y0_2 : Int) (q1 : Int × Int × Int × Int × Int × Int × (List Int)) => (p2 fun (y0_3 : Int) (q2 : Int × Int × Int × Int × Int × (List Int)) => (p2 fun (y0_4 : Int) (q3 : Int × Int × Int × Int × (List Int)) => (p2 fun (y0_5 : Int) (q4 : Int × Int × Int × (List Int)) => (p2 fun (y0_6 : Int) (q5 : Int × Int × (List Int)) => (p2 fun (y0_7 : Int) (q6 : Int × (List Int)) => (p2 fun (y0_8 : Int) y0_10 =>
(show T An (Bool) from
(t_ops_Check n (⟨y0_1, y0_2, y0_3, y0_4, y0_5, y0_6, y0_7, y0_8, y0_10⟩ : GOp)).bind fun x405 =>
T.bnd (!x405) fun x406 =>
cond x406 ((t_ops_Bytes n [(⟨y0_1, y0_2, y0_3, y0_4, y0_5, y0_6, y0_7, y0_8, y0_10⟩ : GOp)]).bind fun x407 =>
T.ask (decide (x407 = ([] : List UInt8))) fun x408 =>
cond x408 ((t_law05_awake n).bind fun x409 =>
T.ret x409) (T.ret false)) (T.ret false)).bind <| fun y1_1 =>
T.ret (y1_1)) q6) q5) q4) q3) q2) q1) q0) (T.ask (decide (x5 = 7)) fun x16 =>
cond x16 ((t_ops_Check n (⟨7, 0, 0, 0, 0, 0, 0, 0, []⟩ : GOp)).bind fun x341 =>
T.bnd (!x341) fun x342 =>
T.asrt (x342 = false) <|
(t_law00_Place a2 10).bind fun x343 =>
(show T An (Int × Int × Int × Int × Int × Int × Int × Int × (List Int)) from
T.ask (decide (x343 = 0)) fun x346 =>
cond x346 (T.wr (16 + x7) fun x368 =>
T.ret ((x368 : Int), (0 : Int), (0 : Int), (0 : Int), (0 : Int), (0 : Int), (0 : Int), (0 : Int), (([] : List Int) : List Int))) (T.ask (decide (x343 = 1)) fun x347 =>
cond x347 (T.wr (0 - x7) fun x367 =>
T.ret ((x367 : Int), (0 : Int), (0 : Int), (0 : Int), (0 : Int), (0 : Int), (0 : Int), (0 : Int), (([] : List Int) : List Int))) (T.ask (decide (x343 = 2)) fun x348 =>
cond x348 (T.wr (3 + x7) fun x366 =>
T.ret ((7 : Int), (x366 : Int), (0 : Int), (0 : Int), (0 : Int), (0 : Int), (0 : Int), (0 : Int), (([] : List Int) : List Int))) (T.ask (decide (x343 = 3)) fun x349 =>
cond x349 (T.wr (0 - x7) fun x365 =>
T.ret ((7 : Int), (0 : Int), (x365 : Int), (0 : Int), (0 : Int), (0 : Int), (0 : Int), (0 : Int), (([] : List Int) : List Int))) (T.ask (decide (x343 = 4)) fun x350 =>
cond x350 (T.wr (1 + x7) fun x364 =>
T.ret ((7 : Int), (0 : Int), (0 : Int), (x364 : Int), (0 : Int), (0 : Int), (0 : Int), (0 : Int), (([] : List Int) : List Int))) (T.ask (decide (x343 = 5)) fun x351 =>
cond x351 (T.wr (3 + x7) fun x363 =>
T.ret ((7 : Int), (0 : Int), (0 : Int), (0 : Int), (x363 : Int), (0 : Int), (0 : Int), (0 : Int), (([] : List Int) : List Int))) (T.ask (decide (x343 = 6)) fun x352 =>
cond x352 (T.wr (0 - x7) fun x362 =>
T.ret ((7 : Int), (0 : Int), (0 : Int), (0 : Int), (0 : Int), (x362 : Int), (0 : Int), (0 : Int), (([] : List Int) : List Int))) (T.ask (decide (x343 = 7)) fun x353 =>
cond x353 (T.wr (1125899906842624 + x7) fun x361 =>
T.ret ((7 : Int), (0 : Int), (0 : Int), (0 : Int), (0 : Int), (0 : Int), (x361 : Int), (0 : Int), (([] : List Int) : List Int))) (T.ask (decide (x343 = 8)) fun x354 =>
cond x354 (T.wr (39 + x7) fun x360 =>
T.ret ((7 : Int), (0 : Int), (0 : Int), (0 : Int), (0 : Int), (0 : Int), (0 : Int), (x360 : Int), (([] : List Int) : List Int))) (T.wr (0 - x7) fun x355 =>
T.bnd (([] : List Int) ++ ([x355] : List Int)) fun x357 =>
T.asrt (x357.length ≤ 68719476736) <|
T.ret ((7 : Int), (0 : Int), (0 : Int), (0 : Int), (0 : Int), (0 : Int), (0 : Int), (0 : Int), x357))))))))))).bind <| p2 fun (y0_1 : Int) (q0 : Int × Int × Int × Int × Int × Int × Int × (List Int)) => (p2 fun (y0_2 : Int) (q1 : Int × Int × Int × Int × Int × Int × (List Int)) => (p2 fun (y0_3 : Int) (q2 : Int × Int × Int × Int × Int × (List Int)) => (p2 fun (y0_4 : Int) (q3 : Int × Int × Int × Int × (List Int)) => (p2 fun (y0_5 : Int) (q4 : Int × Int × Int × (List Int)) => (p2 fun (y0_6 : Int) (q5 : Int × Int × (List Int)) => (p2 fun (y0_7 : Int) (q6 : Int × (List Int)) => (p2 fun (y0_8 : Int) y0_10 =>
(show T An (Bool) from
(t_ops_Check n (⟨y0_1, y0_2, y0_3, y0_4, y0_5, y0_6, y0_7, y0_8, y0_10⟩ : GOp)).bind fun x370 =>
T.bnd (!x370) fun x371 =>
cond x371 ((t_ops_Bytes n [(⟨y0_1, y0_2, y0_3, y0_4, y0_5, y0_6, y0_7, y0_8, y0_10⟩ : GOp)]).bind fun x372 =>
T.ask (decide (x372 = ([] : List UInt8))) fun x373 =>
cond x373 ((t_law05_awake n).bind fun x374 =>
T.ret x374) (T.ret false)) (T.ret false)).bind <| fun y1_1 =>
T.ret (y1_1)) q6) q5) q4) q3) q2) q1) q0) (T.ask (decide (x5 = 8)) fun x17 =>
cond x17 ((t_ops_Check n (⟨8, 0, 0, 0, 1, 1, 0, 0, []⟩ : GOp)).bind fun x306 =>
T.bnd (!x306) fun x307 =>
T.asrt (x307 = false) <|
(t_law00_Place a2 10).bind fun x308 =>
(show T An (Int × Int × Int × Int × Int × Int × Int × Int × (List Int)) from
T.ask (decide (x308 = 0)) fun x311 =>
cond x311 (T.wr (16 + x7) fun x333 =>
T.ret ((x333 : Int), (0 : Int), (0 : Int), (0 : Int), (1 : Int), (1 : Int), (0 : Int), (0 : Int), (([] : List Int) : List Int))) (T.ask (decide (x308 = 1)) fun x312 =>
cond x312 (T.wr (0 - x7) fun x332 =>
T.ret ((x332 : Int), (0 : Int), (0 : Int), (0 : Int), (1 : Int), (1 : Int), (0 : Int), (0 : Int), (([] : List Int) : List Int))) (T.ask (decide (x308 = 2)) fun x313 =>
cond x313 (T.wr (3 + x7) fun x331 =>
T.ret ((8 : Int), (x331 : Int), (0 : Int), (0 : Int), (1 : Int), (1 : Int), (0 : Int), (0 : Int), (([] : List Int) : List Int))) (T.ask (decide (x308 = 3)) fun x314 =>
cond x314 (T.wr (0 - x7) fun x330 =>
T.ret ((8 : Int), (0 : Int), (x330 : Int), (0 : Int), (1 : Int), (1 : Int), (0 : Int), (0 : Int), (([] : List Int) : List Int))) (T.ask (decide (x308 = 4)) fun x315 =>
cond x315 (T.wr (1 + x7) fun x329 =>
T.ret ((8 : Int), (0 : Int), (0 : Int), (x329 : Int), (1 : Int), (1 : Int), (0 : Int), (0 : Int), (([] : List Int) : List Int))) (T.ask (decide (x308 = 5)) fun x316 =>
cond x316 (T.wr (3 + x7) fun x328 =>
T.ret ((8 : Int), (0 : Int), (0 : Int), (0 : Int), (x328 : Int), (1 : Int), (0 : Int), (0 : Int), (([] : List Int) : List Int))) (T.ask (decide (x308 = 6)) fun x317 =>
cond x317 (T.wr (0 - x7) fun x327 =>
T.ret ((8 : Int), (0 : Int), (0 : Int), (0 : Int), (1 : Int), (x327 : Int), (0 : Int), (0 : Int), (([] : List Int) : List Int))) (T.ask (decide (x308 = 7)) fun x318 =>
cond x318 (T.wr (1125899906842624 + x7) fun x326 =>
T.ret ((8 : Int), (0 : Int), (0 : Int), (0 : Int), (1 : Int), (1 : Int), (x326 : Int), (0 : Int), (([] : List Int) : List Int))) (T.ask (decide (x308 = 8)) fun x319 =>
cond x319 (T.wr (39 + x7) fun x325 =>
T.ret ((8 : Int), (0 : Int), (0 : Int), (0 : Int), (1 : Int), (1 : Int), (0 : Int), (x325 : Int), (([] : List Int) : List Int))) (T.wr (0 - x7) fun x320 =>
T.bnd (([] : List Int) ++ ([x320] : List Int)) fun x322 =>
T.asrt (x322.length ≤ 68719476736) <|
T.ret ((8 : Int), (0 : Int), (0 : Int), (0 : Int), (1 : Int), (1 : Int), (0 : Int), (0 : Int), x322))))))))))).bind <| p2 fun (y0_1 : Int) (q0 : Int × Int × Int × Int × Int × Int × Int × (List Int)) => (p2 fun (y0_2 : Int) (q1 : Int × Int × Int × Int × Int × Int × (List Int)) => (p2 fun (y0_3 : Int) (q2 : Int × Int × Int × Int × Int × (List Int)) => (p2 fun (y0_4 : Int) (q3 : Int × Int × Int × Int × (List Int)) => (p2 fun (y0_5 : Int) (q4 : Int × Int × Int × (List Int)) => (p2 fun (y0_6 : Int) (q5 : Int × Int × (List Int)) => (p2 fun (y0_7 : Int) (q6 : Int × (List Int)) => (p2 fun (y0_8 : Int) y0_10 =>
(show T An (Bool) from
(t_ops_Check n (⟨y0_1, y0_2, y0_3, y0_4, y0_5, y0_6, y0_7, y0_8, y0_10⟩ : GOp)).bind fun x335 =>
T.bnd (!x335) fun x336 =>
cond x336 ((t_ops_Bytes n [(⟨y0_1, y0_2, y0_3, y0_4, y0_5, y0_6, y0_7, y0_8, y0_10⟩ : GOp)]).bind fun x337 =>
T.ask (decide (x337 = ([] : List UInt8))) fun x338 =>
cond x338 ((t_law05_awake n).bind fun x339 =>
T.ret x339) (T.ret false)) (T.ret false)).bind <| fun y1_1 =>
T.ret (y1_1)) q6) q5) q4) q3) q2) q1) q0) (T.ask (decide (x5 = 9)) fun x18 =>
cond x18 ((t_ops_Check n (⟨9, 0, 0, 0, 0, 0, 0, 0, []⟩ : GOp)).bind fun x271 =>
T.bnd (!x271) fun x272 =>
T.asrt (x272 = false) <|
(t_law00_Place a2 10).bind fun x273 =>
(show T An (Int × Int × Int × Int × Int × Int × Int × Int × (List Int)) from
T.ask (decide (x273 = 0)) fun x276 =>
cond x276 (T.wr (16 + x7) fun x298 =>
T.ret ((x298 : Int), (0 : Int), (0 : Int), (0 : Int), (0 : Int), (0 : Int), (0 : Int), (0 : Int), (([] : List Int) : List Int))) (T.ask (decide (x273 = 1)) fun x277 =>
cond x277 (T.wr (0 - x7) fun x297 =>
T.ret ((x297 : Int), (0 : Int), (0 : Int), (0 : Int), (0 : Int), (0 : Int), (0 : Int), (0 : Int), (([] : List Int) : List Int))) (T.ask (decide (x273 = 2)) fun x278 =>
cond x278 (T.wr (3 + x7) fun x296 =>
T.ret ((9 : Int), (x296 : Int), (0 : Int), (0 : Int), (0 : Int), (0 : Int), (0 : Int), (0 : Int), (([] : List Int) : List Int))) (T.ask (decide (x273 = 3)) fun x279 =>
cond x279 (T.wr (0 - x7) fun x295 =>
T.ret ((9 : Int), (0 : Int), (x295 : Int), (0 : Int), (0 : Int), (0 : Int), (0 : Int), (0 : Int), (([] : List Int) : List Int))) (T.ask (decide (x273 = 4)) fun x280 =>
cond x280 (T.wr (1 + x7) fun x294 =>
T.ret ((9 : Int), (0 : Int), (0 : Int), (x294 : Int), (0 : Int), (0 : Int), (0 : Int), (0 : Int), (([] : List Int) : List Int))) (T.ask (decide (x273 = 5)) fun x281 =>
cond x281 (T.wr (3 + x7) fun x293 =>
T.ret ((9 : Int), (0 : Int), (0 : Int), (0 : Int), (x293 : Int), (0 : Int), (0 : Int), (0 : Int), (([] : List Int) : List Int))) (T.ask (decide (x273 = 6)) fun x282 =>
cond x282 (T.wr (0 - x7) fun x292 =>
T.ret ((9 : Int), (0 : Int), (0 : Int), (0 : Int), (0 : Int), (x292 : Int), (0 : Int), (0 : Int), (([] : List Int) : List Int))) (T.ask (decide (x273 = 7)) fun x283 =>
cond x283 (T.wr (1125899906842624 + x7) fun x291 =>
T.ret ((9 : Int), (0 : Int), (0 : Int), (0 : Int), (0 : Int), (0 : Int), (x291 : Int), (0 : Int), (([] : List Int) : List Int))) (T.ask (decide (x273 = 8)) fun x284 =>
cond x284 (T.wr (39 + x7) fun x290 =>
T.ret ((9 : Int), (0 : Int), (0 : Int), (0 : Int), (0 : Int), (0 : Int), (0 : Int), (x290 : Int), (([] : List Int) : List Int))) (T.wr (0 - x7) fun x285 =>
T.bnd (([] : List Int) ++ ([x285] : List Int)) fun x287 =>
T.asrt (x287.length ≤ 68719476736) <|
T.ret ((9 : Int), (0 : Int), (0 : Int), (0 : Int), (0 : Int), (0 : Int), (0 : Int), (0 : Int), x287))))))))))).bind <| p2 fun (y0_1 : Int) (q0 : Int × Int × Int × Int × Int × Int × Int × (List Int)) => (p2 fun (y0_2 : Int) (q1 : Int × Int × Int × Int × Int × Int × (List Int)) => (p2 fun (y0_3 : Int) (q2 : Int × Int × Int × Int × Int × (List Int)) => (p2 fun (y0_4 : Int) (q3 : Int × Int × Int × Int × (List Int)) => (p2 fun (y0_5 : Int) (q4 : Int × Int × Int × (List Int)) => (p2 fun (y0_6 : Int) (q5 : Int × Int × (List Int)) => (p2 fun (y0_7 : Int) (q6 : Int × (List Int)) => (p2 fun (y0_8 : Int) y0_10 =>
(show T An (Bool) from
(t_ops_Check n (⟨y0_1, y0_2, y0_3, y0_4, y0_5, y0_6, y0_7, y0_8, y0_10⟩ : GOp)).bind fun x300 =>
T.bnd (!x300) fun x301 =>
cond x301 ((t_ops_Bytes n [(⟨y0_1, y0_2, y0_3, y0_4, y0_5, y0_6, y0_7, y0_8, y0_10⟩ : GOp)]).bind fun x302 =>
T.ask (decide (x302 = ([] : List UInt8))) fun x303 =>
cond x303 ((t_law05_awake n).bind fun x304 =>
T.ret x304) (T.ret false)) (T.ret false)).bind <| fun y1_1 =>
T.ret (y1_1)) q6) q5) q4) q3) q2) q1) q0) (T.ask (decide (x5 = 10)) fun x19 =>
cond x19 ((t_ops_Check n (⟨10, 0, 0, 0, 0, 0, 0, 0, []⟩ : GOp)).bind fun x236 =>
T.bnd (!x236) fun x237 =>
T.asrt (x237 = false) <|
(t_law00_Place a2 10).bind fun x238 =>
(show T An (Int × Int × Int × Int × Int × Int × Int × Int × (List Int)) from
T.ask (decide (x238 = 0)) fun x241 =>
cond x241 (T.wr (16 + x7) fun x263 =>
T.ret ((x263 : Int), (0 : Int), (0 : Int), (0 : Int), (0 : Int), (0 : Int), (0 : Int), (0 : Int), (([] : List Int) : List Int))) (T.ask (decide (x238 = 1)) fun x242 =>
cond x242 (T.wr (0 - x7) fun x262 =>
T.ret ((x262 : Int), (0 : Int), (0 : Int), (0 : Int), (0 : Int), (0 : Int), (0 : Int), (0 : Int), (([] : List Int) : List Int))) (T.ask (decide (x238 = 2)) fun x243 =>
cond x243 (T.wr (3 + x7) fun x261 =>
T.ret ((10 : Int), (x261 : Int), (0 : Int), (0 : Int), (0 : Int), (0 : Int), (0 : Int), (0 : Int), (([] : List Int) : List Int))) (T.ask (decide (x238 = 3)) fun x244 =>
cond x244 (T.wr (0 - x7) fun x260 =>
T.ret ((10 : Int), (0 : Int), (x260 : Int), (0 : Int), (0 : Int), (0 : Int), (0 : Int), (0 : Int), (([] : List Int) : List Int))) (T.ask (decide (x238 = 4)) fun x245 =>
cond x245 (T.wr (1 + x7) fun x259 =>
T.ret ((10 : Int), (0 : Int), (0 : Int), (x259 : Int), (0 : Int), (0 : Int), (0 : Int), (0 : Int), (([] : List Int) : List Int))) (T.ask (decide (x238 = 5)) fun x246 =>
cond x246 (T.wr (3 + x7) fun x258 =>
T.ret ((10 : Int), (0 : Int), (0 : Int), (0 : Int), (x258 : Int), (0 : Int), (0 : Int), (0 : Int), (([] : List Int) : List Int))) (T.ask (decide (x238 = 6)) fun x247 =>
cond x247 (T.wr (0 - x7) fun x257 =>
T.ret ((10 : Int), (0 : Int), (0 : Int), (0 : Int), (0 : Int), (x257 : Int), (0 : Int), (0 : Int), (([] : List Int) : List Int))) (T.ask (decide (x238 = 7)) fun x248 =>
cond x248 (T.wr (1125899906842624 + x7) fun x256 =>
T.ret ((10 : Int), (0 : Int), (0 : Int), (0 : Int), (0 : Int), (0 : Int), (x256 : Int), (0 : Int), (([] : List Int) : List Int))) (T.ask (decide (x238 = 8)) fun x249 =>
cond x249 (T.wr (39 + x7) fun x255 =>
T.ret ((10 : Int), (0 : Int), (0 : Int), (0 : Int), (0 : Int), (0 : Int), (0 : Int), (x255 : Int), (([] : List Int) : List Int))) (T.wr (0 - x7) fun x250 =>
T.bnd (([] : List Int) ++ ([x250] : List Int)) fun x252 =>
T.asrt (x252.length ≤ 68719476736) <|
T.ret ((10 : Int), (0 : Int), (0 : Int), (0 : Int), (0 : Int), (0 : Int), (0 : Int), (0 : Int), x252))))))))))).bind <| p2 fun (y0_1 : Int) (q0 : Int × Int × Int × Int × Int × Int × Int × (List Int)) => (p2 fun (y0_2 : Int) (q1 : Int × Int × Int × Int × Int × Int × (List Int)) => (p2 fun (y0_3 : Int) (q2 : Int × Int × Int × Int × Int × (List Int)) => (p2 fun (y0_4 : Int) (q3 : Int × Int × Int × Int × (List Int)) => (p2 fun (y0_5 : Int) (q4 : Int × Int × Int × (List Int)) => (p2 fun (y0_6 : Int) (q5 : Int × Int × (List Int)) => (p2 fun (y0_7 : Int) (q6 : Int × (List Int)) => (p2 fun (y0_8 : Int) y0_10 =>
(show T An (Bool) from
(t_ops_Check n (⟨y0_1, y0_2, y0_3, y0_4, y0_5, y0_6, y0_7, y0_8, y0_10⟩ : GOp)).bind fun x265 =>
T.bnd (!x265) fun x266 =>
cond x266 ((t_ops_Bytes n [(⟨y0_1, y0_2, y0_3, y0_4, y0_5, y0_6, y0_7, y0_8, y0_10⟩ : GOp)]).bind fun x267 =>
T.ask (decide (x267 = ([] : List UInt8))) fun x268 =>
cond x268 ((t_law05_awake n).bind fun x269 =>
T.ret x269) (T.ret false)) (T.ret false)).bind <| fun y1_1 =>
T.ret (y1_1)) q6) q5) q4) q3) q2) q1) q0) (T.ask (decide (x5 = 11)) fun x20 =>
cond x20 ((t_ops_Check n (⟨11, 0, 0, 0, 0, 0, 0, 0, ([0] : List Int)⟩ : GOp)).bind fun x202 =>
T.bnd (!x202) fun x203 =>
T.asrt (x203 = false) <|
(t_law00_Place a2 10).bind fun x204 =>
(show T An (Int × Int × Int × Int × Int × Int × Int × Int × (List Int)) from
T.ask (decide (x204 = 0)) fun x206 =>
cond x206 (T.wr (16 + x7) fun x228 =>
T.ret ((x228 : Int), (0 : Int), (0 : Int), (0 : Int), (0 : Int), (0 : Int), (0 : Int), (0 : Int), (([0] : List Int) : List Int))) (T.ask (decide (x204 = 1)) fun x207 =>
cond x207 (T.wr (0 - x7) fun x227 =>
T.ret ((x227 : Int), (0 : Int), (0 : Int), (0 : Int), (0 : Int), (0 : Int), (0 : Int), (0 : Int), (([0] : List Int) : List Int))) (T.ask (decide (x204 = 2)) fun x208 =>
cond x208 (T.wr (3 + x7) fun x226 =>
T.ret ((11 : Int), (x226 : Int), (0 : Int), (0 : Int), (0 : Int), (0 : Int), (0 : Int), (0 : Int), (([0] : List Int) : List Int))) (T.ask (decide (x204 = 3)) fun x209 =>
cond x209 (T.wr (0 - x7) fun x225 =>
T.ret ((11 : Int), (0 : Int), (x225 : Int), (0 : Int), (0 : Int), (0 : Int), (0 : Int), (0 : Int), (([0] : List Int) : List Int))) (T.ask (decide (x204 = 4)) fun x210 =>
cond x210 (T.wr (1 + x7) fun x224 =>
T.ret ((11 : Int), (0 : Int), (0 : Int), (x224 : Int), (0 : Int), (0 : Int), (0 : Int), (0 : Int), (([0] : List Int) : List Int))) (T.ask (decide (x204 = 5)) fun x211 =>
cond x211 (T.wr (3 + x7) fun x223 =>
T.ret ((11 : Int), (0 : Int), (0 : Int), (0 : Int), (x223 : Int), (0 : Int), (0 : Int), (0 : Int), (([0] : List Int) : List Int))) (T.ask (decide (x204 = 6)) fun x212 =>
cond x212 (T.wr (0 - x7) fun x222 =>
T.ret ((11 : Int), (0 : Int), (0 : Int), (0 : Int), (0 : Int), (x222 : Int), (0 : Int), (0 : Int), (([0] : List Int) : List Int))) (T.ask (decide (x204 = 7)) fun x213 =>
cond x213 (T.wr (1125899906842624 + x7) fun x221 =>
T.ret ((11 : Int), (0 : Int), (0 : Int), (0 : Int), (0 : Int), (0 : Int), (x221 : Int), (0 : Int), (([0] : List Int) : List Int))) (T.ask (decide (x204 = 8)) fun x214 =>
cond x214 (T.wr (39 + x7) fun x220 =>
T.ret ((11 : Int), (0 : Int), (0 : Int), (0 : Int), (0 : Int), (0 : Int), (0 : Int), (x220 : Int), (([0] : List Int) : List Int))) (T.wr (0 - x7) fun x215 =>
T.bnd (([0] : List Int) ++ ([x215] : List Int)) fun x217 =>
T.asrt (x217.length ≤ 68719476736) <|
T.ret ((11 : Int), (0 : Int), (0 : Int), (0 : Int), (0 : Int), (0 : Int), (0 : Int), (0 : Int), x217))))))))))).bind <| p2 fun (y0_1 : Int) (q0 : Int × Int × Int × Int × Int × Int × Int × (List Int)) => (p2 fun (y0_2 : Int) (q1 : Int × Int × Int × Int × Int × Int × (List Int)) => (p2 fun (y0_3 : Int) (q2 : Int × Int × Int × Int × Int × (List Int)) => (p2 fun (y0_4 : Int) (q3 : Int × Int × Int × Int × (List Int)) => (p2 fun (y0_5 : Int) (q4 : Int × Int × Int × (List Int)) => (p2 fun (y0_6 : Int) (q5 : Int × Int × (List Int)) => (p2 fun (y0_7 : Int) (q6 : Int × (List Int)) => (p2 fun (y0_8 : Int) y0_10 =>
(show T An (Bool) from
(t_ops_Check n (⟨y0_1, y0_2, y0_3, y0_4, y0_5, y0_6, y0_7, y0_8, y0_10⟩ : GOp)).bind fun x230 =>
T.bnd (!x230) fun x231 =>
cond x231 ((t_ops_Bytes n [(⟨y0_1, y0_2, y0_3, y0_4, y0_5, y0_6, y0_7, y0_8, y0_10⟩ : GOp)]).bind fun x232 =>
T.ask (decide (x232 = ([] : List UInt8))) fun x233 =>
cond x233 ((t_law05_awake n).bind fun x234 =>
T.ret x234) (T.ret false)) (T.ret false)).bind <| fun y1_1 =>
T.ret (y1_1)) q6) q5) q4) q3) q2) q1) q0) (T.ask (decide (x5 = 12)) fun x21 =>
cond x21 ((t_ops_Check n (⟨12, 0, 0, 0, 1, 1, 0, 0, []⟩ : GOp)).bind fun x167 =>
T.bnd (!x167) fun x168 =>
T.asrt (x168 = false) <|
(t_law00_Place a2 10).bind fun x169 =>
(show T An (Int × Int × Int × Int × Int × Int × Int × Int × (List Int)) from
T.ask (decide (x169 = 0)) fun x172 =>
cond x172 (T.wr (16 + x7) fun x194 =>
T.ret ((x194 : Int), (0 : Int), (0 : Int), (0 : Int), (1 : Int), (1 : Int), (0 : Int), (0 : Int), (([] : List Int) : List Int))) (T.ask (decide (x169 = 1)) fun x173 =>
cond x173 (T.wr (0 - x7) fun x193 =>
T.ret ((x193 : Int), (0 : Int), (0 : Int), (0 : Int), (1 : Int), (1 : Int), (0 : Int), (0 : Int), (([] : List Int) : List Int))) (T.ask (decide (x169 = 2)) fun x174 =>
cond x174 (T.wr (3 + x7) fun x192 =>
T.ret ((12 : Int), (x192 : Int), (0 : Int), (0 : Int), (1 : Int), (1 : Int), (0 : Int), (0 : Int), (([] : List Int) : List Int))) (T.ask (decide (x169 = 3)) fun x175 =>
cond x175 (T.wr (0 - x7) fun x191 =>
T.ret ((12 : Int), (0 : Int), (x191 : Int), (0 : Int), (1 : Int), (1 : Int), (0 : Int), (0 : Int), (([] : List Int) : List Int))) (T.ask (decide (x169 = 4)) fun x176 =>
cond x176 (T.wr (1 + x7) fun x190 =>
T.ret ((12 : Int), (0 : Int), (0 : Int), (x190 : Int), (1 : Int), (1 : Int), (0 : Int), (0 : Int), (([] : List Int) : List Int))) (T.ask (decide (x169 = 5)) fun x177 =>
cond x177 (T.wr (3 + x7) fun x189 =>
T.ret ((12 : Int), (0 : Int), (0 : Int), (0 : Int), (x189 : Int), (1 : Int), (0 : Int), (0 : Int), (([] : List Int) : List Int))) (T.ask (decide (x169 = 6)) fun x178 =>
cond x178 (T.wr (0 - x7) fun x188 =>
T.ret ((12 : Int), (0 : Int), (0 : Int), (0 : Int), (1 : Int), (x188 : Int), (0 : Int), (0 : Int), (([] : List Int) : List Int))) (T.ask (decide (x169 = 7)) fun x179 =>
cond x179 (T.wr (1125899906842624 + x7) fun x187 =>
T.ret ((12 : Int), (0 : Int), (0 : Int), (0 : Int), (1 : Int), (1 : Int), (x187 : Int), (0 : Int), (([] : List Int) : List Int))) (T.ask (decide (x169 = 8)) fun x180 =>
cond x180 (T.wr (39 + x7) fun x186 =>
T.ret ((12 : Int), (0 : Int), (0 : Int), (0 : Int), (1 : Int), (1 : Int), (0 : Int), (x186 : Int), (([] : List Int) : List Int))) (T.wr (0 - x7) fun x181 =>
T.bnd (([] : List Int) ++ ([x181] : List Int)) fun x183 =>
T.asrt (x183.length ≤ 68719476736) <|
T.ret ((12 : Int), (0 : Int), (0 : Int), (0 : Int), (1 : Int), (1 : Int), (0 : Int), (0 : Int), x183))))))))))).bind <| p2 fun (y0_1 : Int) (q0 : Int × Int × Int × Int × Int × Int × Int × (List Int)) => (p2 fun (y0_2 : Int) (q1 : Int × Int × Int × Int × Int × Int × (List Int)) => (p2 fun (y0_3 : Int) (q2 : Int × Int × Int × Int × Int × (List Int)) => (p2 fun (y0_4 : Int) (q3 : Int × Int × Int × Int × (List Int)) => (p2 fun (y0_5 : Int) (q4 : Int × Int × Int × (List Int)) => (p2 fun (y0_6 : Int) (q5 : Int × Int × (List Int)) => (p2 fun (y0_7 : Int) (q6 : Int × (List Int)) => (p2 fun (y0_8 : Int) y0_10 =>
(show T An (Bool) from
(t_ops_Check n (⟨y0_1, y0_2, y0_3, y0_4, y0_5, y0_6, y0_7, y0_8, y0_10⟩ : GOp)).bind fun x196 =>
T.bnd (!x196) fun x197 =>
cond x197 ((t_ops_Bytes n [(⟨y0_1, y0_2, y0_3, y0_4, y0_5, y0_6, y0_7, y0_8, y0_10⟩ : GOp)]).bind fun x198 =>
T.ask (decide (x198 = ([] : List UInt8))) fun x199 =>
cond x199 ((t_law05_awake n).bind fun x200 =>
T.ret x200) (T.ret false)) (T.ret false)).bind <| fun y1_1 =>
T.ret (y1_1)) q6) q5) q4) q3) q2) q1) q0) (T.ask (decide (x5 = 13)) fun x22 =>
cond x22 ((t_ops_Check n (⟨13, 0, 0, 0, 0, 1, 0, 0, []⟩ : GOp)).bind fun x132 =>
T.bnd (!x132) fun x133 =>
T.asrt (x133 = false) <|
(t_law00_Place a2 10).bind fun x134 =>
(show T An (Int × Int × Int × Int × Int × Int × Int × Int × (List Int)) from
T.ask (decide (x134 = 0)) fun x137 =>
cond x137 (T.wr (16 + x7) fun x159 =>
T.ret ((x159 : Int), (0 : Int), (0 : Int), (0 : Int), (0 : Int), (1 : Int), (0 : Int), (0 : Int), (([] : List Int) : List Int))) (T.ask (decide (x134 = 1)) fun x138 =>
cond x138 (T.wr (0 - x7) fun x158 =>
T.ret ((x158 : Int), (0 : Int), (0 : Int), (0 : Int), (0 : Int), (1 : Int), (0 : Int), (0 : Int), (([] : List Int) : List Int))) (T.ask (decide (x134 = 2)) fun x139 =>
cond x139 (T.wr (3 + x7) fun x157 =>
T.ret ((13 : Int), (x157 : Int), (0 : Int), (0 : Int), (0 : Int), (1 : Int), (0 : Int), (0 : Int), (([] : List Int) : List Int))) (T.ask (decide (x134 = 3)) fun x140 =>
cond x140 (T.wr (0 - x7) fun x156 =>
T.ret ((13 : Int), (0 : Int), (x156 : Int), (0 : Int), (0 : Int), (1 : Int), (0 : Int), (0 : Int), (([] : List Int) : List Int))) (T.ask (decide (x134 = 4)) fun x141 =>
cond x141 (T.wr (1 + x7) fun x155 =>
T.ret ((13 : Int), (0 : Int), (0 : Int), (x155 : Int), (0 : Int), (1 : Int), (0 : Int), (0 : Int), (([] : List Int) : List Int))) (T.ask (decide (x134 = 5)) fun x142 =>
cond x142 (T.wr (3 + x7) fun x154 =>
T.ret ((13 : Int), (0 : Int), (0 : Int), (0 : Int), (x154 : Int), (1 : Int), (0 : Int), (0 : Int), (([] : List Int) : List Int))) (T.ask (decide (x134 = 6)) fun x143 =>
cond x143 (T.wr (0 - x7) fun x153 =>
T.ret ((13 : Int), (0 : Int), (0 : Int), (0 : Int), (0 : Int), (x153 : Int), (0 : Int), (0 : Int), (([] : List Int) : List Int))) (T.ask (decide (x134 = 7)) fun x144 =>
cond x144 (T.wr (1125899906842624 + x7) fun x152 =>
T.ret ((13 : Int), (0 : Int), (0 : Int), (0 : Int), (0 : Int), (1 : Int), (x152 : Int), (0 : Int), (([] : List Int) : List Int))) (T.ask (decide (x134 = 8)) fun x145 =>
cond x145 (T.wr (39 + x7) fun x151 =>
T.ret ((13 : Int), (0 : Int), (0 : Int), (0 : Int), (0 : Int), (1 : Int), (0 : Int), (x151 : Int), (([] : List Int) : List Int))) (T.wr (0 - x7) fun x146 =>
T.bnd (([] : List Int) ++ ([x146] : List Int)) fun x148 =>
T.asrt (x148.length ≤ 68719476736) <|
T.ret ((13 : Int), (0 : Int), (0 : Int), (0 : Int), (0 : Int), (1 : Int), (0 : Int), (0 : Int), x148))))))))))).bind <| p2 fun (y0_1 : Int) (q0 : Int × Int × Int × Int × Int × Int × Int × (List Int)) => (p2 fun (y0_2 : Int) (q1 : Int × Int × Int × Int × Int × Int × (List Int)) => (p2 fun (y0_3 : Int) (q2 : Int × Int × Int × Int × Int × (List Int)) => (p2 fun (y0_4 : Int) (q3 : Int × Int × Int × Int × (List Int)) => (p2 fun (y0_5 : Int) (q4 : Int × Int × Int × (List Int)) => (p2 fun (y0_6 : Int) (q5 : Int × Int × (List Int)) => (p2 fun (y0_7 : Int) (q6 : Int × (List Int)) => (p2 fun (y0_8 : Int) y0_10 =>
(show T An (Bool) from
(t_ops_Check n (⟨y0_1, y0_2, y0_3, y0_4, y0_5, y0_6, y0_7, y0_8, y0_10⟩ : GOp)).bind fun x161 =>
T.bnd (!x161) fun x162 =>
cond x162 ((t_ops_Bytes n [(⟨y0_1, y0_2, y0_3, y0_4, y0_5, y0_6, y0_7, y0_8, y0_10⟩ : GOp)]).bind fun x163 =>
T.ask (decide (x163 = ([] : List UInt8))) fun x164 =>
cond x164 ((t_law05_awake n).bind fun x165 =>
T.ret x165) (T.ret false)) (T.ret false)).bind <| fun y1_1 =>
T.ret (y1_1)) q6) q5) q4) q3) q2) q1) q0) (T.ask (decide (x5 = 14)) fun x23 =>
cond x23 ((t_ops_Check n (⟨14, 0, 0, 0, 0, 0, 0, 0, []⟩ : GOp)).bind fun x97 =>
T.bnd (!x97) fun x98 =>
T.asrt (x98 = false) <|
(t_law00_Place a2 10).bind fun x99 =>
(show T An (Int × Int × Int × Int × Int × Int × Int × Int × (List Int)) from
T.ask (decide (x99 = 0)) fun x102 =>
cond x102 (T.wr (16 + x7) fun x124 =>
T.ret ((x124 : Int), (0 : Int), (0 : Int), (0 : Int), (0 : Int), (0 : Int), (0 : Int), (0 : Int), (([] : List Int) : List Int))) (T.ask (decide (x99 = 1)) fun x103 =>
cond x103 (T.wr (0 - x7) fun x123 =>
T.ret ((x123 : Int), (0 : Int), (0 : Int), (0 : Int), (0 : Int), (0 : Int), (0 : Int), (0 : Int), (([] : List Int) : List Int))) (T.ask (decide (x99 = 2)) fun x104 =>
cond x104 (T.wr (3 + x7) fun x122 =>
T.ret ((14 : Int), (x122 : Int), (0 : Int), (0 : Int), (0 : Int), (0 : Int), (0 : Int), (0 : Int), (([] : List Int) : List Int))) (T.ask (decide (x99 = 3)) fun x105 =>
cond x105 (T.wr (0 - x7) fun x121 =>
T.ret ((14 : Int), (0 : Int), (x121 : Int), (0 : Int), (0 : Int), (0 : Int), (0 : Int), (0 : Int), (([] : List Int) : List Int))) (T.ask (decide (x99 = 4)) fun x106 =>
cond x106 (T.wr (1 + x7) fun x120 =>
T.ret ((14 : Int), (0 : Int), (0 : Int), (x120 : Int), (0 : Int), (0 : Int), (0 : Int), (0 : Int), (([] : List Int) : List Int))) (T.ask (decide (x99 = 5)) fun x107 =>
cond x107 (T.wr (3 + x7) fun x119 =>
T.ret ((14 : Int), (0 : Int), (0 : Int), (0 : Int), (x119 : Int), (0 : Int), (0 : Int), (0 : Int), (([] : List Int) : List Int))) (T.ask (decide (x99 = 6)) fun x108 =>
cond x108 (T.wr (0 - x7) fun x118 =>
T.ret ((14 : Int), (0 : Int), (0 : Int), (0 : Int), (0 : Int), (x118 : Int), (0 : Int), (0 : Int), (([] : List Int) : List Int))) (T.ask (decide (x99 = 7)) fun x109 =>
cond x109 (T.wr (1125899906842624 + x7) fun x117 =>
T.ret ((14 : Int), (0 : Int), (0 : Int), (0 : Int), (0 : Int), (0 : Int), (x117 : Int), (0 : Int), (([] : List Int) : List Int))) (T.ask (decide (x99 = 8)) fun x110 =>
cond x110 (T.wr (39 + x7) fun x116 =>
T.ret ((14 : Int), (0 : Int), (0 : Int), (0 : Int), (0 : Int), (0 : Int), (0 : Int), (x116 : Int), (([] : List Int) : List Int))) (T.wr (0 - x7) fun x111 =>
T.bnd (([] : List Int) ++ ([x111] : List Int)) fun x113 =>
T.asrt (x113.length ≤ 68719476736) <|
T.ret ((14 : Int), (0 : Int), (0 : Int), (0 : Int), (0 : Int), (0 : Int), (0 : Int), (0 : Int), x113))))))))))).bind <| p2 fun (y0_1 : Int) (q0 : Int × Int × Int × Int × Int × Int × Int × (List Int)) => (p2 fun (y0_2 : Int) (q1 : Int × Int × Int × Int × Int × Int × (List Int)) => (p2 fun (y0_3 : Int) (q2 : Int × Int × Int × Int × Int × (List Int)) => (p2 fun (y0_4 : Int) (q3 : Int × Int × Int × Int × (List Int)) => (p2 fun (y0_5 : Int) (q4 : Int × Int × Int × (List Int)) => (p2 fun (y0_6 : Int) (q5 : Int × Int × (List Int)) => (p2 fun (y0_7 : Int) (q6 : Int × (List Int)) => (p2 fun (y0_8 : Int) y0_10 =>
(show T An (Bool) from
(t_ops_Check n (⟨y0_1, y0_2, y0_3, y0_4, y0_5, y0_6, y0_7, y0_8, y0_10⟩ : GOp)).bind fun x126 =>
T.bnd (!x126) fun x127 =>
cond x127 ((t_ops_Bytes n [(⟨y0_1, y0_2, y0_3, y0_4, y0_5, y0_6, y0_7, y0_8, y0_10⟩ : GOp)]).bind fun x128 =>
T.ask (decide (x128 = ([] : List UInt8))) fun x129 =>
cond x129 ((t_law05_awake n).bind fun x130 =>
T.ret x130) (T.ret false)) (T.ret false)).bind <| fun y1_1 =>
T.ret (y1_1)) q6) q5) q4) q3) q2) q1) q0) (T.ask (decide (x5 = 15)) fun x24 =>
cond x24 ((t_ops_Check n (⟨15, 0, 0, 0, 0, 0, 0, 0, []⟩ : GOp)).bind fun x62 =>
T.bnd (!x62) fun x63 =>
T.asrt (x63 = false) <|
(t_law00_Place a2 10).bind fun x64 =>
(show T An (Int × Int × Int × Int × Int × Int × Int × Int × (List Int)) from
T.ask (decide (x64 = 0)) fun x67 =>
cond x67 (T.wr (16 + x7) fun x89 =>
T.ret ((x89 : Int), (0 : Int), (0 : Int), (0 : Int), (0 : Int), (0 : Int), (0 : Int), (0 : Int), (([] : List Int) : List Int))) (T.ask (decide (x64 = 1)) fun x68 =>
cond x68 (T.wr (0 - x7) fun x88 =>
T.ret ((x88 : Int), (0 : Int), (0 : Int), (0 : Int), (0 : Int), (0 : Int), (0 : Int), (0 : Int), (([] : List Int) : List Int))) (T.ask (decide (x64 = 2)) fun x69 =>
cond x69 (T.wr (3 + x7) fun x87 =>
T.ret ((15 : Int), (x87 : Int), (0 : Int), (0 : Int), (0 : Int), (0 : Int), (0 : Int), (0 : Int), (([] : List Int) : List Int))) (T.ask (decide (x64 = 3)) fun x70 =>
cond x70 (T.wr (0 - x7) fun x86 =>
T.ret ((15 : Int), (0 : Int), (x86 : Int), (0 : Int), (0 : Int), (0 : Int), (0 : Int), (0 : Int), (([] : List Int) : List Int))) (T.ask (decide (x64 = 4)) fun x71 =>
cond x71 (T.wr (1 + x7) fun x85 =>
T.ret ((15 : Int), (0 : Int), (0 : Int), (x85 : Int), (0 : Int), (0 : Int), (0 : Int), (0 : Int), (([] : List Int) : List Int))) (T.ask (decide (x64 = 5)) fun x72 =>
cond x72 (T.wr (3 + x7) fun x84 =>
T.ret ((15 : Int), (0 : Int), (0 : Int), (0 : Int), (x84 : Int), (0 : Int), (0 : Int), (0 : Int), (([] : List Int) : List Int))) (T.ask (decide (x64 = 6)) fun x73 =>
cond x73 (T.wr (0 - x7) fun x83 =>
T.ret ((15 : Int), (0 : Int), (0 : Int), (0 : Int), (0 : Int), (x83 : Int), (0 : Int), (0 : Int), (([] : List Int) : List Int))) (T.ask (decide (x64 = 7)) fun x74 =>
cond x74 (T.wr (1125899906842624 + x7) fun x82 =>
T.ret ((15 : Int), (0 : Int), (0 : Int), (0 : Int), (0 : Int), (0 : Int), (x82 : Int), (0 : Int), (([] : List Int) : List Int))) (T.ask (decide (x64 = 8)) fun x75 =>
cond x75 (T.wr (39 + x7) fun x81 =>
T.ret ((15 : Int), (0 : Int), (0 : Int), (0 : Int), (0 : Int), (0 : Int), (0 : Int), (x81 : Int), (([] : List Int) : List Int))) (T.wr (0 - x7) fun x76 =>
T.bnd (([] : List Int) ++ ([x76] : List Int)) fun x78 =>
T.asrt (x78.length ≤ 68719476736) <|
T.ret ((15 : Int), (0 : Int), (0 : Int), (0 : Int), (0 : Int), (0 : Int), (0 : Int), (0 : Int), x78))))))))))).bind <| p2 fun (y0_1 : Int) (q0 : Int × Int × Int × Int × Int × Int × Int × (List Int)) => (p2 fun (y0_2 : Int) (q1 : Int × Int × Int × Int × Int × Int × (List Int)) => (p2 fun (y0_3 : Int) (q2 : Int × Int × Int × Int × Int × (List Int)) => (p2 fun (y0_4 : Int) (q3 : Int × Int × Int × Int × (List Int)) => (p2 fun (y0_5 : Int) (q4 : Int × Int × Int × (List Int)) => (p2 fun (y0_6 : Int) (q5 : Int × Int × (List Int)) => (p2 fun (y0_7 : Int) (q6 : Int × (List Int)) => (p2 fun (y0_8 : Int) y0_10 =>
(show T An (Bool) from
(t_ops_Check n (⟨y0_1, y0_2, y0_3, y0_4, y0_5, y0_6, y0_7, y0_8, y0_10⟩ : GOp)).bind fun x91 =>
T.bnd (!x91) fun x92 =>
cond x92 ((t_ops_Bytes n [(⟨y0_1, y0_2, y0_3, y0_4, y0_5, y0_6, y0_7, y0_8, y0_10⟩ : GOp)]).bind fun x93 =>
T.ask (decide (x93 = ([] : List UInt8))) fun x94 =>
cond x94 ((t_law05_awake n).bind fun x95 =>
T.ret x95) (T.ret false)) (T.ret false)).bind <| fun y1_1 =>
T.ret (y1_1)) q6) q5) q4) q3) q2) q1) q0) (T.asrt (x5 = 16) <|
(t_ops_Check n (⟨16, 0, 0, 0, 0, 0, 0, 0, []⟩ : GOp)).bind fun x27 =>
T.bnd (!x27) fun x28 =>
T.asrt (x28 = false) <|
(t_law00_Place a2 10).bind fun x29 =>
(show T An (Int × Int × Int × Int × Int × Int × Int × Int × (List Int)) from
T.ask (decide (x29 = 0)) fun x32 =>
cond x32 (T.wr (16 + x7) fun x54 =>
T.ret ((x54 : Int), (0 : Int), (0 : Int), (0 : Int), (0 : Int), (0 : Int), (0 : Int), (0 : Int), (([] : List Int) : List Int))) (T.ask (decide (x29 = 1)) fun x33 =>
cond x33 (T.wr (0 - x7) fun x53 =>
T.ret ((x53 : Int), (0 : Int), (0 : Int), (0 : Int), (0 : Int), (0 : Int), (0 : Int), (0 : Int), (([] : List Int) : List Int))) (T.ask (decide (x29 = 2)) fun x34 =>
cond x34 (T.wr (3 + x7) fun x52 =>
T.ret ((16 : Int), (x52 : Int), (0 : Int), (0 : Int), (0 : Int), (0 : Int), (0 : Int), (0 : Int), (([] : List Int) : List Int))) (T.ask (decide (x29 = 3)) fun x35 =>
cond x35 (T.wr (0 - x7) fun x51 =>
T.ret ((16 : Int), (0 : Int), (x51 : Int), (0 : Int), (0 : Int), (0 : Int), (0 : Int), (0 : Int), (([] : List Int) : List Int))) (T.ask (decide (x29 = 4)) fun x36 =>
cond x36 (T.wr (1 + x7) fun x50 =>
T.ret ((16 : Int), (0 : Int), (0 : Int), (x50 : Int), (0 : Int), (0 : Int), (0 : Int), (0 : Int), (([] : List Int) : List Int))) (T.ask (decide (x29 = 5)) fun x37 =>
cond x37 (T.wr (3 + x7) fun x49 =>
T.ret ((16 : Int), (0 : Int), (0 : Int), (0 : Int), (x49 : Int), (0 : Int), (0 : Int), (0 : Int), (([] : List Int) : List Int))) (T.ask (decide (x29 = 6)) fun x38 =>
cond x38 (T.wr (0 - x7) fun x48 =>
T.ret ((16 : Int), (0 : Int), (0 : Int), (0 : Int), (0 : Int), (x48 : Int), (0 : Int), (0 : Int), (([] : List Int) : List Int))) (T.ask (decide (x29 = 7)) fun x39 =>
cond x39 (T.wr (1125899906842624 + x7) fun x47 =>
T.ret ((16 : Int), (0 : Int), (0 : Int), (0 : Int), (0 : Int), (0 : Int), (x47 : Int), (0 : Int), (([] : List Int) : List Int))) (T.ask (decide (x29 = 8)) fun x40 =>
cond x40 (T.wr (39 + x7) fun x46 =>
T.ret ((16 : Int), (0 : Int), (0 : Int), (0 : Int), (0 : Int), (0 : Int), (0 : Int), (x46 : Int), (([] : List Int) : List Int))) (T.wr (0 - x7) fun x41 =>
T.bnd (([] : List Int) ++ ([x41] : List Int)) fun x43 =>
T.asrt (x43.length ≤ 68719476736) <|
T.ret ((16 : Int), (0 : Int), (0 : Int), (0 : Int), (0 : Int), (0 : Int), (0 : Int), (0 : Int), x43))))))))))).bind <| p2 fun (y0_1 : Int) (q0 : Int × Int × Int × Int × Int × Int × Int × (List Int)) => (p2 fun (y0_2 : Int) (q1 : Int × Int × Int × Int × Int × Int × (List Int)) => (p2 fun (y0_3 : Int) (q2 : Int × Int × Int × Int × Int × (List Int)) => (p2 fun (y0_4 : Int) (q3 : Int × Int × Int × Int × (List Int)) => (p2 fun (y0_5 : Int) (q4 : Int × Int × Int × (List Int)) => (p2 fun (y0_6 : Int) (q5 : Int × Int × (List Int)) => (p2 fun (y0_7 : Int) (q6 : Int × (List Int)) => (p2 fun (y0_8 : Int) y0_10 =>
(show T An (Bool) from
(t_ops_Check n (⟨y0_1, y0_2, y0_3, y0_4, y0_5, y0_6, y0_7, y0_8, y0_10⟩ : GOp)).bind fun x56 =>
T.bnd (!x56) fun x57 =>
cond x57 ((t_ops_Bytes n [(⟨y0_1, y0_2, y0_3, y0_4, y0_5, y0_6, y0_7, y0_8, y0_10⟩ : GOp)]).bind fun x58 =>
T.ask (decide (x58 = ([] : List UInt8))) fun x59 =>
cond x59 ((t_law05_awake n).bind fun x60 =>
T.ret x60) (T.ret false)) (T.ret false)).bind <| fun y1_1 =>
T.ret (y1_1)) q6) q5) q4) q3) q2) q1) q0))))))))))))))))
theorem t_law05_OpsWrong_ok (n : Nat) (a1 : Int) (a2 : Int) (a3 : Int) : (t_law05_OpsWrong n a1 a2 a3).run = d_law05_OpsWrong n a1 a2 a3 := by
  simp only [t_law05_OpsWrong, d_law05_OpsWrong, T.rs, T_ixInt_ok, t_law00_Place_ok, t_law05_awake_ok, t_ops_Bytes_ok, t_ops_Check_ok]
end Go.Pv
