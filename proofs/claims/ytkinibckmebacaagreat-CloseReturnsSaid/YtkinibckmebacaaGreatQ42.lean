/- The plain readings as trees. -/
import Derived.Test.YtkinibckmebacaaGreatK42d
import Derived.Test.YtkinibckmebacaaGreatPlT
set_option linter.unusedSimpArgs false
set_option linter.unusedVariables false
namespace Go.Pv
open Go.Proofs
set_option maxRecDepth 100000
set_option maxHeartbeats 4000000
inductive An where
  | i (v : Int × Int × Int)
  | z (v : Int)
def An.gi : An → Option (Int × Int × Int)
  | .i v => some v
  | _ => none
def An.gz : An → Option (Int)
  | .z v => some v
  | _ => none
def T_ixInt (l : List Int) (i : Int) : T An Int := T.opx An.z An.gz (ix l i)
theorem T_ixInt_ok (l : List Int) (i : Int) : (T_ixInt l i).run = ix l i := T.run_opx (f := An.z) (g := An.gz) (fun _ => rfl) _
def t_law00_Place (a1 : Int) (a2 : Int) : T An (Int) := T.opx An.z An.gz (d_law00_Place a1 a2)
theorem t_law00_Place_ok (a1 : Int) (a2 : Int) : (t_law00_Place a1 a2).run = d_law00_Place a1 a2 := T.run_opx (f := An.z) (g := An.gz) (fun _ => rfl) _
def t_ref04_all_L0 (a1 : List Int) (a2 : Int) (a3 : Int) (a4 : Int) : Nat → Int → T An (Unit)
  | 0, _ => T.fail
  | n + 1, y0_1 =>
    T.ask (decide (y0_1 < a2)) fun x7 =>
    cond x7 ((show T An (Bool) from
    (T_ixInt a1 y0_1).bind fun x9 =>
    T.ask (decide (x9 < a3)) fun x10 =>
    cond x10 (T.ret true) ((T_ixInt a1 y0_1).bind fun x11 =>
    T.ask (decide (x11 > a4)) fun x12 =>
    T.ret x12)).bind <| fun y1_1 =>
    T.asrt (y1_1 = false) <|
    T.wr (y0_1 + 1) fun x13 =>
    t_ref04_all_L0 a1 a2 a3 a4 n (x13 : Int)) (T.ret ())
theorem t_ref04_all_L0_ok (a1 : List Int) (a2 : Int) (a3 : Int) (a4 : Int) : ∀ (n : Nat) (z0 : Int), (t_ref04_all_L0 a1 a2 a3 a4 n z0).run = d_ref04_all_L0 a1 a2 a3 a4 n z0
  | 0, _ => rfl
  | n + 1, z0 => by
    simp only [t_ref04_all_L0, d_ref04_all_L0, T.rs, T_ixInt_ok, t_ref04_all_L0_ok a1 a2 a3 a4 n]
def t_ref04_all (n : Nat) (a1 : List Int) (a2 : Int) (a3 : Int) (a4 : Int) : T An (Bool) :=
T.ask (decide ((a1.length : Int) ≠ a2)) fun x5 =>
T.asrt (x5 = false) <|
(show T An (Unit) from
t_ref04_all_L0 a1 a2 a3 a4 n (0 : Int)).bind <| fun _ =>
T.ret (true)
theorem t_ref04_all_ok (n : Nat) (a1 : List Int) (a2 : Int) (a3 : Int) (a4 : Int) : (t_ref04_all n a1 a2 a3 a4).run = d_ref04_all n a1 a2 a3 a4 := by
  simp only [t_ref04_all, d_ref04_all, T.rs, T_ixInt_ok, t_ref04_all_L0_ok]
def t_ref04_Check_L0 (a1 : GMaster) : Nat → Int → T An (Unit)
  | 0, _ => T.fail
  | n + 1, y1_1 =>
    T.ask (decide (y1_1 < a1.Entities)) fun x15 =>
    cond x15 ((show T An (Bool) from
    (T.ix a1.Methods y1_1).bind fun x17 =>
    (t_ref04_all n x17 (a1.Weights.length : Int) 1 4).bind fun x18 =>
    T.bnd (!x18) fun x19 =>
    cond x19 (T.ret true) ((T.ix a1.Costs y1_1).bind fun x20 =>
    (t_ref04_all n x20 (a1.Weights.length : Int) 0 1073741824).bind fun x21 =>
    T.bnd (!x21) fun x22 =>
    T.ret x22)).bind <| fun y2_1 =>
    T.asrt (y2_1 = false) <|
    T.wr (y1_1 + 1) fun x23 =>
    t_ref04_Check_L0 a1 n (x23 : Int)) (T.ret ())
theorem t_ref04_Check_L0_ok (a1 : GMaster) : ∀ (n : Nat) (z0 : Int), (t_ref04_Check_L0 a1 n z0).run = d_ref04_Check_L0 a1 n z0
  | 0, _ => rfl
  | n + 1, z0 => by
    simp only [t_ref04_Check_L0, d_ref04_Check_L0, T.rs, T_ixInt_ok, t_ref04_all_ok, t_ref04_Check_L0_ok a1 n]
def t_ref04_Check (n : Nat) (a1 : GMaster) : T An (Bool) :=
(show T An (Bool) from
T.ask (decide (a1.Entities < 1)) fun x4 =>
cond x4 (T.ret true) (T.ask (decide (a1.Entities > 4)) fun x5 =>
cond x5 (T.ret true) (T.ask (decide (a1.Periods < 1)) fun x6 =>
cond x6 (T.ret true) (T.ask (decide (a1.Periods > 12)) fun x7 =>
cond x7 (T.ret true) (T.ask (decide ((a1.Weights.length : Int) < 1)) fun x8 =>
cond x8 (T.ret true) (T.ask (decide ((a1.Weights.length : Int) > 5)) fun x9 =>
cond x9 (T.ret true) ((t_ref04_all n a1.Weights (a1.Weights.length : Int) 0 1073741824).bind fun x10 =>
T.bnd (!x10) fun x11 =>
cond x11 (T.ret true) (T.ask (decide ((a1.Methods.length : Int) ≠ a1.Entities)) fun x12 =>
cond x12 (T.ret true) (T.ask (decide ((a1.Costs.length : Int) ≠ a1.Entities)) fun x13 =>
T.ret x13))))))))).bind <| fun y0_1 =>
T.asrt (y0_1 = false) <|
(show T An (Unit) from
t_ref04_Check_L0 a1 n (0 : Int)).bind <| fun _ =>
T.ret (true)
theorem t_ref04_Check_ok (n : Nat) (a1 : GMaster) : (t_ref04_Check n a1).run = d_ref04_Check n a1 := by
  simp only [t_ref04_Check, d_ref04_Check, T.rs, T_ixInt_ok, t_ref04_Check_L0_ok, t_ref04_all_ok]
def t_ref04_Start_L1 (a1 : GMaster) : Nat → Int → (List Int) → T An ((List Int))
  | 0, _, _ => T.fail
  | n + 1, y1_1, y1_2 =>
    T.ask (decide (y1_1 < (a1.Weights.length : Int))) fun x29 =>
    cond x29 ((T_ixInt y1_2 y1_1).bind fun x30 =>
    T.bnd (y1_2.set (Int.toNat y1_1) ((-1) : Int)) fun x31 =>
    T.wr (y1_1 + 1) fun x32 =>
    t_ref04_Start_L1 a1 n (x32 : Int) x31) (T.ret y1_2)
theorem t_ref04_Start_L1_ok (a1 : GMaster) : ∀ (n : Nat) (z0 : Int) (z1 : (List Int)), (t_ref04_Start_L1 a1 n z0 z1).run = d_ref04_Start_L1 a1 n z0 z1
  | 0, _, _ => rfl
  | n + 1, z0, z1 => by
    simp only [t_ref04_Start_L1, d_ref04_Start_L1, T.rs, T_ixInt_ok, t_ref04_Start_L1_ok a1 n]
def t_ref04_Start_L0 (a1 : GMaster) : Nat → Int → (List GEnt) → T An ((List GEnt))
  | 0, _, _ => T.fail
  | n + 1, y0_1, y0_3 =>
    T.ask (decide (y0_1 < a1.Entities)) fun x9 =>
    cond x9 ((show T An ((List GEnt)) from
    T.wr ((a1.Weights.length : Int) * 2) fun x11 =>
    T.asrt ((0 : Int) ≤ x11 ∧ (x11 : Int) ≤ 1048576) <|
    T.bnd (List.replicate (Int.toNat x11) ((⟨[], (⟨0, 0, 0⟩ : A3_Int)⟩ : GPool) : GPool)) fun x13 =>
    T.asrt ((0 : Int) ≤ 17 ∧ (17 : Int) ≤ 1048576) <|
    T.bnd (List.replicate (Int.toNat 17) (0 : Int)) fun x16 =>
    T.asrt ((0 : Int) ≤ (a1.Weights.length : Int) ∧ ((a1.Weights.length : Int) : Int) ≤ 1048576) <|
    T.bnd (List.replicate (Int.toNat (a1.Weights.length : Int)) ((⟨0, 0, 0, 0, 0, 0, 0, 0, 0, 0, 0⟩ : GRoll) : GRoll)) fun x19 =>
    T.asrt ((0 : Int) ≤ (a1.Weights.length : Int) ∧ ((a1.Weights.length : Int) : Int) ≤ 1048576) <|
    T.bnd (List.replicate (Int.toNat (a1.Weights.length : Int)) (0 : Int)) fun x22 =>
    T.asrt ((0 : Int) ≤ (a1.Weights.length : Int) ∧ ((a1.Weights.length : Int) : Int) ≤ 1048576) <|
    T.bnd (List.replicate (Int.toNat (a1.Weights.length : Int)) (0 : Int)) fun x25 =>
    (show T An ((List Int)) from
    t_ref04_Start_L1 a1 n (0 : Int) x22).bind <| fun y2_1 =>
    T.bnd (y0_3 ++ [(⟨1, false, x13, x16, x19, y2_1, x25, []⟩ : GEnt)]) fun x33 =>
    T.asrt (x33.length ≤ 68719476736) <|
    T.ret x33).bind <| fun y3_2 =>
    T.wr (y0_1 + 1) fun x36 =>
    t_ref04_Start_L0 a1 n (x36 : Int) y3_2) (T.ret y0_3)
theorem t_ref04_Start_L0_ok (a1 : GMaster) : ∀ (n : Nat) (z0 : Int) (z1 : (List GEnt)), (t_ref04_Start_L0 a1 n z0 z1).run = d_ref04_Start_L0 a1 n z0 z1
  | 0, _, _ => rfl
  | n + 1, z0, z1 => by
    simp only [t_ref04_Start_L0, d_ref04_Start_L0, T.rs, T_ixInt_ok, t_ref04_Start_L1_ok, t_ref04_Start_L0_ok a1 n]
def t_ref04_Start (n : Nat) (a1 : GMaster) : T An (GState × Int) :=
(t_ref04_Check n a1).bind fun x4 =>
T.bnd (!x4) fun x5 =>
T.asrt (x5 = false) <|
(show T An ((List GEnt)) from
t_ref04_Start_L0 a1 n (0 : Int) (([] : List GEnt) : List GEnt)).bind <| fun y4_2 =>
T.ret (((⟨a1, y4_2, [], [], [], 0⟩ : GState) : GState), (0 : Int))
theorem t_ref04_Start_ok (n : Nat) (a1 : GMaster) : (t_ref04_Start n a1).run = d_ref04_Start n a1 := by
  simp only [t_ref04_Start, d_ref04_Start, T.rs, T_ixInt_ok, t_ref04_Check_ok, t_ref04_Start_L0_ok]
def t_ops_forms  : T An (A17_List_UInt8) :=
T.ret (((⟨([] : List UInt8), ([69, 73, 76, 81, 65] : List UInt8), ([81, 65, 82] : List UInt8), ([81, 82] : List UInt8), ([69, 73, 76, 81, 65] : List UInt8), ([81, 65, 82] : List UInt8), ([69, 73, 76, 81] : List UInt8), ([69, 73, 76, 81] : List UInt8), ([69, 73, 76, 84, 81] : List UInt8), ([69, 73, 65] : List UInt8), ([69, 73, 65] : List UInt8), ([84, 65, 83] : List UInt8), ([69, 73, 76, 84, 81, 65] : List UInt8), ([76, 81, 82] : List UInt8), ([69] : List UInt8), ([69] : List UInt8), ([69] : List UInt8)⟩ : A17_List_UInt8) : A17_List_UInt8))
theorem t_ops_forms_ok  : (t_ops_forms ).run = d_ops_forms  := by
  simp only [t_ops_forms, d_ops_forms, T.rs, T_ixInt_ok]
def t_internal_stringslite_IndexByte (a1 : List UInt8) (a2 : Int) : T An (Int) :=
T.bnd (ixB a1 a2) fun x3 =>
T.ret ((x3 : Int))
theorem t_internal_stringslite_IndexByte_ok (a1 : List UInt8) (a2 : Int) : (t_internal_stringslite_IndexByte a1 a2).run = d_internal_stringslite_IndexByte a1 a2 := by
  simp only [t_internal_stringslite_IndexByte, d_internal_stringslite_IndexByte, T.rs, T_ixInt_ok]
def t_strings_IndexByte (a1 : List UInt8) (a2 : Int) : T An (Int) :=
(t_internal_stringslite_IndexByte a1 a2).bind fun x3 =>
T.ret ((x3 : Int))
theorem t_strings_IndexByte_ok (a1 : List UInt8) (a2 : Int) : (t_strings_IndexByte a1 a2).run = d_strings_IndexByte a1 a2 := by
  simp only [t_strings_IndexByte, d_strings_IndexByte, T.rs, T_ixInt_ok, t_internal_stringslite_IndexByte_ok]
def t_ops_bounds (a1 : Int) (a2 : Int) : T An (Int × Int) :=
T.ask (decide (a2 = 69)) fun x3 =>
cond x3 (T.ret ((0 : Int), (3 : Int))) (T.ask (decide (a2 = 73)) fun x4 =>
cond x4 (T.ret ((0 : Int), (4 : Int))) (T.ask (decide (a2 = 76)) fun x5 =>
cond x5 (T.ret ((0 : Int), (1 : Int))) (T.ask (decide (a2 = 84)) fun x6 =>
T.asrt (x6 = false) <|
T.ask (decide (a2 = 81)) fun x7 =>
cond x7 (T.ask (decide (a1 = 7)) fun x12 =>
T.asrt (x12 = false) <|
T.ret ((1 : Int), (1073741824 : Int))) (T.ask (decide (a2 = 65)) fun x8 =>
cond x8 ((show T An (Bool) from
T.ask (decide (a1 = 9)) fun x10 =>
cond x10 (T.ret true) (T.ask (decide (a1 = 10)) fun x11 =>
T.ret x11)).bind <| fun y0_1 =>
T.asrt (y0_1 = false) <|
T.ret ((0 : Int), (1125899906842624 : Int))) (T.ret ((0 : Int), (39 : Int)))))))
theorem t_ops_bounds_ok (a1 : Int) (a2 : Int) : (t_ops_bounds a1 a2).run = d_ops_bounds a1 a2 := by
  simp only [t_ops_bounds, d_ops_bounds, T.rs, T_ixInt_ok]
def t_ops_Check (a1 : GOp) : T An (Bool) :=
(show T An (Bool) from
T.ask (decide (a1.Kind < 1)) fun x4 =>
cond x4 (T.ret true) (T.ask (decide (a1.Kind > 16)) fun x5 =>
T.ret x5)).bind <| fun y0_1 =>
T.asrt (y0_1 = false) <|
t_ops_forms.bind fun x6 =>
(T.ix ([x6.a0, x6.a1, x6.a2, x6.a3, x6.a4, x6.a5, x6.a6, x6.a7, x6.a8, x6.a9, x6.a10, x6.a11, x6.a12, x6.a13, x6.a14, x6.a15, x6.a16] : List (List UInt8)) a1.Kind).bind fun x7 =>
(show T An ((Bool)) from
(show T An ((Int)) from
(t_strings_IndexByte x7 69).bind fun x11 =>
T.ret (x11 : Int)).bind <| fun y1_1 =>
T.ask (decide (y1_1 ≥ 0)) fun x12 =>
T.ret x12).bind <| fun y2_1 =>
(show T An (Int × Int) from
cond y2_1 ((t_ops_bounds a1.Kind 69).bind fun x14 =>
T.ret ((x14.1 : Int), (x14.2 : Int))) (T.ret ((0 : Int), (0 : Int)))).bind <| p2 fun (y3_1 : Int) (y3_2 : Int) =>
(show T An ((Unit)) from
T.ret ()).bind <| fun _ =>
(show T An (Bool) from
T.ask (decide (a1.E < y3_1)) fun x17 =>
cond x17 (T.ret true) (T.ask (decide (a1.E > y3_2)) fun x18 =>
T.ret x18)).bind <| fun y5_1 =>
T.asrt (y5_1 = false) <|
(show T An ((Bool)) from
(show T An ((Int)) from
(t_strings_IndexByte x7 73).bind fun x21 =>
T.ret (x21 : Int)).bind <| fun y1_1 =>
T.ask (decide (y1_1 ≥ 0)) fun x22 =>
T.ret x22).bind <| fun y2_1_1 =>
(show T An (Int × Int) from
cond y2_1_1 ((t_ops_bounds a1.Kind 73).bind fun x24 =>
T.ret ((x24.1 : Int), (x24.2 : Int))) (T.ret ((0 : Int), (0 : Int)))).bind <| p2 fun (y3_1_1 : Int) (y3_2_1 : Int) =>
(show T An ((Unit)) from
T.ret ()).bind <| fun _ =>
(show T An (Bool) from
T.ask (decide (a1.Item < y3_1_1)) fun x27 =>
cond x27 (T.ret true) (T.ask (decide (a1.Item > y3_2_1)) fun x28 =>
T.ret x28)).bind <| fun y5_1_1 =>
T.asrt (y5_1_1 = false) <|
(show T An ((Bool)) from
(show T An ((Int)) from
(t_strings_IndexByte x7 76).bind fun x31 =>
T.ret (x31 : Int)).bind <| fun y1_1 =>
T.ask (decide (y1_1 ≥ 0)) fun x32 =>
T.ret x32).bind <| fun y2_1_2 =>
(show T An (Int × Int) from
cond y2_1_2 ((t_ops_bounds a1.Kind 76).bind fun x34 =>
T.ret ((x34.1 : Int), (x34.2 : Int))) (T.ret ((0 : Int), (0 : Int)))).bind <| p2 fun (y3_1_2 : Int) (y3_2_2 : Int) =>
(show T An ((Unit)) from
T.ret ()).bind <| fun _ =>
(show T An (Bool) from
T.ask (decide (a1.Loc < y3_1_2)) fun x37 =>
cond x37 (T.ret true) (T.ask (decide (a1.Loc > y3_2_2)) fun x38 =>
T.ret x38)).bind <| fun y5_1_2 =>
T.asrt (y5_1_2 = false) <|
(show T An ((Bool)) from
(show T An ((Int)) from
(t_strings_IndexByte x7 84).bind fun x41 =>
T.ret (x41 : Int)).bind <| fun y1_1 =>
T.ask (decide (y1_1 ≥ 0)) fun x42 =>
T.ret x42).bind <| fun y2_1_3 =>
(show T An (Int × Int) from
cond y2_1_3 ((t_ops_bounds a1.Kind 84).bind fun x44 =>
T.ret ((x44.1 : Int), (x44.2 : Int))) (T.ret ((0 : Int), (0 : Int)))).bind <| p2 fun (y3_1_3 : Int) (y3_2_3 : Int) =>
(show T An ((Unit)) from
T.ret ()).bind <| fun _ =>
(show T An (Bool) from
T.ask (decide (a1.To < y3_1_3)) fun x47 =>
cond x47 (T.ret true) (T.ask (decide (a1.To > y3_2_3)) fun x48 =>
T.ret x48)).bind <| fun y5_1_3 =>
T.asrt (y5_1_3 = false) <|
(show T An ((Bool)) from
(show T An ((Int)) from
(t_strings_IndexByte x7 81).bind fun x51 =>
T.ret (x51 : Int)).bind <| fun y1_1 =>
T.ask (decide (y1_1 ≥ 0)) fun x52 =>
T.ret x52).bind <| fun y2_1_4 =>
(show T An (Int × Int) from
cond y2_1_4 ((t_ops_bounds a1.Kind 81).bind fun x54 =>
T.ret ((x54.1 : Int), (x54.2 : Int))) (T.ret ((0 : Int), (0 : Int)))).bind <| p2 fun (y3_1_4 : Int) (y3_2_4 : Int) =>
(show T An ((Unit)) from
T.ret ()).bind <| fun _ =>
(show T An (Bool) from
T.ask (decide (a1.Qty < y3_1_4)) fun x57 =>
cond x57 (T.ret true) (T.ask (decide (a1.Qty > y3_2_4)) fun x58 =>
T.ret x58)).bind <| fun y5_1_4 =>
T.asrt (y5_1_4 = false) <|
(show T An ((Bool)) from
(show T An ((Int)) from
(t_strings_IndexByte x7 65).bind fun x61 =>
T.ret (x61 : Int)).bind <| fun y1_1 =>
T.ask (decide (y1_1 ≥ 0)) fun x62 =>
T.ret x62).bind <| fun y2_1_5 =>
(show T An (Int × Int) from
cond y2_1_5 ((t_ops_bounds a1.Kind 65).bind fun x64 =>
T.ret ((x64.1 : Int), (x64.2 : Int))) (T.ret ((0 : Int), (0 : Int)))).bind <| p2 fun (y3_1_5 : Int) (y3_2_5 : Int) =>
(show T An ((Unit)) from
T.ret ()).bind <| fun _ =>
(show T An (Bool) from
T.ask (decide (a1.Amount < y3_1_5)) fun x67 =>
cond x67 (T.ret true) (T.ask (decide (a1.Amount > y3_2_5)) fun x68 =>
T.ret x68)).bind <| fun y5_1_5 =>
T.asrt (y5_1_5 = false) <|
(show T An ((Bool)) from
(show T An ((Int)) from
(t_strings_IndexByte x7 82).bind fun x71 =>
T.ret (x71 : Int)).bind <| fun y1_1 =>
T.ask (decide (y1_1 ≥ 0)) fun x72 =>
T.ret x72).bind <| fun y2_1_6 =>
(show T An (Int × Int) from
cond y2_1_6 ((t_ops_bounds a1.Kind 82).bind fun x74 =>
T.ret ((x74.1 : Int), (x74.2 : Int))) (T.ret ((0 : Int), (0 : Int)))).bind <| p2 fun (y3_1_6 : Int) (y3_2_6 : Int) =>
(show T An ((Unit)) from
T.ret ()).bind <| fun _ =>
(show T An (Bool) from
T.ask (decide (a1.Ref < y3_1_6)) fun x77 =>
cond x77 (T.ret true) (T.ask (decide (a1.Ref > y3_2_6)) fun x78 =>
T.ret x78)).bind <| fun y5_1_6 =>
T.asrt (y5_1_6 = false) <|
T.ask (decide (a1.Kind = 11)) fun x79 =>
T.asrt (x79 = false) <|
(show T An (Bool) from
T.ask (decide ((a1.Refs.length : Int) = 0)) fun x81 =>
cond x81 (T.ask (decide (a1.Kind = 8)) fun x82 =>
cond x82 (T.ask (decide (a1.To = a1.Loc)) fun x86 =>
T.bnd (!x86) fun x87 =>
cond x87 (T.ask (decide (a1.Kind = 12)) fun x88 =>
cond x88 (T.ask (decide (a1.To = a1.E)) fun x89 =>
T.bnd (!x89) fun x90 =>
T.ret x90) (T.ret true)) (T.ret false)) (T.ask (decide (a1.Kind = 12)) fun x83 =>
cond x83 (T.ask (decide (a1.To = a1.E)) fun x84 =>
T.bnd (!x84) fun x85 =>
T.ret x85) (T.ret true))) (T.ret false)).bind <| fun y6_1 =>
T.ret (y6_1)
theorem t_ops_Check_ok (a1 : GOp) : (t_ops_Check a1).run = d_ops_Check a1 := by
  simp only [t_ops_Check, d_ops_Check, T.rs, T_ixInt_ok, t_ops_bounds_ok, t_ops_forms_ok, t_strings_IndexByte_ok]
def t_stock_is (a1 : GState) (a2 : Int) (a3 : Int) : T An (Bool) :=
(show T An (Bool) from
T.ask (decide (a2 < 0)) fun x6 =>
cond x6 (T.ret true) (T.ask (decide (a2 ≥ (a1.Ents.length : Int))) fun x7 =>
cond x7 (T.ret true) (T.ask (decide (a3 < 0)) fun x8 =>
cond x8 (T.ret true) (T.ask (decide (a3 ≥ (a1.Master.Weights.length : Int))) fun x9 =>
T.ret x9)))).bind <| fun y0_1 =>
T.asrt (y0_1 = false) <|
(T.ix a1.Ents a2).bind fun x10 =>
(show T An (Bool) from
T.wr ((a1.Master.Weights.length : Int) * 2) fun x13 =>
T.ask (decide ((x10.Pools.length : Int) ≥ x13)) fun x14 =>
cond x14 (T.ask (decide ((x10.Rolls.length : Int) ≥ (a1.Master.Weights.length : Int))) fun x15 =>
cond x15 (T.ask (decide (a2 < (a1.Master.Methods.length : Int))) fun x16 =>
cond x16 (T.ask (decide (a2 < (a1.Master.Costs.length : Int))) fun x17 =>
cond x17 ((T.ix a1.Master.Methods a2).bind fun x18 =>
T.ask (decide ((x18.length : Int) ≥ (a1.Master.Weights.length : Int))) fun x19 =>
cond x19 ((T.ix a1.Master.Costs a2).bind fun x20 =>
T.ask (decide ((x20.length : Int) ≥ (a1.Master.Weights.length : Int))) fun x21 =>
T.ret x21) (T.ret false)) (T.ret false)) (T.ret false)) (T.ret false)) (T.ret false)).bind <| fun y1_1 =>
T.ret (y1_1)
theorem t_stock_is_ok (a1 : GState) (a2 : Int) (a3 : Int) : (t_stock_is a1 a2 a3).run = d_stock_is a1 a2 a3 := by
  simp only [t_stock_is, d_stock_is, T.rs, T_ixInt_ok]
def t_stock_Ready (a1 : GState) (a2 : Int) (a3 : Int) : T An (Int) :=
(t_stock_is a1 a2 a3).bind fun x5 =>
T.bnd (!x5) fun x6 =>
T.asrt (x6 = false) <|
(T.ix a1.Ents a2).bind fun x7 =>
T.bnd (x7.Closed) fun x8 =>
T.asrt (x8 = false) <|
T.ret ((0 : Int))
theorem t_stock_Ready_ok (a1 : GState) (a2 : Int) (a3 : Int) : (t_stock_Ready a1 a2 a3).run = d_stock_Ready a1 a2 a3 := by
  simp only [t_stock_Ready, d_stock_Ready, T.rs, T_ixInt_ok, t_stock_is_ok]
def t_money_in (a1 : Int) : T An (Bool) :=
(show T An (Bool) from
T.ask (decide (a1 ≥ (-288230376151711744))) fun x3 =>
cond x3 (T.ask (decide (a1 ≤ 288230376151711744)) fun x4 =>
T.ret x4) (T.ret false)).bind <| fun y0_1 =>
T.ret (y0_1)
theorem t_money_in_ok (a1 : Int) : (t_money_in a1).run = d_money_in a1 := by
  simp only [t_money_in, d_money_in, T.rs, T_ixInt_ok]
def t_money_MulDiv (n : Nat) (a1 : Int) (a2 : Int) (a3 : Int) : T An (Int × Int × Int) := T.opx An.i An.gi (d_money_MulDiv n a1 a2 a3)
theorem t_money_MulDiv_ok (n : Nat) (a1 : Int) (a2 : Int) (a3 : Int) : (t_money_MulDiv n a1 a2 a3).run = d_money_MulDiv n a1 a2 a3 := T.run_opx (f := An.i) (g := An.gi) (fun _ => rfl) _
def t_money_Part (n : Nat) (a1 : Int) (a2 : Int) (a3 : Int) : T An (Int) :=
(show T An (Bool) from
T.ask (decide (a3 < 1)) fun x5 =>
cond x5 (T.ret true) (T.ask (decide (a2 < 0)) fun x6 =>
cond x6 (T.ret true) (T.ask (decide (a2 > a3)) fun x7 =>
cond x7 (T.ret true) ((t_money_in a1).bind fun x8 =>
T.bnd (!x8) fun x9 =>
T.ret x9)))).bind <| fun y0_1 =>
T.asrt (y0_1 = false) <|
T.ask (decide (a2 = a3)) fun x10 =>
cond x10 (T.ret ((a1 : Int))) (T.ask (decide (a1 < 0)) fun x11 =>
T.asrt (x11 = false) <|
(t_money_MulDiv n a1 a2 a3).bind fun x12 =>
T.ret ((x12.1 : Int)))
theorem t_money_Part_ok (n : Nat) (a1 : Int) (a2 : Int) (a3 : Int) : (t_money_Part n a1 a2 a3).run = d_money_Part n a1 a2 a3 := by
  simp only [t_money_Part, d_money_Part, T.rs, T_ixInt_ok, t_money_MulDiv_ok, t_money_in_ok]
def t_stock_in (a1 : Int) (a2 : Int) (a3 : Int) : T An (Bool) :=
(show T An (Bool) from
T.ask (decide (a1 ≥ a2)) fun x5 =>
cond x5 (T.ask (decide (a1 ≤ a3)) fun x6 =>
T.ret x6) (T.ret false)).bind <| fun y0_1 =>
T.ret (y0_1)
theorem t_stock_in_ok (a1 : Int) (a2 : Int) (a3 : Int) : (t_stock_in a1 a2 a3).run = d_stock_in a1 a2 a3 := by
  simp only [t_stock_in, d_stock_in, T.rs, T_ixInt_ok]
def t_stock_place (a1 : GState) (a2 : Int) (a3 : Int) (a4 : Int) : T An (Int) :=
(show T An (Bool) from
(t_stock_is a1 a2 a3).bind fun x7 =>
T.bnd (!x7) fun x8 =>
cond x8 (T.ret true) ((t_stock_in a4 0 1).bind fun x9 =>
T.bnd (!x9) fun x10 =>
T.ret x10)).bind <| fun y0_1 =>
T.asrt (y0_1 = false) <|
T.wr (a3 * 2) fun x11 =>
T.wr (x11 + a4) fun x12 =>
T.ret ((x12 : Int))
theorem t_stock_place_ok (a1 : GState) (a2 : Int) (a3 : Int) (a4 : Int) : (t_stock_place a1 a2 a3 a4).run = d_stock_place a1 a2 a3 a4 := by
  simp only [t_stock_place, d_stock_place, T.rs, T_ixInt_ok, t_stock_in_ok, t_stock_is_ok]
def t_pool_own (a1 : GPool) : T An (GPool) :=
T.asrt (a1.Layers.length ≤ 68719476736) <|
(show T An ((Unit)) from
T.ret ()).bind <| fun _ =>
T.ret (a1)
theorem t_pool_own_ok (a1 : GPool) : (t_pool_own a1).run = d_pool_own a1 := by
  simp only [t_pool_own, d_pool_own, T.rs, T_ixInt_ok]
def t_fifo_wrong (a1 : GLayer) : T An (Bool) :=
(show T An (Bool) from
T.ask (decide (a1.Qty < 1)) fun x4 =>
cond x4 (T.ret true) (T.ask (decide (a1.Qty > 288230376151711744)) fun x5 =>
cond x5 (T.ret true) (T.ask (decide (a1.Value < 0)) fun x6 =>
cond x6 (T.ret true) (T.ask (decide (a1.Value > 288230376151711744)) fun x7 =>
cond x7 (T.ret true) (T.ask (decide (a1.Profit < (-288230376151711744))) fun x8 =>
cond x8 (T.ret true) (T.ask (decide (a1.Profit > 288230376151711744)) fun x9 =>
T.ret x9)))))).bind <| fun y0_1 =>
T.ret (y0_1)
theorem t_fifo_wrong_ok (a1 : GLayer) : (t_fifo_wrong a1).run = d_fifo_wrong a1 := by
  simp only [t_fifo_wrong, d_fifo_wrong, T.rs, T_ixInt_ok]
def t_money_Add (a1 : Int) (a2 : Int) : T An (Int × Int) :=
(show T An (Bool) from
(t_money_in a1).bind fun x4 =>
T.bnd (!x4) fun x5 =>
cond x5 (T.ret true) ((t_money_in a2).bind fun x6 =>
T.bnd (!x6) fun x7 =>
cond x7 (T.ret true) (T.wr (a1 + a2) fun x8 =>
(t_money_in x8).bind fun x9 =>
T.bnd (!x9) fun x10 =>
T.ret x10))).bind <| fun y0_1 =>
T.asrt (y0_1 = false) <|
T.wr (a1 + a2) fun x11 =>
T.ret ((x11 : Int), (0 : Int))
theorem t_money_Add_ok (a1 : Int) (a2 : Int) : (t_money_Add a1 a2).run = d_money_Add a1 a2 := by
  simp only [t_money_Add, d_money_Add, T.rs, T_ixInt_ok, t_money_in_ok]
def t_money_Sum_L0 (a1 : List Int) : Nat → Int → Int → T An (Int)
  | 0, _, _ => T.fail
  | n + 1, y0_1, y0_2 =>
    T.ask (decide (y0_2 < (a1.length : Int))) fun x3 =>
    cond x3 ((T_ixInt a1 y0_2).bind fun x4 =>
    (t_money_Add y0_1 x4).bind fun x5 =>
    T.ask (decide (x5.2 ≠ 0)) fun x6 =>
    T.asrt (x6 = false) <|
    T.wr (y0_2 + 1) fun x7 =>
    t_money_Sum_L0 a1 n (x5.1 : Int) (x7 : Int)) (T.ret (y0_1 : Int))
theorem t_money_Sum_L0_ok (a1 : List Int) : ∀ (n : Nat) (z0 : Int) (z1 : Int), (t_money_Sum_L0 a1 n z0 z1).run = d_money_Sum_L0 a1 n z0 z1
  | 0, _, _ => rfl
  | n + 1, z0, z1 => by
    simp only [t_money_Sum_L0, d_money_Sum_L0, T.rs, T_ixInt_ok, t_money_Add_ok, t_money_Sum_L0_ok a1 n]
def t_money_Sum (n : Nat) (a1 : List Int) : T An (Int × Int) :=
(show T An (Int) from
t_money_Sum_L0 a1 n (0 : Int) (0 : Int)).bind <| fun y1_1 =>
T.ret ((y1_1 : Int), (0 : Int))
theorem t_money_Sum_ok (n : Nat) (a1 : List Int) : (t_money_Sum n a1).run = d_money_Sum n a1 := by
  simp only [t_money_Sum, d_money_Sum, T.rs, T_ixInt_ok, t_money_Sum_L0_ok]
def t_fifo_Total_L0 (a1 : List GLayer) : Nat → Int → (List Int) → (List Int) → (List Int) → T An ((List Int) × (List Int) × (List Int))
  | 0, _, _, _, _ => T.fail
  | n + 1, y0_4, y0_5, y0_6, y0_7 =>
    T.ask (decide (y0_4 < (a1.length : Int))) fun x7 =>
    cond x7 ((T.ix a1 y0_4).bind fun x8 =>
    T.bnd (y0_5 ++ ([x8.Qty] : List Int)) fun x10 =>
    T.asrt (x10.length ≤ 68719476736) <|
    T.bnd (y0_6 ++ ([x8.Value] : List Int)) fun x13 =>
    T.asrt (x13.length ≤ 68719476736) <|
    T.bnd (y0_7 ++ ([x8.Profit] : List Int)) fun x16 =>
    T.asrt (x16.length ≤ 68719476736) <|
    T.wr (y0_4 + 1) fun x19 =>
    t_fifo_Total_L0 a1 n (x19 : Int) x10 x13 x16) (T.ret (y0_5, y0_6, y0_7))
theorem t_fifo_Total_L0_ok (a1 : List GLayer) : ∀ (n : Nat) (z0 : Int) (z1 : (List Int)) (z2 : (List Int)) (z3 : (List Int)), (t_fifo_Total_L0 a1 n z0 z1 z2 z3).run = d_fifo_Total_L0 a1 n z0 z1 z2 z3
  | 0, _, _, _, _ => rfl
  | n + 1, z0, z1, z2, z3 => by
    simp only [t_fifo_Total_L0, d_fifo_Total_L0, T.rs, T_ixInt_ok, t_fifo_Total_L0_ok a1 n]
def t_fifo_Total (n : Nat) (a1 : List GLayer) : T An (GLayer × Int) :=
(show T An ((List Int) × (List Int) × (List Int)) from
t_fifo_Total_L0 a1 n (0 : Int) (([] : List Int) : List Int) (([] : List Int) : List Int) (([] : List Int) : List Int)).bind <| p2 fun y1_4 (q0 : (List Int) × (List Int)) => (p2 fun y1_5 y1_6 =>
(show T An (GLayer) from
(t_money_Sum n y1_4).bind fun x23 =>
T.ask (decide (x23.2 ≠ 0)) fun x24 =>
T.asrt (x24 = false) <|
(t_money_Sum n y1_5).bind fun x26 =>
T.ask (decide (x26.2 ≠ 0)) fun x27 =>
T.asrt (x27 = false) <|
(t_money_Sum n y1_6).bind fun x29 =>
T.ask (decide (x29.2 ≠ 0)) fun x30 =>
T.asrt (x30 = false) <|
T.ret ((⟨x23.1, x26.1, x29.1⟩ : GLayer) : GLayer)).bind <| fun y2_1 =>
T.ret (y2_1, (0 : Int))) q0
theorem t_fifo_Total_ok (n : Nat) (a1 : List GLayer) : (t_fifo_Total n a1).run = d_fifo_Total n a1 := by
  simp only [t_fifo_Total, d_fifo_Total, T.rs, T_ixInt_ok, t_fifo_Total_L0_ok, t_money_Sum_ok]
def t_fifo_steady_L0 (a1 : List GLayer) : Nat → Int → (List Int) → T An ((List Int))
  | 0, _, _ => T.fail
  | n + 1, y0_2, y0_3 =>
    T.ask (decide (y0_2 < (a1.length : Int))) fun x4 =>
    cond x4 ((T.ix a1 y0_2).bind fun x5 =>
    T.wr (0 - x5.Profit) fun x7 =>
    (T.ifv (x7 > x5.Profit) (x7) (x5.Profit)).bind fun x8 =>
    T.bnd (y0_3 ++ ([x8] : List Int)) fun x9 =>
    T.asrt (x9.length ≤ 68719476736) <|
    T.wr (y0_2 + 1) fun x12 =>
    t_fifo_steady_L0 a1 n (x12 : Int) x9) (T.ret y0_3)
theorem t_fifo_steady_L0_ok (a1 : List GLayer) : ∀ (n : Nat) (z0 : Int) (z1 : (List Int)), (t_fifo_steady_L0 a1 n z0 z1).run = d_fifo_steady_L0 a1 n z0 z1
  | 0, _, _ => rfl
  | n + 1, z0, z1 => by
    simp only [t_fifo_steady_L0, d_fifo_steady_L0, T.rs, T_ixInt_ok, t_fifo_steady_L0_ok a1 n]
def t_fifo_steady (n : Nat) (a1 : List GLayer) : T An (Bool) :=
(show T An ((List Int)) from
t_fifo_steady_L0 a1 n (0 : Int) (([] : List Int) : List Int)).bind <| fun y1_2 =>
(t_money_Sum n y1_2).bind fun x13 =>
T.ask (decide (x13.2 = 0)) fun x14 =>
T.ret (x14)
theorem t_fifo_steady_ok (n : Nat) (a1 : List GLayer) : (t_fifo_steady n a1).run = d_fifo_steady n a1 := by
  simp only [t_fifo_steady, d_fifo_steady, T.rs, T_ixInt_ok, t_fifo_steady_L0_ok, t_money_Sum_ok]
def t_fifo_Right_L0 (a1 : List GLayer) : Nat → Int → T An ((Unit) ⊕ ((Int)))
  | 0, _ => T.fail
  | n + 1, y0_1 =>
    T.ask (decide (y0_1 < (a1.length : Int))) fun x7 =>
    cond x7 ((T.ix a1 y0_1).bind fun x8 =>
    (t_fifo_wrong x8).bind fun x9 =>
    cond x9 (T.esc (T.ret (y0_1 : Int))) (T.wr (y0_1 + 1) fun x10 =>
    t_fifo_Right_L0 a1 n (x10 : Int))) (T.brk ())
theorem t_fifo_Right_L0_ok (a1 : List GLayer) : ∀ (n : Nat) (z0 : Int), (t_fifo_Right_L0 a1 n z0).run = d_fifo_Right_L0 a1 n z0
  | 0, _ => rfl
  | n + 1, z0 => by
    simp only [t_fifo_Right_L0, d_fifo_Right_L0, T.rs, T_ixInt_ok, t_fifo_wrong_ok, t_fifo_Right_L0_ok a1 n]
def t_fifo_Right (n : Nat) (a1 : List GLayer) : T An (Bool) :=
(show T An (Bool) from
T.ask (decide ((a1.length : Int) > 30)) fun x3 =>
cond x3 (T.ret true) ((show T An ((Bool)) from
(show T An ((Int)) from
(show T An ((Unit) ⊕ ((Int))) from
t_fifo_Right_L0 a1 n (0 : Int)).bind <| T.sel <| fun _ =>
T.ret ((-1) : Int)).bind <| fun y2_1 =>
T.ask (decide (y2_1 ≥ 0)) fun x12 =>
T.ret x12).bind <| fun y3_1 =>
T.ret y3_1)).bind <| fun y4_1 =>
T.asrt (y4_1 = false) <|
(t_fifo_Total n a1).bind fun x13 =>
(show T An (Bool) from
T.ask (decide (x13.2 = 0)) fun x16 =>
cond x16 ((t_fifo_steady n a1).bind fun x17 =>
T.ret x17) (T.ret false)).bind <| fun y5_1 =>
T.ret (y5_1)
theorem t_fifo_Right_ok (n : Nat) (a1 : List GLayer) : (t_fifo_Right n a1).run = d_fifo_Right n a1 := by
  simp only [t_fifo_Right, d_fifo_Right, T.rs, T_ixInt_ok, t_fifo_Right_L0_ok, t_fifo_Total_ok, t_fifo_steady_ok]
def t_fifo_In (n : Nat) (a1 : List GLayer) (a2 : GLayer) : T An ((List GLayer) × Int) :=
T.asrt (a1.length ≤ 68719476736) <|
(show T An (Bool) from
T.ask (decide (a2.Qty < 1)) fun x7 =>
cond x7 (T.ret true) (T.ask (decide (a2.Value < 0)) fun x8 =>
T.ret x8)).bind <| fun y0_1 =>
T.asrt (y0_1 = false) <|
T.ask (decide ((a1.length : Int) ≥ 30)) fun x9 =>
T.asrt (x9 = false) <|
T.asrt (a1.length ≤ 68719476736) <|
T.bnd (a1 ++ ([a2] : List GLayer)) fun x12 =>
T.asrt (x12.length ≤ 68719476736) <|
(t_fifo_Right n x12).bind fun x15 =>
T.bnd (!x15) fun x16 =>
T.asrt (x16 = false) <|
T.ret (x12, (0 : Int))
theorem t_fifo_In_ok (n : Nat) (a1 : List GLayer) (a2 : GLayer) : (t_fifo_In n a1 a2).run = d_fifo_In n a1 a2 := by
  simp only [t_fifo_In, d_fifo_In, T.rs, T_ixInt_ok, t_fifo_Right_ok]
def t_mavg_In (n : Nat) (a1 : List GLayer) (a2 : GLayer) : T An ((List GLayer) × Int) :=
(show T An ((Unit)) from
T.ret ()).bind <| fun _ =>
(t_fifo_In n a1 a2).bind fun x6 =>
T.ask (decide (x6.2 ≠ 0)) fun x7 =>
T.asrt (x7 = false) <|
(show T An ((Unit)) from
T.ret ()).bind <| fun _ =>
(t_fifo_Total n x6.1).bind fun x10 =>
T.ask (decide (x10.2 ≠ 0)) fun x12 =>
T.asrt (x12 = false) <|
T.ret ((([x10.1] : List GLayer) : List GLayer), (0 : Int))
theorem t_mavg_In_ok (n : Nat) (a1 : List GLayer) (a2 : GLayer) : (t_mavg_In n a1 a2).run = d_mavg_In n a1 a2 := by
  simp only [t_mavg_In, d_mavg_In, T.rs, T_ixInt_ok, t_fifo_In_ok, t_fifo_Total_ok]
def t_pavg_own (a1 : GPool) (a2 : List GLayer) : T An (GPool) :=
T.asrt (a2.length ≤ 68719476736) <|
T.ret (((⟨a2, a1.Pend⟩ : GPool) : GPool))
theorem t_pavg_own_ok (a1 : GPool) (a2 : List GLayer) : (t_pavg_own a1 a2).run = d_pavg_own a1 a2 := by
  simp only [t_pavg_own, d_pavg_own, T.rs, T_ixInt_ok]
def t_pavg_In (n : Nat) (a1 : GPool) (a2 : GLayer) : T An (GPool × Int) :=
(t_mavg_In n a1.Layers a2).bind fun x6 =>
(t_pavg_own a1 x6.1).bind fun x7 =>
T.ret (x7, (x6.2 : Int))
theorem t_pavg_In_ok (n : Nat) (a1 : GPool) (a2 : GLayer) : (t_pavg_In n a1 a2).run = d_pavg_In n a1 a2 := by
  simp only [t_pavg_In, d_pavg_In, T.rs, T_ixInt_ok, t_mavg_In_ok, t_pavg_own_ok]
def t_pool_In (n : Nat) (a1 : Int) (a2 : Int) (a3 : GPool) (a4 : GLayer) : T An (GPool × Int × Int) :=
(show T An ((Unit) ⊕ (Unit)) from
T.ask (decide (a1 = 1)) fun x9 =>
T.asrt (x9 = false) <|
T.ask (decide (a1 = 2)) fun x10 =>
T.asrt (x10 = false) <|
T.ask (decide (a1 = 3)) fun x11 =>
cond x11 (T.ret (.inr ())) (T.ask (decide (a1 = 4)) fun x12 =>
T.asrt (x12 = false) <|
T.ret (.inl ()))).bind <| T.selr (fun _ =>
(t_pool_own a3).bind fun x13 =>
T.ret (x13, (0 : Int), (12 : Int))) <| fun _ =>
(show T An ((GPool × Int)) from
(t_pavg_In n a3 a4).bind fun x19 =>
T.ret (x19.1, (x19.2 : Int))).bind <| p2 fun y2_1 (y2_2 : Int) =>
T.ask (decide (y2_2 ≠ 0)) fun x21 =>
T.asrt (x21 = false) <|
T.ret (y2_1, (0 : Int), (0 : Int))
theorem t_pool_In_ok (n : Nat) (a1 : Int) (a2 : Int) (a3 : GPool) (a4 : GLayer) : (t_pool_In n a1 a2 a3 a4).run = d_pool_In n a1 a2 a3 a4 := by
  simp only [t_pool_In, d_pool_In, T.rs, T_ixInt_ok, t_pavg_In_ok, t_pool_own_ok]
def t_stock_At (a1 : GState) (a2 : Int) (a3 : Int) (a4 : Int) : T An (GPool) :=
(t_stock_place a1 a2 a3 a4).bind fun x7 =>
T.ask (decide (x7 < 0)) fun x8 =>
T.asrt (x8 = false) <|
(T.ix a1.Ents a2).bind fun x9 =>
(T.ix x9.Pools x7).bind fun x10 =>
T.asrt (x10.Layers.length ≤ 68719476736) <|
T.ret (x10)
theorem t_stock_At_ok (a1 : GState) (a2 : Int) (a3 : Int) (a4 : Int) : (t_stock_At a1 a2 a3 a4).run = d_stock_At a1 a2 a3 a4 := by
  simp only [t_stock_At, d_stock_At, T.rs, T_ixInt_ok, t_stock_place_ok]
def t_stock_worth_L0 (a1 : GState) (a2 : Int) (a3 : Int) : Nat → Int → (List Int) → (List Int) → (List Int) → T An ((List Int) × (List Int) × (List Int))
  | 0, _, _, _, _ => T.fail
  | n + 1, y0_4, y0_5, y0_6, y0_7 =>
    T.ask (decide (y0_4 < 2)) fun x10 =>
    cond x10 ((t_stock_At a1 a2 a3 y0_4).bind fun x11 =>
    (t_fifo_Total n x11.Layers).bind fun x12 =>
    T.bnd (y0_5 ++ ([x12.1.Qty] : List Int)) fun x14 =>
    T.asrt (x14.length ≤ 68719476736) <|
    T.bnd (y0_6 ++ ([x12.1.Value] : List Int)) fun x17 =>
    T.asrt (x17.length ≤ 68719476736) <|
    T.bnd (y0_7 ++ ([x12.1.Profit] : List Int)) fun x20 =>
    T.asrt (x20.length ≤ 68719476736) <|
    T.wr (y0_4 + 1) fun x23 =>
    t_stock_worth_L0 a1 a2 a3 n (x23 : Int) x14 x17 x20) (T.ret (y0_5, y0_6, y0_7))
theorem t_stock_worth_L0_ok (a1 : GState) (a2 : Int) (a3 : Int) : ∀ (n : Nat) (z0 : Int) (z1 : (List Int)) (z2 : (List Int)) (z3 : (List Int)), (t_stock_worth_L0 a1 a2 a3 n z0 z1 z2 z3).run = d_stock_worth_L0 a1 a2 a3 n z0 z1 z2 z3
  | 0, _, _, _, _ => rfl
  | n + 1, z0, z1, z2, z3 => by
    simp only [t_stock_worth_L0, d_stock_worth_L0, T.rs, T_ixInt_ok, t_fifo_Total_ok, t_stock_At_ok, t_stock_worth_L0_ok a1 a2 a3 n]
def t_stock_worth (n : Nat) (a1 : GState) (a2 : Int) (a3 : Int) : T An (GLayer × Bool) :=
(show T An ((List Int) × (List Int) × (List Int)) from
t_stock_worth_L0 a1 a2 a3 n (0 : Int) (([] : List Int) : List Int) (([] : List Int) : List Int) (([] : List Int) : List Int)).bind <| p2 fun y1_4 (q0 : (List Int) × (List Int)) => (p2 fun y1_5 y1_6 =>
(t_money_Sum n y1_4).bind fun x24 =>
(t_money_Sum n y1_5).bind fun x25 =>
(t_money_Sum n y1_6).bind fun x26 =>
T.bnd (if x26.2 > (if x25.2 > x24.2 then x25.2 else x24.2) then x26.2 else (if x25.2 > x24.2 then x25.2 else x24.2)) fun x27 =>
T.ask (decide (x27 = 0)) fun x28 =>
T.ret (((⟨x24.1, x25.1, x26.1⟩ : GLayer) : GLayer), x28)) q0
theorem t_stock_worth_ok (n : Nat) (a1 : GState) (a2 : Int) (a3 : Int) : (t_stock_worth n a1 a2 a3).run = d_stock_worth n a1 a2 a3 := by
  simp only [t_stock_worth, d_stock_worth, T.rs, T_ixInt_ok, t_money_Sum_ok, t_stock_worth_L0_ok]
def t_stock_steady_L1 (x9 : GPool) : Nat → Int → (List Int) → T An ((List Int))
  | 0, _, _ => T.fail
  | n + 1, y1_2, y1_3 =>
    T.ask (decide (y1_2 < (x9.Layers.length : Int))) fun x11 =>
    cond x11 ((T.ix x9.Layers y1_2).bind fun x12 =>
    T.wr (0 - x12.Profit) fun x14 =>
    (T.ifv (x14 > x12.Profit) (x14) (x12.Profit)).bind fun x15 =>
    T.bnd (y1_3 ++ ([x15] : List Int)) fun x16 =>
    T.asrt (x16.length ≤ 68719476736) <|
    T.wr (y1_2 + 1) fun x19 =>
    t_stock_steady_L1 x9 n (x19 : Int) x16) (T.ret y1_3)
theorem t_stock_steady_L1_ok (x9 : GPool) : ∀ (n : Nat) (z0 : Int) (z1 : (List Int)), (t_stock_steady_L1 x9 n z0 z1).run = d_stock_steady_L1 x9 n z0 z1
  | 0, _, _ => rfl
  | n + 1, z0, z1 => by
    simp only [t_stock_steady_L1, d_stock_steady_L1, T.rs, T_ixInt_ok, t_stock_steady_L1_ok x9 n]
def t_stock_steady_L0 (a1 : GState) (a2 : Int) (a3 : Int) : Nat → Int → (List Int) → T An ((List Int))
  | 0, _, _ => T.fail
  | n + 1, y0_2, y0_3 =>
    T.ask (decide (y0_2 < 2)) fun x7 =>
    cond x7 ((show T An ((List Int)) from
    (t_stock_At a1 a2 a3 y0_2).bind fun x9 =>
    (show T An ((List Int)) from
    t_stock_steady_L1 x9 n (0 : Int) y0_3).bind <| fun y2_2 =>
    T.ret y2_2).bind <| fun y3_2 =>
    T.wr (y0_2 + 1) fun x20 =>
    t_stock_steady_L0 a1 a2 a3 n (x20 : Int) y3_2) (T.ret y0_3)
theorem t_stock_steady_L0_ok (a1 : GState) (a2 : Int) (a3 : Int) : ∀ (n : Nat) (z0 : Int) (z1 : (List Int)), (t_stock_steady_L0 a1 a2 a3 n z0 z1).run = d_stock_steady_L0 a1 a2 a3 n z0 z1
  | 0, _, _ => rfl
  | n + 1, z0, z1 => by
    simp only [t_stock_steady_L0, d_stock_steady_L0, T.rs, T_ixInt_ok, t_stock_At_ok, t_stock_steady_L1_ok, t_stock_steady_L0_ok a1 a2 a3 n]
def t_stock_steady (n : Nat) (a1 : GState) (a2 : Int) (a3 : Int) : T An (Bool) :=
(show T An ((List Int)) from
t_stock_steady_L0 a1 a2 a3 n (0 : Int) (([] : List Int) : List Int)).bind <| fun y4_2 =>
(t_money_Sum n y4_2).bind fun x21 =>
T.ask (decide (x21.2 = 0)) fun x22 =>
T.ret (x22)
theorem t_stock_steady_ok (n : Nat) (a1 : GState) (a2 : Int) (a3 : Int) : (t_stock_steady n a1 a2 a3).run = d_stock_steady n a1 a2 a3 := by
  simp only [t_stock_steady, d_stock_steady, T.rs, T_ixInt_ok, t_money_Sum_ok, t_stock_steady_L0_ok]
def t_stock_Bring (n : Nat) (a1 : GState) (a2 : Int) (a3 : Int) (a4 : Int) (a5 : GLayer) : T An (GState × Int × Int × Int) :=
(t_stock_place a1 a2 a3 a4).bind fun x9 =>
T.ask (decide (x9 < 0)) fun x10 =>
T.asrt (x10 = false) <|
(T.ix a1.Master.Methods a2).bind fun x11 =>
(T_ixInt x11 a3).bind fun x12 =>
(T.ix a1.Master.Costs a2).bind fun x13 =>
(T_ixInt x13 a3).bind fun x14 =>
(T.ix a1.Ents a2).bind fun x15 =>
(T.ix x15.Pools x9).bind fun x16 =>
(t_pool_In n x12 x14 x16 a5).bind fun x17 =>
T.ask (decide (x17.2.2 ≠ 0)) fun x19 =>
T.asrt (x19 = false) <|
(show T An ((Int × Bool × (List Int) × (List GRoll) × (List Int) × (List Int) × (List GEnt) × (List GPool))) from
(show T An ((Unit)) from
T.asrt (a1.Ents.length ≤ 68719476736) <|
(T.ix a1.Ents a2).bind fun x26 =>
T.ret ()).bind <| fun _ =>
(T.ix a1.Ents a2).bind fun x27 =>
T.asrt (x27.Pools.length ≤ 68719476736) <|
(T.ix x27.Pools x9).bind fun x30 =>
T.bnd (x27.Pools.set (Int.toNat x9) x17.1) fun x31 =>
T.ret ((x27.Now : Int), x27.Closed, x27.Bal, x27.Rolls, x27.Prices, x27.Down, x27.Ahead, x31)).bind <| p2 fun (y1_2 : Int) (q0 : Bool × (List Int) × (List GRoll) × (List Int) × (List Int) × (List GEnt) × (List GPool)) => (p2 fun y1_3 (q1 : (List Int) × (List GRoll) × (List Int) × (List Int) × (List GEnt) × (List GPool)) => (p2 fun y1_5 (q2 : (List GRoll) × (List Int) × (List Int) × (List GEnt) × (List GPool)) => (p2 fun y1_6 (q3 : (List Int) × (List Int) × (List GEnt) × (List GPool)) => (p2 fun y1_7 (q4 : (List Int) × (List GEnt) × (List GPool)) => (p2 fun y1_8 (q5 : (List GEnt) × (List GPool)) => (p2 fun y1_9 y1_10 =>
(T.ix a1.Ents a2).bind fun x32 =>
(t_stock_worth n (⟨a1.Master, (a1.Ents.set (Int.toNat a2) (⟨y1_2, y1_3, y1_10, y1_5, y1_6, y1_7, y1_8, y1_9⟩ : GEnt)), a1.Receipts, a1.Sales, a1.Transits, a1.Done⟩ : GState) a2 a3).bind fun x33 =>
(show T An (Bool) from
T.bnd (!x33.2) fun x36 =>
cond x36 (T.ret true) ((t_stock_steady n (⟨a1.Master, (a1.Ents.set (Int.toNat a2) (⟨y1_2, y1_3, y1_10, y1_5, y1_6, y1_7, y1_8, y1_9⟩ : GEnt)), a1.Receipts, a1.Sales, a1.Transits, a1.Done⟩ : GState) a2 a3).bind fun x37 =>
T.bnd (!x37) fun x38 =>
T.ret x38)).bind <| fun y2_1 =>
T.asrt (y2_1 = false) <|
T.wr (a5.Value - x17.2.1) fun x39 =>
T.ret (((⟨a1.Master, (a1.Ents.set (Int.toNat a2) (⟨y1_2, y1_3, y1_10, y1_5, y1_6, y1_7, y1_8, y1_9⟩ : GEnt)), a1.Receipts, a1.Sales, a1.Transits, a1.Done⟩ : GState) : GState), (x39 : Int), (x17.2.1 : Int), (0 : Int))) q5) q4) q3) q2) q1) q0
theorem t_stock_Bring_ok (n : Nat) (a1 : GState) (a2 : Int) (a3 : Int) (a4 : Int) (a5 : GLayer) : (t_stock_Bring n a1 a2 a3 a4 a5).run = d_stock_Bring n a1 a2 a3 a4 a5 := by
  simp only [t_stock_Bring, d_stock_Bring, T.rs, T_ixInt_ok, t_pool_In_ok, t_stock_place_ok, t_stock_steady_ok, t_stock_worth_ok]
def t_sell_line (a1 : Int) (a2 : Int) : T An (GLine) :=
T.ret (((⟨a1, a2⟩ : GLine) : GLine))
theorem t_sell_line_ok (a1 : Int) (a2 : Int) : (t_sell_line a1 a2).run = d_sell_line a1 a2 := by
  simp only [t_sell_line, d_sell_line, T.rs, T_ixInt_ok]
def t_voucher_is (a1 : Int) : T An (Bool) :=
(show T An (Bool) from
T.ask (decide (a1 ≥ 0)) fun x3 =>
cond x3 (T.ask (decide (a1 < 17)) fun x4 =>
T.ret x4) (T.ret false)).bind <| fun y0_1 =>
T.ret (y0_1)
theorem t_voucher_is_ok (a1 : Int) : (t_voucher_is a1).run = d_voucher_is a1 := by
  simp only [t_voucher_is, d_voucher_is, T.rs, T_ixInt_ok]
def t_voucher_in (a1 : Int) : T An (Bool) :=
(show T An (Bool) from
T.ask (decide (a1 ≥ (-288230376151711744))) fun x3 =>
cond x3 (T.ask (decide (a1 ≤ 288230376151711744)) fun x4 =>
T.ret x4) (T.ret false)).bind <| fun y0_1 =>
T.ret (y0_1)
theorem t_voucher_in_ok (a1 : Int) : (t_voucher_in a1).run = d_voucher_in a1 := by
  simp only [t_voucher_in, d_voucher_in, T.rs, T_ixInt_ok]
def t_voucher_Plain_1 (a1 : GLine) : T An (Bool) :=
(show T An (Bool) from
(t_voucher_is a1.Account).bind fun x4 =>
T.bnd (!x4) fun x5 =>
cond x5 (T.ret true) ((t_voucher_in a1.Amount).bind fun x6 =>
T.bnd (!x6) fun x7 =>
T.ret x7)).bind <| fun y0_1 =>
T.ret (y0_1)
theorem t_voucher_Plain_1_ok (a1 : GLine) : (t_voucher_Plain_1 a1).run = d_voucher_Plain_1 a1 := by
  simp only [t_voucher_Plain_1, d_voucher_Plain_1, T.rs, T_ixInt_ok, t_voucher_in_ok, t_voucher_is_ok]
def t_voucher_Plain_2 (a1 : GLine) : T An (Int) :=
T.ret ((a1.Account : Int))
theorem t_voucher_Plain_2_ok (a1 : GLine) : (t_voucher_Plain_2 a1).run = d_voucher_Plain_2 a1 := by
  simp only [t_voucher_Plain_2, d_voucher_Plain_2, T.rs, T_ixInt_ok]
def t_cmp_isNaN_int (a1 : Int) : T An (Bool) :=
T.ask (decide (a1 ≠ a1)) fun x2 =>
T.ret (x2)
theorem t_cmp_isNaN_int_ok (a1 : Int) : (t_cmp_isNaN_int a1).run = d_cmp_isNaN_int a1 := by
  simp only [t_cmp_isNaN_int, d_cmp_isNaN_int, T.rs, T_ixInt_ok]
def t_cmp_Compare_int (a1 : Int) (a2 : Int) : T An (Int) :=
(t_cmp_isNaN_int a1).bind fun x3 =>
(t_cmp_isNaN_int a2).bind fun x4 =>
cond x3 (cond x4 (T.ret ((0 : Int))) (T.ret (((-1) : Int)))) (cond x4 (T.ret ((1 : Int))) (T.ask (decide (a1 < a2)) fun x5 =>
cond x5 (T.ret (((-1) : Int))) (T.ask (decide (a1 > a2)) fun x6 =>
cond x6 (T.ret ((1 : Int))) (T.ret ((0 : Int))))))
theorem t_cmp_Compare_int_ok (a1 : Int) (a2 : Int) : (t_cmp_Compare_int a1 a2).run = d_cmp_Compare_int a1 a2 := by
  simp only [t_cmp_Compare_int, d_cmp_Compare_int, T.rs, T_ixInt_ok, t_cmp_isNaN_int_ok]
def t_voucher_Plain_3 (a1 : GLine) : T An (Bool) :=
T.ask (decide (a1.Amount = 0)) fun x3 =>
T.ret (x3)
theorem t_voucher_Plain_3_ok (a1 : GLine) : (t_voucher_Plain_3 a1).run = d_voucher_Plain_3 a1 := by
  simp only [t_voucher_Plain_3, d_voucher_Plain_3, T.rs, T_ixInt_ok]
def t_voucher_Plain_L0 (a1 : List GLine) : Nat → Int → T An ((Unit) ⊕ ((Int)))
  | 0, _ => T.fail
  | n + 1, y0_1 =>
    T.ask (decide (y0_1 < (a1.length : Int))) fun x5 =>
    cond x5 ((T.ix a1 y0_1).bind fun x6 =>
    (t_voucher_Plain_1 x6).bind fun x7 =>
    cond x7 (T.esc (T.ret (y0_1 : Int))) (T.wr (y0_1 + 1) fun x8 =>
    t_voucher_Plain_L0 a1 n (x8 : Int))) (T.brk ())
theorem t_voucher_Plain_L0_ok (a1 : List GLine) : ∀ (n : Nat) (z0 : Int), (t_voucher_Plain_L0 a1 n z0).run = d_voucher_Plain_L0 a1 n z0
  | 0, _ => rfl
  | n + 1, z0 => by
    simp only [t_voucher_Plain_L0, d_voucher_Plain_L0, T.rs, T_ixInt_ok, t_voucher_Plain_1_ok, t_voucher_Plain_L0_ok a1 n]
def t_voucher_Plain_L1 (a1 : List GLine) : Nat → T An (Unit)
  | 0 => T.fail
  | n + 1 =>
    T.ask (decide (20 ≤ (a1.length : Int))) fun x18 =>
    T.asrt (x18 = false) <|
    T.ret ()
theorem t_voucher_Plain_L1_ok (a1 : List GLine) : ∀ (n : Nat), (t_voucher_Plain_L1 a1 n ).run = d_voucher_Plain_L1 a1 n 
  | 0 => rfl
  | n + 1 => by
    simp only [t_voucher_Plain_L1, d_voucher_Plain_L1, T.rs, T_ixInt_ok, t_voucher_Plain_L1_ok a1 n]
def t_voucher_Plain_L3 : Nat → Int → (List GLine) → T An ((List GLine))
  | 0, _, _ => T.fail
  | n + 1, y7_1, y7_2 =>
    (show T An (Bool) from
    T.ask (decide (y7_1 > 0)) fun x25 =>
    cond x25 ((T.ix y7_2 y7_1).bind fun x26 =>
    T.wr (y7_1 - 1) fun x27 =>
    (T.ix y7_2 x27).bind fun x28 =>
    (show T An ((Int)) from
    (t_voucher_Plain_2 x26).bind fun x32 =>
    (t_voucher_Plain_2 x28).bind fun x33 =>
    (t_cmp_Compare_int x32 x33).bind fun x34 =>
    T.ret (x34 : Int)).bind <| fun y8_1 =>
    T.ask (decide (y8_1 < 0)) fun x35 =>
    T.ret x35) (T.ret false)).bind <| fun y10_1 =>
    cond y10_1 (T.wr (y7_1 - 1) fun x36 =>
    T.wr (y7_1 - 1) fun x37 =>
    (T.ix y7_2 x37).bind fun x38 =>
    (T.ix y7_2 y7_1).bind fun x39 =>
    T.bnd (y7_2.set (Int.toNat y7_1) x38) fun x40 =>
    (T.ix x40 x36).bind fun x41 =>
    T.bnd (x40.set (Int.toNat x36) x39) fun x42 =>
    T.wr (y7_1 - 1) fun x43 =>
    t_voucher_Plain_L3 n (x43 : Int) x42) (T.ret y7_2)
theorem t_voucher_Plain_L3_ok  : ∀ (n : Nat) (z0 : Int) (z1 : (List GLine)), (t_voucher_Plain_L3  n z0 z1).run = d_voucher_Plain_L3  n z0 z1
  | 0, _, _ => rfl
  | n + 1, z0, z1 => by
    simp only [t_voucher_Plain_L3, d_voucher_Plain_L3, T.rs, T_ixInt_ok, t_cmp_Compare_int_ok, t_voucher_Plain_2_ok, t_voucher_Plain_L3_ok  n]
def t_voucher_Plain_L2 (a1 : List GLine) : Nat → Int → (List GLine) → T An ((List GLine))
  | 0, _, _ => T.fail
  | n + 1, y6_1, y6_2 =>
    T.ask (decide (y6_1 < (a1.length : Int))) fun x21 =>
    cond x21 ((show T An ((List GLine)) from
    (show T An ((List GLine)) from
    t_voucher_Plain_L3 n (y6_1 : Int) y6_2).bind <| fun y11_1 =>
    T.ret y11_1).bind <| fun y12_1 =>
    T.wr (y6_1 + 1) fun x44 =>
    t_voucher_Plain_L2 a1 n (x44 : Int) y12_1) (T.ret y6_2)
theorem t_voucher_Plain_L2_ok (a1 : List GLine) : ∀ (n : Nat) (z0 : Int) (z1 : (List GLine)), (t_voucher_Plain_L2 a1 n z0 z1).run = d_voucher_Plain_L2 a1 n z0 z1
  | 0, _, _ => rfl
  | n + 1, z0, z1 => by
    simp only [t_voucher_Plain_L2, d_voucher_Plain_L2, T.rs, T_ixInt_ok, t_voucher_Plain_L3_ok, t_voucher_Plain_L2_ok a1 n]
def t_voucher_Plain_L4 (a1 : List GLine) : Nat → T An (Unit)
  | 0 => T.fail
  | n + 1 =>
    T.ask (decide (20 < (a1.length : Int))) fun x47 =>
    T.asrt (x47 = false) <|
    T.ret ()
theorem t_voucher_Plain_L4_ok (a1 : List GLine) : ∀ (n : Nat), (t_voucher_Plain_L4 a1 n ).run = d_voucher_Plain_L4 a1 n 
  | 0 => rfl
  | n + 1 => by
    simp only [t_voucher_Plain_L4, d_voucher_Plain_L4, T.rs, T_ixInt_ok, t_voucher_Plain_L4_ok a1 n]
def t_voucher_Plain_L5 (a1 : List GLine) (y19_1 : List GLine) : Nat → Int → (List GLine) → T An ((List GLine))
  | 0, _, _ => T.fail
  | n + 1, y20_2, y20_3 =>
    T.ask (decide (y20_2 < (a1.length : Int))) fun x51 =>
    cond x51 ((T.ix y19_1 y20_2).bind fun x52 =>
    T.wr ((y20_3.length : Int) - 1) fun x54 =>
    (show T An (Bool) from
    T.ask (decide (x54 ≥ 0)) fun x56 =>
    cond x56 ((T.ix y20_3 x54).bind fun x57 =>
    T.ask (decide (x57.Account = x52.Account)) fun x58 =>
    T.ret x58) (T.ret false)).bind <| fun y21_1 =>
    T.asrt (y21_1 = false) <|
    T.bnd (y20_3 ++ ([x52] : List GLine)) fun x59 =>
    T.asrt (x59.length ≤ 68719476736) <|
    T.wr (y20_2 + 1) fun x62 =>
    t_voucher_Plain_L5 a1 y19_1 n (x62 : Int) x59) (T.ret y20_3)
theorem t_voucher_Plain_L5_ok (a1 : List GLine) (y19_1 : List GLine) : ∀ (n : Nat) (z0 : Int) (z1 : (List GLine)), (t_voucher_Plain_L5 a1 y19_1 n z0 z1).run = d_voucher_Plain_L5 a1 y19_1 n z0 z1
  | 0, _, _ => rfl
  | n + 1, z0, z1 => by
    simp only [t_voucher_Plain_L5, d_voucher_Plain_L5, T.rs, T_ixInt_ok, t_voucher_Plain_L5_ok a1 y19_1 n]
def t_voucher_Plain_L6 (y22_2 : List GLine) : Nat → Int → T An ((Unit) ⊕ ((Int)))
  | 0, _ => T.fail
  | n + 1, y23_1 =>
    T.ask (decide (y23_1 < (y22_2.length : Int))) fun x66 =>
    cond x66 ((T.ix y22_2 y23_1).bind fun x67 =>
    (t_voucher_Plain_3 x67).bind fun x68 =>
    cond x68 (T.esc (T.ret (y23_1 : Int))) (T.wr (y23_1 + 1) fun x69 =>
    t_voucher_Plain_L6 y22_2 n (x69 : Int))) (T.brk ())
theorem t_voucher_Plain_L6_ok (y22_2 : List GLine) : ∀ (n : Nat) (z0 : Int), (t_voucher_Plain_L6 y22_2 n z0).run = d_voucher_Plain_L6 y22_2 n z0
  | 0, _ => rfl
  | n + 1, z0 => by
    simp only [t_voucher_Plain_L6, d_voucher_Plain_L6, T.rs, T_ixInt_ok, t_voucher_Plain_3_ok, t_voucher_Plain_L6_ok y22_2 n]
def t_voucher_Plain_L7 : Nat → Int → Int → (List GLine) → T An (Int × (List GLine))
  | 0, _, _, _ => T.fail
  | n + 1, y26_1, y26_2, y26_3 =>
    T.ask (decide (y26_2 < (y26_3.length : Int))) fun x74 =>
    cond x74 ((show T An (Int × (List GLine)) from
    (T.ix y26_3 y26_2).bind fun x76 =>
    (t_voucher_Plain_3 x76).bind fun x78 =>
    T.bnd (!x78) fun x79 =>
    cond x79 ((T.ix y26_3 y26_1).bind fun x80 =>
    T.bnd (y26_3.set (Int.toNat y26_1) x76) fun x81 =>
    T.wr (y26_1 + 1) fun x82 =>
    T.ret ((x82 : Int), x81)) (T.ret ((y26_1 : Int), y26_3))).bind <| p2 fun (y27_1 : Int) y27_2 =>
    T.wr (y26_2 + 1) fun x83 =>
    t_voucher_Plain_L7 n (y27_1 : Int) (x83 : Int) y27_2) (T.ret ((y26_1 : Int), y26_3))
theorem t_voucher_Plain_L7_ok  : ∀ (n : Nat) (z0 : Int) (z1 : Int) (z2 : (List GLine)), (t_voucher_Plain_L7  n z0 z1 z2).run = d_voucher_Plain_L7  n z0 z1 z2
  | 0, _, _, _ => rfl
  | n + 1, z0, z1, z2 => by
    simp only [t_voucher_Plain_L7, d_voucher_Plain_L7, T.rs, T_ixInt_ok, t_voucher_Plain_3_ok, t_voucher_Plain_L7_ok  n]
def t_voucher_Plain (n : Nat) (a1 : List GLine) : T An ((List GLine) × Int) :=
(show T An ((Bool)) from
(show T An ((Int)) from
(show T An ((Unit) ⊕ ((Int))) from
t_voucher_Plain_L0 a1 n (0 : Int)).bind <| T.sel <| fun _ =>
T.ret ((-1) : Int)).bind <| fun y2_1 =>
T.ask (decide (y2_1 ≥ 0)) fun x10 =>
T.ret x10).bind <| fun y3_1 =>
T.asrt (y3_1 = false) <|
T.asrt (a1.length ≤ 68719476736) <|
(show T An (((List GLine))) from
(show T An (((List GLine))) from
(show T An (((List GLine))) from
(show T An (Unit) from
t_voucher_Plain_L1 a1 n).bind <| fun _ =>
(show T An (((List GLine))) from
(show T An ((List GLine)) from
t_voucher_Plain_L2 a1 n (1 : Int) a1).bind <| fun y13_1 =>
T.ret y13_1).bind <| fun y14_1 =>
T.asrt (y14_1.length = a1.length) <|
(show T An (Unit) from
t_voucher_Plain_L4 a1 n).bind <| fun _ =>
T.ret y14_1).bind <| fun y17_1 =>
T.ret y17_1).bind <| fun y18_1 =>
T.ret y18_1).bind <| fun y19_1 =>
T.asrt (y19_1.length = a1.length) <|
(show T An ((List GLine)) from
t_voucher_Plain_L5 a1 y19_1 n (0 : Int) (([] : List GLine) : List GLine)).bind <| fun y22_2 =>
(show T An ((Nat × Nat × (List GLine))) from
(show T An ((Int)) from
(show T An ((Unit) ⊕ ((Int))) from
t_voucher_Plain_L6 y22_2 n (0 : Int)).bind <| T.sel <| fun _ =>
T.ret ((-1) : Int)).bind <| fun y25_1 =>
T.ask (decide (y25_1 = (-1))) fun x71 =>
cond x71 (T.ret ((0 : Nat), (y22_2.length : Nat), y22_2)) (T.wr (y25_1 + 1) fun x72 =>
(show T An (Int × (List GLine)) from
t_voucher_Plain_L7 n (y25_1 : Int) (x72 : Int) y22_2).bind <| p2 fun (y28_1 : Int) y28_2 =>
T.asrt ((0 : Int) ≤ y28_1 ∧ y28_1 < (y28_2.length : Int)) <|
T.bnd (y28_2.take (0 + y28_1.toNat)) fun x85 =>
T.asrt ((0 : Int) ≤ y28_1 ∧ y28_1 ≤ (y28_2.length : Int)) <|
T.ret (((0 + 0) : Nat), ((y28_1.toNat - 0) : Nat), x85))).bind <| p2 fun (y29_1 : Nat) (q0 : Nat × (List GLine)) => (p2 fun (y29_2 : Nat) y29_3 =>
T.asrt (y29_1 + y29_2 ≤ y29_3.length) <|
T.ret (((((y29_3).drop y29_1).take y29_2) : List GLine), (0 : Int))) q0
theorem t_voucher_Plain_ok (n : Nat) (a1 : List GLine) : (t_voucher_Plain n a1).run = d_voucher_Plain n a1 := by
  simp only [t_voucher_Plain, d_voucher_Plain, T.rs, T_ixInt_ok, t_voucher_Plain_L0_ok, t_voucher_Plain_L1_ok, t_voucher_Plain_L2_ok, t_voucher_Plain_L4_ok, t_voucher_Plain_L5_ok, t_voucher_Plain_L6_ok, t_voucher_Plain_L7_ok]
def t_voucher_sum_L0 (a1 : List GLine) : Nat → Int → (List Int) → T An ((List Int))
  | 0, _, _ => T.fail
  | n + 1, y0_2, y0_3 =>
    T.ask (decide (y0_2 < (a1.length : Int))) fun x4 =>
    cond x4 ((T.ix a1 y0_2).bind fun x5 =>
    T.bnd (y0_3 ++ ([x5.Amount] : List Int)) fun x7 =>
    T.asrt (x7.length ≤ 68719476736) <|
    T.wr (y0_2 + 1) fun x10 =>
    t_voucher_sum_L0 a1 n (x10 : Int) x7) (T.ret y0_3)
theorem t_voucher_sum_L0_ok (a1 : List GLine) : ∀ (n : Nat) (z0 : Int) (z1 : (List Int)), (t_voucher_sum_L0 a1 n z0 z1).run = d_voucher_sum_L0 a1 n z0 z1
  | 0, _, _ => rfl
  | n + 1, z0, z1 => by
    simp only [t_voucher_sum_L0, d_voucher_sum_L0, T.rs, T_ixInt_ok, t_voucher_sum_L0_ok a1 n]
def t_voucher_sum (n : Nat) (a1 : List GLine) : T An (Int × Int) :=
(show T An ((List Int)) from
t_voucher_sum_L0 a1 n (0 : Int) (([] : List Int) : List Int)).bind <| fun y1_2 =>
(t_money_Sum n y1_2).bind fun x11 =>
T.ret ((x11.1 : Int), (x11.2 : Int))
theorem t_voucher_sum_ok (n : Nat) (a1 : List GLine) : (t_voucher_sum n a1).run = d_voucher_sum n a1 := by
  simp only [t_voucher_sum, d_voucher_sum, T.rs, T_ixInt_ok, t_money_Sum_ok, t_voucher_sum_L0_ok]
def t_voucher_Check_1 (a1 : GLine) : T An (Bool) :=
(show T An (Bool) from
(t_voucher_is a1.Account).bind fun x4 =>
T.bnd (!x4) fun x5 =>
cond x5 (T.ret true) (T.ask (decide (a1.Amount = 0)) fun x6 =>
cond x6 (T.ret true) ((t_voucher_in a1.Amount).bind fun x7 =>
T.bnd (!x7) fun x8 =>
T.ret x8))).bind <| fun y0_1 =>
T.ret (y0_1)
theorem t_voucher_Check_1_ok (a1 : GLine) : (t_voucher_Check_1 a1).run = d_voucher_Check_1 a1 := by
  simp only [t_voucher_Check_1, d_voucher_Check_1, T.rs, T_ixInt_ok, t_voucher_in_ok, t_voucher_is_ok]
def t_voucher_Check_L0 (a1 : List GLine) : Nat → Int → T An ((Unit) ⊕ ((Int)))
  | 0, _ => T.fail
  | n + 1, y1_1 =>
    T.ask (decide (y1_1 < (a1.length : Int))) fun x10 =>
    cond x10 ((T.ix a1 y1_1).bind fun x11 =>
    (t_voucher_Check_1 x11).bind fun x12 =>
    cond x12 (T.esc (T.ret (y1_1 : Int))) (T.wr (y1_1 + 1) fun x13 =>
    t_voucher_Check_L0 a1 n (x13 : Int))) (T.brk ())
theorem t_voucher_Check_L0_ok (a1 : List GLine) : ∀ (n : Nat) (z0 : Int), (t_voucher_Check_L0 a1 n z0).run = d_voucher_Check_L0 a1 n z0
  | 0, _ => rfl
  | n + 1, z0 => by
    simp only [t_voucher_Check_L0, d_voucher_Check_L0, T.rs, T_ixInt_ok, t_voucher_Check_1_ok, t_voucher_Check_L0_ok a1 n]
def t_voucher_Check (n : Nat) (a1 : List GLine) : T An (Bool) :=
(show T An (Bool) from
T.ask (decide ((a1.length : Int) < 1)) fun x3 =>
cond x3 (T.ret true) (T.ask (decide ((a1.length : Int) > 12)) fun x4 =>
T.ret x4)).bind <| fun y0_1 =>
T.asrt (y0_1 = false) <|
(t_voucher_sum n a1).bind fun x5 =>
(show T An (Bool) from
(show T An ((Bool)) from
(show T An ((Int)) from
(show T An ((Unit) ⊕ ((Int))) from
t_voucher_Check_L0 a1 n (0 : Int)).bind <| T.sel <| fun _ =>
T.ret ((-1) : Int)).bind <| fun y3_1 =>
T.ask (decide (y3_1 ≥ 0)) fun x15 =>
T.ret x15).bind <| fun y4_1 =>
T.bnd (!y4_1) fun x16 =>
cond x16 (T.ask (decide (x5.1 = 0)) fun x17 =>
cond x17 (T.ask (decide (x5.2 = 0)) fun x18 =>
T.ret x18) (T.ret false)) (T.ret false)).bind <| fun y5_1 =>
T.ret (y5_1)
theorem t_voucher_Check_ok (n : Nat) (a1 : List GLine) : (t_voucher_Check n a1).run = d_voucher_Check n a1 := by
  simp only [t_voucher_Check, d_voucher_Check, T.rs, T_ixInt_ok, t_voucher_Check_L0_ok, t_voucher_sum_ok]
def t_gl_Post_L0 (x9 : (List GLine) × Int) : Nat → Int → (List Int) → T An ((List Int))
  | 0, _, _ => T.fail
  | n + 1, y1_1, y1_2 =>
    T.ask (decide (y1_1 < (x9.1.length : Int))) fun x16 =>
    cond x16 ((T.ix x9.1 y1_1).bind fun x17 =>
    (T_ixInt y1_2 x17.Account).bind fun x19 =>
    (t_money_Add x19 x17.Amount).bind fun x20 =>
    T.bnd (y1_2.set (Int.toNat x17.Account) (x20.1 : Int)) fun x21 =>
    T.ask (decide (x20.2 ≠ 0)) fun x22 =>
    T.asrt (x22 = false) <|
    T.wr (y1_1 + 1) fun x23 =>
    t_gl_Post_L0 x9 n (x23 : Int) x21) (T.ret y1_2)
theorem t_gl_Post_L0_ok (x9 : (List GLine) × Int) : ∀ (n : Nat) (z0 : Int) (z1 : (List Int)), (t_gl_Post_L0 x9 n z0 z1).run = d_gl_Post_L0 x9 n z0 z1
  | 0, _, _ => rfl
  | n + 1, z0, z1 => by
    simp only [t_gl_Post_L0, d_gl_Post_L0, T.rs, T_ixInt_ok, t_money_Add_ok, t_gl_Post_L0_ok x9 n]
def t_gl_Post (n : Nat) (a1 : List Int) (a2 : List GLine) : T An ((List Int) × Int) :=
T.ask (decide ((a1.length : Int) ≠ 17)) fun x4 =>
T.asrt (x4 = false) <|
(show T An (((List Int))) from
T.asrt (a1.length ≤ 68719476736) <|
(show T An (((List Int))) from
(t_voucher_Plain n a2).bind fun x9 =>
(show T An (Bool) from
T.ask (decide (x9.2 ≠ 0)) fun x11 =>
cond x11 (T.ret true) (T.ask (decide ((x9.1.length : Int) > 0)) fun x12 =>
cond x12 ((t_voucher_Check n x9.1).bind fun x13 =>
T.bnd (!x13) fun x14 =>
T.ret x14) (T.ret false))).bind <| fun y0_1 =>
T.asrt (y0_1 = false) <|
(show T An ((List Int)) from
t_gl_Post_L0 x9 n (0 : Int) a1).bind <| fun y2_1 =>
T.ret y2_1).bind <| fun y3_1 =>
T.asrt (y3_1.length = a1.length) <|
T.ret y3_1).bind <| fun y4_2 =>
T.ret (y4_2, (0 : Int))
theorem t_gl_Post_ok (n : Nat) (a1 : List Int) (a2 : List GLine) : (t_gl_Post n a1 a2).run = d_gl_Post n a1 a2 := by
  simp only [t_gl_Post, d_gl_Post, T.rs, T_ixInt_ok, t_gl_Post_L0_ok, t_voucher_Check_ok, t_voucher_Plain_ok]
def t_stock_Post (n : Nat) (a1 : GState) (a2 : Int) (a3 : List GLine) : T An (GState × Int) :=
(show T An (Bool) from
T.ask (decide (a2 < 0)) fun x7 =>
cond x7 (T.ret true) (T.ask (decide (a2 ≥ (a1.Ents.length : Int))) fun x8 =>
T.ret x8)).bind <| fun y0_1 =>
T.asrt (y0_1 = false) <|
(t_voucher_Plain n a3).bind fun x9 =>
T.ask (decide (x9.2 ≠ 0)) fun x10 =>
T.asrt (x10 = false) <|
(T.ix a1.Ents a2).bind fun x11 =>
(t_gl_Post n x11.Bal x9.1).bind fun x12 =>
T.ask (decide (x12.2 ≠ 0)) fun x13 =>
T.asrt (x13 = false) <|
(show T An ((Unit)) from
T.asrt (a1.Ents.length ≤ 68719476736) <|
(T.ix a1.Ents a2).bind fun x18 =>
T.ret ()).bind <| fun _ =>
(T.ix a1.Ents a2).bind fun x19 =>
T.bnd (a1.Ents.set (Int.toNat a2) ((⟨x19.Now, x19.Closed, x19.Pools, x12.1, x19.Rolls, x19.Prices, x19.Down, x19.Ahead⟩ : GEnt) : GEnt)) fun x20 =>
T.ret (((⟨a1.Master, x20, a1.Receipts, a1.Sales, a1.Transits, a1.Done⟩ : GState) : GState), (0 : Int))
theorem t_stock_Post_ok (n : Nat) (a1 : GState) (a2 : Int) (a3 : List GLine) : (t_stock_Post n a1 a2 a3).run = d_stock_Post n a1 a2 a3 := by
  simp only [t_stock_Post, d_stock_Post, T.rs, T_ixInt_ok, t_gl_Post_ok, t_voucher_Plain_ok]
def t_stock_Turn (a1 : GState) (a2 : Int) (a3 : Int) (a4 : GRoll) : T An (GState × Int) :=
(t_stock_is a1 a2 a3).bind fun x8 =>
T.bnd (!x8) fun x9 =>
T.asrt (x9 = false) <|
(T.ix a1.Ents a2).bind fun x10 =>
(T.ix x10.Rolls a3).bind fun x11 =>
(show T An ((Unit)) from
T.ret ()).bind <| fun _ =>
(show T An (GRoll) from
(T_ixInt ([a4.Open, a4.Bought, a4.Landed, a4.Arrived, a4.Returned, a4.Sold, a4.Shipped, a4.SentBack, a4.Scrapped, a4.Lost, a4.Revalued] : List Int) 0).bind fun x16 =>
(show T An ((Unit)) from
T.ret ()).bind <| fun _ =>
(t_money_Add x11.Open x16).bind fun x18 =>
T.ask (decide (x18.2 ≠ 0)) fun x19 =>
T.asrt (x19 = false) <|
(T_ixInt ([a4.Open, a4.Bought, a4.Landed, a4.Arrived, a4.Returned, a4.Sold, a4.Shipped, a4.SentBack, a4.Scrapped, a4.Lost, a4.Revalued] : List Int) 1).bind fun x20 =>
(show T An ((Unit)) from
T.ret ()).bind <| fun _ =>
(t_money_Add x11.Bought x20).bind fun x22 =>
T.ask (decide (x22.2 ≠ 0)) fun x23 =>
T.asrt (x23 = false) <|
(T_ixInt ([a4.Open, a4.Bought, a4.Landed, a4.Arrived, a4.Returned, a4.Sold, a4.Shipped, a4.SentBack, a4.Scrapped, a4.Lost, a4.Revalued] : List Int) 2).bind fun x24 =>
(show T An ((Unit)) from
T.ret ()).bind <| fun _ =>
(t_money_Add x11.Landed x24).bind fun x26 =>
T.ask (decide (x26.2 ≠ 0)) fun x27 =>
T.asrt (x27 = false) <|
(T_ixInt ([a4.Open, a4.Bought, a4.Landed, a4.Arrived, a4.Returned, a4.Sold, a4.Shipped, a4.SentBack, a4.Scrapped, a4.Lost, a4.Revalued] : List Int) 3).bind fun x28 =>
(show T An ((Unit)) from
T.ret ()).bind <| fun _ =>
(t_money_Add x11.Arrived x28).bind fun x30 =>
T.ask (decide (x30.2 ≠ 0)) fun x31 =>
T.asrt (x31 = false) <|
(T_ixInt ([a4.Open, a4.Bought, a4.Landed, a4.Arrived, a4.Returned, a4.Sold, a4.Shipped, a4.SentBack, a4.Scrapped, a4.Lost, a4.Revalued] : List Int) 4).bind fun x32 =>
(show T An ((Unit)) from
T.ret ()).bind <| fun _ =>
(t_money_Add x11.Returned x32).bind fun x34 =>
T.ask (decide (x34.2 ≠ 0)) fun x35 =>
T.asrt (x35 = false) <|
(T_ixInt ([a4.Open, a4.Bought, a4.Landed, a4.Arrived, a4.Returned, a4.Sold, a4.Shipped, a4.SentBack, a4.Scrapped, a4.Lost, a4.Revalued] : List Int) 5).bind fun x36 =>
(show T An ((Unit)) from
T.ret ()).bind <| fun _ =>
(t_money_Add x11.Sold x36).bind fun x38 =>
T.ask (decide (x38.2 ≠ 0)) fun x39 =>
T.asrt (x39 = false) <|
(T_ixInt ([a4.Open, a4.Bought, a4.Landed, a4.Arrived, a4.Returned, a4.Sold, a4.Shipped, a4.SentBack, a4.Scrapped, a4.Lost, a4.Revalued] : List Int) 6).bind fun x40 =>
(show T An ((Unit)) from
T.ret ()).bind <| fun _ =>
(t_money_Add x11.Shipped x40).bind fun x42 =>
T.ask (decide (x42.2 ≠ 0)) fun x43 =>
T.asrt (x43 = false) <|
(T_ixInt ([a4.Open, a4.Bought, a4.Landed, a4.Arrived, a4.Returned, a4.Sold, a4.Shipped, a4.SentBack, a4.Scrapped, a4.Lost, a4.Revalued] : List Int) 7).bind fun x44 =>
(show T An ((Unit)) from
T.ret ()).bind <| fun _ =>
(t_money_Add x11.SentBack x44).bind fun x46 =>
T.ask (decide (x46.2 ≠ 0)) fun x47 =>
T.asrt (x47 = false) <|
(T_ixInt ([a4.Open, a4.Bought, a4.Landed, a4.Arrived, a4.Returned, a4.Sold, a4.Shipped, a4.SentBack, a4.Scrapped, a4.Lost, a4.Revalued] : List Int) 8).bind fun x48 =>
(show T An ((Unit)) from
T.ret ()).bind <| fun _ =>
(t_money_Add x11.Scrapped x48).bind fun x50 =>
T.ask (decide (x50.2 ≠ 0)) fun x51 =>
T.asrt (x51 = false) <|
(T_ixInt ([a4.Open, a4.Bought, a4.Landed, a4.Arrived, a4.Returned, a4.Sold, a4.Shipped, a4.SentBack, a4.Scrapped, a4.Lost, a4.Revalued] : List Int) 9).bind fun x52 =>
(show T An ((Unit)) from
T.ret ()).bind <| fun _ =>
(t_money_Add x11.Lost x52).bind fun x54 =>
T.ask (decide (x54.2 ≠ 0)) fun x55 =>
T.asrt (x55 = false) <|
(T_ixInt ([a4.Open, a4.Bought, a4.Landed, a4.Arrived, a4.Returned, a4.Sold, a4.Shipped, a4.SentBack, a4.Scrapped, a4.Lost, a4.Revalued] : List Int) 10).bind fun x56 =>
(show T An ((Unit)) from
T.ret ()).bind <| fun _ =>
(t_money_Add x11.Revalued x56).bind fun x58 =>
T.ask (decide (x58.2 ≠ 0)) fun x59 =>
T.asrt (x59 = false) <|
T.ret ((⟨x18.1, x22.1, x26.1, x30.1, x34.1, x38.1, x42.1, x46.1, x50.1, x54.1, x58.1⟩ : GRoll) : GRoll)).bind <| fun y2_1 =>
(show T An ((Unit)) from
T.asrt (a1.Ents.length ≤ 68719476736) <|
(T.ix a1.Ents a2).bind fun x64 =>
T.ret ()).bind <| fun _ =>
(T.ix a1.Ents a2).bind fun x65 =>
T.asrt (x65.Rolls.length ≤ 68719476736) <|
(T.ix x65.Rolls a3).bind fun x68 =>
T.bnd (x65.Rolls.set (Int.toNat a3) y2_1) fun x69 =>
T.ret (((⟨a1.Master, (a1.Ents.set (Int.toNat a2) (⟨x65.Now, x65.Closed, x65.Pools, x65.Bal, x69, x65.Prices, x65.Down, x65.Ahead⟩ : GEnt)), a1.Receipts, a1.Sales, a1.Transits, a1.Done⟩ : GState) : GState), (0 : Int))
theorem t_stock_Turn_ok (a1 : GState) (a2 : Int) (a3 : Int) (a4 : GRoll) : (t_stock_Turn a1 a2 a3 a4).run = d_stock_Turn a1 a2 a3 a4 := by
  simp only [t_stock_Turn, d_stock_Turn, T.rs, T_ixInt_ok, t_money_Add_ok, t_stock_is_ok]
def t_sell_back (n : Nat) (a1 : GState) (a2 : GOp) (a3 : GSale) : T An (GState × Int) :=
T.wr (a3.Qty - a3.Back) fun x8 =>
(t_money_Part n a3.Cost a2.Qty x8).bind fun x9 =>
T.wr (a3.Qty - a3.Back) fun x10 =>
(t_money_Part n a3.Profit a2.Qty x10).bind fun x11 =>
(t_stock_Bring n a1 a2.E a2.Item a2.Loc (⟨a2.Qty, x9, x11⟩ : GLayer)).bind fun x12 =>
T.ask (decide (x12.2.2.2 ≠ 0)) fun x14 =>
T.asrt (x14 = false) <|
(t_sell_line 0 x12.2.1).bind fun x15 =>
(t_sell_line 6 x12.2.2.1).bind fun x16 =>
T.wr (0 - x9) fun x17 =>
(t_sell_line 5 x17).bind fun x18 =>
(t_sell_line 4 a2.Amount).bind fun x19 =>
T.wr (0 - a2.Amount) fun x20 =>
(t_sell_line 3 x20).bind fun x21 =>
(t_stock_Post n x12.1 a2.E ([x15, x16, x18, x19, x21] : List GLine)).bind fun x22 =>
T.ask (decide (x22.2 ≠ 0)) fun x23 =>
T.asrt (x23 = false) <|
(t_stock_Turn x22.1 a2.E a2.Item (⟨0, 0, 0, 0, x12.2.1, 0, 0, 0, 0, 0, 0⟩ : GRoll)).bind fun x24 =>
T.ask (decide (x24.2 ≠ 0)) fun x25 =>
T.asrt (x25 = false) <|
(show T An ((Unit)) from
T.asrt (x24.1.Sales.length ≤ 68719476736) <|
(T.ix x24.1.Sales a2.Ref).bind fun x29 =>
T.ret ()).bind <| fun _ =>
(T.ix x24.1.Sales a2.Ref).bind fun x30 =>
T.wr (x30.Cost - x9) fun x31 =>
T.wr (x30.Profit - x11) fun x32 =>
T.wr (x30.Back + a2.Qty) fun x33 =>
T.bnd (x24.1.Sales.set (Int.toNat a2.Ref) ((⟨x30.Entity, x30.Item, x30.Loc, x30.Qty, x30.Back, x31, x30.Profit, x30.Period, x30.Waits⟩ : GSale) : GSale)) fun x34 =>
T.bnd (x34.set (Int.toNat a2.Ref) ((⟨x30.Entity, x30.Item, x30.Loc, x30.Qty, x30.Back, x31, x32, x30.Period, x30.Waits⟩ : GSale) : GSale)) fun x35 =>
T.bnd (x35.set (Int.toNat a2.Ref) ((⟨x30.Entity, x30.Item, x30.Loc, x30.Qty, x33, x31, x32, x30.Period, x30.Waits⟩ : GSale) : GSale)) fun x36 =>
T.ret (((⟨x24.1.Master, x24.1.Ents, x24.1.Receipts, x36, x24.1.Transits, x24.1.Done⟩ : GState) : GState), (0 : Int))
theorem t_sell_back_ok (n : Nat) (a1 : GState) (a2 : GOp) (a3 : GSale) : (t_sell_back n a1 a2 a3).run = d_sell_back n a1 a2 a3 := by
  simp only [t_sell_back, d_sell_back, T.rs, T_ixInt_ok, t_money_Part_ok, t_sell_line_ok, t_stock_Bring_ok, t_stock_Post_ok, t_stock_Turn_ok]
def t_pavg_is (a1 : Int) : T An (Bool) :=
(show T An (Bool) from
T.ask (decide (a1 ≥ 0)) fun x3 =>
cond x3 (T.ask (decide (a1 < 3)) fun x4 =>
T.ret x4) (T.ret false)).bind <| fun y0_1 =>
T.ret (y0_1)
theorem t_pavg_is_ok (a1 : Int) : (t_pavg_is a1).run = d_pavg_is a1 := by
  simp only [t_pavg_is, d_pavg_is, T.rs, T_ixInt_ok]
def t_pavg_Free_L0 (a1 : GPool) : Nat → Int → Int → T An (Int)
  | 0, _, _ => T.fail
  | n + 1, y0_1, y0_2 =>
    T.ask (decide (y0_2 < (a1.Layers.length : Int))) fun x4 =>
    cond x4 ((T.ix a1.Layers y0_2).bind fun x5 =>
    T.wr (y0_1 + x5.Qty) fun x7 =>
    T.wr (y0_2 + 1) fun x8 =>
    t_pavg_Free_L0 a1 n (x7 : Int) (x8 : Int)) (T.ret (y0_1 : Int))
theorem t_pavg_Free_L0_ok (a1 : GPool) : ∀ (n : Nat) (z0 : Int) (z1 : Int), (t_pavg_Free_L0 a1 n z0 z1).run = d_pavg_Free_L0 a1 n z0 z1
  | 0, _, _ => rfl
  | n + 1, z0, z1 => by
    simp only [t_pavg_Free_L0, d_pavg_Free_L0, T.rs, T_ixInt_ok, t_pavg_Free_L0_ok a1 n]
def t_pavg_Free_L1 (a1 : GPool) : Nat → Int → Int → T An (Int)
  | 0, _, _ => T.fail
  | n + 1, y2_1, y2_2 =>
    T.ask (decide (y2_2 < 3)) fun x10 =>
    cond x10 ((T_ixInt ([a1.Pend.a0, a1.Pend.a1, a1.Pend.a2] : List Int) y2_2).bind fun x11 =>
    T.wr (y2_1 - x11) fun x12 =>
    T.wr (y2_2 + 1) fun x13 =>
    t_pavg_Free_L1 a1 n (x12 : Int) (x13 : Int)) (T.ret (y2_1 : Int))
theorem t_pavg_Free_L1_ok (a1 : GPool) : ∀ (n : Nat) (z0 : Int) (z1 : Int), (t_pavg_Free_L1 a1 n z0 z1).run = d_pavg_Free_L1 a1 n z0 z1
  | 0, _, _ => rfl
  | n + 1, z0, z1 => by
    simp only [t_pavg_Free_L1, d_pavg_Free_L1, T.rs, T_ixInt_ok, t_pavg_Free_L1_ok a1 n]
def t_pavg_Free (n : Nat) (a1 : GPool) : T An (Int) :=
(show T An (Int) from
t_pavg_Free_L0 a1 n (0 : Int) (0 : Int)).bind <| fun y1_1 =>
(show T An (Int) from
t_pavg_Free_L1 a1 n (y1_1 : Int) (0 : Int)).bind <| fun y3_1 =>
T.ret ((y3_1 : Int))
theorem t_pavg_Free_ok (n : Nat) (a1 : GPool) : (t_pavg_Free n a1).run = d_pavg_Free n a1 := by
  simp only [t_pavg_Free, d_pavg_Free, T.rs, T_ixInt_ok, t_pavg_Free_L0_ok, t_pavg_Free_L1_ok]
def t_pavg_Wait (n : Nat) (a1 : GPool) (a2 : Int) (a3 : Int) : T An (GPool × Int) :=
(t_pavg_own a1 a1.Layers).bind fun x6 =>
(show T An (Bool) from
(t_pavg_is a2).bind fun x8 =>
T.bnd (!x8) fun x9 =>
cond x9 (T.ret true) (T.ask (decide (a3 < 1)) fun x10 =>
T.ret x10)).bind <| fun y0_1 =>
T.asrt (y0_1 = false) <|
(t_pavg_Free n x6).bind fun x11 =>
T.ask (decide (a3 > x11)) fun x12 =>
T.asrt (x12 = false) <|
T.ask (decide (a2 = 0)) fun x13 =>
cond x13 (T.wr (x6.Pend.a0 + a3) fun x18 =>
T.ret (((⟨x6.Layers, (⟨x18, x6.Pend.a1, x6.Pend.a2⟩ : A3_Int)⟩ : GPool) : GPool), (0 : Int))) (T.ask (decide (a2 = 1)) fun x14 =>
cond x14 (T.wr (x6.Pend.a1 + a3) fun x17 =>
T.ret (((⟨x6.Layers, (⟨x6.Pend.a0, x17, x6.Pend.a2⟩ : A3_Int)⟩ : GPool) : GPool), (0 : Int))) (T.asrt (a2 = 2) <|
T.wr (x6.Pend.a2 + a3) fun x16 =>
T.ret (((⟨x6.Layers, (⟨x6.Pend.a0, x6.Pend.a1, x16⟩ : A3_Int)⟩ : GPool) : GPool), (0 : Int))))
theorem t_pavg_Wait_ok (n : Nat) (a1 : GPool) (a2 : Int) (a3 : Int) : (t_pavg_Wait n a1 a2 a3).run = d_pavg_Wait n a1 a2 a3 := by
  simp only [t_pavg_Wait, d_pavg_Wait, T.rs, T_ixInt_ok, t_pavg_Free_ok, t_pavg_is_ok, t_pavg_own_ok]
def t_pool_Out (n : Nat) (a1 : Int) (a2 : Int) (a3 : GPool) (a4 : Int) (a5 : Int) : T An (GPool × GLayer × Bool × Int) :=
(show T An ((Unit) ⊕ (Unit)) from
T.ask (decide (a1 = 1)) fun x10 =>
T.asrt (x10 = false) <|
T.ask (decide (a1 = 2)) fun x11 =>
T.asrt (x11 = false) <|
T.ask (decide (a1 = 3)) fun x12 =>
cond x12 (T.ret (.inr ())) (T.ask (decide (a1 = 4)) fun x13 =>
T.asrt (x13 = false) <|
T.ret (.inl ()))).bind <| T.selr (fun _ =>
(t_pool_own a3).bind fun x14 =>
T.ret (x14, ((⟨0, 0, 0⟩ : GLayer) : GLayer), false, (12 : Int))) <| fun _ =>
(show T An (Bool) from
T.ask (decide (a4 < 0)) fun x16 =>
cond x16 (T.ret true) (T.ask (decide (a4 > 3)) fun x17 =>
T.ret x17)).bind <| fun y2_1 =>
T.asrt (y2_1 = false) <|
(show T An ((Unit)) from
T.ret ()).bind <| fun _ =>
T.ask (decide (a4 ≠ 3)) fun x22 =>
T.asrt (x22 = true) <|
(t_pavg_Wait n a3 a4 a5).bind fun x23 =>
T.ask (decide (x23.2 ≠ 0)) fun x24 =>
T.asrt (x24 = false) <|
T.ret (x23.1, ((⟨0, 0, 0⟩ : GLayer) : GLayer), true, (0 : Int))
theorem t_pool_Out_ok (n : Nat) (a1 : Int) (a2 : Int) (a3 : GPool) (a4 : Int) (a5 : Int) : (t_pool_Out n a1 a2 a3 a4 a5).run = d_pool_Out n a1 a2 a3 a4 a5 := by
  simp only [t_pool_Out, d_pool_Out, T.rs, T_ixInt_ok, t_pavg_Wait_ok, t_pool_own_ok]
def t_stock_Fetch (n : Nat) (a1 : GState) (a2 : Int) (a3 : Int) (a4 : Int) (a5 : Int) (a6 : Int) : T An (GState × GLayer × Bool × Int) :=
(t_stock_place a1 a2 a3 a4).bind fun x10 =>
T.ask (decide (x10 < 0)) fun x11 =>
T.asrt (x11 = false) <|
(T.ix a1.Master.Methods a2).bind fun x12 =>
(T_ixInt x12 a3).bind fun x13 =>
(T.ix a1.Master.Costs a2).bind fun x14 =>
(T_ixInt x14 a3).bind fun x15 =>
(T.ix a1.Ents a2).bind fun x16 =>
(T.ix x16.Pools x10).bind fun x17 =>
(t_pool_Out n x13 x15 x17 a5 a6).bind fun x18 =>
T.bnd (x18.2.2.1) fun x20 =>
T.ask (decide (x18.2.2.2 ≠ 0)) fun x21 =>
T.asrt (x21 = false) <|
(show T An ((Int × Bool × (List Int) × (List GRoll) × (List Int) × (List Int) × (List GEnt) × (List GPool))) from
(show T An ((Unit)) from
T.asrt (a1.Ents.length ≤ 68719476736) <|
(T.ix a1.Ents a2).bind fun x28 =>
T.ret ()).bind <| fun _ =>
(T.ix a1.Ents a2).bind fun x29 =>
T.asrt (x29.Pools.length ≤ 68719476736) <|
(T.ix x29.Pools x10).bind fun x32 =>
T.bnd (x29.Pools.set (Int.toNat x10) x18.1) fun x33 =>
T.ret ((x29.Now : Int), x29.Closed, x29.Bal, x29.Rolls, x29.Prices, x29.Down, x29.Ahead, x33)).bind <| p2 fun (y1_2 : Int) (q0 : Bool × (List Int) × (List GRoll) × (List Int) × (List Int) × (List GEnt) × (List GPool)) => (p2 fun y1_3 (q1 : (List Int) × (List GRoll) × (List Int) × (List Int) × (List GEnt) × (List GPool)) => (p2 fun y1_5 (q2 : (List GRoll) × (List Int) × (List Int) × (List GEnt) × (List GPool)) => (p2 fun y1_6 (q3 : (List Int) × (List Int) × (List GEnt) × (List GPool)) => (p2 fun y1_7 (q4 : (List Int) × (List GEnt) × (List GPool)) => (p2 fun y1_8 (q5 : (List GEnt) × (List GPool)) => (p2 fun y1_9 y1_10 =>
(T.ix a1.Ents a2).bind fun x34 =>
T.ret (((⟨a1.Master, (a1.Ents.set (Int.toNat a2) (⟨y1_2, y1_3, y1_10, y1_5, y1_6, y1_7, y1_8, y1_9⟩ : GEnt)), a1.Receipts, a1.Sales, a1.Transits, a1.Done⟩ : GState) : GState), x18.2.1, x20, (0 : Int))) q5) q4) q3) q2) q1) q0
theorem t_stock_Fetch_ok (n : Nat) (a1 : GState) (a2 : Int) (a3 : Int) (a4 : Int) (a5 : Int) (a6 : Int) : (t_stock_Fetch n a1 a2 a3 a4 a5 a6).run = d_stock_Fetch n a1 a2 a3 a4 a5 a6 := by
  simp only [t_stock_Fetch, d_stock_Fetch, T.rs, T_ixInt_ok, t_pool_Out_ok, t_stock_place_ok]
def t_sell_sell (n : Nat) (a1 : GState) (a2 : GOp) : T An (GState × Int) :=
T.ask (decide ((a1.Sales.length : Int) ≥ 40)) fun x6 =>
T.asrt (x6 = false) <|
(t_stock_Fetch n a1 a2.E a2.Item a2.Loc 0 a2.Qty).bind fun x7 =>
T.ask (decide (x7.2.2.2 ≠ 0)) fun x10 =>
T.asrt (x10 = false) <|
(t_sell_line 3 a2.Amount).bind fun x11 =>
T.wr (0 - a2.Amount) fun x12 =>
(t_sell_line 4 x12).bind fun x13 =>
(t_sell_line 5 x7.2.1.Value).bind fun x14 =>
T.wr (0 - x7.2.1.Value) fun x15 =>
(t_sell_line 0 x15).bind fun x16 =>
(t_stock_Post n x7.1 a2.E ([x11, x13, x14, x16] : List GLine)).bind fun x17 =>
T.ask (decide (x17.2 ≠ 0)) fun x18 =>
T.asrt (x18 = false) <|
(t_stock_Turn x17.1 a2.E a2.Item (⟨0, 0, 0, 0, 0, x7.2.1.Value, 0, 0, 0, 0, 0⟩ : GRoll)).bind fun x19 =>
T.ask (decide (x19.2 ≠ 0)) fun x20 =>
T.asrt (x20 = false) <|
(T.ix a1.Ents a2.E).bind fun x21 =>
T.bnd (x7.2.2.1) fun x22 =>
T.asrt (x19.1.Sales.length ≤ 68719476736) <|
T.bnd (x19.1.Sales ++ ([(⟨a2.E, a2.Item, a2.Loc, a2.Qty, 0, x7.2.1.Value, x7.2.1.Profit, x21.Now, x22⟩ : GSale)] : List GSale)) fun x25 =>
T.asrt (x25.length ≤ 68719476736) <|
T.ret (((⟨x19.1.Master, x19.1.Ents, x19.1.Receipts, x25, x19.1.Transits, x19.1.Done⟩ : GState) : GState), (0 : Int))
theorem t_sell_sell_ok (n : Nat) (a1 : GState) (a2 : GOp) : (t_sell_sell n a1 a2).run = d_sell_sell n a1 a2 := by
  simp only [t_sell_sell, d_sell_sell, T.rs, T_ixInt_ok, t_sell_line_ok, t_stock_Fetch_ok, t_stock_Post_ok, t_stock_Turn_ok]
def t_sell_Do (n : Nat) (a1 : GState) (a2 : GOp) : T An (GState × Int) :=
(show T An ((GOp × GSale) ⊕ (GState × Int)) from
T.ask (decide (a2.Kind = 5)) fun x8 =>
cond x8 ((show T An (Bool) from
T.ask (decide (a2.Ref < 0)) fun x12 =>
cond x12 (T.ret true) (T.ask (decide (a2.Ref ≥ (a1.Sales.length : Int))) fun x13 =>
T.ret x13)).bind <| fun y0_1 =>
T.asrt (y0_1 = false) <|
(T.ix a1.Sales a2.Ref).bind fun x14 =>
T.brk (((⟨a2.Kind, x14.Entity, x14.Item, x14.Loc, a2.To, a2.Qty, a2.Amount, a2.Ref, a2.Refs⟩ : GOp) : GOp), x14)) (T.ask (decide (a2.Kind = 4)) fun x9 =>
cond x9 (T.brk (a2, ((⟨0, 0, 0, 0, 0, 0, 0, 0, false⟩ : GSale) : GSale))) (T.esc (T.ret (a1, (1 : Int)))))).bind <| T.sel <| p2 fun y1_1 y1_2 =>
(t_stock_Ready a1 y1_1.E y1_1.Item).bind fun x15 =>
T.ask (decide (x15 ≠ 0)) fun x16 =>
T.asrt (x16 = false) <|
(show T An (Int × GState) from
T.ask (decide (y1_1.Kind = 4)) fun x19 =>
cond x19 ((t_sell_sell n a1 y1_1).bind fun x27 =>
T.ret ((x27.2 : Int), x27.1)) (T.wr (y1_2.Qty - y1_2.Back) fun x20 =>
T.ask (decide (y1_1.Qty > x20)) fun x21 =>
T.asrt (x21 = false) <|
(show T An (Bool) from
T.bnd (y1_2.Waits) fun x23 =>
cond x23 ((T.ix a1.Ents y1_1.E).bind fun x24 =>
T.ask (decide (y1_2.Period = x24.Now)) fun x25 =>
T.ret x25) (T.ret false)).bind <| fun y2_1 =>
T.asrt (y2_1 = false) <|
(t_sell_back n a1 y1_1 y1_2).bind fun x26 =>
T.ret ((x26.2 : Int), x26.1))).bind <| p2 fun (y3_1 : Int) y3_2 =>
T.ask (decide (y3_1 ≠ 0)) fun x28 =>
T.asrt (x28 = false) <|
T.ret (y3_2, (0 : Int))
theorem t_sell_Do_ok (n : Nat) (a1 : GState) (a2 : GOp) : (t_sell_Do n a1 a2).run = d_sell_Do n a1 a2 := by
  simp only [t_sell_Do, d_sell_Do, T.rs, T_ixInt_ok, t_sell_back_ok, t_sell_sell_ok, t_stock_Ready_ok]
def t_receive_Do (n : Nat) (a1 : GState) (a2 : GOp) : T An (GState × Int) :=
T.ask (decide (a2.Kind ≠ 1)) fun x6 =>
T.asrt (x6 = false) <|
(show T An (GState × Int) from
(show T An ((Int)) from
(t_stock_Ready a1 a2.E a2.Item).bind fun x13 =>
T.ret (x13 : Int)).bind <| fun y0_1 =>
T.ask (decide (y0_1 ≠ 0)) fun x14 =>
cond x14 (T.ret (a1, (y0_1 : Int))) ((show T An ((Unit)) from
T.ask (decide ((a1.Receipts.length : Int) ≥ 40)) fun x16 =>
T.asrt (x16 = false) <|
T.ret ()).bind <| fun _ =>
T.ask (decide (y0_1 ≠ 0)) fun x17 =>
cond x17 (T.ret (a1, (y0_1 : Int))) ((show T An ((GState × Int × Int × Int)) from
(t_stock_Bring n a1 a2.E a2.Item a2.Loc (⟨a2.Qty, a2.Amount, 0⟩ : GLayer)).bind fun x19 =>
T.ret (x19.1, (x19.2.1 : Int), (x19.2.2.1 : Int), (x19.2.2.2 : Int))).bind <| p2 fun y2_1 (q0 : Int × Int × Int) => (p2 fun (y2_2 : Int) (q1 : Int × Int) => (p2 fun (y2_3 : Int) (y2_4 : Int) =>
T.ask (decide (y2_4 ≠ 0)) fun x20 =>
cond x20 (T.ret (y2_1, (y2_4 : Int))) ((show T An ((GState × Int)) from
T.wr (0 - a2.Amount) fun x22 =>
(t_stock_Post n y2_1 a2.E ([(⟨0, y2_2⟩ : GLine), (⟨6, y2_3⟩ : GLine), (⟨1, x22⟩ : GLine)] : List GLine)).bind fun x23 =>
T.ret (x23.1, (x23.2 : Int))).bind <| p2 fun y3_1 (y3_2 : Int) =>
T.ask (decide (y3_2 ≠ 0)) fun x24 =>
cond x24 (T.ret (y3_1, (y3_2 : Int))) ((show T An ((GState × Int)) from
(t_stock_Turn y3_1 a2.E a2.Item (⟨0, y2_2, 0, 0, 0, 0, 0, 0, 0, 0, 0⟩ : GRoll)).bind fun x26 =>
T.ret (x26.1, (x26.2 : Int))).bind <| p2 fun y4_1 (y4_2 : Int) =>
T.ask (decide (y4_2 ≠ 0)) fun x27 =>
cond x27 (T.ret (y4_1, (y4_2 : Int))) (T.ret (y4_1, (y4_2 : Int)))))) q1) q0))).bind <| p2 fun y5_1 (y5_2 : Int) =>
T.ask (decide (y5_2 ≠ 0)) fun x28 =>
T.asrt (x28 = false) <|
T.asrt (y5_1.Receipts.length ≤ 68719476736) <|
T.bnd (y5_1.Receipts ++ ([(⟨a2.E, a2.Item, a2.Loc, a2.Qty, a2.Amount, a2.Qty, a2.Amount, 0⟩ : GReceipt)] : List GReceipt)) fun x32 =>
T.asrt (x32.length ≤ 68719476736) <|
T.ret (((⟨y5_1.Master, y5_1.Ents, x32, y5_1.Sales, y5_1.Transits, y5_1.Done⟩ : GState) : GState), (0 : Int))
theorem t_receive_Do_ok (n : Nat) (a1 : GState) (a2 : GOp) : (t_receive_Do n a1 a2).run = d_receive_Do n a1 a2 := by
  simp only [t_receive_Do, d_receive_Do, T.rs, T_ixInt_ok, t_stock_Bring_ok, t_stock_Post_ok, t_stock_Ready_ok, t_stock_Turn_ok]
def t_apply_Do (n : Nat) (a1 : GState) (a2 : GOp) : T An (GState × Int) :=
(show T An ((Unit) ⊕ (Unit) ⊕ (Unit)) from
T.ask (decide (a2.Kind = 1)) fun x7 =>
cond x7 (T.ret (.inr (.inr ()))) (T.ask (decide (a2.Kind = 4)) fun x8 =>
(show T An (Bool) from
cond x8 (T.ret true) (T.ask (decide (a2.Kind = 5)) fun x10 =>
T.ret x10)).bind <| fun y0_1 =>
cond y0_1 (T.ret (.inr (.inl ()))) (T.ask (decide (a2.Kind = 6)) fun x11 =>
(show T An (Bool) from
cond x11 (T.ret true) (T.ask (decide (a2.Kind = 7)) fun x13 =>
cond x13 (T.ret true) (T.ask (decide (a2.Kind = 8)) fun x14 =>
cond x14 (T.ret true) (T.ask (decide (a2.Kind = 9)) fun x15 =>
T.ret x15)))).bind <| fun y1_1 =>
T.asrt (y1_1 = false) <|
T.ask (decide (a2.Kind = 2)) fun x16 =>
(show T An (Bool) from
cond x16 (T.ret true) (T.ask (decide (a2.Kind = 3)) fun x18 =>
T.ret x18)).bind <| fun y2_1 =>
T.asrt (y2_1 = false) <|
T.ask (decide (a2.Kind = 11)) fun x19 =>
T.asrt (x19 = false) <|
T.ask (decide (a2.Kind = 12)) fun x20 =>
(show T An (Bool) from
cond x20 (T.ret true) (T.ask (decide (a2.Kind = 13)) fun x22 =>
T.ret x22)).bind <| fun y3_1 =>
T.asrt (y3_1 = false) <|
T.ask (decide (a2.Kind = 10)) fun x23 =>
T.asrt (x23 = false) <|
T.ret (.inl ())))).bind <| T.selr (fun _ =>
(show T An (Unit) from
(t_ops_Check a2).bind fun x25 =>
T.bnd (!x25) fun x26 =>
cond x26 (T.ret ()) (T.ret ())).bind <| fun _ =>
T.ret (a1, (1 : Int))) <| T.selr (fun _ =>
(show T An (Bool) from
(t_ops_Check a2).bind fun x28 =>
T.bnd (!x28) fun x29 =>
cond x29 (T.ret true) (T.ret false)).bind <| fun y7_1 =>
T.asrt (y7_1 = false) <|
(show T An ((GState × Int)) from
(t_sell_Do n a1 a2).bind fun x34 =>
T.ret (x34.1, (x34.2 : Int))).bind <| p2 fun y8_1 (y8_2 : Int) =>
T.ask (decide (y8_2 ≠ 0)) fun x36 =>
T.asrt (x36 = false) <|
T.wr (y8_1.Done + 1) fun x37 =>
(T.ifv (288230376151711744 < x37) (288230376151711744) (x37)).bind fun x38 =>
T.ret (((⟨y8_1.Master, y8_1.Ents, y8_1.Receipts, y8_1.Sales, y8_1.Transits, x38⟩ : GState) : GState), (0 : Int))) <| fun _ =>
(show T An (Bool) from
(t_ops_Check a2).bind fun x40 =>
T.bnd (!x40) fun x41 =>
cond x41 (T.ret true) (T.ret false)).bind <| fun y7_1 =>
T.asrt (y7_1 = false) <|
(show T An ((GState × Int)) from
(t_receive_Do n a1 a2).bind fun x46 =>
T.ret (x46.1, (x46.2 : Int))).bind <| p2 fun y9_1 (y9_2 : Int) =>
T.ask (decide (y9_2 ≠ 0)) fun x48 =>
T.asrt (x48 = false) <|
T.wr (y9_1.Done + 1) fun x49 =>
(T.ifv (288230376151711744 < x49) (288230376151711744) (x49)).bind fun x50 =>
T.ret (((⟨y9_1.Master, y9_1.Ents, y9_1.Receipts, y9_1.Sales, y9_1.Transits, x50⟩ : GState) : GState), (0 : Int))
theorem t_apply_Do_ok (n : Nat) (a1 : GState) (a2 : GOp) : (t_apply_Do n a1 a2).run = d_apply_Do n a1 a2 := by
  simp only [t_apply_Do, d_apply_Do, T.rs, T_ixInt_ok, t_ops_Check_ok, t_receive_Do_ok, t_sell_Do_ok]
def t_close_is (a1 : GState) (a2 : Int) : T An (Bool) :=
(show T An (Bool) from
T.ask (decide (a2 ≥ 0)) fun x5 =>
cond x5 (T.ask (decide (a2 < (a1.Ents.length : Int))) fun x6 =>
cond x6 (T.ask (decide (a2 < (a1.Master.Methods.length : Int))) fun x7 =>
T.ret x7) (T.ret false)) (T.ret false)).bind <| fun y0_1 =>
T.ret (y0_1)
theorem t_close_is_ok (a1 : GState) (a2 : Int) : (t_close_is a1 a2).run = d_close_is a1 a2 := by
  simp only [t_close_is, d_close_is, T.rs, T_ixInt_ok]
def t_stock_Worth (n : Nat) (a1 : GState) (a2 : Int) (a3 : Int) : T An (GLayer) :=
(t_stock_worth n a1 a2 a3).bind fun x6 =>
T.ret (x6.1)
theorem t_stock_Worth_ok (n : Nat) (a1 : GState) (a2 : Int) (a3 : Int) : (t_stock_Worth n a1 a2 a3).run = d_stock_Worth n a1 a2 a3 := by
  simp only [t_stock_Worth, d_stock_Worth, T.rs, T_ixInt_ok, t_stock_worth_ok]
def t_close_Next_L0 (a1 : GState) (a2 : Int) (x13 : GEnt) (x14 : Int) (x16 : List GEnt) : Nat → Int → (List GRoll) → T An ((List GRoll))
  | 0, _, _ => T.fail
  | n + 1, y0_1, y0_2 =>
    T.ask (decide (y0_1 < ((Int.toNat (x13.Rolls.length : Int)) : Int))) fun x21 =>
    cond x21 ((t_stock_Worth n (⟨a1.Master, (x16.set (Int.toNat a2) (⟨x14, false, x13.Pools, x13.Bal, y0_2, x13.Prices, x13.Down, []⟩ : GEnt)), a1.Receipts, a1.Sales, a1.Transits, a1.Done⟩ : GState) a2 y0_1).bind fun x22 =>
    (T.ix y0_2 y0_1).bind fun x23 =>
    T.bnd (y0_2.set (Int.toNat y0_1) ((⟨x22.Value, x23.Bought, x23.Landed, x23.Arrived, x23.Returned, x23.Sold, x23.Shipped, x23.SentBack, x23.Scrapped, x23.Lost, x23.Revalued⟩ : GRoll) : GRoll)) fun x24 =>
    T.wr (y0_1 + 1) fun x25 =>
    t_close_Next_L0 a1 a2 x13 x14 x16 n (x25 : Int) x24) (T.ret y0_2)
theorem t_close_Next_L0_ok (a1 : GState) (a2 : Int) (x13 : GEnt) (x14 : Int) (x16 : List GEnt) : ∀ (n : Nat) (z0 : Int) (z1 : (List GRoll)), (t_close_Next_L0 a1 a2 x13 x14 x16 n z0 z1).run = d_close_Next_L0 a1 a2 x13 x14 x16 n z0 z1
  | 0, _, _ => rfl
  | n + 1, z0, z1 => by
    simp only [t_close_Next_L0, d_close_Next_L0, T.rs, T_ixInt_ok, t_stock_Worth_ok, t_close_Next_L0_ok a1 a2 x13 x14 x16 n]
def t_close_Next (n : Nat) (a1 : GState) (a2 : Int) : T An (GState × Int) :=
(t_close_is a1 a2).bind fun x5 =>
T.bnd (!x5) fun x6 =>
T.asrt (x6 = false) <|
(T.ix a1.Ents a2).bind fun x7 =>
T.bnd (!x7.Closed) fun x8 =>
cond x8 (T.ret (a1, (8 : Int))) ((T.ix a1.Ents a2).bind fun x9 =>
T.ask (decide (x9.Now ≥ a1.Master.Periods)) fun x10 =>
T.asrt (x10 = false) <|
T.asrt (a1.Ents.length ≤ 68719476736) <|
(T.ix a1.Ents a2).bind fun x13 =>
T.wr (x13.Now + 1) fun x14 =>
T.bnd (a1.Ents.set (Int.toNat a2) ((⟨x14, x13.Closed, x13.Pools, x13.Bal, x13.Rolls, x13.Prices, x13.Down, x13.Ahead⟩ : GEnt) : GEnt)) fun x15 =>
T.bnd (x15.set (Int.toNat a2) ((⟨x14, false, x13.Pools, x13.Bal, x13.Rolls, x13.Prices, x13.Down, x13.Ahead⟩ : GEnt) : GEnt)) fun x16 =>
T.asrt ((0 : Int) ≤ (x13.Rolls.length : Int) ∧ ((x13.Rolls.length : Int) : Int) ≤ 1048576) <|
T.bnd (List.replicate (Int.toNat (x13.Rolls.length : Int)) ((⟨0, 0, 0, 0, 0, 0, 0, 0, 0, 0, 0⟩ : GRoll) : GRoll)) fun x18 =>
(show T An ((List GRoll)) from
t_close_Next_L0 a1 a2 x13 x14 x16 n (0 : Int) x18).bind <| fun y1_1 =>
T.ret (((⟨a1.Master, (x16.set (Int.toNat a2) (⟨x14, false, x13.Pools, x13.Bal, y1_1, x13.Prices, x13.Down, []⟩ : GEnt)), a1.Receipts, a1.Sales, a1.Transits, a1.Done⟩ : GState) : GState), (0 : Int)))
theorem t_close_Next_ok (n : Nat) (a1 : GState) (a2 : Int) : (t_close_Next n a1 a2).run = d_close_Next n a1 a2 := by
  simp only [t_close_Next, d_close_Next, T.rs, T_ixInt_ok, t_close_Next_L0_ok, t_close_is_ok]
def t_fifo_has_L0 (a1 : List GLayer) : Nat → Int → Int → T An ((Unit) ⊕ (Bool))
  | 0, _, _ => T.fail
  | n + 1, y0_1, y0_2 =>
    T.ask (decide (y0_2 < (a1.length : Int))) fun x4 =>
    cond x4 ((T.ix a1 y0_2).bind fun x5 =>
    (T.ifv (0 > x5.Qty) (0) (x5.Qty)).bind fun x7 =>
    (T.ifv (y0_1 < x7) (y0_1) (x7)).bind fun x8 =>
    T.wr (y0_1 - x8) fun x9 =>
    T.ask (decide (x9 = 0)) fun x10 =>
    cond x10 (T.esc (T.ret (true))) (T.wr (y0_2 + 1) fun x11 =>
    t_fifo_has_L0 a1 n (x9 : Int) (x11 : Int))) (T.brk ())
theorem t_fifo_has_L0_ok (a1 : List GLayer) : ∀ (n : Nat) (z0 : Int) (z1 : Int), (t_fifo_has_L0 a1 n z0 z1).run = d_fifo_has_L0 a1 n z0 z1
  | 0, _, _ => rfl
  | n + 1, z0, z1 => by
    simp only [t_fifo_has_L0, d_fifo_has_L0, T.rs, T_ixInt_ok, t_fifo_has_L0_ok a1 n]
def t_fifo_has (n : Nat) (a1 : List GLayer) (a2 : Int) : T An (Bool) :=
(show T An ((Unit) ⊕ (Bool)) from
t_fifo_has_L0 a1 n (a2 : Int) (0 : Int)).bind <| T.sel <| fun _ =>
T.ret (false)
theorem t_fifo_has_ok (n : Nat) (a1 : List GLayer) (a2 : Int) : (t_fifo_has n a1 a2).run = d_fifo_has n a1 a2 := by
  simp only [t_fifo_has, d_fifo_has, T.rs, T_ixInt_ok, t_fifo_has_L0_ok]
def t_fifo_Out_L0 : Nat → Nat → Nat → Int → (List GLayer) → GLayer → T An (Nat × Nat × (List GLayer) × GLayer)
  | 0, _, _, _, _, _ => T.fail
  | n + 1, y0_1, y0_2, y0_3, y0_4, y0_5 =>
    (show T An (Bool) from
    T.ask (decide ((y0_2 : Int) > 0)) fun x12 =>
    cond x12 (T.ask (decide (y0_3 > 0)) fun x13 =>
    T.ret x13) (T.ret false)).bind <| fun y1_1 =>
    cond y1_1 (T.asrt ((0 : Int) ≤ 0 ∧ 0 < (y0_2 : Int)) <|
    (T.ix y0_4 (((y0_1 : Nat) : Int) + 0)).bind fun x15 =>
    T.ask (decide (x15.Qty > y0_3)) fun x17 =>
    (show T An (Nat × Nat × (List GLayer) × GLayer) from
    cond x17 ((t_money_Part n x15.Value y0_3 x15.Qty).bind fun x21 =>
    (t_money_Part n x15.Profit y0_3 x15.Qty).bind fun x22 =>
    T.asrt ((0 : Int) ≤ 0 ∧ 0 < (y0_2 : Int)) <|
    T.wr (x15.Qty - y0_3) fun x24 =>
    T.asrt ((0 : Int) ≤ 0 ∧ 0 < (y0_2 : Int)) <|
    T.wr (x15.Value - x21) fun x26 =>
    T.asrt ((0 : Int) ≤ 0 ∧ 0 < (y0_2 : Int)) <|
    T.wr (x15.Profit - x22) fun x28 =>
    T.asrt ((0 : Int) ≤ 0 ∧ 0 < (y0_2 : Int)) <|
    T.bnd (y0_4.set (Int.toNat (((y0_1 : Nat) : Int) + 0)) ((⟨x24, x15.Value, x15.Profit⟩ : GLayer) : GLayer)) fun x30 =>
    T.asrt ((0 : Int) ≤ 0 ∧ 0 < (y0_2 : Int)) <|
    T.bnd (x30.set (Int.toNat (((y0_1 : Nat) : Int) + 0)) ((⟨x24, x26, x15.Profit⟩ : GLayer) : GLayer)) fun x32 =>
    T.asrt ((0 : Int) ≤ 0 ∧ 0 < (y0_2 : Int)) <|
    T.bnd (x32.set (Int.toNat (((y0_1 : Nat) : Int) + 0)) ((⟨x24, x26, x28⟩ : GLayer) : GLayer)) fun x34 =>
    T.ret ((y0_1 : Nat), (y0_2 : Nat), x34, ((⟨y0_3, x21, x22⟩ : GLayer) : GLayer))) (T.asrt ((0 : Int) ≤ 1 ∧ 1 ≤ (y0_2 : Int) ∧ (y0_2 : Int) ≤ (y0_2 : Int) ∧ 1 < (y0_2 + 1 : Int)) <|
    (T.ifv ((Int.toNat (y0_2 : Int)) = 1) (y0_1) (y0_1 + 1)).bind fun x20 =>
    T.ret ((x20 : Nat), (((Int.toNat (y0_2 : Int)) - 1) : Nat), y0_4, x15))).bind <| p2 fun (y2_1 : Nat) (q0 : Nat × (List GLayer) × GLayer) => (p2 fun (y2_2 : Nat) (q1 : (List GLayer) × GLayer) => (p2 fun y2_3 y2_4 =>
    T.wr (y0_5.Qty + y2_4.Qty) fun x35 =>
    T.wr (y0_5.Value + y2_4.Value) fun x36 =>
    T.wr (y0_5.Profit + y2_4.Profit) fun x37 =>
    T.wr (y0_3 - y2_4.Qty) fun x38 =>
    t_fifo_Out_L0 n (y2_1 : Nat) (y2_2 : Nat) (x38 : Int) y2_3 ((⟨x35, x36, x37⟩ : GLayer) : GLayer)) q1) q0) (T.ret ((y0_1 : Nat), (y0_2 : Nat), y0_4, y0_5))
theorem t_fifo_Out_L0_ok  : ∀ (n : Nat) (z0 : Nat) (z1 : Nat) (z2 : Int) (z3 : (List GLayer)) (z4 : GLayer), (t_fifo_Out_L0  n z0 z1 z2 z3 z4).run = d_fifo_Out_L0  n z0 z1 z2 z3 z4
  | 0, _, _, _, _, _ => rfl
  | n + 1, z0, z1, z2, z3, z4 => by
    simp only [t_fifo_Out_L0, d_fifo_Out_L0, T.rs, T_ixInt_ok, t_money_Part_ok, t_fifo_Out_L0_ok  n]
def t_fifo_Out (n : Nat) (a1 : List GLayer) (a2 : Int) : T An ((List GLayer) × GLayer × Int) :=
T.asrt (a1.length ≤ 68719476736) <|
T.ask (decide (a2 < 1)) fun x6 =>
cond x6 (T.ret (a1, ((⟨0, 0, 0⟩ : GLayer) : GLayer), (1 : Int))) ((t_fifo_has n a1 a2).bind fun x7 =>
T.bnd (!x7) fun x8 =>
T.asrt (x8 = false) <|
(show T An (Nat × Nat × (List GLayer) × GLayer) from
t_fifo_Out_L0 n (0 : Nat) (a1.length : Nat) (a2 : Int) a1 ((⟨0, 0, 0⟩ : GLayer) : GLayer)).bind <| p2 fun (y3_1 : Nat) (q0 : Nat × (List GLayer) × GLayer) => (p2 fun (y3_2 : Nat) (q1 : (List GLayer) × GLayer) => (p2 fun y3_3 y3_4 =>
T.asrt (y3_1 + y3_2 ≤ y3_3.length) <|
T.ret (((((y3_3).drop y3_1).take y3_2) : List GLayer), y3_4, (0 : Int))) q1) q0)
theorem t_fifo_Out_ok (n : Nat) (a1 : List GLayer) (a2 : Int) : (t_fifo_Out n a1 a2).run = d_fifo_Out n a1 a2 := by
  simp only [t_fifo_Out, d_fifo_Out, T.rs, T_ixInt_ok, t_fifo_Out_L0_ok, t_fifo_has_ok]
def t_mavg_Out (n : Nat) (a1 : List GLayer) (a2 : Int) : T An ((List GLayer) × GLayer × Int) :=
(show T An ((Unit)) from
T.ret ()).bind <| fun _ =>
(t_fifo_Out n a1 a2).bind fun x6 =>
T.ret (x6.1, x6.2.1, (x6.2.2 : Int))
theorem t_mavg_Out_ok (n : Nat) (a1 : List GLayer) (a2 : Int) : (t_mavg_Out n a1 a2).run = d_mavg_Out n a1 a2 := by
  simp only [t_mavg_Out, d_mavg_Out, T.rs, T_ixInt_ok, t_fifo_Out_ok]
def t_pavg_Settle (n : Nat) (a1 : GPool) : T An (GPool × A3_GLayer) :=
(t_pavg_own a1 a1.Layers).bind fun x6 =>
(show T An ((Unit)) from
T.ret ()).bind <| fun _ =>
(show T An ((Unit)) from
T.ret ()).bind <| fun _ =>
(show T An ((Unit)) from
T.ret ()).bind <| fun _ =>
(show T An (GPool × Int × Int × Int × Int × Int × Int × Int × Int × Int) from
(show T An ((GPool × Int × Int × Int)) from
(t_mavg_Out n x6.Layers x6.Pend.a0).bind fun x15 =>
T.ask (decide (x15.2.2 = 0)) fun x17 =>
cond x17 (T.ret (((⟨x15.1, x6.Pend⟩ : GPool) : GPool), (x15.2.1.Qty : Int), (x15.2.1.Value : Int), (x15.2.1.Profit : Int))) (T.ret (x6, (0 : Int), (0 : Int), (0 : Int)))).bind <| p2 fun y4_1 (q0 : Int × Int × Int) => (p2 fun (y4_2 : Int) (q1 : Int × Int) => (p2 fun (y4_3 : Int) (y4_4 : Int) =>
(show T An ((GPool × Int × Int × Int)) from
(t_mavg_Out n y4_1.Layers y4_1.Pend.a1).bind fun x19 =>
T.ask (decide (x19.2.2 = 0)) fun x21 =>
cond x21 (T.ret (((⟨x19.1, y4_1.Pend⟩ : GPool) : GPool), (x19.2.1.Qty : Int), (x19.2.1.Value : Int), (x19.2.1.Profit : Int))) (T.ret (y4_1, (0 : Int), (0 : Int), (0 : Int)))).bind <| p2 fun y4_1_1 (q0 : Int × Int × Int) => (p2 fun (y4_2_1 : Int) (q1 : Int × Int) => (p2 fun (y4_3_1 : Int) (y4_4_1 : Int) =>
(show T An ((GPool × Int × Int × Int)) from
(t_mavg_Out n y4_1_1.Layers y4_1_1.Pend.a2).bind fun x23 =>
T.ask (decide (x23.2.2 = 0)) fun x25 =>
cond x25 (T.ret (((⟨x23.1, y4_1_1.Pend⟩ : GPool) : GPool), (x23.2.1.Qty : Int), (x23.2.1.Value : Int), (x23.2.1.Profit : Int))) (T.ret (y4_1_1, (0 : Int), (0 : Int), (0 : Int)))).bind <| p2 fun y4_1_2 (q0 : Int × Int × Int) => (p2 fun (y4_2_2 : Int) (q1 : Int × Int) => (p2 fun (y4_3_2 : Int) (y4_4_2 : Int) =>
T.ret (y4_1_2, (y4_2 : Int), (y4_3 : Int), (y4_4 : Int), (y4_2_1 : Int), (y4_3_1 : Int), (y4_4_1 : Int), (y4_2_2 : Int), (y4_3_2 : Int), (y4_4_2 : Int))) q1) q0) q1) q0) q1) q0).bind <| p2 fun y5_1 (q0 : Int × Int × Int × Int × Int × Int × Int × Int × Int) => (p2 fun (y5_2 : Int) (q1 : Int × Int × Int × Int × Int × Int × Int × Int) => (p2 fun (y5_3 : Int) (q2 : Int × Int × Int × Int × Int × Int × Int) => (p2 fun (y5_4 : Int) (q3 : Int × Int × Int × Int × Int × Int) => (p2 fun (y5_5 : Int) (q4 : Int × Int × Int × Int × Int) => (p2 fun (y5_6 : Int) (q5 : Int × Int × Int × Int) => (p2 fun (y5_7 : Int) (q6 : Int × Int × Int) => (p2 fun (y5_8 : Int) (q7 : Int × Int) => (p2 fun (y5_9 : Int) (y5_10 : Int) =>
T.ret (((⟨y5_1.Layers, (⟨0, 0, 0⟩ : A3_Int)⟩ : GPool) : GPool), ((⟨(⟨y5_2, y5_3, y5_4⟩ : GLayer), (⟨y5_5, y5_6, y5_7⟩ : GLayer), (⟨y5_8, y5_9, y5_10⟩ : GLayer)⟩ : A3_GLayer) : A3_GLayer))) q7) q6) q5) q4) q3) q2) q1) q0
theorem t_pavg_Settle_ok (n : Nat) (a1 : GPool) : (t_pavg_Settle n a1).run = d_pavg_Settle n a1 := by
  simp only [t_pavg_Settle, d_pavg_Settle, T.rs, T_ixInt_ok, t_mavg_Out_ok, t_pavg_own_ok]
def t_close_waits (a1 : GSale) (a2 : Int) (a3 : Int) : T An (Bool) :=
(show T An (Bool) from
T.bnd (a1.Waits) fun x6 =>
cond x6 (T.ask (decide (a1.Entity = a2)) fun x7 =>
cond x7 (T.ask (decide (a1.Period = a3)) fun x8 =>
T.ret x8) (T.ret false)) (T.ret false)).bind <| fun y0_1 =>
T.ret (y0_1)
theorem t_close_waits_ok (a1 : GSale) (a2 : Int) (a3 : Int) : (t_close_waits a1 a2 a3).run = d_close_waits a1 a2 a3 := by
  simp only [t_close_waits, d_close_waits, T.rs, T_ixInt_ok]
def t_parts_Split_1 (a1 : Int) : T An (Bool) :=
(show T An (Bool) from
T.ask (decide (a1 < 0)) fun x3 =>
cond x3 (T.ret true) (T.ask (decide (a1 > 288230376151711744)) fun x4 =>
T.ret x4)).bind <| fun y0_1 =>
T.ret (y0_1)
theorem t_parts_Split_1_ok (a1 : Int) : (t_parts_Split_1 a1).run = d_parts_Split_1 a1 := by
  simp only [t_parts_Split_1, d_parts_Split_1, T.rs, T_ixInt_ok]
def t_parts_Split_2 (a1 : Int) : T An (Bool) :=
T.ask (decide (a1 ≠ 0)) fun x2 =>
T.ret (x2)
theorem t_parts_Split_2_ok (a1 : Int) : (t_parts_Split_2 a1).run = d_parts_Split_2 a1 := by
  simp only [t_parts_Split_2, d_parts_Split_2, T.rs, T_ixInt_ok]
def t_parts_Split_3 (a1 : Int) : T An (Int) :=
T.ret ((a1 : Int))
theorem t_parts_Split_3_ok (a1 : Int) : (t_parts_Split_3 a1).run = d_parts_Split_3 a1 := by
  simp only [t_parts_Split_3, d_parts_Split_3, T.rs, T_ixInt_ok]
def t_parts_Split_L0 (a2 : List Int) : Nat → Int → T An ((Unit) ⊕ ((Int)))
  | 0, _ => T.fail
  | n + 1, y0_1 =>
    T.ask (decide (y0_1 < (a2.length : Int))) fun x8 =>
    cond x8 ((T_ixInt a2 y0_1).bind fun x9 =>
    (t_parts_Split_1 x9).bind fun x10 =>
    cond x10 (T.esc (T.ret (y0_1 : Int))) (T.wr (y0_1 + 1) fun x11 =>
    t_parts_Split_L0 a2 n (x11 : Int))) (T.brk ())
theorem t_parts_Split_L0_ok (a2 : List Int) : ∀ (n : Nat) (z0 : Int), (t_parts_Split_L0 a2 n z0).run = d_parts_Split_L0 a2 n z0
  | 0, _ => rfl
  | n + 1, z0 => by
    simp only [t_parts_Split_L0, d_parts_Split_L0, T.rs, T_ixInt_ok, t_parts_Split_1_ok, t_parts_Split_L0_ok a2 n]
def t_parts_Split_L1 (a2 : List Int) : Nat → Int → T An ((Unit) ⊕ ((Int)))
  | 0, _ => T.fail
  | n + 1, y4_1 =>
    T.ask (decide (y4_1 < (a2.length : Int))) fun x17 =>
    cond x17 ((T_ixInt a2 y4_1).bind fun x18 =>
    (t_parts_Split_2 x18).bind fun x19 =>
    cond x19 (T.esc (T.ret (y4_1 : Int))) (T.wr (y4_1 + 1) fun x20 =>
    t_parts_Split_L1 a2 n (x20 : Int))) (T.brk ())
theorem t_parts_Split_L1_ok (a2 : List Int) : ∀ (n : Nat) (z0 : Int), (t_parts_Split_L1 a2 n z0).run = d_parts_Split_L1 a2 n z0
  | 0, _ => rfl
  | n + 1, z0 => by
    simp only [t_parts_Split_L1, d_parts_Split_L1, T.rs, T_ixInt_ok, t_parts_Split_2_ok, t_parts_Split_L1_ok a2 n]
def t_parts_Split_L2 (a1 : Int) (a2 : List Int) (x24 : Int × Int) : Nat → Int → Int → (List Int) → (List Int) → T An (Int × (List Int) × (List Int))
  | 0, _, _, _, _ => T.fail
  | n + 1, y9_1, y9_2, y9_3, y9_4 =>
    T.ask (decide (y9_2 < (a2.length : Int))) fun x33 =>
    cond x33 ((T_ixInt a2 y9_2).bind fun x34 =>
    (t_money_MulDiv n a1 x34 x24.1).bind fun x35 =>
    (T_ixInt y9_3 y9_2).bind fun x36 =>
    T.bnd (y9_3.set (Int.toNat y9_2) (x35.1 : Int)) fun x37 =>
    (T_ixInt y9_4 y9_2).bind fun x38 =>
    T.bnd (y9_4.set (Int.toNat y9_2) (x35.2.1 : Int)) fun x39 =>
    T.wr (y9_1 - (x35.1 : Int)) fun x40 =>
    T.wr (y9_2 + 1) fun x41 =>
    t_parts_Split_L2 a1 a2 x24 n (x40 : Int) (x41 : Int) x37 x39) (T.ret ((y9_1 : Int), y9_3, y9_4))
theorem t_parts_Split_L2_ok (a1 : Int) (a2 : List Int) (x24 : Int × Int) : ∀ (n : Nat) (z0 : Int) (z1 : Int) (z2 : (List Int)) (z3 : (List Int)), (t_parts_Split_L2 a1 a2 x24 n z0 z1 z2 z3).run = d_parts_Split_L2 a1 a2 x24 n z0 z1 z2 z3
  | 0, _, _, _, _ => rfl
  | n + 1, z0, z1, z2, z3 => by
    simp only [t_parts_Split_L2, d_parts_Split_L2, T.rs, T_ixInt_ok, t_money_MulDiv_ok, t_parts_Split_L2_ok a1 a2 x24 n]
def t_parts_Split_L3 (y10_3 : List Int) : Nat → Int → (List Int) → T An ((List Int))
  | 0, _, _ => T.fail
  | n + 1, y11_1, y11_2 =>
    T.ask (decide (y11_1 < (y10_3.length : Int))) fun x49 =>
    cond x49 ((T_ixInt y11_2 y11_1).bind fun x50 =>
    T.bnd (y11_2.set (Int.toNat y11_1) (y11_1 : Int)) fun x51 =>
    T.wr (y11_1 + 1) fun x52 =>
    t_parts_Split_L3 y10_3 n (x52 : Int) x51) (T.ret y11_2)
theorem t_parts_Split_L3_ok (y10_3 : List Int) : ∀ (n : Nat) (z0 : Int) (z1 : (List Int)), (t_parts_Split_L3 y10_3 n z0 z1).run = d_parts_Split_L3 y10_3 n z0 z1
  | 0, _, _ => rfl
  | n + 1, z0, z1 => by
    simp only [t_parts_Split_L3, d_parts_Split_L3, T.rs, T_ixInt_ok, t_parts_Split_L3_ok y10_3 n]
def t_parts_Split_L4 (y12_1 : List Int) : Nat → T An (Unit)
  | 0 => T.fail
  | n + 1 =>
    T.ask (decide (20 ≤ (y12_1.length : Int))) fun x56 =>
    T.asrt (x56 = false) <|
    T.ret ()
theorem t_parts_Split_L4_ok (y12_1 : List Int) : ∀ (n : Nat), (t_parts_Split_L4 y12_1 n ).run = d_parts_Split_L4 y12_1 n 
  | 0 => rfl
  | n + 1 => by
    simp only [t_parts_Split_L4, d_parts_Split_L4, T.rs, T_ixInt_ok, t_parts_Split_L4_ok y12_1 n]
def t_parts_Split_L6 (y10_3 : List Int) : Nat → Int → (List Int) → T An ((List Int))
  | 0, _, _ => T.fail
  | n + 1, y16_1, y16_2 =>
    (show T An (Bool) from
    T.ask (decide (y16_1 > 0)) fun x63 =>
    cond x63 ((T_ixInt y16_2 y16_1).bind fun x64 =>
    T.wr (y16_1 - 1) fun x65 =>
    (T_ixInt y16_2 x65).bind fun x66 =>
    (show T An ((Int)) from
    (T_ixInt y10_3 x66).bind fun x68 =>
    (t_parts_Split_3 x68).bind fun x69 =>
    (T_ixInt y10_3 x64).bind fun x70 =>
    (t_parts_Split_3 x70).bind fun x71 =>
    (t_cmp_Compare_int x69 x71).bind fun x72 =>
    T.ret (x72 : Int)).bind <| fun y17_1 =>
    T.ask (decide (y17_1 < 0)) fun x73 =>
    T.ret x73) (T.ret false)).bind <| fun y19_1 =>
    cond y19_1 (T.wr (y16_1 - 1) fun x74 =>
    T.wr (y16_1 - 1) fun x75 =>
    (T_ixInt y16_2 x75).bind fun x76 =>
    (T_ixInt y16_2 y16_1).bind fun x77 =>
    T.bnd (y16_2.set (Int.toNat y16_1) (x76 : Int)) fun x78 =>
    (T_ixInt x78 x74).bind fun x79 =>
    T.bnd (x78.set (Int.toNat x74) (x77 : Int)) fun x80 =>
    T.wr (y16_1 - 1) fun x81 =>
    t_parts_Split_L6 y10_3 n (x81 : Int) x80) (T.ret y16_2)
theorem t_parts_Split_L6_ok (y10_3 : List Int) : ∀ (n : Nat) (z0 : Int) (z1 : (List Int)), (t_parts_Split_L6 y10_3 n z0 z1).run = d_parts_Split_L6 y10_3 n z0 z1
  | 0, _, _ => rfl
  | n + 1, z0, z1 => by
    simp only [t_parts_Split_L6, d_parts_Split_L6, T.rs, T_ixInt_ok, t_cmp_Compare_int_ok, t_parts_Split_3_ok, t_parts_Split_L6_ok y10_3 n]
def t_parts_Split_L5 (y10_3 : List Int) (y12_1 : List Int) : Nat → Int → (List Int) → T An ((List Int))
  | 0, _, _ => T.fail
  | n + 1, y15_1, y15_2 =>
    T.ask (decide (y15_1 < (y12_1.length : Int))) fun x59 =>
    cond x59 ((show T An ((List Int)) from
    (show T An ((List Int)) from
    t_parts_Split_L6 y10_3 n (y15_1 : Int) y15_2).bind <| fun y20_1 =>
    T.ret y20_1).bind <| fun y21_1 =>
    T.wr (y15_1 + 1) fun x82 =>
    t_parts_Split_L5 y10_3 y12_1 n (x82 : Int) y21_1) (T.ret y15_2)
theorem t_parts_Split_L5_ok (y10_3 : List Int) (y12_1 : List Int) : ∀ (n : Nat) (z0 : Int) (z1 : (List Int)), (t_parts_Split_L5 y10_3 y12_1 n z0 z1).run = d_parts_Split_L5 y10_3 y12_1 n z0 z1
  | 0, _, _ => rfl
  | n + 1, z0, z1 => by
    simp only [t_parts_Split_L5, d_parts_Split_L5, T.rs, T_ixInt_ok, t_parts_Split_L6_ok, t_parts_Split_L5_ok y10_3 y12_1 n]
def t_parts_Split_L7 (y12_1 : List Int) : Nat → T An (Unit)
  | 0 => T.fail
  | n + 1 =>
    T.ask (decide (20 < (y12_1.length : Int))) fun x85 =>
    T.asrt (x85 = false) <|
    T.ret ()
theorem t_parts_Split_L7_ok (y12_1 : List Int) : ∀ (n : Nat), (t_parts_Split_L7 y12_1 n ).run = d_parts_Split_L7 y12_1 n 
  | 0 => rfl
  | n + 1 => by
    simp only [t_parts_Split_L7, d_parts_Split_L7, T.rs, T_ixInt_ok, t_parts_Split_L7_ok y12_1 n]
def t_parts_Split_L8 (y28_2 : List Int) (x87 : Int) : Nat → Int → (List Int) → T An ((List Int))
  | 0, _, _ => T.fail
  | n + 1, y29_1, y29_2 =>
    T.ask (decide (y29_1 < (((x87.toNat - 0) : Nat) : Int))) fun x90 =>
    cond x90 (T.asrt ((0 : Int) ≤ y29_1 ∧ y29_1 < (((x87.toNat - 0) : Nat) : Int)) <|
    (T_ixInt y28_2 ((((0 + 0) : Nat) : Int) + y29_1)).bind fun x92 =>
    (T_ixInt y29_2 x92).bind fun x93 =>
    T.wr (x93 + 1) fun x94 =>
    T.bnd (y29_2.set (Int.toNat x92) (x94 : Int)) fun x95 =>
    T.wr (y29_1 + 1) fun x96 =>
    t_parts_Split_L8 y28_2 x87 n (x96 : Int) x95) (T.ret y29_2)
theorem t_parts_Split_L8_ok (y28_2 : List Int) (x87 : Int) : ∀ (n : Nat) (z0 : Int) (z1 : (List Int)), (t_parts_Split_L8 y28_2 x87 n z0 z1).run = d_parts_Split_L8 y28_2 x87 n z0 z1
  | 0, _, _ => rfl
  | n + 1, z0, z1 => by
    simp only [t_parts_Split_L8, d_parts_Split_L8, T.rs, T_ixInt_ok, t_parts_Split_L8_ok y28_2 x87 n]
def t_parts_Split (n : Nat) (a1 : Int) (a2 : List Int) : T An ((List Int) × Int) :=
(show T An (Bool) from
(t_parts_Split_1 a1).bind fun x4 =>
cond x4 (T.ret true) ((show T An ((Bool)) from
(show T An ((Int)) from
(show T An ((Unit) ⊕ ((Int))) from
t_parts_Split_L0 a2 n (0 : Int)).bind <| T.sel <| fun _ =>
T.ret ((-1) : Int)).bind <| fun y2_1 =>
T.ask (decide (y2_1 ≥ 0)) fun x13 =>
T.ret x13).bind <| fun y3_1 =>
cond y3_1 (T.ret true) ((show T An ((Bool)) from
(show T An ((Int)) from
(show T An ((Unit) ⊕ ((Int))) from
t_parts_Split_L1 a2 n (0 : Int)).bind <| T.sel <| fun _ =>
T.ret ((-1) : Int)).bind <| fun y6_1 =>
T.ask (decide (y6_1 ≥ 0)) fun x22 =>
T.ret x22).bind <| fun y7_1 =>
T.bnd (!y7_1) fun x23 =>
T.ret x23))).bind <| fun y8_1 =>
T.asrt (y8_1 = false) <|
(t_money_Sum n a2).bind fun x24 =>
T.ask (decide (x24.2 ≠ 0)) fun x25 =>
T.asrt (x25 = false) <|
T.asrt ((0 : Int) ≤ (a2.length : Int) ∧ ((a2.length : Int) : Int) ≤ 1048576) <|
T.bnd (List.replicate (Int.toNat (a2.length : Int)) (0 : Int)) fun x27 =>
T.asrt ((0 : Int) ≤ (a2.length : Int) ∧ ((a2.length : Int) : Int) ≤ 1048576) <|
T.bnd (List.replicate (Int.toNat (a2.length : Int)) (0 : Int)) fun x30 =>
(show T An (Int × (List Int) × (List Int)) from
t_parts_Split_L2 a1 a2 x24 n (a1 : Int) (0 : Int) x27 x30).bind <| p2 fun (y10_1 : Int) (q0 : (List Int) × (List Int)) => (p2 fun y10_2 y10_3 =>
(show T An (((List Int))) from
T.asrt ((0 : Int) ≤ (y10_3.length : Int) ∧ ((y10_3.length : Int) : Int) ≤ 1048576) <|
T.bnd (List.replicate (Int.toNat (y10_3.length : Int)) (0 : Int)) fun x46 =>
(show T An ((List Int)) from
t_parts_Split_L3 y10_3 n (0 : Int) x46).bind <| fun y12_1 =>
(show T An (((List Int))) from
(show T An (((List Int))) from
(show T An (Unit) from
t_parts_Split_L4 y12_1 n).bind <| fun _ =>
(show T An (((List Int))) from
(show T An ((List Int)) from
t_parts_Split_L5 y10_3 y12_1 n (1 : Int) y12_1).bind <| fun y22_1 =>
T.ret y22_1).bind <| fun y23_1 =>
T.asrt (y23_1.length = y12_1.length) <|
(show T An (Unit) from
t_parts_Split_L7 y12_1 n).bind <| fun _ =>
T.ret y23_1).bind <| fun y26_1 =>
T.ret y26_1).bind <| fun y27_1 =>
T.asrt (y27_1.length = y12_1.length) <|
T.ret y27_1).bind <| fun y28_2 =>
(T.ifv ((y10_3.length : Int) < y10_1) ((y10_3.length : Int)) (y10_1)).bind fun x87 =>
T.asrt ((0 : Int) ≤ x87 ∧ x87 ≤ (y28_2.length : Int)) <|
(show T An ((List Int)) from
t_parts_Split_L8 y28_2 x87 n (0 : Int) y10_2).bind <| fun y30_1 =>
T.ret (y30_1, (0 : Int))) q0
theorem t_parts_Split_ok (n : Nat) (a1 : Int) (a2 : List Int) : (t_parts_Split n a1 a2).run = d_parts_Split n a1 a2 := by
  simp only [t_parts_Split, d_parts_Split, T.rs, T_ixInt_ok, t_money_Sum_ok, t_parts_Split_1_ok, t_parts_Split_L0_ok, t_parts_Split_L1_ok, t_parts_Split_L2_ok, t_parts_Split_L3_ok, t_parts_Split_L4_ok, t_parts_Split_L5_ok, t_parts_Split_L7_ok, t_parts_Split_L8_ok]
def t_close_spread_L0 (a1 : GState) (a2 : Int) (a3 : Int) (a4 : Int) : Nat → Bool → Int → (List Int) → (List Int) → T An (Bool × (List Int) × (List Int))
  | 0, _, _, _, _ => T.fail
  | n + 1, y0_3, y0_4, y0_5, y0_6 =>
    T.ask (decide (y0_4 < (a1.Sales.length : Int))) fun x12 =>
    cond x12 ((show T An (Bool × (List Int) × (List Int)) from
    (T.ix a1.Sales y0_4).bind fun x14 =>
    (show T An (Bool) from
    (T.ix a1.Ents a2).bind fun x17 =>
    (t_close_waits x14 a2 x17.Now).bind fun x18 =>
    cond x18 (T.ask (decide (x14.Item = a3)) fun x19 =>
    cond x19 (T.ask (decide (x14.Loc = a4)) fun x20 =>
    T.ret x20) (T.ret false)) (T.ret false)).bind <| fun y1_1 =>
    cond y1_1 (T.wr (x14.Qty - x14.Back) fun x21 =>
    T.bnd (y0_5 ++ ([y0_4] : List Int)) fun x22 =>
    T.asrt (x22.length ≤ 68719476736) <|
    T.bnd (y0_6 ++ ([x21] : List Int)) fun x25 =>
    T.asrt (x25.length ≤ 68719476736) <|
    (show T An (Bool) from
    cond y0_3 (T.ret true) (T.ask (decide (x14.Qty > x14.Back)) fun x29 =>
    T.ret x29)).bind <| fun y3_1 =>
    T.ret (y3_1, x22, x25)) (T.ret (y0_3, y0_5, y0_6))).bind <| p2 fun y2_3 (q0 : (List Int) × (List Int)) => (p2 fun y2_4 y2_5 =>
    T.wr (y0_4 + 1) fun x30 =>
    t_close_spread_L0 a1 a2 a3 a4 n y2_3 (x30 : Int) y2_4 y2_5) q0) (T.ret (y0_3, y0_5, y0_6))
theorem t_close_spread_L0_ok (a1 : GState) (a2 : Int) (a3 : Int) (a4 : Int) : ∀ (n : Nat) (z0 : Bool) (z1 : Int) (z2 : (List Int)) (z3 : (List Int)), (t_close_spread_L0 a1 a2 a3 a4 n z0 z1 z2 z3).run = d_close_spread_L0 a1 a2 a3 a4 n z0 z1 z2 z3
  | 0, _, _, _, _ => rfl
  | n + 1, z0, z1, z2, z3 => by
    simp only [t_close_spread_L0, d_close_spread_L0, T.rs, T_ixInt_ok, t_close_waits_ok, t_close_spread_L0_ok a1 a2 a3 a4 n]
def t_close_spread_L1 (y4_4 : List Int) (x33 : (List Int) × Int) (x36 : (List Int) × Int) : Nat → Int → (List GSale) → T An ((List GSale))
  | 0, _, _ => T.fail
  | n + 1, y5_1, y5_2 =>
    T.ask (decide (y5_1 < (y4_4.length : Int))) fun x41 =>
    cond x41 ((T_ixInt y4_4 y5_1).bind fun x42 =>
    (T_ixInt x33.1 y5_1).bind fun x43 =>
    (T_ixInt x36.1 y5_1).bind fun x44 =>
    T.wr (1 * x44) fun x45 =>
    (T.ix y5_2 x42).bind fun x46 =>
    T.bnd (y5_2.set (Int.toNat x42) ((⟨x46.Entity, x46.Item, x46.Loc, x46.Qty, x46.Back, x43, x46.Profit, x46.Period, x46.Waits⟩ : GSale) : GSale)) fun x47 =>
    T.bnd (x47.set (Int.toNat x42) ((⟨x46.Entity, x46.Item, x46.Loc, x46.Qty, x46.Back, x43, x45, x46.Period, x46.Waits⟩ : GSale) : GSale)) fun x48 =>
    T.wr (y5_1 + 1) fun x49 =>
    t_close_spread_L1 y4_4 x33 x36 n (x49 : Int) x48) (T.ret y5_2)
theorem t_close_spread_L1_ok (y4_4 : List Int) (x33 : (List Int) × Int) (x36 : (List Int) × Int) : ∀ (n : Nat) (z0 : Int) (z1 : (List GSale)), (t_close_spread_L1 y4_4 x33 x36 n z0 z1).run = d_close_spread_L1 y4_4 x33 x36 n z0 z1
  | 0, _, _ => rfl
  | n + 1, z0, z1 => by
    simp only [t_close_spread_L1, d_close_spread_L1, T.rs, T_ixInt_ok, t_close_spread_L1_ok y4_4 x33 x36 n]
def t_close_spread (n : Nat) (a1 : GState) (a2 : Int) (a3 : Int) (a4 : Int) (a5 : GLayer) : T An (GState × Int) :=
(show T An (Bool × (List Int) × (List Int)) from
t_close_spread_L0 a1 a2 a3 a4 n false (0 : Int) (([] : List Int) : List Int) (([] : List Int) : List Int)).bind <| p2 fun y4_3 (q0 : (List Int) × (List Int)) => (p2 fun y4_4 y4_5 =>
T.bnd (!y4_3) fun x31 =>
T.asrt (x31 = false) <|
T.ask (decide (a5.Profit < 0)) fun x32 =>
T.asrt (x32 = false) <|
(t_parts_Split n a5.Value y4_5).bind fun x33 =>
T.ask (decide (x33.2 ≠ 0)) fun x34 =>
T.asrt (x34 = false) <|
T.wr (1 * a5.Profit) fun x35 =>
(t_parts_Split n x35 y4_5).bind fun x36 =>
T.ask (decide (x36.2 ≠ 0)) fun x37 =>
T.asrt (x37 = false) <|
T.asrt (a1.Sales.length ≤ 68719476736) <|
(show T An ((List GSale)) from
t_close_spread_L1 y4_4 x33 x36 n (0 : Int) a1.Sales).bind <| fun y6_1 =>
T.ret (((⟨a1.Master, a1.Ents, a1.Receipts, y6_1, a1.Transits, a1.Done⟩ : GState) : GState), (0 : Int))) q0
theorem t_close_spread_ok (n : Nat) (a1 : GState) (a2 : Int) (a3 : Int) (a4 : Int) (a5 : GLayer) : (t_close_spread n a1 a2 a3 a4 a5).run = d_close_spread n a1 a2 a3 a4 a5 := by
  simp only [t_close_spread, d_close_spread, T.rs, T_ixInt_ok, t_close_spread_L0_ok, t_close_spread_L1_ok, t_parts_Split_ok]
def t_close_settle (n : Nat) (a1 : GState) (a2 : Int) (a3 : Int) (a4 : Int) (a5 : GPool) : T An (GState × Int) :=
(t_pavg_Settle n a5).bind fun x9 =>
T.asrt (a1.Ents.length ≤ 68719476736) <|
(T.ix a1.Ents a2).bind fun x13 =>
T.asrt (x13.Pools.length ≤ 68719476736) <|
T.wr (a3 * 2) fun x16 =>
T.wr (x16 + a4) fun x17 =>
(T.ix x13.Pools x17).bind fun x18 =>
T.bnd (x13.Pools.set (Int.toNat x17) x9.1) fun x19 =>
T.wr (0 - x9.2.a0.Value) fun x23 =>
T.wr (x23 - x9.2.a1.Value) fun x24 =>
T.wr (x24 - x9.2.a2.Value) fun x25 =>
(t_stock_Post n (⟨a1.Master, (a1.Ents.set (Int.toNat a2) (⟨x13.Now, x13.Closed, x19, x13.Bal, x13.Rolls, x13.Prices, x13.Down, x13.Ahead⟩ : GEnt)), a1.Receipts, a1.Sales, a1.Transits, a1.Done⟩ : GState) a2 ([(⟨5, x9.2.a0.Value⟩ : GLine), (⟨7, x9.2.a1.Value⟩ : GLine), (⟨8, x9.2.a2.Value⟩ : GLine), (⟨0, x25⟩ : GLine)] : List GLine)).bind fun x26 =>
T.ask (decide (x26.2 ≠ 0)) fun x27 =>
T.asrt (x27 = false) <|
(t_stock_Turn x26.1 a2 a3 (⟨0, 0, 0, 0, 0, x9.2.a0.Value, 0, 0, x9.2.a1.Value, x9.2.a2.Value, 0⟩ : GRoll)).bind fun x28 =>
T.ask (decide (x28.2 ≠ 0)) fun x29 =>
T.asrt (x29 = false) <|
(t_close_spread n x28.1 a2 a3 a4 x9.2.a0).bind fun x30 =>
T.ret (x30.1, (x30.2 : Int))
theorem t_close_settle_ok (n : Nat) (a1 : GState) (a2 : Int) (a3 : Int) (a4 : Int) (a5 : GPool) : (t_close_settle n a1 a2 a3 a4 a5).run = d_close_settle n a1 a2 a3 a4 a5 := by
  simp only [t_close_settle, d_close_settle, T.rs, T_ixInt_ok, t_close_spread_ok, t_pavg_Settle_ok, t_stock_Post_ok, t_stock_Turn_ok]
def t_nrv_Mark_L0 (x9 : GEnt) (x13 : Int) : Nat → Int → T An (Unit)
  | 0, _ => T.fail
  | n + 1, y1_1 =>
    T.ask (decide (y1_1 < x13)) fun x15 =>
    cond x15 ((T_ixInt x9.Prices y1_1).bind fun x16 =>
    T.ask (decide (x16 ≥ 0)) fun x17 =>
    T.asrt (x17 = false) <|
    T.wr (y1_1 + 1) fun x18 =>
    t_nrv_Mark_L0 x9 x13 n (x18 : Int)) (T.ret ())
theorem t_nrv_Mark_L0_ok (x9 : GEnt) (x13 : Int) : ∀ (n : Nat) (z0 : Int), (t_nrv_Mark_L0 x9 x13 n z0).run = d_nrv_Mark_L0 x9 x13 n z0
  | 0, _ => rfl
  | n + 1, z0 => by
    simp only [t_nrv_Mark_L0, d_nrv_Mark_L0, T.rs, T_ixInt_ok, t_nrv_Mark_L0_ok x9 x13 n]
def t_nrv_Mark (n : Nat) (a1 : GState) (a2 : Int) : T An (GState × Int) :=
(show T An (Bool) from
T.ask (decide (a2 < 0)) fun x7 =>
cond x7 (T.ret true) (T.ask (decide (a2 ≥ (a1.Ents.length : Int))) fun x8 =>
T.ret x8)).bind <| fun y0_1 =>
T.asrt (y0_1 = false) <|
(T.ix a1.Ents a2).bind fun x9 =>
T.asrt (x9.Down.length ≤ 68719476736) <|
(T.ifv ((x9.Prices.length : Int) < (x9.Down.length : Int)) ((x9.Prices.length : Int)) ((x9.Down.length : Int))).bind fun x13 =>
(show T An (Unit) from
t_nrv_Mark_L0 x9 x13 n (0 : Int)).bind <| fun _ =>
(t_stock_Post n a1 a2 []).bind fun x19 =>
T.ask (decide (x19.2 ≠ 0)) fun x21 =>
T.asrt (x21 = false) <|
T.asrt (x19.1.Ents.length ≤ 68719476736) <|
(T.ix x19.1.Ents a2).bind fun x24 =>
T.ret (((⟨x19.1.Master, (x19.1.Ents.set (Int.toNat a2) (⟨x24.Now, x24.Closed, x24.Pools, x24.Bal, x24.Rolls, x24.Prices, x9.Down, x24.Ahead⟩ : GEnt)), x19.1.Receipts, x19.1.Sales, x19.1.Transits, x19.1.Done⟩ : GState) : GState), (0 : Int))
theorem t_nrv_Mark_ok (n : Nat) (a1 : GState) (a2 : Int) : (t_nrv_Mark n a1 a2).run = d_nrv_Mark n a1 a2 := by
  simp only [t_nrv_Mark, d_nrv_Mark, T.rs, T_ixInt_ok, t_nrv_Mark_L0_ok, t_stock_Post_ok]
def t_close_Close_L1 (a2 : Int) (y0_1 : Int) (x28 : List GPool) : Nat → Int → GState → T An (GState)
  | 0, _, _ => T.fail
  | n + 1, y2_1, y2_2 =>
    T.ask (decide (y2_1 < (x28.length : Int))) fun x30 =>
    cond x30 ((show T An (GState) from
    (T.ix x28 y2_1).bind fun x32 =>
    T.ask (decide (x32.Pend = ((⟨0, 0, 0⟩ : A3_Int) : A3_Int))) fun x34 =>
    cond x34 (T.ret y2_2) ((t_close_settle n y2_2 a2 y0_1 y2_1 x32).bind fun x35 =>
    T.ask (decide (x35.2 ≠ 0)) fun x36 =>
    T.asrt (x36 = false) <|
    T.ret x35.1)).bind <| fun y3_1 =>
    T.wr (y2_1 + 1) fun x37 =>
    t_close_Close_L1 a2 y0_1 x28 n (x37 : Int) y3_1) (T.ret y2_2)
theorem t_close_Close_L1_ok (a2 : Int) (y0_1 : Int) (x28 : List GPool) : ∀ (n : Nat) (z0 : Int) (z1 : GState), (t_close_Close_L1 a2 y0_1 x28 n z0 z1).run = d_close_Close_L1 a2 y0_1 x28 n z0 z1
  | 0, _, _ => rfl
  | n + 1, z0, z1 => by
    simp only [t_close_Close_L1, d_close_Close_L1, T.rs, T_ixInt_ok, t_close_settle_ok, t_close_Close_L1_ok a2 y0_1 x28 n]
def t_close_Close_L0 (a1 : GState) (a2 : Int) (x10 : List Int) : Nat → Int → GState → T An (GState)
  | 0, _, _ => T.fail
  | n + 1, y0_1, y0_2 =>
    T.ask (decide (y0_1 < (x10.length : Int))) fun x12 =>
    cond x12 ((show T An (GState) from
    (T_ixInt x10 y0_1).bind fun x14 =>
    (show T An (Bool) from
    T.ask (decide (x14 ≠ 3)) fun x16 =>
    cond x16 (T.ret true) (T.wr (y0_1 + 1) fun x17 =>
    T.wr (x17 * 2) fun x18 =>
    (T.ix a1.Ents a2).bind fun x19 =>
    T.ask (decide (x18 > (x19.Pools.length : Int))) fun x20 =>
    T.ret x20)).bind <| fun y1_1 =>
    cond y1_1 (T.ret y0_2) ((T.ix a1.Ents a2).bind fun x21 =>
    T.wr (y0_1 * 2) fun x22 =>
    T.wr (y0_1 + 1) fun x23 =>
    T.wr (x23 * 2) fun x24 =>
    T.wr (y0_1 + 1) fun x25 =>
    T.wr (x25 * 2) fun x26 =>
    T.asrt ((0 : Int) ≤ x22 ∧ x22 ≤ x24 ∧ x24 ≤ (x21.Pools.length : Int) ∧ x26 = x24) <|
    T.bnd ((x21.Pools.take x24.toNat).drop x22.toNat) fun x28 =>
    (show T An (GState) from
    t_close_Close_L1 a2 y0_1 x28 n (0 : Int) y0_2).bind <| fun y4_1 =>
    T.ret y4_1)).bind <| fun y5_1 =>
    T.wr (y0_1 + 1) fun x38 =>
    t_close_Close_L0 a1 a2 x10 n (x38 : Int) y5_1) (T.ret y0_2)
theorem t_close_Close_L0_ok (a1 : GState) (a2 : Int) (x10 : List Int) : ∀ (n : Nat) (z0 : Int) (z1 : GState), (t_close_Close_L0 a1 a2 x10 n z0 z1).run = d_close_Close_L0 a1 a2 x10 n z0 z1
  | 0, _, _ => rfl
  | n + 1, z0, z1 => by
    simp only [t_close_Close_L0, d_close_Close_L0, T.rs, T_ixInt_ok, t_close_Close_L1_ok, t_close_Close_L0_ok a1 a2 x10 n]
def t_close_Close (n : Nat) (a1 : GState) (a2 : Int) : T An (GState × Int) :=
(t_close_is a1 a2).bind fun x5 =>
T.bnd (!x5) fun x6 =>
T.asrt (x6 = false) <|
(T.ix a1.Ents a2).bind fun x7 =>
T.bnd (x7.Closed) fun x8 =>
cond x8 (T.ret (a1, (7 : Int))) ((T.ix a1.Master.Methods a2).bind fun x10 =>
(show T An (GState) from
t_close_Close_L0 a1 a2 x10 n (0 : Int) a1).bind <| fun y6_1 =>
(t_nrv_Mark n y6_1 a2).bind fun x39 =>
T.ask (decide (x39.2 ≠ 0)) fun x40 =>
T.asrt (x40 = false) <|
T.asrt (x39.1.Ents.length ≤ 68719476736) <|
(T.ix a1.Ents a2).bind fun x43 =>
(T.ix x39.1.Ents a2).bind fun x44 =>
T.bnd (x39.1.Ents.set (Int.toNat a2) ((⟨x44.Now, x44.Closed, x44.Pools, x44.Bal, x44.Rolls, x44.Prices, x44.Down, ([x43] : List GEnt)⟩ : GEnt) : GEnt)) fun x45 =>
T.bnd (x45.set (Int.toNat a2) ((⟨x44.Now, true, x44.Pools, x44.Bal, x44.Rolls, x44.Prices, x44.Down, ([x43] : List GEnt)⟩ : GEnt) : GEnt)) fun x46 =>
T.ret (((⟨x39.1.Master, x46, x39.1.Receipts, x39.1.Sales, x39.1.Transits, x39.1.Done⟩ : GState) : GState), (0 : Int)))
theorem t_close_Close_ok (n : Nat) (a1 : GState) (a2 : Int) : (t_close_Close n a1 a2).run = d_close_Close n a1 a2 := by
  simp only [t_close_Close, d_close_Close, T.rs, T_ixInt_ok, t_close_Close_L0_ok, t_close_is_ok, t_nrv_Mark_ok]
def t_close_Step (n : Nat) (a1 : GState) (a2 : GOp) : T An (GState × Int) :=
(t_ops_Check a2).bind fun x6 =>
T.bnd (!x6) fun x7 =>
T.asrt (x7 = false) <|
(show T An ((Int × GState) ⊕ (GState × Int)) from
T.ask (decide (a2.Kind = 14)) fun x10 =>
cond x10 ((t_close_Close n a1 a2.E).bind fun x16 =>
T.brk ((x16.2 : Int), x16.1)) (T.ask (decide (a2.Kind = 15)) fun x11 =>
T.asrt (x11 = false) <|
T.ask (decide (a2.Kind = 16)) fun x12 =>
cond x12 ((t_close_Next n a1 a2.E).bind fun x15 =>
T.brk ((x15.2 : Int), x15.1)) ((t_apply_Do n a1 a2).bind fun x13 =>
T.esc (T.ret (x13.1, (x13.2 : Int)))))).bind <| T.sel <| p2 fun (y0_1 : Int) y0_2 =>
T.ask (decide (y0_1 ≠ 0)) fun x17 =>
T.asrt (x17 = false) <|
T.wr (y0_2.Done + 1) fun x18 =>
T.ret (((⟨y0_2.Master, y0_2.Ents, y0_2.Receipts, y0_2.Sales, y0_2.Transits, x18⟩ : GState) : GState), (0 : Int))
theorem t_close_Step_ok (n : Nat) (a1 : GState) (a2 : GOp) : (t_close_Step n a1 a2).run = d_close_Step n a1 a2 := by
  simp only [t_close_Step, d_close_Step, T.rs, T_ixInt_ok, t_apply_Do_ok, t_close_Close_ok, t_close_Next_ok, t_ops_Check_ok]
def t_ref14_to (a1 : Int) (a2 : Int) : T An (Bool) :=
(show T An (Bool) from
T.ask (decide (a1 ≥ 0)) fun x4 =>
cond x4 (T.ask (decide (a1 ≤ a2)) fun x5 =>
T.ret x5) (T.ret false)).bind <| fun y0_1 =>
T.ret (y0_1)
theorem t_ref14_to_ok (a1 : Int) (a2 : Int) : (t_ref14_to a1 a2).run = d_ref14_to a1 a2 := by
  simp only [t_ref14_to, d_ref14_to, T.rs, T_ixInt_ok]
def t_ref14_there (a1 : GState) (a2 : Int) (a3 : Int) : T An (Bool) :=
(show T An (Bool) from
T.wr ((a1.Ents.length : Int) - 1) fun x6 =>
(t_ref14_to a2 x6).bind fun x7 =>
cond x7 (T.wr ((a1.Master.Weights.length : Int) - 1) fun x8 =>
(t_ref14_to a3 x8).bind fun x9 =>
T.ret x9) (T.ret false)).bind <| fun y0_1 =>
T.ret (y0_1)
theorem t_ref14_there_ok (a1 : GState) (a2 : Int) (a3 : Int) : (t_ref14_there a1 a2 a3).run = d_ref14_there a1 a2 a3 := by
  simp only [t_ref14_there, d_ref14_there, T.rs, T_ixInt_ok, t_ref14_to_ok]
def t_ref14_At (a1 : GState) (a2 : Int) (a3 : Int) (a4 : Int) : T An (GPool) :=
(show T An (Bool) from
(t_ref14_there a1 a2 a3).bind fun x8 =>
T.bnd (!x8) fun x9 =>
cond x9 (T.ret true) ((t_ref14_to a4 1).bind fun x10 =>
T.bnd (!x10) fun x11 =>
cond x11 (T.ret true) (T.wr (a3 * 2) fun x12 =>
T.wr (x12 + a4) fun x13 =>
(T.ix a1.Ents a2).bind fun x14 =>
T.ask (decide (x13 ≥ (x14.Pools.length : Int))) fun x15 =>
T.ret x15))).bind <| fun y0_1 =>
T.asrt (y0_1 = false) <|
(T.ix a1.Ents a2).bind fun x16 =>
T.wr (a3 * 2) fun x17 =>
T.wr (x17 + a4) fun x18 =>
(T.ix x16.Pools x18).bind fun x19 =>
T.ret (x19)
theorem t_ref14_At_ok (a1 : GState) (a2 : Int) (a3 : Int) (a4 : Int) : (t_ref14_At a1 a2 a3 a4).run = d_ref14_At a1 a2 a3 a4 := by
  simp only [t_ref14_At, d_ref14_At, T.rs, T_ixInt_ok, t_ref14_there_ok, t_ref14_to_ok]
def t_ref01_In (a1 : Int) : T An (Bool) :=
(show T An (Bool) from
T.ask (decide (a1 ≥ (-288230376151711744))) fun x3 =>
cond x3 (T.ask (decide (a1 ≤ 288230376151711744)) fun x4 =>
T.ret x4) (T.ret false)).bind <| fun y0_1 =>
T.ret (y0_1)
theorem t_ref01_In_ok (a1 : Int) : (t_ref01_In a1).run = d_ref01_In a1 := by
  simp only [t_ref01_In, d_ref01_In, T.rs, T_ixInt_ok]
def t_ref01_Add (a1 : Int) (a2 : Int) : T An (Int × Int) :=
(show T An (Bool) from
(t_ref01_In a1).bind fun x4 =>
T.bnd (!x4) fun x5 =>
cond x5 (T.ret true) ((t_ref01_In a2).bind fun x6 =>
T.bnd (!x6) fun x7 =>
cond x7 (T.ret true) (T.wr (a1 + a2) fun x8 =>
(t_ref01_In x8).bind fun x9 =>
T.bnd (!x9) fun x10 =>
T.ret x10))).bind <| fun y0_1 =>
T.asrt (y0_1 = false) <|
T.wr (a1 + a2) fun x11 =>
T.ret ((x11 : Int), (0 : Int))
theorem t_ref01_Add_ok (a1 : Int) (a2 : Int) : (t_ref01_Add a1 a2).run = d_ref01_Add a1 a2 := by
  simp only [t_ref01_Add, d_ref01_Add, T.rs, T_ixInt_ok, t_ref01_In_ok]
def t_ref09_Total_L0 (a1 : List GLayer) : Nat → Int → GLayer → T An (GLayer)
  | 0, _, _ => T.fail
  | n + 1, y0_1, y0_2 =>
    T.ask (decide (y0_1 < (a1.length : Int))) fun x5 =>
    cond x5 ((T.ix a1 y0_1).bind fun x6 =>
    (t_ref01_Add y0_2.Qty x6.Qty).bind fun x7 =>
    (T.ix a1 y0_1).bind fun x8 =>
    (t_ref01_Add y0_2.Value x8.Value).bind fun x9 =>
    (T.ix a1 y0_1).bind fun x10 =>
    (t_ref01_Add y0_2.Profit x10.Profit).bind fun x11 =>
    (show T An (Bool) from
    T.ask (decide (x7.2 ≠ 0)) fun x13 =>
    cond x13 (T.ret true) (T.ask (decide (x9.2 ≠ 0)) fun x14 =>
    cond x14 (T.ret true) (T.ask (decide (x11.2 ≠ 0)) fun x15 =>
    T.ret x15))).bind <| fun y1_1 =>
    T.asrt (y1_1 = false) <|
    T.wr (y0_1 + 1) fun x16 =>
    t_ref09_Total_L0 a1 n (x16 : Int) ((⟨x7.1, x9.1, x11.1⟩ : GLayer) : GLayer)) (T.ret y0_2)
theorem t_ref09_Total_L0_ok (a1 : List GLayer) : ∀ (n : Nat) (z0 : Int) (z1 : GLayer), (t_ref09_Total_L0 a1 n z0 z1).run = d_ref09_Total_L0 a1 n z0 z1
  | 0, _, _ => rfl
  | n + 1, z0, z1 => by
    simp only [t_ref09_Total_L0, d_ref09_Total_L0, T.rs, T_ixInt_ok, t_ref01_Add_ok, t_ref09_Total_L0_ok a1 n]
def t_ref09_Total (n : Nat) (a1 : List GLayer) : T An (GLayer × Int) :=
(show T An (GLayer) from
t_ref09_Total_L0 a1 n (0 : Int) ((⟨0, 0, 0⟩ : GLayer) : GLayer)).bind <| fun y2_1 =>
T.ret (y2_1, (0 : Int))
theorem t_ref09_Total_ok (n : Nat) (a1 : List GLayer) : (t_ref09_Total n a1).run = d_ref09_Total n a1 := by
  simp only [t_ref09_Total, d_ref09_Total, T.rs, T_ixInt_ok, t_ref09_Total_L0_ok]
def t_ref13_Total (n : Nat) (a1 : GPool) : T An (GLayer) :=
(t_ref09_Total n a1.Layers).bind fun x4 =>
T.ret (x4.1)
theorem t_ref13_Total_ok (n : Nat) (a1 : GPool) : (t_ref13_Total n a1).run = d_ref13_Total n a1 := by
  simp only [t_ref13_Total, d_ref13_Total, T.rs, T_ixInt_ok, t_ref09_Total_ok]
def t_ref01_Sum_L0 (a1 : List Int) : Nat → Int → Int → T An (Int)
  | 0, _, _ => T.fail
  | n + 1, y0_1, y0_2 =>
    T.ask (decide (y0_2 < (a1.length : Int))) fun x3 =>
    cond x3 ((T_ixInt a1 y0_2).bind fun x4 =>
    (t_ref01_Add y0_1 x4).bind fun x5 =>
    T.ask (decide (x5.2 ≠ 0)) fun x6 =>
    T.asrt (x6 = false) <|
    T.wr (y0_2 + 1) fun x7 =>
    t_ref01_Sum_L0 a1 n (x5.1 : Int) (x7 : Int)) (T.ret (y0_1 : Int))
theorem t_ref01_Sum_L0_ok (a1 : List Int) : ∀ (n : Nat) (z0 : Int) (z1 : Int), (t_ref01_Sum_L0 a1 n z0 z1).run = d_ref01_Sum_L0 a1 n z0 z1
  | 0, _, _ => rfl
  | n + 1, z0, z1 => by
    simp only [t_ref01_Sum_L0, d_ref01_Sum_L0, T.rs, T_ixInt_ok, t_ref01_Add_ok, t_ref01_Sum_L0_ok a1 n]
def t_ref01_Sum (n : Nat) (a1 : List Int) : T An (Int × Int) :=
(show T An (Int) from
t_ref01_Sum_L0 a1 n (0 : Int) (0 : Int)).bind <| fun y1_1 =>
T.ret ((y1_1 : Int), (0 : Int))
theorem t_ref01_Sum_ok (n : Nat) (a1 : List Int) : (t_ref01_Sum n a1).run = d_ref01_Sum n a1 := by
  simp only [t_ref01_Sum, d_ref01_Sum, T.rs, T_ixInt_ok, t_ref01_Sum_L0_ok]
def t_ref14_worth_L0 (a1 : GState) (a2 : Int) (a3 : Int) : Nat → Int → (List Int) → (List Int) → (List Int) → T An ((List Int) × (List Int) × (List Int))
  | 0, _, _, _, _ => T.fail
  | n + 1, y0_4, y0_5, y0_6, y0_7 =>
    T.ask (decide (y0_4 < 2)) fun x10 =>
    cond x10 ((t_ref14_At a1 a2 a3 y0_4).bind fun x11 =>
    (t_ref13_Total n x11).bind fun x12 =>
    T.bnd (y0_5 ++ ([x12.Qty] : List Int)) fun x14 =>
    T.asrt (x14.length ≤ 68719476736) <|
    T.bnd (y0_6 ++ ([x12.Value] : List Int)) fun x17 =>
    T.asrt (x17.length ≤ 68719476736) <|
    T.bnd (y0_7 ++ ([x12.Profit] : List Int)) fun x20 =>
    T.asrt (x20.length ≤ 68719476736) <|
    T.wr (y0_4 + 1) fun x23 =>
    t_ref14_worth_L0 a1 a2 a3 n (x23 : Int) x14 x17 x20) (T.ret (y0_5, y0_6, y0_7))
theorem t_ref14_worth_L0_ok (a1 : GState) (a2 : Int) (a3 : Int) : ∀ (n : Nat) (z0 : Int) (z1 : (List Int)) (z2 : (List Int)) (z3 : (List Int)), (t_ref14_worth_L0 a1 a2 a3 n z0 z1 z2 z3).run = d_ref14_worth_L0 a1 a2 a3 n z0 z1 z2 z3
  | 0, _, _, _, _ => rfl
  | n + 1, z0, z1, z2, z3 => by
    simp only [t_ref14_worth_L0, d_ref14_worth_L0, T.rs, T_ixInt_ok, t_ref13_Total_ok, t_ref14_At_ok, t_ref14_worth_L0_ok a1 a2 a3 n]
def t_ref14_worth (n : Nat) (a1 : GState) (a2 : Int) (a3 : Int) : T An (GLayer × Int) :=
(show T An ((List Int) × (List Int) × (List Int)) from
t_ref14_worth_L0 a1 a2 a3 n (0 : Int) (([] : List Int) : List Int) (([] : List Int) : List Int) (([] : List Int) : List Int)).bind <| p2 fun y1_4 (q0 : (List Int) × (List Int)) => (p2 fun y1_5 y1_6 =>
(t_ref01_Sum n y1_4).bind fun x24 =>
(t_ref01_Sum n y1_5).bind fun x25 =>
(t_ref01_Sum n y1_6).bind fun x26 =>
T.bnd (if x26.2 > (if x25.2 > x24.2 then x25.2 else x24.2) then x26.2 else (if x25.2 > x24.2 then x25.2 else x24.2)) fun x27 =>
T.ret (((⟨x24.1, x25.1, x26.1⟩ : GLayer) : GLayer), (x27 : Int))) q0
theorem t_ref14_worth_ok (n : Nat) (a1 : GState) (a2 : Int) (a3 : Int) : (t_ref14_worth n a1 a2 a3).run = d_ref14_worth n a1 a2 a3 := by
  simp only [t_ref14_worth, d_ref14_worth, T.rs, T_ixInt_ok, t_ref01_Sum_ok, t_ref14_worth_L0_ok]
def t_ref14_Worth (n : Nat) (a1 : GState) (a2 : Int) (a3 : Int) : T An (GLayer) :=
(t_ref14_worth n a1 a2 a3).bind fun x6 =>
T.ret (x6.1)
theorem t_ref14_Worth_ok (n : Nat) (a1 : GState) (a2 : Int) (a3 : Int) : (t_ref14_Worth n a1 a2 a3).run = d_ref14_Worth n a1 a2 a3 := by
  simp only [t_ref14_Worth, d_ref14_Worth, T.rs, T_ixInt_ok, t_ref14_worth_ok]
def t_law00_Master_L0 (x3 : Int) (x8 : Int) : Nat → Int → (List Int) → T An ((List Int))
  | 0, _, _ => T.fail
  | n + 1, y0_1, y0_3 =>
    T.ask (decide (y0_1 < x8)) fun x15 =>
    cond x15 (T.wr (x3.tdiv 24) fun x16 =>
    T.bnd (x16.tmod 7) fun x17 =>
    T.wr (x17 + y0_1) fun x18 =>
    T.bnd (y0_3 ++ ([x18] : List Int)) fun x19 =>
    T.asrt (x19.length ≤ 68719476736) <|
    T.wr (y0_1 + 1) fun x22 =>
    t_law00_Master_L0 x3 x8 n (x22 : Int) x19) (T.ret y0_3)
theorem t_law00_Master_L0_ok (x3 : Int) (x8 : Int) : ∀ (n : Nat) (z0 : Int) (z1 : (List Int)), (t_law00_Master_L0 x3 x8 n z0 z1).run = d_law00_Master_L0 x3 x8 n z0 z1
  | 0, _, _ => rfl
  | n + 1, z0, z1 => by
    simp only [t_law00_Master_L0, d_law00_Master_L0, T.rs, T_ixInt_ok, t_law00_Master_L0_ok x3 x8 n]
def t_law00_Master_L2 (x3 : Int) (x8 : Int) (y2_1 : Int) : Nat → Int → (List Int) → (List Int) → T An ((List Int) × (List Int))
  | 0, _, _, _ => T.fail
  | n + 1, y3_3, y3_4, y3_5 =>
    T.ask (decide (y3_3 < x8)) fun x31 =>
    cond x31 (T.wr (x3.tdiv 168) fun x32 =>
    T.wr (x32 + y3_3) fun x33 =>
    T.wr (x3.tdiv 672) fun x34 =>
    T.bnd (x34.tmod 4) fun x35 =>
    T.wr (y2_1 * x35) fun x36 =>
    T.wr (x33 + x36) fun x37 =>
    T.bnd (x37.tmod 4) fun x38 =>
    T.wr (1 + x38) fun x39 =>
    T.bnd (y3_4 ++ ([x39] : List Int)) fun x40 =>
    T.asrt (x40.length ≤ 68719476736) <|
    T.wr (x3.tdiv 2688) fun x43 =>
    T.wr (7 * y3_3) fun x44 =>
    T.wr (x43 + x44) fun x45 =>
    T.wr (x45 + y2_1) fun x46 =>
    T.bnd (x46.tmod 40) fun x47 =>
    T.bnd (y3_5 ++ ([x47] : List Int)) fun x48 =>
    T.asrt (x48.length ≤ 68719476736) <|
    T.wr (y3_3 + 1) fun x51 =>
    t_law00_Master_L2 x3 x8 y2_1 n (x51 : Int) x40 x48) (T.ret (y3_4, y3_5))
theorem t_law00_Master_L2_ok (x3 : Int) (x8 : Int) (y2_1 : Int) : ∀ (n : Nat) (z0 : Int) (z1 : (List Int)) (z2 : (List Int)), (t_law00_Master_L2 x3 x8 y2_1 n z0 z1 z2).run = d_law00_Master_L2 x3 x8 y2_1 n z0 z1 z2
  | 0, _, _, _ => rfl
  | n + 1, z0, z1, z2 => by
    simp only [t_law00_Master_L2, d_law00_Master_L2, T.rs, T_ixInt_ok, t_law00_Master_L2_ok x3 x8 y2_1 n]
def t_law00_Master_L1 (x3 : Int) (x5 : Int) (x8 : Int) : Nat → Int → (List (List Int)) → (List (List Int)) → T An ((List (List Int)) × (List (List Int)))
  | 0, _, _, _ => T.fail
  | n + 1, y2_1, y2_4, y2_5 =>
    T.ask (decide (y2_1 < x5)) fun x26 =>
    cond x26 ((show T An ((List (List Int)) × (List (List Int))) from
    (show T An ((List Int) × (List Int)) from
    t_law00_Master_L2 x3 x8 y2_1 n (0 : Int) (([] : List Int) : List Int) (([] : List Int) : List Int)).bind <| p2 fun y4_3 y4_4 =>
    T.bnd (y2_4 ++ [y4_3]) fun x52 =>
    T.asrt (x52.length ≤ 68719476736) <|
    T.bnd (y2_5 ++ [y4_4]) fun x55 =>
    T.asrt (x55.length ≤ 68719476736) <|
    T.ret ((x52 : List (List Int)), (x55 : List (List Int)))).bind <| p2 fun (y5_3 : List (List Int)) (y5_4 : List (List Int)) =>
    T.wr (y2_1 + 1) fun x58 =>
    t_law00_Master_L1 x3 x5 x8 n (x58 : Int) (y5_3 : List (List Int)) (y5_4 : List (List Int))) (T.ret ((y2_4 : List (List Int)), (y2_5 : List (List Int))))
theorem t_law00_Master_L1_ok (x3 : Int) (x5 : Int) (x8 : Int) : ∀ (n : Nat) (z0 : Int) (z1 : (List (List Int))) (z2 : (List (List Int))), (t_law00_Master_L1 x3 x5 x8 n z0 z1 z2).run = d_law00_Master_L1 x3 x5 x8 n z0 z1 z2
  | 0, _, _, _ => rfl
  | n + 1, z0, z1, z2 => by
    simp only [t_law00_Master_L1, d_law00_Master_L1, T.rs, T_ixInt_ok, t_law00_Master_L2_ok, t_law00_Master_L1_ok x3 x5 x8 n]
def t_law00_Master (n : Nat) (a1 : Int) : T An (GMaster) :=
(t_law00_Place a1 1073741824).bind fun x3 =>
T.bnd (x3.tmod 2) fun x4 =>
T.wr (2 + x4) fun x5 =>
T.wr (x3.tdiv 2) fun x6 =>
T.bnd (x6.tmod 3) fun x7 =>
T.wr (2 + x7) fun x8 =>
T.wr (x3.tdiv 6) fun x9 =>
T.bnd (x9.tmod 4) fun x10 =>
T.wr (1 + x10) fun x11 =>
(show T An ((List Int)) from
t_law00_Master_L0 x3 x8 n (0 : Int) (([] : List Int) : List Int)).bind <| fun y1_2 =>
(show T An ((List (List Int)) × (List (List Int))) from
t_law00_Master_L1 x3 x5 x8 n (0 : Int) (([] : List (List Int)) : List (List Int)) (([] : List (List Int)) : List (List Int))).bind <| p2 fun (y6_3 : List (List Int)) (y6_4 : List (List Int)) =>
T.ret (((⟨x5, x11, y1_2, y6_3, y6_4⟩ : GMaster) : GMaster))
theorem t_law00_Master_ok (n : Nat) (a1 : Int) : (t_law00_Master n a1).run = d_law00_Master n a1 := by
  simp only [t_law00_Master, d_law00_Master, T.rs, T_ixInt_ok, t_law00_Master_L0_ok, t_law00_Master_L1_ok, t_law00_Place_ok]
def t_law00_Ops_L0 (a2 : List Int) : Nat → T An (Unit)
  | 0 => T.fail
  | n + 1 =>
    (show T An (Bool) from
    T.ask (decide (0 < (a2.length : Int))) fun x6 =>
    cond x6 (T.ret true) (T.ret false)).bind <| fun y1_1 =>
    T.asrt (y1_1 = false) <|
    T.ret ()
theorem t_law00_Ops_L0_ok (a2 : List Int) : ∀ (n : Nat), (t_law00_Ops_L0 a2 n ).run = d_law00_Ops_L0 a2 n 
  | 0 => rfl
  | n + 1 => by
    simp only [t_law00_Ops_L0, d_law00_Ops_L0, T.rs, T_ixInt_ok, t_law00_Ops_L0_ok a2 n]
def t_law00_Ops (n : Nat) (a1 : GMaster) (a2 : List Int) : T An ((List GOp)) :=
(show T An (Unit) from
t_law00_Ops_L0 a2 n).bind <| fun _ =>
T.ret (([] : List GOp))
theorem t_law00_Ops_ok (n : Nat) (a1 : GMaster) (a2 : List Int) : (t_law00_Ops n a1 a2).run = d_law00_Ops n a1 a2 := by
  simp only [t_law00_Ops, d_law00_Ops, T.rs, T_ixInt_ok, t_law00_Ops_L0_ok]
def t_law00_State_L0 (x7 : (List GOp)) : Nat → T An (Unit)
  | 0 => T.fail
  | n + 1 =>
    T.ask (decide (0 < (x7.length : Int))) fun x9 =>
    T.asrt (x9 = false) <|
    T.ret ()
theorem t_law00_State_L0_ok (x7 : (List GOp)) : ∀ (n : Nat), (t_law00_State_L0 x7 n ).run = d_law00_State_L0 x7 n 
  | 0 => rfl
  | n + 1 => by
    simp only [t_law00_State_L0, d_law00_State_L0, T.rs, T_ixInt_ok, t_law00_State_L0_ok x7 n]
def t_law00_State (n : Nat) (a1 : GMaster) (a2 : List Int) : T An (GState) :=
(t_ref04_Start n a1).bind fun x5 =>
(t_law00_Ops n a1 a2).bind fun x7 =>
(show T An (Unit) from
t_law00_State_L0 x7 n).bind <| fun _ =>
T.ret (x5.1)
theorem t_law00_State_ok (n : Nat) (a1 : GMaster) (a2 : List Int) : (t_law00_State n a1 a2).run = d_law00_State n a1 a2 := by
  simp only [t_law00_State, d_law00_State, T.rs, T_ixInt_ok, t_law00_Ops_ok, t_law00_State_L0_ok, t_ref04_Start_ok]
def t_close_Reopen_L0 (a1 : GState) (a2 : Int) (x17 : GEnt) : Nat → Int → T An (Unit)
  | 0, _ => T.fail
  | n + 1, y1_1 =>
    T.ask (decide (y1_1 < (a1.Sales.length : Int))) fun x20 =>
    cond x20 ((T.ix a1.Sales y1_1).bind fun x21 =>
    (t_close_waits x21 a2 (x17.Now)).bind fun x23 =>
    T.asrt (x23 = false) <|
    T.wr (y1_1 + 1) fun x24 =>
    t_close_Reopen_L0 a1 a2 x17 n (x24 : Int)) (T.ret ())
theorem t_close_Reopen_L0_ok (a1 : GState) (a2 : Int) (x17 : GEnt) : ∀ (n : Nat) (z0 : Int), (t_close_Reopen_L0 a1 a2 x17 n z0).run = d_close_Reopen_L0 a1 a2 x17 n z0
  | 0, _ => rfl
  | n + 1, z0 => by
    simp only [t_close_Reopen_L0, d_close_Reopen_L0, T.rs, T_ixInt_ok, t_close_waits_ok, t_close_Reopen_L0_ok a1 a2 x17 n]
def t_close_Reopen (n : Nat) (a1 : GState) (a2 : Int) : T An (GState × Int) :=
(t_close_is a1 a2).bind fun x5 =>
T.bnd (!x5) fun x6 =>
T.asrt (x6 = false) <|
(show T An (Bool) from
(T.ix a1.Ents a2).bind fun x8 =>
T.bnd (!x8.Closed) fun x9 =>
cond x9 (T.ret true) ((T.ix a1.Ents a2).bind fun x10 =>
T.ask (decide ((x10.Ahead.length : Int) ≠ 1)) fun x11 =>
T.ret x11)).bind <| fun y0_1 =>
T.asrt (y0_1 = false) <|
T.asrt (a1.Ents.length ≤ 68719476736) <|
T.asrt (a1.Sales.length ≤ 68719476736) <|
(T.ix a1.Ents a2).bind fun x16 =>
(T.ix x16.Ahead 0).bind fun x17 =>
T.bnd (a1.Ents.set (Int.toNat a2) x17) fun x18 =>
(show T An (Unit) from
t_close_Reopen_L0 a1 a2 x17 n (0 : Int)).bind <| fun _ =>
T.ret (((⟨a1.Master, x18, a1.Receipts, a1.Sales, a1.Transits, a1.Done⟩ : GState) : GState), (0 : Int))
theorem t_close_Reopen_ok (n : Nat) (a1 : GState) (a2 : Int) : (t_close_Reopen n a1 a2).run = d_close_Reopen n a1 a2 := by
  simp only [t_close_Reopen, d_close_Reopen, T.rs, T_ixInt_ok, t_close_Reopen_L0_ok, t_close_is_ok]
def t_ref04_SameInts_L0 (a1 : List Int) (a2 : List Int) : Nat → Int → T An (Unit)
  | 0, _ => T.fail
  | n + 1, y0_1 =>
    T.ask (decide (y0_1 < (a1.length : Int))) fun x5 =>
    cond x5 ((T_ixInt a1 y0_1).bind fun x6 =>
    (T_ixInt a2 y0_1).bind fun x7 =>
    T.ask (decide (x6 ≠ x7)) fun x8 =>
    T.asrt (x8 = false) <|
    T.wr (y0_1 + 1) fun x9 =>
    t_ref04_SameInts_L0 a1 a2 n (x9 : Int)) (T.ret ())
theorem t_ref04_SameInts_L0_ok (a1 : List Int) (a2 : List Int) : ∀ (n : Nat) (z0 : Int), (t_ref04_SameInts_L0 a1 a2 n z0).run = d_ref04_SameInts_L0 a1 a2 n z0
  | 0, _ => rfl
  | n + 1, z0 => by
    simp only [t_ref04_SameInts_L0, d_ref04_SameInts_L0, T.rs, T_ixInt_ok, t_ref04_SameInts_L0_ok a1 a2 n]
def t_ref04_SameInts (n : Nat) (a1 : List Int) (a2 : List Int) : T An (Bool) :=
T.ask (decide ((a1.length : Int) ≠ (a2.length : Int))) fun x3 =>
T.asrt (x3 = false) <|
(show T An (Unit) from
t_ref04_SameInts_L0 a1 a2 n (0 : Int)).bind <| fun _ =>
T.ret (true)
theorem t_ref04_SameInts_ok (n : Nat) (a1 : List Int) (a2 : List Int) : (t_ref04_SameInts n a1 a2).run = d_ref04_SameInts n a1 a2 := by
  simp only [t_ref04_SameInts, d_ref04_SameInts, T.rs, T_ixInt_ok, t_ref04_SameInts_L0_ok]
def t_ref04_sameLists_L0 (a1 : List (List Int)) (a2 : List (List Int)) : Nat → Int → T An (Unit)
  | 0, _ => T.fail
  | n + 1, y0_1 =>
    T.ask (decide (y0_1 < (a1.length : Int))) fun x5 =>
    cond x5 ((T.ix a1 y0_1).bind fun x6 =>
    (T.ix a2 y0_1).bind fun x7 =>
    (t_ref04_SameInts n x6 x7).bind fun x8 =>
    T.bnd (!x8) fun x9 =>
    T.asrt (x9 = false) <|
    T.wr (y0_1 + 1) fun x10 =>
    t_ref04_sameLists_L0 a1 a2 n (x10 : Int)) (T.ret ())
theorem t_ref04_sameLists_L0_ok (a1 : List (List Int)) (a2 : List (List Int)) : ∀ (n : Nat) (z0 : Int), (t_ref04_sameLists_L0 a1 a2 n z0).run = d_ref04_sameLists_L0 a1 a2 n z0
  | 0, _ => rfl
  | n + 1, z0 => by
    simp only [t_ref04_sameLists_L0, d_ref04_sameLists_L0, T.rs, T_ixInt_ok, t_ref04_SameInts_ok, t_ref04_sameLists_L0_ok a1 a2 n]
def t_ref04_sameLists (n : Nat) (a1 : List (List Int)) (a2 : List (List Int)) : T An (Bool) :=
T.ask (decide ((a1.length : Int) ≠ (a2.length : Int))) fun x3 =>
T.asrt (x3 = false) <|
(show T An (Unit) from
t_ref04_sameLists_L0 a1 a2 n (0 : Int)).bind <| fun _ =>
T.ret (true)
theorem t_ref04_sameLists_ok (n : Nat) (a1 : List (List Int)) (a2 : List (List Int)) : (t_ref04_sameLists n a1 a2).run = d_ref04_sameLists n a1 a2 := by
  simp only [t_ref04_sameLists, d_ref04_sameLists, T.rs, T_ixInt_ok, t_ref04_sameLists_L0_ok]
def t_ref04_Same (n : Nat) (a1 : GMaster) (a2 : GMaster) : T An (Bool) :=
(show T An (Bool) from
T.ask (decide (a1.Entities = a2.Entities)) fun x6 =>
cond x6 (T.ask (decide (a1.Periods = a2.Periods)) fun x7 =>
cond x7 ((t_ref04_SameInts n a1.Weights a2.Weights).bind fun x8 =>
cond x8 ((t_ref04_sameLists n a1.Methods a2.Methods).bind fun x9 =>
cond x9 ((t_ref04_sameLists n a1.Costs a2.Costs).bind fun x10 =>
T.ret x10) (T.ret false)) (T.ret false)) (T.ret false)) (T.ret false)).bind <| fun y0_1 =>
T.ret (y0_1)
theorem t_ref04_Same_ok (n : Nat) (a1 : GMaster) (a2 : GMaster) : (t_ref04_Same n a1 a2).run = d_ref04_Same n a1 a2 := by
  simp only [t_ref04_Same, d_ref04_Same, T.rs, T_ixInt_ok, t_ref04_SameInts_ok, t_ref04_sameLists_ok]
def t_ref14_samePapers_L0 (a1 : GState) : Nat → T An (Unit)
  | 0 => T.fail
  | n + 1 =>
    T.ask (decide (0 < (a1.Receipts.length : Int))) fun x10 =>
    T.asrt (x10 = false) <|
    T.ret ()
theorem t_ref14_samePapers_L0_ok (a1 : GState) : ∀ (n : Nat), (t_ref14_samePapers_L0 a1 n ).run = d_ref14_samePapers_L0 a1 n 
  | 0 => rfl
  | n + 1 => by
    simp only [t_ref14_samePapers_L0, d_ref14_samePapers_L0, T.rs, T_ixInt_ok, t_ref14_samePapers_L0_ok a1 n]
def t_ref14_samePapers_L1 (a1 : GState) : Nat → T An (Unit)
  | 0 => T.fail
  | n + 1 =>
    T.ask (decide (0 < (a1.Sales.length : Int))) fun x12 =>
    T.asrt (x12 = false) <|
    T.ret ()
theorem t_ref14_samePapers_L1_ok (a1 : GState) : ∀ (n : Nat), (t_ref14_samePapers_L1 a1 n ).run = d_ref14_samePapers_L1 a1 n 
  | 0 => rfl
  | n + 1 => by
    simp only [t_ref14_samePapers_L1, d_ref14_samePapers_L1, T.rs, T_ixInt_ok, t_ref14_samePapers_L1_ok a1 n]
def t_ref14_samePapers_L2 (a1 : GState) : Nat → T An (Unit)
  | 0 => T.fail
  | n + 1 =>
    T.ask (decide (0 < (a1.Transits.length : Int))) fun x14 =>
    T.asrt (x14 = false) <|
    T.ret ()
theorem t_ref14_samePapers_L2_ok (a1 : GState) : ∀ (n : Nat), (t_ref14_samePapers_L2 a1 n ).run = d_ref14_samePapers_L2 a1 n 
  | 0 => rfl
  | n + 1 => by
    simp only [t_ref14_samePapers_L2, d_ref14_samePapers_L2, T.rs, T_ixInt_ok, t_ref14_samePapers_L2_ok a1 n]
def t_ref14_samePapers (n : Nat) (a1 : GState) (a2 : GState) : T An (Bool) :=
(show T An (Bool) from
T.ask (decide ((a1.Receipts.length : Int) ≠ (a2.Receipts.length : Int))) fun x6 =>
cond x6 (T.ret true) (T.ask (decide ((a1.Sales.length : Int) ≠ (a2.Sales.length : Int))) fun x7 =>
cond x7 (T.ret true) (T.ask (decide ((a1.Transits.length : Int) ≠ (a2.Transits.length : Int))) fun x8 =>
T.ret x8))).bind <| fun y0_1 =>
T.asrt (y0_1 = false) <|
(show T An (Unit) from
t_ref14_samePapers_L0 a1 n).bind <| fun _ =>
(show T An (Unit) from
t_ref14_samePapers_L1 a1 n).bind <| fun _ =>
(show T An (Unit) from
t_ref14_samePapers_L2 a1 n).bind <| fun _ =>
T.ret (true)
theorem t_ref14_samePapers_ok (n : Nat) (a1 : GState) (a2 : GState) : (t_ref14_samePapers n a1 a2).run = d_ref14_samePapers n a1 a2 := by
  simp only [t_ref14_samePapers, d_ref14_samePapers, T.rs, T_ixInt_ok, t_ref14_samePapers_L0_ok, t_ref14_samePapers_L1_ok, t_ref14_samePapers_L2_ok]
def t_ref14_sameEnt (a0 : Nat) (a1 : GEnt) (a2 : GEnt) : T An (Bool) := T.ofO (d_ref14_sameEnt a0 a1 a2)
theorem t_ref14_sameEnt_ok (a0 : Nat) (a1 : GEnt) (a2 : GEnt) : (t_ref14_sameEnt a0 a1 a2).run = d_ref14_sameEnt a0 a1 a2 := T.rPP _
def t_ref14_Same_L0 (a1 : GState) (a2 : GState) : Nat → Int → T An (Unit)
  | 0, _ => T.fail
  | n + 1, y1_1 =>
    T.ask (decide (y1_1 < (a1.Ents.length : Int))) fun x13 =>
    cond x13 ((T.ix a1.Ents y1_1).bind fun x14 =>
    (T.ix a2.Ents y1_1).bind fun x15 =>
    (t_ref14_sameEnt n x14 x15).bind fun x16 =>
    T.bnd (!x16) fun x17 =>
    T.asrt (x17 = false) <|
    T.wr (y1_1 + 1) fun x18 =>
    t_ref14_Same_L0 a1 a2 n (x18 : Int)) (T.ret ())
theorem t_ref14_Same_L0_ok (a1 : GState) (a2 : GState) : ∀ (n : Nat) (z0 : Int), (t_ref14_Same_L0 a1 a2 n z0).run = d_ref14_Same_L0 a1 a2 n z0
  | 0, _ => rfl
  | n + 1, z0 => by
    simp only [t_ref14_Same_L0, d_ref14_Same_L0, T.rs, T_ixInt_ok, t_ref14_sameEnt_ok, t_ref14_Same_L0_ok a1 a2 n]
def t_ref14_Same (n : Nat) (a1 : GState) (a2 : GState) : T An (Bool) :=
(show T An (Bool) from
(t_ref04_Same n a1.Master a2.Master).bind fun x6 =>
T.bnd (!x6) fun x7 =>
cond x7 (T.ret true) (T.ask (decide ((a1.Ents.length : Int) ≠ (a2.Ents.length : Int))) fun x8 =>
cond x8 (T.ret true) (T.ask (decide (a1.Done ≠ a2.Done)) fun x9 =>
cond x9 (T.ret true) ((t_ref14_samePapers n a1 a2).bind fun x10 =>
T.bnd (!x10) fun x11 =>
T.ret x11)))).bind <| fun y0_1 =>
T.asrt (y0_1 = false) <|
(show T An (Unit) from
t_ref14_Same_L0 a1 a2 n (0 : Int)).bind <| fun _ =>
T.ret (true)
theorem t_ref14_Same_ok (n : Nat) (a1 : GState) (a2 : GState) : (t_ref14_Same n a1 a2).run = d_ref14_Same n a1 a2 := by
  simp only [t_ref14_Same, d_ref14_Same, T.rs, T_ixInt_ok, t_ref04_Same_ok, t_ref14_Same_L0_ok, t_ref14_samePapers_ok]
def t_law23_awake (n : Nat)  : T An (Bool) :=
(t_law00_Master n 6).bind fun x1 =>
(t_law00_State n x1 []).bind fun x2 =>
(t_close_Close n x2 0).bind fun x4 =>
(t_close_Close n x4.1 0).bind fun x6 =>
(t_close_Reopen n x4.1 0).bind fun x8 =>
(t_close_Next n x4.1 0).bind fun x10 =>
(t_close_Next n x8.1 0).bind fun x12 =>
(show T An (Bool) from
T.ask (decide (x4.2 = 0)) fun x15 =>
cond x15 (T.ask (decide (x6.2 = 7)) fun x16 =>
cond x16 (T.ask (decide (x8.2 = 0)) fun x17 =>
cond x17 ((t_ref14_Same n x8.1 x2).bind fun x18 =>
cond x18 (T.ask (decide (x10.2 = 0)) fun x19 =>
cond x19 (T.ask (decide ((x10.1.Ents.length : Int) = 2)) fun x20 =>
cond x20 ((T.ix x10.1.Ents 0).bind fun x21 =>
T.ask (decide (x21.Now = 2)) fun x22 =>
cond x22 ((T.ix x10.1.Ents 0).bind fun x23 =>
T.bnd (!x23.Closed) fun x24 =>
cond x24 (T.ask (decide (x12.2 = 8)) fun x25 =>
T.ret x25) (T.ret false)) (T.ret false)) (T.ret false)) (T.ret false)) (T.ret false)) (T.ret false)) (T.ret false)) (T.ret false)).bind <| fun y0_1 =>
T.ret (y0_1)
theorem t_law23_awake_ok (n : Nat) : (t_law23_awake n).run = d_law23_awake n := by
  simp only [t_law23_awake, d_law23_awake, T.rs, T_ixInt_ok, t_close_Close_ok, t_close_Next_ok, t_close_Reopen_ok, t_law00_Master_ok, t_law00_State_ok, t_ref14_Same_ok]
def t_law23_CloseReturns_L0 (x4 : Int) (x5 : Int) (x7 : Int) : Nat → Int → GState → T An (GState)
  | 0, _, _ => T.fail
  | n + 1, y0_1, y0_2 =>
    T.ask (decide (y0_1 < 6)) fun x12 =>
    cond x12 ((T.ix ([(⟨1, 0, 0, 0, 0, 10, x4, 0, []⟩ : GOp), (⟨1, 0, 0, 0, 0, 10, x5, 0, []⟩ : GOp), (⟨4, 0, 0, 0, 0, x7, 5, 0, []⟩ : GOp), (⟨14, 0, 0, 0, 0, 0, 0, 0, []⟩ : GOp), (⟨16, 0, 0, 0, 0, 0, 0, 0, []⟩ : GOp), (⟨5, 0, 0, 0, 0, x7, 5, 0, []⟩ : GOp)] : List GOp) y0_1).bind fun x13 =>
    (t_close_Step n y0_2 x13).bind fun x15 =>
    T.ask (decide (x15.2 ≠ 0)) fun x17 =>
    T.asrt (x17 = false) <|
    T.wr (y0_1 + 1) fun x18 =>
    t_law23_CloseReturns_L0 x4 x5 x7 n (x18 : Int) x15.1) (T.ret y0_2)
theorem t_law23_CloseReturns_L0_ok (x4 : Int) (x5 : Int) (x7 : Int) : ∀ (n : Nat) (z0 : Int) (z1 : GState), (t_law23_CloseReturns_L0 x4 x5 x7 n z0 z1).run = d_law23_CloseReturns_L0 x4 x5 x7 n z0 z1
  | 0, _, _ => rfl
  | n + 1, z0, z1 => by
    simp only [t_law23_CloseReturns_L0, d_law23_CloseReturns_L0, T.rs, T_ixInt_ok, t_close_Step_ok, t_law23_CloseReturns_L0_ok x4 x5 x7 n]
def t_law23_CloseReturns (n : Nat) (a1 : Int) (a2 : Int) (a3 : Int) : T An (Bool) :=
(t_law00_Place a1 1000).bind fun x4 =>
(t_law00_Place a2 1000).bind fun x5 =>
(t_law00_Place a3 20).bind fun x6 =>
T.wr (1 + x6) fun x7 =>
(t_ref04_Start n (⟨1, 2, ([1] : List Int), ([([3] : List Int)] : List (List Int)), ([([0] : List Int)] : List (List Int))⟩ : GMaster)).bind fun x9 =>
(show T An (GState) from
t_law23_CloseReturns_L0 x4 x5 x7 n (0 : Int) x9.1).bind <| fun y1_1 =>
(t_ref14_Worth n y1_1 0 0).bind fun x19 =>
(show T An (Bool) from
T.ask (decide ((y1_1.Ents.length : Int) = 1)) fun x22 =>
cond x22 (T.ask (decide (x19.Qty = 20)) fun x23 =>
cond x23 (T.wr (x4 + x5) fun x24 =>
T.ask (decide (x19.Value = x24)) fun x25 =>
cond x25 ((T.ix y1_1.Ents 0).bind fun x26 =>
(T_ixInt x26.Bal 5).bind fun x27 =>
T.ask (decide (x27 = 0)) fun x28 =>
cond x28 ((T.ix y1_1.Ents 0).bind fun x29 =>
(T.ix x29.Rolls 0).bind fun x30 =>
T.wr (x4 + x5) fun x31 =>
T.wr (x31 * x7) fun x32 =>
T.wr (x32.tdiv 20) fun x33 =>
T.ask (decide (x30.Returned = x33)) fun x34 =>
cond x34 ((T.ix y1_1.Ents 0).bind fun x35 =>
(T.ix x35.Rolls 0).bind fun x36 =>
T.wr (x4 + x5) fun x37 =>
T.wr (x4 + x5) fun x38 =>
T.wr (x38 * x7) fun x39 =>
T.wr (x39.tdiv 20) fun x40 =>
T.wr (x37 - x40) fun x41 =>
T.ask (decide (x36.Open = x41)) fun x42 =>
cond x42 ((t_law23_awake n).bind fun x43 =>
T.ret x43) (T.ret false)) (T.ret false)) (T.ret false)) (T.ret false)) (T.ret false)) (T.ret false)).bind <| fun y2_1 =>
T.ret (y2_1)
theorem t_law23_CloseReturns_ok (n : Nat) (a1 : Int) (a2 : Int) (a3 : Int) : (t_law23_CloseReturns n a1 a2 a3).run = d_law23_CloseReturns n a1 a2 a3 := by
  simp only [t_law23_CloseReturns, d_law23_CloseReturns, T.rs, T_ixInt_ok, t_law00_Place_ok, t_law23_CloseReturns_L0_ok, t_law23_awake_ok, t_ref04_Start_ok, t_ref14_Worth_ok]
end Go.Pv
