/- The plain readings as trees. -/
import Derived.Test.YtppokdmifjmdfaaGreatK13d
import Derived.Test.YtppokdmifjmdfaaGreatPlT
set_option linter.unusedSimpArgs false
set_option linter.unusedVariables false
namespace Go.Pv
open Go.Proofs
set_option maxRecDepth 100000
set_option maxHeartbeats 4000000
inductive An where
  | i (v : Int × Int × Int)
  | z (v : Int)
  | k2 (v : GEnt)
  | k3 (v : GRoll)
  | k4 (v : GTransit)
  | k5 (v : List Int)
  | k6 (v : GLayer × Int)
  | k7 (v : (List GLayer) × Int)
  | k8 (v : Bool)
  | k9 (v : GState × Int × Int × Int)
  | k10 (v : GState × Int)
  | k11 (v : GState × GLayer × Bool × Int)
  | k12 (v : GLayer)
  | k13 (v : (Int × GState) ⊕ ((Int × Int × GState) ⊕ ((GState) ⊕ (Bool))))
def An.gi : An → Option (Int × Int × Int)
  | .i v => some v
  | _ => none
def An.gz : An → Option (Int)
  | .z v => some v
  | _ => none
def An.gk2 : An → Option (GEnt)
  | .k2 v => some v
  | _ => none
def An.gk3 : An → Option (GRoll)
  | .k3 v => some v
  | _ => none
def An.gk4 : An → Option (GTransit)
  | .k4 v => some v
  | _ => none
def An.gk5 : An → Option (List Int)
  | .k5 v => some v
  | _ => none
def An.gk6 : An → Option (GLayer × Int)
  | .k6 v => some v
  | _ => none
def An.gk7 : An → Option ((List GLayer) × Int)
  | .k7 v => some v
  | _ => none
def An.gk8 : An → Option (Bool)
  | .k8 v => some v
  | _ => none
def An.gk9 : An → Option (GState × Int × Int × Int)
  | .k9 v => some v
  | _ => none
def An.gk10 : An → Option (GState × Int)
  | .k10 v => some v
  | _ => none
def An.gk11 : An → Option (GState × GLayer × Bool × Int)
  | .k11 v => some v
  | _ => none
def An.gk12 : An → Option (GLayer)
  | .k12 v => some v
  | _ => none
def An.gk13 : An → Option ((Int × GState) ⊕ ((Int × Int × GState) ⊕ ((GState) ⊕ (Bool))))
  | .k13 v => some v
  | _ => none
def T_ixGEnt (l : List GEnt) (i : Int) : T An GEnt := T.opx An.k2 An.gk2 (ix l i)
theorem T_ixGEnt_ok (l : List GEnt) (i : Int) : (T_ixGEnt l i).run = ix l i := T.run_opx (f := An.k2) (g := An.gk2) (fun _ => rfl) _
def T_ixGRoll (l : List GRoll) (i : Int) : T An GRoll := T.opx An.k3 An.gk3 (ix l i)
theorem T_ixGRoll_ok (l : List GRoll) (i : Int) : (T_ixGRoll l i).run = ix l i := T.run_opx (f := An.k3) (g := An.gk3) (fun _ => rfl) _
def T_ixGTransit (l : List GTransit) (i : Int) : T An GTransit := T.opx An.k4 An.gk4 (ix l i)
theorem T_ixGTransit_ok (l : List GTransit) (i : Int) : (T_ixGTransit l i).run = ix l i := T.run_opx (f := An.k4) (g := An.gk4) (fun _ => rfl) _
def T_ixInt (l : List Int) (i : Int) : T An Int := T.opx An.z An.gz (ix l i)
theorem T_ixInt_ok (l : List Int) (i : Int) : (T_ixInt l i).run = ix l i := T.run_opx (f := An.z) (g := An.gz) (fun _ => rfl) _
def T_ixListInt (l : List (List Int)) (i : Int) : T An (List Int) := T.opx An.k5 An.gk5 (ix l i)
theorem T_ixListInt_ok (l : List (List Int)) (i : Int) : (T_ixListInt l i).run = ix l i := T.run_opx (f := An.k5) (g := An.gk5) (fun _ => rfl) _
def t_law00_Place (a1 : Int) (a2 : Int) : T An (Int) := T.opx An.z An.gz (d_law00_Place a1 a2)
theorem t_law00_Place_ok (a1 : Int) (a2 : Int) : (t_law00_Place a1 a2).run = d_law00_Place a1 a2 := T.run_opx (f := An.z) (g := An.gz) (fun _ => rfl) _
def t_law20_start (n : Nat) : T An (GState) := T.ofO (d_law20_start n)
theorem t_law20_start_ok (n : Nat) : (t_law20_start n).run = d_law20_start n := T.rPP _
def t_ref14_to (a1 : Int) (a2 : Int) : T An (Bool) :=
(show T An (Bool) from
T.ask (decide (a1 ≥ 0)) fun x4 =>
cond x4 (T.ask (decide (a1 ≤ a2)) fun x5 =>
T.ret x5) (T.ret false)).bind <| fun y0_1 =>
T.ret (y0_1)
theorem t_ref14_to_ok (a1 : Int) (a2 : Int) : (t_ref14_to a1 a2).run = d_ref14_to a1 a2 := by
  simp only [t_ref14_to, d_ref14_to, T.rs, T_ixGEnt_ok, T_ixGRoll_ok, T_ixGTransit_ok, T_ixInt_ok, T_ixListInt_ok]
def t_ref14_there (a1 : GState) (a2 : Int) (a3 : Int) : T An (Bool) :=
(show T An (Bool) from
T.wr ((a1.Ents.length : Int) - 1) fun x6 =>
(t_ref14_to a2 x6).bind fun x7 =>
cond x7 (T.wr ((a1.Master.Weights.length : Int) - 1) fun x8 =>
(t_ref14_to a3 x8).bind fun x9 =>
T.ret x9) (T.ret false)).bind <| fun y0_1 =>
T.ret (y0_1)
theorem t_ref14_there_ok (a1 : GState) (a2 : Int) (a3 : Int) : (t_ref14_there a1 a2 a3).run = d_ref14_there a1 a2 a3 := by
  simp only [t_ref14_there, d_ref14_there, T.rs, T_ixGEnt_ok, T_ixGRoll_ok, T_ixGTransit_ok, T_ixInt_ok, T_ixListInt_ok, t_ref14_to_ok]
def t_ref14_Ready (a1 : GState) (a2 : Int) (a3 : Int) : T An (Int) :=
(t_ref14_there a1 a2 a3).bind fun x5 =>
T.bnd (!x5) fun x6 =>
cond x6 (T.ret ((4 : Int))) ((T_ixGEnt a1.Ents a2).bind fun x7 =>
T.bnd (x7.Closed) fun x8 =>
cond x8 (T.ret ((7 : Int))) (T.ret ((0 : Int))))
theorem t_ref14_Ready_ok (a1 : GState) (a2 : Int) (a3 : Int) : (t_ref14_Ready a1 a2 a3).run = d_ref14_Ready a1 a2 a3 := by
  simp only [t_ref14_Ready, d_ref14_Ready, T.rs, T_ixGEnt_ok, T_ixGRoll_ok, T_ixGTransit_ok, T_ixInt_ok, T_ixListInt_ok, t_ref14_there_ok]
def t_ref14_At (a1 : GState) (a2 : Int) (a3 : Int) (a4 : Int) : T An (GPool) :=
(show T An (Bool) from
(t_ref14_there a1 a2 a3).bind fun x8 =>
T.bnd (!x8) fun x9 =>
cond x9 (T.ret true) ((t_ref14_to a4 1).bind fun x10 =>
T.bnd (!x10) fun x11 =>
cond x11 (T.ret true) (T.wr (a3 * 2) fun x12 =>
T.wr (x12 + a4) fun x13 =>
(T_ixGEnt a1.Ents a2).bind fun x14 =>
T.ask (decide (x13 ≥ (x14.Pools.length : Int))) fun x15 =>
T.ret x15))).bind <| fun y0_1 =>
cond y0_1 (T.ret (((⟨[], (⟨0, 0, 0⟩ : A3_Int)⟩ : GPool) : GPool))) ((T_ixGEnt a1.Ents a2).bind fun x16 =>
T.wr (a3 * 2) fun x17 =>
T.wr (x17 + a4) fun x18 =>
(T.ix x16.Pools x18).bind fun x19 =>
T.ret (x19))
theorem t_ref14_At_ok (a1 : GState) (a2 : Int) (a3 : Int) (a4 : Int) : (t_ref14_At a1 a2 a3 a4).run = d_ref14_At a1 a2 a3 a4 := by
  simp only [t_ref14_At, d_ref14_At, T.rs, T_ixGEnt_ok, T_ixGRoll_ok, T_ixGTransit_ok, T_ixInt_ok, T_ixListInt_ok, t_ref14_there_ok, t_ref14_to_ok]
def t_ref01_MulDiv (n : Nat) (a1 : Int) (a2 : Int) (a3 : Int) : T An (Int × Int × Int) := T.opx An.i An.gi (d_ref01_MulDiv n a1 a2 a3)
theorem t_ref01_MulDiv_ok (n : Nat) (a1 : Int) (a2 : Int) (a3 : Int) : (t_ref01_MulDiv n a1 a2 a3).run = d_ref01_MulDiv n a1 a2 a3 := T.run_opx (f := An.i) (g := An.gi) (fun _ => rfl) _
def t_ref12_worth (n : Nat) (a1 : Int) (a2 : Int) : T An (Int × Bool) :=
(t_ref01_MulDiv n a1 a2 1).bind fun x3 =>
T.ask (decide (x3.2.2 = 0)) fun x4 =>
T.ret ((x3.1 : Int), x4)
theorem t_ref12_worth_ok (n : Nat) (a1 : Int) (a2 : Int) : (t_ref12_worth n a1 a2).run = d_ref12_worth n a1 a2 := by
  simp only [t_ref12_worth, d_ref12_worth, T.rs, T_ixGEnt_ok, T_ixGRoll_ok, T_ixGTransit_ok, T_ixInt_ok, T_ixListInt_ok, t_ref01_MulDiv_ok]
def t_ref01_In (a1 : Int) : T An (Bool) :=
(show T An (Bool) from
T.ask (decide (a1 ≥ (-288230376151711744))) fun x3 =>
cond x3 (T.ask (decide (a1 ≤ 288230376151711744)) fun x4 =>
T.ret x4) (T.ret false)).bind <| fun y0_1 =>
T.ret (y0_1)
theorem t_ref01_In_ok (a1 : Int) : (t_ref01_In a1).run = d_ref01_In a1 := by
  simp only [t_ref01_In, d_ref01_In, T.rs, T_ixGEnt_ok, T_ixGRoll_ok, T_ixGTransit_ok, T_ixInt_ok, T_ixListInt_ok]
def t_ref01_Add (a1 : Int) (a2 : Int) : T An (Int × Int) :=
(show T An (Bool) from
(t_ref01_In a1).bind fun x4 =>
T.bnd (!x4) fun x5 =>
cond x5 (T.ret true) ((t_ref01_In a2).bind fun x6 =>
T.bnd (!x6) fun x7 =>
cond x7 (T.ret true) (T.wr (a1 + a2) fun x8 =>
(t_ref01_In x8).bind fun x9 =>
T.bnd (!x9) fun x10 =>
T.ret x10))).bind <| fun y0_1 =>
cond y0_1 (T.ret ((0 : Int), (2 : Int))) (T.wr (a1 + a2) fun x11 =>
T.ret ((x11 : Int), (0 : Int)))
theorem t_ref01_Add_ok (a1 : Int) (a2 : Int) : (t_ref01_Add a1 a2).run = d_ref01_Add a1 a2 := by
  simp only [t_ref01_Add, d_ref01_Add, T.rs, T_ixGEnt_ok, T_ixGRoll_ok, T_ixGTransit_ok, T_ixInt_ok, T_ixListInt_ok, t_ref01_In_ok]
def t_ref09_Total_L0 (a1 : List GLayer) : Nat → Int → GLayer → T An ((GLayer) ⊕ (GLayer × Int))
  | 0, _, _ => T.fail
  | n + 1, y0_1, y0_2 =>
    T.ask (decide (y0_1 < (a1.length : Int))) fun x5 =>
    cond x5 ((T.ix a1 y0_1).bind fun x6 =>
    (t_ref01_Add y0_2.Qty x6.Qty).bind fun x7 =>
    (T.ix a1 y0_1).bind fun x8 =>
    (t_ref01_Add y0_2.Value x8.Value).bind fun x9 =>
    (T.ix a1 y0_1).bind fun x10 =>
    (t_ref01_Add y0_2.Profit x10.Profit).bind fun x11 =>
    (show T An (Bool) from
    T.ask (decide (x7.2 ≠ 0)) fun x13 =>
    cond x13 (T.ret true) (T.ask (decide (x9.2 ≠ 0)) fun x14 =>
    cond x14 (T.ret true) (T.ask (decide (x11.2 ≠ 0)) fun x15 =>
    T.ret x15))).bind <| fun y1_1 =>
    cond y1_1 (T.esc (T.ret (((⟨0, 0, 0⟩ : GLayer) : GLayer), (2 : Int)))) (T.wr (y0_1 + 1) fun x16 =>
    t_ref09_Total_L0 a1 n (x16 : Int) ((⟨x7.1, x9.1, x11.1⟩ : GLayer) : GLayer))) (T.brk y0_2)
theorem t_ref09_Total_L0_ok (a1 : List GLayer) : ∀ (n : Nat) (z0 : Int) (z1 : GLayer), (t_ref09_Total_L0 a1 n z0 z1).run = d_ref09_Total_L0 a1 n z0 z1
  | 0, _, _ => rfl
  | n + 1, z0, z1 => by
    simp only [t_ref09_Total_L0, d_ref09_Total_L0, T.rs, T_ixGEnt_ok, T_ixGRoll_ok, T_ixGTransit_ok, T_ixInt_ok, T_ixListInt_ok, t_ref01_Add_ok, t_ref09_Total_L0_ok a1 n]
def t_ref09_Total (n : Nat) (a1 : List GLayer) : T An (GLayer × Int) :=
(show T An ((GLayer) ⊕ (GLayer × Int)) from
t_ref09_Total_L0 a1 n (0 : Int) ((⟨0, 0, 0⟩ : GLayer) : GLayer)).bind <| T.sel <| fun y2_1 =>
T.ret (y2_1, (0 : Int))
theorem t_ref09_Total_ok (n : Nat) (a1 : List GLayer) : (t_ref09_Total n a1).run = d_ref09_Total n a1 := by
  simp only [t_ref09_Total, d_ref09_Total, T.rs, T_ixGEnt_ok, T_ixGRoll_ok, T_ixGTransit_ok, T_ixInt_ok, T_ixListInt_ok, t_ref09_Total_L0_ok]
def t_ref09_Swing_L0 (a1 : List GLayer) : Nat → Int → Int → T An ((Int) ⊕ (Int × Int))
  | 0, _, _ => T.fail
  | n + 1, y0_1, y0_2 =>
    T.ask (decide (y0_2 < (a1.length : Int))) fun x3 =>
    cond x3 ((T.ix a1 y0_2).bind fun x4 =>
    (T.ix a1 y0_2).bind fun x5 =>
    T.wr (0 - x5.Profit) fun x6 =>
    (T.ifv (x6 > x4.Profit) (x6) (x4.Profit)).bind fun x7 =>
    (t_ref01_Add y0_1 x7).bind fun x8 =>
    (show T An (Bool) from
    T.ask (decide (x8.2 ≠ 0)) fun x10 =>
    cond x10 (T.ret true) ((T.ix a1 y0_2).bind fun x11 =>
    T.ask (decide (x11.Profit < (-288230376151711744))) fun x12 =>
    T.ret x12)).bind <| fun y1_1 =>
    cond y1_1 (T.esc (T.ret ((0 : Int), (2 : Int)))) (T.wr (y0_2 + 1) fun x13 =>
    t_ref09_Swing_L0 a1 n (x8.1 : Int) (x13 : Int))) (T.brk (y0_1 : Int))
theorem t_ref09_Swing_L0_ok (a1 : List GLayer) : ∀ (n : Nat) (z0 : Int) (z1 : Int), (t_ref09_Swing_L0 a1 n z0 z1).run = d_ref09_Swing_L0 a1 n z0 z1
  | 0, _, _ => rfl
  | n + 1, z0, z1 => by
    simp only [t_ref09_Swing_L0, d_ref09_Swing_L0, T.rs, T_ixGEnt_ok, T_ixGRoll_ok, T_ixGTransit_ok, T_ixInt_ok, T_ixListInt_ok, t_ref01_Add_ok, t_ref09_Swing_L0_ok a1 n]
def t_ref09_Swing (n : Nat) (a1 : List GLayer) : T An (Int × Int) :=
(show T An ((Int) ⊕ (Int × Int)) from
t_ref09_Swing_L0 a1 n (0 : Int) (0 : Int)).bind <| T.sel <| fun y2_1 =>
T.ret ((y2_1 : Int), (0 : Int))
theorem t_ref09_Swing_ok (n : Nat) (a1 : List GLayer) : (t_ref09_Swing n a1).run = d_ref09_Swing n a1 := by
  simp only [t_ref09_Swing, d_ref09_Swing, T.rs, T_ixGEnt_ok, T_ixGRoll_ok, T_ixGTransit_ok, T_ixInt_ok, T_ixListInt_ok, t_ref09_Swing_L0_ok]
def t_ref09_Right_L0 (a1 : List GLayer) : Nat → Int → T An ((Unit) ⊕ (Bool))
  | 0, _ => T.fail
  | n + 1, y0_1 =>
    T.ask (decide (y0_1 < (a1.length : Int))) fun x3 =>
    cond x3 ((T.ix a1 y0_1).bind fun x4 =>
    (show T An (Bool) from
    T.ask (decide (x4.Qty < 1)) fun x7 =>
    cond x7 (T.ret true) (T.ask (decide (x4.Qty > 288230376151711744)) fun x8 =>
    cond x8 (T.ret true) (T.ask (decide (x4.Value < 0)) fun x9 =>
    cond x9 (T.ret true) (T.ask (decide (x4.Value > 288230376151711744)) fun x10 =>
    cond x10 (T.ret true) ((t_ref01_In x4.Profit).bind fun x11 =>
    T.bnd (!x11) fun x12 =>
    T.ret x12))))).bind <| fun y1_1 =>
    cond y1_1 (T.esc (T.ret (false))) (T.wr (y0_1 + 1) fun x13 =>
    t_ref09_Right_L0 a1 n (x13 : Int))) (T.brk ())
theorem t_ref09_Right_L0_ok (a1 : List GLayer) : ∀ (n : Nat) (z0 : Int), (t_ref09_Right_L0 a1 n z0).run = d_ref09_Right_L0 a1 n z0
  | 0, _ => rfl
  | n + 1, z0 => by
    simp only [t_ref09_Right_L0, d_ref09_Right_L0, T.rs, T_ixGEnt_ok, T_ixGRoll_ok, T_ixGTransit_ok, T_ixInt_ok, T_ixListInt_ok, t_ref01_In_ok, t_ref09_Right_L0_ok a1 n]
def t_ref09_Right (n : Nat) (a1 : List GLayer) : T An (Bool) :=
(show T An ((Unit) ⊕ (Bool)) from
t_ref09_Right_L0 a1 n (0 : Int)).bind <| T.sel <| fun _ =>
(t_ref09_Total n a1).bind fun x15 =>
(t_ref09_Swing n a1).bind fun x17 =>
(show T An (Bool) from
T.ask (decide ((a1.length : Int) ≤ 30)) fun x19 =>
cond x19 (T.ask (decide (x15.2 = 0)) fun x20 =>
cond x20 (T.ask (decide (x17.2 = 0)) fun x21 =>
T.ret x21) (T.ret false)) (T.ret false)).bind <| fun y3_1 =>
T.ret (y3_1)
theorem t_ref09_Right_ok (n : Nat) (a1 : List GLayer) : (t_ref09_Right n a1).run = d_ref09_Right n a1 := by
  simp only [t_ref09_Right, d_ref09_Right, T.rs, T_ixGEnt_ok, T_ixGRoll_ok, T_ixGTransit_ok, T_ixInt_ok, T_ixListInt_ok, t_ref09_Right_L0_ok, t_ref09_Swing_ok, t_ref09_Total_ok]
def t_ref10_In (n : Nat) (a1 : List GLayer) (a2 : GLayer) : T An ((List GLayer) × Int) :=
(show T An (Bool) from
T.ask (decide (a2.Qty < 1)) fun x5 =>
cond x5 (T.ret true) (T.ask (decide (a2.Value < 0)) fun x6 =>
T.ret x6)).bind <| fun y0_1 =>
cond y0_1 (T.ret (a1, (1 : Int))) (T.asrt (a1.length ≤ 68719476736) <|
T.bnd (a1 ++ ([a2] : List GLayer)) fun x9 =>
T.asrt (x9.length ≤ 68719476736) <|
(t_ref09_Right n x9).bind fun x12 =>
T.bnd (!x12) fun x13 =>
cond x13 (T.ret (a1, (2 : Int))) ((t_ref09_Total n x9).bind fun x14 =>
T.ret ((([x14.1] : List GLayer) : List GLayer), (0 : Int))))
theorem t_ref10_In_ok (n : Nat) (a1 : List GLayer) (a2 : GLayer) : (t_ref10_In n a1 a2).run = d_ref10_In n a1 a2 := by
  simp only [t_ref10_In, d_ref10_In, T.rs, T_ixGEnt_ok, T_ixGRoll_ok, T_ixGTransit_ok, T_ixInt_ok, T_ixListInt_ok, t_ref09_Right_ok, t_ref09_Total_ok]
def t_ref12_In (n : Nat) (a1 : List GLayer) (a2 : GLayer) (a3 : Int) : T An ((List GLayer) × Int × Int) :=
(show T An (Bool) from
T.ask (decide (a3 < 0)) fun x6 =>
cond x6 (T.ret true) (T.ask (decide (a3 > 1073741824)) fun x7 =>
cond x7 (T.ret true) (T.ask (decide (a2.Qty < 1)) fun x8 =>
cond x8 (T.ret true) (T.ask (decide (a2.Value < 0)) fun x9 =>
T.ret x9)))).bind <| fun y0_1 =>
cond y0_1 (T.ret (a1, (0 : Int), (1 : Int))) ((t_ref12_worth n a2.Qty a3).bind fun x10 =>
(show T An (Bool) from
T.bnd (!x10.2) fun x12 =>
cond x12 (T.ret true) (T.ask (decide (a2.Value > 288230376151711744)) fun x13 =>
T.ret x13)).bind <| fun y1_1 =>
cond y1_1 (T.ret (a1, (0 : Int), (2 : Int))) ((t_ref10_In n a1 (⟨a2.Qty, x10.1, a2.Profit⟩ : GLayer)).bind fun x14 =>
T.ask (decide (x14.2 ≠ 0)) fun x15 =>
cond x15 (T.ret (a1, (0 : Int), (x14.2 : Int))) (T.wr (a2.Value - x10.1) fun x16 =>
T.ret (x14.1, (x16 : Int), (0 : Int)))))
theorem t_ref12_In_ok (n : Nat) (a1 : List GLayer) (a2 : GLayer) (a3 : Int) : (t_ref12_In n a1 a2 a3).run = d_ref12_In n a1 a2 a3 := by
  simp only [t_ref12_In, d_ref12_In, T.rs, T_ixGEnt_ok, T_ixGRoll_ok, T_ixGTransit_ok, T_ixInt_ok, T_ixListInt_ok, t_ref10_In_ok, t_ref12_worth_ok]
def t_ref11_In (n : Nat) (a1 : GPool) (a2 : GLayer) : T An (GPool × Int) :=
(t_ref10_In n a1.Layers a2).bind fun x6 =>
T.ask (decide (x6.2 ≠ 0)) fun x7 =>
cond x7 (T.ret (a1, (x6.2 : Int))) (T.ret (((⟨x6.1, a1.Pend⟩ : GPool) : GPool), (0 : Int)))
theorem t_ref11_In_ok (n : Nat) (a1 : GPool) (a2 : GLayer) : (t_ref11_In n a1 a2).run = d_ref11_In n a1 a2 := by
  simp only [t_ref11_In, d_ref11_In, T.rs, T_ixGEnt_ok, T_ixGRoll_ok, T_ixGTransit_ok, T_ixInt_ok, T_ixListInt_ok, t_ref10_In_ok]
def t_ref09_In (n : Nat) (a1 : List GLayer) (a2 : GLayer) : T An ((List GLayer) × Int) :=
T.asrt (a1.length ≤ 68719476736) <|
T.bnd (a1 ++ ([a2] : List GLayer)) fun x6 =>
T.asrt (x6.length ≤ 68719476736) <|
(show T An (Bool) from
T.ask (decide (a2.Qty < 1)) fun x10 =>
cond x10 (T.ret true) (T.ask (decide (a2.Value < 0)) fun x11 =>
T.ret x11)).bind <| fun y0_1 =>
cond y0_1 (T.ret (a1, (1 : Int))) (T.ask (decide ((a1.length : Int) ≥ 30)) fun x12 =>
cond x12 (T.ret (a1, (6 : Int))) ((t_ref09_Right n x6).bind fun x13 =>
T.bnd (!x13) fun x14 =>
cond x14 (T.ret (a1, (2 : Int))) (T.ret (x6, (0 : Int)))))
theorem t_ref09_In_ok (n : Nat) (a1 : List GLayer) (a2 : GLayer) : (t_ref09_In n a1 a2).run = d_ref09_In n a1 a2 := by
  simp only [t_ref09_In, d_ref09_In, T.rs, T_ixGEnt_ok, T_ixGRoll_ok, T_ixGTransit_ok, T_ixInt_ok, T_ixListInt_ok, t_ref09_Right_ok]
def t_ref13_In (n : Nat) (a1 : Int) (a2 : Int) (a3 : GPool) (a4 : GLayer) : T An (GPool × Int × Int) :=
(show T An (Int × Int × GPool) from
T.ask (decide (a1 = 1)) fun x10 =>
cond x10 ((t_ref09_In n a3.Layers a4).bind fun x17 =>
T.ret ((0 : Int), (x17.2 : Int), ((⟨x17.1, a3.Pend⟩ : GPool) : GPool))) (T.ask (decide (a1 = 2)) fun x11 =>
cond x11 ((t_ref10_In n a3.Layers a4).bind fun x16 =>
T.ret ((0 : Int), (x16.2 : Int), ((⟨x16.1, a3.Pend⟩ : GPool) : GPool))) (T.ask (decide (a1 = 3)) fun x12 =>
cond x12 ((t_ref11_In n a3 a4).bind fun x15 =>
T.ret ((0 : Int), (x15.2 : Int), x15.1)) (T.ask (decide (a1 = 4)) fun x13 =>
cond x13 ((t_ref12_In n a3.Layers a4 a2).bind fun x14 =>
T.ret ((x14.2.1 : Int), (x14.2.2 : Int), ((⟨x14.1, a3.Pend⟩ : GPool) : GPool))) (T.ret ((0 : Int), (12 : Int), a3)))))).bind <| p2 fun (y0_1 : Int) (q0 : Int × GPool) => (p2 fun (y0_2 : Int) y0_3 =>
T.ask (decide (y0_2 ≠ 0)) fun x18 =>
cond x18 (T.ret (a3, (0 : Int), (y0_2 : Int))) (T.ret (y0_3, (y0_1 : Int), (0 : Int)))) q0
theorem t_ref13_In_ok (n : Nat) (a1 : Int) (a2 : Int) (a3 : GPool) (a4 : GLayer) : (t_ref13_In n a1 a2 a3 a4).run = d_ref13_In n a1 a2 a3 a4 := by
  simp only [t_ref13_In, d_ref13_In, T.rs, T_ixGEnt_ok, T_ixGRoll_ok, T_ixGTransit_ok, T_ixInt_ok, T_ixListInt_ok, t_ref09_In_ok, t_ref10_In_ok, t_ref11_In_ok, t_ref12_In_ok]
def t_ref14_Put (a1 : GState) (a2 : Int) (a3 : Int) (a4 : Int) (a5 : GPool) : T An (GState) :=
(show T An ((Int × Bool × (List GEnt) × (List GPool) × (List Int) × (List GRoll) × (List Int) × (List Int))) from
T.asrt (a1.Ents.length ≤ 68719476736) <|
(T_ixGEnt a1.Ents a2).bind fun x14 =>
T.asrt (x14.Pools.length ≤ 68719476736) <|
T.asrt (x14.Bal.length ≤ 68719476736) <|
T.asrt (x14.Rolls.length ≤ 68719476736) <|
T.asrt (x14.Prices.length ≤ 68719476736) <|
T.asrt (x14.Down.length ≤ 68719476736) <|
T.ret ((x14.Now : Int), x14.Closed, x14.Ahead, x14.Pools, x14.Bal, x14.Rolls, x14.Prices, x14.Down)).bind <| p2 fun (y0_2 : Int) (q0 : Bool × (List GEnt) × (List GPool) × (List Int) × (List GRoll) × (List Int) × (List Int)) => (p2 fun y0_3 (q1 : (List GEnt) × (List GPool) × (List Int) × (List GRoll) × (List Int) × (List Int)) => (p2 fun y0_9 (q2 : (List GPool) × (List Int) × (List GRoll) × (List Int) × (List Int)) => (p2 fun y0_10 (q3 : (List Int) × (List GRoll) × (List Int) × (List Int)) => (p2 fun y0_11 (q4 : (List GRoll) × (List Int) × (List Int)) => (p2 fun y0_12 (q5 : (List Int) × (List Int)) => (p2 fun y0_13 y0_14 =>
(T_ixGEnt a1.Ents a2).bind fun x25 =>
T.wr (a3 * 2) fun x27 =>
T.wr (x27 + a4) fun x28 =>
(T.ix y0_10 x28).bind fun x29 =>
T.bnd (y0_10.set (Int.toNat x28) a5) fun x30 =>
T.ret (((⟨a1.Master, (a1.Ents.set (Int.toNat a2) (⟨y0_2, y0_3, x30, y0_11, y0_12, y0_13, y0_14, y0_9⟩ : GEnt)), a1.Receipts, a1.Sales, a1.Transits, a1.Done⟩ : GState) : GState))) q5) q4) q3) q2) q1) q0
theorem t_ref14_Put_ok (a1 : GState) (a2 : Int) (a3 : Int) (a4 : Int) (a5 : GPool) : (t_ref14_Put a1 a2 a3 a4 a5).run = d_ref14_Put a1 a2 a3 a4 a5 := by
  simp only [t_ref14_Put, d_ref14_Put, T.rs, T_ixGEnt_ok, T_ixGRoll_ok, T_ixGTransit_ok, T_ixInt_ok, T_ixListInt_ok]
def t_ref13_Total (n : Nat) (a1 : GPool) : T An (GLayer) :=
(t_ref09_Total n a1.Layers).bind fun x4 =>
T.ret (x4.1)
theorem t_ref13_Total_ok (n : Nat) (a1 : GPool) : (t_ref13_Total n a1).run = d_ref13_Total n a1 := by
  simp only [t_ref13_Total, d_ref13_Total, T.rs, T_ixGEnt_ok, T_ixGRoll_ok, T_ixGTransit_ok, T_ixInt_ok, T_ixListInt_ok, t_ref09_Total_ok]
def t_ref01_Sum_L0 (a1 : List Int) : Nat → Int → Int → T An ((Int) ⊕ (Int × Int))
  | 0, _, _ => T.fail
  | n + 1, y0_1, y0_2 =>
    T.ask (decide (y0_2 < (a1.length : Int))) fun x3 =>
    cond x3 ((T_ixInt a1 y0_2).bind fun x4 =>
    (t_ref01_Add y0_1 x4).bind fun x5 =>
    T.ask (decide (x5.2 ≠ 0)) fun x6 =>
    cond x6 (T.esc (T.ret ((0 : Int), (x5.2 : Int)))) (T.wr (y0_2 + 1) fun x7 =>
    t_ref01_Sum_L0 a1 n (x5.1 : Int) (x7 : Int))) (T.brk (y0_1 : Int))
theorem t_ref01_Sum_L0_ok (a1 : List Int) : ∀ (n : Nat) (z0 : Int) (z1 : Int), (t_ref01_Sum_L0 a1 n z0 z1).run = d_ref01_Sum_L0 a1 n z0 z1
  | 0, _, _ => rfl
  | n + 1, z0, z1 => by
    simp only [t_ref01_Sum_L0, d_ref01_Sum_L0, T.rs, T_ixGEnt_ok, T_ixGRoll_ok, T_ixGTransit_ok, T_ixInt_ok, T_ixListInt_ok, t_ref01_Add_ok, t_ref01_Sum_L0_ok a1 n]
def t_ref01_Sum (n : Nat) (a1 : List Int) : T An (Int × Int) :=
(show T An ((Int) ⊕ (Int × Int)) from
t_ref01_Sum_L0 a1 n (0 : Int) (0 : Int)).bind <| T.sel <| fun y1_1 =>
T.ret ((y1_1 : Int), (0 : Int))
theorem t_ref01_Sum_ok (n : Nat) (a1 : List Int) : (t_ref01_Sum n a1).run = d_ref01_Sum n a1 := by
  simp only [t_ref01_Sum, d_ref01_Sum, T.rs, T_ixGEnt_ok, T_ixGRoll_ok, T_ixGTransit_ok, T_ixInt_ok, T_ixListInt_ok, t_ref01_Sum_L0_ok]
def t_ref14_worth_L0 (a1 : GState) (a2 : Int) (a3 : Int) : Nat → Int → (List Int) → (List Int) → (List Int) → T An ((List Int) × (List Int) × (List Int))
  | 0, _, _, _, _ => T.fail
  | n + 1, y0_4, y0_5, y0_6, y0_7 =>
    T.ask (decide (y0_4 < 2)) fun x10 =>
    cond x10 ((t_ref14_At a1 a2 a3 y0_4).bind fun x11 =>
    (t_ref13_Total n x11).bind fun x12 =>
    T.bnd (y0_5 ++ ([x12.Qty] : List Int)) fun x14 =>
    T.asrt (x14.length ≤ 68719476736) <|
    T.bnd (y0_6 ++ ([x12.Value] : List Int)) fun x17 =>
    T.asrt (x17.length ≤ 68719476736) <|
    T.bnd (y0_7 ++ ([x12.Profit] : List Int)) fun x20 =>
    T.asrt (x20.length ≤ 68719476736) <|
    T.wr (y0_4 + 1) fun x23 =>
    t_ref14_worth_L0 a1 a2 a3 n (x23 : Int) x14 x17 x20) (T.ret (y0_5, y0_6, y0_7))
theorem t_ref14_worth_L0_ok (a1 : GState) (a2 : Int) (a3 : Int) : ∀ (n : Nat) (z0 : Int) (z1 : (List Int)) (z2 : (List Int)) (z3 : (List Int)), (t_ref14_worth_L0 a1 a2 a3 n z0 z1 z2 z3).run = d_ref14_worth_L0 a1 a2 a3 n z0 z1 z2 z3
  | 0, _, _, _, _ => rfl
  | n + 1, z0, z1, z2, z3 => by
    simp only [t_ref14_worth_L0, d_ref14_worth_L0, T.rs, T_ixGEnt_ok, T_ixGRoll_ok, T_ixGTransit_ok, T_ixInt_ok, T_ixListInt_ok, t_ref13_Total_ok, t_ref14_At_ok, t_ref14_worth_L0_ok a1 a2 a3 n]
def t_ref14_worth (n : Nat) (a1 : GState) (a2 : Int) (a3 : Int) : T An (GLayer × Int) :=
(show T An ((List Int) × (List Int) × (List Int)) from
t_ref14_worth_L0 a1 a2 a3 n (0 : Int) (([] : List Int) : List Int) (([] : List Int) : List Int) (([] : List Int) : List Int)).bind <| p2 fun y1_4 (q0 : (List Int) × (List Int)) => (p2 fun y1_5 y1_6 =>
(t_ref01_Sum n y1_4).bind fun x24 =>
(t_ref01_Sum n y1_5).bind fun x25 =>
(t_ref01_Sum n y1_6).bind fun x26 =>
T.bnd (if x26.2 > (if x25.2 > x24.2 then x25.2 else x24.2) then x26.2 else (if x25.2 > x24.2 then x25.2 else x24.2)) fun x27 =>
T.ret (((⟨x24.1, x25.1, x26.1⟩ : GLayer) : GLayer), (x27 : Int))) q0
theorem t_ref14_worth_ok (n : Nat) (a1 : GState) (a2 : Int) (a3 : Int) : (t_ref14_worth n a1 a2 a3).run = d_ref14_worth n a1 a2 a3 := by
  simp only [t_ref14_worth, d_ref14_worth, T.rs, T_ixGEnt_ok, T_ixGRoll_ok, T_ixGTransit_ok, T_ixInt_ok, T_ixListInt_ok, t_ref01_Sum_ok, t_ref14_worth_L0_ok]
def t_ref14_Bring_L0 (a2 : Int) (a3 : Int) (x22 : GState) : Nat → Int → (List GLayer) → T An ((List GLayer))
  | 0, _, _ => T.fail
  | n + 1, y1_2, y1_3 =>
    T.ask (decide (y1_2 < 2)) fun x28 =>
    cond x28 ((t_ref14_At x22 a2 a3 y1_2).bind fun x29 =>
    T.bnd (y1_3 ++ x29.Layers) fun x30 =>
    T.asrt (x30.length ≤ 68719476736) <|
    T.wr (y1_2 + 1) fun x33 =>
    t_ref14_Bring_L0 a2 a3 x22 n (x33 : Int) x30) (T.ret y1_3)
theorem t_ref14_Bring_L0_ok (a2 : Int) (a3 : Int) (x22 : GState) : ∀ (n : Nat) (z0 : Int) (z1 : (List GLayer)), (t_ref14_Bring_L0 a2 a3 x22 n z0 z1).run = d_ref14_Bring_L0 a2 a3 x22 n z0 z1
  | 0, _, _ => rfl
  | n + 1, z0, z1 => by
    simp only [t_ref14_Bring_L0, d_ref14_Bring_L0, T.rs, T_ixGEnt_ok, T_ixGRoll_ok, T_ixGTransit_ok, T_ixInt_ok, T_ixListInt_ok, t_ref14_At_ok, t_ref14_Bring_L0_ok a2 a3 x22 n]
def t_ref14_Bring (n : Nat) (a1 : GState) (a2 : Int) (a3 : Int) (a4 : Int) (a5 : GLayer) : T An (GState × Int × Int × Int) :=
(show T An (Bool) from
(t_ref14_there a1 a2 a3).bind fun x10 =>
T.bnd (!x10) fun x11 =>
cond x11 (T.ret true) ((t_ref14_to a4 1).bind fun x12 =>
T.bnd (!x12) fun x13 =>
T.ret x13)).bind <| fun y0_1 =>
cond y0_1 (T.ret (a1, (0 : Int), (0 : Int), (4 : Int))) ((T_ixListInt a1.Master.Methods a2).bind fun x14 =>
(T_ixInt x14 a3).bind fun x15 =>
(T_ixListInt a1.Master.Costs a2).bind fun x16 =>
(T_ixInt x16 a3).bind fun x17 =>
(t_ref14_At a1 a2 a3 a4).bind fun x18 =>
(t_ref13_In n x15 x17 x18 a5).bind fun x19 =>
T.ask (decide (x19.2.2 ≠ 0)) fun x21 =>
cond x21 (T.ret (a1, (0 : Int), (0 : Int), (x19.2.2 : Int))) ((t_ref14_Put a1 a2 a3 a4 x19.1).bind fun x22 =>
(t_ref14_worth n x22 a2 a3).bind fun x24 =>
T.ask (decide (x24.2 ≠ 0)) fun x25 =>
cond x25 (T.ret (a1, (0 : Int), (0 : Int), (2 : Int))) ((show T An ((List GLayer)) from
t_ref14_Bring_L0 a2 a3 x22 n (0 : Int) (([] : List GLayer) : List GLayer)).bind <| fun y2_2 =>
(t_ref09_Swing n y2_2).bind fun x34 =>
T.ask (decide (x34.2 ≠ 0)) fun x35 =>
cond x35 (T.ret (a1, (0 : Int), (0 : Int), (2 : Int))) (T.wr (a5.Value - x19.2.1) fun x36 =>
T.ret (x22, (x36 : Int), (x19.2.1 : Int), (0 : Int))))))
theorem t_ref14_Bring_ok (n : Nat) (a1 : GState) (a2 : Int) (a3 : Int) (a4 : Int) (a5 : GLayer) : (t_ref14_Bring n a1 a2 a3 a4 a5).run = d_ref14_Bring n a1 a2 a3 a4 a5 := by
  simp only [t_ref14_Bring, d_ref14_Bring, T.rs, T_ixGEnt_ok, T_ixGRoll_ok, T_ixGTransit_ok, T_ixInt_ok, T_ixListInt_ok, t_ref09_Swing_ok, t_ref13_In_ok, t_ref14_At_ok, t_ref14_Bring_L0_ok, t_ref14_Put_ok, t_ref14_there_ok, t_ref14_to_ok, t_ref14_worth_ok]
def t_ref07_in (a1 : GLine) : T An (Bool) :=
(show T An (Bool) from
T.ask (decide (a1.Account ≥ 0)) fun x4 =>
cond x4 (T.ask (decide (a1.Account < 17)) fun x5 =>
cond x5 ((t_ref01_In a1.Amount).bind fun x6 =>
T.ret x6) (T.ret false)) (T.ret false)).bind <| fun y0_1 =>
T.ret (y0_1)
theorem t_ref07_in_ok (a1 : GLine) : (t_ref07_in a1).run = d_ref07_in a1 := by
  simp only [t_ref07_in, d_ref07_in, T.rs, T_ixGEnt_ok, T_ixGRoll_ok, T_ixGTransit_ok, T_ixInt_ok, T_ixListInt_ok, t_ref01_In_ok]
def t_ref07_Plain_L0 (a1 : List GLine) : Nat → Int → T An ((Unit) ⊕ ((List GLine) × Int))
  | 0, _ => T.fail
  | n + 1, y0_1 =>
    T.ask (decide (y0_1 < (a1.length : Int))) fun x3 =>
    cond x3 ((T.ix a1 y0_1).bind fun x4 =>
    (t_ref07_in x4).bind fun x5 =>
    T.bnd (!x5) fun x6 =>
    cond x6 (T.esc (T.ret (([] : List GLine), (1 : Int)))) (T.wr (y0_1 + 1) fun x7 =>
    t_ref07_Plain_L0 a1 n (x7 : Int))) (T.brk ())
theorem t_ref07_Plain_L0_ok (a1 : List GLine) : ∀ (n : Nat) (z0 : Int), (t_ref07_Plain_L0 a1 n z0).run = d_ref07_Plain_L0 a1 n z0
  | 0, _ => rfl
  | n + 1, z0 => by
    simp only [t_ref07_Plain_L0, d_ref07_Plain_L0, T.rs, T_ixGEnt_ok, T_ixGRoll_ok, T_ixGTransit_ok, T_ixInt_ok, T_ixListInt_ok, t_ref07_in_ok, t_ref07_Plain_L0_ok a1 n]
def t_ref07_Plain_L1 (a1 : List GLine) : Nat → Int → (List Int) → T An (((List Int)) ⊕ ((List GLine) × Int))
  | 0, _, _ => T.fail
  | n + 1, y2_1, y2_2 =>
    T.ask (decide (y2_1 < (a1.length : Int))) fun x11 =>
    cond x11 ((T.ix a1 y2_1).bind fun x12 =>
    T.asrt ((0 : Int) ≤ x12.Account ∧ x12.Account < (17 : Int)) <|
    (T_ixInt y2_2 x12.Account).bind fun x14 =>
    (T.ix a1 y2_1).bind fun x15 =>
    (t_ref01_Add x14 x15.Amount).bind fun x16 =>
    T.ask (decide (x16.2 ≠ 0)) fun x17 =>
    cond x17 (T.esc (T.ret (([] : List GLine), (x16.2 : Int)))) ((T.ix a1 y2_1).bind fun x18 =>
    T.asrt ((0 : Int) ≤ x18.Account ∧ x18.Account < (17 : Int)) <|
    (T_ixInt y2_2 x18.Account).bind fun x20 =>
    T.bnd (y2_2.set (Int.toNat x18.Account) x16.1) fun x21 =>
    T.wr (y2_1 + 1) fun x22 =>
    t_ref07_Plain_L1 a1 n (x22 : Int) x21)) (T.brk y2_2)
theorem t_ref07_Plain_L1_ok (a1 : List GLine) : ∀ (n : Nat) (z0 : Int) (z1 : (List Int)), (t_ref07_Plain_L1 a1 n z0 z1).run = d_ref07_Plain_L1 a1 n z0 z1
  | 0, _, _ => rfl
  | n + 1, z0, z1 => by
    simp only [t_ref07_Plain_L1, d_ref07_Plain_L1, T.rs, T_ixGEnt_ok, T_ixGRoll_ok, T_ixGTransit_ok, T_ixInt_ok, T_ixListInt_ok, t_ref01_Add_ok, t_ref07_Plain_L1_ok a1 n]
def t_ref07_Plain_L2 (y3_1 : List Int) : Nat → Int → (List GLine) → T An ((List GLine))
  | 0, _, _ => T.fail
  | n + 1, y4_2, y4_3 =>
    T.ask (decide (y4_2 < 17)) fun x26 =>
    cond x26 ((show T An ((List GLine)) from
    T.asrt ((0 : Int) ≤ y4_2 ∧ y4_2 < (17 : Int)) <|
    (T_ixInt y3_1 y4_2).bind fun x29 =>
    T.ask (decide (x29 ≠ 0)) fun x30 =>
    cond x30 (T.asrt ((0 : Int) ≤ y4_2 ∧ y4_2 < (17 : Int)) <|
    T.bnd (y4_3 ++ ([(⟨y4_2, x29⟩ : GLine)] : List GLine)) fun x32 =>
    T.asrt (x32.length ≤ 68719476736) <|
    T.ret x32) (T.ret y4_3)).bind <| fun y5_2 =>
    T.wr (y4_2 + 1) fun x35 =>
    t_ref07_Plain_L2 y3_1 n (x35 : Int) y5_2) (T.ret y4_3)
theorem t_ref07_Plain_L2_ok (y3_1 : List Int) : ∀ (n : Nat) (z0 : Int) (z1 : (List GLine)), (t_ref07_Plain_L2 y3_1 n z0 z1).run = d_ref07_Plain_L2 y3_1 n z0 z1
  | 0, _, _ => rfl
  | n + 1, z0, z1 => by
    simp only [t_ref07_Plain_L2, d_ref07_Plain_L2, T.rs, T_ixGEnt_ok, T_ixGRoll_ok, T_ixGTransit_ok, T_ixInt_ok, T_ixListInt_ok, t_ref07_Plain_L2_ok y3_1 n]
def t_ref07_Plain (n : Nat) (a1 : List GLine) : T An ((List GLine) × Int) :=
(show T An ((Unit) ⊕ ((List GLine) × Int)) from
t_ref07_Plain_L0 a1 n (0 : Int)).bind <| T.sel <| fun _ =>
(show T An (((List Int)) ⊕ ((List GLine) × Int)) from
t_ref07_Plain_L1 a1 n (0 : Int) (([0, 0, 0, 0, 0, 0, 0, 0, 0, 0, 0, 0, 0, 0, 0, 0, 0] : List Int) : List Int)).bind <| T.sel <| fun y3_1 =>
(show T An ((List GLine)) from
t_ref07_Plain_L2 y3_1 n (0 : Int) (([] : List GLine) : List GLine)).bind <| fun y6_2 =>
T.ret (y6_2, (0 : Int))
theorem t_ref07_Plain_ok (n : Nat) (a1 : List GLine) : (t_ref07_Plain n a1).run = d_ref07_Plain n a1 := by
  simp only [t_ref07_Plain, d_ref07_Plain, T.rs, T_ixGEnt_ok, T_ixGRoll_ok, T_ixGTransit_ok, T_ixInt_ok, T_ixListInt_ok, t_ref07_Plain_L0_ok, t_ref07_Plain_L1_ok, t_ref07_Plain_L2_ok]
def t_ref07_Check_L0 (a1 : List GLine) : Nat → Int → (List Int) → T An (((List Int)) ⊕ (Bool))
  | 0, _, _ => T.fail
  | n + 1, y0_2, y0_3 =>
    T.ask (decide (y0_2 < (a1.length : Int))) fun x4 =>
    cond x4 ((show T An (Bool) from
    (T.ix a1 y0_2).bind fun x6 =>
    (t_ref07_in x6).bind fun x7 =>
    T.bnd (!x7) fun x8 =>
    cond x8 (T.ret true) ((T.ix a1 y0_2).bind fun x9 =>
    T.ask (decide (x9.Amount = 0)) fun x10 =>
    T.ret x10)).bind <| fun y1_1 =>
    cond y1_1 (T.esc (T.ret (false))) ((T.ix a1 y0_2).bind fun x11 =>
    T.bnd (y0_3 ++ ([x11.Amount] : List Int)) fun x12 =>
    T.asrt (x12.length ≤ 68719476736) <|
    T.wr (y0_2 + 1) fun x15 =>
    t_ref07_Check_L0 a1 n (x15 : Int) x12)) (T.brk y0_3)
theorem t_ref07_Check_L0_ok (a1 : List GLine) : ∀ (n : Nat) (z0 : Int) (z1 : (List Int)), (t_ref07_Check_L0 a1 n z0 z1).run = d_ref07_Check_L0 a1 n z0 z1
  | 0, _, _ => rfl
  | n + 1, z0, z1 => by
    simp only [t_ref07_Check_L0, d_ref07_Check_L0, T.rs, T_ixGEnt_ok, T_ixGRoll_ok, T_ixGTransit_ok, T_ixInt_ok, T_ixListInt_ok, t_ref07_in_ok, t_ref07_Check_L0_ok a1 n]
def t_ref07_Check (n : Nat) (a1 : List GLine) : T An (Bool) :=
(show T An (((List Int)) ⊕ (Bool)) from
t_ref07_Check_L0 a1 n (0 : Int) (([] : List Int) : List Int)).bind <| T.sel <| fun y2_2 =>
(t_ref01_Sum n y2_2).bind fun x17 =>
(show T An (Bool) from
T.ask (decide ((a1.length : Int) ≥ 1)) fun x19 =>
cond x19 (T.ask (decide ((a1.length : Int) ≤ 12)) fun x20 =>
cond x20 (T.ask (decide (x17.2 = 0)) fun x21 =>
cond x21 (T.ask (decide (x17.1 = 0)) fun x22 =>
T.ret x22) (T.ret false)) (T.ret false)) (T.ret false)).bind <| fun y3_1 =>
T.ret (y3_1)
theorem t_ref07_Check_ok (n : Nat) (a1 : List GLine) : (t_ref07_Check n a1).run = d_ref07_Check n a1 := by
  simp only [t_ref07_Check, d_ref07_Check, T.rs, T_ixGEnt_ok, T_ixGRoll_ok, T_ixGTransit_ok, T_ixInt_ok, T_ixListInt_ok, t_ref01_Sum_ok, t_ref07_Check_L0_ok]
def t_ref08_Post_L0 (a1 : List Int) (x6 : (List GLine) × Int) : Nat → Int → (List Int) → T An (((List Int)) ⊕ ((List Int) × Int))
  | 0, _, _ => T.fail
  | n + 1, y1_1, y1_2 =>
    T.ask (decide (y1_1 < (x6.1.length : Int))) fun x15 =>
    cond x15 ((T.ix x6.1 y1_1).bind fun x16 =>
    (T_ixInt y1_2 x16.Account).bind fun x17 =>
    (T.ix x6.1 y1_1).bind fun x18 =>
    (t_ref01_Add x17 x18.Amount).bind fun x19 =>
    T.ask (decide (x19.2 ≠ 0)) fun x20 =>
    cond x20 (T.esc (T.ret (a1, (x19.2 : Int)))) ((T.ix x6.1 y1_1).bind fun x21 =>
    (T_ixInt y1_2 x21.Account).bind fun x22 =>
    T.bnd (y1_2.set (Int.toNat x21.Account) (x19.1 : Int)) fun x23 =>
    T.wr (y1_1 + 1) fun x24 =>
    t_ref08_Post_L0 a1 x6 n (x24 : Int) x23)) (T.brk y1_2)
theorem t_ref08_Post_L0_ok (a1 : List Int) (x6 : (List GLine) × Int) : ∀ (n : Nat) (z0 : Int) (z1 : (List Int)), (t_ref08_Post_L0 a1 x6 n z0 z1).run = d_ref08_Post_L0 a1 x6 n z0 z1
  | 0, _, _ => rfl
  | n + 1, z0, z1 => by
    simp only [t_ref08_Post_L0, d_ref08_Post_L0, T.rs, T_ixGEnt_ok, T_ixGRoll_ok, T_ixGTransit_ok, T_ixInt_ok, T_ixListInt_ok, t_ref01_Add_ok, t_ref08_Post_L0_ok a1 x6 n]
def t_ref08_Post (n : Nat) (a1 : List Int) (a2 : List GLine) : T An ((List Int) × Int) :=
T.ask (decide ((a1.length : Int) ≠ 17)) fun x3 =>
cond x3 (T.ret (([] : List Int), (1 : Int))) (T.asrt (a1.length ≤ 68719476736) <|
(t_ref07_Plain n a2).bind fun x6 =>
(show T An (Bool) from
T.ask (decide (x6.2 ≠ 0)) fun x8 =>
cond x8 (T.ret true) (T.ask (decide ((x6.1.length : Int) > 0)) fun x9 =>
cond x9 ((t_ref07_Check n x6.1).bind fun x10 =>
T.bnd (!x10) fun x11 =>
T.ret x11) (T.ret false))).bind <| fun y0_1 =>
cond y0_1 (T.ret (a1, (10 : Int))) (T.asrt (a1.length ≤ 68719476736) <|
(show T An (((List Int)) ⊕ ((List Int) × Int)) from
t_ref08_Post_L0 a1 x6 n (0 : Int) a1).bind <| T.sel <| fun y2_1 =>
T.ret (y2_1, (0 : Int))))
theorem t_ref08_Post_ok (n : Nat) (a1 : List Int) (a2 : List GLine) : (t_ref08_Post n a1 a2).run = d_ref08_Post n a1 a2 := by
  simp only [t_ref08_Post, d_ref08_Post, T.rs, T_ixGEnt_ok, T_ixGRoll_ok, T_ixGTransit_ok, T_ixInt_ok, T_ixListInt_ok, t_ref07_Check_ok, t_ref07_Plain_ok, t_ref08_Post_L0_ok]
def t_ref14_Post (n : Nat) (a1 : GState) (a2 : Int) (a3 : List GLine) : T An (GState × Int) :=
T.wr ((a1.Ents.length : Int) - 1) fun x6 =>
(t_ref14_to a2 x6).bind fun x7 =>
T.bnd (!x7) fun x8 =>
cond x8 (T.ret (a1, (4 : Int))) ((t_ref07_Plain n a3).bind fun x9 =>
T.ask (decide (x9.2 ≠ 0)) fun x10 =>
cond x10 (T.ret (a1, (x9.2 : Int))) ((T_ixGEnt a1.Ents a2).bind fun x11 =>
(t_ref08_Post n x11.Bal x9.1).bind fun x12 =>
T.ask (decide (x12.2 ≠ 0)) fun x13 =>
cond x13 (T.ret (a1, (x12.2 : Int))) ((show T An ((Int × Bool × (List GEnt) × (List GPool) × (List Int) × (List GRoll) × (List Int) × (List Int))) from
T.asrt (a1.Ents.length ≤ 68719476736) <|
(T_ixGEnt a1.Ents a2).bind fun x19 =>
T.asrt (x19.Pools.length ≤ 68719476736) <|
T.asrt (x19.Bal.length ≤ 68719476736) <|
T.asrt (x19.Rolls.length ≤ 68719476736) <|
T.asrt (x19.Prices.length ≤ 68719476736) <|
T.asrt (x19.Down.length ≤ 68719476736) <|
T.ret ((x19.Now : Int), x19.Closed, x19.Ahead, x19.Pools, x19.Bal, x19.Rolls, x19.Prices, x19.Down)).bind <| p2 fun (y0_2 : Int) (q0 : Bool × (List GEnt) × (List GPool) × (List Int) × (List GRoll) × (List Int) × (List Int)) => (p2 fun y0_3 (q1 : (List GEnt) × (List GPool) × (List Int) × (List GRoll) × (List Int) × (List Int)) => (p2 fun y0_9 (q2 : (List GPool) × (List Int) × (List GRoll) × (List Int) × (List Int)) => (p2 fun y0_10 (q3 : (List Int) × (List GRoll) × (List Int) × (List Int)) => (p2 fun y0_11 (q4 : (List GRoll) × (List Int) × (List Int)) => (p2 fun y0_12 (q5 : (List Int) × (List Int)) => (p2 fun y0_13 y0_14 =>
(T_ixGEnt a1.Ents a2).bind fun x30 =>
T.ret (((⟨a1.Master, (a1.Ents.set (Int.toNat a2) (⟨y0_2, y0_3, y0_10, x12.1, y0_12, y0_13, y0_14, y0_9⟩ : GEnt)), a1.Receipts, a1.Sales, a1.Transits, a1.Done⟩ : GState) : GState), (0 : Int))) q5) q4) q3) q2) q1) q0)))
theorem t_ref14_Post_ok (n : Nat) (a1 : GState) (a2 : Int) (a3 : List GLine) : (t_ref14_Post n a1 a2 a3).run = d_ref14_Post n a1 a2 a3 := by
  simp only [t_ref14_Post, d_ref14_Post, T.rs, T_ixGEnt_ok, T_ixGRoll_ok, T_ixGTransit_ok, T_ixInt_ok, T_ixListInt_ok, t_ref07_Plain_ok, t_ref08_Post_ok, t_ref14_to_ok]
def t_ref14_Numbers (a1 : GRoll) : T An (A11_Int) :=
T.ret (((⟨a1.Open, a1.Bought, a1.Landed, a1.Arrived, a1.Returned, a1.Sold, a1.Shipped, a1.SentBack, a1.Scrapped, a1.Lost, a1.Revalued⟩ : A11_Int) : A11_Int))
theorem t_ref14_Numbers_ok (a1 : GRoll) : (t_ref14_Numbers a1).run = d_ref14_Numbers a1 := by
  simp only [t_ref14_Numbers, d_ref14_Numbers, T.rs, T_ixGEnt_ok, T_ixGRoll_ok, T_ixGTransit_ok, T_ixInt_ok, T_ixListInt_ok]
def t_ref14_Roll (a1 : A11_Int) : T An (GRoll) :=
T.ret (((⟨a1.a0, a1.a1, a1.a2, a1.a3, a1.a4, a1.a5, a1.a6, a1.a7, a1.a8, a1.a9, a1.a10⟩ : GRoll) : GRoll))
theorem t_ref14_Roll_ok (a1 : A11_Int) : (t_ref14_Roll a1).run = d_ref14_Roll a1 := by
  simp only [t_ref14_Roll, d_ref14_Roll, T.rs, T_ixGEnt_ok, T_ixGRoll_ok, T_ixGTransit_ok, T_ixInt_ok, T_ixListInt_ok]
def t_ref14_Turn_L0 (a1 : GState) (a2 : Int) (a3 : Int) (a4 : GRoll) (x13 : A11_Int) : Nat → Int → (List Int) → T An (((List Int)) ⊕ (GState × Int))
  | 0, _, _ => T.fail
  | n + 1, y0_1, y0_2 =>
    T.ask (decide (y0_1 < 11)) fun x17 =>
    cond x17 (T.asrt ((0 : Int) ≤ y0_1 ∧ y0_1 < (11 : Int)) <|
    (T_ixInt y0_2 y0_1).bind fun x19 =>
    T.asrt ((0 : Int) ≤ y0_1 ∧ y0_1 < (11 : Int)) <|
    (T_ixInt ([x13.a0, x13.a1, x13.a2, x13.a3, x13.a4, x13.a5, x13.a6, x13.a7, x13.a8, x13.a9, x13.a10] : List Int) y0_1).bind fun x21 =>
    (t_ref01_Add x19 x21).bind fun x22 =>
    T.ask (decide (x22.2 ≠ 0)) fun x23 =>
    cond x23 (T.esc (T.ret (a1, (x22.2 : Int)))) (T.asrt ((0 : Int) ≤ y0_1 ∧ y0_1 < (11 : Int)) <|
    T.bnd (y0_2.set (Int.toNat y0_1) x22.1) fun x25 =>
    T.wr (y0_1 + 1) fun x26 =>
    t_ref14_Turn_L0 a1 a2 a3 a4 x13 n (x26 : Int) x25)) (T.brk y0_2)
theorem t_ref14_Turn_L0_ok (a1 : GState) (a2 : Int) (a3 : Int) (a4 : GRoll) (x13 : A11_Int) : ∀ (n : Nat) (z0 : Int) (z1 : (List Int)), (t_ref14_Turn_L0 a1 a2 a3 a4 x13 n z0 z1).run = d_ref14_Turn_L0 a1 a2 a3 a4 x13 n z0 z1
  | 0, _, _ => rfl
  | n + 1, z0, z1 => by
    simp only [t_ref14_Turn_L0, d_ref14_Turn_L0, T.rs, T_ixGEnt_ok, T_ixGRoll_ok, T_ixGTransit_ok, T_ixInt_ok, T_ixListInt_ok, t_ref01_Add_ok, t_ref14_Turn_L0_ok a1 a2 a3 a4 x13 n]
def t_ref14_Turn (n : Nat) (a1 : GState) (a2 : Int) (a3 : Int) (a4 : GRoll) : T An (GState × Int) :=
(t_ref14_there a1 a2 a3).bind fun x8 =>
T.bnd (!x8) fun x9 =>
cond x9 (T.ret (a1, (4 : Int))) ((T_ixGEnt a1.Ents a2).bind fun x10 =>
(T_ixGRoll x10.Rolls a3).bind fun x11 =>
(t_ref14_Numbers x11).bind fun x12 =>
(t_ref14_Numbers a4).bind fun x13 =>
(show T An (((List Int)) ⊕ (GState × Int)) from
t_ref14_Turn_L0 a1 a2 a3 a4 x13 n (0 : Int) (([x12.a0, x12.a1, x12.a2, x12.a3, x12.a4, x12.a5, x12.a6, x12.a7, x12.a8, x12.a9, x12.a10] : List Int) : List Int)).bind <| T.sel <| fun y1_1 =>
(show T An ((Int × Bool × (List GEnt) × (List GPool) × (List Int) × (List GRoll) × (List Int) × (List Int))) from
T.asrt (a1.Ents.length ≤ 68719476736) <|
(T_ixGEnt a1.Ents a2).bind fun x33 =>
T.asrt (x33.Pools.length ≤ 68719476736) <|
T.asrt (x33.Bal.length ≤ 68719476736) <|
T.asrt (x33.Rolls.length ≤ 68719476736) <|
T.asrt (x33.Prices.length ≤ 68719476736) <|
T.asrt (x33.Down.length ≤ 68719476736) <|
T.ret ((x33.Now : Int), x33.Closed, x33.Ahead, x33.Pools, x33.Bal, x33.Rolls, x33.Prices, x33.Down)).bind <| p2 fun (y2_2 : Int) (q0 : Bool × (List GEnt) × (List GPool) × (List Int) × (List GRoll) × (List Int) × (List Int)) => (p2 fun y2_3 (q1 : (List GEnt) × (List GPool) × (List Int) × (List GRoll) × (List Int) × (List Int)) => (p2 fun y2_9 (q2 : (List GPool) × (List Int) × (List GRoll) × (List Int) × (List Int)) => (p2 fun y2_10 (q3 : (List Int) × (List GRoll) × (List Int) × (List Int)) => (p2 fun y2_11 (q4 : (List GRoll) × (List Int) × (List Int)) => (p2 fun y2_12 (q5 : (List Int) × (List Int)) => (p2 fun y2_13 y2_14 =>
(T_ixGEnt a1.Ents a2).bind fun x44 =>
T.asrt (y1_1.length = 11) <|
(t_ref14_Roll (⟨(y1_1.getD 0 0), (y1_1.getD 1 0), (y1_1.getD 2 0), (y1_1.getD 3 0), (y1_1.getD 4 0), (y1_1.getD 5 0), (y1_1.getD 6 0), (y1_1.getD 7 0), (y1_1.getD 8 0), (y1_1.getD 9 0), (y1_1.getD 10 0)⟩ : A11_Int)).bind fun x47 =>
(T_ixGRoll y2_12 a3).bind fun x48 =>
T.bnd (y2_12.set (Int.toNat a3) x47) fun x49 =>
T.ret (((⟨a1.Master, (a1.Ents.set (Int.toNat a2) (⟨y2_2, y2_3, y2_10, y2_11, x49, y2_13, y2_14, y2_9⟩ : GEnt)), a1.Receipts, a1.Sales, a1.Transits, a1.Done⟩ : GState) : GState), (0 : Int))) q5) q4) q3) q2) q1) q0)
theorem t_ref14_Turn_ok (n : Nat) (a1 : GState) (a2 : Int) (a3 : Int) (a4 : GRoll) : (t_ref14_Turn n a1 a2 a3 a4).run = d_ref14_Turn n a1 a2 a3 a4 := by
  simp only [t_ref14_Turn, d_ref14_Turn, T.rs, T_ixGEnt_ok, T_ixGRoll_ok, T_ixGTransit_ok, T_ixInt_ok, T_ixListInt_ok, t_ref14_Numbers_ok, t_ref14_Roll_ok, t_ref14_Turn_L0_ok, t_ref14_there_ok]
def t_ref15_Do (n : Nat) (a1 : GState) (a2 : GOp) : T An (GState × Int) :=
T.ask (decide (a2.Kind ≠ 1)) fun x6 =>
cond x6 (T.ret (a1, (1 : Int))) ((t_ref14_Ready a1 a2.E a2.Item).bind fun x7 =>
T.ask (decide (x7 ≠ 0)) fun x8 =>
cond x8 (T.ret (a1, (x7 : Int))) (T.ask (decide ((a1.Receipts.length : Int) ≥ 40)) fun x9 =>
cond x9 (T.ret (a1, (6 : Int))) ((t_ref14_Bring n a1 a2.E a2.Item a2.Loc (⟨a2.Qty, a2.Amount, 0⟩ : GLayer)).bind fun x10 =>
T.ask (decide (x10.2.2.2 ≠ 0)) fun x12 =>
cond x12 (T.ret (a1, (x10.2.2.2 : Int))) (T.wr (0 - a2.Amount) fun x13 =>
(t_ref14_Post n x10.1 a2.E ([(⟨0, x10.2.1⟩ : GLine), (⟨6, x10.2.2.1⟩ : GLine), (⟨1, x13⟩ : GLine)] : List GLine)).bind fun x14 =>
T.ask (decide (x14.2 ≠ 0)) fun x15 =>
cond x15 (T.ret (a1, (x14.2 : Int))) ((t_ref14_Turn n x14.1 a2.E a2.Item (⟨0, x10.2.1, 0, 0, 0, 0, 0, 0, 0, 0, 0⟩ : GRoll)).bind fun x16 =>
T.ask (decide (x16.2 ≠ 0)) fun x17 =>
cond x17 (T.ret (a1, (x16.2 : Int))) (T.asrt (x16.1.Receipts.length ≤ 68719476736) <|
T.bnd (x16.1.Receipts ++ ([(⟨a2.E, a2.Item, a2.Loc, a2.Qty, a2.Amount, a2.Qty, a2.Amount, 0⟩ : GReceipt)] : List GReceipt)) fun x20 =>
T.asrt (x20.length ≤ 68719476736) <|
T.ret (((⟨x16.1.Master, x16.1.Ents, x20, x16.1.Sales, x16.1.Transits, x16.1.Done⟩ : GState) : GState), (0 : Int))))))))
theorem t_ref15_Do_ok (n : Nat) (a1 : GState) (a2 : GOp) : (t_ref15_Do n a1 a2).run = d_ref15_Do n a1 a2 := by
  simp only [t_ref15_Do, d_ref15_Do, T.rs, T_ixGEnt_ok, T_ixGRoll_ok, T_ixGTransit_ok, T_ixInt_ok, T_ixListInt_ok, t_ref14_Bring_ok, t_ref14_Post_ok, t_ref14_Ready_ok, t_ref14_Turn_ok]
def t_law20_stocked (n : Nat) (a1 : Int) (a2 : Int) (a3 : Int) : T An (GState) :=
(t_law20_start n).bind fun x5 =>
(t_ref15_Do n x5 (⟨1, 0, a1, 0, 0, a2, a3, 0, []⟩ : GOp)).bind fun x6 =>
T.ret (x6.1)
theorem t_law20_stocked_ok (n : Nat) (a1 : Int) (a2 : Int) (a3 : Int) : (t_law20_stocked n a1 a2 a3).run = d_law20_stocked n a1 a2 a3 := by
  simp only [t_law20_stocked, d_law20_stocked, T.rs, T_ixGEnt_ok, T_ixGRoll_ok, T_ixGTransit_ok, T_ixInt_ok, T_ixListInt_ok, t_law20_start_ok, t_ref15_Do_ok]
def t_stock_is (a1 : GState) (a2 : Int) (a3 : Int) : T An (Bool) :=
(show T An (Bool) from
T.ask (decide (a2 < 0)) fun x6 =>
cond x6 (T.ret true) (T.ask (decide (a2 ≥ (a1.Ents.length : Int))) fun x7 =>
cond x7 (T.ret true) (T.ask (decide (a3 < 0)) fun x8 =>
cond x8 (T.ret true) (T.ask (decide (a3 ≥ (a1.Master.Weights.length : Int))) fun x9 =>
T.ret x9)))).bind <| fun y0_1 =>
cond y0_1 (T.ret (false)) ((T_ixGEnt a1.Ents a2).bind fun x10 =>
(show T An (Bool) from
T.wr ((a1.Master.Weights.length : Int) * 2) fun x13 =>
T.ask (decide ((x10.Pools.length : Int) ≥ x13)) fun x14 =>
cond x14 (T.ask (decide ((x10.Rolls.length : Int) ≥ (a1.Master.Weights.length : Int))) fun x15 =>
cond x15 (T.ask (decide (a2 < (a1.Master.Methods.length : Int))) fun x16 =>
cond x16 (T.ask (decide (a2 < (a1.Master.Costs.length : Int))) fun x17 =>
cond x17 ((T_ixListInt a1.Master.Methods a2).bind fun x18 =>
T.ask (decide ((x18.length : Int) ≥ (a1.Master.Weights.length : Int))) fun x19 =>
cond x19 ((T_ixListInt a1.Master.Costs a2).bind fun x20 =>
T.ask (decide ((x20.length : Int) ≥ (a1.Master.Weights.length : Int))) fun x21 =>
T.ret x21) (T.ret false)) (T.ret false)) (T.ret false)) (T.ret false)) (T.ret false)).bind <| fun y1_1 =>
T.ret (y1_1))
theorem t_stock_is_ok (a1 : GState) (a2 : Int) (a3 : Int) : (t_stock_is a1 a2 a3).run = d_stock_is a1 a2 a3 := by
  simp only [t_stock_is, d_stock_is, T.rs, T_ixGEnt_ok, T_ixGRoll_ok, T_ixGTransit_ok, T_ixInt_ok, T_ixListInt_ok]
def t_stock_Ready (a1 : GState) (a2 : Int) (a3 : Int) : T An (Int) :=
(t_stock_is a1 a2 a3).bind fun x5 =>
T.bnd (!x5) fun x6 =>
cond x6 (T.ret ((4 : Int))) ((T_ixGEnt a1.Ents a2).bind fun x7 =>
T.bnd (x7.Closed) fun x8 =>
cond x8 (T.ret ((7 : Int))) (T.ret ((0 : Int))))
theorem t_stock_Ready_ok (a1 : GState) (a2 : Int) (a3 : Int) : (t_stock_Ready a1 a2 a3).run = d_stock_Ready a1 a2 a3 := by
  simp only [t_stock_Ready, d_stock_Ready, T.rs, T_ixGEnt_ok, T_ixGRoll_ok, T_ixGTransit_ok, T_ixInt_ok, T_ixListInt_ok, t_stock_is_ok]
def t_money_in (a1 : Int) : T An (Bool) :=
(show T An (Bool) from
T.ask (decide (a1 ≥ (-288230376151711744))) fun x3 =>
cond x3 (T.ask (decide (a1 ≤ 288230376151711744)) fun x4 =>
T.ret x4) (T.ret false)).bind <| fun y0_1 =>
T.ret (y0_1)
theorem t_money_in_ok (a1 : Int) : (t_money_in a1).run = d_money_in a1 := by
  simp only [t_money_in, d_money_in, T.rs, T_ixGEnt_ok, T_ixGRoll_ok, T_ixGTransit_ok, T_ixInt_ok, T_ixListInt_ok]
def t_money_MulDiv (n : Nat) (a1 : Int) (a2 : Int) (a3 : Int) : T An (Int × Int × Int) := T.opx An.i An.gi (d_money_MulDiv n a1 a2 a3)
theorem t_money_MulDiv_ok (n : Nat) (a1 : Int) (a2 : Int) (a3 : Int) : (t_money_MulDiv n a1 a2 a3).run = d_money_MulDiv n a1 a2 a3 := T.run_opx (f := An.i) (g := An.gi) (fun _ => rfl) _
def t_money_Part (n : Nat) (a1 : Int) (a2 : Int) (a3 : Int) : T An (Int) := T.opx An.z An.gz (d_money_Part n a1 a2 a3)
theorem t_money_Part_ok (n : Nat) (a1 : Int) (a2 : Int) (a3 : Int) : (t_money_Part n a1 a2 a3).run = d_money_Part n a1 a2 a3 := T.run_opx (f := An.z) (g := An.gz) (fun _ => rfl) _
def t_stock_in (a1 : Int) (a2 : Int) (a3 : Int) : T An (Bool) :=
(show T An (Bool) from
T.ask (decide (a1 ≥ a2)) fun x5 =>
cond x5 (T.ask (decide (a1 ≤ a3)) fun x6 =>
T.ret x6) (T.ret false)).bind <| fun y0_1 =>
T.ret (y0_1)
theorem t_stock_in_ok (a1 : Int) (a2 : Int) (a3 : Int) : (t_stock_in a1 a2 a3).run = d_stock_in a1 a2 a3 := by
  simp only [t_stock_in, d_stock_in, T.rs, T_ixGEnt_ok, T_ixGRoll_ok, T_ixGTransit_ok, T_ixInt_ok, T_ixListInt_ok]
def t_stock_place (a1 : GState) (a2 : Int) (a3 : Int) (a4 : Int) : T An (Int) :=
(show T An (Bool) from
(t_stock_is a1 a2 a3).bind fun x7 =>
T.bnd (!x7) fun x8 =>
cond x8 (T.ret true) ((t_stock_in a4 0 1).bind fun x9 =>
T.bnd (!x9) fun x10 =>
T.ret x10)).bind <| fun y0_1 =>
cond y0_1 (T.ret (((-1) : Int))) (T.wr (a3 * 2) fun x11 =>
T.wr (x11 + a4) fun x12 =>
T.ret ((x12 : Int)))
theorem t_stock_place_ok (a1 : GState) (a2 : Int) (a3 : Int) (a4 : Int) : (t_stock_place a1 a2 a3 a4).run = d_stock_place a1 a2 a3 a4 := by
  simp only [t_stock_place, d_stock_place, T.rs, T_ixGEnt_ok, T_ixGRoll_ok, T_ixGTransit_ok, T_ixInt_ok, T_ixListInt_ok, t_stock_in_ok, t_stock_is_ok]
def t_pool_with (a1 : GPool) (a2 : List GLayer) : T An (GPool) :=
T.ret (((⟨a2, a1.Pend⟩ : GPool) : GPool))
theorem t_pool_with_ok (a1 : GPool) (a2 : List GLayer) : (t_pool_with a1 a2).run = d_pool_with a1 a2 := by
  simp only [t_pool_with, d_pool_with, T.rs, T_ixGEnt_ok, T_ixGRoll_ok, T_ixGTransit_ok, T_ixInt_ok, T_ixListInt_ok]
def t_pool_own (a1 : GPool) : T An (GPool) :=
T.asrt (a1.Layers.length ≤ 68719476736) <|
(show T An ((Unit)) from
T.ret ()).bind <| fun _ =>
T.ret (a1)
theorem t_pool_own_ok (a1 : GPool) : (t_pool_own a1).run = d_pool_own a1 := by
  simp only [t_pool_own, d_pool_own, T.rs, T_ixGEnt_ok, T_ixGRoll_ok, T_ixGTransit_ok, T_ixInt_ok, T_ixListInt_ok]
def t_stdcost_rate_fits (a1 : Int) : T An (Bool) :=
(show T An (Bool) from
T.ask (decide (a1 ≥ 0)) fun x3 =>
cond x3 (T.ask (decide (a1 ≤ 1073741824)) fun x4 =>
T.ret x4) (T.ret false)).bind <| fun y0_1 =>
T.ret (y0_1)
theorem t_stdcost_rate_fits_ok (a1 : Int) : (t_stdcost_rate_fits a1).run = d_stdcost_rate_fits a1 := by
  simp only [t_stdcost_rate_fits, d_stdcost_rate_fits, T.rs, T_ixGEnt_ok, T_ixGRoll_ok, T_ixGTransit_ok, T_ixInt_ok, T_ixListInt_ok]
def t_stdcost_rate_of (n : Nat) (a1 : Int) (a2 : Int) : T An (Int × Int) :=
(T.ifv (0 > a2) (0) (a2)).bind fun x3 =>
(t_money_MulDiv n x3 a1 1).bind fun x4 =>
T.ret ((x4.1 : Int), (x4.2.2 : Int))
theorem t_stdcost_rate_of_ok (n : Nat) (a1 : Int) (a2 : Int) : (t_stdcost_rate_of n a1 a2).run = d_stdcost_rate_of n a1 a2 := by
  simp only [t_stdcost_rate_of, d_stdcost_rate_of, T.rs, T_ixGEnt_ok, T_ixGRoll_ok, T_ixGTransit_ok, T_ixInt_ok, T_ixListInt_ok, t_money_MulDiv_ok]
def t_fifo_wrong (a1 : GLayer) : T An (Bool) :=
(show T An (Bool) from
T.ask (decide (a1.Qty < 1)) fun x4 =>
cond x4 (T.ret true) (T.ask (decide (a1.Qty > 288230376151711744)) fun x5 =>
cond x5 (T.ret true) (T.ask (decide (a1.Value < 0)) fun x6 =>
cond x6 (T.ret true) (T.ask (decide (a1.Value > 288230376151711744)) fun x7 =>
cond x7 (T.ret true) (T.ask (decide (a1.Profit < (-288230376151711744))) fun x8 =>
cond x8 (T.ret true) (T.ask (decide (a1.Profit > 288230376151711744)) fun x9 =>
T.ret x9)))))).bind <| fun y0_1 =>
T.ret (y0_1)
theorem t_fifo_wrong_ok (a1 : GLayer) : (t_fifo_wrong a1).run = d_fifo_wrong a1 := by
  simp only [t_fifo_wrong, d_fifo_wrong, T.rs, T_ixGEnt_ok, T_ixGRoll_ok, T_ixGTransit_ok, T_ixInt_ok, T_ixListInt_ok]
def t_money_Add (a1 : Int) (a2 : Int) : T An (Int × Int) :=
(show T An (Bool) from
(t_money_in a1).bind fun x4 =>
T.bnd (!x4) fun x5 =>
cond x5 (T.ret true) ((t_money_in a2).bind fun x6 =>
T.bnd (!x6) fun x7 =>
cond x7 (T.ret true) (T.wr (a1 + a2) fun x8 =>
(t_money_in x8).bind fun x9 =>
T.bnd (!x9) fun x10 =>
T.ret x10))).bind <| fun y0_1 =>
cond y0_1 (T.ret ((0 : Int), (2 : Int))) (T.wr (a1 + a2) fun x11 =>
T.ret ((x11 : Int), (0 : Int)))
theorem t_money_Add_ok (a1 : Int) (a2 : Int) : (t_money_Add a1 a2).run = d_money_Add a1 a2 := by
  simp only [t_money_Add, d_money_Add, T.rs, T_ixGEnt_ok, T_ixGRoll_ok, T_ixGTransit_ok, T_ixInt_ok, T_ixListInt_ok, t_money_in_ok]
def t_money_Sum_L0 (a1 : List Int) : Nat → Int → Int → T An ((Int) ⊕ (Int × Int))
  | 0, _, _ => T.fail
  | n + 1, y0_1, y0_2 =>
    T.ask (decide (y0_2 < (a1.length : Int))) fun x3 =>
    cond x3 ((T_ixInt a1 y0_2).bind fun x4 =>
    (t_money_Add y0_1 x4).bind fun x5 =>
    T.ask (decide (x5.2 ≠ 0)) fun x6 =>
    cond x6 (T.esc (T.ret ((0 : Int), (x5.2 : Int)))) (T.wr (y0_2 + 1) fun x7 =>
    t_money_Sum_L0 a1 n (x5.1 : Int) (x7 : Int))) (T.brk (y0_1 : Int))
theorem t_money_Sum_L0_ok (a1 : List Int) : ∀ (n : Nat) (z0 : Int) (z1 : Int), (t_money_Sum_L0 a1 n z0 z1).run = d_money_Sum_L0 a1 n z0 z1
  | 0, _, _ => rfl
  | n + 1, z0, z1 => by
    simp only [t_money_Sum_L0, d_money_Sum_L0, T.rs, T_ixGEnt_ok, T_ixGRoll_ok, T_ixGTransit_ok, T_ixInt_ok, T_ixListInt_ok, t_money_Add_ok, t_money_Sum_L0_ok a1 n]
def t_money_Sum (n : Nat) (a1 : List Int) : T An (Int × Int) :=
(show T An ((Int) ⊕ (Int × Int)) from
t_money_Sum_L0 a1 n (0 : Int) (0 : Int)).bind <| T.sel <| fun y1_1 =>
T.ret ((y1_1 : Int), (0 : Int))
theorem t_money_Sum_ok (n : Nat) (a1 : List Int) : (t_money_Sum n a1).run = d_money_Sum n a1 := by
  simp only [t_money_Sum, d_money_Sum, T.rs, T_ixGEnt_ok, T_ixGRoll_ok, T_ixGTransit_ok, T_ixInt_ok, T_ixListInt_ok, t_money_Sum_L0_ok]
def t_fifo_Total_L0 (a1 : List GLayer) : Nat → Int → (List Int) → (List Int) → (List Int) → T An ((List Int) × (List Int) × (List Int))
  | 0, _, _, _, _ => T.fail
  | n + 1, y0_4, y0_5, y0_6, y0_7 =>
    T.ask (decide (y0_4 < (a1.length : Int))) fun x7 =>
    cond x7 ((T.ix a1 y0_4).bind fun x8 =>
    T.bnd (y0_5 ++ ([x8.Qty] : List Int)) fun x10 =>
    T.asrt (x10.length ≤ 68719476736) <|
    T.bnd (y0_6 ++ ([x8.Value] : List Int)) fun x13 =>
    T.asrt (x13.length ≤ 68719476736) <|
    T.bnd (y0_7 ++ ([x8.Profit] : List Int)) fun x16 =>
    T.asrt (x16.length ≤ 68719476736) <|
    T.wr (y0_4 + 1) fun x19 =>
    t_fifo_Total_L0 a1 n (x19 : Int) x10 x13 x16) (T.ret (y0_5, y0_6, y0_7))
theorem t_fifo_Total_L0_ok (a1 : List GLayer) : ∀ (n : Nat) (z0 : Int) (z1 : (List Int)) (z2 : (List Int)) (z3 : (List Int)), (t_fifo_Total_L0 a1 n z0 z1 z2 z3).run = d_fifo_Total_L0 a1 n z0 z1 z2 z3
  | 0, _, _, _, _ => rfl
  | n + 1, z0, z1, z2, z3 => by
    simp only [t_fifo_Total_L0, d_fifo_Total_L0, T.rs, T_ixGEnt_ok, T_ixGRoll_ok, T_ixGTransit_ok, T_ixInt_ok, T_ixListInt_ok, t_fifo_Total_L0_ok a1 n]
def t_fifo_Total (n : Nat) (a1 : List GLayer) : T An (GLayer × Int) := T.opx An.k6 An.gk6 (d_fifo_Total n a1)
theorem t_fifo_Total_ok (n : Nat) (a1 : List GLayer) : (t_fifo_Total n a1).run = d_fifo_Total n a1 := T.run_opx (f := An.k6) (g := An.gk6) (fun _ => rfl) _
def x_fifo_Total (n : Nat) (a1 : List GLayer) : T An (GLayer × Int) :=
(show T An ((List Int) × (List Int) × (List Int)) from
t_fifo_Total_L0 a1 n (0 : Int) (([] : List Int) : List Int) (([] : List Int) : List Int) (([] : List Int) : List Int)).bind <| p2 fun y1_4 (q0 : (List Int) × (List Int)) => (p2 fun y1_5 y1_6 =>
(show T An ((GLayer) ⊕ (GLayer × Int)) from
(t_money_Sum n y1_4).bind fun x23 =>
T.ask (decide (x23.2 ≠ 0)) fun x24 =>
cond x24 (T.esc (T.ret (((⟨0, 0, 0⟩ : GLayer) : GLayer), (x23.2 : Int)))) ((t_money_Sum n y1_5).bind fun x26 =>
T.ask (decide (x26.2 ≠ 0)) fun x27 =>
cond x27 (T.esc (T.ret (((⟨0, 0, 0⟩ : GLayer) : GLayer), (x26.2 : Int)))) ((t_money_Sum n y1_6).bind fun x29 =>
T.ask (decide (x29.2 ≠ 0)) fun x30 =>
cond x30 (T.esc (T.ret (((⟨0, 0, 0⟩ : GLayer) : GLayer), (x29.2 : Int)))) (T.brk ((⟨x23.1, x26.1, x29.1⟩ : GLayer) : GLayer))))).bind <| T.sel <| fun y2_1 =>
T.ret (y2_1, (0 : Int))) q0
theorem x_fifo_Total_ok (n : Nat) (a1 : List GLayer) : (x_fifo_Total n a1).run = d_fifo_Total n a1 := by
  simp only [x_fifo_Total, d_fifo_Total, T.rs, T_ixGEnt_ok, T_ixGRoll_ok, T_ixGTransit_ok, T_ixInt_ok, T_ixListInt_ok, t_fifo_Total_L0_ok, t_money_Sum_ok]
def t_fifo_steady_L0 (a1 : List GLayer) : Nat → Int → (List Int) → T An ((List Int))
  | 0, _, _ => T.fail
  | n + 1, y0_2, y0_3 =>
    T.ask (decide (y0_2 < (a1.length : Int))) fun x4 =>
    cond x4 ((T.ix a1 y0_2).bind fun x5 =>
    T.wr (0 - x5.Profit) fun x7 =>
    (T.ifv (x7 > x5.Profit) (x7) (x5.Profit)).bind fun x8 =>
    T.bnd (y0_3 ++ ([x8] : List Int)) fun x9 =>
    T.asrt (x9.length ≤ 68719476736) <|
    T.wr (y0_2 + 1) fun x12 =>
    t_fifo_steady_L0 a1 n (x12 : Int) x9) (T.ret y0_3)
theorem t_fifo_steady_L0_ok (a1 : List GLayer) : ∀ (n : Nat) (z0 : Int) (z1 : (List Int)), (t_fifo_steady_L0 a1 n z0 z1).run = d_fifo_steady_L0 a1 n z0 z1
  | 0, _, _ => rfl
  | n + 1, z0, z1 => by
    simp only [t_fifo_steady_L0, d_fifo_steady_L0, T.rs, T_ixGEnt_ok, T_ixGRoll_ok, T_ixGTransit_ok, T_ixInt_ok, T_ixListInt_ok, t_fifo_steady_L0_ok a1 n]
def t_fifo_steady (n : Nat) (a1 : List GLayer) : T An (Bool) :=
(show T An ((List Int)) from
t_fifo_steady_L0 a1 n (0 : Int) (([] : List Int) : List Int)).bind <| fun y1_2 =>
(t_money_Sum n y1_2).bind fun x13 =>
T.ask (decide (x13.2 = 0)) fun x14 =>
T.ret (x14)
theorem t_fifo_steady_ok (n : Nat) (a1 : List GLayer) : (t_fifo_steady n a1).run = d_fifo_steady n a1 := by
  simp only [t_fifo_steady, d_fifo_steady, T.rs, T_ixGEnt_ok, T_ixGRoll_ok, T_ixGTransit_ok, T_ixInt_ok, T_ixListInt_ok, t_fifo_steady_L0_ok, t_money_Sum_ok]
def t_fifo_Right_L0 (a1 : List GLayer) : Nat → Int → T An ((Unit) ⊕ ((Int)))
  | 0, _ => T.fail
  | n + 1, y0_1 =>
    T.ask (decide (y0_1 < (a1.length : Int))) fun x7 =>
    cond x7 ((T.ix a1 y0_1).bind fun x8 =>
    (t_fifo_wrong x8).bind fun x9 =>
    cond x9 (T.esc (T.ret (y0_1 : Int))) (T.wr (y0_1 + 1) fun x10 =>
    t_fifo_Right_L0 a1 n (x10 : Int))) (T.brk ())
theorem t_fifo_Right_L0_ok (a1 : List GLayer) : ∀ (n : Nat) (z0 : Int), (t_fifo_Right_L0 a1 n z0).run = d_fifo_Right_L0 a1 n z0
  | 0, _ => rfl
  | n + 1, z0 => by
    simp only [t_fifo_Right_L0, d_fifo_Right_L0, T.rs, T_ixGEnt_ok, T_ixGRoll_ok, T_ixGTransit_ok, T_ixInt_ok, T_ixListInt_ok, t_fifo_wrong_ok, t_fifo_Right_L0_ok a1 n]
def t_fifo_Right (n : Nat) (a1 : List GLayer) : T An (Bool) :=
(show T An (Bool) from
T.ask (decide ((a1.length : Int) > 30)) fun x3 =>
cond x3 (T.ret true) ((show T An ((Bool)) from
(show T An ((Int)) from
(show T An ((Unit) ⊕ ((Int))) from
t_fifo_Right_L0 a1 n (0 : Int)).bind <| T.sel <| fun _ =>
T.ret ((-1) : Int)).bind <| fun y2_1 =>
T.ask (decide (y2_1 ≥ 0)) fun x12 =>
T.ret x12).bind <| fun y3_1 =>
T.ret y3_1)).bind <| fun y4_1 =>
cond y4_1 (T.ret (false)) ((t_fifo_Total n a1).bind fun x13 =>
(show T An (Bool) from
T.ask (decide (x13.2 = 0)) fun x16 =>
cond x16 ((t_fifo_steady n a1).bind fun x17 =>
T.ret x17) (T.ret false)).bind <| fun y5_1 =>
T.ret (y5_1))
theorem t_fifo_Right_ok (n : Nat) (a1 : List GLayer) : (t_fifo_Right n a1).run = d_fifo_Right n a1 := by
  simp only [t_fifo_Right, d_fifo_Right, T.rs, T_ixGEnt_ok, T_ixGRoll_ok, T_ixGTransit_ok, T_ixInt_ok, T_ixListInt_ok, t_fifo_Right_L0_ok, t_fifo_Total_ok, t_fifo_steady_ok]
def t_fifo_In (n : Nat) (a1 : List GLayer) (a2 : GLayer) : T An ((List GLayer) × Int) := T.opx An.k7 An.gk7 (d_fifo_In n a1 a2)
theorem t_fifo_In_ok (n : Nat) (a1 : List GLayer) (a2 : GLayer) : (t_fifo_In n a1 a2).run = d_fifo_In n a1 a2 := T.run_opx (f := An.k7) (g := An.gk7) (fun _ => rfl) _
def x_fifo_In (n : Nat) (a1 : List GLayer) (a2 : GLayer) : T An ((List GLayer) × Int) :=
T.asrt (a1.length ≤ 68719476736) <|
(show T An (Bool) from
T.ask (decide (a2.Qty < 1)) fun x7 =>
cond x7 (T.ret true) (T.ask (decide (a2.Value < 0)) fun x8 =>
T.ret x8)).bind <| fun y0_1 =>
cond y0_1 (T.ret (a1, (1 : Int))) (T.ask (decide ((a1.length : Int) ≥ 30)) fun x9 =>
cond x9 (T.ret (a1, (6 : Int))) (T.asrt (a1.length ≤ 68719476736) <|
T.bnd (a1 ++ ([a2] : List GLayer)) fun x12 =>
T.asrt (x12.length ≤ 68719476736) <|
(t_fifo_Right n x12).bind fun x15 =>
T.bnd (!x15) fun x16 =>
cond x16 (T.ret (a1, (2 : Int))) (T.ret (x12, (0 : Int)))))
theorem x_fifo_In_ok (n : Nat) (a1 : List GLayer) (a2 : GLayer) : (x_fifo_In n a1 a2).run = d_fifo_In n a1 a2 := by
  simp only [x_fifo_In, d_fifo_In, T.rs, T_ixGEnt_ok, T_ixGRoll_ok, T_ixGTransit_ok, T_ixInt_ok, T_ixListInt_ok, t_fifo_Right_ok]
def t_mavg_In (n : Nat) (a1 : List GLayer) (a2 : GLayer) : T An ((List GLayer) × Int) :=
(show T An ((Unit)) from
T.ret ()).bind <| fun _ =>
(t_fifo_In n a1 a2).bind fun x6 =>
T.ask (decide (x6.2 ≠ 0)) fun x7 =>
cond x7 (T.ret (x6.1, (x6.2 : Int))) ((show T An ((Unit)) from
T.ret ()).bind <| fun _ =>
(t_fifo_Total n x6.1).bind fun x10 =>
T.ask (decide (x10.2 ≠ 0)) fun x12 =>
cond x12 (T.asrt (a1.length ≤ 68719476736) <|
T.ret (a1, (x10.2 : Int))) (T.ret ((([x10.1] : List GLayer) : List GLayer), (0 : Int))))
theorem t_mavg_In_ok (n : Nat) (a1 : List GLayer) (a2 : GLayer) : (t_mavg_In n a1 a2).run = d_mavg_In n a1 a2 := by
  simp only [t_mavg_In, d_mavg_In, T.rs, T_ixGEnt_ok, T_ixGRoll_ok, T_ixGTransit_ok, T_ixInt_ok, T_ixListInt_ok, t_fifo_In_ok, t_fifo_Total_ok]
def t_stdcost_In (n : Nat) (a1 : List GLayer) (a2 : GLayer) (a3 : Int) : T An ((List GLayer) × Int × Int) :=
T.asrt (a1.length ≤ 68719476736) <|
(show T An (Bool) from
(t_stdcost_rate_fits a3).bind fun x8 =>
T.bnd (!x8) fun x9 =>
cond x9 (T.ret true) (T.ask (decide (a2.Qty < 1)) fun x10 =>
cond x10 (T.ret true) (T.ask (decide (a2.Value < 0)) fun x11 =>
T.ret x11))).bind <| fun y0_1 =>
cond y0_1 (T.ret (a1, (0 : Int), (1 : Int))) ((t_stdcost_rate_of n a3 a2.Qty).bind fun x12 =>
(show T An (Bool) from
T.ask (decide (x12.2 ≠ 0)) fun x14 =>
cond x14 (T.ret true) (T.ask (decide (a2.Value > 288230376151711744)) fun x15 =>
T.ret x15)).bind <| fun y1_1 =>
cond y1_1 (T.ret (a1, (0 : Int), (2 : Int))) (T.wr (a2.Value - x12.1) fun x16 =>
(show T An (((List GLayer)) ⊕ (Int) ⊕ (Int)) from
(show T An ((Unit)) from
T.ret ()).bind <| fun _ =>
(show T An (((List GLayer)) ⊕ (Int)) from
T.asrt (a1.length ≤ 68719476736) <|
(show T An (Bool) from
T.ask (decide (a2.Qty < 1)) fun x26 =>
cond x26 (T.ret true) (T.ask (decide (x12.1 < 0)) fun x27 =>
T.ret x27)).bind <| fun y3_1 =>
cond y3_1 (T.ret (.inr (1 : Int))) (T.ask (decide ((a1.length : Int) ≥ 30)) fun x28 =>
cond x28 (T.ret (.inr (6 : Int))) (T.asrt (a1.length ≤ 68719476736) <|
T.bnd (a1 ++ ([(⟨a2.Qty, x12.1, a2.Profit⟩ : GLayer)] : List GLayer)) fun x31 =>
T.asrt (x31.length ≤ 68719476736) <|
(t_fifo_Right n x31).bind fun x34 =>
T.bnd (!x34) fun x35 =>
cond x35 (T.ret (.inr (2 : Int))) (T.ret (.inl x31))))).bind <| T.selr (fun y4_2 =>
(show T An ((Unit)) from
T.ret ()).bind <| fun _ =>
(t_fifo_Total n y4_2).bind fun x38 =>
T.ask (decide (x38.2 ≠ 0)) fun x40 =>
cond x40 (T.asrt (a1.length ≤ 68719476736) <|
T.ret (.inr (.inl (x38.2 : Int)))) (T.ret (.inl (([x38.1] : List GLayer) : List GLayer)))) <| fun y5_2 =>
T.ask (decide (y5_2 ≠ 0)) fun x43 =>
cond x43 (T.ret (.inr (.inr (y5_2 : Int)))) ((show T An ((Unit)) from
T.ret ()).bind <| fun _ =>
(t_fifo_Total n a1).bind fun x46 =>
T.ask (decide (x46.2 ≠ 0)) fun x48 =>
cond x48 (T.asrt (a1.length ≤ 68719476736) <|
T.ret (.inr (.inl (x46.2 : Int)))) (T.ret (.inl (([x46.1] : List GLayer) : List GLayer))))).bind <| T.selr (fun y10_1 =>
T.ret (y10_1, (x16 : Int), (0 : Int))) <| T.selr (fun y11_2 =>
T.ask (decide (y11_2 ≠ 0)) fun x51 =>
cond x51 (T.ret (a1, (0 : Int), (y11_2 : Int))) (T.ret (a1, (x16 : Int), (0 : Int)))) <| fun y12_2 =>
T.ask (decide (y12_2 ≠ 0)) fun x52 =>
cond x52 (T.ret (a1, (0 : Int), (y12_2 : Int))) (T.ret (a1, (x16 : Int), (0 : Int)))))
theorem t_stdcost_In_ok (n : Nat) (a1 : List GLayer) (a2 : GLayer) (a3 : Int) : (t_stdcost_In n a1 a2 a3).run = d_stdcost_In n a1 a2 a3 := by
  simp only [t_stdcost_In, d_stdcost_In, T.rs, T_ixGEnt_ok, T_ixGRoll_ok, T_ixGTransit_ok, T_ixInt_ok, T_ixListInt_ok, t_fifo_Right_ok, t_fifo_Total_ok, t_stdcost_rate_fits_ok, t_stdcost_rate_of_ok]
def t_pavg_own (a1 : GPool) (a2 : List GLayer) : T An (GPool) :=
T.asrt (a2.length ≤ 68719476736) <|
T.ret (((⟨a2, a1.Pend⟩ : GPool) : GPool))
theorem t_pavg_own_ok (a1 : GPool) (a2 : List GLayer) : (t_pavg_own a1 a2).run = d_pavg_own a1 a2 := by
  simp only [t_pavg_own, d_pavg_own, T.rs, T_ixGEnt_ok, T_ixGRoll_ok, T_ixGTransit_ok, T_ixInt_ok, T_ixListInt_ok]
def t_pavg_In (n : Nat) (a1 : GPool) (a2 : GLayer) : T An (GPool × Int) :=
(t_mavg_In n a1.Layers a2).bind fun x6 =>
(t_pavg_own a1 x6.1).bind fun x7 =>
T.ret (x7, (x6.2 : Int))
theorem t_pavg_In_ok (n : Nat) (a1 : GPool) (a2 : GLayer) : (t_pavg_In n a1 a2).run = d_pavg_In n a1 a2 := by
  simp only [t_pavg_In, d_pavg_In, T.rs, T_ixGEnt_ok, T_ixGRoll_ok, T_ixGTransit_ok, T_ixInt_ok, T_ixListInt_ok, t_mavg_In_ok, t_pavg_own_ok]
def t_pool_In (n : Nat) (a1 : Int) (a2 : Int) (a3 : GPool) (a4 : GLayer) : T An (GPool × Int × Int) :=
(show T An ((Unit) ⊕ (Unit) ⊕ (Unit) ⊕ (Unit) ⊕ (Unit)) from
T.ask (decide (a1 = 1)) fun x9 =>
cond x9 (T.ret (.inr (.inr (.inr (.inr ()))))) (T.ask (decide (a1 = 2)) fun x10 =>
cond x10 (T.ret (.inr (.inr (.inr (.inl ()))))) (T.ask (decide (a1 = 3)) fun x11 =>
cond x11 (T.ret (.inr (.inr (.inl ())))) (T.ask (decide (a1 = 4)) fun x12 =>
cond x12 (T.ret (.inr (.inl ()))) (T.ret (.inl ())))))).bind <| T.selr (fun _ =>
(t_pool_own a3).bind fun x13 =>
T.ret (x13, (0 : Int), (12 : Int))) <| T.selr (fun _ =>
(show T An ((GPool × Int × Int)) from
(t_stdcost_In n a3.Layers a4 a2).bind fun x19 =>
(t_pool_with a3 x19.1).bind fun x20 =>
T.ret (x20, (x19.2.1 : Int), (x19.2.2 : Int))).bind <| p2 fun y5_1 (q0 : Int × Int) => (p2 fun (y5_2 : Int) (y5_3 : Int) =>
T.ask (decide (y5_3 ≠ 0)) fun x22 =>
cond x22 ((t_pool_own a3).bind fun x23 =>
T.ret (x23, (0 : Int), (y5_3 : Int))) (T.ret (y5_1, (y5_2 : Int), (0 : Int)))) q0) <| T.selr (fun _ =>
(show T An ((GPool × Int)) from
(t_pavg_In n a3 a4).bind fun x29 =>
T.ret (x29.1, (x29.2 : Int))).bind <| p2 fun y6_1 (y6_2 : Int) =>
T.ask (decide (y6_2 ≠ 0)) fun x31 =>
cond x31 ((t_pool_own a3).bind fun x32 =>
T.ret (x32, (0 : Int), (y6_2 : Int))) (T.ret (y6_1, (0 : Int), (0 : Int)))) <| T.selr (fun _ =>
(show T An ((GPool × Int)) from
(t_mavg_In n a3.Layers a4).bind fun x38 =>
(t_pool_with a3 x38.1).bind fun x39 =>
T.ret (x39, (x38.2 : Int))).bind <| p2 fun y7_1 (y7_2 : Int) =>
T.ask (decide (y7_2 ≠ 0)) fun x41 =>
cond x41 ((t_pool_own a3).bind fun x42 =>
T.ret (x42, (0 : Int), (y7_2 : Int))) (T.ret (y7_1, (0 : Int), (0 : Int)))) <| fun _ =>
(show T An ((GPool × Int)) from
(t_fifo_In n a3.Layers a4).bind fun x48 =>
(t_pool_with a3 x48.1).bind fun x49 =>
T.ret (x49, (x48.2 : Int))).bind <| p2 fun y8_1 (y8_2 : Int) =>
T.ask (decide (y8_2 ≠ 0)) fun x51 =>
cond x51 ((t_pool_own a3).bind fun x52 =>
T.ret (x52, (0 : Int), (y8_2 : Int))) (T.ret (y8_1, (0 : Int), (0 : Int)))
theorem t_pool_In_ok (n : Nat) (a1 : Int) (a2 : Int) (a3 : GPool) (a4 : GLayer) : (t_pool_In n a1 a2 a3 a4).run = d_pool_In n a1 a2 a3 a4 := by
  simp only [t_pool_In, d_pool_In, T.rs, T_ixGEnt_ok, T_ixGRoll_ok, T_ixGTransit_ok, T_ixInt_ok, T_ixListInt_ok, t_fifo_In_ok, t_mavg_In_ok, t_pavg_In_ok, t_pool_own_ok, t_pool_with_ok, t_stdcost_In_ok]
def t_stock_At (a1 : GState) (a2 : Int) (a3 : Int) (a4 : Int) : T An (GPool) :=
(t_stock_place a1 a2 a3 a4).bind fun x7 =>
T.ask (decide (x7 < 0)) fun x8 =>
cond x8 (T.ret (((⟨[], (⟨0, 0, 0⟩ : A3_Int)⟩ : GPool) : GPool))) ((T_ixGEnt a1.Ents a2).bind fun x9 =>
(T.ix x9.Pools x7).bind fun x10 =>
T.asrt (x10.Layers.length ≤ 68719476736) <|
T.ret (x10))
theorem t_stock_At_ok (a1 : GState) (a2 : Int) (a3 : Int) (a4 : Int) : (t_stock_At a1 a2 a3 a4).run = d_stock_At a1 a2 a3 a4 := by
  simp only [t_stock_At, d_stock_At, T.rs, T_ixGEnt_ok, T_ixGRoll_ok, T_ixGTransit_ok, T_ixInt_ok, T_ixListInt_ok, t_stock_place_ok]
def t_stock_worth_L0 (a1 : GState) (a2 : Int) (a3 : Int) : Nat → Int → (List Int) → (List Int) → (List Int) → T An ((List Int) × (List Int) × (List Int))
  | 0, _, _, _, _ => T.fail
  | n + 1, y0_4, y0_5, y0_6, y0_7 =>
    T.ask (decide (y0_4 < 2)) fun x10 =>
    cond x10 ((t_stock_At a1 a2 a3 y0_4).bind fun x11 =>
    (t_fifo_Total n x11.Layers).bind fun x12 =>
    T.bnd (y0_5 ++ ([x12.1.Qty] : List Int)) fun x14 =>
    T.asrt (x14.length ≤ 68719476736) <|
    T.bnd (y0_6 ++ ([x12.1.Value] : List Int)) fun x17 =>
    T.asrt (x17.length ≤ 68719476736) <|
    T.bnd (y0_7 ++ ([x12.1.Profit] : List Int)) fun x20 =>
    T.asrt (x20.length ≤ 68719476736) <|
    T.wr (y0_4 + 1) fun x23 =>
    t_stock_worth_L0 a1 a2 a3 n (x23 : Int) x14 x17 x20) (T.ret (y0_5, y0_6, y0_7))
theorem t_stock_worth_L0_ok (a1 : GState) (a2 : Int) (a3 : Int) : ∀ (n : Nat) (z0 : Int) (z1 : (List Int)) (z2 : (List Int)) (z3 : (List Int)), (t_stock_worth_L0 a1 a2 a3 n z0 z1 z2 z3).run = d_stock_worth_L0 a1 a2 a3 n z0 z1 z2 z3
  | 0, _, _, _, _ => rfl
  | n + 1, z0, z1, z2, z3 => by
    simp only [t_stock_worth_L0, d_stock_worth_L0, T.rs, T_ixGEnt_ok, T_ixGRoll_ok, T_ixGTransit_ok, T_ixInt_ok, T_ixListInt_ok, t_fifo_Total_ok, t_stock_At_ok, t_stock_worth_L0_ok a1 a2 a3 n]
def t_stock_worth (n : Nat) (a1 : GState) (a2 : Int) (a3 : Int) : T An (GLayer × Bool) :=
(show T An ((List Int) × (List Int) × (List Int)) from
t_stock_worth_L0 a1 a2 a3 n (0 : Int) (([] : List Int) : List Int) (([] : List Int) : List Int) (([] : List Int) : List Int)).bind <| p2 fun y1_4 (q0 : (List Int) × (List Int)) => (p2 fun y1_5 y1_6 =>
(t_money_Sum n y1_4).bind fun x24 =>
(t_money_Sum n y1_5).bind fun x25 =>
(t_money_Sum n y1_6).bind fun x26 =>
T.bnd (if x26.2 > (if x25.2 > x24.2 then x25.2 else x24.2) then x26.2 else (if x25.2 > x24.2 then x25.2 else x24.2)) fun x27 =>
T.ask (decide (x27 = 0)) fun x28 =>
T.ret (((⟨x24.1, x25.1, x26.1⟩ : GLayer) : GLayer), x28)) q0
theorem t_stock_worth_ok (n : Nat) (a1 : GState) (a2 : Int) (a3 : Int) : (t_stock_worth n a1 a2 a3).run = d_stock_worth n a1 a2 a3 := by
  simp only [t_stock_worth, d_stock_worth, T.rs, T_ixGEnt_ok, T_ixGRoll_ok, T_ixGTransit_ok, T_ixInt_ok, T_ixListInt_ok, t_money_Sum_ok, t_stock_worth_L0_ok]
def t_stock_steady_L1 (x9 : GPool) : Nat → Int → (List Int) → T An ((List Int))
  | 0, _, _ => T.fail
  | n + 1, y1_2, y1_3 =>
    T.ask (decide (y1_2 < (x9.Layers.length : Int))) fun x11 =>
    cond x11 ((T.ix x9.Layers y1_2).bind fun x12 =>
    T.wr (0 - x12.Profit) fun x14 =>
    (T.ifv (x14 > x12.Profit) (x14) (x12.Profit)).bind fun x15 =>
    T.bnd (y1_3 ++ ([x15] : List Int)) fun x16 =>
    T.asrt (x16.length ≤ 68719476736) <|
    T.wr (y1_2 + 1) fun x19 =>
    t_stock_steady_L1 x9 n (x19 : Int) x16) (T.ret y1_3)
theorem t_stock_steady_L1_ok (x9 : GPool) : ∀ (n : Nat) (z0 : Int) (z1 : (List Int)), (t_stock_steady_L1 x9 n z0 z1).run = d_stock_steady_L1 x9 n z0 z1
  | 0, _, _ => rfl
  | n + 1, z0, z1 => by
    simp only [t_stock_steady_L1, d_stock_steady_L1, T.rs, T_ixGEnt_ok, T_ixGRoll_ok, T_ixGTransit_ok, T_ixInt_ok, T_ixListInt_ok, t_stock_steady_L1_ok x9 n]
def t_stock_steady_L0 (a1 : GState) (a2 : Int) (a3 : Int) : Nat → Int → (List Int) → T An ((List Int))
  | 0, _, _ => T.fail
  | n + 1, y0_2, y0_3 =>
    T.ask (decide (y0_2 < 2)) fun x7 =>
    cond x7 ((show T An ((List Int)) from
    (t_stock_At a1 a2 a3 y0_2).bind fun x9 =>
    (show T An ((List Int)) from
    t_stock_steady_L1 x9 n (0 : Int) y0_3).bind <| fun y2_2 =>
    T.ret y2_2).bind <| fun y3_2 =>
    T.wr (y0_2 + 1) fun x20 =>
    t_stock_steady_L0 a1 a2 a3 n (x20 : Int) y3_2) (T.ret y0_3)
theorem t_stock_steady_L0_ok (a1 : GState) (a2 : Int) (a3 : Int) : ∀ (n : Nat) (z0 : Int) (z1 : (List Int)), (t_stock_steady_L0 a1 a2 a3 n z0 z1).run = d_stock_steady_L0 a1 a2 a3 n z0 z1
  | 0, _, _ => rfl
  | n + 1, z0, z1 => by
    simp only [t_stock_steady_L0, d_stock_steady_L0, T.rs, T_ixGEnt_ok, T_ixGRoll_ok, T_ixGTransit_ok, T_ixInt_ok, T_ixListInt_ok, t_stock_At_ok, t_stock_steady_L1_ok, t_stock_steady_L0_ok a1 a2 a3 n]
def t_stock_steady (n : Nat) (a1 : GState) (a2 : Int) (a3 : Int) : T An (Bool) := T.opx An.k8 An.gk8 (d_stock_steady n a1 a2 a3)
theorem t_stock_steady_ok (n : Nat) (a1 : GState) (a2 : Int) (a3 : Int) : (t_stock_steady n a1 a2 a3).run = d_stock_steady n a1 a2 a3 := T.run_opx (f := An.k8) (g := An.gk8) (fun _ => rfl) _
def x_stock_steady (n : Nat) (a1 : GState) (a2 : Int) (a3 : Int) : T An (Bool) :=
(show T An ((List Int)) from
t_stock_steady_L0 a1 a2 a3 n (0 : Int) (([] : List Int) : List Int)).bind <| fun y4_2 =>
(t_money_Sum n y4_2).bind fun x21 =>
T.ask (decide (x21.2 = 0)) fun x22 =>
T.ret (x22)
theorem x_stock_steady_ok (n : Nat) (a1 : GState) (a2 : Int) (a3 : Int) : (x_stock_steady n a1 a2 a3).run = d_stock_steady n a1 a2 a3 := by
  simp only [x_stock_steady, d_stock_steady, T.rs, T_ixGEnt_ok, T_ixGRoll_ok, T_ixGTransit_ok, T_ixInt_ok, T_ixListInt_ok, t_money_Sum_ok, t_stock_steady_L0_ok]
def t_stock_Bring (n : Nat) (a1 : GState) (a2 : Int) (a3 : Int) (a4 : Int) (a5 : GLayer) : T An (GState × Int × Int × Int) := T.opx An.k9 An.gk9 (d_stock_Bring n a1 a2 a3 a4 a5)
theorem t_stock_Bring_ok (n : Nat) (a1 : GState) (a2 : Int) (a3 : Int) (a4 : Int) (a5 : GLayer) : (t_stock_Bring n a1 a2 a3 a4 a5).run = d_stock_Bring n a1 a2 a3 a4 a5 := T.run_opx (f := An.k9) (g := An.gk9) (fun _ => rfl) _
def x_stock_Bring (n : Nat) (a1 : GState) (a2 : Int) (a3 : Int) (a4 : Int) (a5 : GLayer) : T An (GState × Int × Int × Int) :=
(t_stock_place a1 a2 a3 a4).bind fun x9 =>
T.ask (decide (x9 < 0)) fun x10 =>
cond x10 (T.ret (a1, (0 : Int), (0 : Int), (4 : Int))) ((T_ixListInt a1.Master.Methods a2).bind fun x11 =>
(T_ixInt x11 a3).bind fun x12 =>
(T_ixListInt a1.Master.Costs a2).bind fun x13 =>
(T_ixInt x13 a3).bind fun x14 =>
(T_ixGEnt a1.Ents a2).bind fun x15 =>
(T.ix x15.Pools x9).bind fun x16 =>
(t_pool_In n x12 x14 x16 a5).bind fun x17 =>
T.ask (decide (x17.2.2 ≠ 0)) fun x19 =>
cond x19 (T.ret (a1, (0 : Int), (0 : Int), (x17.2.2 : Int))) ((show T An ((Int × Bool × (List Int) × (List GRoll) × (List Int) × (List Int) × (List GEnt) × (List GPool))) from
(show T An ((Unit)) from
T.asrt (a1.Ents.length ≤ 68719476736) <|
(T_ixGEnt a1.Ents a2).bind fun x26 =>
T.ret ()).bind <| fun _ =>
(T_ixGEnt a1.Ents a2).bind fun x27 =>
T.asrt (x27.Pools.length ≤ 68719476736) <|
(T.ix x27.Pools x9).bind fun x30 =>
T.bnd (x27.Pools.set (Int.toNat x9) x17.1) fun x31 =>
T.ret ((x27.Now : Int), x27.Closed, x27.Bal, x27.Rolls, x27.Prices, x27.Down, x27.Ahead, x31)).bind <| p2 fun (y1_2 : Int) (q0 : Bool × (List Int) × (List GRoll) × (List Int) × (List Int) × (List GEnt) × (List GPool)) => (p2 fun y1_3 (q1 : (List Int) × (List GRoll) × (List Int) × (List Int) × (List GEnt) × (List GPool)) => (p2 fun y1_5 (q2 : (List GRoll) × (List Int) × (List Int) × (List GEnt) × (List GPool)) => (p2 fun y1_6 (q3 : (List Int) × (List Int) × (List GEnt) × (List GPool)) => (p2 fun y1_7 (q4 : (List Int) × (List GEnt) × (List GPool)) => (p2 fun y1_8 (q5 : (List GEnt) × (List GPool)) => (p2 fun y1_9 y1_10 =>
(T_ixGEnt a1.Ents a2).bind fun x32 =>
(t_stock_worth n (⟨a1.Master, (a1.Ents.set (Int.toNat a2) (⟨y1_2, y1_3, y1_10, y1_5, y1_6, y1_7, y1_8, y1_9⟩ : GEnt)), a1.Receipts, a1.Sales, a1.Transits, a1.Done⟩ : GState) a2 a3).bind fun x33 =>
(show T An (Bool) from
T.bnd (!x33.2) fun x36 =>
cond x36 (T.ret true) ((t_stock_steady n (⟨a1.Master, (a1.Ents.set (Int.toNat a2) (⟨y1_2, y1_3, y1_10, y1_5, y1_6, y1_7, y1_8, y1_9⟩ : GEnt)), a1.Receipts, a1.Sales, a1.Transits, a1.Done⟩ : GState) a2 a3).bind fun x37 =>
T.bnd (!x37) fun x38 =>
T.ret x38)).bind <| fun y2_1 =>
cond y2_1 (T.ret (a1, (0 : Int), (0 : Int), (2 : Int))) (T.wr (a5.Value - x17.2.1) fun x39 =>
T.ret (((⟨a1.Master, (a1.Ents.set (Int.toNat a2) (⟨y1_2, y1_3, y1_10, y1_5, y1_6, y1_7, y1_8, y1_9⟩ : GEnt)), a1.Receipts, a1.Sales, a1.Transits, a1.Done⟩ : GState) : GState), (x39 : Int), (x17.2.1 : Int), (0 : Int)))) q5) q4) q3) q2) q1) q0))
theorem x_stock_Bring_ok (n : Nat) (a1 : GState) (a2 : Int) (a3 : Int) (a4 : Int) (a5 : GLayer) : (x_stock_Bring n a1 a2 a3 a4 a5).run = d_stock_Bring n a1 a2 a3 a4 a5 := by
  simp only [x_stock_Bring, d_stock_Bring, T.rs, T_ixGEnt_ok, T_ixGRoll_ok, T_ixGTransit_ok, T_ixInt_ok, T_ixListInt_ok, t_pool_In_ok, t_stock_place_ok, t_stock_steady_ok, t_stock_worth_ok]
def t_ship_line (a1 : Int) (a2 : Int) : T An (GLine) :=
T.ret (((⟨a1, a2⟩ : GLine) : GLine))
theorem t_ship_line_ok (a1 : Int) (a2 : Int) : (t_ship_line a1 a2).run = d_ship_line a1 a2 := by
  simp only [t_ship_line, d_ship_line, T.rs, T_ixGEnt_ok, T_ixGRoll_ok, T_ixGTransit_ok, T_ixInt_ok, T_ixListInt_ok]
def t_voucher_is (a1 : Int) : T An (Bool) :=
(show T An (Bool) from
T.ask (decide (a1 ≥ 0)) fun x3 =>
cond x3 (T.ask (decide (a1 < 17)) fun x4 =>
T.ret x4) (T.ret false)).bind <| fun y0_1 =>
T.ret (y0_1)
theorem t_voucher_is_ok (a1 : Int) : (t_voucher_is a1).run = d_voucher_is a1 := by
  simp only [t_voucher_is, d_voucher_is, T.rs, T_ixGEnt_ok, T_ixGRoll_ok, T_ixGTransit_ok, T_ixInt_ok, T_ixListInt_ok]
def t_voucher_in (a1 : Int) : T An (Bool) :=
(show T An (Bool) from
T.ask (decide (a1 ≥ (-288230376151711744))) fun x3 =>
cond x3 (T.ask (decide (a1 ≤ 288230376151711744)) fun x4 =>
T.ret x4) (T.ret false)).bind <| fun y0_1 =>
T.ret (y0_1)
theorem t_voucher_in_ok (a1 : Int) : (t_voucher_in a1).run = d_voucher_in a1 := by
  simp only [t_voucher_in, d_voucher_in, T.rs, T_ixGEnt_ok, T_ixGRoll_ok, T_ixGTransit_ok, T_ixInt_ok, T_ixListInt_ok]
def t_voucher_Plain_1 (a1 : GLine) : T An (Bool) :=
(show T An (Bool) from
(t_voucher_is a1.Account).bind fun x4 =>
T.bnd (!x4) fun x5 =>
cond x5 (T.ret true) ((t_voucher_in a1.Amount).bind fun x6 =>
T.bnd (!x6) fun x7 =>
T.ret x7)).bind <| fun y0_1 =>
T.ret (y0_1)
theorem t_voucher_Plain_1_ok (a1 : GLine) : (t_voucher_Plain_1 a1).run = d_voucher_Plain_1 a1 := by
  simp only [t_voucher_Plain_1, d_voucher_Plain_1, T.rs, T_ixGEnt_ok, T_ixGRoll_ok, T_ixGTransit_ok, T_ixInt_ok, T_ixListInt_ok, t_voucher_in_ok, t_voucher_is_ok]
def t_voucher_Plain_2 (a1 : GLine) : T An (Int) :=
T.ret ((a1.Account : Int))
theorem t_voucher_Plain_2_ok (a1 : GLine) : (t_voucher_Plain_2 a1).run = d_voucher_Plain_2 a1 := by
  simp only [t_voucher_Plain_2, d_voucher_Plain_2, T.rs, T_ixGEnt_ok, T_ixGRoll_ok, T_ixGTransit_ok, T_ixInt_ok, T_ixListInt_ok]
def t_cmp_isNaN_int (a1 : Int) : T An (Bool) :=
T.ask (decide (a1 ≠ a1)) fun x2 =>
T.ret (x2)
theorem t_cmp_isNaN_int_ok (a1 : Int) : (t_cmp_isNaN_int a1).run = d_cmp_isNaN_int a1 := by
  simp only [t_cmp_isNaN_int, d_cmp_isNaN_int, T.rs, T_ixGEnt_ok, T_ixGRoll_ok, T_ixGTransit_ok, T_ixInt_ok, T_ixListInt_ok]
def t_cmp_Compare_int (a1 : Int) (a2 : Int) : T An (Int) :=
(t_cmp_isNaN_int a1).bind fun x3 =>
(t_cmp_isNaN_int a2).bind fun x4 =>
cond x3 (cond x4 (T.ret ((0 : Int))) (T.ret (((-1) : Int)))) (cond x4 (T.ret ((1 : Int))) (T.ask (decide (a1 < a2)) fun x5 =>
cond x5 (T.ret (((-1) : Int))) (T.ask (decide (a1 > a2)) fun x6 =>
cond x6 (T.ret ((1 : Int))) (T.ret ((0 : Int))))))
theorem t_cmp_Compare_int_ok (a1 : Int) (a2 : Int) : (t_cmp_Compare_int a1 a2).run = d_cmp_Compare_int a1 a2 := by
  simp only [t_cmp_Compare_int, d_cmp_Compare_int, T.rs, T_ixGEnt_ok, T_ixGRoll_ok, T_ixGTransit_ok, T_ixInt_ok, T_ixListInt_ok, t_cmp_isNaN_int_ok]
def t_voucher_Plain_3 (a1 : GLine) : T An (Bool) :=
T.ask (decide (a1.Amount = 0)) fun x3 =>
T.ret (x3)
theorem t_voucher_Plain_3_ok (a1 : GLine) : (t_voucher_Plain_3 a1).run = d_voucher_Plain_3 a1 := by
  simp only [t_voucher_Plain_3, d_voucher_Plain_3, T.rs, T_ixGEnt_ok, T_ixGRoll_ok, T_ixGTransit_ok, T_ixInt_ok, T_ixListInt_ok]
def t_voucher_Plain_L0 (a1 : List GLine) : Nat → Int → T An ((Unit) ⊕ ((Int)))
  | 0, _ => T.fail
  | n + 1, y0_1 =>
    T.ask (decide (y0_1 < (a1.length : Int))) fun x5 =>
    cond x5 ((T.ix a1 y0_1).bind fun x6 =>
    (t_voucher_Plain_1 x6).bind fun x7 =>
    cond x7 (T.esc (T.ret (y0_1 : Int))) (T.wr (y0_1 + 1) fun x8 =>
    t_voucher_Plain_L0 a1 n (x8 : Int))) (T.brk ())
theorem t_voucher_Plain_L0_ok (a1 : List GLine) : ∀ (n : Nat) (z0 : Int), (t_voucher_Plain_L0 a1 n z0).run = d_voucher_Plain_L0 a1 n z0
  | 0, _ => rfl
  | n + 1, z0 => by
    simp only [t_voucher_Plain_L0, d_voucher_Plain_L0, T.rs, T_ixGEnt_ok, T_ixGRoll_ok, T_ixGTransit_ok, T_ixInt_ok, T_ixListInt_ok, t_voucher_Plain_1_ok, t_voucher_Plain_L0_ok a1 n]
def t_voucher_Plain_L1 (a1 : List GLine) : Nat → T An (Unit)
  | 0 => T.fail
  | n + 1 =>
    T.ask (decide (20 ≤ (a1.length : Int))) fun x18 =>
    T.asrt (x18 = false) <|
    T.ret ()
theorem t_voucher_Plain_L1_ok (a1 : List GLine) : ∀ (n : Nat), (t_voucher_Plain_L1 a1 n ).run = d_voucher_Plain_L1 a1 n 
  | 0 => rfl
  | n + 1 => by
    simp only [t_voucher_Plain_L1, d_voucher_Plain_L1, T.rs, T_ixGEnt_ok, T_ixGRoll_ok, T_ixGTransit_ok, T_ixInt_ok, T_ixListInt_ok, t_voucher_Plain_L1_ok a1 n]
def t_voucher_Plain_L3 : Nat → Int → (List GLine) → T An ((List GLine))
  | 0, _, _ => T.fail
  | n + 1, y7_1, y7_2 =>
    (show T An (Bool) from
    T.ask (decide (y7_1 > 0)) fun x26 =>
    cond x26 ((T.ix y7_2 y7_1).bind fun x27 =>
    T.wr (y7_1 - 1) fun x28 =>
    (T.ix y7_2 x28).bind fun x29 =>
    (show T An ((Int)) from
    (t_voucher_Plain_2 x27).bind fun x33 =>
    (t_voucher_Plain_2 x29).bind fun x34 =>
    (t_cmp_Compare_int x33 x34).bind fun x35 =>
    T.ret (x35 : Int)).bind <| fun y8_1 =>
    T.ask (decide (y8_1 < 0)) fun x36 =>
    T.ret x36) (T.ret false)).bind <| fun y10_1 =>
    cond y10_1 (T.wr (y7_1 - 1) fun x37 =>
    T.wr (y7_1 - 1) fun x38 =>
    (T.ix y7_2 x38).bind fun x39 =>
    (T.ix y7_2 y7_1).bind fun x40 =>
    T.bnd (y7_2.set (Int.toNat y7_1) x39) fun x41 =>
    (T.ix x41 x37).bind fun x42 =>
    T.bnd (x41.set (Int.toNat x37) x40) fun x43 =>
    T.wr (y7_1 - 1) fun x44 =>
    t_voucher_Plain_L3 n (x44 : Int) x43) (T.ret y7_2)
theorem t_voucher_Plain_L3_ok  : ∀ (n : Nat) (z0 : Int) (z1 : (List GLine)), (t_voucher_Plain_L3  n z0 z1).run = d_voucher_Plain_L3  n z0 z1
  | 0, _, _ => rfl
  | n + 1, z0, z1 => by
    simp only [t_voucher_Plain_L3, d_voucher_Plain_L3, T.rs, T_ixGEnt_ok, T_ixGRoll_ok, T_ixGTransit_ok, T_ixInt_ok, T_ixListInt_ok, t_cmp_Compare_int_ok, t_voucher_Plain_2_ok, t_voucher_Plain_L3_ok  n]
def t_voucher_Plain_L2 (a1 : List GLine) : Nat → Int → (List GLine) → T An ((List GLine))
  | 0, _, _ => T.fail
  | n + 1, y6_1, y6_2 =>
    T.ask (decide (y6_1 < (a1.length : Int))) fun x22 =>
    cond x22 ((show T An ((List GLine)) from
    (show T An ((List GLine)) from
    t_voucher_Plain_L3 n (y6_1 : Int) y6_2).bind <| fun y11_1 =>
    T.ret y11_1).bind <| fun y12_1 =>
    T.wr (y6_1 + 1) fun x45 =>
    t_voucher_Plain_L2 a1 n (x45 : Int) y12_1) (T.ret y6_2)
theorem t_voucher_Plain_L2_ok (a1 : List GLine) : ∀ (n : Nat) (z0 : Int) (z1 : (List GLine)), (t_voucher_Plain_L2 a1 n z0 z1).run = d_voucher_Plain_L2 a1 n z0 z1
  | 0, _, _ => rfl
  | n + 1, z0, z1 => by
    simp only [t_voucher_Plain_L2, d_voucher_Plain_L2, T.rs, T_ixGEnt_ok, T_ixGRoll_ok, T_ixGTransit_ok, T_ixInt_ok, T_ixListInt_ok, t_voucher_Plain_L3_ok, t_voucher_Plain_L2_ok a1 n]
def t_voucher_Plain_L4 (a1 : List GLine) : Nat → T An (Unit)
  | 0 => T.fail
  | n + 1 =>
    T.ask (decide (20 < (a1.length : Int))) fun x48 =>
    T.asrt (x48 = false) <|
    T.ret ()
theorem t_voucher_Plain_L4_ok (a1 : List GLine) : ∀ (n : Nat), (t_voucher_Plain_L4 a1 n ).run = d_voucher_Plain_L4 a1 n 
  | 0 => rfl
  | n + 1 => by
    simp only [t_voucher_Plain_L4, d_voucher_Plain_L4, T.rs, T_ixGEnt_ok, T_ixGRoll_ok, T_ixGTransit_ok, T_ixInt_ok, T_ixListInt_ok, t_voucher_Plain_L4_ok a1 n]
def t_voucher_Plain_L5 (a1 : List GLine) (y19_1 : List GLine) : Nat → Int → (List GLine) → T An (((List GLine)) ⊕ ((List GLine) × Int))
  | 0, _, _ => T.fail
  | n + 1, y20_2, y20_3 =>
    T.ask (decide (y20_2 < (a1.length : Int))) fun x53 =>
    cond x53 ((show T An (((List GLine)) ⊕ (((List GLine)) ⊕ ((List GLine) × Int))) from
    (T.ix y19_1 y20_2).bind fun x55 =>
    T.wr ((y20_3.length : Int) - 1) fun x57 =>
    (show T An (Bool) from
    T.ask (decide (x57 ≥ 0)) fun x59 =>
    cond x59 ((T.ix y20_3 x57).bind fun x60 =>
    T.ask (decide (x60.Account = x55.Account)) fun x61 =>
    T.ret x61) (T.ret false)).bind <| fun y21_1 =>
    cond y21_1 ((T.ix y20_3 x57).bind fun x65 =>
    (t_money_Add x65.Amount x55.Amount).bind fun x66 =>
    T.ask (decide (x66.2 ≠ 0)) fun x67 =>
    cond x67 (T.esc (T.esc (T.ret (([] : List GLine), (x66.2 : Int))))) (T.bnd (y20_3.set (Int.toNat x57) ((⟨x65.Account, x66.1⟩ : GLine) : GLine)) fun x68 =>
    T.brk x68)) (T.bnd (y20_3 ++ ([x55] : List GLine)) fun x62 =>
    T.asrt (x62.length ≤ 68719476736) <|
    T.brk x62)).bind <| T.sel <| fun y22_2 =>
    T.wr (y20_2 + 1) fun x71 =>
    t_voucher_Plain_L5 a1 y19_1 n (x71 : Int) y22_2) (T.brk y20_3)
theorem t_voucher_Plain_L5_ok (a1 : List GLine) (y19_1 : List GLine) : ∀ (n : Nat) (z0 : Int) (z1 : (List GLine)), (t_voucher_Plain_L5 a1 y19_1 n z0 z1).run = d_voucher_Plain_L5 a1 y19_1 n z0 z1
  | 0, _, _ => rfl
  | n + 1, z0, z1 => by
    simp only [t_voucher_Plain_L5, d_voucher_Plain_L5, T.rs, T_ixGEnt_ok, T_ixGRoll_ok, T_ixGTransit_ok, T_ixInt_ok, T_ixListInt_ok, t_money_Add_ok, t_voucher_Plain_L5_ok a1 y19_1 n]
def t_voucher_Plain_L6 (y23_2 : List GLine) : Nat → Int → T An ((Unit) ⊕ ((Int)))
  | 0, _ => T.fail
  | n + 1, y24_1 =>
    T.ask (decide (y24_1 < (y23_2.length : Int))) fun x75 =>
    cond x75 ((T.ix y23_2 y24_1).bind fun x76 =>
    (t_voucher_Plain_3 x76).bind fun x77 =>
    cond x77 (T.esc (T.ret (y24_1 : Int))) (T.wr (y24_1 + 1) fun x78 =>
    t_voucher_Plain_L6 y23_2 n (x78 : Int))) (T.brk ())
theorem t_voucher_Plain_L6_ok (y23_2 : List GLine) : ∀ (n : Nat) (z0 : Int), (t_voucher_Plain_L6 y23_2 n z0).run = d_voucher_Plain_L6 y23_2 n z0
  | 0, _ => rfl
  | n + 1, z0 => by
    simp only [t_voucher_Plain_L6, d_voucher_Plain_L6, T.rs, T_ixGEnt_ok, T_ixGRoll_ok, T_ixGTransit_ok, T_ixInt_ok, T_ixListInt_ok, t_voucher_Plain_3_ok, t_voucher_Plain_L6_ok y23_2 n]
def t_voucher_Plain_L7 : Nat → Int → Int → (List GLine) → T An (Int × (List GLine))
  | 0, _, _, _ => T.fail
  | n + 1, y27_1, y27_2, y27_3 =>
    T.ask (decide (y27_2 < (y27_3.length : Int))) fun x83 =>
    cond x83 ((show T An (Int × (List GLine)) from
    (T.ix y27_3 y27_2).bind fun x85 =>
    (t_voucher_Plain_3 x85).bind fun x87 =>
    T.bnd (!x87) fun x88 =>
    cond x88 ((T.ix y27_3 y27_1).bind fun x89 =>
    T.bnd (y27_3.set (Int.toNat y27_1) x85) fun x90 =>
    T.wr (y27_1 + 1) fun x91 =>
    T.ret ((x91 : Int), x90)) (T.ret ((y27_1 : Int), y27_3))).bind <| p2 fun (y28_1 : Int) y28_2 =>
    T.wr (y27_2 + 1) fun x92 =>
    t_voucher_Plain_L7 n (y28_1 : Int) (x92 : Int) y28_2) (T.ret ((y27_1 : Int), y27_3))
theorem t_voucher_Plain_L7_ok  : ∀ (n : Nat) (z0 : Int) (z1 : Int) (z2 : (List GLine)), (t_voucher_Plain_L7  n z0 z1 z2).run = d_voucher_Plain_L7  n z0 z1 z2
  | 0, _, _, _ => rfl
  | n + 1, z0, z1, z2 => by
    simp only [t_voucher_Plain_L7, d_voucher_Plain_L7, T.rs, T_ixGEnt_ok, T_ixGRoll_ok, T_ixGTransit_ok, T_ixInt_ok, T_ixListInt_ok, t_voucher_Plain_3_ok, t_voucher_Plain_L7_ok  n]
def t_voucher_Plain (n : Nat) (a1 : List GLine) : T An ((List GLine) × Int) :=
(show T An ((Bool)) from
(show T An ((Int)) from
(show T An ((Unit) ⊕ ((Int))) from
t_voucher_Plain_L0 a1 n (0 : Int)).bind <| T.sel <| fun _ =>
T.ret ((-1) : Int)).bind <| fun y2_1 =>
T.ask (decide (y2_1 ≥ 0)) fun x10 =>
T.ret x10).bind <| fun y3_1 =>
cond y3_1 (T.ret (([] : List GLine), (1 : Int))) (T.asrt (a1.length ≤ 68719476736) <|
(show T An (((List GLine))) from
(show T An (((List GLine))) from
(show T An (((List GLine))) from
(show T An (Unit) from
t_voucher_Plain_L1 a1 n).bind <| fun _ =>
(show T An (((List GLine))) from
(show T An ((List GLine)) from
t_voucher_Plain_L2 a1 n (1 : Int) a1).bind <| fun y13_1 =>
T.ret y13_1).bind <| fun y14_1 =>
T.asrt (y14_1.length = a1.length) <|
(show T An (Unit) from
t_voucher_Plain_L4 a1 n).bind <| fun _ =>
T.ret y14_1).bind <| fun y17_1 =>
T.ret y17_1).bind <| fun y18_1 =>
T.ret y18_1).bind <| fun y19_1 =>
T.asrt (y19_1.length = a1.length) <|
(show T An (((List GLine)) ⊕ ((List GLine) × Int)) from
t_voucher_Plain_L5 a1 y19_1 n (0 : Int) (([] : List GLine) : List GLine)).bind <| T.sel <| fun y23_2 =>
(show T An ((Nat × Nat × (List GLine))) from
(show T An ((Int)) from
(show T An ((Unit) ⊕ ((Int))) from
t_voucher_Plain_L6 y23_2 n (0 : Int)).bind <| T.sel <| fun _ =>
T.ret ((-1) : Int)).bind <| fun y26_1 =>
T.ask (decide (y26_1 = (-1))) fun x80 =>
cond x80 (T.ret ((0 : Nat), (y23_2.length : Nat), y23_2)) (T.wr (y26_1 + 1) fun x81 =>
(show T An (Int × (List GLine)) from
t_voucher_Plain_L7 n (y26_1 : Int) (x81 : Int) y23_2).bind <| p2 fun (y29_1 : Int) y29_2 =>
T.asrt ((0 : Int) ≤ y29_1 ∧ y29_1 < (y29_2.length : Int)) <|
T.bnd (y29_2.take (0 + y29_1.toNat)) fun x94 =>
T.asrt ((0 : Int) ≤ y29_1 ∧ y29_1 ≤ (y29_2.length : Int)) <|
T.ret (((0 + 0) : Nat), ((y29_1.toNat - 0) : Nat), x94))).bind <| p2 fun (y30_1 : Nat) (q0 : Nat × (List GLine)) => (p2 fun (y30_2 : Nat) y30_3 =>
T.asrt (y30_1 + y30_2 ≤ y30_3.length) <|
T.ret (((((y30_3).drop y30_1).take y30_2) : List GLine), (0 : Int))) q0)
theorem t_voucher_Plain_ok (n : Nat) (a1 : List GLine) : (t_voucher_Plain n a1).run = d_voucher_Plain n a1 := by
  simp only [t_voucher_Plain, d_voucher_Plain, T.rs, T_ixGEnt_ok, T_ixGRoll_ok, T_ixGTransit_ok, T_ixInt_ok, T_ixListInt_ok, t_voucher_Plain_L0_ok, t_voucher_Plain_L1_ok, t_voucher_Plain_L2_ok, t_voucher_Plain_L4_ok, t_voucher_Plain_L5_ok, t_voucher_Plain_L6_ok, t_voucher_Plain_L7_ok]
def t_voucher_sum_L0 (a1 : List GLine) : Nat → Int → (List Int) → T An ((List Int))
  | 0, _, _ => T.fail
  | n + 1, y0_2, y0_3 =>
    T.ask (decide (y0_2 < (a1.length : Int))) fun x4 =>
    cond x4 ((T.ix a1 y0_2).bind fun x5 =>
    T.bnd (y0_3 ++ ([x5.Amount] : List Int)) fun x7 =>
    T.asrt (x7.length ≤ 68719476736) <|
    T.wr (y0_2 + 1) fun x10 =>
    t_voucher_sum_L0 a1 n (x10 : Int) x7) (T.ret y0_3)
theorem t_voucher_sum_L0_ok (a1 : List GLine) : ∀ (n : Nat) (z0 : Int) (z1 : (List Int)), (t_voucher_sum_L0 a1 n z0 z1).run = d_voucher_sum_L0 a1 n z0 z1
  | 0, _, _ => rfl
  | n + 1, z0, z1 => by
    simp only [t_voucher_sum_L0, d_voucher_sum_L0, T.rs, T_ixGEnt_ok, T_ixGRoll_ok, T_ixGTransit_ok, T_ixInt_ok, T_ixListInt_ok, t_voucher_sum_L0_ok a1 n]
def t_voucher_sum (n : Nat) (a1 : List GLine) : T An (Int × Int) :=
(show T An ((List Int)) from
t_voucher_sum_L0 a1 n (0 : Int) (([] : List Int) : List Int)).bind <| fun y1_2 =>
(t_money_Sum n y1_2).bind fun x11 =>
T.ret ((x11.1 : Int), (x11.2 : Int))
theorem t_voucher_sum_ok (n : Nat) (a1 : List GLine) : (t_voucher_sum n a1).run = d_voucher_sum n a1 := by
  simp only [t_voucher_sum, d_voucher_sum, T.rs, T_ixGEnt_ok, T_ixGRoll_ok, T_ixGTransit_ok, T_ixInt_ok, T_ixListInt_ok, t_money_Sum_ok, t_voucher_sum_L0_ok]
def t_voucher_Check_1 (a1 : GLine) : T An (Bool) :=
(show T An (Bool) from
(t_voucher_is a1.Account).bind fun x4 =>
T.bnd (!x4) fun x5 =>
cond x5 (T.ret true) (T.ask (decide (a1.Amount = 0)) fun x6 =>
cond x6 (T.ret true) ((t_voucher_in a1.Amount).bind fun x7 =>
T.bnd (!x7) fun x8 =>
T.ret x8))).bind <| fun y0_1 =>
T.ret (y0_1)
theorem t_voucher_Check_1_ok (a1 : GLine) : (t_voucher_Check_1 a1).run = d_voucher_Check_1 a1 := by
  simp only [t_voucher_Check_1, d_voucher_Check_1, T.rs, T_ixGEnt_ok, T_ixGRoll_ok, T_ixGTransit_ok, T_ixInt_ok, T_ixListInt_ok, t_voucher_in_ok, t_voucher_is_ok]
def t_voucher_Check_L0 (a1 : List GLine) : Nat → Int → T An ((Unit) ⊕ ((Int)))
  | 0, _ => T.fail
  | n + 1, y1_1 =>
    T.ask (decide (y1_1 < (a1.length : Int))) fun x10 =>
    cond x10 ((T.ix a1 y1_1).bind fun x11 =>
    (t_voucher_Check_1 x11).bind fun x12 =>
    cond x12 (T.esc (T.ret (y1_1 : Int))) (T.wr (y1_1 + 1) fun x13 =>
    t_voucher_Check_L0 a1 n (x13 : Int))) (T.brk ())
theorem t_voucher_Check_L0_ok (a1 : List GLine) : ∀ (n : Nat) (z0 : Int), (t_voucher_Check_L0 a1 n z0).run = d_voucher_Check_L0 a1 n z0
  | 0, _ => rfl
  | n + 1, z0 => by
    simp only [t_voucher_Check_L0, d_voucher_Check_L0, T.rs, T_ixGEnt_ok, T_ixGRoll_ok, T_ixGTransit_ok, T_ixInt_ok, T_ixListInt_ok, t_voucher_Check_1_ok, t_voucher_Check_L0_ok a1 n]
def t_voucher_Check (n : Nat) (a1 : List GLine) : T An (Bool) :=
(show T An (Bool) from
T.ask (decide ((a1.length : Int) < 1)) fun x3 =>
cond x3 (T.ret true) (T.ask (decide ((a1.length : Int) > 12)) fun x4 =>
T.ret x4)).bind <| fun y0_1 =>
cond y0_1 (T.ret (false)) ((t_voucher_sum n a1).bind fun x5 =>
(show T An (Bool) from
(show T An ((Bool)) from
(show T An ((Int)) from
(show T An ((Unit) ⊕ ((Int))) from
t_voucher_Check_L0 a1 n (0 : Int)).bind <| T.sel <| fun _ =>
T.ret ((-1) : Int)).bind <| fun y3_1 =>
T.ask (decide (y3_1 ≥ 0)) fun x15 =>
T.ret x15).bind <| fun y4_1 =>
T.bnd (!y4_1) fun x16 =>
cond x16 (T.ask (decide (x5.1 = 0)) fun x17 =>
cond x17 (T.ask (decide (x5.2 = 0)) fun x18 =>
T.ret x18) (T.ret false)) (T.ret false)).bind <| fun y5_1 =>
T.ret (y5_1))
theorem t_voucher_Check_ok (n : Nat) (a1 : List GLine) : (t_voucher_Check n a1).run = d_voucher_Check n a1 := by
  simp only [t_voucher_Check, d_voucher_Check, T.rs, T_ixGEnt_ok, T_ixGRoll_ok, T_ixGTransit_ok, T_ixInt_ok, T_ixListInt_ok, t_voucher_Check_L0_ok, t_voucher_sum_ok]
def t_gl_Post_L0 (x9 : (List GLine) × Int) : Nat → Int → (List Int) → T An (((List Int)) ⊕ ((Int × (List Int))))
  | 0, _, _ => T.fail
  | n + 1, y1_1, y1_2 =>
    T.ask (decide (y1_1 < (x9.1.length : Int))) fun x16 =>
    cond x16 ((T.ix x9.1 y1_1).bind fun x17 =>
    (T_ixInt y1_2 x17.Account).bind fun x19 =>
    (t_money_Add x19 x17.Amount).bind fun x20 =>
    T.bnd (y1_2.set (Int.toNat x17.Account) (x20.1 : Int)) fun x21 =>
    T.ask (decide (x20.2 ≠ 0)) fun x22 =>
    cond x22 (T.esc (T.ret ((x20.2 : Int), x21))) (T.wr (y1_1 + 1) fun x23 =>
    t_gl_Post_L0 x9 n (x23 : Int) x21)) (T.brk y1_2)
theorem t_gl_Post_L0_ok (x9 : (List GLine) × Int) : ∀ (n : Nat) (z0 : Int) (z1 : (List Int)), (t_gl_Post_L0 x9 n z0 z1).run = d_gl_Post_L0 x9 n z0 z1
  | 0, _, _ => rfl
  | n + 1, z0, z1 => by
    simp only [t_gl_Post_L0, d_gl_Post_L0, T.rs, T_ixGEnt_ok, T_ixGRoll_ok, T_ixGTransit_ok, T_ixInt_ok, T_ixListInt_ok, t_money_Add_ok, t_gl_Post_L0_ok x9 n]
def t_gl_Post (n : Nat) (a1 : List Int) (a2 : List GLine) : T An ((List Int) × Int) :=
T.ask (decide ((a1.length : Int) ≠ 17)) fun x4 =>
cond x4 (T.ret (([] : List Int), (1 : Int))) ((show T An (((List Int)) ⊕ (Int)) from
T.asrt (a1.length ≤ 68719476736) <|
(show T An ((Int × (List Int))) from
(t_voucher_Plain n a2).bind fun x9 =>
(show T An (Bool) from
T.ask (decide (x9.2 ≠ 0)) fun x11 =>
cond x11 (T.ret true) (T.ask (decide ((x9.1.length : Int) > 0)) fun x12 =>
cond x12 ((t_voucher_Check n x9.1).bind fun x13 =>
T.bnd (!x13) fun x14 =>
T.ret x14) (T.ret false))).bind <| fun y0_1 =>
cond y0_1 (T.ret ((10 : Int), a1)) ((show T An (((List Int)) ⊕ ((Int × (List Int)))) from
t_gl_Post_L0 x9 n (0 : Int) a1).bind <| T.sel <| fun y2_1 =>
T.ret ((0 : Int), y2_1))).bind <| p2 fun (y3_1 : Int) y3_2 =>
T.ask (decide (y3_1 ≠ 0)) fun x25 =>
cond x25 (T.asrt (a1.length ≤ 68719476736) <|
T.ret (.inr (y3_1 : Int))) (T.asrt (y3_2.length = a1.length) <|
T.ret (.inl y3_2))).bind <| T.selr (fun y4_2 =>
T.ret (y4_2, (0 : Int))) <| fun y5_2 =>
T.ret (a1, (y5_2 : Int)))
theorem t_gl_Post_ok (n : Nat) (a1 : List Int) (a2 : List GLine) : (t_gl_Post n a1 a2).run = d_gl_Post n a1 a2 := by
  simp only [t_gl_Post, d_gl_Post, T.rs, T_ixGEnt_ok, T_ixGRoll_ok, T_ixGTransit_ok, T_ixInt_ok, T_ixListInt_ok, t_gl_Post_L0_ok, t_voucher_Check_ok, t_voucher_Plain_ok]
def t_stock_Post (n : Nat) (a1 : GState) (a2 : Int) (a3 : List GLine) : T An (GState × Int) := T.opx An.k10 An.gk10 (d_stock_Post n a1 a2 a3)
theorem t_stock_Post_ok (n : Nat) (a1 : GState) (a2 : Int) (a3 : List GLine) : (t_stock_Post n a1 a2 a3).run = d_stock_Post n a1 a2 a3 := T.run_opx (f := An.k10) (g := An.gk10) (fun _ => rfl) _
def x_stock_Post (n : Nat) (a1 : GState) (a2 : Int) (a3 : List GLine) : T An (GState × Int) :=
(show T An (Bool) from
T.ask (decide (a2 < 0)) fun x7 =>
cond x7 (T.ret true) (T.ask (decide (a2 ≥ (a1.Ents.length : Int))) fun x8 =>
T.ret x8)).bind <| fun y0_1 =>
cond y0_1 (T.ret (a1, (4 : Int))) ((t_voucher_Plain n a3).bind fun x9 =>
T.ask (decide (x9.2 ≠ 0)) fun x10 =>
cond x10 (T.ret (a1, (x9.2 : Int))) ((T_ixGEnt a1.Ents a2).bind fun x11 =>
(t_gl_Post n x11.Bal x9.1).bind fun x12 =>
T.ask (decide (x12.2 ≠ 0)) fun x13 =>
cond x13 (T.ret (a1, (x12.2 : Int))) ((show T An ((Unit)) from
T.asrt (a1.Ents.length ≤ 68719476736) <|
(T_ixGEnt a1.Ents a2).bind fun x18 =>
T.ret ()).bind <| fun _ =>
(T_ixGEnt a1.Ents a2).bind fun x19 =>
T.bnd (a1.Ents.set (Int.toNat a2) ((⟨x19.Now, x19.Closed, x19.Pools, x12.1, x19.Rolls, x19.Prices, x19.Down, x19.Ahead⟩ : GEnt) : GEnt)) fun x20 =>
T.ret (((⟨a1.Master, x20, a1.Receipts, a1.Sales, a1.Transits, a1.Done⟩ : GState) : GState), (0 : Int)))))
theorem x_stock_Post_ok (n : Nat) (a1 : GState) (a2 : Int) (a3 : List GLine) : (x_stock_Post n a1 a2 a3).run = d_stock_Post n a1 a2 a3 := by
  simp only [x_stock_Post, d_stock_Post, T.rs, T_ixGEnt_ok, T_ixGRoll_ok, T_ixGTransit_ok, T_ixInt_ok, T_ixListInt_ok, t_gl_Post_ok, t_voucher_Plain_ok]
def t_ship_post_L0 (a2 : List Gentry) : Nat → Int → GState → T An ((GState) ⊕ (GState × Int))
  | 0, _, _ => T.fail
  | n + 1, y0_1, y0_2 =>
    T.ask (decide (y0_1 < (a2.length : Int))) fun x6 =>
    cond x6 ((T.ix a2 y0_1).bind fun x7 =>
    (t_stock_Post n y0_2 x7.entity x7.lines).bind fun x9 =>
    T.ask (decide (x9.2 ≠ 0)) fun x10 =>
    cond x10 (T.esc (T.ret (x9.1, (x9.2 : Int)))) (T.wr (y0_1 + 1) fun x11 =>
    t_ship_post_L0 a2 n (x11 : Int) x9.1)) (T.brk y0_2)
theorem t_ship_post_L0_ok (a2 : List Gentry) : ∀ (n : Nat) (z0 : Int) (z1 : GState), (t_ship_post_L0 a2 n z0 z1).run = d_ship_post_L0 a2 n z0 z1
  | 0, _, _ => rfl
  | n + 1, z0, z1 => by
    simp only [t_ship_post_L0, d_ship_post_L0, T.rs, T_ixGEnt_ok, T_ixGRoll_ok, T_ixGTransit_ok, T_ixInt_ok, T_ixListInt_ok, t_stock_Post_ok, t_ship_post_L0_ok a2 n]
def t_ship_post (n : Nat) (a1 : GState) (a2 : List Gentry) : T An (GState × Int) :=
(show T An ((GState) ⊕ (GState × Int)) from
t_ship_post_L0 a2 n (0 : Int) a1).bind <| T.sel <| fun y1_1 =>
T.ret (y1_1, (0 : Int))
theorem t_ship_post_ok (n : Nat) (a1 : GState) (a2 : List Gentry) : (t_ship_post n a1 a2).run = d_ship_post n a1 a2 := by
  simp only [t_ship_post, d_ship_post, T.rs, T_ixGEnt_ok, T_ixGRoll_ok, T_ixGTransit_ok, T_ixInt_ok, T_ixListInt_ok, t_ship_post_L0_ok]
def t_stock_Turn (a1 : GState) (a2 : Int) (a3 : Int) (a4 : GRoll) : T An (GState × Int) := T.opx An.k10 An.gk10 (d_stock_Turn a1 a2 a3 a4)
theorem t_stock_Turn_ok (a1 : GState) (a2 : Int) (a3 : Int) (a4 : GRoll) : (t_stock_Turn a1 a2 a3 a4).run = d_stock_Turn a1 a2 a3 a4 := T.run_opx (f := An.k10) (g := An.gk10) (fun _ => rfl) _
def x_stock_Turn (a1 : GState) (a2 : Int) (a3 : Int) (a4 : GRoll) : T An (GState × Int) :=
(t_stock_is a1 a2 a3).bind fun x8 =>
T.bnd (!x8) fun x9 =>
cond x9 (T.ret (a1, (4 : Int))) ((T_ixGEnt a1.Ents a2).bind fun x10 =>
(T_ixGRoll x10.Rolls a3).bind fun x11 =>
(show T An ((Unit)) from
T.ret ()).bind <| fun _ =>
(show T An ((GRoll) ⊕ (GState × Int)) from
(T_ixInt ([a4.Open, a4.Bought, a4.Landed, a4.Arrived, a4.Returned, a4.Sold, a4.Shipped, a4.SentBack, a4.Scrapped, a4.Lost, a4.Revalued] : List Int) 0).bind fun x16 =>
(show T An ((Unit)) from
T.ret ()).bind <| fun _ =>
(t_money_Add x11.Open x16).bind fun x18 =>
T.ask (decide (x18.2 ≠ 0)) fun x19 =>
cond x19 (T.esc (T.ret (a1, (x18.2 : Int)))) ((T_ixInt ([a4.Open, a4.Bought, a4.Landed, a4.Arrived, a4.Returned, a4.Sold, a4.Shipped, a4.SentBack, a4.Scrapped, a4.Lost, a4.Revalued] : List Int) 1).bind fun x20 =>
(show T An ((Unit)) from
T.ret ()).bind <| fun _ =>
(t_money_Add x11.Bought x20).bind fun x22 =>
T.ask (decide (x22.2 ≠ 0)) fun x23 =>
cond x23 (T.esc (T.ret (a1, (x22.2 : Int)))) ((T_ixInt ([a4.Open, a4.Bought, a4.Landed, a4.Arrived, a4.Returned, a4.Sold, a4.Shipped, a4.SentBack, a4.Scrapped, a4.Lost, a4.Revalued] : List Int) 2).bind fun x24 =>
(show T An ((Unit)) from
T.ret ()).bind <| fun _ =>
(t_money_Add x11.Landed x24).bind fun x26 =>
T.ask (decide (x26.2 ≠ 0)) fun x27 =>
cond x27 (T.esc (T.ret (a1, (x26.2 : Int)))) ((T_ixInt ([a4.Open, a4.Bought, a4.Landed, a4.Arrived, a4.Returned, a4.Sold, a4.Shipped, a4.SentBack, a4.Scrapped, a4.Lost, a4.Revalued] : List Int) 3).bind fun x28 =>
(show T An ((Unit)) from
T.ret ()).bind <| fun _ =>
(t_money_Add x11.Arrived x28).bind fun x30 =>
T.ask (decide (x30.2 ≠ 0)) fun x31 =>
cond x31 (T.esc (T.ret (a1, (x30.2 : Int)))) ((T_ixInt ([a4.Open, a4.Bought, a4.Landed, a4.Arrived, a4.Returned, a4.Sold, a4.Shipped, a4.SentBack, a4.Scrapped, a4.Lost, a4.Revalued] : List Int) 4).bind fun x32 =>
(show T An ((Unit)) from
T.ret ()).bind <| fun _ =>
(t_money_Add x11.Returned x32).bind fun x34 =>
T.ask (decide (x34.2 ≠ 0)) fun x35 =>
cond x35 (T.esc (T.ret (a1, (x34.2 : Int)))) ((T_ixInt ([a4.Open, a4.Bought, a4.Landed, a4.Arrived, a4.Returned, a4.Sold, a4.Shipped, a4.SentBack, a4.Scrapped, a4.Lost, a4.Revalued] : List Int) 5).bind fun x36 =>
(show T An ((Unit)) from
T.ret ()).bind <| fun _ =>
(t_money_Add x11.Sold x36).bind fun x38 =>
T.ask (decide (x38.2 ≠ 0)) fun x39 =>
cond x39 (T.esc (T.ret (a1, (x38.2 : Int)))) ((T_ixInt ([a4.Open, a4.Bought, a4.Landed, a4.Arrived, a4.Returned, a4.Sold, a4.Shipped, a4.SentBack, a4.Scrapped, a4.Lost, a4.Revalued] : List Int) 6).bind fun x40 =>
(show T An ((Unit)) from
T.ret ()).bind <| fun _ =>
(t_money_Add x11.Shipped x40).bind fun x42 =>
T.ask (decide (x42.2 ≠ 0)) fun x43 =>
cond x43 (T.esc (T.ret (a1, (x42.2 : Int)))) ((T_ixInt ([a4.Open, a4.Bought, a4.Landed, a4.Arrived, a4.Returned, a4.Sold, a4.Shipped, a4.SentBack, a4.Scrapped, a4.Lost, a4.Revalued] : List Int) 7).bind fun x44 =>
(show T An ((Unit)) from
T.ret ()).bind <| fun _ =>
(t_money_Add x11.SentBack x44).bind fun x46 =>
T.ask (decide (x46.2 ≠ 0)) fun x47 =>
cond x47 (T.esc (T.ret (a1, (x46.2 : Int)))) ((T_ixInt ([a4.Open, a4.Bought, a4.Landed, a4.Arrived, a4.Returned, a4.Sold, a4.Shipped, a4.SentBack, a4.Scrapped, a4.Lost, a4.Revalued] : List Int) 8).bind fun x48 =>
(show T An ((Unit)) from
T.ret ()).bind <| fun _ =>
(t_money_Add x11.Scrapped x48).bind fun x50 =>
T.ask (decide (x50.2 ≠ 0)) fun x51 =>
cond x51 (T.esc (T.ret (a1, (x50.2 : Int)))) ((T_ixInt ([a4.Open, a4.Bought, a4.Landed, a4.Arrived, a4.Returned, a4.Sold, a4.Shipped, a4.SentBack, a4.Scrapped, a4.Lost, a4.Revalued] : List Int) 9).bind fun x52 =>
(show T An ((Unit)) from
T.ret ()).bind <| fun _ =>
(t_money_Add x11.Lost x52).bind fun x54 =>
T.ask (decide (x54.2 ≠ 0)) fun x55 =>
cond x55 (T.esc (T.ret (a1, (x54.2 : Int)))) ((T_ixInt ([a4.Open, a4.Bought, a4.Landed, a4.Arrived, a4.Returned, a4.Sold, a4.Shipped, a4.SentBack, a4.Scrapped, a4.Lost, a4.Revalued] : List Int) 10).bind fun x56 =>
(show T An ((Unit)) from
T.ret ()).bind <| fun _ =>
(t_money_Add x11.Revalued x56).bind fun x58 =>
T.ask (decide (x58.2 ≠ 0)) fun x59 =>
cond x59 (T.esc (T.ret (a1, (x58.2 : Int)))) (T.brk ((⟨x18.1, x22.1, x26.1, x30.1, x34.1, x38.1, x42.1, x46.1, x50.1, x54.1, x58.1⟩ : GRoll) : GRoll))))))))))))).bind <| T.sel <| fun y2_1 =>
(show T An ((Unit)) from
T.asrt (a1.Ents.length ≤ 68719476736) <|
(T_ixGEnt a1.Ents a2).bind fun x75 =>
T.ret ()).bind <| fun _ =>
(T_ixGEnt a1.Ents a2).bind fun x76 =>
T.asrt (x76.Rolls.length ≤ 68719476736) <|
(T_ixGRoll x76.Rolls a3).bind fun x79 =>
T.bnd (x76.Rolls.set (Int.toNat a3) y2_1) fun x80 =>
T.ret (((⟨a1.Master, (a1.Ents.set (Int.toNat a2) (⟨x76.Now, x76.Closed, x76.Pools, x76.Bal, x80, x76.Prices, x76.Down, x76.Ahead⟩ : GEnt)), a1.Receipts, a1.Sales, a1.Transits, a1.Done⟩ : GState) : GState), (0 : Int)))
theorem x_stock_Turn_ok (a1 : GState) (a2 : Int) (a3 : Int) (a4 : GRoll) : (x_stock_Turn a1 a2 a3 a4).run = d_stock_Turn a1 a2 a3 a4 := by
  simp only [x_stock_Turn, d_stock_Turn, T.rs, T_ixGEnt_ok, T_ixGRoll_ok, T_ixGTransit_ok, T_ixInt_ok, T_ixListInt_ok, t_money_Add_ok, t_stock_is_ok]
def t_ship_arrive (n : Nat) (a1 : GState) (a2 : GOp) : T An (GState × Int) :=
(show T An (Bool) from
T.ask (decide (a2.Ref < 0)) fun x7 =>
cond x7 (T.ret true) (T.ask (decide (a2.Ref ≥ (a1.Transits.length : Int))) fun x8 =>
T.ret x8)).bind <| fun y0_1 =>
cond y0_1 (T.ret (a1, (4 : Int))) ((T_ixGTransit a1.Transits a2.Ref).bind fun x9 =>
(t_stock_Ready a1 x9.To x9.Item).bind fun x11 =>
T.ask (decide (x11 ≠ 0)) fun x12 =>
cond x12 (T.ret (a1, (x11 : Int))) (T.ask (decide (a2.Qty > x9.Qty)) fun x13 =>
cond x13 (T.ret (a1, (5 : Int))) ((t_money_Part n x9.Value a2.Qty x9.Qty).bind fun x14 =>
(t_money_Part n x9.Profit a2.Qty x9.Qty).bind fun x15 =>
(t_stock_Bring n a1 x9.To x9.Item a2.Loc (⟨a2.Qty, x14, x15⟩ : GLayer)).bind fun x16 =>
T.ask (decide (x16.2.2.2 ≠ 0)) fun x17 =>
cond x17 (T.ret (x16.1, (x16.2.2.2 : Int))) ((t_ship_line 0 x16.2.1).bind fun x18 =>
(t_ship_line 6 x16.2.2.1).bind fun x19 =>
T.wr (0 - x14) fun x20 =>
(t_ship_line 12 x20).bind fun x21 =>
(t_ship_post n x16.1 ([(⟨x9.To, ([x18, x19, x21] : List GLine)⟩ : Gentry)] : List Gentry)).bind fun x22 =>
T.ask (decide (x22.2 ≠ 0)) fun x23 =>
cond x23 (T.ret (x22.1, (x22.2 : Int))) ((t_stock_Turn x22.1 x9.To x9.Item (⟨0, 0, 0, x16.2.1, 0, 0, 0, 0, 0, 0, 0⟩ : GRoll)).bind fun x24 =>
T.ask (decide (x24.2 ≠ 0)) fun x25 =>
cond x25 (T.ret (x24.1, (x24.2 : Int))) (T.asrt (x24.1.Transits.length ≤ 68719476736) <|
T.wr (x9.Qty - a2.Qty) fun x28 =>
T.wr (x9.Value - x14) fun x29 =>
T.wr (x9.Profit - x15) fun x30 =>
(T_ixGTransit x24.1.Transits a2.Ref).bind fun x31 =>
T.bnd (x24.1.Transits.set (Int.toNat a2.Ref) ((⟨x31.From, x31.To, x31.Item, x28, x31.Value, x31.Profit⟩ : GTransit) : GTransit)) fun x32 =>
T.bnd (x32.set (Int.toNat a2.Ref) ((⟨x31.From, x31.To, x31.Item, x28, x29, x31.Profit⟩ : GTransit) : GTransit)) fun x33 =>
T.bnd (x33.set (Int.toNat a2.Ref) ((⟨x31.From, x31.To, x31.Item, x28, x29, x30⟩ : GTransit) : GTransit)) fun x34 =>
T.ret (((⟨x24.1.Master, x24.1.Ents, x24.1.Receipts, x24.1.Sales, x34, x24.1.Done⟩ : GState) : GState), (0 : Int))))))))
theorem t_ship_arrive_ok (n : Nat) (a1 : GState) (a2 : GOp) : (t_ship_arrive n a1 a2).run = d_ship_arrive n a1 a2 := by
  simp only [t_ship_arrive, d_ship_arrive, T.rs, T_ixGEnt_ok, T_ixGRoll_ok, T_ixGTransit_ok, T_ixInt_ok, T_ixListInt_ok, t_money_Part_ok, t_ship_line_ok, t_ship_post_ok, t_stock_Bring_ok, t_stock_Ready_ok, t_stock_Turn_ok]
def t_fifo_has_L0 (a1 : List GLayer) : Nat → Int → Int → T An ((Unit) ⊕ (Bool))
  | 0, _, _ => T.fail
  | n + 1, y0_1, y0_2 =>
    T.ask (decide (y0_2 < (a1.length : Int))) fun x4 =>
    cond x4 ((T.ix a1 y0_2).bind fun x5 =>
    (T.ifv (0 > x5.Qty) (0) (x5.Qty)).bind fun x7 =>
    (T.ifv (y0_1 < x7) (y0_1) (x7)).bind fun x8 =>
    T.wr (y0_1 - x8) fun x9 =>
    T.ask (decide (x9 = 0)) fun x10 =>
    cond x10 (T.esc (T.ret (true))) (T.wr (y0_2 + 1) fun x11 =>
    t_fifo_has_L0 a1 n (x9 : Int) (x11 : Int))) (T.brk ())
theorem t_fifo_has_L0_ok (a1 : List GLayer) : ∀ (n : Nat) (z0 : Int) (z1 : Int), (t_fifo_has_L0 a1 n z0 z1).run = d_fifo_has_L0 a1 n z0 z1
  | 0, _, _ => rfl
  | n + 1, z0, z1 => by
    simp only [t_fifo_has_L0, d_fifo_has_L0, T.rs, T_ixGEnt_ok, T_ixGRoll_ok, T_ixGTransit_ok, T_ixInt_ok, T_ixListInt_ok, t_fifo_has_L0_ok a1 n]
def t_fifo_has (n : Nat) (a1 : List GLayer) (a2 : Int) : T An (Bool) :=
(show T An ((Unit) ⊕ (Bool)) from
t_fifo_has_L0 a1 n (a2 : Int) (0 : Int)).bind <| T.sel <| fun _ =>
T.ret (false)
theorem t_fifo_has_ok (n : Nat) (a1 : List GLayer) (a2 : Int) : (t_fifo_has n a1 a2).run = d_fifo_has n a1 a2 := by
  simp only [t_fifo_has, d_fifo_has, T.rs, T_ixGEnt_ok, T_ixGRoll_ok, T_ixGTransit_ok, T_ixInt_ok, T_ixListInt_ok, t_fifo_has_L0_ok]
def t_stdcost_Out_L0 : Nat → Nat → Nat → Int → (List GLayer) → GLayer → T An (Nat × Nat × (List GLayer) × GLayer)
  | 0, _, _, _, _, _ => T.fail
  | n + 1, y1_1, y1_2, y1_3, y1_4, y1_5 =>
    (show T An (Bool) from
    T.ask (decide ((y1_2 : Int) > 0)) fun x21 =>
    cond x21 (T.ask (decide (y1_3 > 0)) fun x22 =>
    T.ret x22) (T.ret false)).bind <| fun y2_1 =>
    cond y2_1 (T.asrt ((0 : Int) ≤ 0 ∧ 0 < (y1_2 : Int)) <|
    (T.ix y1_4 (((y1_1 : Nat) : Int) + 0)).bind fun x24 =>
    T.ask (decide (x24.Qty > y1_3)) fun x26 =>
    (show T An (Nat × Nat × (List GLayer) × GLayer) from
    cond x26 ((t_money_Part n x24.Value y1_3 x24.Qty).bind fun x30 =>
    (t_money_Part n x24.Profit y1_3 x24.Qty).bind fun x31 =>
    T.asrt ((0 : Int) ≤ 0 ∧ 0 < (y1_2 : Int)) <|
    T.wr (x24.Qty - y1_3) fun x33 =>
    T.asrt ((0 : Int) ≤ 0 ∧ 0 < (y1_2 : Int)) <|
    T.wr (x24.Value - x30) fun x35 =>
    T.asrt ((0 : Int) ≤ 0 ∧ 0 < (y1_2 : Int)) <|
    T.wr (x24.Profit - x31) fun x37 =>
    T.asrt ((0 : Int) ≤ 0 ∧ 0 < (y1_2 : Int)) <|
    T.bnd (y1_4.set (Int.toNat (((y1_1 : Nat) : Int) + 0)) ((⟨x33, x24.Value, x24.Profit⟩ : GLayer) : GLayer)) fun x39 =>
    T.asrt ((0 : Int) ≤ 0 ∧ 0 < (y1_2 : Int)) <|
    T.bnd (x39.set (Int.toNat (((y1_1 : Nat) : Int) + 0)) ((⟨x33, x35, x24.Profit⟩ : GLayer) : GLayer)) fun x41 =>
    T.asrt ((0 : Int) ≤ 0 ∧ 0 < (y1_2 : Int)) <|
    T.bnd (x41.set (Int.toNat (((y1_1 : Nat) : Int) + 0)) ((⟨x33, x35, x37⟩ : GLayer) : GLayer)) fun x43 =>
    T.ret ((y1_1 : Nat), (y1_2 : Nat), x43, ((⟨y1_3, x30, x31⟩ : GLayer) : GLayer))) (T.asrt ((0 : Int) ≤ 1 ∧ 1 ≤ (y1_2 : Int) ∧ (y1_2 : Int) ≤ (y1_2 : Int) ∧ 1 < (y1_2 + 1 : Int)) <|
    (T.ifv ((Int.toNat (y1_2 : Int)) = 1) (y1_1) (y1_1 + 1)).bind fun x29 =>
    T.ret ((x29 : Nat), (((Int.toNat (y1_2 : Int)) - 1) : Nat), y1_4, x24))).bind <| p2 fun (y3_1 : Nat) (q0 : Nat × (List GLayer) × GLayer) => (p2 fun (y3_2 : Nat) (q1 : (List GLayer) × GLayer) => (p2 fun y3_3 y3_4 =>
    T.wr (y1_5.Qty + y3_4.Qty) fun x44 =>
    T.wr (y1_5.Value + y3_4.Value) fun x45 =>
    T.wr (y1_5.Profit + y3_4.Profit) fun x46 =>
    T.wr (y1_3 - y3_4.Qty) fun x47 =>
    t_stdcost_Out_L0 n (y3_1 : Nat) (y3_2 : Nat) (x47 : Int) y3_3 ((⟨x44, x45, x46⟩ : GLayer) : GLayer)) q1) q0) (T.ret ((y1_1 : Nat), (y1_2 : Nat), y1_4, y1_5))
theorem t_stdcost_Out_L0_ok  : ∀ (n : Nat) (z0 : Nat) (z1 : Nat) (z2 : Int) (z3 : (List GLayer)) (z4 : GLayer), (t_stdcost_Out_L0  n z0 z1 z2 z3 z4).run = d_stdcost_Out_L0  n z0 z1 z2 z3 z4
  | 0, _, _, _, _, _ => rfl
  | n + 1, z0, z1, z2, z3, z4 => by
    simp only [t_stdcost_Out_L0, d_stdcost_Out_L0, T.rs, T_ixGEnt_ok, T_ixGRoll_ok, T_ixGTransit_ok, T_ixInt_ok, T_ixListInt_ok, t_money_Part_ok, t_stdcost_Out_L0_ok  n]
def t_stdcost_Out (n : Nat) (a1 : List GLayer) (a2 : Int) (a3 : Int) : T An ((List GLayer) × GLayer × Int) :=
(t_stdcost_rate_fits a3).bind fun x5 =>
T.bnd (!x5) fun x6 =>
cond x6 (T.asrt (a1.length ≤ 68719476736) <|
T.ret (a1, ((⟨0, 0, 0⟩ : GLayer) : GLayer), (1 : Int))) ((show T An ((Nat × Nat × GLayer × Int × (List GLayer))) from
(show T An ((Unit)) from
T.ret ()).bind <| fun _ =>
(show T An ((Nat × Nat × GLayer × Int × (List GLayer))) from
T.asrt (a1.length ≤ 68719476736) <|
T.ask (decide (a2 < 1)) fun x15 =>
cond x15 (T.ret ((0 : Nat), (a1.length : Nat), ((⟨0, 0, 0⟩ : GLayer) : GLayer), (1 : Int), a1)) ((t_fifo_has n a1 a2).bind fun x16 =>
T.bnd (!x16) fun x17 =>
cond x17 (T.ret ((0 : Nat), (a1.length : Nat), ((⟨0, 0, 0⟩ : GLayer) : GLayer), (5 : Int), a1)) ((show T An (Nat × Nat × (List GLayer) × GLayer) from
t_stdcost_Out_L0 n (0 : Nat) (a1.length : Nat) (a2 : Int) a1 ((⟨0, 0, 0⟩ : GLayer) : GLayer)).bind <| p2 fun (y4_1 : Nat) (q0 : Nat × (List GLayer) × GLayer) => (p2 fun (y4_2 : Nat) (q1 : (List GLayer) × GLayer) => (p2 fun y4_3 y4_4 =>
T.ret ((y4_1 : Nat), (y4_2 : Nat), y4_4, (0 : Int), y4_3)) q1) q0))).bind <| p2 fun (y5_2 : Nat) (q0 : Nat × GLayer × Int × (List GLayer)) => (p2 fun (y5_3 : Nat) (q1 : GLayer × Int × (List GLayer)) => (p2 fun y5_4 (q2 : Int × (List GLayer)) => (p2 fun (y5_5 : Int) y5_6 =>
T.ret ((y5_2 : Nat), (y5_3 : Nat), y5_4, (y5_5 : Int), y5_6)) q2) q1) q0).bind <| p2 fun (y6_2 : Nat) (q0 : Nat × GLayer × Int × (List GLayer)) => (p2 fun (y6_3 : Nat) (q1 : GLayer × Int × (List GLayer)) => (p2 fun y6_4 (q2 : Int × (List GLayer)) => (p2 fun (y6_5 : Int) y6_6 =>
(show T An (Bool) from
T.ask (decide (y6_5 ≠ 0)) fun x50 =>
cond x50 (T.ret true) (T.ask (decide ((y6_3 : Int) = 0)) fun x51 =>
T.ret x51)).bind <| fun y7_1 =>
cond y7_1 (T.asrt (y6_2 + y6_3 ≤ y6_6.length) <|
T.ret (((((y6_6).drop y6_2).take y6_3) : List GLayer), y6_4, (y6_5 : Int))) ((t_stdcost_rate_of n a3 a2).bind fun x52 =>
T.asrt ((0 : Int) ≤ 0 ∧ 0 < (y6_3 : Int)) <|
(T.ix y6_6 (((y6_2 : Nat) : Int) + 0)).bind fun x54 =>
T.wr (x54.Value + y6_4.Value) fun x55 =>
(show T An (Bool) from
T.ask (decide (x52.2 ≠ 0)) fun x57 =>
cond x57 (T.ret true) (T.ask (decide (x52.1 > x55)) fun x58 =>
T.ret x58)).bind <| fun y8_1 =>
(show T An (Int) from
cond y8_1 (T.ret (x55 : Int)) (T.ret (x52.1 : Int))).bind <| fun y9_1 =>
T.asrt ((0 : Int) ≤ 0 ∧ 0 < (y6_3 : Int)) <|
T.wr (y6_4.Value - y9_1) fun x61 =>
T.wr (x54.Value + x61) fun x62 =>
T.asrt ((0 : Int) ≤ 0 ∧ 0 < (y6_3 : Int)) <|
T.bnd (y6_6.set (Int.toNat (((y6_2 : Nat) : Int) + 0)) ((⟨x54.Qty, x62, x54.Profit⟩ : GLayer) : GLayer)) fun x64 =>
T.asrt (y6_2 + y6_3 ≤ x64.length) <|
T.ret (((((x64).drop y6_2).take y6_3) : List GLayer), ((⟨y6_4.Qty, y9_1, y6_4.Profit⟩ : GLayer) : GLayer), (0 : Int)))) q2) q1) q0)
theorem t_stdcost_Out_ok (n : Nat) (a1 : List GLayer) (a2 : Int) (a3 : Int) : (t_stdcost_Out n a1 a2 a3).run = d_stdcost_Out n a1 a2 a3 := by
  simp only [t_stdcost_Out, d_stdcost_Out, T.rs, T_ixGEnt_ok, T_ixGRoll_ok, T_ixGTransit_ok, T_ixInt_ok, T_ixListInt_ok, t_fifo_has_ok, t_stdcost_Out_L0_ok, t_stdcost_rate_fits_ok, t_stdcost_rate_of_ok]
def t_pavg_Free_L0 (a1 : GPool) : Nat → Int → Int → T An (Int)
  | 0, _, _ => T.fail
  | n + 1, y0_1, y0_2 =>
    T.ask (decide (y0_2 < (a1.Layers.length : Int))) fun x4 =>
    cond x4 ((T.ix a1.Layers y0_2).bind fun x5 =>
    T.wr (y0_1 + x5.Qty) fun x7 =>
    T.wr (y0_2 + 1) fun x8 =>
    t_pavg_Free_L0 a1 n (x7 : Int) (x8 : Int)) (T.ret (y0_1 : Int))
theorem t_pavg_Free_L0_ok (a1 : GPool) : ∀ (n : Nat) (z0 : Int) (z1 : Int), (t_pavg_Free_L0 a1 n z0 z1).run = d_pavg_Free_L0 a1 n z0 z1
  | 0, _, _ => rfl
  | n + 1, z0, z1 => by
    simp only [t_pavg_Free_L0, d_pavg_Free_L0, T.rs, T_ixGEnt_ok, T_ixGRoll_ok, T_ixGTransit_ok, T_ixInt_ok, T_ixListInt_ok, t_pavg_Free_L0_ok a1 n]
def t_pavg_Free_L1 (a1 : GPool) : Nat → Int → Int → T An (Int)
  | 0, _, _ => T.fail
  | n + 1, y2_1, y2_2 =>
    T.ask (decide (y2_2 < 3)) fun x10 =>
    cond x10 ((T_ixInt ([a1.Pend.a0, a1.Pend.a1, a1.Pend.a2] : List Int) y2_2).bind fun x11 =>
    T.wr (y2_1 - x11) fun x12 =>
    T.wr (y2_2 + 1) fun x13 =>
    t_pavg_Free_L1 a1 n (x12 : Int) (x13 : Int)) (T.ret (y2_1 : Int))
theorem t_pavg_Free_L1_ok (a1 : GPool) : ∀ (n : Nat) (z0 : Int) (z1 : Int), (t_pavg_Free_L1 a1 n z0 z1).run = d_pavg_Free_L1 a1 n z0 z1
  | 0, _, _ => rfl
  | n + 1, z0, z1 => by
    simp only [t_pavg_Free_L1, d_pavg_Free_L1, T.rs, T_ixGEnt_ok, T_ixGRoll_ok, T_ixGTransit_ok, T_ixInt_ok, T_ixListInt_ok, t_pavg_Free_L1_ok a1 n]
def t_pavg_Free (n : Nat) (a1 : GPool) : T An (Int) :=
(show T An (Int) from
t_pavg_Free_L0 a1 n (0 : Int) (0 : Int)).bind <| fun y1_1 =>
(show T An (Int) from
t_pavg_Free_L1 a1 n (y1_1 : Int) (0 : Int)).bind <| fun y3_1 =>
T.ret ((y3_1 : Int))
theorem t_pavg_Free_ok (n : Nat) (a1 : GPool) : (t_pavg_Free n a1).run = d_pavg_Free n a1 := by
  simp only [t_pavg_Free, d_pavg_Free, T.rs, T_ixGEnt_ok, T_ixGRoll_ok, T_ixGTransit_ok, T_ixInt_ok, T_ixListInt_ok, t_pavg_Free_L0_ok, t_pavg_Free_L1_ok]
def t_fifo_Out_L0 : Nat → Nat → Nat → Int → (List GLayer) → GLayer → T An (Nat × Nat × (List GLayer) × GLayer)
  | 0, _, _, _, _, _ => T.fail
  | n + 1, y0_1, y0_2, y0_3, y0_4, y0_5 =>
    (show T An (Bool) from
    T.ask (decide ((y0_2 : Int) > 0)) fun x12 =>
    cond x12 (T.ask (decide (y0_3 > 0)) fun x13 =>
    T.ret x13) (T.ret false)).bind <| fun y1_1 =>
    cond y1_1 (T.asrt ((0 : Int) ≤ 0 ∧ 0 < (y0_2 : Int)) <|
    (T.ix y0_4 (((y0_1 : Nat) : Int) + 0)).bind fun x15 =>
    T.ask (decide (x15.Qty > y0_3)) fun x17 =>
    (show T An (Nat × Nat × (List GLayer) × GLayer) from
    cond x17 ((t_money_Part n x15.Value y0_3 x15.Qty).bind fun x21 =>
    (t_money_Part n x15.Profit y0_3 x15.Qty).bind fun x22 =>
    T.asrt ((0 : Int) ≤ 0 ∧ 0 < (y0_2 : Int)) <|
    T.wr (x15.Qty - y0_3) fun x24 =>
    T.asrt ((0 : Int) ≤ 0 ∧ 0 < (y0_2 : Int)) <|
    T.wr (x15.Value - x21) fun x26 =>
    T.asrt ((0 : Int) ≤ 0 ∧ 0 < (y0_2 : Int)) <|
    T.wr (x15.Profit - x22) fun x28 =>
    T.asrt ((0 : Int) ≤ 0 ∧ 0 < (y0_2 : Int)) <|
    T.bnd (y0_4.set (Int.toNat (((y0_1 : Nat) : Int) + 0)) ((⟨x24, x15.Value, x15.Profit⟩ : GLayer) : GLayer)) fun x30 =>
    T.asrt ((0 : Int) ≤ 0 ∧ 0 < (y0_2 : Int)) <|
    T.bnd (x30.set (Int.toNat (((y0_1 : Nat) : Int) + 0)) ((⟨x24, x26, x15.Profit⟩ : GLayer) : GLayer)) fun x32 =>
    T.asrt ((0 : Int) ≤ 0 ∧ 0 < (y0_2 : Int)) <|
    T.bnd (x32.set (Int.toNat (((y0_1 : Nat) : Int) + 0)) ((⟨x24, x26, x28⟩ : GLayer) : GLayer)) fun x34 =>
    T.ret ((y0_1 : Nat), (y0_2 : Nat), x34, ((⟨y0_3, x21, x22⟩ : GLayer) : GLayer))) (T.asrt ((0 : Int) ≤ 1 ∧ 1 ≤ (y0_2 : Int) ∧ (y0_2 : Int) ≤ (y0_2 : Int) ∧ 1 < (y0_2 + 1 : Int)) <|
    (T.ifv ((Int.toNat (y0_2 : Int)) = 1) (y0_1) (y0_1 + 1)).bind fun x20 =>
    T.ret ((x20 : Nat), (((Int.toNat (y0_2 : Int)) - 1) : Nat), y0_4, x15))).bind <| p2 fun (y2_1 : Nat) (q0 : Nat × (List GLayer) × GLayer) => (p2 fun (y2_2 : Nat) (q1 : (List GLayer) × GLayer) => (p2 fun y2_3 y2_4 =>
    T.wr (y0_5.Qty + y2_4.Qty) fun x35 =>
    T.wr (y0_5.Value + y2_4.Value) fun x36 =>
    T.wr (y0_5.Profit + y2_4.Profit) fun x37 =>
    T.wr (y0_3 - y2_4.Qty) fun x38 =>
    t_fifo_Out_L0 n (y2_1 : Nat) (y2_2 : Nat) (x38 : Int) y2_3 ((⟨x35, x36, x37⟩ : GLayer) : GLayer)) q1) q0) (T.ret ((y0_1 : Nat), (y0_2 : Nat), y0_4, y0_5))
theorem t_fifo_Out_L0_ok  : ∀ (n : Nat) (z0 : Nat) (z1 : Nat) (z2 : Int) (z3 : (List GLayer)) (z4 : GLayer), (t_fifo_Out_L0  n z0 z1 z2 z3 z4).run = d_fifo_Out_L0  n z0 z1 z2 z3 z4
  | 0, _, _, _, _, _ => rfl
  | n + 1, z0, z1, z2, z3, z4 => by
    simp only [t_fifo_Out_L0, d_fifo_Out_L0, T.rs, T_ixGEnt_ok, T_ixGRoll_ok, T_ixGTransit_ok, T_ixInt_ok, T_ixListInt_ok, t_money_Part_ok, t_fifo_Out_L0_ok  n]
def t_fifo_Out (n : Nat) (a1 : List GLayer) (a2 : Int) : T An ((List GLayer) × GLayer × Int) :=
T.asrt (a1.length ≤ 68719476736) <|
T.ask (decide (a2 < 1)) fun x6 =>
cond x6 (T.ret (a1, ((⟨0, 0, 0⟩ : GLayer) : GLayer), (1 : Int))) ((t_fifo_has n a1 a2).bind fun x7 =>
T.bnd (!x7) fun x8 =>
cond x8 (T.ret (a1, ((⟨0, 0, 0⟩ : GLayer) : GLayer), (5 : Int))) ((show T An (Nat × Nat × (List GLayer) × GLayer) from
t_fifo_Out_L0 n (0 : Nat) (a1.length : Nat) (a2 : Int) a1 ((⟨0, 0, 0⟩ : GLayer) : GLayer)).bind <| p2 fun (y3_1 : Nat) (q0 : Nat × (List GLayer) × GLayer) => (p2 fun (y3_2 : Nat) (q1 : (List GLayer) × GLayer) => (p2 fun y3_3 y3_4 =>
T.asrt (y3_1 + y3_2 ≤ y3_3.length) <|
T.ret (((((y3_3).drop y3_1).take y3_2) : List GLayer), y3_4, (0 : Int))) q1) q0))
theorem t_fifo_Out_ok (n : Nat) (a1 : List GLayer) (a2 : Int) : (t_fifo_Out n a1 a2).run = d_fifo_Out n a1 a2 := by
  simp only [t_fifo_Out, d_fifo_Out, T.rs, T_ixGEnt_ok, T_ixGRoll_ok, T_ixGTransit_ok, T_ixInt_ok, T_ixListInt_ok, t_fifo_Out_L0_ok, t_fifo_has_ok]
def t_mavg_Out (n : Nat) (a1 : List GLayer) (a2 : Int) : T An ((List GLayer) × GLayer × Int) :=
(show T An ((Unit)) from
T.ret ()).bind <| fun _ =>
(t_fifo_Out n a1 a2).bind fun x6 =>
T.ret (x6.1, x6.2.1, (x6.2.2 : Int))
theorem t_mavg_Out_ok (n : Nat) (a1 : List GLayer) (a2 : Int) : (t_mavg_Out n a1 a2).run = d_mavg_Out n a1 a2 := by
  simp only [t_mavg_Out, d_mavg_Out, T.rs, T_ixGEnt_ok, T_ixGRoll_ok, T_ixGTransit_ok, T_ixInt_ok, T_ixListInt_ok, t_fifo_Out_ok]
def t_pavg_Out (n : Nat) (a1 : GPool) (a2 : Int) : T An (GPool × GLayer × Int) :=
T.ask (decide (a2 < 1)) fun x6 =>
cond x6 ((t_pavg_own a1 a1.Layers).bind fun x13 =>
T.ret (x13, ((⟨0, 0, 0⟩ : GLayer) : GLayer), (1 : Int))) ((t_pavg_Free n a1).bind fun x7 =>
T.ask (decide (a2 > x7)) fun x8 =>
cond x8 ((t_pavg_own a1 a1.Layers).bind fun x12 =>
T.ret (x12, ((⟨0, 0, 0⟩ : GLayer) : GLayer), (5 : Int))) ((t_mavg_Out n a1.Layers a2).bind fun x9 =>
(t_pavg_own a1 x9.1).bind fun x11 =>
T.ret (x11, x9.2.1, (x9.2.2 : Int))))
theorem t_pavg_Out_ok (n : Nat) (a1 : GPool) (a2 : Int) : (t_pavg_Out n a1 a2).run = d_pavg_Out n a1 a2 := by
  simp only [t_pavg_Out, d_pavg_Out, T.rs, T_ixGEnt_ok, T_ixGRoll_ok, T_ixGTransit_ok, T_ixInt_ok, T_ixListInt_ok, t_mavg_Out_ok, t_pavg_Free_ok, t_pavg_own_ok]
def t_pavg_is (a1 : Int) : T An (Bool) :=
(show T An (Bool) from
T.ask (decide (a1 ≥ 0)) fun x3 =>
cond x3 (T.ask (decide (a1 < 3)) fun x4 =>
T.ret x4) (T.ret false)).bind <| fun y0_1 =>
T.ret (y0_1)
theorem t_pavg_is_ok (a1 : Int) : (t_pavg_is a1).run = d_pavg_is a1 := by
  simp only [t_pavg_is, d_pavg_is, T.rs, T_ixGEnt_ok, T_ixGRoll_ok, T_ixGTransit_ok, T_ixInt_ok, T_ixListInt_ok]
def t_pavg_Wait (n : Nat) (a1 : GPool) (a2 : Int) (a3 : Int) : T An (GPool × Int) :=
(t_pavg_own a1 a1.Layers).bind fun x6 =>
(show T An (Bool) from
(t_pavg_is a2).bind fun x8 =>
T.bnd (!x8) fun x9 =>
cond x9 (T.ret true) (T.ask (decide (a3 < 1)) fun x10 =>
T.ret x10)).bind <| fun y0_1 =>
cond y0_1 (T.ret (x6, (1 : Int))) ((t_pavg_Free n x6).bind fun x11 =>
T.ask (decide (a3 > x11)) fun x12 =>
cond x12 (T.ret (x6, (5 : Int))) (T.ask (decide (a2 = 0)) fun x13 =>
cond x13 (T.wr (x6.Pend.a0 + a3) fun x18 =>
T.ret (((⟨x6.Layers, (⟨x18, x6.Pend.a1, x6.Pend.a2⟩ : A3_Int)⟩ : GPool) : GPool), (0 : Int))) (T.ask (decide (a2 = 1)) fun x14 =>
cond x14 (T.wr (x6.Pend.a1 + a3) fun x17 =>
T.ret (((⟨x6.Layers, (⟨x6.Pend.a0, x17, x6.Pend.a2⟩ : A3_Int)⟩ : GPool) : GPool), (0 : Int))) (T.asrt (a2 = 2) <|
T.wr (x6.Pend.a2 + a3) fun x16 =>
T.ret (((⟨x6.Layers, (⟨x6.Pend.a0, x6.Pend.a1, x16⟩ : A3_Int)⟩ : GPool) : GPool), (0 : Int))))))
theorem t_pavg_Wait_ok (n : Nat) (a1 : GPool) (a2 : Int) (a3 : Int) : (t_pavg_Wait n a1 a2 a3).run = d_pavg_Wait n a1 a2 a3 := by
  simp only [t_pavg_Wait, d_pavg_Wait, T.rs, T_ixGEnt_ok, T_ixGRoll_ok, T_ixGTransit_ok, T_ixInt_ok, T_ixListInt_ok, t_pavg_Free_ok, t_pavg_is_ok, t_pavg_own_ok]
def t_pool_Out (n : Nat) (a1 : Int) (a2 : Int) (a3 : GPool) (a4 : Int) (a5 : Int) : T An (GPool × GLayer × Bool × Int) :=
(show T An ((Unit) ⊕ (Unit) ⊕ (Unit) ⊕ (Unit) ⊕ (Unit)) from
T.ask (decide (a1 = 1)) fun x10 =>
cond x10 (T.ret (.inr (.inr (.inr (.inr ()))))) (T.ask (decide (a1 = 2)) fun x11 =>
cond x11 (T.ret (.inr (.inr (.inr (.inl ()))))) (T.ask (decide (a1 = 3)) fun x12 =>
cond x12 (T.ret (.inr (.inr (.inl ())))) (T.ask (decide (a1 = 4)) fun x13 =>
cond x13 (T.ret (.inr (.inl ()))) (T.ret (.inl ())))))).bind <| T.selr (fun _ =>
(t_pool_own a3).bind fun x14 =>
T.ret (x14, ((⟨0, 0, 0⟩ : GLayer) : GLayer), false, (12 : Int))) <| T.selr (fun _ =>
(show T An (Bool) from
T.ask (decide (a4 < 0)) fun x16 =>
cond x16 (T.ret true) (T.ask (decide (a4 > 3)) fun x17 =>
T.ret x17)).bind <| fun y5_1 =>
cond y5_1 ((t_pool_own a3).bind fun x32 =>
T.ret (x32, ((⟨0, 0, 0⟩ : GLayer) : GLayer), false, (1 : Int))) ((show T An ((Unit)) from
T.ret ()).bind <| fun _ =>
(show T An ((GPool × GLayer × Int)) from
(t_stdcost_Out n a3.Layers a5 a2).bind fun x27 =>
(t_pool_with a3 x27.1).bind fun x29 =>
T.ret (x29, x27.2.1, (x27.2.2 : Int))).bind <| p2 fun y7_1 (q0 : GLayer × Int) => (p2 fun y7_2 (y7_3 : Int) =>
T.ask (decide (y7_3 ≠ 0)) fun x30 =>
cond x30 ((t_pool_own a3).bind fun x31 =>
T.ret (x31, ((⟨0, 0, 0⟩ : GLayer) : GLayer), false, (y7_3 : Int))) (T.ret (y7_1, y7_2, false, (0 : Int)))) q0)) <| T.selr (fun _ =>
(show T An (Bool) from
T.ask (decide (a4 < 0)) fun x34 =>
cond x34 (T.ret true) (T.ask (decide (a4 > 3)) fun x35 =>
T.ret x35)).bind <| fun y5_1 =>
cond y5_1 ((t_pool_own a3).bind fun x51 =>
T.ret (x51, ((⟨0, 0, 0⟩ : GLayer) : GLayer), false, (1 : Int))) ((show T An ((Unit)) from
T.ret ()).bind <| fun _ =>
T.ask (decide (a4 ≠ 3)) fun x40 =>
(show T An (Int × Bool × GLayer × GPool) from
cond x40 ((t_pavg_Wait n a3 a4 a5).bind fun x48 =>
T.ret ((x48.2 : Int), true, ((⟨0, 0, 0⟩ : GLayer) : GLayer), x48.1)) ((show T An ((GPool × GLayer × Int)) from
(t_pavg_Out n a3 a5).bind fun x47 =>
T.ret (x47.1, x47.2.1, (x47.2.2 : Int))).bind <| p2 fun y10_1 (q0 : GLayer × Int) => (p2 fun y10_2 (y10_3 : Int) =>
T.ret ((y10_3 : Int), false, y10_2, y10_1)) q0)).bind <| p2 fun (y9_1 : Int) (q0 : Bool × GLayer × GPool) => (p2 fun y9_2 (q1 : GLayer × GPool) => (p2 fun y9_3 y9_4 =>
T.ask (decide (y9_1 ≠ 0)) fun x49 =>
cond x49 ((t_pool_own a3).bind fun x50 =>
T.ret (x50, ((⟨0, 0, 0⟩ : GLayer) : GLayer), false, (y9_1 : Int))) (T.ret (y9_4, y9_3, y9_2, (0 : Int)))) q1) q0)) <| T.selr (fun _ =>
(show T An (Bool) from
T.ask (decide (a4 < 0)) fun x53 =>
cond x53 (T.ret true) (T.ask (decide (a4 > 3)) fun x54 =>
T.ret x54)).bind <| fun y5_1 =>
cond y5_1 ((t_pool_own a3).bind fun x69 =>
T.ret (x69, ((⟨0, 0, 0⟩ : GLayer) : GLayer), false, (1 : Int))) ((show T An ((Unit)) from
T.ret ()).bind <| fun _ =>
(show T An ((GPool × GLayer × Int)) from
(t_mavg_Out n a3.Layers a5).bind fun x64 =>
(t_pool_with a3 x64.1).bind fun x66 =>
T.ret (x66, x64.2.1, (x64.2.2 : Int))).bind <| p2 fun y11_1 (q0 : GLayer × Int) => (p2 fun y11_2 (y11_3 : Int) =>
T.ask (decide (y11_3 ≠ 0)) fun x67 =>
cond x67 ((t_pool_own a3).bind fun x68 =>
T.ret (x68, ((⟨0, 0, 0⟩ : GLayer) : GLayer), false, (y11_3 : Int))) (T.ret (y11_1, y11_2, false, (0 : Int)))) q0)) <| fun _ =>
(show T An (Bool) from
T.ask (decide (a4 < 0)) fun x71 =>
cond x71 (T.ret true) (T.ask (decide (a4 > 3)) fun x72 =>
T.ret x72)).bind <| fun y5_1 =>
cond y5_1 ((t_pool_own a3).bind fun x87 =>
T.ret (x87, ((⟨0, 0, 0⟩ : GLayer) : GLayer), false, (1 : Int))) ((show T An ((Unit)) from
T.ret ()).bind <| fun _ =>
(show T An ((GPool × GLayer × Int)) from
(t_fifo_Out n a3.Layers a5).bind fun x82 =>
(t_pool_with a3 x82.1).bind fun x84 =>
T.ret (x84, x82.2.1, (x82.2.2 : Int))).bind <| p2 fun y12_1 (q0 : GLayer × Int) => (p2 fun y12_2 (y12_3 : Int) =>
T.ask (decide (y12_3 ≠ 0)) fun x85 =>
cond x85 ((t_pool_own a3).bind fun x86 =>
T.ret (x86, ((⟨0, 0, 0⟩ : GLayer) : GLayer), false, (y12_3 : Int))) (T.ret (y12_1, y12_2, false, (0 : Int)))) q0)
theorem t_pool_Out_ok (n : Nat) (a1 : Int) (a2 : Int) (a3 : GPool) (a4 : Int) (a5 : Int) : (t_pool_Out n a1 a2 a3 a4 a5).run = d_pool_Out n a1 a2 a3 a4 a5 := by
  simp only [t_pool_Out, d_pool_Out, T.rs, T_ixGEnt_ok, T_ixGRoll_ok, T_ixGTransit_ok, T_ixInt_ok, T_ixListInt_ok, t_fifo_Out_ok, t_mavg_Out_ok, t_pavg_Out_ok, t_pavg_Wait_ok, t_pool_own_ok, t_pool_with_ok, t_stdcost_Out_ok]
def t_stock_Fetch (n : Nat) (a1 : GState) (a2 : Int) (a3 : Int) (a4 : Int) (a5 : Int) (a6 : Int) : T An (GState × GLayer × Bool × Int) := T.opx An.k11 An.gk11 (d_stock_Fetch n a1 a2 a3 a4 a5 a6)
theorem t_stock_Fetch_ok (n : Nat) (a1 : GState) (a2 : Int) (a3 : Int) (a4 : Int) (a5 : Int) (a6 : Int) : (t_stock_Fetch n a1 a2 a3 a4 a5 a6).run = d_stock_Fetch n a1 a2 a3 a4 a5 a6 := T.run_opx (f := An.k11) (g := An.gk11) (fun _ => rfl) _
def x_stock_Fetch (n : Nat) (a1 : GState) (a2 : Int) (a3 : Int) (a4 : Int) (a5 : Int) (a6 : Int) : T An (GState × GLayer × Bool × Int) :=
(t_stock_place a1 a2 a3 a4).bind fun x10 =>
T.ask (decide (x10 < 0)) fun x11 =>
cond x11 (T.ret (a1, ((⟨0, 0, 0⟩ : GLayer) : GLayer), false, (4 : Int))) ((T_ixListInt a1.Master.Methods a2).bind fun x12 =>
(T_ixInt x12 a3).bind fun x13 =>
(T_ixListInt a1.Master.Costs a2).bind fun x14 =>
(T_ixInt x14 a3).bind fun x15 =>
(T_ixGEnt a1.Ents a2).bind fun x16 =>
(T.ix x16.Pools x10).bind fun x17 =>
(t_pool_Out n x13 x15 x17 a5 a6).bind fun x18 =>
T.bnd (x18.2.2.1) fun x20 =>
T.ask (decide (x18.2.2.2 ≠ 0)) fun x21 =>
cond x21 (T.ret (a1, ((⟨0, 0, 0⟩ : GLayer) : GLayer), false, (x18.2.2.2 : Int))) ((show T An ((Int × Bool × (List Int) × (List GRoll) × (List Int) × (List Int) × (List GEnt) × (List GPool))) from
(show T An ((Unit)) from
T.asrt (a1.Ents.length ≤ 68719476736) <|
(T_ixGEnt a1.Ents a2).bind fun x28 =>
T.ret ()).bind <| fun _ =>
(T_ixGEnt a1.Ents a2).bind fun x29 =>
T.asrt (x29.Pools.length ≤ 68719476736) <|
(T.ix x29.Pools x10).bind fun x32 =>
T.bnd (x29.Pools.set (Int.toNat x10) x18.1) fun x33 =>
T.ret ((x29.Now : Int), x29.Closed, x29.Bal, x29.Rolls, x29.Prices, x29.Down, x29.Ahead, x33)).bind <| p2 fun (y1_2 : Int) (q0 : Bool × (List Int) × (List GRoll) × (List Int) × (List Int) × (List GEnt) × (List GPool)) => (p2 fun y1_3 (q1 : (List Int) × (List GRoll) × (List Int) × (List Int) × (List GEnt) × (List GPool)) => (p2 fun y1_5 (q2 : (List GRoll) × (List Int) × (List Int) × (List GEnt) × (List GPool)) => (p2 fun y1_6 (q3 : (List Int) × (List Int) × (List GEnt) × (List GPool)) => (p2 fun y1_7 (q4 : (List Int) × (List GEnt) × (List GPool)) => (p2 fun y1_8 (q5 : (List GEnt) × (List GPool)) => (p2 fun y1_9 y1_10 =>
(T_ixGEnt a1.Ents a2).bind fun x34 =>
T.ret (((⟨a1.Master, (a1.Ents.set (Int.toNat a2) (⟨y1_2, y1_3, y1_10, y1_5, y1_6, y1_7, y1_8, y1_9⟩ : GEnt)), a1.Receipts, a1.Sales, a1.Transits, a1.Done⟩ : GState) : GState), x18.2.1, x20, (0 : Int))) q5) q4) q3) q2) q1) q0))
theorem x_stock_Fetch_ok (n : Nat) (a1 : GState) (a2 : Int) (a3 : Int) (a4 : Int) (a5 : Int) (a6 : Int) : (x_stock_Fetch n a1 a2 a3 a4 a5 a6).run = d_stock_Fetch n a1 a2 a3 a4 a5 a6 := by
  simp only [x_stock_Fetch, d_stock_Fetch, T.rs, T_ixGEnt_ok, T_ixGRoll_ok, T_ixGTransit_ok, T_ixInt_ok, T_ixListInt_ok, t_pool_Out_ok, t_stock_place_ok]
def t_ship_ship_L0 (a1 : GState) (a2 : GOp) : Nat → Int → T An ((Unit) ⊕ (GState × Int))
  | 0, _ => T.fail
  | n + 1, y0_1 =>
    T.ask (decide (y0_1 < 2)) fun x7 =>
    cond x7 ((T_ixInt ([a2.E, a2.To] : List Int) y0_1).bind fun x8 =>
    (t_stock_Ready a1 x8 a2.Item).bind fun x9 =>
    T.ask (decide (x9 ≠ 0)) fun x10 =>
    cond x10 (T.esc (T.ret (a1, (x9 : Int)))) (T.wr (y0_1 + 1) fun x11 =>
    t_ship_ship_L0 a1 a2 n (x11 : Int))) (T.brk ())
theorem t_ship_ship_L0_ok (a1 : GState) (a2 : GOp) : ∀ (n : Nat) (z0 : Int), (t_ship_ship_L0 a1 a2 n z0).run = d_ship_ship_L0 a1 a2 n z0
  | 0, _ => rfl
  | n + 1, z0 => by
    simp only [t_ship_ship_L0, d_ship_ship_L0, T.rs, T_ixGEnt_ok, T_ixGRoll_ok, T_ixGTransit_ok, T_ixInt_ok, T_ixListInt_ok, t_stock_Ready_ok, t_ship_ship_L0_ok a1 a2 n]
def t_ship_ship (n : Nat) (a1 : GState) (a2 : GOp) : T An (GState × Int) :=
(show T An ((Unit) ⊕ (GState × Int)) from
t_ship_ship_L0 a1 a2 n (0 : Int)).bind <| T.sel <| fun _ =>
T.ask (decide ((a1.Transits.length : Int) ≥ 40)) fun x13 =>
cond x13 (T.ret (a1, (6 : Int))) ((t_stock_Fetch n a1 a2.E a2.Item a2.Loc 3 a2.Qty).bind fun x14 =>
T.ask (decide (x14.2.2.2 ≠ 0)) fun x16 =>
cond x16 (T.ret (x14.1, (x14.2.2.2 : Int))) ((t_ship_line 13 a2.Amount).bind fun x17 =>
T.wr (0 - a2.Amount) fun x18 =>
(t_ship_line 15 x18).bind fun x19 =>
(t_ship_line 16 x14.2.1.Value).bind fun x20 =>
T.wr (0 - x14.2.1.Value) fun x21 =>
(t_ship_line 0 x21).bind fun x22 =>
(t_ship_line 12 a2.Amount).bind fun x23 =>
T.wr (0 - a2.Amount) fun x24 =>
(t_ship_line 14 x24).bind fun x25 =>
(t_ship_post n x14.1 ([(⟨a2.E, ([x17, x19, x20, x22] : List GLine)⟩ : Gentry), (⟨a2.To, ([x23, x25] : List GLine)⟩ : Gentry)] : List Gentry)).bind fun x26 =>
T.ask (decide (x26.2 ≠ 0)) fun x27 =>
cond x27 (T.ret (x26.1, (x26.2 : Int))) ((t_stock_Turn x26.1 a2.E a2.Item (⟨0, 0, 0, 0, 0, 0, x14.2.1.Value, 0, 0, 0, 0⟩ : GRoll)).bind fun x28 =>
T.ask (decide (x28.2 ≠ 0)) fun x29 =>
cond x29 (T.ret (x28.1, (x28.2 : Int))) (T.wr (a2.Amount - x14.2.1.Value) fun x30 =>
T.wr (x30 + x14.2.1.Profit) fun x31 =>
(show T An (Bool) from
T.ask (decide (x31 < (-288230376151711744))) fun x33 =>
cond x33 (T.ret true) (T.ask (decide (x31 > 288230376151711744)) fun x34 =>
T.ret x34)).bind <| fun y2_1 =>
cond y2_1 (T.ret (x28.1, (2 : Int))) (T.asrt (x28.1.Transits.length ≤ 68719476736) <|
T.bnd (x28.1.Transits ++ ([(⟨a2.E, a2.To, a2.Item, a2.Qty, a2.Amount, x31⟩ : GTransit)] : List GTransit)) fun x37 =>
T.asrt (x37.length ≤ 68719476736) <|
T.ret (((⟨x28.1.Master, x28.1.Ents, x28.1.Receipts, x28.1.Sales, x37, x28.1.Done⟩ : GState) : GState), (0 : Int)))))))
theorem t_ship_ship_ok (n : Nat) (a1 : GState) (a2 : GOp) : (t_ship_ship n a1 a2).run = d_ship_ship n a1 a2 := by
  simp only [t_ship_ship, d_ship_ship, T.rs, T_ixGEnt_ok, T_ixGRoll_ok, T_ixGTransit_ok, T_ixInt_ok, T_ixListInt_ok, t_ship_line_ok, t_ship_post_ok, t_ship_ship_L0_ok, t_stock_Fetch_ok, t_stock_Turn_ok]
def t_ship_Do (n : Nat) (a1 : GState) (a2 : GOp) : T An (GState × Int) := T.opx An.k10 An.gk10 (d_ship_Do n a1 a2)
theorem t_ship_Do_ok (n : Nat) (a1 : GState) (a2 : GOp) : (t_ship_Do n a1 a2).run = d_ship_Do n a1 a2 := T.run_opx (f := An.k10) (g := An.gk10) (fun _ => rfl) _
def x_ship_Do (n : Nat) (a1 : GState) (a2 : GOp) : T An (GState × Int) :=
(show T An (Int × GState) from
T.ask (decide (a2.Kind = 12)) fun x8 =>
cond x8 ((t_ship_ship n a1 a2).bind fun x11 =>
T.ret ((x11.2 : Int), x11.1)) (T.ask (decide (a2.Kind = 13)) fun x9 =>
cond x9 ((t_ship_arrive n a1 a2).bind fun x10 =>
T.ret ((x10.2 : Int), x10.1)) (T.ret ((1 : Int), a1)))).bind <| p2 fun (y0_1 : Int) y0_2 =>
T.ask (decide (y0_1 ≠ 0)) fun x12 =>
cond x12 (T.ret (a1, (y0_1 : Int))) (T.ret (y0_2, (0 : Int)))
theorem x_ship_Do_ok (n : Nat) (a1 : GState) (a2 : GOp) : (x_ship_Do n a1 a2).run = d_ship_Do n a1 a2 := by
  simp only [x_ship_Do, d_ship_Do, T.rs, T_ixGEnt_ok, T_ixGRoll_ok, T_ixGTransit_ok, T_ixInt_ok, T_ixListInt_ok, t_ship_arrive_ok, t_ship_ship_ok]
def t_ref14_Worth (n : Nat) (a1 : GState) (a2 : Int) (a3 : Int) : T An (GLayer) := T.opx An.k12 An.gk12 (d_ref14_Worth n a1 a2 a3)
theorem t_ref14_Worth_ok (n : Nat) (a1 : GState) (a2 : Int) (a3 : Int) : (t_ref14_Worth n a1 a2 a3).run = d_ref14_Worth n a1 a2 a3 := T.run_opx (f := An.k12) (g := An.gk12) (fun _ => rfl) _
def x_ref14_Worth (n : Nat) (a1 : GState) (a2 : Int) (a3 : Int) : T An (GLayer) :=
(t_ref14_worth n a1 a2 a3).bind fun x6 =>
T.ret (x6.1)
theorem x_ref14_Worth_ok (n : Nat) (a1 : GState) (a2 : Int) (a3 : Int) : (x_ref14_Worth n a1 a2 a3).run = d_ref14_Worth n a1 a2 a3 := by
  simp only [x_ref14_Worth, d_ref14_Worth, T.rs, T_ixGEnt_ok, T_ixGRoll_ok, T_ixGTransit_ok, T_ixInt_ok, T_ixListInt_ok, t_ref14_worth_ok]
def t_law20_all_L1 (a1 : GState) (y0_2 : Int) : Nat → Int → Int → T An (Int)
  | 0, _, _ => T.fail
  | n + 1, y1_1, y1_2 =>
    T.ask (decide (y1_2 < (a1.Master.Weights.length : Int))) fun x7 =>
    cond x7 ((t_ref14_Worth n a1 y0_2 y1_2).bind fun x8 =>
    T.wr (y1_1 + x8.Profit) fun x9 =>
    T.wr (y1_2 + 1) fun x10 =>
    t_law20_all_L1 a1 y0_2 n (x9 : Int) (x10 : Int)) (T.ret (y1_1 : Int))
theorem t_law20_all_L1_ok (a1 : GState) (y0_2 : Int) : ∀ (n : Nat) (z0 : Int) (z1 : Int), (t_law20_all_L1 a1 y0_2 n z0 z1).run = d_law20_all_L1 a1 y0_2 n z0 z1
  | 0, _, _ => rfl
  | n + 1, z0, z1 => by
    simp only [t_law20_all_L1, d_law20_all_L1, T.rs, T_ixGEnt_ok, T_ixGRoll_ok, T_ixGTransit_ok, T_ixInt_ok, T_ixListInt_ok, t_ref14_Worth_ok, t_law20_all_L1_ok a1 y0_2 n]
def t_law20_all_L0 (a1 : GState) : Nat → Int → Int → T An (Int)
  | 0, _, _ => T.fail
  | n + 1, y0_1, y0_2 =>
    T.ask (decide (y0_2 < (a1.Ents.length : Int))) fun x4 =>
    cond x4 ((show T An (Int) from
    (show T An (Int) from
    t_law20_all_L1 a1 y0_2 n (y0_1 : Int) (0 : Int)).bind <| fun y2_1 =>
    T.ret (y2_1 : Int)).bind <| fun y3_1 =>
    T.wr (y0_2 + 1) fun x11 =>
    t_law20_all_L0 a1 n (y3_1 : Int) (x11 : Int)) (T.ret (y0_1 : Int))
theorem t_law20_all_L0_ok (a1 : GState) : ∀ (n : Nat) (z0 : Int) (z1 : Int), (t_law20_all_L0 a1 n z0 z1).run = d_law20_all_L0 a1 n z0 z1
  | 0, _, _ => rfl
  | n + 1, z0, z1 => by
    simp only [t_law20_all_L0, d_law20_all_L0, T.rs, T_ixGEnt_ok, T_ixGRoll_ok, T_ixGTransit_ok, T_ixInt_ok, T_ixListInt_ok, t_law20_all_L1_ok, t_law20_all_L0_ok a1 n]
def t_law20_all_L2 (a1 : GState) (b0 : Nat) (b1 : Int) (b2 : Int) : T An (Int) := T.opx An.z An.gz (d_law20_all_L2 a1 b0 b1 b2)
theorem t_law20_all_L2_ok (a1 : GState) (b0 : Nat) (b1 : Int) (b2 : Int) : (t_law20_all_L2 a1 b0 b1 b2).run = d_law20_all_L2 a1 b0 b1 b2 := T.run_opx (f := An.z) (g := An.gz) (fun _ => rfl) _
def x_law20_all_L2 (a1 : GState) : Nat → Int → Int → T An (Int)
  | 0, _, _ => T.fail
  | n + 1, y5_1, y5_2 =>
    T.ask (decide (y5_2 < (a1.Transits.length : Int))) fun x13 =>
    cond x13 ((T_ixGTransit a1.Transits y5_2).bind fun x14 =>
    T.wr (y5_1 + x14.Profit) fun x16 =>
    T.wr (y5_2 + 1) fun x17 =>
    x_law20_all_L2 a1 n (x16 : Int) (x17 : Int)) (T.ret (y5_1 : Int))
theorem x_law20_all_L2_ok (a1 : GState) : ∀ (n : Nat) (z0 : Int) (z1 : Int), (x_law20_all_L2 a1 n z0 z1).run = d_law20_all_L2 a1 n z0 z1
  | 0, _, _ => rfl
  | n + 1, z0, z1 => by
    simp only [x_law20_all_L2, d_law20_all_L2, T.rs, T_ixGEnt_ok, T_ixGRoll_ok, T_ixGTransit_ok, T_ixInt_ok, T_ixListInt_ok, x_law20_all_L2_ok a1 n]
def t_law20_all (n : Nat) (a1 : GState) : T An (Int) := T.opx An.z An.gz (d_law20_all n a1)
theorem t_law20_all_ok (n : Nat) (a1 : GState) : (t_law20_all n a1).run = d_law20_all n a1 := T.run_opx (f := An.z) (g := An.gz) (fun _ => rfl) _
def x_law20_all (n : Nat) (a1 : GState) : T An (Int) :=
(show T An (Int) from
t_law20_all_L0 a1 n (0 : Int) (0 : Int)).bind <| fun y4_1 =>
(show T An (Int) from
t_law20_all_L2 a1 n (y4_1 : Int) (0 : Int)).bind <| fun y6_1 =>
T.ret ((y6_1 : Int))
theorem x_law20_all_ok (n : Nat) (a1 : GState) : (x_law20_all n a1).run = d_law20_all n a1 := by
  simp only [x_law20_all, d_law20_all, T.rs, T_ixGEnt_ok, T_ixGRoll_ok, T_ixGTransit_ok, T_ixInt_ok, T_ixListInt_ok, t_law20_all_L0_ok, t_law20_all_L2_ok]
def t_ref24_Mutual_L0 (a1 : GState) : Nat → Int → Int → T An (Int)
  | 0, _, _ => T.fail
  | n + 1, y0_1, y0_2 =>
    T.ask (decide (y0_2 < (a1.Ents.length : Int))) fun x4 =>
    cond x4 ((T_ixGEnt a1.Ents y0_2).bind fun x5 =>
    (T_ixInt x5.Bal 13).bind fun x6 =>
    T.wr (y0_1 + x6) fun x7 =>
    (T_ixGEnt a1.Ents y0_2).bind fun x8 =>
    (T_ixInt x8.Bal 14).bind fun x9 =>
    T.wr (x7 + x9) fun x10 =>
    T.wr (y0_2 + 1) fun x11 =>
    t_ref24_Mutual_L0 a1 n (x10 : Int) (x11 : Int)) (T.ret (y0_1 : Int))
theorem t_ref24_Mutual_L0_ok (a1 : GState) : ∀ (n : Nat) (z0 : Int) (z1 : Int), (t_ref24_Mutual_L0 a1 n z0 z1).run = d_ref24_Mutual_L0 a1 n z0 z1
  | 0, _, _ => rfl
  | n + 1, z0, z1 => by
    simp only [t_ref24_Mutual_L0, d_ref24_Mutual_L0, T.rs, T_ixGEnt_ok, T_ixGRoll_ok, T_ixGTransit_ok, T_ixInt_ok, T_ixListInt_ok, t_ref24_Mutual_L0_ok a1 n]
def t_ref24_Mutual (n : Nat) (a1 : GState) : T An (Bool) :=
(show T An (Int) from
t_ref24_Mutual_L0 a1 n (0 : Int) (0 : Int)).bind <| fun y1_1 =>
T.ask (decide (y1_1 = 0)) fun x12 =>
T.ret (x12)
theorem t_ref24_Mutual_ok (n : Nat) (a1 : GState) : (t_ref24_Mutual n a1).run = d_ref24_Mutual n a1 := by
  simp only [t_ref24_Mutual, d_ref24_Mutual, T.rs, T_ixGEnt_ok, T_ixGRoll_ok, T_ixGTransit_ok, T_ixInt_ok, T_ixListInt_ok, t_ref24_Mutual_L0_ok]
def t_law20_ShipChains_L1 (a3 : List Int) (y0_3 : Int) (x29 : Int) (b0 : Nat) (b1 : Int) (b2 : Int) (b3 : GState) : T An ((Int × GState) ⊕ ((Int × Int × GState) ⊕ ((GState) ⊕ (Bool)))) := T.opx An.k13 An.gk13 (d_law20_ShipChains_L1 a3 y0_3 x29 b0 b1 b2 b3)
theorem t_law20_ShipChains_L1_ok (a3 : List Int) (y0_3 : Int) (x29 : Int) (b0 : Nat) (b1 : Int) (b2 : Int) (b3 : GState) : (t_law20_ShipChains_L1 a3 y0_3 x29 b0 b1 b2 b3).run = d_law20_ShipChains_L1 a3 y0_3 x29 b0 b1 b2 b3 := T.run_opx (f := An.k13) (g := An.gk13) (fun _ => rfl) _
def x_law20_ShipChains_L1 (a3 : List Int) (y0_3 : Int) (x29 : Int) : Nat → Int → Int → GState → T An ((Int × GState) ⊕ ((Int × Int × GState) ⊕ ((GState) ⊕ (Bool))))
  | 0, _, _, _ => T.fail
  | n + 1, y3_1, y3_2, y3_3 =>
    (show T An (Bool) from
    T.ask (decide (y3_1 > 0)) fun x32 =>
    cond x32 (T.ask (decide (y3_2 < 5)) fun x33 =>
    T.ret x33) (T.ret false)).bind <| fun y4_1 =>
    cond y4_1 ((show T An (Bool) from
    T.ask (decide (y3_2 < 4)) fun x35 =>
    cond x35 (T.wr (y0_3 * 4) fun x36 =>
    T.wr (x36 + y3_2) fun x37 =>
    T.ask (decide (x37 < (a3.length : Int))) fun x38 =>
    T.ret x38) (T.ret false)).bind <| fun y7_1 =>
    (show T An (Int) from
    cond y7_1 (T.wr (y0_3 * 4) fun x40 =>
    T.wr (x40 + y3_2) fun x41 =>
    (T_ixInt a3 x41).bind fun x42 =>
    (t_law00_Place x42 y3_1).bind fun x43 =>
    T.wr (1 + x43) fun x44 =>
    T.ret (x44 : Int)) (T.ret (y3_1 : Int))).bind <| fun y5_1 =>
    (t_ship_Do n y3_3 (⟨13, 0, 0, 0, 0, y5_1, 0, y0_3, []⟩ : GOp)).bind fun x45 =>
    (show T An (Bool) from
    T.ask (decide (x45.2 ≠ 0)) fun x48 =>
    cond x48 (T.ret true) ((t_law20_all n x45.1).bind fun x49 =>
    T.ask (decide (x49 ≠ x29)) fun x50 =>
    T.ret x50)).bind <| fun y6_1 =>
    cond y6_1 (T.esc (T.esc (T.esc (T.ret (false))))) (T.wr (y3_1 - y5_1) fun x51 =>
    T.wr (y3_2 + 1) fun x52 =>
    x_law20_ShipChains_L1 a3 y0_3 x29 n (x51 : Int) (x52 : Int) x45.1)) (T.brk ((y3_1 : Int), y3_3))
theorem x_law20_ShipChains_L1_ok (a3 : List Int) (y0_3 : Int) (x29 : Int) : ∀ (n : Nat) (z0 : Int) (z1 : Int) (z2 : GState), (x_law20_ShipChains_L1 a3 y0_3 x29 n z0 z1 z2).run = d_law20_ShipChains_L1 a3 y0_3 x29 n z0 z1 z2
  | 0, _, _, _ => rfl
  | n + 1, z0, z1, z2 => by
    simp only [x_law20_ShipChains_L1, d_law20_ShipChains_L1, T.rs, T_ixGEnt_ok, T_ixGRoll_ok, T_ixGTransit_ok, T_ixInt_ok, T_ixListInt_ok, t_law00_Place_ok, t_law20_all_ok, t_ship_Do_ok, x_law20_ShipChains_L1_ok a3 y0_3 x29 n]
def t_law20_ShipChains_L0 (a2 : List Int) (a3 : List Int) (x5 : Int) : Nat → Int → Int → Int → GState → T An ((GState) ⊕ (Bool))
  | 0, _, _, _, _ => T.fail
  | n + 1, y0_1, y0_2, y0_3, y0_4 =>
    (show T An (Bool) from
    T.ask (decide (y0_3 < (a2.length : Int))) fun x12 =>
    cond x12 (T.ask (decide (y0_3 < 8)) fun x13 =>
    T.ret x13) (T.ret false)).bind <| fun y1_1 =>
    cond y1_1 ((show T An ((Int × Int × GState) ⊕ ((GState) ⊕ (Bool))) from
    (T_ixInt a2 y0_3).bind fun x15 =>
    (t_law00_Place x15 2000).bind fun x16 =>
    T.bnd (y0_3.tmod 2) fun x17 =>
    T.bnd (y0_3.tmod 2) fun x18 =>
    T.wr (1 - x18) fun x19 =>
    (t_ship_Do n y0_4 (⟨12, x17, 1, 0, x19, x5, x16, 0, []⟩ : GOp)).bind fun x20 =>
    (show T An (Bool) from
    T.ask (decide (x20.2 ≠ 0)) fun x23 =>
    cond x23 (T.ret true) ((t_law20_all n x20.1).bind fun x24 =>
    T.wr (y0_2 + x16) fun x25 =>
    T.wr (x25 - y0_1) fun x26 =>
    T.ask (decide (x24 ≠ x26)) fun x27 =>
    T.ret x27)).bind <| fun y2_1 =>
    cond y2_1 (T.esc (T.esc (T.ret (false)))) (T.wr (y0_2 + x16) fun x28 =>
    T.wr (x28 - y0_1) fun x29 =>
    (show T An ((Int × GState) ⊕ ((Int × Int × GState) ⊕ ((GState) ⊕ (Bool)))) from
    t_law20_ShipChains_L1 a3 y0_3 x29 n (x5 : Int) (0 : Int) x20.1).bind <| T.sel <| p2 fun (y8_1 : Int) y8_2 =>
    T.bnd (y0_3.tmod 2) fun x56 =>
    T.wr (1 - x56) fun x57 =>
    (t_ref14_Worth n y8_2 x57 1).bind fun x58 =>
    (show T An (Bool) from
    T.ask (decide (y8_1 ≠ 0)) fun x61 =>
    cond x61 (T.ret true) (T.ask (decide (x58.Qty ≠ x5)) fun x62 =>
    cond x62 (T.ret true) (T.ask (decide (x58.Value ≠ x16)) fun x63 =>
    T.ret x63))).bind <| fun y9_1 =>
    cond y9_1 (T.esc (T.esc (T.ret (false)))) (T.brk ((x16 : Int), (x29 : Int), y8_2)))).bind <| T.sel <| p2 fun (y10_1 : Int) (q0 : Int × GState) => (p2 fun (y10_2 : Int) y10_3 =>
    T.wr (y0_3 + 1) fun x68 =>
    t_law20_ShipChains_L0 a2 a3 x5 n (y10_1 : Int) (y10_2 : Int) (x68 : Int) y10_3) q0) (T.brk y0_4)
theorem t_law20_ShipChains_L0_ok (a2 : List Int) (a3 : List Int) (x5 : Int) : ∀ (n : Nat) (z0 : Int) (z1 : Int) (z2 : Int) (z3 : GState), (t_law20_ShipChains_L0 a2 a3 x5 n z0 z1 z2 z3).run = d_law20_ShipChains_L0 a2 a3 x5 n z0 z1 z2 z3
  | 0, _, _, _, _ => rfl
  | n + 1, z0, z1, z2, z3 => by
    simp only [t_law20_ShipChains_L0, d_law20_ShipChains_L0, T.rs, T_ixGEnt_ok, T_ixGRoll_ok, T_ixGTransit_ok, T_ixInt_ok, T_ixListInt_ok, t_law00_Place_ok, t_law20_ShipChains_L1_ok, t_law20_all_ok, t_ref14_Worth_ok, t_ship_Do_ok, t_law20_ShipChains_L0_ok a2 a3 x5 n]
end Go.Pv
