/- Runs with symbols. -/
import Derived.Test.YtppokdmifjmdfaaGreatF13
set_option linter.unusedSimpArgs false
set_option linter.unusedVariables false
namespace Go.Pv
open Go.Proofs
set_option maxRecDepth 100000
set_option maxHeartbeats 4000000
theorem tpA_r (l l2 : List Int) (m : Nat) (q v k j y p u : Int) (S S1 S2 : GState) (t0 : 0 ≤ Int.tmod j 2) (t1 : Int.tmod j 2 < 2) (h0 : 0 ≤ j) (h1 : j < 8) (hl : j < (l.length : Int)) (h2 : 0 ≤ v) (h3 : v < 2000) (h4 : 0 ≤ p) (h5 : p < 2000) (h6 : -20000 ≤ k) (h7 : k ≤ 20000) (h8 : 1 ≤ q) (h9 : q ≤ 50) (hy : ix l j = some y) (e1 : d_law00_Place y 2000 = some p) (eD : d_ship_Do (m + 40) S ⟨12, Int.tmod j 2, 1, 0, 1 - Int.tmod j 2, q, p, 0, []⟩ = some (S1, 0)) (eA : d_law20_all (m + 40) S1 = some (k + p - v)) (eL : d_law20_ShipChains_L1 l2 j (k + p - v) (m + 40) q 0 S1 = some (.inl (0, S2))) (eW : d_ref14_Worth (m + 40) S2 (1 - Int.tmod j 2) 1 = some ⟨q, p, u⟩) : d_law20_ShipChains_L0 l l2 q (m + 41) v k j S = d_law20_ShipChains_L0 l l2 q (m + 40) p (k + p - v) (j + 1) S2 :=
  T.by_gor [.a (j < ↑(List.length l)),
    .a (j < 8),
    .o ((Go.Pv.ix l j).map .z) (.z (y)),
    .o ((Go.Pv.d_law00_Place y 2000).map .z) (.z (p)),
    .w (1 - Int.tmod j 2) (1 - (Int.tmod j 2)),
    .o ((Go.Pv.d_ship_Do (m + 40) S (Go.Pv.GOp.mk 12 (Int.tmod j 2) 1 0 (1 - Int.tmod j 2) q p 0 [])).map .k10) (.k10 (S1, 0)),
    .o ((Go.Pv.d_law20_all (m + 40) S1).map .z) (.z (k + p - v)),
    .s (k + p),
    .s (k + p - v),
    .b (k + p - v ≠ k + p - v),
    .o ((Go.Pv.d_law20_ShipChains_L1 l2 j (k + p - v) (m + 40) q 0 S1).map .k13) (.k13 (Sum.inl (0, S2))),
    .o ((Go.Pv.d_ref14_Worth (m + 40) S2 (1 - Int.tmod j 2) 1).map .k12) (.k12 (Go.Pv.GLayer.mk q p u)),
    .b (q ≠ q),
    .b (p ≠ p),
    .s (j + 1)]
    0 (T.prs [0,1,2,3,4,1005,6,7,8,9,7,8,10,4,1011,12,13,14]) (t_law20_ShipChains_L0_ok _ _ _ _ _ _ _ _) (t_law20_ShipChains_L0_ok _ _ _ _ _ _ _ _)
    T.okS (by kernel_rfl)
theorem tpBt (l l2 : List Int) (m : Nat) (q v k j : Int) (S : GState) (hl : ¬ j < (l.length : Int) ∨ ¬ j < 8) (f3 : (j : Int) < ↑(List.length l)) : d_law20_ShipChains_L0 l l2 q (m + 41) v k j S = some (.inl S) :=
  T.by_go [.a (j < ↑(List.length l)),
    .b (j < 8)]
    0 (T.prs [0,1]) (t_law20_ShipChains_L0_ok _ _ _ _ _ _ _ _)
    T.okS (by kernel_rfl)
theorem tpBf (l l2 : List Int) (m : Nat) (q v k j : Int) (S : GState) (hl : ¬ j < (l.length : Int) ∨ ¬ j < 8) (f3 : ¬ (j : Int) < ↑(List.length l)) : d_law20_ShipChains_L0 l l2 q (m + 41) v k j S = some (.inl S) :=
  T.by_go [.b (j < ↑(List.length l))]
    0 (T.prs [0]) (t_law20_ShipChains_L0_ok _ _ _ _ _ _ _ _)
    T.okS (by kernel_rfl)
theorem tpB_r (l l2 : List Int) (m : Nat) (q v k j : Int) (S : GState) (hl : ¬ j < (l.length : Int) ∨ ¬ j < 8) : d_law20_ShipChains_L0 l l2 q (m + 41) v k j S = some (.inl S) := by
  by_cases f3 : (j : Int) < ↑(List.length l)
  · exact tpBt l l2 m q v k j S hl f3
  · exact tpBf l l2 m q v k j S hl f3
theorem inA (l : List Int) (m : Nat) (j a o i y k : Int) (S S1 : GState) (h0 : 0 ≤ j) (h1 : j < 8) (h2 : 0 ≤ i) (h3 : i < 4) (h4 : 1 ≤ k) (h5 : k ≤ o) (h6 : o ≤ 50) (hl : 4 * j + i < (l.length : Int)) (hy : ix l (4 * j + i) = some y) (e1 : d_law00_Place y o = some (k - 1)) (eD : d_ship_Do (m + 40) S ⟨13, 0, 0, 0, 0, k, 0, j, []⟩ = some (S1, 0)) (eA : d_law20_all (m + 40) S1 = some a) : d_law20_ShipChains_L1 l j a (m + 41) o i S = d_law20_ShipChains_L1 l (j) (a) (m + 40) (o - k) (i + 1) S1 :=
  T.by_gor [.a (o > 0),
    .a (i < 5),
    .a (i < 4),
    .w (j * 4) (4 * j),
    .s (4 * j + i),
    .a (4 * j + i < ↑(List.length l)),
    .o ((Go.Pv.ix l (4 * j + i)).map .z) (.z (y)),
    .o ((Go.Pv.d_law00_Place y o).map .z) (.z (k - 1)),
    .w (1 + (k - 1)) (k),
    .o ((Go.Pv.d_ship_Do (m + 40) S (Go.Pv.GOp.mk 13 0 0 0 0 k 0 j [])).map .k10) (.k10 (S1, 0)),
    .o ((Go.Pv.d_law20_all (m + 40) S1).map .z) (.z (a)),
    .b (a ≠ a),
    .s (o - k),
    .s (i + 1)]
    0 (T.prs [0,1,2,3,4,5,3,4,6,7,8,1009,10,11,12,13]) (x_law20_ShipChains_L1_ok _ _ _ _ _ _ _) (x_law20_ShipChains_L1_ok _ _ _ _ _ _ _)
    T.okS (by kernel_rfl)
theorem inA_r (l : List Int) (m : Nat) (j a o i y k : Int) (S S1 : GState) (h0 : 0 ≤ j) (h1 : j < 8) (h2 : 0 ≤ i) (h3 : i < 4) (h4 : 1 ≤ k) (h5 : k ≤ o) (h6 : o ≤ 50) (hl : 4 * j + i < (l.length : Int)) (hy : ix l (4 * j + i) = some y) (e1 : d_law00_Place y o = some (k - 1)) (eD : d_ship_Do (m + 40) S ⟨13, 0, 0, 0, 0, k, 0, j, []⟩ = some (S1, 0)) (eA : d_law20_all (m + 40) S1 = some a) : d_law20_ShipChains_L1 l j a (m + 41) o i S = d_law20_ShipChains_L1 l j a (m + 40) (o - k) (i + 1) S1 := by
  exact Eq.trans (inA l m j a o i y k S S1 h0 h1 h2 h3 h4 h5 h6 hl hy e1 eD eA) (by repeat' (first | rfl | omega | apply congr))
def inB_tb (l : List Int) (m : Nat) (j : Int) (a : Int) (o : Int) (i : Int) (S : Go.Pv.GState) (S1 : Go.Pv.GState) : List (T.E An) :=
  [.a (o > 0),
    .a (i < 5),
    .o ((Go.Pv.d_ship_Do (m + 40) S (Go.Pv.GOp.mk 13 0 0 0 0 o 0 j [])).map .k10) (.k10 (S1, 0)),
    .o ((Go.Pv.d_law20_all (m + 40) S1).map .z) (.z (a)),
    .b (a ≠ a),
    .w (o - o) (0),
    .s (i + 1)]
theorem inB_tk (l : List Int) (m : Nat) (j a o i : Int) (S S1 : GState) (h0 : 0 ≤ j) (h1 : j < 8) (h2 : 0 ≤ i) (h3 : i < 5) (h5 : 1 ≤ o) (h6 : o ≤ 50) (hl : ¬ 4 * j + i < (l.length : Int) ∨ ¬ i < 4) (eD : d_ship_Do (m + 40) S ⟨13, 0, 0, 0, 0, o, 0, j, []⟩ = some (S1, 0)) (eA : d_law20_all (m + 40) S1 = some a) : T.AllE (inB_tb l m j a o i S S1) := by
  unfold inB_tb
  exact T.okS
theorem inBt (l : List Int) (m : Nat) (j a o i : Int) (S S1 : GState) (h0 : 0 ≤ j) (h1 : j < 8) (h2 : 0 ≤ i) (h3 : i < 5) (h5 : 1 ≤ o) (h6 : o ≤ 50) (hl : ¬ 4 * j + i < (l.length : Int) ∨ ¬ i < 4) (eD : d_ship_Do (m + 40) S ⟨13, 0, 0, 0, 0, o, 0, j, []⟩ = some (S1, 0)) (eA : d_law20_all (m + 40) S1 = some a) (f3 : (i : Int) < 4) : d_law20_ShipChains_L1 l j a (m + 41) o i S = d_law20_ShipChains_L1 l (j) (a) (m + 40) (0) (i + 1) S1 :=
  T.by_gor (inB_tb l m j a o i S S1 ++ [.a (i < 4),
    .w (j * 4) (4 * j),
    .s (4 * j + i),
    .b (4 * j + i < ↑(List.length l))])
    0 (T.prs [0,1,7,8,9,10,1002,3,4,5,6]) (x_law20_ShipChains_L1_ok _ _ _ _ _ _ _) (x_law20_ShipChains_L1_ok _ _ _ _ _ _ _)
    (T.okA (inB_tk l m j a o i S S1 h0 h1 h2 h3 h5 h6 hl eD eA) T.okS) (by kernel_rfl)
theorem inBf (l : List Int) (m : Nat) (j a o i : Int) (S S1 : GState) (h0 : 0 ≤ j) (h1 : j < 8) (h2 : 0 ≤ i) (h3 : i < 5) (h5 : 1 ≤ o) (h6 : o ≤ 50) (hl : ¬ 4 * j + i < (l.length : Int) ∨ ¬ i < 4) (eD : d_ship_Do (m + 40) S ⟨13, 0, 0, 0, 0, o, 0, j, []⟩ = some (S1, 0)) (eA : d_law20_all (m + 40) S1 = some a) (f3 : ¬ (i : Int) < 4) : d_law20_ShipChains_L1 l j a (m + 41) o i S = d_law20_ShipChains_L1 l (j) (a) (m + 40) (0) (i + 1) S1 :=
  T.by_gor (inB_tb l m j a o i S S1 ++ [.b (i < 4)])
    0 (T.prs [0,1,7,1002,3,4,5,6]) (x_law20_ShipChains_L1_ok _ _ _ _ _ _ _) (x_law20_ShipChains_L1_ok _ _ _ _ _ _ _)
    (T.okA (inB_tk l m j a o i S S1 h0 h1 h2 h3 h5 h6 hl eD eA) T.okS) (by kernel_rfl)
theorem inB_r (l : List Int) (m : Nat) (j a o i : Int) (S S1 : GState) (h0 : 0 ≤ j) (h1 : j < 8) (h2 : 0 ≤ i) (h3 : i < 5) (h5 : 1 ≤ o) (h6 : o ≤ 50) (hl : ¬ 4 * j + i < (l.length : Int) ∨ ¬ i < 4) (eD : d_ship_Do (m + 40) S ⟨13, 0, 0, 0, 0, o, 0, j, []⟩ = some (S1, 0)) (eA : d_law20_all (m + 40) S1 = some a) : d_law20_ShipChains_L1 l j a (m + 41) o i S = d_law20_ShipChains_L1 l j a (m + 40) 0 (i + 1) S1 := by
  by_cases f3 : (i : Int) < 4
  · exact Eq.trans (inBt l m j a o i S S1 h0 h1 h2 h3 h5 h6 hl eD eA f3) (by repeat' (first | rfl | omega | apply congr))
  · exact Eq.trans (inBf l m j a o i S S1 h0 h1 h2 h3 h5 h6 hl eD eA f3) (by repeat' (first | rfl | omega | apply congr))
theorem inE_r (l : List Int) (m : Nat) (j a i : Int) (S : GState) : d_law20_ShipChains_L1 l j a (m + 41) 0 i S = some (.inl (0, S)) :=
  T.by_go []
    1 (T.prs []) (x_law20_ShipChains_L1_ok _ _ _ _ _ _ _)
    T.okS (by kernel_rfl)
theorem shD (m : Nat) (X X1 X2 X3 X4 : List GEnt) (U : List GTransit) (rc : GReceipt) (Pe Pf : List GPool) (Be Bf : List Int) (Re Rf : List GRoll) (e f q p v a : Int) (hX : (X.length : Int) = 2) (he : 0 ≤ e) (he2 : e < 2) (hf : 0 ≤ f) (hf2 : f < 2) (xe : ix X e = some (F2 Pe Be Re)) (xf : ix X f = some (F2 Pf Bf Rf)) (me : ix ([[1, 2, 3, 4], [1, 2, 3, 4]] : List (List Int)) e = some [1, 2, 3, 4]) (mf : ix ([[1, 2, 3, 4], [1, 2, 3, 4]] : List (List Int)) f = some [1, 2, 3, 4]) (ce : ix ([[10, 10, 10, 10], [10, 10, 10, 10]] : List (List Int)) e = some [10, 10, 10, 10]) (cf : ix ([[10, 10, 10, 10], [10, 10, 10, 10]] : List (List Int)) f = some [10, 10, 10, 10]) (p1 : (Pe.length : Int) = 8) (p2 : (Pf.length : Int) = 8) (r1 : (Re.length : Int) = 4) (r2 : (Rf.length : Int) = 4) (hT : U.length ≤ 10) (h1 : 1 ≤ q) (h2 : q ≤ 50) (h3 : 0 ≤ p) (h4 : p < 2000) (h5 : 0 ≤ v) (h6 : v < 2000) (h7 : -20000 ≤ a) (h8 : a ≤ 20000) (eF : d_stock_Fetch (m + 40) (F1 X U rc) e 1 0 3 q = some (F1 X1 U rc, ⟨q, v, a⟩, false, 0)) (ep1 : d_stock_Post (m + 39) (F1 X1 U rc) e [⟨13, p⟩, ⟨15, 0 - p⟩, ⟨16, v⟩, ⟨0, 0 - v⟩] = some (F1 X2 U rc, 0)) (ep2 : d_stock_Post (m + 38) (F1 X2 U rc) f [⟨12, p⟩, ⟨14, 0 - p⟩] = some (F1 X3 U rc, 0)) (et : d_stock_Turn (F1 X3 U rc) e 1 ⟨0, 0, 0, 0, 0, 0, v, 0, 0, 0, 0⟩ = some (F1 X4 U rc, 0)) : d_ship_Do (m + 40) (F1 X U rc) ⟨12, e, 1, 0, f, q, p, 0, []⟩ = some (⟨⟨2, 3, [1, 2, 3, 0], [[1, 2, 3, 4], [1, 2, 3, 4]], [[10, 10, 10, 10], [10, 10, 10, 10]]⟩, X4, [rc], [], (U ++ [⟨e, f, 1, q, p, p + a - v⟩]), 0⟩, 0) :=
  T.by_go [.b (e < 0),
    .b (e ≥ ↑(List.length X)),
    .o ((Go.Pv.ix X e).map .k2) (.k2 (Go.Pv.F2 Pe Be Re)),
    .a ((↑(List.length Pe) : Int) ≥ 8),
    .a ((↑(List.length Re) : Int) ≥ 4),
    .a (e < 2),
    .o ((Go.Pv.ix [[1, 2, 3, 4], [1, 2, 3, 4]] e).map .k5) (.k5 [1, 2, 3, 4]),
    .o ((Go.Pv.ix [[10, 10, 10, 10], [10, 10, 10, 10]] e).map .k5) (.k5 [10, 10, 10, 10]),
    .b (f < 0),
    .b (f ≥ ↑(List.length X)),
    .o ((Go.Pv.ix X f).map .k2) (.k2 (Go.Pv.F2 Pf Bf Rf)),
    .a ((↑(List.length Pf) : Int) ≥ 8),
    .a ((↑(List.length Rf) : Int) ≥ 4),
    .a (f < 2),
    .o ((Go.Pv.ix [[1, 2, 3, 4], [1, 2, 3, 4]] f).map .k5) (.k5 [1, 2, 3, 4]),
    .o ((Go.Pv.ix [[10, 10, 10, 10], [10, 10, 10, 10]] f).map .k5) (.k5 [10, 10, 10, 10]),
    .b ((↑(List.length U) : Int) ≥ 40),
    .o ((Go.Pv.d_stock_Fetch (m + 40) (Go.Pv.F1 X U rc) e 1 0 3 q).map .k11) (.k11 (Go.Pv.F1 X1 U rc, Go.Pv.GLayer.mk q v a, Bool.false, 0)),
    .s (0 - p),
    .s (0 - v),
    .o ((Go.Pv.d_stock_Post (m + 39) (Go.Pv.F1 X1 U rc) e
  [Go.Pv.GLine.mk 13 p, Go.Pv.GLine.mk 15 (0 - p), Go.Pv.GLine.mk 16 v, Go.Pv.GLine.mk 0 (0 - v)]).map .k10) (.k10 (Go.Pv.F1 X2 U rc, 0)),
    .o ((Go.Pv.d_stock_Post (m + 38) (Go.Pv.F1 X2 U rc) f [Go.Pv.GLine.mk 12 p, Go.Pv.GLine.mk 14 (0 - p)]).map .k10) (.k10 (Go.Pv.F1 X3 U rc, 0)),
    .o ((Go.Pv.d_stock_Turn (Go.Pv.F1 X3 U rc) e 1 (Go.Pv.GRoll.mk 0 0 0 0 0 0 v 0 0 0 0)).map .k10) (.k10 (Go.Pv.F1 X4 U rc, 0)),
    .s (p - v),
    .w (p - v + a) (p + a - v),
    .b (p + a - v < -288230376151711744),
    .b (p + a - v > 288230376151711744),
    .a (List.length U ≤ 68719476736),
    .a (List.length (U ++ [Go.Pv.GTransit.mk e f 1 q p (p + a - v)]) ≤ 68719476736)]
    3 (T.prs [0,2001,1002,3,4,5,5,1006,1007,4002,8,2009,1010,11,12,13,13,1014,1015,3010,16,1017,18,19,1018,3020,4021,1022,23,24,25,26,27,1028]) (x_ship_Do_ok _ _ _)
    T.okS (by kernel_rfl)
theorem shD_r (m : Nat) (X X1 X2 X3 X4 : List GEnt) (U : List GTransit) (rc : GReceipt) (Pe Pf : List GPool) (Be Bf : List Int) (Re Rf : List GRoll) (e f q p v a : Int) (hX : (X.length : Int) = 2) (he : 0 ≤ e) (he2 : e < 2) (hf : 0 ≤ f) (hf2 : f < 2) (xe : ix X e = some (F2 Pe Be Re)) (xf : ix X f = some (F2 Pf Bf Rf)) (me : ix ([[1, 2, 3, 4], [1, 2, 3, 4]] : List (List Int)) e = some [1, 2, 3, 4]) (mf : ix ([[1, 2, 3, 4], [1, 2, 3, 4]] : List (List Int)) f = some [1, 2, 3, 4]) (ce : ix ([[10, 10, 10, 10], [10, 10, 10, 10]] : List (List Int)) e = some [10, 10, 10, 10]) (cf : ix ([[10, 10, 10, 10], [10, 10, 10, 10]] : List (List Int)) f = some [10, 10, 10, 10]) (p1 : (Pe.length : Int) = 8) (p2 : (Pf.length : Int) = 8) (r1 : (Re.length : Int) = 4) (r2 : (Rf.length : Int) = 4) (hT : U.length ≤ 10) (h1 : 1 ≤ q) (h2 : q ≤ 50) (h3 : 0 ≤ p) (h4 : p < 2000) (h5 : 0 ≤ v) (h6 : v < 2000) (h7 : -20000 ≤ a) (h8 : a ≤ 20000) (eF : d_stock_Fetch (m + 40) (F1 X U rc) e 1 0 3 q = some (F1 X1 U rc, ⟨q, v, a⟩, false, 0)) (ep1 : d_stock_Post (m + 39) (F1 X1 U rc) e [⟨13, p⟩, ⟨15, 0 - p⟩, ⟨16, v⟩, ⟨0, 0 - v⟩] = some (F1 X2 U rc, 0)) (ep2 : d_stock_Post (m + 38) (F1 X2 U rc) f [⟨12, p⟩, ⟨14, 0 - p⟩] = some (F1 X3 U rc, 0)) (et : d_stock_Turn (F1 X3 U rc) e 1 ⟨0, 0, 0, 0, 0, 0, v, 0, 0, 0, 0⟩ = some (F1 X4 U rc, 0)) : d_ship_Do (m + 40) (F1 X U rc) ⟨12, e, 1, 0, f, q, p, 0, []⟩ = some ((F1 X4 (U ++ [⟨e, f, 1, q, p, p - v + a⟩]) rc, 0)) := by
  exact Eq.trans (shD m X X1 X2 X3 X4 U rc Pe Pf Be Bf Re Rf e f q p v a hX he he2 hf hf2 xe xf me mf ce cf p1 p2 r1 r2 hT h1 h2 h3 h4 h5 h6 h7 h8 eF ep1 ep2 et) (by unfold F1; repeat' (first | rfl | omega | apply congr))
theorem arD_r (m : Nat) (X X1 X2 X3 : List GEnt) (U : List GTransit) (rc : GReceipt) (P : List GPool) (B : List Int) (R : List GRoll) (e g j k o w a d c : Int) (hX : (X.length : Int) = 2) (he : 0 ≤ e) (he2 : e < 2) (me : ix ([[1, 2, 3, 4], [1, 2, 3, 4]] : List (List Int)) e = some [1, 2, 3, 4]) (ce : ix ([[10, 10, 10, 10], [10, 10, 10, 10]] : List (List Int)) e = some [10, 10, 10, 10]) (xe : ix X e = some (F2 P B R)) (p1 : (P.length : Int) = 8) (r1 : (R.length : Int) = 4) (hU : U.length ≤ 10) (h0 : 0 ≤ j) (hj : j < (U.length : Int)) (tj : ix U j = some ⟨g, e, 1, o, w, a⟩) (h1 : 1 ≤ k) (h2 : k ≤ o) (h3 : o ≤ 50) (h4 : 0 ≤ d) (h5 : d ≤ w) (h6 : w < 2000) (h7 : -20000 ≤ a) (h8 : a ≤ 20000) (h9 : -20000 ≤ c) (h10 : c ≤ 20000) (em : d_money_Part (m + 40) w k o = some d) (ea : d_money_Part (m + 40) a k o = some c) (eb : d_stock_Bring (m + 40) (F1 X U rc) e 1 0 ⟨k, d, c⟩ = some (F1 X1 U rc, d, 0, 0)) (ep : d_stock_Post (m + 39) (F1 X1 U rc) e [⟨0, d⟩, ⟨6, 0⟩, ⟨12, 0 - d⟩] = some (F1 X2 U rc, 0)) (et : d_stock_Turn (F1 X2 U rc) e 1 ⟨0, 0, 0, d, 0, 0, 0, 0, 0, 0, 0⟩ = some (F1 X3 U rc, 0)) : d_ship_Do (m + 40) (F1 X U rc) ⟨13, 0, 0, 0, 0, k, 0, j, []⟩ = some ((F1 X3 (List.set (List.set (List.set U (Int.toNat j) ⟨g, e, 1, o - k, w, a⟩) (Int.toNat j) ⟨g, e, 1, o - k, w - d, a⟩) (Int.toNat j) ⟨g, e, 1, o - k, w - d, a - c⟩) rc, 0)) :=
  T.by_go [.b (j < 0),
    .b (j ≥ ↑(List.length U)),
    .o ((Go.Pv.ix U j).map .k4) (.k4 (Go.Pv.GTransit.mk g e 1 o w a)),
    .b (e < 0),
    .b (e ≥ ↑(List.length X)),
    .o ((Go.Pv.ix X e).map .k2) (.k2 (Go.Pv.F2 P B R)),
    .a ((↑(List.length P) : Int) ≥ 8),
    .a ((↑(List.length R) : Int) ≥ 4),
    .a (e < 2),
    .o ((Go.Pv.ix [[1, 2, 3, 4], [1, 2, 3, 4]] e).map .k5) (.k5 [1, 2, 3, 4]),
    .o ((Go.Pv.ix [[10, 10, 10, 10], [10, 10, 10, 10]] e).map .k5) (.k5 [10, 10, 10, 10]),
    .b (k > o),
    .o ((Go.Pv.d_money_Part (m + 40) w k o).map .z) (.z (d)),
    .o ((Go.Pv.d_money_Part (m + 40) a k o).map .z) (.z (c)),
    .o ((Go.Pv.d_stock_Bring (m + 40) (Go.Pv.F1 X U rc) e 1 0 (Go.Pv.GLayer.mk k d c)).map .k9) (.k9 (Go.Pv.F1 X1 U rc, d, 0, 0)),
    .s (0 - d),
    .o ((Go.Pv.d_stock_Post (m + 39) (Go.Pv.F1 X1 U rc) e [Go.Pv.GLine.mk 0 d, Go.Pv.GLine.mk 6 0, Go.Pv.GLine.mk 12 (0 - d)]).map .k10) (.k10 (Go.Pv.F1 X2 U rc, 0)),
    .o ((Go.Pv.d_stock_Turn (Go.Pv.F1 X2 U rc) e 1 (Go.Pv.GRoll.mk 0 0 0 d 0 0 0 0 0 0 0)).map .k10) (.k10 (Go.Pv.F1 X3 U rc, 0)),
    .a (List.length U ≤ 68719476736),
    .s (o - k),
    .s (w - d),
    .s (a - c)]
    2 (T.prs [0,1,2,3,2004,1005,6,7,8,8,1009,1010,1005,11,12,13,1014,1015,4016,1017,18,19,20,21,1002]) (x_ship_Do_ok _ _ _)
    T.okS (by kernel_rfl)
def poS_tb (m : Nat) (X : List Go.Pv.GEnt) (U : List Go.Pv.GTransit) (rc : Go.Pv.GReceipt) (P : List Go.Pv.GPool) (R : List Go.Pv.GRoll) (e : Int) (b0 : Int) (g : Int) (t : Int) (r : Int) (y : Int) (s : Int) (c : Int) (p : Int) (v : Int) : List (T.E An) :=
  [.b (e < 0),
    .b (e ≥ ↑(List.length X)),
    .a (p ≥ -288230376151711744),
    .a (p ≤ 288230376151711744),
    .a (0 - p ≥ -288230376151711744),
    .a (0 - p ≤ 288230376151711744),
    .a (v ≥ -288230376151711744),
    .a (v ≤ 288230376151711744),
    .a (0 - v ≥ -288230376151711744),
    .a (0 - v ≤ 288230376151711744),
    .o ((Go.Pv.ix X e).map .k2) (.k2 (Go.Pv.F2 P (Go.Pv.F3 b0 g t r y s c) R)),
    .a (List.length X ≤ 68719476736)]
theorem poS_tk (m : Nat) (X : List GEnt) (U : List GTransit) (rc : GReceipt) (P : List GPool) (R : List GRoll) (e : Int) (b0 g t r y s c : Int) (lb0 : -50000 ≤ b0) (ub0 : b0 ≤ 50000) (lg : -50000 ≤ g) (ug : g ≤ 50000) (lt : -50000 ≤ t) (ut : t ≤ 50000) (lr : -50000 ≤ r) (ur : r ≤ 50000) (ly : -50000 ≤ y) (uy : y ≤ 50000) (ls : -50000 ≤ s) (us : s ≤ 50000) (lc : -50000 ≤ c) (uc : c ≤ 50000) (p v : Int) (h1 : 0 ≤ p) (h2 : p < 2000) (h3 : 0 ≤ v) (h4 : v < 2000) (hX : (X.length : Int) = 2) (he : 0 ≤ e) (he2 : e < 2) (xe : ix X e = some (F2 P (F3 b0 g t r y s c) R)) : T.AllE (poS_tb m X U rc P R e b0 g t r y s c p v) := by
  unfold poS_tb
  exact T.okS
theorem poStt (m : Nat) (X : List GEnt) (U : List GTransit) (rc : GReceipt) (P : List GPool) (R : List GRoll) (e : Int) (b0 g t r y s c : Int) (lb0 : -50000 ≤ b0) (ub0 : b0 ≤ 50000) (lg : -50000 ≤ g) (ug : g ≤ 50000) (lt : -50000 ≤ t) (ut : t ≤ 50000) (lr : -50000 ≤ r) (ur : r ≤ 50000) (ly : -50000 ≤ y) (uy : y ≤ 50000) (ls : -50000 ≤ s) (us : s ≤ 50000) (lc : -50000 ≤ c) (uc : c ≤ 50000) (p v : Int) (h1 : 0 ≤ p) (h2 : p < 2000) (h3 : 0 ≤ v) (h4 : v < 2000) (hX : (X.length : Int) = 2) (he : 0 ≤ e) (he2 : e < 2) (xe : ix X e = some (F2 P (F3 b0 g t r y s c) R)) (f3 : (0 - v : Int) = 0) (f2 : (p : Int) = 0) : d_stock_Post (m + 20) (F1 X U rc) e [⟨13, p⟩, ⟨15, 0 - p⟩, ⟨16, v⟩, ⟨0, 0 - v⟩] = some (⟨⟨2, 3, [1, 2, 3, 0], [[1, 2, 3, 4], [1, 2, 3, 4]], [[10, 10, 10, 10], [10, 10, 10, 10]]⟩, (List.set X (Int.toNat (e)) ⟨1, false, P, [b0, g, 0, 0, 0, 0, 0, 0, 0, 0, 0, 0, t, r, y, s, c], R, [-1, -1, -1, -1], [0, 0, 0, 0], []⟩), [rc], [], U, 0⟩, 0) :=
  T.by_go (poS_tb m X U rc P R e b0 g t r y s c p v ++ [.a (0 - v = 0),
    .a (p = 0),
    .a (0 - p = 0),
    .a (v = 0)])
    0 (T.prs [0,3001,2,4003,4,4005,6,4007,8,84009,3012,2013,2014,6015,22010,11,10,10]) (x_stock_Post_ok _ _ _ _)
    (T.okA (poS_tk m X U rc P R e b0 g t r y s c lb0 ub0 lg ug lt ut lr ur ly uy ls us lc uc p v h1 h2 h3 h4 hX he he2 xe) T.okS) (by kernel_rfl)
theorem poStf (m : Nat) (X : List GEnt) (U : List GTransit) (rc : GReceipt) (P : List GPool) (R : List GRoll) (e : Int) (b0 g t r y s c : Int) (lb0 : -50000 ≤ b0) (ub0 : b0 ≤ 50000) (lg : -50000 ≤ g) (ug : g ≤ 50000) (lt : -50000 ≤ t) (ut : t ≤ 50000) (lr : -50000 ≤ r) (ur : r ≤ 50000) (ly : -50000 ≤ y) (uy : y ≤ 50000) (ls : -50000 ≤ s) (us : s ≤ 50000) (lc : -50000 ≤ c) (uc : c ≤ 50000) (p v : Int) (h1 : 0 ≤ p) (h2 : p < 2000) (h3 : 0 ≤ v) (h4 : v < 2000) (hX : (X.length : Int) = 2) (he : 0 ≤ e) (he2 : e < 2) (xe : ix X e = some (F2 P (F3 b0 g t r y s c) R)) (f3 : (0 - v : Int) = 0) (f2 : ¬ (p : Int) = 0) : d_stock_Post (m + 20) (F1 X U rc) e [⟨13, p⟩, ⟨15, 0 - p⟩, ⟨16, v⟩, ⟨0, 0 - v⟩] = some (⟨⟨2, 3, [1, 2, 3, 0], [[1, 2, 3, 4], [1, 2, 3, 4]], [[10, 10, 10, 10], [10, 10, 10, 10]]⟩, (List.set X (Int.toNat (e)) ⟨1, false, P, [b0, g, 0, 0, 0, 0, 0, 0, 0, 0, 0, 0, t, r + p, y, s - p, c], R, [-1, -1, -1, -1], [0, 0, 0, 0], []⟩), [rc], [], U, 0⟩, 0) :=
  T.by_go (poS_tb m X U rc P R e b0 g t r y s c p v ++ [.a (0 - v = 0),
    .b (p = 0),
    .b (0 - p = 0),
    .a (v = 0),
    .w (0 + p) (p),
    .w (p + (0 - p)) (0),
    .a (r ≥ -288230376151711744),
    .a (r ≤ 288230376151711744),
    .s (r + p),
    .a (r + p ≥ -288230376151711744),
    .a (r + p ≤ 288230376151711744),
    .a (s ≥ -288230376151711744),
    .a (s ≤ 288230376151711744),
    .w (s + (0 - p)) (s - p),
    .a (s - p ≥ -288230376151711744),
    .a (s - p ≤ 288230376151711744)])
    0 (T.prs [0,3001,2,4003,4,4005,6,4007,8,84009,3012,3013,3014,6015,5010,2,4003,4,33005,2013,19014,2,3,16,2,3,4016,2,3,4,5,2017,6017,13,2,4003,14,4,7005,18,19,2,3,20,21,22,4020,23,24,4,5,25,26,27,6025,11,10,10]) (x_stock_Post_ok _ _ _ _)
    (T.okA (poS_tk m X U rc P R e b0 g t r y s c lb0 ub0 lg ug lt ut lr ur ly uy ls us lc uc p v h1 h2 h3 h4 hX he he2 xe) T.okS) (by kernel_rfl)
theorem poSft (m : Nat) (X : List GEnt) (U : List GTransit) (rc : GReceipt) (P : List GPool) (R : List GRoll) (e : Int) (b0 g t r y s c : Int) (lb0 : -50000 ≤ b0) (ub0 : b0 ≤ 50000) (lg : -50000 ≤ g) (ug : g ≤ 50000) (lt : -50000 ≤ t) (ut : t ≤ 50000) (lr : -50000 ≤ r) (ur : r ≤ 50000) (ly : -50000 ≤ y) (uy : y ≤ 50000) (ls : -50000 ≤ s) (us : s ≤ 50000) (lc : -50000 ≤ c) (uc : c ≤ 50000) (p v : Int) (h1 : 0 ≤ p) (h2 : p < 2000) (h3 : 0 ≤ v) (h4 : v < 2000) (hX : (X.length : Int) = 2) (he : 0 ≤ e) (he2 : e < 2) (xe : ix X e = some (F2 P (F3 b0 g t r y s c) R)) (f3 : ¬ (0 - v : Int) = 0) (f2 : (p : Int) = 0) : d_stock_Post (m + 20) (F1 X U rc) e [⟨13, p⟩, ⟨15, 0 - p⟩, ⟨16, v⟩, ⟨0, 0 - v⟩] = some (⟨⟨2, 3, [1, 2, 3, 0], [[1, 2, 3, 4], [1, 2, 3, 4]], [[10, 10, 10, 10], [10, 10, 10, 10]]⟩, (List.set X (Int.toNat (e)) ⟨1, false, P, [b0 - v, g, 0, 0, 0, 0, 0, 0, 0, 0, 0, 0, t, r, y, s, c + v], R, [-1, -1, -1, -1], [0, 0, 0, 0], []⟩), [rc], [], U, 0⟩, 0) :=
  T.by_go (poS_tb m X U rc P R e b0 g t r y s c p v ++ [.b (0 - v = 0),
    .a (p = 0),
    .a (0 - p = 0),
    .b (v = 0),
    .w (0 + (0 - v)) (0 - v),
    .w (0 - v + v) (0),
    .a (b0 ≥ -288230376151711744),
    .a (b0 ≤ 288230376151711744),
    .w (b0 + (0 - v)) (b0 - v),
    .a (b0 - v ≥ -288230376151711744),
    .a (b0 - v ≤ 288230376151711744),
    .a (c ≥ -288230376151711744),
    .a (c ≤ 288230376151711744),
    .s (c + v),
    .a (c + v ≥ -288230376151711744),
    .a (c + v ≤ 288230376151711744)])
    0 (T.prs [0,3001,2,4003,4,4005,6,4007,8,84009,2012,3013,2014,7015,5010,8,4009,6,33007,2012,19015,8,9,16,8,9,4016,8,9,6,7,2017,6017,12,8,4009,15,6,7007,18,19,8,9,20,21,22,4020,23,24,6,7,25,26,27,6025,11,10,10]) (x_stock_Post_ok _ _ _ _)
    (T.okA (poS_tk m X U rc P R e b0 g t r y s c lb0 ub0 lg ug lt ut lr ur ly uy ls us lc uc p v h1 h2 h3 h4 hX he he2 xe) T.okS) (by kernel_rfl)
theorem poSff (m : Nat) (X : List GEnt) (U : List GTransit) (rc : GReceipt) (P : List GPool) (R : List GRoll) (e : Int) (b0 g t r y s c : Int) (lb0 : -50000 ≤ b0) (ub0 : b0 ≤ 50000) (lg : -50000 ≤ g) (ug : g ≤ 50000) (lt : -50000 ≤ t) (ut : t ≤ 50000) (lr : -50000 ≤ r) (ur : r ≤ 50000) (ly : -50000 ≤ y) (uy : y ≤ 50000) (ls : -50000 ≤ s) (us : s ≤ 50000) (lc : -50000 ≤ c) (uc : c ≤ 50000) (p v : Int) (h1 : 0 ≤ p) (h2 : p < 2000) (h3 : 0 ≤ v) (h4 : v < 2000) (hX : (X.length : Int) = 2) (he : 0 ≤ e) (he2 : e < 2) (xe : ix X e = some (F2 P (F3 b0 g t r y s c) R)) (f3 : ¬ (0 - v : Int) = 0) (f2 : ¬ (p : Int) = 0) : d_stock_Post (m + 20) (F1 X U rc) e [⟨13, p⟩, ⟨15, 0 - p⟩, ⟨16, v⟩, ⟨0, 0 - v⟩] = some ((F1 (List.set X (Int.toNat e) (F2 P (F3 (b0 - v) g t (r + p) y (s - p) (c + v)) R)) U rc, 0)) :=
  T.by_go (poS_tb m X U rc P R e b0 g t r y s c p v ++ [.b (0 - v = 0),
    .b (p = 0),
    .b (0 - p = 0),
    .b (v = 0),
    .w (0 + (0 - v)) (0 - v),
    .w (0 - v + p) (p - v),
    .a (p - v ≥ -288230376151711744),
    .a (p - v ≤ 288230376151711744),
    .w (p - v + (0 - p)) (0 - v),
    .w (0 - v + v) (0),
    .a (b0 ≥ -288230376151711744),
    .a (b0 ≤ 288230376151711744),
    .w (b0 + (0 - v)) (b0 - v),
    .a (b0 - v ≥ -288230376151711744),
    .a (b0 - v ≤ 288230376151711744),
    .a (r ≥ -288230376151711744),
    .a (r ≤ 288230376151711744),
    .s (r + p),
    .a (r + p ≥ -288230376151711744),
    .a (r + p ≤ 288230376151711744),
    .a (s ≥ -288230376151711744),
    .a (s ≤ 288230376151711744),
    .w (s + (0 - p)) (s - p),
    .a (s - p ≥ -288230376151711744),
    .a (s - p ≤ 288230376151711744),
    .a (c ≥ -288230376151711744),
    .a (c ≤ 288230376151711744),
    .s (c + v),
    .a (c + v ≥ -288230376151711744),
    .a (c + v ≤ 288230376151711744)])
    0 (T.prs [0,3001,2,4003,4,4005,6,4007,8,84009,2012,2013,2014,5015,5010,8,4009,2,4003,4,4005,6,63007,2012,2013,2014,25015,8,9,16,8,9,4016,8,9,2,3,17,18,19,4017,18,19,4,5,20,8,9,4020,8,9,6,7,2021,6021,12,8,4009,13,2,4003,14,4,4005,15,6,7007,22,23,8,9,24,25,26,4024,27,28,2,3,29,30,31,4029,32,33,4,5,34,35,36,4034,37,38,6,7,39,40,41,6039,11,10,10]) (x_stock_Post_ok _ _ _ _)
    (T.okA (poS_tk m X U rc P R e b0 g t r y s c lb0 ub0 lg ug lt ut lr ur ly uy ls us lc uc p v h1 h2 h3 h4 hX he he2 xe) T.okS) (by kernel_rfl)
theorem poS_r (m : Nat) (X : List GEnt) (U : List GTransit) (rc : GReceipt) (P : List GPool) (R : List GRoll) (e : Int) (b0 g t r y s c : Int) (lb0 : -50000 ≤ b0) (ub0 : b0 ≤ 50000) (lg : -50000 ≤ g) (ug : g ≤ 50000) (lt : -50000 ≤ t) (ut : t ≤ 50000) (lr : -50000 ≤ r) (ur : r ≤ 50000) (ly : -50000 ≤ y) (uy : y ≤ 50000) (ls : -50000 ≤ s) (us : s ≤ 50000) (lc : -50000 ≤ c) (uc : c ≤ 50000) (p v : Int) (h1 : 0 ≤ p) (h2 : p < 2000) (h3 : 0 ≤ v) (h4 : v < 2000) (hX : (X.length : Int) = 2) (he : 0 ≤ e) (he2 : e < 2) (xe : ix X e = some (F2 P (F3 b0 g t r y s c) R)) : d_stock_Post (m + 20) (F1 X U rc) e [⟨13, p⟩, ⟨15, 0 - p⟩, ⟨16, v⟩, ⟨0, 0 - v⟩] = some ((F1 (List.set X (Int.toNat e) (F2 P (F3 (b0 - v) g t (r + p) y (s - p) (c + v)) R)) U rc, 0)) := by
  by_cases f3 : (0 - v : Int) = 0
  · by_cases f2 : (p : Int) = 0
    · exact Eq.trans (poStt m X U rc P R e b0 g t r y s c lb0 ub0 lg ug lt ut lr ur ly uy ls us lc uc p v h1 h2 h3 h4 hX he he2 xe f3 f2) (by unfold F1 F2 F3; repeat' (first | rfl | omega | apply congr))
    · exact Eq.trans (poStf m X U rc P R e b0 g t r y s c lb0 ub0 lg ug lt ut lr ur ly uy ls us lc uc p v h1 h2 h3 h4 hX he he2 xe f3 f2) (by unfold F1 F2 F3; repeat' (first | rfl | omega | apply congr))
  · by_cases f2 : (p : Int) = 0
    · exact Eq.trans (poSft m X U rc P R e b0 g t r y s c lb0 ub0 lg ug lt ut lr ur ly uy ls us lc uc p v h1 h2 h3 h4 hX he he2 xe f3 f2) (by unfold F1 F2 F3; repeat' (first | rfl | omega | apply congr))
    · exact poSff m X U rc P R e b0 g t r y s c lb0 ub0 lg ug lt ut lr ur ly uy ls us lc uc p v h1 h2 h3 h4 hX he he2 xe f3 f2
def poT_tb (m : Nat) (X : List Go.Pv.GEnt) (U : List Go.Pv.GTransit) (rc : Go.Pv.GReceipt) (P : List Go.Pv.GPool) (R : List Go.Pv.GRoll) (e : Int) (b0 : Int) (g : Int) (t : Int) (r : Int) (y : Int) (s : Int) (c : Int) (p : Int) : List (T.E An) :=
  [.b (e < 0),
    .b (e ≥ ↑(List.length X)),
    .a (p ≥ -288230376151711744),
    .a (p ≤ 288230376151711744),
    .a (0 - p ≥ -288230376151711744),
    .a (0 - p ≤ 288230376151711744),
    .o ((Go.Pv.ix X e).map .k2) (.k2 (Go.Pv.F2 P (Go.Pv.F3 b0 g t r y s c) R)),
    .a (List.length X ≤ 68719476736)]
theorem poT_tk (m : Nat) (X : List GEnt) (U : List GTransit) (rc : GReceipt) (P : List GPool) (R : List GRoll) (e : Int) (b0 g t r y s c : Int) (lb0 : -50000 ≤ b0) (ub0 : b0 ≤ 50000) (lg : -50000 ≤ g) (ug : g ≤ 50000) (lt : -50000 ≤ t) (ut : t ≤ 50000) (lr : -50000 ≤ r) (ur : r ≤ 50000) (ly : -50000 ≤ y) (uy : y ≤ 50000) (ls : -50000 ≤ s) (us : s ≤ 50000) (lc : -50000 ≤ c) (uc : c ≤ 50000) (p : Int) (h1 : 0 ≤ p) (h2 : p < 2000) (hX : (X.length : Int) = 2) (he : 0 ≤ e) (he2 : e < 2) (xe : ix X e = some (F2 P (F3 b0 g t r y s c) R)) : T.AllE (poT_tb m X U rc P R e b0 g t r y s c p) := by
  unfold poT_tb
  exact T.okS
theorem poTt (m : Nat) (X : List GEnt) (U : List GTransit) (rc : GReceipt) (P : List GPool) (R : List GRoll) (e : Int) (b0 g t r y s c : Int) (lb0 : -50000 ≤ b0) (ub0 : b0 ≤ 50000) (lg : -50000 ≤ g) (ug : g ≤ 50000) (lt : -50000 ≤ t) (ut : t ≤ 50000) (lr : -50000 ≤ r) (ur : r ≤ 50000) (ly : -50000 ≤ y) (uy : y ≤ 50000) (ls : -50000 ≤ s) (us : s ≤ 50000) (lc : -50000 ≤ c) (uc : c ≤ 50000) (p : Int) (h1 : 0 ≤ p) (h2 : p < 2000) (hX : (X.length : Int) = 2) (he : 0 ≤ e) (he2 : e < 2) (xe : ix X e = some (F2 P (F3 b0 g t r y s c) R)) (f3 : (p : Int) = 0) : d_stock_Post (m + 20) (F1 X U rc) e [⟨12, p⟩, ⟨14, 0 - p⟩] = some (⟨⟨2, 3, [1, 2, 3, 0], [[1, 2, 3, 4], [1, 2, 3, 4]], [[10, 10, 10, 10], [10, 10, 10, 10]]⟩, (List.set X (Int.toNat (e)) ⟨1, false, P, [b0, g, 0, 0, 0, 0, 0, 0, 0, 0, 0, 0, t, r, y, s, c], R, [-1, -1, -1, -1], [0, 0, 0, 0], []⟩), [rc], [], U, 0⟩, 0) :=
  T.by_go (poT_tb m X U rc P R e b0 g t r y s c p ++ [.a (p = 0),
    .a (0 - p = 0)])
    0 (T.prs [0,3001,2,4003,4,33005,3008,6009,22006,7,6,6]) (x_stock_Post_ok _ _ _ _)
    (T.okA (poT_tk m X U rc P R e b0 g t r y s c lb0 ub0 lg ug lt ut lr ur ly uy ls us lc uc p h1 h2 hX he he2 xe) T.okS) (by kernel_rfl)
theorem poTf (m : Nat) (X : List GEnt) (U : List GTransit) (rc : GReceipt) (P : List GPool) (R : List GRoll) (e : Int) (b0 g t r y s c : Int) (lb0 : -50000 ≤ b0) (ub0 : b0 ≤ 50000) (lg : -50000 ≤ g) (ug : g ≤ 50000) (lt : -50000 ≤ t) (ut : t ≤ 50000) (lr : -50000 ≤ r) (ur : r ≤ 50000) (ly : -50000 ≤ y) (uy : y ≤ 50000) (ls : -50000 ≤ s) (us : s ≤ 50000) (lc : -50000 ≤ c) (uc : c ≤ 50000) (p : Int) (h1 : 0 ≤ p) (h2 : p < 2000) (hX : (X.length : Int) = 2) (he : 0 ≤ e) (he2 : e < 2) (xe : ix X e = some (F2 P (F3 b0 g t r y s c) R)) (f3 : ¬ (p : Int) = 0) : d_stock_Post (m + 20) (F1 X U rc) e [⟨12, p⟩, ⟨14, 0 - p⟩] = some ((F1 (List.set X (Int.toNat e) (F2 P (F3 b0 g (t + p) r (y - p) s c) R)) U rc, 0)) :=
  T.by_go (poT_tb m X U rc P R e b0 g t r y s c p ++ [.b (p = 0),
    .b (0 - p = 0),
    .w (0 + p) (p),
    .w (p + (0 - p)) (0),
    .a (t ≥ -288230376151711744),
    .a (t ≤ 288230376151711744),
    .s (t + p),
    .a (t + p ≥ -288230376151711744),
    .a (t + p ≤ 288230376151711744),
    .a (y ≥ -288230376151711744),
    .a (y ≤ 288230376151711744),
    .w (y + (0 - p)) (y - p),
    .a (y - p ≥ -288230376151711744),
    .a (y - p ≤ 288230376151711744)])
    0 (T.prs [0,3001,2,4003,4,33005,2008,5009,5006,2,4003,4,33005,2008,19009,2,3,10,2,3,4010,2,3,4,5,2011,6011,8,2,4003,9,4,7005,12,13,2,3,14,15,16,4014,17,18,4,5,19,20,21,6019,7,6,6]) (x_stock_Post_ok _ _ _ _)
    (T.okA (poT_tk m X U rc P R e b0 g t r y s c lb0 ub0 lg ug lt ut lr ur ly uy ls us lc uc p h1 h2 hX he he2 xe) T.okS) (by kernel_rfl)
theorem poT_r (m : Nat) (X : List GEnt) (U : List GTransit) (rc : GReceipt) (P : List GPool) (R : List GRoll) (e : Int) (b0 g t r y s c : Int) (lb0 : -50000 ≤ b0) (ub0 : b0 ≤ 50000) (lg : -50000 ≤ g) (ug : g ≤ 50000) (lt : -50000 ≤ t) (ut : t ≤ 50000) (lr : -50000 ≤ r) (ur : r ≤ 50000) (ly : -50000 ≤ y) (uy : y ≤ 50000) (ls : -50000 ≤ s) (us : s ≤ 50000) (lc : -50000 ≤ c) (uc : c ≤ 50000) (p : Int) (h1 : 0 ≤ p) (h2 : p < 2000) (hX : (X.length : Int) = 2) (he : 0 ≤ e) (he2 : e < 2) (xe : ix X e = some (F2 P (F3 b0 g t r y s c) R)) : d_stock_Post (m + 20) (F1 X U rc) e [⟨12, p⟩, ⟨14, 0 - p⟩] = some ((F1 (List.set X (Int.toNat e) (F2 P (F3 b0 g (t + p) r (y - p) s c) R)) U rc, 0)) := by
  by_cases f3 : (p : Int) = 0
  · exact Eq.trans (poTt m X U rc P R e b0 g t r y s c lb0 ub0 lg ug lt ut lr ur ly uy ls us lc uc p h1 h2 hX he he2 xe f3) (by unfold F1 F2 F3; repeat' (first | rfl | omega | apply congr))
  · exact poTf m X U rc P R e b0 g t r y s c lb0 ub0 lg ug lt ut lr ur ly uy ls us lc uc p h1 h2 hX he he2 xe f3
def poA_tb (m : Nat) (X : List Go.Pv.GEnt) (U : List Go.Pv.GTransit) (rc : Go.Pv.GReceipt) (P : List Go.Pv.GPool) (R : List Go.Pv.GRoll) (e : Int) (b0 : Int) (g : Int) (t : Int) (r : Int) (y : Int) (s : Int) (c : Int) (d : Int) : List (T.E An) :=
  [.b (e < 0),
    .b (e ≥ ↑(List.length X)),
    .a (d ≥ -288230376151711744),
    .a (d ≤ 288230376151711744),
    .a (0 - d ≥ -288230376151711744),
    .a (0 - d ≤ 288230376151711744),
    .o ((Go.Pv.ix X e).map .k2) (.k2 (Go.Pv.F2 P (Go.Pv.F3 b0 g t r y s c) R)),
    .a (List.length X ≤ 68719476736)]
theorem poA_tk (m : Nat) (X : List GEnt) (U : List GTransit) (rc : GReceipt) (P : List GPool) (R : List GRoll) (e : Int) (b0 g t r y s c : Int) (lb0 : -50000 ≤ b0) (ub0 : b0 ≤ 50000) (lg : -50000 ≤ g) (ug : g ≤ 50000) (lt : -50000 ≤ t) (ut : t ≤ 50000) (lr : -50000 ≤ r) (ur : r ≤ 50000) (ly : -50000 ≤ y) (uy : y ≤ 50000) (ls : -50000 ≤ s) (us : s ≤ 50000) (lc : -50000 ≤ c) (uc : c ≤ 50000) (d : Int) (h1 : 0 ≤ d) (h2 : d < 2000) (hX : (X.length : Int) = 2) (he : 0 ≤ e) (he2 : e < 2) (xe : ix X e = some (F2 P (F3 b0 g t r y s c) R)) : T.AllE (poA_tb m X U rc P R e b0 g t r y s c d) := by
  unfold poA_tb
  exact T.okS
theorem poAt (m : Nat) (X : List GEnt) (U : List GTransit) (rc : GReceipt) (P : List GPool) (R : List GRoll) (e : Int) (b0 g t r y s c : Int) (lb0 : -50000 ≤ b0) (ub0 : b0 ≤ 50000) (lg : -50000 ≤ g) (ug : g ≤ 50000) (lt : -50000 ≤ t) (ut : t ≤ 50000) (lr : -50000 ≤ r) (ur : r ≤ 50000) (ly : -50000 ≤ y) (uy : y ≤ 50000) (ls : -50000 ≤ s) (us : s ≤ 50000) (lc : -50000 ≤ c) (uc : c ≤ 50000) (d : Int) (h1 : 0 ≤ d) (h2 : d < 2000) (hX : (X.length : Int) = 2) (he : 0 ≤ e) (he2 : e < 2) (xe : ix X e = some (F2 P (F3 b0 g t r y s c) R)) (f3 : (d : Int) = 0) : d_stock_Post (m + 20) (F1 X U rc) e [⟨0, d⟩, ⟨6, 0⟩, ⟨12, 0 - d⟩] = some (⟨⟨2, 3, [1, 2, 3, 0], [[1, 2, 3, 4], [1, 2, 3, 4]], [[10, 10, 10, 10], [10, 10, 10, 10]]⟩, (List.set X (Int.toNat (e)) ⟨1, false, P, [b0, g, 0, 0, 0, 0, 0, 0, 0, 0, 0, 0, t, r, y, s, c], R, [-1, -1, -1, -1], [0, 0, 0, 0], []⟩), [rc], [], U, 0⟩, 0) :=
  T.by_go (poA_tb m X U rc P R e b0 g t r y s c d ++ [.a (d = 0),
    .a (0 - d = 0)])
    0 (T.prs [0,3001,2,10003,4,48005,6008,6009,22006,7,6,6]) (x_stock_Post_ok _ _ _ _)
    (T.okA (poA_tk m X U rc P R e b0 g t r y s c lb0 ub0 lg ug lt ut lr ur ly uy ls us lc uc d h1 h2 hX he he2 xe) T.okS) (by kernel_rfl)
theorem poAf (m : Nat) (X : List GEnt) (U : List GTransit) (rc : GReceipt) (P : List GPool) (R : List GRoll) (e : Int) (b0 g t r y s c : Int) (lb0 : -50000 ≤ b0) (ub0 : b0 ≤ 50000) (lg : -50000 ≤ g) (ug : g ≤ 50000) (lt : -50000 ≤ t) (ut : t ≤ 50000) (lr : -50000 ≤ r) (ur : r ≤ 50000) (ly : -50000 ≤ y) (uy : y ≤ 50000) (ls : -50000 ≤ s) (us : s ≤ 50000) (lc : -50000 ≤ c) (uc : c ≤ 50000) (d : Int) (h1 : 0 ≤ d) (h2 : d < 2000) (hX : (X.length : Int) = 2) (he : 0 ≤ e) (he2 : e < 2) (xe : ix X e = some (F2 P (F3 b0 g t r y s c) R)) (f3 : ¬ (d : Int) = 0) : d_stock_Post (m + 20) (F1 X U rc) e [⟨0, d⟩, ⟨6, 0⟩, ⟨12, 0 - d⟩] = some ((F1 (List.set X (Int.toNat e) (F2 P (F3 (b0 + d) g (t - d) r y s c) R)) U rc, 0)) :=
  T.by_go (poA_tb m X U rc P R e b0 g t r y s c d ++ [.b (d = 0),
    .b (0 - d = 0),
    .w (0 + d) (d),
    .w (d + (0 - d)) (0),
    .a (b0 ≥ -288230376151711744),
    .a (b0 ≤ 288230376151711744),
    .s (b0 + d),
    .a (b0 + d ≥ -288230376151711744),
    .a (b0 + d ≤ 288230376151711744),
    .a (t ≥ -288230376151711744),
    .a (t ≤ 288230376151711744),
    .w (t + (0 - d)) (t - d),
    .a (t - d ≥ -288230376151711744),
    .a (t - d ≤ 288230376151711744)])
    0 (T.prs [0,3001,2,10003,4,48005,6008,7009,5006,2,4003,4,33005,2008,19009,2,3,10,2,3,4010,2,3,4,5,2011,6011,8,2,4003,9,4,7005,12,13,2,3,14,15,16,4014,17,18,4,5,19,20,21,6019,7,6,6]) (x_stock_Post_ok _ _ _ _)
    (T.okA (poA_tk m X U rc P R e b0 g t r y s c lb0 ub0 lg ug lt ut lr ur ly uy ls us lc uc d h1 h2 hX he he2 xe) T.okS) (by kernel_rfl)
theorem poA_r (m : Nat) (X : List GEnt) (U : List GTransit) (rc : GReceipt) (P : List GPool) (R : List GRoll) (e : Int) (b0 g t r y s c : Int) (lb0 : -50000 ≤ b0) (ub0 : b0 ≤ 50000) (lg : -50000 ≤ g) (ug : g ≤ 50000) (lt : -50000 ≤ t) (ut : t ≤ 50000) (lr : -50000 ≤ r) (ur : r ≤ 50000) (ly : -50000 ≤ y) (uy : y ≤ 50000) (ls : -50000 ≤ s) (us : s ≤ 50000) (lc : -50000 ≤ c) (uc : c ≤ 50000) (d : Int) (h1 : 0 ≤ d) (h2 : d < 2000) (hX : (X.length : Int) = 2) (he : 0 ≤ e) (he2 : e < 2) (xe : ix X e = some (F2 P (F3 b0 g t r y s c) R)) : d_stock_Post (m + 20) (F1 X U rc) e [⟨0, d⟩, ⟨6, 0⟩, ⟨12, 0 - d⟩] = some ((F1 (List.set X (Int.toNat e) (F2 P (F3 (b0 + d) g (t - d) r y s c) R)) U rc, 0)) := by
  by_cases f3 : (d : Int) = 0
  · exact Eq.trans (poAt m X U rc P R e b0 g t r y s c lb0 ub0 lg ug lt ut lr ur ly uy ls us lc uc d h1 h2 hX he he2 xe f3) (by unfold F1 F2 F3; repeat' (first | rfl | omega | apply congr))
  · exact poAf m X U rc P R e b0 g t r y s c lb0 ub0 lg ug lt ut lr ur ly uy ls us lc uc d h1 h2 hX he he2 xe f3
theorem tuD_r (X : List GEnt) (U : List GTransit) (rc : GReceipt) (P : List GPool) (B : List Int) (R : List GRoll) (e b h u d v : Int) (hX : (X.length : Int) = 2) (he : 0 ≤ e) (he2 : e < 2) (me : ix ([[1, 2, 3, 4], [1, 2, 3, 4]] : List (List Int)) e = some [1, 2, 3, 4]) (ce : ix ([[10, 10, 10, 10], [10, 10, 10, 10]] : List (List Int)) e = some [10, 10, 10, 10]) (xe : ix X e = some (F2 P B R)) (p1 : (P.length : Int) = 8) (r1 : (R.length : Int) = 4) (hr : ix R 1 = some ⟨0, b, 0, h, 0, 0, u, 0, 0, 0, 0⟩) (l1 : 0 ≤ b) (l2 : b < 50000) (l3 : 0 ≤ h) (l4 : h < 50000) (l5 : 0 ≤ u) (l6 : u < 50000) (l7 : 0 ≤ d) (l8 : d < 2000) (l9 : 0 ≤ v) (l10 : v < 2000) : d_stock_Turn (F1 X U rc) e 1 ⟨0, 0, 0, d, 0, 0, v, 0, 0, 0, 0⟩ = some ((F1 (List.set X (Int.toNat e) (F2 P B (List.set R 1 ⟨0, b, 0, h + d, 0, 0, u + v, 0, 0, 0, 0⟩))) U rc, 0)) :=
  T.by_go [.b (e < 0),
    .b (e ≥ ↑(List.length X)),
    .o ((Go.Pv.ix X e).map .k2) (.k2 (Go.Pv.F2 P B R)),
    .a ((↑(List.length P) : Int) ≥ 8),
    .a ((↑(List.length R) : Int) ≥ 4),
    .a (e < 2),
    .o ((Go.Pv.ix [[1, 2, 3, 4], [1, 2, 3, 4]] e).map .k5) (.k5 [1, 2, 3, 4]),
    .o ((Go.Pv.ix [[10, 10, 10, 10], [10, 10, 10, 10]] e).map .k5) (.k5 [10, 10, 10, 10]),
    .o ((Go.Pv.ix R 1).map .k3) (.k3 (Go.Pv.GRoll.mk 0 b 0 h 0 0 u 0 0 0 0)),
    .a (b ≥ -288230376151711744),
    .a (b ≤ 288230376151711744),
    .w (b + 0) (b),
    .a (h ≥ -288230376151711744),
    .a (h ≤ 288230376151711744),
    .a (d ≥ -288230376151711744),
    .a (d ≤ 288230376151711744),
    .s (h + d),
    .a (h + d ≥ -288230376151711744),
    .a (h + d ≤ 288230376151711744),
    .a (u ≥ -288230376151711744),
    .a (u ≤ 288230376151711744),
    .a (v ≥ -288230376151711744),
    .a (v ≤ 288230376151711744),
    .s (u + v),
    .a (u + v ≥ -288230376151711744),
    .a (u + v ≤ 288230376151711744),
    .a (List.length X ≤ 68719476736),
    .a (List.length R ≤ 68719476736)]
    0 (T.prs [0,2001,1002,3,4,5,5,1006,1007,2,11008,9,2010,11,9,10,12011,12,13,14,15,16,17,18,22016,19,20,21,22,23,24,25,41023,26,2,2,27,8]) (x_stock_Turn_ok _ _ _ _)
    T.okS (by kernel_rfl)
theorem feD_r (m : Nat) (X : List GEnt) (U : List GTransit) (rc : GReceipt) (B : List Int) (R : List GRoll) (e q v a : Int) (hX : (X.length : Int) = 2) (he : 0 ≤ e) (he2 : e < 2) (me : ix ([[1, 2, 3, 4], [1, 2, 3, 4]] : List (List Int)) e = some [1, 2, 3, 4]) (ce : ix ([[10, 10, 10, 10], [10, 10, 10, 10]] : List (List Int)) e = some [10, 10, 10, 10]) (xe : ix X e = some (F2 (F7 [⟨q, v, a⟩]) B R)) (r1 : (R.length : Int) = 4) (l1 : 1 ≤ q) (l2 : q ≤ 50) (l3 : 0 ≤ v) (l4 : v < 2000) (l5 : -20000 ≤ a) (l6 : a ≤ 20000) (et : d_fifo_Total (m + 40) [⟨q, v, a⟩] = some (⟨q, v, a⟩, 0)) (em : d_money_Part (m + 40) v q q = some v) (ea : d_money_Part (m + 40) a q q = some a) : d_stock_Fetch (m + 40) (F1 X U rc) e 1 0 3 q = some ((F1 (List.set X (Int.toNat e) (F2 (F7 []) B R)) U rc, ⟨q, v, a⟩, false, 0)) :=
  T.by_go [.b (e < 0),
    .b (e ≥ ↑(List.length X)),
    .o ((Go.Pv.ix X e).map .k2) (.k2 (Go.Pv.F2 (Go.Pv.F7 [Go.Pv.GLayer.mk q v a]) B R)),
    .a ((↑(List.length R) : Int) ≥ 4),
    .a (e < 2),
    .o ((Go.Pv.ix [[1, 2, 3, 4], [1, 2, 3, 4]] e).map .k5) (.k5 [1, 2, 3, 4]),
    .o ((Go.Pv.ix [[10, 10, 10, 10], [10, 10, 10, 10]] e).map .k5) (.k5 [10, 10, 10, 10]),
    .b (q < 1),
    .b ((0 : Int) > q),
    .b (q < q),
    .w (q - q) (0),
    .a (q > 0),
    .b (q > q),
    .w (0 + q) (q),
    .w (0 + v) (v),
    .w (0 + a) (a),
    .a (List.length X ≤ 68719476736)]
    0 (T.prs [0,2001,2002,3,4,4,1005,6006,1005,1006,5002,1007,8,9,2010,1011,2012,13,14,15,4010,16,2,1002,2]) (x_stock_Fetch_ok _ _ _ _ _ _ _)
    T.okS (by kernel_rfl)
theorem brA_r (m : Nat) (X : List GEnt) (U : List GTransit) (rc : GReceipt) (B : List Int) (R : List GRoll) (e k d c : Int) (hX : (X.length : Int) = 2) (he : 0 ≤ e) (he2 : e < 2) (me : ix ([[1, 2, 3, 4], [1, 2, 3, 4]] : List (List Int)) e = some [1, 2, 3, 4]) (ce : ix ([[10, 10, 10, 10], [10, 10, 10, 10]] : List (List Int)) e = some [10, 10, 10, 10]) (xe : ix X e = some (F2 (F7 []) B R)) (r1 : (R.length : Int) = 4) (l1 : 1 ≤ k) (l2 : k ≤ 50) (l3 : 0 ≤ d) (l4 : d < 2000) (l5 : -20000 ≤ c) (l6 : c ≤ 20000) (ei : d_fifo_In (m + 40) [] ⟨k, d, c⟩ = some ([⟨k, d, c⟩], 0)) (ez : d_fifo_Total (m + 40) [⟨k, d, c⟩] = some (⟨k, d, c⟩, 0)) (ey : d_fifo_Total (m + 39) [⟨k, d, c⟩] = some (⟨k, d, c⟩, 0)) (ew : d_fifo_Total (m + 40) [⟨k, d, c⟩] = some (⟨k, d, c⟩, 0)) (xs : ix (List.set X (Int.toNat e) (F2 (F7 [⟨k, d, c⟩]) B R)) e = some (F2 (F7 [⟨k, d, c⟩]) B R)) (hX1 : ((List.set X (Int.toNat e) (F2 (F7 [⟨k, d, c⟩]) B R)).length : Int) = 2) (es : d_stock_steady (m + 40) (F1 (List.set X (Int.toNat e) (F2 (F7 [⟨k, d, c⟩]) B R)) U rc) e 1 = some true) : d_stock_Bring (m + 40) (F1 X U rc) e 1 0 ⟨k, d, c⟩ = some ((F1 (List.set X (Int.toNat e) (F2 (F7 [⟨k, d, c⟩]) B R)) U rc, d, 0, 0)) :=
  T.by_go [.b (e < 0),
    .b (e ≥ ↑(List.length X)),
    .o ((Go.Pv.ix X e).map .k2) (.k2 (Go.Pv.F2 (Go.Pv.F7 []) B R)),
    .a ((↑(List.length R) : Int) ≥ 4),
    .a (e < 2),
    .o ((Go.Pv.ix [[1, 2, 3, 4], [1, 2, 3, 4]] e).map .k5) (.k5 [1, 2, 3, 4]),
    .o ((Go.Pv.ix [[10, 10, 10, 10], [10, 10, 10, 10]] e).map .k5) (.k5 [10, 10, 10, 10]),
    .o ((Go.Pv.d_fifo_In (m + 40) [] (Go.Pv.GLayer.mk k d c)).map .k7) (.k7 ([Go.Pv.GLayer.mk k d c], 0)),
    .o ((Go.Pv.d_fifo_Total (m + 40) [Go.Pv.GLayer.mk k d c]).map .k6) (.k6 (Go.Pv.GLayer.mk k d c, 0)),
    .a (List.length X ≤ 68719476736),
    .b (e ≥ ↑(List.length
    (List.set X (Int.toNat e)
      (Go.Pv.GEnt.mk
        (Prod.fst
          (Go.Pv.GEnt.Now (Go.Pv.F2 (Go.Pv.F7 []) B R), Go.Pv.GEnt.Closed (Go.Pv.F2 (Go.Pv.F7 []) B R),
            Go.Pv.GEnt.Bal (Go.Pv.F2 (Go.Pv.F7 []) B R), Go.Pv.GEnt.Rolls (Go.Pv.F2 (Go.Pv.F7 []) B R),
            Go.Pv.GEnt.Prices (Go.Pv.F2 (Go.Pv.F7 []) B R), Go.Pv.GEnt.Down (Go.Pv.F2 (Go.Pv.F7 []) B R),
            Go.Pv.GEnt.Ahead (Go.Pv.F2 (Go.Pv.F7 []) B R),
            List.set (Go.Pv.GEnt.Pools (Go.Pv.F2 (Go.Pv.F7 []) B R)) (Int.toNat 2)
              (Prod.fst
                (Prod.fst
                    (Go.Pv.GPool.mk (Prod.fst ([Prod.fst (Go.Pv.GLayer.mk k d c, 0)], 0))
                        (Go.Pv.GPool.Pend (Go.Pv.F4 [])),
                      Prod.snd ([Prod.fst (Go.Pv.GLayer.mk k d c, 0)], 0)),
                  0, 0))))
        (Prod.fst
          (Prod.snd
            (Go.Pv.GEnt.Now (Go.Pv.F2 (Go.Pv.F7 []) B R), Go.Pv.GEnt.Closed (Go.Pv.F2 (Go.Pv.F7 []) B R),
              Go.Pv.GEnt.Bal (Go.Pv.F2 (Go.Pv.F7 []) B R), Go.Pv.GEnt.Rolls (Go.Pv.F2 (Go.Pv.F7 []) B R),
              Go.Pv.GEnt.Prices (Go.Pv.F2 (Go.Pv.F7 []) B R), Go.Pv.GEnt.Down (Go.Pv.F2 (Go.Pv.F7 []) B R),
              Go.Pv.GEnt.Ahead (Go.Pv.F2 (Go.Pv.F7 []) B R),
              List.set (Go.Pv.GEnt.Pools (Go.Pv.F2 (Go.Pv.F7 []) B R)) (Int.toNat 2)
                (Prod.fst
                  (Prod.fst
                      (Go.Pv.GPool.mk (Prod.fst ([Prod.fst (Go.Pv.GLayer.mk k d c, 0)], 0))
                          (Go.Pv.GPool.Pend (Go.Pv.F4 [])),
                        Prod.snd ([Prod.fst (Go.Pv.GLayer.mk k d c, 0)], 0)),
                    0, 0)))))
        (Prod.snd
          (Prod.snd
            (Prod.snd
              (Prod.snd
                (Prod.snd
                  (Prod.snd
                    (Prod.snd
                      (Go.Pv.GEnt.Now (Go.Pv.F2 (Go.Pv.F7 []) B R), Go.Pv.GEnt.Closed (Go.Pv.F2 (Go.Pv.F7 []) B R),
                        Go.Pv.GEnt.Bal (Go.Pv.F2 (Go.Pv.F7 []) B R), Go.Pv.GEnt.Rolls (Go.Pv.F2 (Go.Pv.F7 []) B R),
                        Go.Pv.GEnt.Prices (Go.Pv.F2 (Go.Pv.F7 []) B R), Go.Pv.GEnt.Down (Go.Pv.F2 (Go.Pv.F7 []) B R),
                        Go.Pv.GEnt.Ahead (Go.Pv.F2 (Go.Pv.F7 []) B R),
                        List.set (Go.Pv.GEnt.Pools (Go.Pv.F2 (Go.Pv.F7 []) B R)) (Int.toNat 2)
                          (Prod.fst
                            (Prod.fst
                                (Go.Pv.GPool.mk (Prod.fst ([Prod.fst (Go.Pv.GLayer.mk k d c, 0)], 0))
                                    (Go.Pv.GPool.Pend (Go.Pv.F4 [])),
                                  Prod.snd ([Prod.fst (Go.Pv.GLayer.mk k d c, 0)], 0)),
                              0, 0))))))))))
        (Prod.fst
          (Prod.snd
            (Prod.snd
              (Go.Pv.GEnt.Now (Go.Pv.F2 (Go.Pv.F7 []) B R), Go.Pv.GEnt.Closed (Go.Pv.F2 (Go.Pv.F7 []) B R),
                Go.Pv.GEnt.Bal (Go.Pv.F2 (Go.Pv.F7 []) B R), Go.Pv.GEnt.Rolls (Go.Pv.F2 (Go.Pv.F7 []) B R),
                Go.Pv.GEnt.Prices (Go.Pv.F2 (Go.Pv.F7 []) B R), Go.Pv.GEnt.Down (Go.Pv.F2 (Go.Pv.F7 []) B R),
                Go.Pv.GEnt.Ahead (Go.Pv.F2 (Go.Pv.F7 []) B R),
                List.set (Go.Pv.GEnt.Pools (Go.Pv.F2 (Go.Pv.F7 []) B R)) (Int.toNat 2)
                  (Prod.fst
                    (Prod.fst
                        (Go.Pv.GPool.mk (Prod.fst ([Prod.fst (Go.Pv.GLayer.mk k d c, 0)], 0))
                            (Go.Pv.GPool.Pend (Go.Pv.F4 [])),
                          Prod.snd ([Prod.fst (Go.Pv.GLayer.mk k d c, 0)], 0)),
                      0, 0))))))
        (Prod.fst
          (Prod.snd
            (Prod.snd
              (Prod.snd
                (Go.Pv.GEnt.Now (Go.Pv.F2 (Go.Pv.F7 []) B R), Go.Pv.GEnt.Closed (Go.Pv.F2 (Go.Pv.F7 []) B R),
                  Go.Pv.GEnt.Bal (Go.Pv.F2 (Go.Pv.F7 []) B R), Go.Pv.GEnt.Rolls (Go.Pv.F2 (Go.Pv.F7 []) B R),
                  Go.Pv.GEnt.Prices (Go.Pv.F2 (Go.Pv.F7 []) B R), Go.Pv.GEnt.Down (Go.Pv.F2 (Go.Pv.F7 []) B R),
                  Go.Pv.GEnt.Ahead (Go.Pv.F2 (Go.Pv.F7 []) B R),
                  List.set (Go.Pv.GEnt.Pools (Go.Pv.F2 (Go.Pv.F7 []) B R)) (Int.toNat 2)
                    (Prod.fst
                      (Prod.fst
                          (Go.Pv.GPool.mk (Prod.fst ([Prod.fst (Go.Pv.GLayer.mk k d c, 0)], 0))
                              (Go.Pv.GPool.Pend (Go.Pv.F4 [])),
                            Prod.snd ([Prod.fst (Go.Pv.GLayer.mk k d c, 0)], 0)),
                        0, 0)))))))
        (Prod.fst
          (Prod.snd
            (Prod.snd
              (Prod.snd
                (Prod.snd
                  (Go.Pv.GEnt.Now (Go.Pv.F2 (Go.Pv.F7 []) B R), Go.Pv.GEnt.Closed (Go.Pv.F2 (Go.Pv.F7 []) B R),
                    Go.Pv.GEnt.Bal (Go.Pv.F2 (Go.Pv.F7 []) B R), Go.Pv.GEnt.Rolls (Go.Pv.F2 (Go.Pv.F7 []) B R),
                    Go.Pv.GEnt.Prices (Go.Pv.F2 (Go.Pv.F7 []) B R), Go.Pv.GEnt.Down (Go.Pv.F2 (Go.Pv.F7 []) B R),
                    Go.Pv.GEnt.Ahead (Go.Pv.F2 (Go.Pv.F7 []) B R),
                    List.set (Go.Pv.GEnt.Pools (Go.Pv.F2 (Go.Pv.F7 []) B R)) (Int.toNat 2)
                      (Prod.fst
                        (Prod.fst
                            (Go.Pv.GPool.mk (Prod.fst ([Prod.fst (Go.Pv.GLayer.mk k d c, 0)], 0))
                                (Go.Pv.GPool.Pend (Go.Pv.F4 [])),
                              Prod.snd ([Prod.fst (Go.Pv.GLayer.mk k d c, 0)], 0)),
                          0, 0))))))))
        (Prod.fst
          (Prod.snd
            (Prod.snd
              (Prod.snd
                (Prod.snd
                  (Prod.snd
                    (Go.Pv.GEnt.Now (Go.Pv.F2 (Go.Pv.F7 []) B R), Go.Pv.GEnt.Closed (Go.Pv.F2 (Go.Pv.F7 []) B R),
                      Go.Pv.GEnt.Bal (Go.Pv.F2 (Go.Pv.F7 []) B R), Go.Pv.GEnt.Rolls (Go.Pv.F2 (Go.Pv.F7 []) B R),
                      Go.Pv.GEnt.Prices (Go.Pv.F2 (Go.Pv.F7 []) B R), Go.Pv.GEnt.Down (Go.Pv.F2 (Go.Pv.F7 []) B R),
                      Go.Pv.GEnt.Ahead (Go.Pv.F2 (Go.Pv.F7 []) B R),
                      List.set (Go.Pv.GEnt.Pools (Go.Pv.F2 (Go.Pv.F7 []) B R)) (Int.toNat 2)
                        (Prod.fst
                          (Prod.fst
                              (Go.Pv.GPool.mk (Prod.fst ([Prod.fst (Go.Pv.GLayer.mk k d c, 0)], 0))
                                  (Go.Pv.GPool.Pend (Go.Pv.F4 [])),
                                Prod.snd ([Prod.fst (Go.Pv.GLayer.mk k d c, 0)], 0)),
                            0, 0)))))))))
        (Prod.fst
          (Prod.snd
            (Prod.snd
              (Prod.snd
                (Prod.snd
                  (Prod.snd
                    (Prod.snd
                      (Go.Pv.GEnt.Now (Go.Pv.F2 (Go.Pv.F7 []) B R), Go.Pv.GEnt.Closed (Go.Pv.F2 (Go.Pv.F7 []) B R),
                        Go.Pv.GEnt.Bal (Go.Pv.F2 (Go.Pv.F7 []) B R), Go.Pv.GEnt.Rolls (Go.Pv.F2 (Go.Pv.F7 []) B R),
                        Go.Pv.GEnt.Prices (Go.Pv.F2 (Go.Pv.F7 []) B R), Go.Pv.GEnt.Down (Go.Pv.F2 (Go.Pv.F7 []) B R),
                        Go.Pv.GEnt.Ahead (Go.Pv.F2 (Go.Pv.F7 []) B R),
                        List.set (Go.Pv.GEnt.Pools (Go.Pv.F2 (Go.Pv.F7 []) B R)) (Int.toNat 2)
                          (Prod.fst
                            (Prod.fst
                                (Go.Pv.GPool.mk (Prod.fst ([Prod.fst (Go.Pv.GLayer.mk k d c, 0)], 0))
                                    (Go.Pv.GPool.Pend (Go.Pv.F4 [])),
                                  Prod.snd ([Prod.fst (Go.Pv.GLayer.mk k d c, 0)], 0)),
                              0, 0)))))))))))))),
    .o ((Go.Pv.ix (List.set X (Int.toNat e) (Go.Pv.F2 (Go.Pv.F7 [Go.Pv.GLayer.mk k d c]) B R)) e).map .k2) (.k2 (Go.Pv.F2 (Go.Pv.F7 [Go.Pv.GLayer.mk k d c]) B R)),
    .o ((Go.Pv.d_fifo_Total (m + 39) [Go.Pv.GLayer.mk k d c]).map .k6) (.k6 (Go.Pv.GLayer.mk k d c, 0)),
    .a (k ≥ -288230376151711744),
    .a (k ≤ 288230376151711744),
    .w (0 + k) (k),
    .w (k + 0) (k),
    .a (d ≥ -288230376151711744),
    .a (d ≤ 288230376151711744),
    .w (0 + d) (d),
    .w (d + 0) (d),
    .a (c ≥ -288230376151711744),
    .a (c ≤ 288230376151711744),
    .w (0 + c) (c),
    .w (c + 0) (c),
    .o ((Go.Pv.d_stock_steady (m + 40)
  (Go.Pv.F1 (List.set X (Int.toNat e) (Go.Pv.F2 (Go.Pv.F7 [Go.Pv.GLayer.mk k d c]) B R)) U rc) e 1).map .k8) (.k8 (Bool.true)),
    .w (d - 0) (d)]
    0 (T.prs [0,2001,2002,3,4,4,1005,6006,1005,1006,2002,1007,3008,9,2,1002,1002,0,2010,2011,3,4,4,1005,6006,1011,5012,0,2010,2011,3,4,4,1005,6006,11011,13,14,15,13,14,4015,13,2014,16,13,14,7016,17,18,19,17,18,4019,17,2018,20,17,18,7020,21,22,23,21,22,4023,21,2022,24,21,22,4024,25,26]) (x_stock_Bring_ok _ _ _ _ _ _)
    T.okS (by kernel_rfl)
def fiA_tb (m : Nat) (k : Int) (d : Int) (c : Int) : List (T.E An) :=
  [.b (k < 1),
    .b (d < 0),
    .b (k > 288230376151711744),
    .b (d > 288230376151711744),
    .b (c < -288230376151711744),
    .b (c > 288230376151711744),
    .o ((Go.Pv.d_fifo_Total (m + 40) [Go.Pv.GLayer.mk k d c]).map .k6) (.k6 (Go.Pv.GLayer.mk k d c, 0)),
    .s (0 - c)]
theorem fiA_tk (m : Nat) (k d c : Int) (l1 : 1 ≤ k) (l2 : k ≤ 50) (l3 : 0 ≤ d) (l4 : d < 2000) (l5 : -20000 ≤ c) (l6 : c ≤ 20000) (et : d_fifo_Total (m + 40) [⟨k, d, c⟩] = some (⟨k, d, c⟩, 0)) : T.AllE (fiA_tb m k d c) := by
  unfold fiA_tb
  exact T.okS
theorem fiAt (m : Nat) (k d c : Int) (l1 : 1 ≤ k) (l2 : k ≤ 50) (l3 : 0 ≤ d) (l4 : d < 2000) (l5 : -20000 ≤ c) (l6 : c ≤ 20000) (et : d_fifo_Total (m + 40) [⟨k, d, c⟩] = some (⟨k, d, c⟩, 0)) (f4 : (0 - c : Int) > c) : d_fifo_In (m + 40) [] ⟨k, d, c⟩ = some (([⟨k, d, c⟩], 0)) :=
  T.by_go (fiA_tb m k d c ++ [.a (0 - c > c),
    .a (0 - c ≥ -288230376151711744),
    .a (0 - c ≤ 288230376151711744),
    .w (0 + (0 - c)) (0 - c)])
    1 (T.prs [0,5001,0,2,1,3,4,3005,2006,7,7008,9,10,11,9,10,4011]) (x_fifo_In_ok _ _ _)
    (T.okA (fiA_tk m k d c l1 l2 l3 l4 l5 l6 et) T.okS) (by kernel_rfl)
theorem fiAf (m : Nat) (k d c : Int) (l1 : 1 ≤ k) (l2 : k ≤ 50) (l3 : 0 ≤ d) (l4 : d < 2000) (l5 : -20000 ≤ c) (l6 : c ≤ 20000) (et : d_fifo_Total (m + 40) [⟨k, d, c⟩] = some (⟨k, d, c⟩, 0)) (f4 : ¬ (0 - c : Int) > c) : d_fifo_In (m + 40) [] ⟨k, d, c⟩ = some (([⟨k, d, c⟩], 0)) :=
  T.by_go (fiA_tb m k d c ++ [.b (0 - c > c),
    .a (c ≥ -288230376151711744),
    .a (c ≤ 288230376151711744),
    .w (0 + c) (c)])
    1 (T.prs [0,5001,0,2,1,3,4,3005,2006,7,7008,9,10,11,9,10,4011]) (x_fifo_In_ok _ _ _)
    (T.okA (fiA_tk m k d c l1 l2 l3 l4 l5 l6 et) T.okS) (by kernel_rfl)
theorem fiA_r (m : Nat) (k d c : Int) (l1 : 1 ≤ k) (l2 : k ≤ 50) (l3 : 0 ≤ d) (l4 : d < 2000) (l5 : -20000 ≤ c) (l6 : c ≤ 20000) (et : d_fifo_Total (m + 40) [⟨k, d, c⟩] = some (⟨k, d, c⟩, 0)) : d_fifo_In (m + 40) [] ⟨k, d, c⟩ = some (([⟨k, d, c⟩], 0)) := by
  by_cases f4 : (0 - c : Int) > c
  · exact fiAt m k d c l1 l2 l3 l4 l5 l6 et f4
  · exact fiAf m k d c l1 l2 l3 l4 l5 l6 et f4
theorem brB_r (m : Nat) (X : List GEnt) (U : List GTransit) (rc : GReceipt) (B : List Int) (R : List GRoll) (e k d c q w a : Int) (hX : (X.length : Int) = 2) (he : 0 ≤ e) (he2 : e < 2) (me : ix ([[1, 2, 3, 4], [1, 2, 3, 4]] : List (List Int)) e = some [1, 2, 3, 4]) (ce : ix ([[10, 10, 10, 10], [10, 10, 10, 10]] : List (List Int)) e = some [10, 10, 10, 10]) (xe : ix X e = some (F2 (F7 [⟨q, w, a⟩]) B R)) (r1 : (R.length : Int) = 4) (l1 : 1 ≤ k) (l2 : k ≤ 50) (l3 : 0 ≤ d) (l4 : d < 2000) (l5 : -20000 ≤ c) (l6 : c ≤ 20000) (l7 : 1 ≤ q) (l8 : q ≤ 50) (l9 : 0 ≤ w) (l10 : w < 2000) (l11 : -20000 ≤ a) (l12 : a ≤ 20000) (ei : d_fifo_In (m + 40) [⟨q, w, a⟩] ⟨k, d, c⟩ = some ([⟨q, w, a⟩, ⟨k, d, c⟩], 0)) (ez : d_fifo_Total (m + 40) [⟨q, w, a⟩, ⟨k, d, c⟩] = some (⟨q + k, w + d, a + c⟩, 0)) (ey : d_fifo_Total (m + 39) [⟨q + k, w + d, a + c⟩] = some (⟨q + k, w + d, a + c⟩, 0)) (ew : d_fifo_Total (m + 40) [⟨q + k, w + d, a + c⟩] = some (⟨q + k, w + d, a + c⟩, 0)) (xs : ix (List.set X (Int.toNat e) (F2 (F7 [⟨q + k, w + d, a + c⟩]) B R)) e = some (F2 (F7 [⟨q + k, w + d, a + c⟩]) B R)) (hX1 : ((List.set X (Int.toNat e) (F2 (F7 [⟨q + k, w + d, a + c⟩]) B R)).length : Int) = 2) (es : d_stock_steady (m + 40) (F1 (List.set X (Int.toNat e) (F2 (F7 [⟨q + k, w + d, a + c⟩]) B R)) U rc) e 1 = some true) : d_stock_Bring (m + 40) (F1 X U rc) e 1 0 ⟨k, d, c⟩ = some ((F1 (List.set X (Int.toNat e) (F2 (F7 [⟨q + k, w + d, a + c⟩]) B R)) U rc, d, 0, 0)) :=
  T.by_go [.b (e < 0),
    .b (e ≥ ↑(List.length X)),
    .o ((Go.Pv.ix X e).map .k2) (.k2 (Go.Pv.F2 (Go.Pv.F7 [Go.Pv.GLayer.mk q w a]) B R)),
    .a ((↑(List.length R) : Int) ≥ 4),
    .a (e < 2),
    .o ((Go.Pv.ix [[1, 2, 3, 4], [1, 2, 3, 4]] e).map .k5) (.k5 [1, 2, 3, 4]),
    .o ((Go.Pv.ix [[10, 10, 10, 10], [10, 10, 10, 10]] e).map .k5) (.k5 [10, 10, 10, 10]),
    .o ((Go.Pv.d_fifo_In (m + 40) [Go.Pv.GLayer.mk q w a] (Go.Pv.GLayer.mk k d c)).map .k7) (.k7 ([Go.Pv.GLayer.mk q w a, Go.Pv.GLayer.mk k d c], 0)),
    .o ((Go.Pv.d_fifo_Total (m + 40) [Go.Pv.GLayer.mk q w a, Go.Pv.GLayer.mk k d c]).map .k6) (.k6 (Go.Pv.GLayer.mk (q + k) (w + d) (a + c), 0)),
    .a (List.length X ≤ 68719476736),
    .b (e ≥ ↑(List.length
    (List.set X (Int.toNat e)
      (Go.Pv.GEnt.mk
        (Prod.fst
          (Go.Pv.GEnt.Now (Go.Pv.F2 (Go.Pv.F7 [Go.Pv.GLayer.mk q w a]) B R),
            Go.Pv.GEnt.Closed (Go.Pv.F2 (Go.Pv.F7 [Go.Pv.GLayer.mk q w a]) B R),
            Go.Pv.GEnt.Bal (Go.Pv.F2 (Go.Pv.F7 [Go.Pv.GLayer.mk q w a]) B R),
            Go.Pv.GEnt.Rolls (Go.Pv.F2 (Go.Pv.F7 [Go.Pv.GLayer.mk q w a]) B R),
            Go.Pv.GEnt.Prices (Go.Pv.F2 (Go.Pv.F7 [Go.Pv.GLayer.mk q w a]) B R),
            Go.Pv.GEnt.Down (Go.Pv.F2 (Go.Pv.F7 [Go.Pv.GLayer.mk q w a]) B R),
            Go.Pv.GEnt.Ahead (Go.Pv.F2 (Go.Pv.F7 [Go.Pv.GLayer.mk q w a]) B R),
            List.set (Go.Pv.GEnt.Pools (Go.Pv.F2 (Go.Pv.F7 [Go.Pv.GLayer.mk q w a]) B R)) (Int.toNat 2)
              (Prod.fst
                (Prod.fst
                    (Go.Pv.GPool.mk (Prod.fst ([Prod.fst (Go.Pv.GLayer.mk (q + k) (w + d) (a + c), 0)], 0))
                        (Go.Pv.GPool.Pend (Go.Pv.F4 [Go.Pv.GLayer.mk q w a])),
                      Prod.snd ([Prod.fst (Go.Pv.GLayer.mk (q + k) (w + d) (a + c), 0)], 0)),
                  0, 0))))
        (Prod.fst
          (Prod.snd
            (Go.Pv.GEnt.Now (Go.Pv.F2 (Go.Pv.F7 [Go.Pv.GLayer.mk q w a]) B R),
              Go.Pv.GEnt.Closed (Go.Pv.F2 (Go.Pv.F7 [Go.Pv.GLayer.mk q w a]) B R),
              Go.Pv.GEnt.Bal (Go.Pv.F2 (Go.Pv.F7 [Go.Pv.GLayer.mk q w a]) B R),
              Go.Pv.GEnt.Rolls (Go.Pv.F2 (Go.Pv.F7 [Go.Pv.GLayer.mk q w a]) B R),
              Go.Pv.GEnt.Prices (Go.Pv.F2 (Go.Pv.F7 [Go.Pv.GLayer.mk q w a]) B R),
              Go.Pv.GEnt.Down (Go.Pv.F2 (Go.Pv.F7 [Go.Pv.GLayer.mk q w a]) B R),
              Go.Pv.GEnt.Ahead (Go.Pv.F2 (Go.Pv.F7 [Go.Pv.GLayer.mk q w a]) B R),
              List.set (Go.Pv.GEnt.Pools (Go.Pv.F2 (Go.Pv.F7 [Go.Pv.GLayer.mk q w a]) B R)) (Int.toNat 2)
                (Prod.fst
                  (Prod.fst
                      (Go.Pv.GPool.mk (Prod.fst ([Prod.fst (Go.Pv.GLayer.mk (q + k) (w + d) (a + c), 0)], 0))
                          (Go.Pv.GPool.Pend (Go.Pv.F4 [Go.Pv.GLayer.mk q w a])),
                        Prod.snd ([Prod.fst (Go.Pv.GLayer.mk (q + k) (w + d) (a + c), 0)], 0)),
                    0, 0)))))
        (Prod.snd
          (Prod.snd
            (Prod.snd
              (Prod.snd
                (Prod.snd
                  (Prod.snd
                    (Prod.snd
                      (Go.Pv.GEnt.Now (Go.Pv.F2 (Go.Pv.F7 [Go.Pv.GLayer.mk q w a]) B R),
                        Go.Pv.GEnt.Closed (Go.Pv.F2 (Go.Pv.F7 [Go.Pv.GLayer.mk q w a]) B R),
                        Go.Pv.GEnt.Bal (Go.Pv.F2 (Go.Pv.F7 [Go.Pv.GLayer.mk q w a]) B R),
                        Go.Pv.GEnt.Rolls (Go.Pv.F2 (Go.Pv.F7 [Go.Pv.GLayer.mk q w a]) B R),
                        Go.Pv.GEnt.Prices (Go.Pv.F2 (Go.Pv.F7 [Go.Pv.GLayer.mk q w a]) B R),
                        Go.Pv.GEnt.Down (Go.Pv.F2 (Go.Pv.F7 [Go.Pv.GLayer.mk q w a]) B R),
                        Go.Pv.GEnt.Ahead (Go.Pv.F2 (Go.Pv.F7 [Go.Pv.GLayer.mk q w a]) B R),
                        List.set (Go.Pv.GEnt.Pools (Go.Pv.F2 (Go.Pv.F7 [Go.Pv.GLayer.mk q w a]) B R)) (Int.toNat 2)
                          (Prod.fst
                            (Prod.fst
                                (Go.Pv.GPool.mk (Prod.fst ([Prod.fst (Go.Pv.GLayer.mk (q + k) (w + d) (a + c), 0)], 0))
                                    (Go.Pv.GPool.Pend (Go.Pv.F4 [Go.Pv.GLayer.mk q w a])),
                                  Prod.snd ([Prod.fst (Go.Pv.GLayer.mk (q + k) (w + d) (a + c), 0)], 0)),
                              0, 0))))))))))
        (Prod.fst
          (Prod.snd
            (Prod.snd
              (Go.Pv.GEnt.Now (Go.Pv.F2 (Go.Pv.F7 [Go.Pv.GLayer.mk q w a]) B R),
                Go.Pv.GEnt.Closed (Go.Pv.F2 (Go.Pv.F7 [Go.Pv.GLayer.mk q w a]) B R),
                Go.Pv.GEnt.Bal (Go.Pv.F2 (Go.Pv.F7 [Go.Pv.GLayer.mk q w a]) B R),
                Go.Pv.GEnt.Rolls (Go.Pv.F2 (Go.Pv.F7 [Go.Pv.GLayer.mk q w a]) B R),
                Go.Pv.GEnt.Prices (Go.Pv.F2 (Go.Pv.F7 [Go.Pv.GLayer.mk q w a]) B R),
                Go.Pv.GEnt.Down (Go.Pv.F2 (Go.Pv.F7 [Go.Pv.GLayer.mk q w a]) B R),
                Go.Pv.GEnt.Ahead (Go.Pv.F2 (Go.Pv.F7 [Go.Pv.GLayer.mk q w a]) B R),
                List.set (Go.Pv.GEnt.Pools (Go.Pv.F2 (Go.Pv.F7 [Go.Pv.GLayer.mk q w a]) B R)) (Int.toNat 2)
                  (Prod.fst
                    (Prod.fst
                        (Go.Pv.GPool.mk (Prod.fst ([Prod.fst (Go.Pv.GLayer.mk (q + k) (w + d) (a + c), 0)], 0))
                            (Go.Pv.GPool.Pend (Go.Pv.F4 [Go.Pv.GLayer.mk q w a])),
                          Prod.snd ([Prod.fst (Go.Pv.GLayer.mk (q + k) (w + d) (a + c), 0)], 0)),
                      0, 0))))))
        (Prod.fst
          (Prod.snd
            (Prod.snd
              (Prod.snd
                (Go.Pv.GEnt.Now (Go.Pv.F2 (Go.Pv.F7 [Go.Pv.GLayer.mk q w a]) B R),
                  Go.Pv.GEnt.Closed (Go.Pv.F2 (Go.Pv.F7 [Go.Pv.GLayer.mk q w a]) B R),
                  Go.Pv.GEnt.Bal (Go.Pv.F2 (Go.Pv.F7 [Go.Pv.GLayer.mk q w a]) B R),
                  Go.Pv.GEnt.Rolls (Go.Pv.F2 (Go.Pv.F7 [Go.Pv.GLayer.mk q w a]) B R),
                  Go.Pv.GEnt.Prices (Go.Pv.F2 (Go.Pv.F7 [Go.Pv.GLayer.mk q w a]) B R),
                  Go.Pv.GEnt.Down (Go.Pv.F2 (Go.Pv.F7 [Go.Pv.GLayer.mk q w a]) B R),
                  Go.Pv.GEnt.Ahead (Go.Pv.F2 (Go.Pv.F7 [Go.Pv.GLayer.mk q w a]) B R),
                  List.set (Go.Pv.GEnt.Pools (Go.Pv.F2 (Go.Pv.F7 [Go.Pv.GLayer.mk q w a]) B R)) (Int.toNat 2)
                    (Prod.fst
                      (Prod.fst
                          (Go.Pv.GPool.mk (Prod.fst ([Prod.fst (Go.Pv.GLayer.mk (q + k) (w + d) (a + c), 0)], 0))
                              (Go.Pv.GPool.Pend (Go.Pv.F4 [Go.Pv.GLayer.mk q w a])),
                            Prod.snd ([Prod.fst (Go.Pv.GLayer.mk (q + k) (w + d) (a + c), 0)], 0)),
                        0, 0)))))))
        (Prod.fst
          (Prod.snd
            (Prod.snd
              (Prod.snd
                (Prod.snd
                  (Go.Pv.GEnt.Now (Go.Pv.F2 (Go.Pv.F7 [Go.Pv.GLayer.mk q w a]) B R),
                    Go.Pv.GEnt.Closed (Go.Pv.F2 (Go.Pv.F7 [Go.Pv.GLayer.mk q w a]) B R),
                    Go.Pv.GEnt.Bal (Go.Pv.F2 (Go.Pv.F7 [Go.Pv.GLayer.mk q w a]) B R),
                    Go.Pv.GEnt.Rolls (Go.Pv.F2 (Go.Pv.F7 [Go.Pv.GLayer.mk q w a]) B R),
                    Go.Pv.GEnt.Prices (Go.Pv.F2 (Go.Pv.F7 [Go.Pv.GLayer.mk q w a]) B R),
                    Go.Pv.GEnt.Down (Go.Pv.F2 (Go.Pv.F7 [Go.Pv.GLayer.mk q w a]) B R),
                    Go.Pv.GEnt.Ahead (Go.Pv.F2 (Go.Pv.F7 [Go.Pv.GLayer.mk q w a]) B R),
                    List.set (Go.Pv.GEnt.Pools (Go.Pv.F2 (Go.Pv.F7 [Go.Pv.GLayer.mk q w a]) B R)) (Int.toNat 2)
                      (Prod.fst
                        (Prod.fst
                            (Go.Pv.GPool.mk (Prod.fst ([Prod.fst (Go.Pv.GLayer.mk (q + k) (w + d) (a + c), 0)], 0))
                                (Go.Pv.GPool.Pend (Go.Pv.F4 [Go.Pv.GLayer.mk q w a])),
                              Prod.snd ([Prod.fst (Go.Pv.GLayer.mk (q + k) (w + d) (a + c), 0)], 0)),
                          0, 0))))))))
        (Prod.fst
          (Prod.snd
            (Prod.snd
              (Prod.snd
                (Prod.snd
                  (Prod.snd
                    (Go.Pv.GEnt.Now (Go.Pv.F2 (Go.Pv.F7 [Go.Pv.GLayer.mk q w a]) B R),
                      Go.Pv.GEnt.Closed (Go.Pv.F2 (Go.Pv.F7 [Go.Pv.GLayer.mk q w a]) B R),
                      Go.Pv.GEnt.Bal (Go.Pv.F2 (Go.Pv.F7 [Go.Pv.GLayer.mk q w a]) B R),
                      Go.Pv.GEnt.Rolls (Go.Pv.F2 (Go.Pv.F7 [Go.Pv.GLayer.mk q w a]) B R),
                      Go.Pv.GEnt.Prices (Go.Pv.F2 (Go.Pv.F7 [Go.Pv.GLayer.mk q w a]) B R),
                      Go.Pv.GEnt.Down (Go.Pv.F2 (Go.Pv.F7 [Go.Pv.GLayer.mk q w a]) B R),
                      Go.Pv.GEnt.Ahead (Go.Pv.F2 (Go.Pv.F7 [Go.Pv.GLayer.mk q w a]) B R),
                      List.set (Go.Pv.GEnt.Pools (Go.Pv.F2 (Go.Pv.F7 [Go.Pv.GLayer.mk q w a]) B R)) (Int.toNat 2)
                        (Prod.fst
                          (Prod.fst
                              (Go.Pv.GPool.mk (Prod.fst ([Prod.fst (Go.Pv.GLayer.mk (q + k) (w + d) (a + c), 0)], 0))
                                  (Go.Pv.GPool.Pend (Go.Pv.F4 [Go.Pv.GLayer.mk q w a])),
                                Prod.snd ([Prod.fst (Go.Pv.GLayer.mk (q + k) (w + d) (a + c), 0)], 0)),
                            0, 0)))))))))
        (Prod.fst
          (Prod.snd
            (Prod.snd
              (Prod.snd
                (Prod.snd
                  (Prod.snd
                    (Prod.snd
                      (Go.Pv.GEnt.Now (Go.Pv.F2 (Go.Pv.F7 [Go.Pv.GLayer.mk q w a]) B R),
                        Go.Pv.GEnt.Closed (Go.Pv.F2 (Go.Pv.F7 [Go.Pv.GLayer.mk q w a]) B R),
                        Go.Pv.GEnt.Bal (Go.Pv.F2 (Go.Pv.F7 [Go.Pv.GLayer.mk q w a]) B R),
                        Go.Pv.GEnt.Rolls (Go.Pv.F2 (Go.Pv.F7 [Go.Pv.GLayer.mk q w a]) B R),
                        Go.Pv.GEnt.Prices (Go.Pv.F2 (Go.Pv.F7 [Go.Pv.GLayer.mk q w a]) B R),
                        Go.Pv.GEnt.Down (Go.Pv.F2 (Go.Pv.F7 [Go.Pv.GLayer.mk q w a]) B R),
                        Go.Pv.GEnt.Ahead (Go.Pv.F2 (Go.Pv.F7 [Go.Pv.GLayer.mk q w a]) B R),
                        List.set (Go.Pv.GEnt.Pools (Go.Pv.F2 (Go.Pv.F7 [Go.Pv.GLayer.mk q w a]) B R)) (Int.toNat 2)
                          (Prod.fst
                            (Prod.fst
                                (Go.Pv.GPool.mk (Prod.fst ([Prod.fst (Go.Pv.GLayer.mk (q + k) (w + d) (a + c), 0)], 0))
                                    (Go.Pv.GPool.Pend (Go.Pv.F4 [Go.Pv.GLayer.mk q w a])),
                                  Prod.snd ([Prod.fst (Go.Pv.GLayer.mk (q + k) (w + d) (a + c), 0)], 0)),
                              0, 0)))))))))))))),
    .o ((Go.Pv.ix (List.set X (Int.toNat e) (Go.Pv.F2 (Go.Pv.F7 [Go.Pv.GLayer.mk (q + k) (w + d) (a + c)]) B R)) e).map .k2) (.k2 (Go.Pv.F2 (Go.Pv.F7 [Go.Pv.GLayer.mk (q + k) (w + d) (a + c)]) B R)),
    .o ((Go.Pv.d_fifo_Total (m + 39) [Go.Pv.GLayer.mk (q + k) (w + d) (a + c)]).map .k6) (.k6 (Go.Pv.GLayer.mk (q + k) (w + d) (a + c), 0)),
    .a (q + k ≥ -288230376151711744),
    .a (q + k ≤ 288230376151711744),
    .w (0 + (q + k)) (q + k),
    .w (q + k + 0) (q + k),
    .a (w + d ≥ -288230376151711744),
    .a (w + d ≤ 288230376151711744),
    .w (0 + (w + d)) (w + d),
    .w (w + d + 0) (w + d),
    .a (a + c ≥ -288230376151711744),
    .a (a + c ≤ 288230376151711744),
    .w (0 + (a + c)) (a + c),
    .w (a + c + 0) (a + c),
    .o ((Go.Pv.d_stock_steady (m + 40)
  (Go.Pv.F1 (List.set X (Int.toNat e) (Go.Pv.F2 (Go.Pv.F7 [Go.Pv.GLayer.mk (q + k) (w + d) (a + c)]) B R)) U rc) e 1).map .k8) (.k8 (Bool.true)),
    .w (d - 0) (d)]
    0 (T.prs [0,2001,2002,3,4,4,1005,6006,1005,1006,2002,1007,3008,9,2,1002,1002,0,2010,2011,3,4,4,1005,6006,1011,5012,0,2010,2011,3,4,4,1005,6006,11011,13,14,15,13,14,4015,13,2014,16,13,14,7016,17,18,19,17,18,4019,17,2018,20,17,18,7020,21,22,23,21,22,4023,21,2022,24,21,22,4024,25,26]) (x_stock_Bring_ok _ _ _ _ _ _)
    T.okS (by kernel_rfl)
def fiB_tb (m : Nat) (k : Int) (d : Int) (c : Int) (q : Int) (w : Int) (a : Int) : List (T.E An) :=
  [.b (k < 1),
    .b (d < 0),
    .b (q < 1),
    .b (q > 288230376151711744),
    .b (w < 0),
    .b (w > 288230376151711744),
    .b (a < -288230376151711744),
    .b (a > 288230376151711744),
    .b (k > 288230376151711744),
    .b (d > 288230376151711744),
    .b (c < -288230376151711744),
    .b (c > 288230376151711744),
    .o ((Go.Pv.d_fifo_Total (m + 40) [Go.Pv.GLayer.mk q w a, Go.Pv.GLayer.mk k d c]).map .k6) (.k6 (Go.Pv.GLayer.mk (q + k) (w + d) (a + c), 0)),
    .s (0 - a),
    .s (0 - c)]
theorem fiB_tk (m : Nat) (k d c q w a : Int) (l1 : 1 ≤ k) (l2 : k ≤ 50) (l3 : 0 ≤ d) (l4 : d < 2000) (l5 : -20000 ≤ c) (l6 : c ≤ 20000) (l7 : 1 ≤ q) (l8 : q ≤ 50) (l9 : 0 ≤ w) (l10 : w < 2000) (l11 : -20000 ≤ a) (l12 : a ≤ 20000) (et : d_fifo_Total (m + 40) [⟨q, w, a⟩, ⟨k, d, c⟩] = some (⟨q + k, w + d, a + c⟩, 0)) : T.AllE (fiB_tb m k d c q w a) := by
  unfold fiB_tb
  exact T.okS
theorem fiBtt (m : Nat) (k d c q w a : Int) (l1 : 1 ≤ k) (l2 : k ≤ 50) (l3 : 0 ≤ d) (l4 : d < 2000) (l5 : -20000 ≤ c) (l6 : c ≤ 20000) (l7 : 1 ≤ q) (l8 : q ≤ 50) (l9 : 0 ≤ w) (l10 : w < 2000) (l11 : -20000 ≤ a) (l12 : a ≤ 20000) (et : d_fifo_Total (m + 40) [⟨q, w, a⟩, ⟨k, d, c⟩] = some (⟨q + k, w + d, a + c⟩, 0)) (f4 : (0 - a : Int) > a) (f3 : (0 - c : Int) > c) : d_fifo_In (m + 40) [⟨q, w, a⟩] ⟨k, d, c⟩ = some (([⟨q, w, a⟩, ⟨k, d, c⟩], 0)) :=
  T.by_go (fiB_tb m k d c q w a ++ [.a (0 - a > a),
    .a (0 - c > c),
    .a (0 - a ≥ -288230376151711744),
    .a (0 - a ≤ 288230376151711744),
    .w (0 + (0 - a)) (0 - a),
    .a (0 - c ≥ -288230376151711744),
    .a (0 - c ≤ 288230376151711744),
    .w (0 - a + (0 - c)) (0 - a - c),
    .a (0 - a - c ≥ -288230376151711744),
    .a (0 - a - c ≤ 288230376151711744)])
    1 (T.prs [0,5001,2,3,4,5,6,2007,0,8,1,9,10,3011,2012,13,3015,14,7016,17,18,19,17,18,4019,17,18,20,21,22,23,24,4022]) (x_fifo_In_ok _ _ _)
    (T.okA (fiB_tk m k d c q w a l1 l2 l3 l4 l5 l6 l7 l8 l9 l10 l11 l12 et) T.okS) (by kernel_rfl)
theorem fiBtf (m : Nat) (k d c q w a : Int) (l1 : 1 ≤ k) (l2 : k ≤ 50) (l3 : 0 ≤ d) (l4 : d < 2000) (l5 : -20000 ≤ c) (l6 : c ≤ 20000) (l7 : 1 ≤ q) (l8 : q ≤ 50) (l9 : 0 ≤ w) (l10 : w < 2000) (l11 : -20000 ≤ a) (l12 : a ≤ 20000) (et : d_fifo_Total (m + 40) [⟨q, w, a⟩, ⟨k, d, c⟩] = some (⟨q + k, w + d, a + c⟩, 0)) (f4 : (0 - a : Int) > a) (f3 : ¬ (0 - c : Int) > c) : d_fifo_In (m + 40) [⟨q, w, a⟩] ⟨k, d, c⟩ = some (([⟨q, w, a⟩, ⟨k, d, c⟩], 0)) :=
  T.by_go (fiB_tb m k d c q w a ++ [.a (0 - a > a),
    .b (0 - c > c),
    .a (0 - a ≥ -288230376151711744),
    .a (0 - a ≤ 288230376151711744),
    .w (0 + (0 - a)) (0 - a),
    .a (c ≥ -288230376151711744),
    .a (c ≤ 288230376151711744),
    .w (0 - a + c) (c - a),
    .a (c - a ≥ -288230376151711744),
    .a (c - a ≤ 288230376151711744)])
    1 (T.prs [0,5001,2,3,4,5,6,2007,0,8,1,9,10,3011,2012,13,3015,14,7016,17,18,19,17,18,4019,17,18,20,21,22,23,24,4022]) (x_fifo_In_ok _ _ _)
    (T.okA (fiB_tk m k d c q w a l1 l2 l3 l4 l5 l6 l7 l8 l9 l10 l11 l12 et) T.okS) (by kernel_rfl)
theorem fiBft (m : Nat) (k d c q w a : Int) (l1 : 1 ≤ k) (l2 : k ≤ 50) (l3 : 0 ≤ d) (l4 : d < 2000) (l5 : -20000 ≤ c) (l6 : c ≤ 20000) (l7 : 1 ≤ q) (l8 : q ≤ 50) (l9 : 0 ≤ w) (l10 : w < 2000) (l11 : -20000 ≤ a) (l12 : a ≤ 20000) (et : d_fifo_Total (m + 40) [⟨q, w, a⟩, ⟨k, d, c⟩] = some (⟨q + k, w + d, a + c⟩, 0)) (f4 : ¬ (0 - a : Int) > a) (f3 : (0 - c : Int) > c) : d_fifo_In (m + 40) [⟨q, w, a⟩] ⟨k, d, c⟩ = some (([⟨q, w, a⟩, ⟨k, d, c⟩], 0)) :=
  T.by_go (fiB_tb m k d c q w a ++ [.b (0 - a > a),
    .a (0 - c > c),
    .a (a ≥ -288230376151711744),
    .a (a ≤ 288230376151711744),
    .w (0 + a) (a),
    .a (0 - c ≥ -288230376151711744),
    .a (0 - c ≤ 288230376151711744),
    .w (a + (0 - c)) (a - c),
    .a (a - c ≥ -288230376151711744),
    .a (a - c ≤ 288230376151711744)])
    1 (T.prs [0,5001,2,3,4,5,6,2007,0,8,1,9,10,3011,2012,13,3015,14,7016,17,18,19,17,18,4019,17,18,20,21,22,23,24,4022]) (x_fifo_In_ok _ _ _)
    (T.okA (fiB_tk m k d c q w a l1 l2 l3 l4 l5 l6 l7 l8 l9 l10 l11 l12 et) T.okS) (by kernel_rfl)
theorem fiBff (m : Nat) (k d c q w a : Int) (l1 : 1 ≤ k) (l2 : k ≤ 50) (l3 : 0 ≤ d) (l4 : d < 2000) (l5 : -20000 ≤ c) (l6 : c ≤ 20000) (l7 : 1 ≤ q) (l8 : q ≤ 50) (l9 : 0 ≤ w) (l10 : w < 2000) (l11 : -20000 ≤ a) (l12 : a ≤ 20000) (et : d_fifo_Total (m + 40) [⟨q, w, a⟩, ⟨k, d, c⟩] = some (⟨q + k, w + d, a + c⟩, 0)) (f4 : ¬ (0 - a : Int) > a) (f3 : ¬ (0 - c : Int) > c) : d_fifo_In (m + 40) [⟨q, w, a⟩] ⟨k, d, c⟩ = some (([⟨q, w, a⟩, ⟨k, d, c⟩], 0)) :=
  T.by_go (fiB_tb m k d c q w a ++ [.b (0 - a > a),
    .b (0 - c > c),
    .a (a ≥ -288230376151711744),
    .a (a ≤ 288230376151711744),
    .w (0 + a) (a),
    .a (c ≥ -288230376151711744),
    .a (c ≤ 288230376151711744),
    .s (a + c),
    .a (a + c ≥ -288230376151711744),
    .a (a + c ≤ 288230376151711744)])
    1 (T.prs [0,5001,2,3,4,5,6,2007,0,8,1,9,10,3011,2012,13,3015,14,7016,17,18,19,17,18,4019,17,18,20,21,22,23,24,4022]) (x_fifo_In_ok _ _ _)
    (T.okA (fiB_tk m k d c q w a l1 l2 l3 l4 l5 l6 l7 l8 l9 l10 l11 l12 et) T.okS) (by kernel_rfl)
theorem fiB_r (m : Nat) (k d c q w a : Int) (l1 : 1 ≤ k) (l2 : k ≤ 50) (l3 : 0 ≤ d) (l4 : d < 2000) (l5 : -20000 ≤ c) (l6 : c ≤ 20000) (l7 : 1 ≤ q) (l8 : q ≤ 50) (l9 : 0 ≤ w) (l10 : w < 2000) (l11 : -20000 ≤ a) (l12 : a ≤ 20000) (et : d_fifo_Total (m + 40) [⟨q, w, a⟩, ⟨k, d, c⟩] = some (⟨q + k, w + d, a + c⟩, 0)) : d_fifo_In (m + 40) [⟨q, w, a⟩] ⟨k, d, c⟩ = some (([⟨q, w, a⟩, ⟨k, d, c⟩], 0)) := by
  by_cases f4 : (0 - a : Int) > a
  · by_cases f3 : (0 - c : Int) > c
    · exact fiBtt m k d c q w a l1 l2 l3 l4 l5 l6 l7 l8 l9 l10 l11 l12 et f4 f3
    · exact fiBtf m k d c q w a l1 l2 l3 l4 l5 l6 l7 l8 l9 l10 l11 l12 et f4 f3
  · by_cases f3 : (0 - c : Int) > c
    · exact fiBft m k d c q w a l1 l2 l3 l4 l5 l6 l7 l8 l9 l10 l11 l12 et f4 f3
    · exact fiBff m k d c q w a l1 l2 l3 l4 l5 l6 l7 l8 l9 l10 l11 l12 et f4 f3
theorem ftA_r (m : Nat) (q w a : Int) (l7 : 1 ≤ q) (l8 : q ≤ 100) (l9 : 0 ≤ w) (l10 : w < 4000) (l11 : -40000 ≤ a) (l12 : a ≤ 40000) : d_fifo_Total (m + 20) [⟨q, w, a⟩] = some ((⟨q, w, a⟩, 0)) :=
  T.by_go [.a (q ≥ -288230376151711744),
    .a (q ≤ 288230376151711744),
    .w (0 + q) (q),
    .a (w ≥ -288230376151711744),
    .a (w ≤ 288230376151711744),
    .w (0 + w) (w),
    .a (a ≥ -288230376151711744),
    .a (a ≤ 288230376151711744),
    .w (0 + a) (a)]
    10 (T.prs [0,1,2,0,1,8002,3,4,5,3,4,8005,6,7,8,6,7,4008]) (x_fifo_Total_ok _ _)
    T.okS (by kernel_rfl)
theorem ftB_r (m : Nat) (q w a k d c : Int) (l1 : 1 ≤ k) (l2 : k ≤ 50) (l3 : 0 ≤ d) (l4 : d < 2000) (l5 : -20000 ≤ c) (l6 : c ≤ 20000) (l7 : 1 ≤ q) (l8 : q ≤ 50) (l9 : 0 ≤ w) (l10 : w < 2000) (l11 : -20000 ≤ a) (l12 : a ≤ 20000) : d_fifo_Total (m + 20) [⟨q, w, a⟩, ⟨k, d, c⟩] = some ((⟨q + k, w + d, a + c⟩, 0)) :=
  T.by_go [.a (q ≥ -288230376151711744),
    .a (q ≤ 288230376151711744),
    .w (0 + q) (q),
    .a (k ≥ -288230376151711744),
    .a (k ≤ 288230376151711744),
    .s (q + k),
    .a (q + k ≥ -288230376151711744),
    .a (q + k ≤ 288230376151711744),
    .a (w ≥ -288230376151711744),
    .a (w ≤ 288230376151711744),
    .w (0 + w) (w),
    .a (d ≥ -288230376151711744),
    .a (d ≤ 288230376151711744),
    .s (w + d),
    .a (w + d ≥ -288230376151711744),
    .a (w + d ≤ 288230376151711744),
    .a (a ≥ -288230376151711744),
    .a (a ≤ 288230376151711744),
    .w (0 + a) (a),
    .a (c ≥ -288230376151711744),
    .a (c ≤ 288230376151711744),
    .s (a + c),
    .a (a + c ≥ -288230376151711744),
    .a (a + c ≤ 288230376151711744)]
    15 (T.prs [0,1,2,0,1,4002,0,1,3,4,5,6,7,8005,8,9,10,8,9,4010,8,9,11,12,13,14,15,8013,16,17,18,16,17,4018,16,17,19,20,21,22,23,4021]) (x_fifo_Total_ok _ _)
    T.okS (by kernel_rfl)
def sdD_tb (m : Nat) (X : List Go.Pv.GEnt) (U : List Go.Pv.GTransit) (rc : Go.Pv.GReceipt) (B : List Int) (R : List Go.Pv.GRoll) (e : Int) (q : Int) (w : Int) (a : Int) : List (T.E An) :=
  [.b (e < 0),
    .b (e ≥ ↑(List.length X)),
    .o ((Go.Pv.ix X e).map .k2) (.k2 (Go.Pv.F2 (Go.Pv.F7 [Go.Pv.GLayer.mk q w a]) B R)),
    .a ((↑(List.length R) : Int) ≥ 4),
    .a (e < 2),
    .o ((Go.Pv.ix [[1, 2, 3, 4], [1, 2, 3, 4]] e).map .k5) (.k5 [1, 2, 3, 4]),
    .o ((Go.Pv.ix [[10, 10, 10, 10], [10, 10, 10, 10]] e).map .k5) (.k5 [10, 10, 10, 10]),
    .s (0 - a)]
theorem sdD_tk (m : Nat) (X : List GEnt) (U : List GTransit) (rc : GReceipt) (B : List Int) (R : List GRoll) (e q w a : Int) (hX : (X.length : Int) = 2) (he : 0 ≤ e) (he2 : e < 2) (me : ix ([[1, 2, 3, 4], [1, 2, 3, 4]] : List (List Int)) e = some [1, 2, 3, 4]) (ce : ix ([[10, 10, 10, 10], [10, 10, 10, 10]] : List (List Int)) e = some [10, 10, 10, 10]) (xe : ix X e = some (F2 (F7 [⟨q, w, a⟩]) B R)) (r1 : (R.length : Int) = 4) (l11 : -40000 ≤ a) (l12 : a ≤ 40000) : T.AllE (sdD_tb m X U rc B R e q w a) := by
  unfold sdD_tb
  exact T.okS
theorem sdDt (m : Nat) (X : List GEnt) (U : List GTransit) (rc : GReceipt) (B : List Int) (R : List GRoll) (e q w a : Int) (hX : (X.length : Int) = 2) (he : 0 ≤ e) (he2 : e < 2) (me : ix ([[1, 2, 3, 4], [1, 2, 3, 4]] : List (List Int)) e = some [1, 2, 3, 4]) (ce : ix ([[10, 10, 10, 10], [10, 10, 10, 10]] : List (List Int)) e = some [10, 10, 10, 10]) (xe : ix X e = some (F2 (F7 [⟨q, w, a⟩]) B R)) (r1 : (R.length : Int) = 4) (l11 : -40000 ≤ a) (l12 : a ≤ 40000) (f3 : (0 - a : Int) > a) : d_stock_steady (m + 40) (F1 X U rc) e 1 = some (true) :=
  T.by_go (sdD_tb m X U rc B R e q w a ++ [.a (0 - a > a),
    .a (0 - a ≥ -288230376151711744),
    .a (0 - a ≤ 288230376151711744),
    .w (0 + (0 - a)) (0 - a)])
    1 (T.prs [0,2001,2002,3,4,4,1005,6006,2002,7,5008,0,2001,2002,3,4,4,1005,6006,8002,9,10,11,9,10,4011]) (x_stock_steady_ok _ _ _ _)
    (T.okA (sdD_tk m X U rc B R e q w a hX he he2 me ce xe r1 l11 l12) T.okS) (by kernel_rfl)
theorem sdDf (m : Nat) (X : List GEnt) (U : List GTransit) (rc : GReceipt) (B : List Int) (R : List GRoll) (e q w a : Int) (hX : (X.length : Int) = 2) (he : 0 ≤ e) (he2 : e < 2) (me : ix ([[1, 2, 3, 4], [1, 2, 3, 4]] : List (List Int)) e = some [1, 2, 3, 4]) (ce : ix ([[10, 10, 10, 10], [10, 10, 10, 10]] : List (List Int)) e = some [10, 10, 10, 10]) (xe : ix X e = some (F2 (F7 [⟨q, w, a⟩]) B R)) (r1 : (R.length : Int) = 4) (l11 : -40000 ≤ a) (l12 : a ≤ 40000) (f3 : ¬ (0 - a : Int) > a) : d_stock_steady (m + 40) (F1 X U rc) e 1 = some (true) :=
  T.by_go (sdD_tb m X U rc B R e q w a ++ [.b (0 - a > a),
    .a (a ≥ -288230376151711744),
    .a (a ≤ 288230376151711744),
    .w (0 + a) (a)])
    1 (T.prs [0,2001,2002,3,4,4,1005,6006,2002,7,5008,0,2001,2002,3,4,4,1005,6006,8002,9,10,11,9,10,4011]) (x_stock_steady_ok _ _ _ _)
    (T.okA (sdD_tk m X U rc B R e q w a hX he he2 me ce xe r1 l11 l12) T.okS) (by kernel_rfl)
theorem sdD_r (m : Nat) (X : List GEnt) (U : List GTransit) (rc : GReceipt) (B : List Int) (R : List GRoll) (e q w a : Int) (hX : (X.length : Int) = 2) (he : 0 ≤ e) (he2 : e < 2) (me : ix ([[1, 2, 3, 4], [1, 2, 3, 4]] : List (List Int)) e = some [1, 2, 3, 4]) (ce : ix ([[10, 10, 10, 10], [10, 10, 10, 10]] : List (List Int)) e = some [10, 10, 10, 10]) (xe : ix X e = some (F2 (F7 [⟨q, w, a⟩]) B R)) (r1 : (R.length : Int) = 4) (l11 : -40000 ≤ a) (l12 : a ≤ 40000) : d_stock_steady (m + 40) (F1 X U rc) e 1 = some (true) := by
  by_cases f3 : (0 - a : Int) > a
  · exact sdDt m X U rc B R e q w a hX he he2 me ce xe r1 l11 l12 f3
  · exact sdDf m X U rc B R e q w a hX he he2 me ce xe r1 l11 l12 f3
theorem wo0_r (m : Nat) (X : List GEnt) (U : List GTransit) (rc : GReceipt) (B : List Int) (R : List GRoll) (L : List GLayer) (e : Int) (hX : (X.length : Int) = 2) (he : 0 ≤ e) (he2 : e < 2) (xe : ix X e = some (F2 (F7 L) B R)) : d_ref14_Worth (m + 20) (F1 X U rc) e 0 = some (⟨0, 0, 0⟩) :=
  T.by_go [.w (↑(List.length X) - 1) ((↑(List.length X)) - 1),
    .a (e ≥ 0),
    .a (e ≤ ↑(List.length X) - 1),
    .o ((Go.Pv.ix X e).map .k2) (.k2 (Go.Pv.F2 (Go.Pv.F7 L) B R))]
    1 (T.prs [0,1,7002,1003,8003,0,1,7002,1003,83003]) (x_ref14_Worth_ok _ _ _ _)
    T.okS (by kernel_rfl)
theorem wo2_r (m : Nat) (X : List GEnt) (U : List GTransit) (rc : GReceipt) (B : List Int) (R : List GRoll) (L : List GLayer) (e : Int) (hX : (X.length : Int) = 2) (he : 0 ≤ e) (he2 : e < 2) (xe : ix X e = some (F2 (F7 L) B R)) : d_ref14_Worth (m + 20) (F1 X U rc) e 2 = some (⟨0, 0, 0⟩) :=
  T.by_go [.w (↑(List.length X) - 1) ((↑(List.length X)) - 1),
    .a (e ≥ 0),
    .a (e ≤ ↑(List.length X) - 1),
    .o ((Go.Pv.ix X e).map .k2) (.k2 (Go.Pv.F2 (Go.Pv.F7 L) B R))]
    1 (T.prs [0,1,7002,1003,8003,0,1,7002,1003,83003]) (x_ref14_Worth_ok _ _ _ _)
    T.okS (by kernel_rfl)
theorem wo3_r (m : Nat) (X : List GEnt) (U : List GTransit) (rc : GReceipt) (B : List Int) (R : List GRoll) (L : List GLayer) (e : Int) (hX : (X.length : Int) = 2) (he : 0 ≤ e) (he2 : e < 2) (xe : ix X e = some (F2 (F7 L) B R)) : d_ref14_Worth (m + 20) (F1 X U rc) e 3 = some (⟨0, 0, 0⟩) :=
  T.by_go [.w (↑(List.length X) - 1) ((↑(List.length X)) - 1),
    .a (e ≥ 0),
    .a (e ≤ ↑(List.length X) - 1),
    .o ((Go.Pv.ix X e).map .k2) (.k2 (Go.Pv.F2 (Go.Pv.F7 L) B R))]
    1 (T.prs [0,1,7002,1003,8003,0,1,7002,1003,83003]) (x_ref14_Worth_ok _ _ _ _)
    T.okS (by kernel_rfl)
theorem woE_r (m : Nat) (X : List GEnt) (U : List GTransit) (rc : GReceipt) (B : List Int) (R : List GRoll) (e : Int) (hX : (X.length : Int) = 2) (he : 0 ≤ e) (he2 : e < 2) (xe : ix X e = some (F2 (F7 []) B R)) : d_ref14_Worth (m + 20) (F1 X U rc) e 1 = some (⟨0, 0, 0⟩) :=
  T.by_go [.w (↑(List.length X) - 1) ((↑(List.length X)) - 1),
    .a (e ≥ 0),
    .a (e ≤ ↑(List.length X) - 1),
    .o ((Go.Pv.ix X e).map .k2) (.k2 (Go.Pv.F2 (Go.Pv.F7 []) B R))]
    1 (T.prs [0,1,7002,1003,8003,0,1,7002,1003,83003]) (x_ref14_Worth_ok _ _ _ _)
    T.okS (by kernel_rfl)
theorem woF_r (m : Nat) (X : List GEnt) (U : List GTransit) (rc : GReceipt) (B : List Int) (R : List GRoll) (e q w a : Int) (hX : (X.length : Int) = 2) (he : 0 ≤ e) (he2 : e < 2) (xe : ix X e = some (F2 (F7 [⟨q, w, a⟩]) B R)) (l7 : 1 ≤ q) (l8 : q ≤ 100) (l9 : 0 ≤ w) (l10 : w < 4000) (l11 : -40000 ≤ a) (l12 : a ≤ 40000) : d_ref14_Worth (m + 20) (F1 X U rc) e 1 = some (⟨q, w, a⟩) :=
  T.by_go [.w (↑(List.length X) - 1) ((↑(List.length X)) - 1),
    .a (e ≥ 0),
    .a (e ≤ ↑(List.length X) - 1),
    .o ((Go.Pv.ix X e).map .k2) (.k2 (Go.Pv.F2 (Go.Pv.F7 [Go.Pv.GLayer.mk q w a]) B R)),
    .a (q ≥ -288230376151711744),
    .a (q ≤ 288230376151711744),
    .w (0 + q) (q),
    .a (w ≥ -288230376151711744),
    .a (w ≤ 288230376151711744),
    .w (0 + w) (w),
    .a (a ≥ -288230376151711744),
    .a (a ≤ 288230376151711744),
    .w (0 + a) (a),
    .w (q + 0) (q),
    .w (w + 0) (w),
    .w (a + 0) (a)]
    1 (T.prs [0,1,7002,1003,5003,4,5,6,4,5,2006,7,8,9,7,8,2009,10,11,12,10,11,10012,0,1,7002,1003,12003,4,5,6,4,5,4006,4,2005,13,4,5,7013,7,8,9,7,8,4009,7,2008,14,7,8,7014,10,11,12,10,11,4012,10,2011,15,10,11,3015]) (x_ref14_Worth_ok _ _ _ _)
    T.okS (by kernel_rfl)
theorem alD_r (m : Nat) (X : List GEnt) (U : List GTransit) (rc : GReceipt) (q0 v0 a0 q1 v1 a1 z : Int) (hX : (X.length : Int) = 2) (l1 : -50000 ≤ a0) (l2 : a0 ≤ 50000) (l3 : -50000 ≤ a1) (l4 : a1 ≤ 50000) (w00 : d_ref14_Worth (m + 38) (F1 X U rc) 0 0 = some ⟨0, 0, 0⟩) (w10 : d_ref14_Worth (m + 37) (F1 X U rc) 1 0 = some ⟨0, 0, 0⟩) (w01 : d_ref14_Worth (m + 37) (F1 X U rc) 0 1 = some ⟨q0, v0, a0⟩) (w11 : d_ref14_Worth (m + 36) (F1 X U rc) 1 1 = some ⟨q1, v1, a1⟩) (w02 : d_ref14_Worth (m + 36) (F1 X U rc) 0 2 = some ⟨0, 0, 0⟩) (w12 : d_ref14_Worth (m + 35) (F1 X U rc) 1 2 = some ⟨0, 0, 0⟩) (w03 : d_ref14_Worth (m + 35) (F1 X U rc) 0 3 = some ⟨0, 0, 0⟩) (w13 : d_ref14_Worth (m + 34) (F1 X U rc) 1 3 = some ⟨0, 0, 0⟩) (eU : d_law20_all_L2 (F1 X U rc) (m + 40) (a0 + a1) 0 = some z) : d_law20_all (m + 40) (F1 X U rc) = some (z) :=
  T.by_go [.a ((0 : Int) < ↑(List.length X)),
    .o ((Go.Pv.d_ref14_Worth (m + 38) (Go.Pv.F1 X U rc) 0 0).map .k12) (.k12 (Go.Pv.GLayer.mk 0 0 0)),
    .o ((Go.Pv.d_ref14_Worth (m + 37) (Go.Pv.F1 X U rc) 0 1).map .k12) (.k12 (Go.Pv.GLayer.mk q0 v0 a0)),
    .w (0 + a0) (a0),
    .o ((Go.Pv.d_ref14_Worth (m + 36) (Go.Pv.F1 X U rc) 0 2).map .k12) (.k12 (Go.Pv.GLayer.mk 0 0 0)),
    .w (a0 + 0) (a0),
    .o ((Go.Pv.d_ref14_Worth (m + 35) (Go.Pv.F1 X U rc) 0 3).map .k12) (.k12 (Go.Pv.GLayer.mk 0 0 0)),
    .a ((1 : Int) < ↑(List.length X)),
    .o ((Go.Pv.d_ref14_Worth (m + 37) (Go.Pv.F1 X U rc) 1 0).map .k12) (.k12 (Go.Pv.GLayer.mk 0 0 0)),
    .o ((Go.Pv.d_ref14_Worth (m + 36) (Go.Pv.F1 X U rc) 1 1).map .k12) (.k12 (Go.Pv.GLayer.mk q1 v1 a1)),
    .s (a0 + a1),
    .o ((Go.Pv.d_ref14_Worth (m + 35) (Go.Pv.F1 X U rc) 1 2).map .k12) (.k12 (Go.Pv.GLayer.mk 0 0 0)),
    .w (a0 + a1 + 0) (a0 + a1),
    .o ((Go.Pv.d_ref14_Worth (m + 34) (Go.Pv.F1 X U rc) 1 3).map .k12) (.k12 (Go.Pv.GLayer.mk 0 0 0)),
    .b ((2 : Int) < ↑(List.length X)),
    .o ((Go.Pv.d_law20_all_L2 (Go.Pv.F1 X U rc) (m + 40) (a0 + a1) 0).map .z) (.z (z))]
    0 (T.prs [1000,3001,2,2003,4,2005,6,3005,1007,8,2005,9,2010,11,2012,13,3012,14,15]) (x_law20_all_ok _ _)
    T.okS (by kernel_rfl)
theorem amA (n : Nat) (X : List GEnt) (U : List GTransit) (rc : GReceipt) (acc j f g o w a : Int) (h0 : 0 ≤ j) (h1 : j < 100) (hj : j < (U.length : Int)) (tj : ix U j = some ⟨f, g, 1, o, w, a⟩) (l1 : -100000 ≤ acc) (l2 : acc ≤ 100000) (l3 : -100000 ≤ a) (l4 : a ≤ 100000) : d_law20_all_L2 (F1 X U rc) (n + 1) acc j = d_law20_all_L2 ⟨⟨2, 3, [1, 2, 3, 0], [[1, 2, 3, 4], [1, 2, 3, 4]], [[10, 10, 10, 10], [10, 10, 10, 10]]⟩, X, [rc], [], U, 0⟩ n (acc + a) (j + 1) :=
  T.by_gor [.a (j < ↑(List.length U)),
    .o ((Go.Pv.ix U j).map .k4) (.k4 (Go.Pv.GTransit.mk f g 1 o w a)),
    .s (acc + a),
    .s (j + 1)]
    0 (T.prs [0,1,2,3]) (x_law20_all_L2_ok _ _ _ _) (x_law20_all_L2_ok _ _ _ _)
    T.okS (by kernel_rfl)
theorem amA_r (n : Nat) (X : List GEnt) (U : List GTransit) (rc : GReceipt) (acc j f g o w a : Int) (h0 : 0 ≤ j) (h1 : j < 100) (hj : j < (U.length : Int)) (tj : ix U j = some ⟨f, g, 1, o, w, a⟩) (l1 : -100000 ≤ acc) (l2 : acc ≤ 100000) (l3 : -100000 ≤ a) (l4 : a ≤ 100000) : d_law20_all_L2 (F1 X U rc) (n + 1) acc j = d_law20_all_L2 (F1 X U rc) n (acc + a) (j + 1) := by
  exact Eq.trans (amA n X U rc acc j f g o w a h0 h1 hj tj l1 l2 l3 l4) (by unfold F1; repeat' (first | rfl | omega | apply congr))
theorem amB_r (n : Nat) (X : List GEnt) (U : List GTransit) (rc : GReceipt) (acc j : Int) (hj : ¬ j < (U.length : Int)) : d_law20_all_L2 (F1 X U rc) (n + 1) acc j = some (acc) :=
  T.by_go [.b (j < ↑(List.length U))]
    0 (T.prs [0]) (x_law20_all_L2_ok _ _ _ _)
    T.okS (by kernel_rfl)
theorem muD_r (m : Nat) (X : List GEnt) (U : List GTransit) (rc : GReceipt) (P0 P1 : List GPool) (R0 R1 : List GRoll) (b0 g0 t0 r0 y0 s0 c0 b1 g1 t1 r1 y1 s1 c1 : Int) (hX : (X.length : Int) = 2) (x0 : ix X 0 = some (F2 P0 (F3 b0 g0 t0 r0 y0 s0 c0) R0)) (x1 : ix X 1 = some (F2 P1 (F3 b1 g1 t1 r1 y1 s1 c1) R1)) (ar0 : -50000 ≤ r0) (er0 : r0 ≤ 50000) (ay0 : -50000 ≤ y0) (ey0 : y0 ≤ 50000) (ar1 : -50000 ≤ r1) (er1 : r1 ≤ 50000) (ay1 : -50000 ≤ y1) (ey1 : y1 ≤ 50000) (hz : r0 + y0 + r1 + y1 = 0) : d_ref24_Mutual (m + 20) (F1 X U rc) = some (true) :=
  T.by_go [.a ((0 : Int) < ↑(List.length X)),
    .o ((Go.Pv.ix X 0).map .k2) (.k2 (Go.Pv.F2 P0 (Go.Pv.F3 b0 g0 t0 r0 y0 s0 c0) R0)),
    .w (0 + r0) (r0),
    .s (r0 + y0),
    .a ((1 : Int) < ↑(List.length X)),
    .o ((Go.Pv.ix X 1).map .k2) (.k2 (Go.Pv.F2 P1 (Go.Pv.F3 b1 g1 t1 r1 y1 s1 c1) R1)),
    .s (r0 + y0 + r1),
    .s (r0 + y0 + r1 + y1),
    .b ((2 : Int) < ↑(List.length X)),
    .a (r0 + y0 + r1 + y1 = 0)]
    0 (T.prs [0,1001,2,1001,1003,4,1005,6,1005,1007,8,9]) (t_ref24_Mutual_ok _ _)
    T.okS (by kernel_rfl)
theorem stD_r (n : Int) (h1 : 1 ≤ n) (h2 : n ≤ 50) : d_law20_stocked 80 1 n (10 * n) = some (F1 [F2 (F7 [⟨n, 10 * n, 0⟩]) (F3 (10 * n) (0 - 10 * n) 0 0 0 0 0) [⟨0, 0, 0, 0, 0, 0, 0, 0, 0, 0, 0⟩, ⟨0, 10 * n, 0, 0, 0, 0, 0, 0, 0, 0, 0⟩, ⟨0, 0, 0, 0, 0, 0, 0, 0, 0, 0, 0⟩, ⟨0, 0, 0, 0, 0, 0, 0, 0, 0, 0, 0⟩], F2 (F7 []) (F3 0 0 0 0 0 0 0) [⟨0, 0, 0, 0, 0, 0, 0, 0, 0, 0, 0⟩, ⟨0, 0, 0, 0, 0, 0, 0, 0, 0, 0, 0⟩, ⟨0, 0, 0, 0, 0, 0, 0, 0, 0, 0, 0⟩, ⟨0, 0, 0, 0, 0, 0, 0, 0, 0, 0, 0⟩]] [] ⟨0, 1, 0, n, 10 * n, n, 10 * n, 0⟩) :=
  T.by_go [.b (n < 1),
    .b (10 * n < 0),
    .b (n > 288230376151711744),
    .b (10 * n > 288230376151711744),
    .a (n ≥ -288230376151711744),
    .a (n ≤ 288230376151711744),
    .w (0 + n) (n),
    .a (10 * n ≥ -288230376151711744),
    .a (10 * n ≤ 288230376151711744),
    .w (0 + 10 * n) (10 * n),
    .w (n + 0) (n),
    .w (10 * n + 0) (10 * n),
    .w (10 * n - 0) (10 * n),
    .s (0 - 10 * n),
    .a (0 - 10 * n ≥ -288230376151711744),
    .a (0 - 10 * n ≤ 288230376151711744),
    .w (0 + (0 - 10 * n)) (0 - 10 * n),
    .a (10 * n ≠ 0),
    .a (0 - 10 * n ≠ 0),
    .b (10 * n = 0),
    .b (0 - 10 * n = 0),
    .w (10 * n + (0 - 10 * n)) (0)]
    39 (T.prs [0,3001,0,2,1,7003,4,5,6,4,5,2006,7,8,9,7,8,34009,4,5,6,4,5,2006,7,8,9,7,8,44009,4,5,6,4,5,2006,7,8,9,7,8,43009,4,5,6,4,5,4006,4,2005,10,4,5,7010,7,8,9,7,8,4009,7,2008,11,7,8,82011,1012,6013,7,10008,14,7015,7,8,9,7,8,24009,14,15,16,14,15,8016,6017,86018,7,4008,14,7015,7,8,9,7,8,9009,14,15,16,14,15,8016,6017,84018,7,8,5019,14,15,7020,7,8,9,7,8,4009,7,8,14,15,2021,12021,7,8,9,7,8,7009,14,15,16,14,15,45016,7,8,9,7,8,161009]) (t_law20_stocked_ok _ _ _ _)
    T.okS (by kernel_rfl)
end Go.Pv
