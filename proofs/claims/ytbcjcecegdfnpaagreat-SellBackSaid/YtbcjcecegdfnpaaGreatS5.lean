/- Runs with symbols. -/
import Derived.Test.YtbcjcecegdfnpaaGreatF5
set_option linter.unusedSimpArgs false
set_option linter.unusedVariables false
namespace Go.Pv
open Go.Proofs
set_option maxRecDepth 100000
set_option maxHeartbeats 4000000
def st50_tb (n : Int) (v : Int) : List (T.E An) :=
  [.b (n < 1),
    .b (v < 0),
    .b (n > 288230376151711744),
    .b (v > 288230376151711744),
    .a (n ≥ -288230376151711744),
    .a (n ≤ 288230376151711744),
    .w (0 + n) (n),
    .a (v ≥ -288230376151711744),
    .a (v ≤ 288230376151711744),
    .w (0 + v) (v),
    .w (n + 0) (n),
    .w (v + 0) (v),
    .w (v - 0) (v),
    .s (0 - v),
    .a (0 - v ≥ -288230376151711744),
    .a (0 - v ≤ 288230376151711744),
    .w (0 + (0 - v)) (0 - v)]
theorem st50_tk (n v : Int) (h1 : 1 ≤ n) (h2 : n ≤ 200) (h3 : 0 ≤ v) (h4 : v < 10000) : T.AllE (st50_tb n v) := by
  unfold st50_tb
  exact T.okS
theorem st50t (n v : Int) (h1 : 1 ≤ n) (h2 : n ≤ 200) (h3 : 0 ≤ v) (h4 : v < 10000) (f3 : (v : Int) ≠ 0) : d_law16_stocked 80 0 n (v) = some (F1 (F70 (F4 [⟨n, v, 0⟩] 0)) (F2 (v) (0 - v) 0 0 0) [F3 (v), F3 0, F3 0, F3 0] [] (F6 n (v) 0)) :=
  T.by_go (st50_tb n v ++ [.a (v ≠ 0),
    .a (0 - v ≠ 0),
    .b (v = 0),
    .b (0 - v = 0),
    .w (v + (0 - v)) (0)])
    35 (T.prs [0,3001,0,2,1,8003,4,5,6,4,5,3006,7,8,9,7,8,63009,4,5,6,4,5,3006,7,8,9,7,8,42009,4,5,6,4,5,4006,4,2005,10,4,5,7010,7,8,9,7,8,4009,7,2008,11,7,8,81011,1012,6013,7,10008,14,7015,7,8,9,7,8,24009,14,15,16,14,15,8016,6017,85018,7,4008,14,7015,7,8,9,7,8,9009,14,15,16,14,15,8016,6017,84018,7,8,5019,14,15,7020,7,8,9,7,8,4009,7,8,14,15,2021,12021,7,8,9,7,8,7009,14,15,16,14,15,42016,7,8,9,7,8,159009]) (t_law16_stocked_ok _ _ _ _)
    (T.okA (st50_tk n v h1 h2 h3 h4) T.okS) (by kernel_rfl)
theorem st50f (n v : Int) (h1 : 1 ≤ n) (h2 : n ≤ 200) (h3 : 0 ≤ v) (h4 : v < 10000) (f3 : ¬ (v : Int) ≠ 0) : d_law16_stocked 80 0 n (v) = some ⟨⟨2, 3, [1, 2, 3, 0], [[1, 2, 3, 4], [1, 2, 3, 4]], [[10, 10, 10, 10], [10, 10, 10, 10]]⟩, [⟨1, false, [⟨[⟨n, v, 0⟩], ⟨0, 0, 0⟩⟩, ⟨[], ⟨0, 0, 0⟩⟩, ⟨[], ⟨0, 0, 0⟩⟩, ⟨[], ⟨0, 0, 0⟩⟩, ⟨[], ⟨0, 0, 0⟩⟩, ⟨[], ⟨0, 0, 0⟩⟩, ⟨[], ⟨0, 0, 0⟩⟩, ⟨[], ⟨0, 0, 0⟩⟩], [0, 0, 0, 0, 0, 0, 0, 0, 0, 0, 0, 0, 0, 0, 0, 0, 0], [⟨0, v, 0, 0, 0, 0, 0, 0, 0, 0, 0⟩, ⟨0, 0, 0, 0, 0, 0, 0, 0, 0, 0, 0⟩, ⟨0, 0, 0, 0, 0, 0, 0, 0, 0, 0, 0⟩, ⟨0, 0, 0, 0, 0, 0, 0, 0, 0, 0, 0⟩], [-1, -1, -1, -1], [0, 0, 0, 0], []⟩, ⟨1, false, [⟨[], ⟨0, 0, 0⟩⟩, ⟨[], ⟨0, 0, 0⟩⟩, ⟨[], ⟨0, 0, 0⟩⟩, ⟨[], ⟨0, 0, 0⟩⟩, ⟨[], ⟨0, 0, 0⟩⟩, ⟨[], ⟨0, 0, 0⟩⟩, ⟨[], ⟨0, 0, 0⟩⟩, ⟨[], ⟨0, 0, 0⟩⟩], [0, 0, 0, 0, 0, 0, 0, 0, 0, 0, 0, 0, 0, 0, 0, 0, 0], [⟨0, 0, 0, 0, 0, 0, 0, 0, 0, 0, 0⟩, ⟨0, 0, 0, 0, 0, 0, 0, 0, 0, 0, 0⟩, ⟨0, 0, 0, 0, 0, 0, 0, 0, 0, 0, 0⟩, ⟨0, 0, 0, 0, 0, 0, 0, 0, 0, 0, 0⟩], [-1, -1, -1, -1], [0, 0, 0, 0], []⟩], [⟨0, 0, 0, n, v, n, v, 0⟩], [], [], 0⟩ :=
  T.by_go (st50_tb n v ++ [.b (v ≠ 0),
    .b (0 - v ≠ 0)])
    35 (T.prs [0,3001,0,2,1,8003,4,5,6,4,5,3006,7,8,9,7,8,63009,4,5,6,4,5,3006,7,8,9,7,8,42009,4,5,6,4,5,4006,4,2005,10,4,5,7010,7,8,9,7,8,4009,7,2008,11,7,8,81011,1012,6013,7,10008,14,7015,7,8,9,7,8,24009,14,15,16,14,15,8016,4017,210018,7,8,9,7,8,159009]) (t_law16_stocked_ok _ _ _ _)
    (T.okA (st50_tk n v h1 h2 h3 h4) T.okS) (by kernel_rfl)
theorem st50_r (n v : Int) (h1 : 1 ≤ n) (h2 : n ≤ 200) (h3 : 0 ≤ v) (h4 : v < 10000) : d_law16_stocked 80 0 n (v) = some (F1 (F70 (F4 [⟨n, v, 0⟩] 0)) (F2 (v) (0 - v) 0 0 0) [F3 (v), F3 0, F3 0, F3 0] [] (F6 n (v) 0)) := by
  by_cases f3 : (v : Int) ≠ 0
  · exact st50t n v h1 h2 h3 h4 f3
  · exact Eq.trans (st50f n v h1 h2 h3 h4 f3) (by unfold F1 F70 F4 F2 F3 F6; repeat' (first | rfl | omega | apply congr))
theorem se50_r (n v : Int) (h1 : 1 ≤ n) (h2 : n ≤ 200) (h3 : 0 ≤ v) (h4 : v < 10000) (B B' : List Int) (R R' : List GRoll) (rc : GReceipt) (hR : (R.length : Int) = 4) (et0 : d_fifo_Total 80 [⟨n, v, 0⟩] = some (⟨n, v, 0⟩, 0)) (em : d_money_Part 80 (v) n n = some (v)) (e0 : d_money_Part 80 0 n n = some 0) (ep : d_stock_Post 80 (F1 (F70 (F4 [] 0)) B R [] rc) 0 [⟨3, 7⟩, ⟨4, -7⟩, ⟨5, v⟩, ⟨0, 0 - v⟩] = some (F1 (F70 (F4 [] 0)) B' R [] rc, 0)) (et : d_stock_Turn (F1 (F70 (F4 [] 0)) B' R [] rc) 0 0 ⟨0, 0, 0, 0, 0, v, 0, 0, 0, 0, 0⟩ = some (F1 (F70 (F4 [] 0)) B' R' [] rc, 0)) : d_sell_Do 80 (F1 (F70 (F4 [⟨n, v, 0⟩] 0)) B R [] rc) ⟨4, 0, 0, 0, 0, n, 7, 0, []⟩ = some ((F1 (F70 (F4 [] 0)) B' R' [⟨0, 0, 0, n, 0, v, 0, 1, false⟩] rc, 0)) :=
  T.by_go [.a ((↑(List.length R) : Int) ≥ 4),
    .b (n < 1),
    .b ((0 : Int) > n),
    .b (n < n),
    .w (n - n) (0),
    .a (n > 0),
    .b (n > n),
    .w (0 + n) (n),
    .w (0 + v) (v),
    .s (0 - v),
    .o ((d_stock_Post 80 (F1 (F70 (F4 [] 0)) B R [] rc) 0
  [GLine.mk 3 7, GLine.mk 4 (-7), GLine.mk 5 v, GLine.mk 0 (0 - v)]).map .k8) (.k8 (F1 (F70 (F4 [] 0)) B' R [] rc, 0)),
    .o ((d_stock_Turn (F1 (F70 (F4 [] 0)) B' R [] rc) 0 0 (GRoll.mk 0 0 0 0 0 v 0 0 0 0 0)).map .k8) (.k8 (F1 (F70 (F4 [] 0)) B' R' [] rc, 0))]
    8 (T.prs [13000,15000,2001,2,3,2004,2005,2006,7,1008,8004,9,1010,4011]) (t_sell_Do_ok _ _ _)
    T.okS (by kernel_rfl)
def st51_tb (n : Int) (v : Int) : List (T.E An) :=
  [.b (n < 1),
    .b (v < 0),
    .b (n > 288230376151711744),
    .b (v > 288230376151711744),
    .a (n ≥ -288230376151711744),
    .a (n ≤ 288230376151711744),
    .w (0 + n) (n),
    .a (v ≥ -288230376151711744),
    .a (v ≤ 288230376151711744),
    .w (0 + v) (v),
    .w (n + 0) (n),
    .w (v + 0) (v),
    .w (v - 0) (v),
    .s (0 - v),
    .a (0 - v ≥ -288230376151711744),
    .a (0 - v ≤ 288230376151711744),
    .w (0 + (0 - v)) (0 - v)]
theorem st51_tk (n v : Int) (h1 : 1 ≤ n) (h2 : n ≤ 200) (h3 : 0 ≤ v) (h4 : v < 10000) : T.AllE (st51_tb n v) := by
  unfold st51_tb
  exact T.okS
theorem st51t (n v : Int) (h1 : 1 ≤ n) (h2 : n ≤ 200) (h3 : 0 ≤ v) (h4 : v < 10000) (f3 : (v : Int) ≠ 0) : d_law16_stocked 80 1 n (v) = some (F1 (F71 (F4 [⟨n, v, 0⟩] 0)) (F2 (v) (0 - v) 0 0 0) [F3 0, F3 (v), F3 0, F3 0] [] (F6 n (v) 1)) :=
  T.by_go (st51_tb n v ++ [.a (v ≠ 0),
    .a (0 - v ≠ 0),
    .b (v = 0),
    .b (0 - v = 0),
    .w (v + (0 - v)) (0)])
    34 (T.prs [0,4001,0,2,1,8003,4,5,6,4,5,3006,7,8,9,7,8,39009,4,5,6,4,5,3006,7,8,9,7,8,42009,4,5,6,4,5,3006,7,8,9,7,8,42009,4,5,6,4,5,4006,4,2005,10,4,5,7010,7,8,9,7,8,4009,7,2008,11,7,8,81011,1012,6013,7,10008,14,7015,7,8,9,7,8,24009,14,15,16,14,15,8016,6017,85018,7,4008,14,7015,7,8,9,7,8,9009,14,15,16,14,15,8016,6017,84018,7,8,5019,14,15,7020,7,8,9,7,8,4009,7,8,14,15,2021,12021,7,8,9,7,8,7009,14,15,16,14,15,42016,7,8,9,7,8,159009]) (t_law16_stocked_ok _ _ _ _)
    (T.okA (st51_tk n v h1 h2 h3 h4) T.okS) (by kernel_rfl)
theorem st51f (n v : Int) (h1 : 1 ≤ n) (h2 : n ≤ 200) (h3 : 0 ≤ v) (h4 : v < 10000) (f3 : ¬ (v : Int) ≠ 0) : d_law16_stocked 80 1 n (v) = some ⟨⟨2, 3, [1, 2, 3, 0], [[1, 2, 3, 4], [1, 2, 3, 4]], [[10, 10, 10, 10], [10, 10, 10, 10]]⟩, [⟨1, false, [⟨[], ⟨0, 0, 0⟩⟩, ⟨[], ⟨0, 0, 0⟩⟩, ⟨[⟨n, v, 0⟩], ⟨0, 0, 0⟩⟩, ⟨[], ⟨0, 0, 0⟩⟩, ⟨[], ⟨0, 0, 0⟩⟩, ⟨[], ⟨0, 0, 0⟩⟩, ⟨[], ⟨0, 0, 0⟩⟩, ⟨[], ⟨0, 0, 0⟩⟩], [0, 0, 0, 0, 0, 0, 0, 0, 0, 0, 0, 0, 0, 0, 0, 0, 0], [⟨0, 0, 0, 0, 0, 0, 0, 0, 0, 0, 0⟩, ⟨0, v, 0, 0, 0, 0, 0, 0, 0, 0, 0⟩, ⟨0, 0, 0, 0, 0, 0, 0, 0, 0, 0, 0⟩, ⟨0, 0, 0, 0, 0, 0, 0, 0, 0, 0, 0⟩], [-1, -1, -1, -1], [0, 0, 0, 0], []⟩, ⟨1, false, [⟨[], ⟨0, 0, 0⟩⟩, ⟨[], ⟨0, 0, 0⟩⟩, ⟨[], ⟨0, 0, 0⟩⟩, ⟨[], ⟨0, 0, 0⟩⟩, ⟨[], ⟨0, 0, 0⟩⟩, ⟨[], ⟨0, 0, 0⟩⟩, ⟨[], ⟨0, 0, 0⟩⟩, ⟨[], ⟨0, 0, 0⟩⟩], [0, 0, 0, 0, 0, 0, 0, 0, 0, 0, 0, 0, 0, 0, 0, 0, 0], [⟨0, 0, 0, 0, 0, 0, 0, 0, 0, 0, 0⟩, ⟨0, 0, 0, 0, 0, 0, 0, 0, 0, 0, 0⟩, ⟨0, 0, 0, 0, 0, 0, 0, 0, 0, 0, 0⟩, ⟨0, 0, 0, 0, 0, 0, 0, 0, 0, 0, 0⟩], [-1, -1, -1, -1], [0, 0, 0, 0], []⟩], [⟨0, 1, 0, n, v, n, v, 0⟩], [], [], 0⟩ :=
  T.by_go (st51_tb n v ++ [.b (v ≠ 0),
    .b (0 - v ≠ 0)])
    34 (T.prs [0,4001,0,2,1,8003,4,5,6,4,5,3006,7,8,9,7,8,39009,4,5,6,4,5,3006,7,8,9,7,8,42009,4,5,6,4,5,3006,7,8,9,7,8,42009,4,5,6,4,5,4006,4,2005,10,4,5,7010,7,8,9,7,8,4009,7,2008,11,7,8,81011,1012,6013,7,10008,14,7015,7,8,9,7,8,24009,14,15,16,14,15,8016,4017,210018,7,8,9,7,8,159009]) (t_law16_stocked_ok _ _ _ _)
    (T.okA (st51_tk n v h1 h2 h3 h4) T.okS) (by kernel_rfl)
theorem st51_r (n v : Int) (h1 : 1 ≤ n) (h2 : n ≤ 200) (h3 : 0 ≤ v) (h4 : v < 10000) : d_law16_stocked 80 1 n (v) = some (F1 (F71 (F4 [⟨n, v, 0⟩] 0)) (F2 (v) (0 - v) 0 0 0) [F3 0, F3 (v), F3 0, F3 0] [] (F6 n (v) 1)) := by
  by_cases f3 : (v : Int) ≠ 0
  · exact st51t n v h1 h2 h3 h4 f3
  · exact Eq.trans (st51f n v h1 h2 h3 h4 f3) (by unfold F1 F71 F4 F2 F3 F6; repeat' (first | rfl | omega | apply congr))
theorem se51_r (n v : Int) (h1 : 1 ≤ n) (h2 : n ≤ 200) (h3 : 0 ≤ v) (h4 : v < 10000) (B B' : List Int) (R R' : List GRoll) (rc : GReceipt) (hR : (R.length : Int) = 4) (et0 : d_fifo_Total 80 [⟨n, v, 0⟩] = some (⟨n, v, 0⟩, 0)) (em : d_money_Part 80 (v) n n = some (v)) (e0 : d_money_Part 80 0 n n = some 0) (ep : d_stock_Post 80 (F1 (F71 (F4 [] 0)) B R [] rc) 0 [⟨3, 7⟩, ⟨4, -7⟩, ⟨5, v⟩, ⟨0, 0 - v⟩] = some (F1 (F71 (F4 [] 0)) B' R [] rc, 0)) (et : d_stock_Turn (F1 (F71 (F4 [] 0)) B' R [] rc) 0 1 ⟨0, 0, 0, 0, 0, v, 0, 0, 0, 0, 0⟩ = some (F1 (F71 (F4 [] 0)) B' R' [] rc, 0)) : d_sell_Do 80 (F1 (F71 (F4 [⟨n, v, 0⟩] 0)) B R [] rc) ⟨4, 0, 1, 0, 0, n, 7, 0, []⟩ = some ((F1 (F71 (F4 [] 0)) B' R' [⟨0, 1, 0, n, 0, v, 0, 1, false⟩] rc, 0)) :=
  T.by_go [.a ((↑(List.length R) : Int) ≥ 4),
    .b (n < 1),
    .b ((0 : Int) > n),
    .b (n < n),
    .w (n - n) (0),
    .a (n > 0),
    .b (n > n),
    .w (0 + n) (n),
    .w (0 + v) (v),
    .s (0 - v),
    .o ((d_stock_Post 80 (F1 (F71 (F4 [] 0)) B R [] rc) 0
  [GLine.mk 3 7, GLine.mk 4 (-7), GLine.mk 5 v, GLine.mk 0 (0 - v)]).map .k8) (.k8 (F1 (F71 (F4 [] 0)) B' R [] rc, 0)),
    .o ((d_stock_Turn (F1 (F71 (F4 [] 0)) B' R [] rc) 0 1 (GRoll.mk 0 0 0 0 0 v 0 0 0 0 0)).map .k8) (.k8 (F1 (F71 (F4 [] 0)) B' R' [] rc, 0))]
    8 (T.prs [13000,16000,2001,2,3,2004,2005,2006,7,1008,8004,9,1010,4011]) (t_sell_Do_ok _ _ _)
    T.okS (by kernel_rfl)
def st52_tb (n : Int) (v : Int) : List (T.E An) :=
  [.b (n < 1),
    .b (v < 0),
    .b (n > 288230376151711744),
    .b (v > 288230376151711744),
    .a (n ≥ -288230376151711744),
    .a (n ≤ 288230376151711744),
    .w (0 + n) (n),
    .a (v ≥ -288230376151711744),
    .a (v ≤ 288230376151711744),
    .w (0 + v) (v),
    .w (n + 0) (n),
    .w (v + 0) (v),
    .w (v - 0) (v),
    .s (0 - v),
    .a (0 - v ≥ -288230376151711744),
    .a (0 - v ≤ 288230376151711744),
    .w (0 + (0 - v)) (0 - v)]
theorem st52_tk (n v : Int) (h1 : 1 ≤ n) (h2 : n ≤ 200) (h3 : 0 ≤ v) (h4 : v < 10000) : T.AllE (st52_tb n v) := by
  unfold st52_tb
  exact T.okS
theorem st52t (n v : Int) (h1 : 1 ≤ n) (h2 : n ≤ 200) (h3 : 0 ≤ v) (h4 : v < 10000) (f3 : (v : Int) ≠ 0) : d_law16_stocked 80 2 n (v) = some (F1 (F72 (F4 [⟨n, v, 0⟩] 0)) (F2 (v) (0 - v) 0 0 0) [F3 0, F3 0, F3 (v), F3 0] [] (F6 n (v) 2)) :=
  T.by_go (st52_tb n v ++ [.a (v ≠ 0),
    .a (0 - v ≠ 0),
    .b (v = 0),
    .b (0 - v = 0),
    .w (v + (0 - v)) (0)])
    35 (T.prs [0,4001,0,2,1,8003,4,5,6,4,5,3006,7,8,9,7,8,39009,4,5,6,4,5,3006,7,8,9,7,8,43009,4,5,6,4,5,3006,7,8,9,7,8,42009,4,5,6,4,5,4006,4,2005,10,4,5,7010,7,8,9,7,8,4009,7,2008,11,7,8,81011,1012,6013,7,10008,14,7015,7,8,9,7,8,24009,14,15,16,14,15,8016,6017,85018,7,4008,14,7015,7,8,9,7,8,9009,14,15,16,14,15,8016,6017,84018,7,8,5019,14,15,7020,7,8,9,7,8,4009,7,8,14,15,2021,12021,7,8,9,7,8,7009,14,15,16,14,15,42016,7,8,9,7,8,159009]) (t_law16_stocked_ok _ _ _ _)
    (T.okA (st52_tk n v h1 h2 h3 h4) T.okS) (by kernel_rfl)
theorem st52f (n v : Int) (h1 : 1 ≤ n) (h2 : n ≤ 200) (h3 : 0 ≤ v) (h4 : v < 10000) (f3 : ¬ (v : Int) ≠ 0) : d_law16_stocked 80 2 n (v) = some ⟨⟨2, 3, [1, 2, 3, 0], [[1, 2, 3, 4], [1, 2, 3, 4]], [[10, 10, 10, 10], [10, 10, 10, 10]]⟩, [⟨1, false, [⟨[], ⟨0, 0, 0⟩⟩, ⟨[], ⟨0, 0, 0⟩⟩, ⟨[], ⟨0, 0, 0⟩⟩, ⟨[], ⟨0, 0, 0⟩⟩, ⟨[⟨n, v, 0⟩], ⟨0, 0, 0⟩⟩, ⟨[], ⟨0, 0, 0⟩⟩, ⟨[], ⟨0, 0, 0⟩⟩, ⟨[], ⟨0, 0, 0⟩⟩], [0, 0, 0, 0, 0, 0, 0, 0, 0, 0, 0, 0, 0, 0, 0, 0, 0], [⟨0, 0, 0, 0, 0, 0, 0, 0, 0, 0, 0⟩, ⟨0, 0, 0, 0, 0, 0, 0, 0, 0, 0, 0⟩, ⟨0, v, 0, 0, 0, 0, 0, 0, 0, 0, 0⟩, ⟨0, 0, 0, 0, 0, 0, 0, 0, 0, 0, 0⟩], [-1, -1, -1, -1], [0, 0, 0, 0], []⟩, ⟨1, false, [⟨[], ⟨0, 0, 0⟩⟩, ⟨[], ⟨0, 0, 0⟩⟩, ⟨[], ⟨0, 0, 0⟩⟩, ⟨[], ⟨0, 0, 0⟩⟩, ⟨[], ⟨0, 0, 0⟩⟩, ⟨[], ⟨0, 0, 0⟩⟩, ⟨[], ⟨0, 0, 0⟩⟩, ⟨[], ⟨0, 0, 0⟩⟩], [0, 0, 0, 0, 0, 0, 0, 0, 0, 0, 0, 0, 0, 0, 0, 0, 0], [⟨0, 0, 0, 0, 0, 0, 0, 0, 0, 0, 0⟩, ⟨0, 0, 0, 0, 0, 0, 0, 0, 0, 0, 0⟩, ⟨0, 0, 0, 0, 0, 0, 0, 0, 0, 0, 0⟩, ⟨0, 0, 0, 0, 0, 0, 0, 0, 0, 0, 0⟩], [-1, -1, -1, -1], [0, 0, 0, 0], []⟩], [⟨0, 2, 0, n, v, n, v, 0⟩], [], [], 0⟩ :=
  T.by_go (st52_tb n v ++ [.b (v ≠ 0),
    .b (0 - v ≠ 0)])
    35 (T.prs [0,4001,0,2,1,8003,4,5,6,4,5,3006,7,8,9,7,8,39009,4,5,6,4,5,3006,7,8,9,7,8,43009,4,5,6,4,5,3006,7,8,9,7,8,42009,4,5,6,4,5,4006,4,2005,10,4,5,7010,7,8,9,7,8,4009,7,2008,11,7,8,81011,1012,6013,7,10008,14,7015,7,8,9,7,8,24009,14,15,16,14,15,8016,4017,210018,7,8,9,7,8,159009]) (t_law16_stocked_ok _ _ _ _)
    (T.okA (st52_tk n v h1 h2 h3 h4) T.okS) (by kernel_rfl)
theorem st52_r (n v : Int) (h1 : 1 ≤ n) (h2 : n ≤ 200) (h3 : 0 ≤ v) (h4 : v < 10000) : d_law16_stocked 80 2 n (v) = some (F1 (F72 (F4 [⟨n, v, 0⟩] 0)) (F2 (v) (0 - v) 0 0 0) [F3 0, F3 0, F3 (v), F3 0] [] (F6 n (v) 2)) := by
  by_cases f3 : (v : Int) ≠ 0
  · exact st52t n v h1 h2 h3 h4 f3
  · exact Eq.trans (st52f n v h1 h2 h3 h4 f3) (by unfold F1 F72 F4 F2 F3 F6; repeat' (first | rfl | omega | apply congr))
theorem se52_r (n v : Int) (h1 : 1 ≤ n) (h2 : n ≤ 200) (h3 : 0 ≤ v) (h4 : v < 10000) (B B' : List Int) (R R' : List GRoll) (rc : GReceipt) (hR : (R.length : Int) = 4) (et0 : d_fifo_Total 80 [⟨n, v, 0⟩] = some (⟨n, v, 0⟩, 0)) (em : d_money_Part 80 (v) n n = some (v)) (e0 : d_money_Part 80 0 n n = some 0) (ep : d_stock_Post 80 (F1 (F72 (F4 [⟨n, v, 0⟩] (n))) B R [] rc) 0 [⟨3, 7⟩, ⟨4, -7⟩, ⟨5, 0⟩, ⟨0, 0⟩] = some (F1 (F72 (F4 [⟨n, v, 0⟩] (n))) B' R [] rc, 0)) (et : d_stock_Turn (F1 (F72 (F4 [⟨n, v, 0⟩] (n))) B' R [] rc) 0 2 ⟨0, 0, 0, 0, 0, 0, 0, 0, 0, 0, 0⟩ = some (F1 (F72 (F4 [⟨n, v, 0⟩] (n))) B' R' [] rc, 0)) : d_sell_Do 80 (F1 (F72 (F4 [⟨n, v, 0⟩] 0)) B R [] rc) ⟨4, 0, 2, 0, 0, n, 7, 0, []⟩ = some ((F1 (F72 (F4 [⟨n, v, 0⟩] (n))) B' R' [⟨0, 2, 0, n, 0, 0, 0, 1, true⟩] rc, 0)) :=
  T.by_go [.a ((↑(List.length R) : Int) ≥ 4),
    .b (n < 1),
    .w (0 + n) (n),
    .w (n - 0) (n),
    .b (n > n),
    .o ((d_stock_Post 80 (F1 (F72 (F4 [GLayer.mk n v 0] n)) B R [] rc) 0
  [GLine.mk 3 7, GLine.mk 4 (-7), GLine.mk 5 0, GLine.mk 0 0]).map .k8) (.k8 (F1 (F72 (F4 [GLayer.mk n v 0] n)) B' R [] rc, 0)),
    .o ((d_stock_Turn (F1 (F72 (F4 [GLayer.mk n v 0] n)) B' R [] rc) 0 2
  (GRoll.mk 0 0 0 0 0 0 0 0 0 0 0)).map .k8) (.k8 (F1 (F72 (F4 [GLayer.mk n v 0] n)) B' R' [] rc, 0))]
    8 (T.prs [13000,20000,2001,4002,3003,3003,2003,1004,7002,1005,4006]) (t_sell_Do_ok _ _ _)
    T.okS (by kernel_rfl)
theorem st53_r (n : Int) (h1 : 1 ≤ n) (h2 : n ≤ 200) : d_law16_stocked 80 3 n (10 * n) = some (F1 (F73 (F4 [⟨n, 10 * n, 0⟩] 0)) (F2 (10 * n) (0 - 10 * n) 0 0 0) [F3 0, F3 0, F3 0, F3 (10 * n)] [] (F6 n (10 * n) 3)) :=
  T.by_go [.b (n < 1),
    .b (10 * n < 0),
    .o ((d_ref01_MulDiv 80 (n) (10) (1)).map .i) (.i (10 * n, 0, 0)),
    .b (10 * n > 288230376151711744),
    .b (n > 288230376151711744),
    .a (n ≥ -288230376151711744),
    .a (n ≤ 288230376151711744),
    .w (0 + n) (n),
    .a (10 * n ≥ -288230376151711744),
    .a (10 * n ≤ 288230376151711744),
    .w (0 + 10 * n) (10 * n),
    .w (10 * n - 10 * n) (0),
    .w (n + 0) (n),
    .w (10 * n + 0) (10 * n),
    .w (10 * n - 0) (10 * n),
    .s (0 - 10 * n),
    .a (0 - 10 * n ≥ -288230376151711744),
    .a (0 - 10 * n ≤ 288230376151711744),
    .w (0 + (0 - 10 * n)) (0 - 10 * n),
    .a (10 * n ≠ 0),
    .a (0 - 10 * n ≠ 0),
    .b (10 * n = 0),
    .b (0 - 10 * n = 0),
    .w (10 * n + (0 - 10 * n)) (0)]
    38 (T.prs [0,1,1002,3,0,4001,0,4,1,8003,5,6,7,5,6,3007,8,9,10,8,9,39010,5,6,7,5,6,3007,8,9,10,8,9,15010,28011,5,6,7,5,6,3007,8,9,10,8,9,42010,5,6,7,5,6,4007,5,2006,12,5,6,7012,8,9,10,8,9,4010,8,2009,13,8,9,81013,1014,6015,8,10009,16,7017,8,9,10,8,9,24010,16,17,18,16,17,8018,6019,85020,8,4009,16,7017,8,9,10,8,9,9010,16,17,18,16,17,8018,6019,84020,8,9,5021,16,17,7022,8,9,10,8,9,4010,8,9,16,17,2023,12023,8,9,10,8,9,7010,16,17,18,16,17,42018,8,9,10,8,9,159010]) (t_law16_stocked_ok _ _ _ _)
    T.okS (by kernel_rfl)
theorem se53_r (n : Int) (h1 : 1 ≤ n) (h2 : n ≤ 200) (B B' : List Int) (R R' : List GRoll) (rc : GReceipt) (hR : (R.length : Int) = 4) (et0 : d_fifo_Total 80 [⟨n, 10 * n, 0⟩] = some (⟨n, 10 * n, 0⟩, 0)) (em : d_money_Part 80 (10 * n) n n = some (10 * n)) (e0 : d_money_Part 80 0 n n = some 0) (ep : d_stock_Post 80 (F1 (F73 (F4 [] 0)) B R [] rc) 0 [⟨3, 7⟩, ⟨4, -7⟩, ⟨5, 10 * n⟩, ⟨0, 0 - 10 * n⟩] = some (F1 (F73 (F4 [] 0)) B' R [] rc, 0)) (et : d_stock_Turn (F1 (F73 (F4 [] 0)) B' R [] rc) 0 3 ⟨0, 0, 0, 0, 0, 10 * n, 0, 0, 0, 0, 0⟩ = some (F1 (F73 (F4 [] 0)) B' R' [] rc, 0)) : d_sell_Do 80 (F1 (F73 (F4 [⟨n, 10 * n, 0⟩] 0)) B R [] rc) ⟨4, 0, 3, 0, 0, n, 7, 0, []⟩ = some ((F1 (F73 (F4 [] 0)) B' R' [⟨0, 3, 0, n, 0, 10 * n, 0, 1, false⟩] rc, 0)) :=
  T.by_go [.a ((↑(List.length R) : Int) ≥ 4),
    .b (n < 1),
    .b ((0 : Int) > n),
    .b (n < n),
    .w (n - n) (0),
    .a (n > 0),
    .b (n > n),
    .w (0 + n) (n),
    .w (0 + 10 * n) (10 * n),
    .s (0 - 10 * n),
    .o ((d_stock_Post 80 (F1 (F73 (F4 [] 0)) B R [] rc) 0
  [GLine.mk 3 7, GLine.mk 4 (-7), GLine.mk 5 (10 * n), GLine.mk 0 (0 - 10 * n)]).map .k8) (.k8 (F1 (F73 (F4 [] 0)) B' R [] rc, 0)),
    .o ((d_stock_Turn (F1 (F73 (F4 [] 0)) B' R [] rc) 0 3 (GRoll.mk 0 0 0 0 0 (10 * n) 0 0 0 0 0)).map .k8) (.k8 (F1 (F73 (F4 [] 0)) B' R' [] rc, 0))]
    8 (T.prs [13000,20000,2001,2,3,2004,2005,2006,7,1008,10004,9,1010,4011]) (t_sell_Do_ok _ _ _)
    T.okS (by kernel_rfl)
def poS_tb (m : Nat) (P : List GPool) (R : List GRoll) (S : List GSale) (rc : GReceipt) (v : Int) : List (T.E An) :=
  [.a (v ≥ -288230376151711744),
    .a (v ≤ 288230376151711744),
    .a (0 - v ≥ -288230376151711744),
    .a (0 - v ≤ 288230376151711744)]
theorem poS_tk (m : Nat) (P : List GPool) (R : List GRoll) (S : List GSale) (rc : GReceipt) (v : Int) (h3 : 0 ≤ v) (h4 : v < 10000) : T.AllE (poS_tb m P R S rc v) := by
  unfold poS_tb
  exact T.okS
theorem poSt (m : Nat) (P : List GPool) (R : List GRoll) (S : List GSale) (rc : GReceipt) (v : Int) (h3 : 0 ≤ v) (h4 : v < 10000) (f3 : (0 - v : Int) = 0) : d_stock_Post (m + 40) (F1 P (F2 v (0 - v) 0 0 0) R S rc) 0 [⟨3, 7⟩, ⟨4, -7⟩, ⟨5, v⟩, ⟨0, 0 - v⟩] = some (⟨⟨2, 3, [1, 2, 3, 0], [[1, 2, 3, 4], [1, 2, 3, 4]], [[10, 10, 10, 10], [10, 10, 10, 10]]⟩, [⟨1, false, P, [v, 0 - v, 0, 7, -7, 0, 0, 0, 0, 0, 0, 0, 0, 0, 0, 0, 0], R, [-1, -1, -1, -1], [0, 0, 0, 0], []⟩, ⟨1, false, [⟨[], ⟨0, 0, 0⟩⟩, ⟨[], ⟨0, 0, 0⟩⟩, ⟨[], ⟨0, 0, 0⟩⟩, ⟨[], ⟨0, 0, 0⟩⟩, ⟨[], ⟨0, 0, 0⟩⟩, ⟨[], ⟨0, 0, 0⟩⟩, ⟨[], ⟨0, 0, 0⟩⟩, ⟨[], ⟨0, 0, 0⟩⟩], [0, 0, 0, 0, 0, 0, 0, 0, 0, 0, 0, 0, 0, 0, 0, 0, 0], [⟨0, 0, 0, 0, 0, 0, 0, 0, 0, 0, 0⟩, ⟨0, 0, 0, 0, 0, 0, 0, 0, 0, 0, 0⟩, ⟨0, 0, 0, 0, 0, 0, 0, 0, 0, 0, 0⟩, ⟨0, 0, 0, 0, 0, 0, 0, 0, 0, 0, 0⟩], [-1, -1, -1, -1], [0, 0, 0, 0], []⟩], [rc], S, [], 0⟩, 0) :=
  T.by_go (poS_tb m P R S rc v ++ [.a (0 - v = 0),
    .a (v = 0)])
    17 (T.prs [0,4001,2,84003,11004,143005]) (x_stock_Post_ok _ _ _ _)
    (T.okA (poS_tk m P R S rc v h3 h4) T.okS) (by kernel_rfl)
theorem poSf (m : Nat) (P : List GPool) (R : List GRoll) (S : List GSale) (rc : GReceipt) (v : Int) (h3 : 0 ≤ v) (h4 : v < 10000) (f3 : ¬ (0 - v : Int) = 0) : d_stock_Post (m + 40) (F1 P (F2 v (0 - v) 0 0 0) R S rc) 0 [⟨3, 7⟩, ⟨4, -7⟩, ⟨5, v⟩, ⟨0, 0 - v⟩] = some ((F1 P (F2 0 (0 - v) 7 (-7) v) R S rc, 0)) :=
  T.by_go (poS_tb m P R S rc v ++ [.b (0 - v = 0),
    .b (v = 0),
    .w (0 + (0 - v)) (0 - v),
    .w (0 - v + 7) (7 - v),
    .a (7 - v ≥ -288230376151711744),
    .a (7 - v ≤ 288230376151711744),
    .w (7 - v + -7) (0 - v),
    .w (0 - v + v) (0),
    .w (v + (0 - v)) (0),
    .w (0 + v) (v)])
    17 (T.prs [0,4001,2,84003,8004,10005,2,16003,0,63001,8004,25005,2,3,6,2,3,4006,2,2003,7,8,9,4007,8,2009,10,2,3,4010,2,3,0,1,2011,6011,4,2,18003,5,0,7001,0,1,2,3,2012,30012,0,1,13,0,1,7013]) (x_stock_Post_ok _ _ _ _)
    (T.okA (poS_tk m P R S rc v h3 h4) T.okS) (by kernel_rfl)
theorem poS_r (m : Nat) (P : List GPool) (R : List GRoll) (S : List GSale) (rc : GReceipt) (v : Int) (h3 : 0 ≤ v) (h4 : v < 10000) : d_stock_Post (m + 40) (F1 P (F2 v (0 - v) 0 0 0) R S rc) 0 [⟨3, 7⟩, ⟨4, -7⟩, ⟨5, v⟩, ⟨0, 0 - v⟩] = some ((F1 P (F2 0 (0 - v) 7 (-7) v) R S rc, 0)) := by
  by_cases f3 : (0 - v : Int) = 0
  · exact Eq.trans (poSt m P R S rc v h3 h4 f3) (by unfold F1 F2; repeat' (first | rfl | omega | apply congr))
  · exact poSf m P R S rc v h3 h4 f3
theorem poW_r (m : Nat) (P : List GPool) (R : List GRoll) (S : List GSale) (rc : GReceipt) (v : Int) (h3 : 0 ≤ v) (h4 : v < 10000) : d_stock_Post (m + 40) (F1 P (F2 v (0 - v) 0 0 0) R S rc) 0 [⟨3, 7⟩, ⟨4, -7⟩, ⟨5, 0⟩, ⟨0, 0⟩] = some ((F1 P (F2 v (0 - v) 7 (-7) 0) R S rc, 0)) :=
  T.by_go []
    265 (T.prs []) (x_stock_Post_ok _ _ _ _)
    T.okS (by kernel_rfl)
def poB_tb (m : Nat) (P : List GPool) (R : List GRoll) (S : List GSale) (rc : GReceipt) (w : Int) (v : Int) (a : Int) (d : Int) (b : Int) : List (T.E An) :=
  [.a (d ≥ -288230376151711744),
    .a (d ≤ 288230376151711744),
    .a (0 - d ≥ -288230376151711744),
    .a (0 - d ≤ 288230376151711744),
    .a (7 - b ≥ -288230376151711744),
    .a (7 - b ≤ 288230376151711744),
    .w (7 - b + -3) (4 - b),
    .a (4 - b ≥ -288230376151711744),
    .a (4 - b ≤ 288230376151711744),
    .a (b - 7 ≥ -288230376151711744),
    .a (b - 7 ≤ 288230376151711744),
    .w (b - 7 + 3) (b - 4),
    .a (b - 4 ≥ -288230376151711744),
    .a (b - 4 ≤ 288230376151711744)]
theorem poB_tk (m : Nat) (P : List GPool) (R : List GRoll) (S : List GSale) (rc : GReceipt) (w v a d b : Int) (h3 : 0 ≤ v) (h4 : v < 10000) (h5 : 0 ≤ w) (h6 : w < 10000) (h7 : 0 ≤ d) (h8 : d ≤ a) (h9 : a < 10000) (h10 : 0 ≤ b) (h11 : b ≤ 100) : T.AllE (poB_tb m P R S rc w v a d b) := by
  unfold poB_tb
  exact T.okS
theorem poBt (m : Nat) (P : List GPool) (R : List GRoll) (S : List GSale) (rc : GReceipt) (w v a d b : Int) (h3 : 0 ≤ v) (h4 : v < 10000) (h5 : 0 ≤ w) (h6 : w < 10000) (h7 : 0 ≤ d) (h8 : d ≤ a) (h9 : a < 10000) (h10 : 0 ≤ b) (h11 : b ≤ 100) (f3 : (d : Int) = 0) : d_stock_Post (m + 40) (F1 P (F2 w (0 - v) (7 - b) (b - 7) a) R S rc) 0 [⟨0, d⟩, ⟨6, 0⟩, ⟨5, 0 - d⟩, ⟨4, 3⟩, ⟨3, -3⟩] = some (⟨⟨2, 3, [1, 2, 3, 0], [[1, 2, 3, 4], [1, 2, 3, 4]], [[10, 10, 10, 10], [10, 10, 10, 10]]⟩, [⟨1, false, P, [w, 0 - v, 0, 4 - b, b - 4, a, 0, 0, 0, 0, 0, 0, 0, 0, 0, 0, 0], R, [-1, -1, -1, -1], [0, 0, 0, 0], []⟩, ⟨1, false, [⟨[], ⟨0, 0, 0⟩⟩, ⟨[], ⟨0, 0, 0⟩⟩, ⟨[], ⟨0, 0, 0⟩⟩, ⟨[], ⟨0, 0, 0⟩⟩, ⟨[], ⟨0, 0, 0⟩⟩, ⟨[], ⟨0, 0, 0⟩⟩, ⟨[], ⟨0, 0, 0⟩⟩, ⟨[], ⟨0, 0, 0⟩⟩], [0, 0, 0, 0, 0, 0, 0, 0, 0, 0, 0, 0, 0, 0, 0, 0, 0], [⟨0, 0, 0, 0, 0, 0, 0, 0, 0, 0, 0⟩, ⟨0, 0, 0, 0, 0, 0, 0, 0, 0, 0, 0⟩, ⟨0, 0, 0, 0, 0, 0, 0, 0, 0, 0, 0⟩, ⟨0, 0, 0, 0, 0, 0, 0, 0, 0, 0, 0⟩], [-1, -1, -1, -1], [0, 0, 0, 0], []⟩], [rc], S, [], 0⟩, 0) :=
  T.by_go (poB_tb m P R S rc w v a d b ++ [.a (d = 0),
    .a (0 - d = 0)])
    5 (T.prs [0,10001,2,144003,11014,119015,4,2005,6,7,8,4006,9,2010,11,12,13,7011]) (x_stock_Post_ok _ _ _ _)
    (T.okA (poB_tk m P R S rc w v a d b h3 h4 h5 h6 h7 h8 h9 h10 h11) T.okS) (by kernel_rfl)
theorem poBf (m : Nat) (P : List GPool) (R : List GRoll) (S : List GSale) (rc : GReceipt) (w v a d b : Int) (h3 : 0 ≤ v) (h4 : v < 10000) (h5 : 0 ≤ w) (h6 : w < 10000) (h7 : 0 ≤ d) (h8 : d ≤ a) (h9 : a < 10000) (h10 : 0 ≤ b) (h11 : b ≤ 100) (f3 : ¬ (d : Int) = 0) : d_stock_Post (m + 40) (F1 P (F2 w (0 - v) (7 - b) (b - 7) a) R S rc) 0 [⟨0, d⟩, ⟨6, 0⟩, ⟨5, 0 - d⟩, ⟨4, 3⟩, ⟨3, -3⟩] = some ((F1 P (F2 (w + d) (0 - v) (4 - b) (b - 4) (a - d)) R S rc, 0)) :=
  T.by_go (poB_tb m P R S rc w v a d b ++ [.b (d = 0),
    .b (0 - d = 0),
    .w (0 + d) (d),
    .w (d + -3) (d - 3),
    .a (d - 3 ≥ -288230376151711744),
    .a (d - 3 ≤ 288230376151711744),
    .w (d - 3 + 3) (d),
    .w (d + (0 - d)) (0),
    .a (w ≥ -288230376151711744),
    .a (w ≤ 288230376151711744),
    .s (w + d),
    .a (w + d ≥ -288230376151711744),
    .a (w + d ≤ 288230376151711744),
    .a (a ≥ -288230376151711744),
    .a (a ≤ 288230376151711744),
    .w (a + (0 - d)) (a - d),
    .a (a - d ≥ -288230376151711744),
    .a (a - d ≤ 288230376151711744)])
    5 (T.prs [0,10001,2,144003,8014,15015,0,16001,2,63003,8014,25015,0,1,16,0,1,4016,0,2001,17,18,19,4017,18,2019,20,0,1,4020,0,1,2,3,2021,6021,14,0,18001,15,2,7003,22,23,0,1,24,25,26,4024,4,2005,6,7,8,4006,9,2010,11,12,13,4011,27,28,2,3,29,30,31,7029]) (x_stock_Post_ok _ _ _ _)
    (T.okA (poB_tk m P R S rc w v a d b h3 h4 h5 h6 h7 h8 h9 h10 h11) T.okS) (by kernel_rfl)
theorem poB_r (m : Nat) (P : List GPool) (R : List GRoll) (S : List GSale) (rc : GReceipt) (w v a d b : Int) (h3 : 0 ≤ v) (h4 : v < 10000) (h5 : 0 ≤ w) (h6 : w < 10000) (h7 : 0 ≤ d) (h8 : d ≤ a) (h9 : a < 10000) (h10 : 0 ≤ b) (h11 : b ≤ 100) : d_stock_Post (m + 40) (F1 P (F2 w (0 - v) (7 - b) (b - 7) a) R S rc) 0 [⟨0, d⟩, ⟨6, 0⟩, ⟨5, 0 - d⟩, ⟨4, 3⟩, ⟨3, -3⟩] = some ((F1 P (F2 (w + d) (0 - v) (4 - b) (b - 4) (a - d)) R S rc, 0)) := by
  by_cases f3 : (d : Int) = 0
  · exact Eq.trans (poBt m P R S rc w v a d b h3 h4 h5 h6 h7 h8 h9 h10 h11 f3) (by unfold F1 F2; repeat' (first | rfl | omega | apply congr))
  · exact poBf m P R S rc w v a d b h3 h4 h5 h6 h7 h8 h9 h10 h11 f3
theorem poU_r (m : Nat) (P : List GPool) (R : List GRoll) (S : List GSale) (rc : GReceipt) (v b : Int) (h3 : 0 ≤ v) (h4 : v < 10000) (h10 : 0 ≤ b) (h11 : b ≤ 100) : d_stock_Post (m + 40) (F1 P (F2 v (0 - v) (7 - b) (b - 7) 0) R S rc) 0 [⟨4, 3⟩, ⟨3, -3⟩] = some ((F1 P (F2 v (0 - v) (4 - b) (b - 4) 0) R S rc, 0)) :=
  T.by_go [.a (7 - b ≥ -288230376151711744),
    .a (7 - b ≤ 288230376151711744),
    .w (7 - b + -3) (4 - b),
    .a (4 - b ≥ -288230376151711744),
    .a (4 - b ≤ 288230376151711744),
    .a (b - 7 ≥ -288230376151711744),
    .a (b - 7 ≤ 288230376151711744),
    .w (b - 7 + 3) (b - 4),
    .a (b - 4 ≥ -288230376151711744),
    .a (b - 4 ≤ 288230376151711744)]
    168 (T.prs [0,2001,2,3,4,4002,5,2006,7,8,9,7007]) (x_stock_Post_ok _ _ _ _)
    T.okS (by kernel_rfl)
theorem tuS_r (P : List GPool) (B : List Int) (R : List GRoll) (S : List GSale) (rc : GReceipt) (i v x s d e : Int) (hP : (P.length : Int) = 8) (hR : (R.length : Int) = 4) (h0 : 0 ≤ i) (h1 : i < 4) (hr : ix R i = some ⟨0, v, 0, 0, x, s, 0, 0, 0, 0, 0⟩) (h3 : 0 ≤ v) (h4 : v < 10000) (h5 : 0 ≤ x) (h6 : x < 10000) (h7 : 0 ≤ s) (h8 : s < 10000) (h9 : 0 ≤ d) (h10 : d < 10000) (h11 : 0 ≤ e) (h12 : e < 10000) : d_stock_Turn (F1 P B R S rc) 0 i ⟨0, 0, 0, 0, d, e, 0, 0, 0, 0, 0⟩ = some ((F1 P B (List.set R (Int.toNat i) ⟨0, v, 0, 0, x + d, s + e, 0, 0, 0, 0, 0⟩) S rc, 0)) :=
  T.by_go [.b (i < 0),
    .b (i ≥ 4),
    .a ((↑(List.length P) : Int) ≥ 8),
    .a ((↑(List.length R) : Int) ≥ 4),
    .o ((ix R i).map .k3) (.k3 (GRoll.mk 0 v 0 0 x s 0 0 0 0 0)),
    .a (v ≥ -288230376151711744),
    .a (v ≤ 288230376151711744),
    .w (v + 0) (v),
    .a (x ≥ -288230376151711744),
    .a (x ≤ 288230376151711744),
    .a (d ≥ -288230376151711744),
    .a (d ≤ 288230376151711744),
    .s (x + d),
    .a (x + d ≥ -288230376151711744),
    .a (x + d ≤ 288230376151711744),
    .a (s ≥ -288230376151711744),
    .a (s ≤ 288230376151711744),
    .a (e ≥ -288230376151711744),
    .a (e ≤ 288230376151711744),
    .s (s + e),
    .a (s + e ≥ -288230376151711744),
    .a (s + e ≤ 288230376151711744),
    .a (List.length R ≤ 68719476736)]
    2 (T.prs [0,1001,2,4003,11004,5,2006,7,5,6,22007,8,9,10,11,12,13,14,2012,15,16,17,18,19,20,21,52019,22,4]) (x_stock_Turn_ok _ _ _ _)
    T.okS (by kernel_rfl)
theorem itA (l : List Int) (m : Nat) (P P' : List GPool) (B B' : List Int) (R R' : List GRoll) (rc : GReceipt) (i n o a b j k d : Int) (hP : (P.length : Int) = 8) (hR : (R.length : Int) = 4) (h0 : 0 ≤ i) (h1 : i < 4) (h2 : 1 ≤ n) (h3 : n ≤ 200) (h4 : 1 ≤ k) (h5 : k ≤ o) (h6 : o ≤ n) (h7 : 0 ≤ d) (h8 : d ≤ a) (h9 : a < 10000) (h10 : 0 ≤ j) (h11 : j < 12) (h12 : 0 ≤ b) (h13 : b ≤ 100) (em : d_money_Part (m + 40) a k o = some d) (ez : d_money_Part (m + 40) 0 k o = some 0) (y : Int) (hl : j < (l.length : Int)) (hj : j < 11) (hy : ix l j = some y) (e2 : d_law00_Place y o = some (k - 1)) (eb : d_stock_Bring (m + 40) (F1 P B R [⟨0, i, 0, n, n - o, a, 0, 1, false⟩] rc) 0 i 0 ⟨k, d, 0⟩ = some (F1 P' B R [⟨0, i, 0, n, n - o, a, 0, 1, false⟩] rc, d, 0, 0)) (ep : d_stock_Post (m + 40) (F1 P' B R [⟨0, i, 0, n, n - o, a, 0, 1, false⟩] rc) 0 [⟨0, d⟩, ⟨6, 0⟩, ⟨5, 0 - d⟩, ⟨4, 3⟩, ⟨3, -3⟩] = some (F1 P' B' R [⟨0, i, 0, n, n - o, a, 0, 1, false⟩] rc, 0)) (et : d_stock_Turn (F1 P' B' R [⟨0, i, 0, n, n - o, a, 0, 1, false⟩] rc) 0 i ⟨0, 0, 0, 0, d, 0, 0, 0, 0, 0, 0⟩ = some (F1 P' B' R' [⟨0, i, 0, n, n - o, a, 0, 1, false⟩] rc, 0)) : d_law16_SellBack_L0 l (m + 41) o b j (F1 P B R [⟨0, i, 0, n, n - o, a, 0, 1, false⟩] rc) = d_law16_SellBack_L0 l (m + 40) (o - k) (b + 3) (j + 1) ⟨⟨2, 3, [1, 2, 3, 0], [[1, 2, 3, 4], [1, 2, 3, 4]], [[10, 10, 10, 10], [10, 10, 10, 10]]⟩, [⟨1, false, P', B', R', [-1, -1, -1, -1], [0, 0, 0, 0], []⟩, ⟨1, false, [⟨[], ⟨0, 0, 0⟩⟩, ⟨[], ⟨0, 0, 0⟩⟩, ⟨[], ⟨0, 0, 0⟩⟩, ⟨[], ⟨0, 0, 0⟩⟩, ⟨[], ⟨0, 0, 0⟩⟩, ⟨[], ⟨0, 0, 0⟩⟩, ⟨[], ⟨0, 0, 0⟩⟩, ⟨[], ⟨0, 0, 0⟩⟩], [0, 0, 0, 0, 0, 0, 0, 0, 0, 0, 0, 0, 0, 0, 0, 0, 0], [⟨0, 0, 0, 0, 0, 0, 0, 0, 0, 0, 0⟩, ⟨0, 0, 0, 0, 0, 0, 0, 0, 0, 0, 0⟩, ⟨0, 0, 0, 0, 0, 0, 0, 0, 0, 0, 0⟩, ⟨0, 0, 0, 0, 0, 0, 0, 0, 0, 0, 0⟩], [-1, -1, -1, -1], [0, 0, 0, 0], []⟩], [rc], [⟨0, i, 0, n, n + k - o, a - d, 0, 1, false⟩], [], 0⟩ :=
  T.by_gor [.a (o > 0),
    .a (j < 12),
    .a (j < ↑(List.length l)),
    .a (j < 11),
    .o ((ix l j).map .z) (.z (y)),
    .o ((d_law00_Place y o).map .z) (.z (k - 1)),
    .w (1 + (k - 1)) (k),
    .b (i < 0),
    .b (i ≥ 4),
    .a ((↑(List.length P) : Int) ≥ 8),
    .a ((↑(List.length R) : Int) ≥ 4),
    .w (n - (n - o)) (o),
    .b (k > o),
    .o ((d_money_Part (m + 40) a k o).map .z) (.z (d)),
    .o ((d_money_Part (m + 40) 0 k o).map .z) (.z (0)),
    .o ((d_stock_Bring (m + 40) (F1 P B R [GSale.mk 0 i 0 n (n - o) a 0 1 Bool.false] rc) 0 i 0
  (GLayer.mk k d 0)).map .k7) (.k7 (F1 P' B R [GSale.mk 0 i 0 n (n - o) a 0 1 Bool.false] rc, d, 0, 0)),
    .s (0 - d),
    .o ((d_stock_Post (m + 40) (F1 P' B R [GSale.mk 0 i 0 n (n - o) a 0 1 Bool.false] rc) 0
  [GLine.mk 0 d, GLine.mk 6 0, GLine.mk 5 (0 - d), GLine.mk 4 3, GLine.mk 3 (-3)]).map .k8) (.k8 (F1 P' B' R [GSale.mk 0 i 0 n (n - o) a 0 1 Bool.false] rc, 0)),
    .o ((d_stock_Turn (F1 P' B' R [GSale.mk 0 i 0 n (n - o) a 0 1 Bool.false] rc) 0 i
  (GRoll.mk 0 0 0 0 d 0 0 0 0 0 0)).map .k8) (.k8 (F1 P' B' R' [GSale.mk 0 i 0 n (n - o) a 0 1 Bool.false] rc, 0)),
    .s (a - d),
    .w (n - o + k) (n + k - o),
    .s (o + 1),
    .a (o + 1 > o),
    .s (o - k),
    .s (b + 3),
    .s (j + 1)]
    0 (T.prs [0,1,2,3,4,5,5006,7,1008,9,6010,11,12,11,13,11,14,1015,1016,1017,2018,1019,1020,5021,7,1008,9,6010,11,3022,23,24,25]) (t_law16_SellBack_L0_ok _ _ _ _ _ _) (t_law16_SellBack_L0_ok _ _ _ _ _ _)
    T.okS (by kernel_rfl)
theorem itA_r (l : List Int) (m : Nat) (P P' : List GPool) (B B' : List Int) (R R' : List GRoll) (rc : GReceipt) (i n o a b j k d : Int) (hP : (P.length : Int) = 8) (hR : (R.length : Int) = 4) (h0 : 0 ≤ i) (h1 : i < 4) (h2 : 1 ≤ n) (h3 : n ≤ 200) (h4 : 1 ≤ k) (h5 : k ≤ o) (h6 : o ≤ n) (h7 : 0 ≤ d) (h8 : d ≤ a) (h9 : a < 10000) (h10 : 0 ≤ j) (h11 : j < 12) (h12 : 0 ≤ b) (h13 : b ≤ 100) (em : d_money_Part (m + 40) a k o = some d) (ez : d_money_Part (m + 40) 0 k o = some 0) (y : Int) (hl : j < (l.length : Int)) (hj : j < 11) (hy : ix l j = some y) (e2 : d_law00_Place y o = some (k - 1)) (eb : d_stock_Bring (m + 40) (F1 P B R [⟨0, i, 0, n, n - o, a, 0, 1, false⟩] rc) 0 i 0 ⟨k, d, 0⟩ = some (F1 P' B R [⟨0, i, 0, n, n - o, a, 0, 1, false⟩] rc, d, 0, 0)) (ep : d_stock_Post (m + 40) (F1 P' B R [⟨0, i, 0, n, n - o, a, 0, 1, false⟩] rc) 0 [⟨0, d⟩, ⟨6, 0⟩, ⟨5, 0 - d⟩, ⟨4, 3⟩, ⟨3, -3⟩] = some (F1 P' B' R [⟨0, i, 0, n, n - o, a, 0, 1, false⟩] rc, 0)) (et : d_stock_Turn (F1 P' B' R [⟨0, i, 0, n, n - o, a, 0, 1, false⟩] rc) 0 i ⟨0, 0, 0, 0, d, 0, 0, 0, 0, 0, 0⟩ = some (F1 P' B' R' [⟨0, i, 0, n, n - o, a, 0, 1, false⟩] rc, 0)) : d_law16_SellBack_L0 l (m + 41) o b j (F1 P B R [⟨0, i, 0, n, n - o, a, 0, 1, false⟩] rc) = d_law16_SellBack_L0 l (m + 40) (o - k) (b + 3) (j + 1) (F1 P' B' R' [⟨0, i, 0, n, n - o + k, a - d, 0, 1, false⟩] rc) := by
  exact Eq.trans (itA l m P P' B B' R R' rc i n o a b j k d hP hR h0 h1 h2 h3 h4 h5 h6 h7 h8 h9 h10 h11 h12 h13 em ez y hl hj hy e2 eb ep et) (by unfold F1; repeat' (first | rfl | omega | apply congr))
def itB_tb (l : List Int) (m : Nat) (P : List GPool) (P' : List GPool) (B : List Int) (B' : List Int) (R : List GRoll) (R' : List GRoll) (rc : GReceipt) (i : Int) (n : Int) (o : Int) (a : Int) (b : Int) (j : Int) (d : Int) : List (T.E An) :=
  [.a (o > 0),
    .a (j < 12),
    .b (i < 0),
    .b (i ≥ 4),
    .a ((↑(List.length P) : Int) ≥ 8),
    .a ((↑(List.length R) : Int) ≥ 4),
    .w (n - (n - o)) (o),
    .b (o > o),
    .o ((d_money_Part (m + 40) a o o).map .z) (.z (d)),
    .o ((d_money_Part (m + 40) 0 o o).map .z) (.z (0)),
    .o ((d_stock_Bring (m + 40) (F1 P B R [GSale.mk 0 i 0 n (n - o) a 0 1 Bool.false] rc) 0 i 0
  (GLayer.mk o d 0)).map .k7) (.k7 (F1 P' B R [GSale.mk 0 i 0 n (n - o) a 0 1 Bool.false] rc, d, 0, 0)),
    .s (0 - d),
    .o ((d_stock_Post (m + 40) (F1 P' B R [GSale.mk 0 i 0 n (n - o) a 0 1 Bool.false] rc) 0
  [GLine.mk 0 d, GLine.mk 6 0, GLine.mk 5 (0 - d), GLine.mk 4 3, GLine.mk 3 (-3)]).map .k8) (.k8 (F1 P' B' R [GSale.mk 0 i 0 n (n - o) a 0 1 Bool.false] rc, 0)),
    .o ((d_stock_Turn (F1 P' B' R [GSale.mk 0 i 0 n (n - o) a 0 1 Bool.false] rc) 0 i
  (GRoll.mk 0 0 0 0 d 0 0 0 0 0 0)).map .k8) (.k8 (F1 P' B' R' [GSale.mk 0 i 0 n (n - o) a 0 1 Bool.false] rc, 0)),
    .s (a - d),
    .w (n - o + o) (n),
    .s (o + 1),
    .a (o + 1 > o),
    .w (o - o) (0),
    .s (b + 3),
    .s (j + 1)]
theorem itB_tk (l : List Int) (m : Nat) (P P' : List GPool) (B B' : List Int) (R R' : List GRoll) (rc : GReceipt) (i n o a b j d : Int) (hP : (P.length : Int) = 8) (hR : (R.length : Int) = 4) (h0 : 0 ≤ i) (h1 : i < 4) (h2 : 1 ≤ n) (h3 : n ≤ 200) (h4 : 1 ≤ o) (h6 : o ≤ n) (h7 : 0 ≤ d) (h8 : d ≤ a) (h9 : a < 10000) (h10 : 0 ≤ j) (h11 : j < 12) (h12 : 0 ≤ b) (h13 : b ≤ 100) (em : d_money_Part (m + 40) a o o = some d) (ez : d_money_Part (m + 40) 0 o o = some 0) (hl : ¬ j < (l.length : Int) ∨ ¬ j < 11) (eb : d_stock_Bring (m + 40) (F1 P B R [⟨0, i, 0, n, n - o, a, 0, 1, false⟩] rc) 0 i 0 ⟨o, d, 0⟩ = some (F1 P' B R [⟨0, i, 0, n, n - o, a, 0, 1, false⟩] rc, d, 0, 0)) (ep : d_stock_Post (m + 40) (F1 P' B R [⟨0, i, 0, n, n - o, a, 0, 1, false⟩] rc) 0 [⟨0, d⟩, ⟨6, 0⟩, ⟨5, 0 - d⟩, ⟨4, 3⟩, ⟨3, -3⟩] = some (F1 P' B' R [⟨0, i, 0, n, n - o, a, 0, 1, false⟩] rc, 0)) (et : d_stock_Turn (F1 P' B' R [⟨0, i, 0, n, n - o, a, 0, 1, false⟩] rc) 0 i ⟨0, 0, 0, 0, d, 0, 0, 0, 0, 0, 0⟩ = some (F1 P' B' R' [⟨0, i, 0, n, n - o, a, 0, 1, false⟩] rc, 0)) : T.AllE (itB_tb l m P P' B B' R R' rc i n o a b j d) := by
  unfold itB_tb
  exact T.okS
theorem itBt (l : List Int) (m : Nat) (P P' : List GPool) (B B' : List Int) (R R' : List GRoll) (rc : GReceipt) (i n o a b j d : Int) (hP : (P.length : Int) = 8) (hR : (R.length : Int) = 4) (h0 : 0 ≤ i) (h1 : i < 4) (h2 : 1 ≤ n) (h3 : n ≤ 200) (h4 : 1 ≤ o) (h6 : o ≤ n) (h7 : 0 ≤ d) (h8 : d ≤ a) (h9 : a < 10000) (h10 : 0 ≤ j) (h11 : j < 12) (h12 : 0 ≤ b) (h13 : b ≤ 100) (em : d_money_Part (m + 40) a o o = some d) (ez : d_money_Part (m + 40) 0 o o = some 0) (hl : ¬ j < (l.length : Int) ∨ ¬ j < 11) (eb : d_stock_Bring (m + 40) (F1 P B R [⟨0, i, 0, n, n - o, a, 0, 1, false⟩] rc) 0 i 0 ⟨o, d, 0⟩ = some (F1 P' B R [⟨0, i, 0, n, n - o, a, 0, 1, false⟩] rc, d, 0, 0)) (ep : d_stock_Post (m + 40) (F1 P' B R [⟨0, i, 0, n, n - o, a, 0, 1, false⟩] rc) 0 [⟨0, d⟩, ⟨6, 0⟩, ⟨5, 0 - d⟩, ⟨4, 3⟩, ⟨3, -3⟩] = some (F1 P' B' R [⟨0, i, 0, n, n - o, a, 0, 1, false⟩] rc, 0)) (et : d_stock_Turn (F1 P' B' R [⟨0, i, 0, n, n - o, a, 0, 1, false⟩] rc) 0 i ⟨0, 0, 0, 0, d, 0, 0, 0, 0, 0, 0⟩ = some (F1 P' B' R' [⟨0, i, 0, n, n - o, a, 0, 1, false⟩] rc, 0)) (f3 : (j : Int) < ↑(List.length l)) : d_law16_SellBack_L0 l (m + 41) o b j (F1 P B R [⟨0, i, 0, n, n - o, a, 0, 1, false⟩] rc) = d_law16_SellBack_L0 l (m + 40) 0 (b + 3) (j + 1) (F1 P' B' R' [⟨0, i, 0, n, n, a - d, 0, 1, false⟩] rc) :=
  T.by_gor (itB_tb l m P P' B B' R R' rc i n o a b j d ++ [.a (j < ↑(List.length l)),
    .b (j < 11)])
    0 (T.prs [0,1,21,5022,2,1003,4,6005,6,7,6,8,6,9,1010,1011,1012,2013,1014,1015,5016,2,1003,4,6005,6,3017,18,19,20]) (t_law16_SellBack_L0_ok _ _ _ _ _ _) (t_law16_SellBack_L0_ok _ _ _ _ _ _)
    (T.okA (itB_tk l m P P' B B' R R' rc i n o a b j d hP hR h0 h1 h2 h3 h4 h6 h7 h8 h9 h10 h11 h12 h13 em ez hl eb ep et) T.okS) (by kernel_rfl)
theorem itBf (l : List Int) (m : Nat) (P P' : List GPool) (B B' : List Int) (R R' : List GRoll) (rc : GReceipt) (i n o a b j d : Int) (hP : (P.length : Int) = 8) (hR : (R.length : Int) = 4) (h0 : 0 ≤ i) (h1 : i < 4) (h2 : 1 ≤ n) (h3 : n ≤ 200) (h4 : 1 ≤ o) (h6 : o ≤ n) (h7 : 0 ≤ d) (h8 : d ≤ a) (h9 : a < 10000) (h10 : 0 ≤ j) (h11 : j < 12) (h12 : 0 ≤ b) (h13 : b ≤ 100) (em : d_money_Part (m + 40) a o o = some d) (ez : d_money_Part (m + 40) 0 o o = some 0) (hl : ¬ j < (l.length : Int) ∨ ¬ j < 11) (eb : d_stock_Bring (m + 40) (F1 P B R [⟨0, i, 0, n, n - o, a, 0, 1, false⟩] rc) 0 i 0 ⟨o, d, 0⟩ = some (F1 P' B R [⟨0, i, 0, n, n - o, a, 0, 1, false⟩] rc, d, 0, 0)) (ep : d_stock_Post (m + 40) (F1 P' B R [⟨0, i, 0, n, n - o, a, 0, 1, false⟩] rc) 0 [⟨0, d⟩, ⟨6, 0⟩, ⟨5, 0 - d⟩, ⟨4, 3⟩, ⟨3, -3⟩] = some (F1 P' B' R [⟨0, i, 0, n, n - o, a, 0, 1, false⟩] rc, 0)) (et : d_stock_Turn (F1 P' B' R [⟨0, i, 0, n, n - o, a, 0, 1, false⟩] rc) 0 i ⟨0, 0, 0, 0, d, 0, 0, 0, 0, 0, 0⟩ = some (F1 P' B' R' [⟨0, i, 0, n, n - o, a, 0, 1, false⟩] rc, 0)) (f3 : ¬ (j : Int) < ↑(List.length l)) : d_law16_SellBack_L0 l (m + 41) o b j (F1 P B R [⟨0, i, 0, n, n - o, a, 0, 1, false⟩] rc) = d_law16_SellBack_L0 l (m + 40) 0 (b + 3) (j + 1) (F1 P' B' R' [⟨0, i, 0, n, n, a - d, 0, 1, false⟩] rc) :=
  T.by_gor (itB_tb l m P P' B B' R R' rc i n o a b j d ++ [.b (j < ↑(List.length l))])
    0 (T.prs [0,1,5021,2,1003,4,6005,6,7,6,8,6,9,1010,1011,1012,2013,1014,1015,5016,2,1003,4,6005,6,3017,18,19,20]) (t_law16_SellBack_L0_ok _ _ _ _ _ _) (t_law16_SellBack_L0_ok _ _ _ _ _ _)
    (T.okA (itB_tk l m P P' B B' R R' rc i n o a b j d hP hR h0 h1 h2 h3 h4 h6 h7 h8 h9 h10 h11 h12 h13 em ez hl eb ep et) T.okS) (by kernel_rfl)
theorem itB_r (l : List Int) (m : Nat) (P P' : List GPool) (B B' : List Int) (R R' : List GRoll) (rc : GReceipt) (i n o a b j d : Int) (hP : (P.length : Int) = 8) (hR : (R.length : Int) = 4) (h0 : 0 ≤ i) (h1 : i < 4) (h2 : 1 ≤ n) (h3 : n ≤ 200) (h4 : 1 ≤ o) (h6 : o ≤ n) (h7 : 0 ≤ d) (h8 : d ≤ a) (h9 : a < 10000) (h10 : 0 ≤ j) (h11 : j < 12) (h12 : 0 ≤ b) (h13 : b ≤ 100) (em : d_money_Part (m + 40) a o o = some d) (ez : d_money_Part (m + 40) 0 o o = some 0) (hl : ¬ j < (l.length : Int) ∨ ¬ j < 11) (eb : d_stock_Bring (m + 40) (F1 P B R [⟨0, i, 0, n, n - o, a, 0, 1, false⟩] rc) 0 i 0 ⟨o, d, 0⟩ = some (F1 P' B R [⟨0, i, 0, n, n - o, a, 0, 1, false⟩] rc, d, 0, 0)) (ep : d_stock_Post (m + 40) (F1 P' B R [⟨0, i, 0, n, n - o, a, 0, 1, false⟩] rc) 0 [⟨0, d⟩, ⟨6, 0⟩, ⟨5, 0 - d⟩, ⟨4, 3⟩, ⟨3, -3⟩] = some (F1 P' B' R [⟨0, i, 0, n, n - o, a, 0, 1, false⟩] rc, 0)) (et : d_stock_Turn (F1 P' B' R [⟨0, i, 0, n, n - o, a, 0, 1, false⟩] rc) 0 i ⟨0, 0, 0, 0, d, 0, 0, 0, 0, 0, 0⟩ = some (F1 P' B' R' [⟨0, i, 0, n, n - o, a, 0, 1, false⟩] rc, 0)) : d_law16_SellBack_L0 l (m + 41) o b j (F1 P B R [⟨0, i, 0, n, n - o, a, 0, 1, false⟩] rc) = d_law16_SellBack_L0 l (m + 40) 0 (b + 3) (j + 1) (F1 P' B' R' [⟨0, i, 0, n, n, a - d, 0, 1, false⟩] rc) := by
  by_cases f3 : (j : Int) < ↑(List.length l)
  · exact itBt l m P P' B B' R R' rc i n o a b j d hP hR h0 h1 h2 h3 h4 h6 h7 h8 h9 h10 h11 h12 h13 em ez hl eb ep et f3
  · exact itBf l m P P' B B' R R' rc i n o a b j d hP hR h0 h1 h2 h3 h4 h6 h7 h8 h9 h10 h11 h12 h13 em ez hl eb ep et f3
theorem itE_r (l : List Int) (m : Nat) (P : List GPool) (B : List Int) (R : List GRoll) (S : List GSale) (rc : GReceipt) (b j : Int) : d_law16_SellBack_L0 l (m + 41) 0 b j (F1 P B R S rc) = some ((.inl (0, b, F1 P B R S rc))) :=
  T.by_go []
    1 (T.prs []) (t_law16_SellBack_L0_ok _ _ _ _ _ _)
    T.okS (by kernel_rfl)
theorem iuA (l : List Int) (m : Nat) (B B' : List Int) (R : List GRoll) (rc : GReceipt) (n v o b j k : Int) (hR : (R.length : Int) = 4) (h2 : 1 ≤ n) (h3 : n ≤ 200) (h4 : 1 ≤ k) (h5 : k ≤ o) (h6 : o ≤ n) (h7 : 0 ≤ v) (h8 : v < 10000) (h10 : 0 ≤ j) (h11 : j < 12) (h12 : 0 ≤ b) (h13 : b ≤ 100) (y : Int) (hl : j < (l.length : Int)) (hj : j < 11) (hy : ix l j = some y) (e2 : d_law00_Place y o = some (k - 1)) (ep : d_stock_Post (m + 40) (F1 (F72 (F4 [⟨n, v, 0⟩] (o))) B R [⟨0, 2, 0, n, n - o, 0, 0, 1, true⟩] rc) 0 [⟨4, 3⟩, ⟨3, -3⟩] = some (F1 (F72 (F4 [⟨n, v, 0⟩] (o))) B' R [⟨0, 2, 0, n, n - o, 0, 0, 1, true⟩] rc, 0)) : d_law16_SellBack_L0 l (m + 41) o b j (F1 (F72 (F4 [⟨n, v, 0⟩] (o))) B R [⟨0, 2, 0, n, n - o, 0, 0, 1, true⟩] rc) = d_law16_SellBack_L0 l (m + 40) (o - k) (b + 3) (j + 1) ⟨⟨2, 3, [1, 2, 3, 0], [[1, 2, 3, 4], [1, 2, 3, 4]], [[10, 10, 10, 10], [10, 10, 10, 10]]⟩, [⟨1, false, [⟨[], ⟨0, 0, 0⟩⟩, ⟨[], ⟨0, 0, 0⟩⟩, ⟨[], ⟨0, 0, 0⟩⟩, ⟨[], ⟨0, 0, 0⟩⟩, ⟨[⟨n, v, 0⟩], ⟨o - k, 0, 0⟩⟩, ⟨[], ⟨0, 0, 0⟩⟩, ⟨[], ⟨0, 0, 0⟩⟩, ⟨[], ⟨0, 0, 0⟩⟩], B', R, [-1, -1, -1, -1], [0, 0, 0, 0], []⟩, ⟨1, false, [⟨[], ⟨0, 0, 0⟩⟩, ⟨[], ⟨0, 0, 0⟩⟩, ⟨[], ⟨0, 0, 0⟩⟩, ⟨[], ⟨0, 0, 0⟩⟩, ⟨[], ⟨0, 0, 0⟩⟩, ⟨[], ⟨0, 0, 0⟩⟩, ⟨[], ⟨0, 0, 0⟩⟩, ⟨[], ⟨0, 0, 0⟩⟩], [0, 0, 0, 0, 0, 0, 0, 0, 0, 0, 0, 0, 0, 0, 0, 0, 0], [⟨0, 0, 0, 0, 0, 0, 0, 0, 0, 0, 0⟩, ⟨0, 0, 0, 0, 0, 0, 0, 0, 0, 0, 0⟩, ⟨0, 0, 0, 0, 0, 0, 0, 0, 0, 0, 0⟩, ⟨0, 0, 0, 0, 0, 0, 0, 0, 0, 0, 0⟩], [-1, -1, -1, -1], [0, 0, 0, 0], []⟩], [rc], [⟨0, 2, 0, n, n + k - o, 0, 0, 1, true⟩], [], 0⟩ :=
  T.by_gor [.a (o > 0),
    .a (j < 12),
    .a (j < ↑(List.length l)),
    .a (j < 11),
    .o ((ix l j).map .z) (.z (y)),
    .o ((d_law00_Place y o).map .z) (.z (k - 1)),
    .w (1 + (k - 1)) (k),
    .a ((↑(List.length R) : Int) ≥ 4),
    .w (n - (n - o)) (o),
    .b (k > o),
    .b (k < 1),
    .s (o - k),
    .o ((d_stock_Post (m + 40)
  (F1 (F72 (F4 [GLayer.mk n v 0] o)) B R [GSale.mk 0 2 0 n (n - o) 0 0 1 Bool.true] rc) 0
  [GLine.mk 4 3, GLine.mk 3 (-3)]).map .k8) (.k8 (F1 (F72 (F4 [GLayer.mk n v 0] o)) B' R [GSale.mk 0 2 0 n (n - o) 0 0 1 Bool.true] rc, 0)),
    .w (n - o + k) (n + k - o),
    .s (o + 1),
    .a (o + 1 > o),
    .s (b + 3),
    .s (j + 1)]
    0 (T.prs [0,1,2,3,4,5,9006,6007,8,7009,13007,1010,1009,2011,6012,1013,9014,6007,8,3015,11,16,17]) (t_law16_SellBack_L0_ok _ _ _ _ _ _) (t_law16_SellBack_L0_ok _ _ _ _ _ _)
    T.okS (by kernel_rfl)
theorem iuA_r (l : List Int) (m : Nat) (B B' : List Int) (R : List GRoll) (rc : GReceipt) (n v o b j k : Int) (hR : (R.length : Int) = 4) (h2 : 1 ≤ n) (h3 : n ≤ 200) (h4 : 1 ≤ k) (h5 : k ≤ o) (h6 : o ≤ n) (h7 : 0 ≤ v) (h8 : v < 10000) (h10 : 0 ≤ j) (h11 : j < 12) (h12 : 0 ≤ b) (h13 : b ≤ 100) (y : Int) (hl : j < (l.length : Int)) (hj : j < 11) (hy : ix l j = some y) (e2 : d_law00_Place y o = some (k - 1)) (ep : d_stock_Post (m + 40) (F1 (F72 (F4 [⟨n, v, 0⟩] (o))) B R [⟨0, 2, 0, n, n - o, 0, 0, 1, true⟩] rc) 0 [⟨4, 3⟩, ⟨3, -3⟩] = some (F1 (F72 (F4 [⟨n, v, 0⟩] (o))) B' R [⟨0, 2, 0, n, n - o, 0, 0, 1, true⟩] rc, 0)) : d_law16_SellBack_L0 l (m + 41) o b j (F1 (F72 (F4 [⟨n, v, 0⟩] (o))) B R [⟨0, 2, 0, n, n - o, 0, 0, 1, true⟩] rc) = d_law16_SellBack_L0 l (m + 40) (o - k) (b + 3) (j + 1) (F1 (F72 (F4 [⟨n, v, 0⟩] (o - k))) B' R [⟨0, 2, 0, n, n - o + k, 0, 0, 1, true⟩] rc) := by
  exact Eq.trans (iuA l m B B' R rc n v o b j k hR h2 h3 h4 h5 h6 h7 h8 h10 h11 h12 h13 y hl hj hy e2 ep) (by unfold F1 F72 F4; repeat' (first | rfl | omega | apply congr))
def iuB_tb (l : List Int) (m : Nat) (B : List Int) (B' : List Int) (R : List GRoll) (rc : GReceipt) (n : Int) (v : Int) (o : Int) (b : Int) (j : Int) : List (T.E An) :=
  [.a (o > 0),
    .a (j < 12),
    .a ((↑(List.length R) : Int) ≥ 4),
    .w (n - (n - o)) (o),
    .b (o > o),
    .b (o < 1),
    .w (o - o) (0),
    .o ((d_stock_Post (m + 40)
  (F1 (F72 (F4 [GLayer.mk n v 0] o)) B R [GSale.mk 0 2 0 n (n - o) 0 0 1 Bool.true] rc) 0
  [GLine.mk 4 3, GLine.mk 3 (-3)]).map .k8) (.k8 (F1 (F72 (F4 [GLayer.mk n v 0] o)) B' R [GSale.mk 0 2 0 n (n - o) 0 0 1 Bool.true] rc, 0)),
    .w (n - o + o) (n),
    .s (o + 1),
    .a (o + 1 > o),
    .s (b + 3),
    .s (j + 1)]
theorem iuB_tk (l : List Int) (m : Nat) (B B' : List Int) (R : List GRoll) (rc : GReceipt) (n v o b j : Int) (hR : (R.length : Int) = 4) (h2 : 1 ≤ n) (h3 : n ≤ 200) (h4 : 1 ≤ o) (h6 : o ≤ n) (h7 : 0 ≤ v) (h8 : v < 10000) (h10 : 0 ≤ j) (h11 : j < 12) (h12 : 0 ≤ b) (h13 : b ≤ 100) (hl : ¬ j < (l.length : Int) ∨ ¬ j < 11) (ep : d_stock_Post (m + 40) (F1 (F72 (F4 [⟨n, v, 0⟩] (o))) B R [⟨0, 2, 0, n, n - o, 0, 0, 1, true⟩] rc) 0 [⟨4, 3⟩, ⟨3, -3⟩] = some (F1 (F72 (F4 [⟨n, v, 0⟩] (o))) B' R [⟨0, 2, 0, n, n - o, 0, 0, 1, true⟩] rc, 0)) : T.AllE (iuB_tb l m B B' R rc n v o b j) := by
  unfold iuB_tb
  exact T.okS
theorem iuBt (l : List Int) (m : Nat) (B B' : List Int) (R : List GRoll) (rc : GReceipt) (n v o b j : Int) (hR : (R.length : Int) = 4) (h2 : 1 ≤ n) (h3 : n ≤ 200) (h4 : 1 ≤ o) (h6 : o ≤ n) (h7 : 0 ≤ v) (h8 : v < 10000) (h10 : 0 ≤ j) (h11 : j < 12) (h12 : 0 ≤ b) (h13 : b ≤ 100) (hl : ¬ j < (l.length : Int) ∨ ¬ j < 11) (ep : d_stock_Post (m + 40) (F1 (F72 (F4 [⟨n, v, 0⟩] (o))) B R [⟨0, 2, 0, n, n - o, 0, 0, 1, true⟩] rc) 0 [⟨4, 3⟩, ⟨3, -3⟩] = some (F1 (F72 (F4 [⟨n, v, 0⟩] (o))) B' R [⟨0, 2, 0, n, n - o, 0, 0, 1, true⟩] rc, 0)) (f3 : (j : Int) < ↑(List.length l)) : d_law16_SellBack_L0 l (m + 41) o b j (F1 (F72 (F4 [⟨n, v, 0⟩] (o))) B R [⟨0, 2, 0, n, n - o, 0, 0, 1, true⟩] rc) = d_law16_SellBack_L0 l (m + 40) 0 (b + 3) (j + 1) (F1 (F72 (F4 [⟨n, v, 0⟩] 0)) B' R [⟨0, 2, 0, n, n, 0, 0, 1, true⟩] rc) :=
  T.by_gor (iuB_tb l m B B' R rc n v o b j ++ [.a (j < ↑(List.length l)),
    .b (j < 11)])
    0 (T.prs [0,1,13,9014,6002,3,7004,13002,1005,1004,2006,6007,1008,9009,6002,3,3010,6,11,12]) (t_law16_SellBack_L0_ok _ _ _ _ _ _) (t_law16_SellBack_L0_ok _ _ _ _ _ _)
    (T.okA (iuB_tk l m B B' R rc n v o b j hR h2 h3 h4 h6 h7 h8 h10 h11 h12 h13 hl ep) T.okS) (by kernel_rfl)
theorem iuBf (l : List Int) (m : Nat) (B B' : List Int) (R : List GRoll) (rc : GReceipt) (n v o b j : Int) (hR : (R.length : Int) = 4) (h2 : 1 ≤ n) (h3 : n ≤ 200) (h4 : 1 ≤ o) (h6 : o ≤ n) (h7 : 0 ≤ v) (h8 : v < 10000) (h10 : 0 ≤ j) (h11 : j < 12) (h12 : 0 ≤ b) (h13 : b ≤ 100) (hl : ¬ j < (l.length : Int) ∨ ¬ j < 11) (ep : d_stock_Post (m + 40) (F1 (F72 (F4 [⟨n, v, 0⟩] (o))) B R [⟨0, 2, 0, n, n - o, 0, 0, 1, true⟩] rc) 0 [⟨4, 3⟩, ⟨3, -3⟩] = some (F1 (F72 (F4 [⟨n, v, 0⟩] (o))) B' R [⟨0, 2, 0, n, n - o, 0, 0, 1, true⟩] rc, 0)) (f3 : ¬ (j : Int) < ↑(List.length l)) : d_law16_SellBack_L0 l (m + 41) o b j (F1 (F72 (F4 [⟨n, v, 0⟩] (o))) B R [⟨0, 2, 0, n, n - o, 0, 0, 1, true⟩] rc) = d_law16_SellBack_L0 l (m + 40) 0 (b + 3) (j + 1) (F1 (F72 (F4 [⟨n, v, 0⟩] 0)) B' R [⟨0, 2, 0, n, n, 0, 0, 1, true⟩] rc) :=
  T.by_gor (iuB_tb l m B B' R rc n v o b j ++ [.b (j < ↑(List.length l))])
    0 (T.prs [0,1,9013,6002,3,7004,13002,1005,1004,2006,6007,1008,9009,6002,3,3010,6,11,12]) (t_law16_SellBack_L0_ok _ _ _ _ _ _) (t_law16_SellBack_L0_ok _ _ _ _ _ _)
    (T.okA (iuB_tk l m B B' R rc n v o b j hR h2 h3 h4 h6 h7 h8 h10 h11 h12 h13 hl ep) T.okS) (by kernel_rfl)
theorem iuB_r (l : List Int) (m : Nat) (B B' : List Int) (R : List GRoll) (rc : GReceipt) (n v o b j : Int) (hR : (R.length : Int) = 4) (h2 : 1 ≤ n) (h3 : n ≤ 200) (h4 : 1 ≤ o) (h6 : o ≤ n) (h7 : 0 ≤ v) (h8 : v < 10000) (h10 : 0 ≤ j) (h11 : j < 12) (h12 : 0 ≤ b) (h13 : b ≤ 100) (hl : ¬ j < (l.length : Int) ∨ ¬ j < 11) (ep : d_stock_Post (m + 40) (F1 (F72 (F4 [⟨n, v, 0⟩] (o))) B R [⟨0, 2, 0, n, n - o, 0, 0, 1, true⟩] rc) 0 [⟨4, 3⟩, ⟨3, -3⟩] = some (F1 (F72 (F4 [⟨n, v, 0⟩] (o))) B' R [⟨0, 2, 0, n, n - o, 0, 0, 1, true⟩] rc, 0)) : d_law16_SellBack_L0 l (m + 41) o b j (F1 (F72 (F4 [⟨n, v, 0⟩] (o))) B R [⟨0, 2, 0, n, n - o, 0, 0, 1, true⟩] rc) = d_law16_SellBack_L0 l (m + 40) 0 (b + 3) (j + 1) (F1 (F72 (F4 [⟨n, v, 0⟩] 0)) B' R [⟨0, 2, 0, n, n, 0, 0, 1, true⟩] rc) := by
  by_cases f3 : (j : Int) < ↑(List.length l)
  · exact iuBt l m B B' R rc n v o b j hR h2 h3 h4 h6 h7 h8 h10 h11 h12 h13 hl ep f3
  · exact iuBf l m B B' R rc n v o b j hR h2 h3 h4 h6 h7 h8 h10 h11 h12 h13 hl ep f3
theorem br1a_r (m : Nat) (B : List Int) (R : List GRoll) (S : List GSale) (rc : GReceipt) (hR : (R.length : Int) = 4) (k d : Int) (h1 : 1 ≤ k) (h2 : k ≤ 200) (h3 : 0 ≤ d) (h4 : d < 10000) (ei : d_fifo_In (m + 40) [] ⟨k, d, 0⟩ = some ([⟨k, d, 0⟩], 0)) (et : d_fifo_Total (m + 39) [⟨k, d, 0⟩] = some (⟨k, d, 0⟩, 0)) (ez : d_fifo_Total (m + 40) [⟨k, d, 0⟩] = some (⟨k, d, 0⟩, 0)) (es : d_stock_steady (m + 40) (F1 (F71 (F4 [⟨k, d, 0⟩] 0)) B R S rc) 0 1 = some true) : d_stock_Bring (m + 40) (F1 (F71 (F4 [] 0)) B R S rc) 0 1 0 ⟨k, d, 0⟩ = some ((F1 (F71 (F4 [⟨k, d, 0⟩] 0)) B R S rc, d, 0, 0)) :=
  T.by_go [.a ((↑(List.length R) : Int) ≥ 4),
    .o ((d_fifo_In (m + 40) [] (GLayer.mk k d 0)).map .k5) (.k5 ([GLayer.mk k d 0], 0)),
    .o ((d_fifo_Total (m + 40) [GLayer.mk k d 0]).map .k4) (.k4 (GLayer.mk k d 0, 0)),
    .o ((d_fifo_Total (m + 39) [GLayer.mk k d 0]).map .k4) (.k4 (GLayer.mk k d 0, 0)),
    .a (k ≥ -288230376151711744),
    .a (k ≤ 288230376151711744),
    .w (0 + k) (k),
    .w (k + 0) (k),
    .a (d ≥ -288230376151711744),
    .a (d ≤ 288230376151711744),
    .w (0 + d) (d),
    .w (d + 0) (d),
    .o ((d_stock_steady (m + 40) (F1 (F71 (F4 [GLayer.mk k d 0] 0)) B R S rc) 0 1).map .k6) (.k6 (Bool.true)),
    .w (d - 0) (d)]
    6 (T.prs [13000,1001,12002,10000,11003,20000,4,5,6,4,5,4006,4,2005,7,4,5,7007,8,9,10,8,9,4010,8,2009,11,8,9,29011,12,13]) (x_stock_Bring_ok _ _ _ _ _ _)
    T.okS (by kernel_rfl)
theorem br1b_r (m : Nat) (B : List Int) (R : List GRoll) (S : List GSale) (rc : GReceipt) (hR : (R.length : Int) = 4) (k d q w : Int) (h5 : 1 ≤ q) (h6 : q ≤ 200) (h7 : 0 ≤ w) (h8 : w < 10000) (h1 : 1 ≤ k) (h2 : k ≤ 200) (h3 : 0 ≤ d) (h4 : d < 10000) (ei : d_fifo_In (m + 40) [⟨q, w, 0⟩] ⟨k, d, 0⟩ = some ([⟨q, w, 0⟩, ⟨k, d, 0⟩], 0)) (et : d_fifo_Total (m + 39) [⟨q + k, w + d, 0⟩] = some (⟨q + k, w + d, 0⟩, 0)) (ez : d_fifo_Total (m + 40) [⟨q, w, 0⟩, ⟨k, d, 0⟩] = some (⟨q + k, w + d, 0⟩, 0)) (es : d_stock_steady (m + 40) (F1 (F71 (F4 [⟨q + k, w + d, 0⟩] 0)) B R S rc) 0 1 = some true) : d_stock_Bring (m + 40) (F1 (F71 (F4 [⟨q, w, 0⟩] 0)) B R S rc) 0 1 0 ⟨k, d, 0⟩ = some ((F1 (F71 (F4 [⟨q + k, w + d, 0⟩] 0)) B R S rc, d, 0, 0)) :=
  T.by_go [.a ((↑(List.length R) : Int) ≥ 4),
    .o ((d_fifo_In (m + 40) [GLayer.mk q w 0] (GLayer.mk k d 0)).map .k5) (.k5 ([GLayer.mk q w 0, GLayer.mk k d 0], 0)),
    .o ((d_fifo_Total (m + 40) [GLayer.mk q w 0, GLayer.mk k d 0]).map .k4) (.k4 (GLayer.mk (q + k) (w + d) 0, 0)),
    .o ((d_fifo_Total (m + 39) [GLayer.mk (q + k) (w + d) 0]).map .k4) (.k4 (GLayer.mk (q + k) (w + d) 0, 0)),
    .a (q + k ≥ -288230376151711744),
    .a (q + k ≤ 288230376151711744),
    .w (0 + (q + k)) (q + k),
    .w (q + k + 0) (q + k),
    .a (w + d ≥ -288230376151711744),
    .a (w + d ≤ 288230376151711744),
    .w (0 + (w + d)) (w + d),
    .w (w + d + 0) (w + d),
    .o ((d_stock_steady (m + 40) (F1 (F71 (F4 [GLayer.mk (q + k) (w + d) 0] 0)) B R S rc) 0 1).map .k6) (.k6 (Bool.true)),
    .w (d - 0) (d)]
    6 (T.prs [13000,1001,12002,10000,11003,20000,4,5,6,4,5,4006,4,2005,7,4,5,7007,8,9,10,8,9,4010,8,2009,11,8,9,29011,12,13]) (x_stock_Bring_ok _ _ _ _ _ _)
    T.okS (by kernel_rfl)
theorem sd1_r (m : Nat) (B : List Int) (R : List GRoll) (S : List GSale) (rc : GReceipt) (hR : (R.length : Int) = 4) (q w : Int) : d_stock_steady (m + 40) (F1 (F71 (F4 [⟨q, w, 0⟩] 0)) B R S rc) 0 1 = some (true) :=
  T.by_go [.a ((↑(List.length R) : Int) ≥ 4)]
    7 (T.prs [25000,27000]) (x_stock_steady_ok _ _ _ _)
    T.okS (by kernel_rfl)
theorem wo1_r (B : List Int) (R : List GRoll) (S : List GSale) (rc : GReceipt) (q w : Int) (h5 : 1 ≤ q) (h6 : q ≤ 200) (h7 : 0 ≤ w) (h8 : w < 10000) : d_ref14_Worth 80 (F1 (F71 (F4 [⟨q, w, 0⟩] 0)) B R S rc) 0 1 = some (⟨q, w, 0⟩) :=
  T.by_go [.a (q ≥ -288230376151711744),
    .a (q ≤ 288230376151711744),
    .w (0 + q) (q),
    .a (w ≥ -288230376151711744),
    .a (w ≤ 288230376151711744),
    .w (0 + w) (w),
    .w (q + 0) (q),
    .w (w + 0) (w)]
    18 (T.prs [0,1,2,0,1,3002,3,4,5,3,4,42005,0,1,2,0,1,4002,0,2001,6,0,1,7006,3,4,5,3,4,4005,3,2004,7,3,4,28007]) (t_ref14_Worth_ok _ _ _ _)
    T.okS (by kernel_rfl)
theorem br3a_r (m : Nat) (B : List Int) (R : List GRoll) (S : List GSale) (rc : GReceipt) (hR : (R.length : Int) = 4) (k : Int) (h1 : 1 ≤ k) (h2 : k ≤ 200) (ei : d_fifo_In (m + 40) [] ⟨k, 10 * k, 0⟩ = some ([⟨k, 10 * k, 0⟩], 0)) (et : d_fifo_Total (m + 39) [⟨k, 10 * k, 0⟩] = some (⟨k, 10 * k, 0⟩, 0)) (ez : d_fifo_Total (m + 40) [⟨k, 10 * k, 0⟩] = some (⟨k, 10 * k, 0⟩, 0)) (es : d_stock_steady (m + 40) (F1 (F73 (F4 [⟨k, 10 * k, 0⟩] 0)) B R S rc) 0 3 = some true) : d_stock_Bring (m + 40) (F1 (F73 (F4 [] 0)) B R S rc) 0 3 0 ⟨k, 10 * k, 0⟩ = some ((F1 (F73 (F4 [⟨k, 10 * k, 0⟩] 0)) B R S rc, 10 * k, 0, 0)) :=
  T.by_go [.a ((↑(List.length R) : Int) ≥ 4),
    .b (k < 1),
    .b (10 * k < 0),
    .b ((0 : Int) > k),
    .o ((d_money_MulDiv (m + 40) (k) (10) (1)).map .i) (.i (10 * k, 0, 0)),
    .b (10 * k > 288230376151711744),
    .w (10 * k - 10 * k) (0),
    .b (k > 288230376151711744),
    .o ((d_fifo_Total (m + 40) [GLayer.mk k (10 * k) 0]).map .k4) (.k4 (GLayer.mk k (10 * k) 0, 0)),
    .o ((d_fifo_Total (m + 39) [GLayer.mk k (10 * k) 0]).map .k4) (.k4 (GLayer.mk k (10 * k) 0, 0)),
    .a (k ≥ -288230376151711744),
    .a (k ≤ 288230376151711744),
    .w (0 + k) (k),
    .w (k + 0) (k),
    .a (10 * k ≥ -288230376151711744),
    .a (10 * k ≤ 288230376151711744),
    .w (0 + 10 * k) (10 * k),
    .w (10 * k + 0) (10 * k),
    .o ((d_stock_steady (m + 40) (F1 (F73 (F4 [GLayer.mk k (10 * k) 0] 0)) B R S rc) 0 3).map .k6) (.k6 (Bool.true)),
    .w (10 * k - 0) (10 * k)]
    6 (T.prs [18000,1,2,3,1004,5,1006,1,6002,1,7,2,5005,22008,12008,10000,11009,20000,10,11,12,10,11,4012,10,2011,13,10,11,7013,14,15,16,14,15,4016,14,2015,17,14,15,29017,18,19]) (x_stock_Bring_ok _ _ _ _ _ _)
    T.okS (by kernel_rfl)
theorem br3b_r (m : Nat) (B : List Int) (R : List GRoll) (S : List GSale) (rc : GReceipt) (hR : (R.length : Int) = 4) (k q : Int) (h5 : 1 ≤ q) (h6 : q ≤ 200) (h1 : 1 ≤ k) (h2 : k ≤ 200) (ei : d_fifo_In (m + 40) [⟨q, 10 * q, 0⟩] ⟨k, 10 * k, 0⟩ = some ([⟨q, 10 * q, 0⟩, ⟨k, 10 * k, 0⟩], 0)) (et : d_fifo_Total (m + 39) [⟨q + k, 10 * q + 10 * k, 0⟩] = some (⟨q + k, 10 * q + 10 * k, 0⟩, 0)) (ez : d_fifo_Total (m + 40) [⟨q, 10 * q, 0⟩, ⟨k, 10 * k, 0⟩] = some (⟨q + k, 10 * q + 10 * k, 0⟩, 0)) (es : d_stock_steady (m + 40) (F1 (F73 (F4 [⟨q + k, 10 * q + 10 * k, 0⟩] 0)) B R S rc) 0 3 = some true) : d_stock_Bring (m + 40) (F1 (F73 (F4 [⟨q, 10 * q, 0⟩] 0)) B R S rc) 0 3 0 ⟨k, 10 * k, 0⟩ = some ((F1 (F73 (F4 [⟨q + k, 10 * q + 10 * k, 0⟩] 0)) B R S rc, 10 * k, 0, 0)) :=
  T.by_go [.a ((↑(List.length R) : Int) ≥ 4),
    .b (k < 1),
    .b (10 * k < 0),
    .b ((0 : Int) > k),
    .o ((d_money_MulDiv (m + 40) (k) (10) (1)).map .i) (.i (10 * k, 0, 0)),
    .b (10 * k > 288230376151711744),
    .w (10 * k - 10 * k) (0),
    .b (q < 1),
    .b (q > 288230376151711744),
    .b (10 * q < 0),
    .b (10 * q > 288230376151711744),
    .b (k > 288230376151711744),
    .o ((d_fifo_Total (m + 40) [GLayer.mk q (10 * q) 0, GLayer.mk k (10 * k) 0]).map .k4) (.k4 (GLayer.mk (q + k) (10 * q + 10 * k) 0, 0)),
    .o ((d_fifo_Total (m + 39) [GLayer.mk (q + k) (10 * q + 10 * k) 0]).map .k4) (.k4 (GLayer.mk (q + k) (10 * q + 10 * k) 0, 0)),
    .a (q + k ≥ -288230376151711744),
    .a (q + k ≤ 288230376151711744),
    .w (0 + (q + k)) (q + k),
    .w (q + k + 0) (q + k),
    .a (10 * q + 10 * k ≥ -288230376151711744),
    .a (10 * q + 10 * k ≤ 288230376151711744),
    .w (0 + (10 * q + 10 * k)) (10 * q + 10 * k),
    .w (10 * q + 10 * k + 0) (10 * q + 10 * k),
    .o ((d_stock_steady (m + 40) (F1 (F73 (F4 [GLayer.mk (q + k) (10 * q + 10 * k) 0] 0)) B R S rc)
  0 3).map .k6) (.k6 (Bool.true)),
    .w (10 * k - 0) (10 * k)]
    6 (T.prs [18000,1,2,3,1004,5,1006,1,6002,7,8,9,5010,1,11,2,5005,40012,12012,10000,11013,20000,14,15,16,14,15,4016,14,2015,17,14,15,7017,18,19,20,18,19,4020,18,2019,21,18,19,29021,22,23]) (x_stock_Bring_ok _ _ _ _ _ _)
    T.okS (by kernel_rfl)
theorem sd3_r (m : Nat) (B : List Int) (R : List GRoll) (S : List GSale) (rc : GReceipt) (hR : (R.length : Int) = 4) (q w : Int) : d_stock_steady (m + 40) (F1 (F73 (F4 [⟨q, w, 0⟩] 0)) B R S rc) 0 3 = some (true) :=
  T.by_go [.a ((↑(List.length R) : Int) ≥ 4)]
    7 (T.prs [25000,27000]) (x_stock_steady_ok _ _ _ _)
    T.okS (by kernel_rfl)
theorem wo3_r (B : List Int) (R : List GRoll) (S : List GSale) (rc : GReceipt) (q w : Int) (h5 : 1 ≤ q) (h6 : q ≤ 200) (h7 : 0 ≤ w) (h8 : w < 10000) : d_ref14_Worth 80 (F1 (F73 (F4 [⟨q, w, 0⟩] 0)) B R S rc) 0 3 = some (⟨q, w, 0⟩) :=
  T.by_go [.a (q ≥ -288230376151711744),
    .a (q ≤ 288230376151711744),
    .w (0 + q) (q),
    .a (w ≥ -288230376151711744),
    .a (w ≤ 288230376151711744),
    .w (0 + w) (w),
    .w (q + 0) (q),
    .w (w + 0) (w)]
    18 (T.prs [0,1,2,0,1,3002,3,4,5,3,4,42005,0,1,2,0,1,4002,0,2001,6,0,1,7006,3,4,5,3,4,4005,3,2004,7,3,4,28007]) (t_ref14_Worth_ok _ _ _ _)
    T.okS (by kernel_rfl)
theorem wo2_r (B : List Int) (R : List GRoll) (S : List GSale) (rc : GReceipt) (q w : Int) (h5 : 1 ≤ q) (h6 : q ≤ 200) (h7 : 0 ≤ w) (h8 : w < 10000) : d_ref14_Worth 80 (F1 (F72 (F4 [⟨q, w, 0⟩] 0)) B R S rc) 0 2 = some (⟨q, w, 0⟩) :=
  T.by_go [.a (q ≥ -288230376151711744),
    .a (q ≤ 288230376151711744),
    .w (0 + q) (q),
    .a (w ≥ -288230376151711744),
    .a (w ≤ 288230376151711744),
    .w (0 + w) (w),
    .w (q + 0) (q),
    .w (w + 0) (w)]
    18 (T.prs [0,1,2,0,1,3002,3,4,5,3,4,42005,0,1,2,0,1,4002,0,2001,6,0,1,7006,3,4,5,3,4,4005,3,2004,7,3,4,28007]) (t_ref14_Worth_ok _ _ _ _)
    T.okS (by kernel_rfl)
theorem br0_r (m : Nat) (B : List Int) (R : List GRoll) (S : List GSale) (rc : GReceipt) (hR : (R.length : Int) = 4) (L L' : List GLayer) (k d Q V : Int) (h1 : 1 ≤ k) (h2 : k ≤ 200) (h3 : 0 ≤ d) (h4 : d < 10000) (h5 : 0 ≤ Q) (h6 : Q ≤ 200) (h7 : 0 ≤ V) (h8 : V < 10000) (hL : L'.length ≤ 30) (ei : d_fifo_In (m + 40) L ⟨k, d, 0⟩ = some (L', 0)) (et : d_fifo_Total (m + 39) L' = some (⟨Q, V, 0⟩, 0)) (es : d_stock_steady (m + 40) (F1 (F70 (F4 L' 0)) B R S rc) 0 0 = some true) : d_stock_Bring (m + 40) (F1 (F70 (F4 L 0)) B R S rc) 0 0 0 ⟨k, d, 0⟩ = some ((F1 (F70 (F4 L' 0)) B R S rc, d, 0, 0)) :=
  T.by_go [.a ((↑(List.length R) : Int) ≥ 4),
    .o ((d_fifo_In (m + 40) L (GLayer.mk k d 0)).map .k5) (.k5 (L', 0)),
    .a (List.length L' ≤ 68719476736),
    .o ((d_fifo_Total (m + 39) L').map .k4) (.k4 (GLayer.mk Q V 0, 0)),
    .a (Q ≥ -288230376151711744),
    .a (Q ≤ 288230376151711744),
    .w (0 + Q) (Q),
    .w (Q + 0) (Q),
    .a (V ≥ -288230376151711744),
    .a (V ≤ 288230376151711744),
    .w (0 + V) (V),
    .w (V + 0) (V),
    .o ((d_stock_steady (m + 40) (F1 (F70 (F4 L' 0)) B R S rc) 0 0).map .k6) (.k6 (Bool.true)),
    .w (d - 0) (d)]
    6 (T.prs [12000,11001,9000,2,11003,20000,4,5,6,4,5,4006,4,2005,7,4,5,7007,8,9,10,8,9,4010,8,2009,11,8,9,29011,12,13]) (x_stock_Bring_ok _ _ _ _ _ _)
    T.okS (by kernel_rfl)
theorem lsA_r (l : List Int) (n : Nat) (a j y : Int) (h0 : 0 ≤ j) (h1 : j < 1000) (hl : j < (l.length : Int)) (hy : ix l j = some y) (h3 : 0 ≤ a) (h4 : 0 ≤ y) (h5 : a + y ≤ 100000) : d_money_Sum_L0 l (n + 1) a j = d_money_Sum_L0 l n (a + y) (j + 1) :=
  T.by_gor [.a (j < ↑(List.length l)),
    .o ((ix l j).map .z) (.z (y)),
    .a (a ≥ -288230376151711744),
    .a (a ≤ 288230376151711744),
    .a (y ≥ -288230376151711744),
    .a (y ≤ 288230376151711744),
    .s (a + y),
    .a (a + y ≥ -288230376151711744),
    .a (a + y ≤ 288230376151711744),
    .s (j + 1)]
    0 (T.prs [0,1,2,3,4,5,6,7,8,1006,9]) (t_money_Sum_L0_ok _ _ _ _) (t_money_Sum_L0_ok _ _ _ _)
    T.okS (by kernel_rfl)
theorem lsB_r (l : List Int) (n : Nat) (a j : Int) (hl : ¬ j < (l.length : Int)) : d_money_Sum_L0 l (n + 1) a j = some (.inl a) :=
  T.by_go [.b (j < ↑(List.length l))]
    0 (T.prs [0]) (t_money_Sum_L0_ok _ _ _ _)
    T.okS (by kernel_rfl)
theorem ltA_r (L : List GLayer) (n : Nat) (j q w : Int) (Q W Z : List Int) (hQ : Q.length ≤ 1000) (hW : W.length ≤ 1000) (hZ : Z.length ≤ 1000) (h1 : j < 1000) (h0 : 0 ≤ j) (hl : j < (L.length : Int)) (hy : ix L j = some ⟨q, w, 0⟩) : d_fifo_Total_L0 L (n + 1) j Q W Z = d_fifo_Total_L0 L n (j + 1) (Q ++ [q]) (W ++ [w]) (Z ++ [0]) :=
  T.by_gor [.a (j < ↑(List.length L)),
    .o ((ix L j).map .k2) (.k2 (GLayer.mk q w 0)),
    .a (List.length (Q ++ [q]) ≤ 68719476736),
    .a (List.length (W ++ [w]) ≤ 68719476736),
    .a (List.length (Z ++ [0]) ≤ 68719476736),
    .s (j + 1)]
    0 (T.prs [0,1,2,3,4,5]) (t_fifo_Total_L0_ok _ _ _ _ _ _) (t_fifo_Total_L0_ok _ _ _ _ _ _)
    T.okS (by kernel_rfl)
theorem ltB_r (L : List GLayer) (n : Nat) (j : Int) (Q W Z : List Int) (hl : ¬ j < (L.length : Int)) : d_fifo_Total_L0 L (n + 1) j Q W Z = some ((Q, W, Z)) :=
  T.by_go [.b (j < ↑(List.length L))]
    0 (T.prs [0]) (t_fifo_Total_L0_ok _ _ _ _ _ _)
    T.okS (by kernel_rfl)
theorem lrA_r (L : List GLayer) (n : Nat) (j q w : Int) (g1 : 1 ≤ q) (g2 : q ≤ 100000) (g3 : 0 ≤ w) (g4 : w ≤ 100000) (h1 : j < 1000) (h0 : 0 ≤ j) (hl : j < (L.length : Int)) (hy : ix L j = some ⟨q, w, 0⟩) : d_fifo_Right_L0 L (n + 1) j = d_fifo_Right_L0 L n (j + 1) :=
  T.by_gor [.a (j < ↑(List.length L)),
    .o ((ix L j).map .k2) (.k2 (GLayer.mk q w 0)),
    .b (q < 1),
    .b (q > 288230376151711744),
    .b (w < 0),
    .b (w > 288230376151711744),
    .s (j + 1)]
    0 (T.prs [0,1,2,3,4,2005,6]) (t_fifo_Right_L0_ok _ _ _) (t_fifo_Right_L0_ok _ _ _)
    T.okS (by kernel_rfl)
theorem lrB_r (L : List GLayer) (n : Nat) (j : Int) (hl : ¬ j < (L.length : Int)) : d_fifo_Right_L0 L (n + 1) j = some (.inl ()) :=
  T.by_go [.b (j < ↑(List.length L))]
    0 (T.prs [0]) (t_fifo_Right_L0_ok _ _ _)
    T.okS (by kernel_rfl)
theorem lfA_r (L : List GLayer) (n : Nat) (j q w : Int) (Z : List Int) (hZ : Z.length ≤ 1000) (h1 : j < 1000) (h0 : 0 ≤ j) (hl : j < (L.length : Int)) (hy : ix L j = some ⟨q, w, 0⟩) : d_fifo_steady_L0 L (n + 1) j Z = d_fifo_steady_L0 L n (j + 1) (Z ++ [0]) :=
  T.by_gor [.a (j < ↑(List.length L)),
    .o ((ix L j).map .k2) (.k2 (GLayer.mk q w 0)),
    .a (List.length (Z ++ [0]) ≤ 68719476736),
    .s (j + 1)]
    0 (T.prs [0,2001,2,3]) (t_fifo_steady_L0_ok _ _ _ _) (t_fifo_steady_L0_ok _ _ _ _)
    T.okS (by kernel_rfl)
theorem lfB_r (L : List GLayer) (n : Nat) (j : Int) (Z : List Int) (hl : ¬ j < (L.length : Int)) : d_fifo_steady_L0 L (n + 1) j Z = some (Z) :=
  T.by_go [.b (j < ↑(List.length L))]
    0 (T.prs [0]) (t_fifo_steady_L0_ok _ _ _ _)
    T.okS (by kernel_rfl)
theorem lgA_r (L : List GLayer) (n : Nat) (j q w : Int) (Z : List Int) (hZ : Z.length ≤ 1000) (h1 : j < 1000) (h0 : 0 ≤ j) (hl : j < (L.length : Int)) (hy : ix L j = some ⟨q, w, 0⟩) : d_stock_steady_L1 (F4 L 0) (n + 1) j Z = d_stock_steady_L1 (F4 L 0) n (j + 1) (Z ++ [0]) :=
  T.by_gor [.a (j < ↑(List.length L)),
    .o ((ix L j).map .k2) (.k2 (GLayer.mk q w 0)),
    .a (List.length (Z ++ [0]) ≤ 68719476736),
    .s (j + 1)]
    0 (T.prs [0,2001,2,3]) (t_stock_steady_L1_ok _ _ _ _) (t_stock_steady_L1_ok _ _ _ _)
    T.okS (by kernel_rfl)
theorem lgB_r (L : List GLayer) (n : Nat) (j : Int) (Z : List Int) (hl : ¬ j < (L.length : Int)) : d_stock_steady_L1 (F4 L 0) (n + 1) j Z = some (Z) :=
  T.by_go [.b (j < ↑(List.length L))]
    0 (T.prs [0]) (t_stock_steady_L1_ok _ _ _ _)
    T.okS (by kernel_rfl)
theorem lhA_r (L : List GLayer) (n : Nat) (j q w a b : Int) (g1 : 1 ≤ q) (g3 : 0 ≤ w) (g5 : 0 ≤ a) (g6 : a + q ≤ 100000) (g7 : 0 ≤ b) (g8 : b + w ≤ 100000) (h1 : j < 1000) (h0 : 0 ≤ j) (hl : j < (L.length : Int)) (hy : ix L j = some ⟨q, w, 0⟩) : d_ref09_Total_L0 L (n + 1) j ⟨a, b, 0⟩ = d_ref09_Total_L0 L n (j + 1) ⟨a + q, b + w, 0⟩ :=
  T.by_gor [.a (j < ↑(List.length L)),
    .o ((ix L j).map .k2) (.k2 (GLayer.mk q w 0)),
    .a (a ≥ -288230376151711744),
    .a (a ≤ 288230376151711744),
    .a (q ≥ -288230376151711744),
    .a (q ≤ 288230376151711744),
    .s (a + q),
    .a (a + q ≥ -288230376151711744),
    .a (a + q ≤ 288230376151711744),
    .a (b ≥ -288230376151711744),
    .a (b ≤ 288230376151711744),
    .a (w ≥ -288230376151711744),
    .a (w ≤ 288230376151711744),
    .s (b + w),
    .a (b + w ≥ -288230376151711744),
    .a (b + w ≤ 288230376151711744),
    .s (j + 1)]
    0 (T.prs [0,1,2,3,4,5,6,7,8,6,1,9,10,11,12,13,14,15,13,11001,16]) (t_ref09_Total_L0_ok _ _ _ _) (t_ref09_Total_L0_ok _ _ _ _)
    T.okS (by kernel_rfl)
theorem lhB_r (L : List GLayer) (n : Nat) (j a b : Int) (hl : ¬ j < (L.length : Int)) : d_ref09_Total_L0 L (n + 1) j ⟨a, b, 0⟩ = some (.inl ⟨a, b, 0⟩) :=
  T.by_go [.b (j < ↑(List.length L))]
    0 (T.prs [0]) (t_ref09_Total_L0_ok _ _ _ _)
    T.okS (by kernel_rfl)
theorem sa0_r (B : List Int) (R : List GRoll) (S : List GSale) (rc : GReceipt) (L : List GLayer) (hR : (R.length : Int) = 4) (hL : L.length ≤ 1000) : d_stock_At (F1 (F70 (F4 L 0)) B R S rc) 0 0 0 = some (F4 L 0) :=
  T.by_go [.a ((↑(List.length R) : Int) ≥ 4),
    .a (List.length L ≤ 68719476736)]
    6 (T.prs [9000,1]) (t_stock_At_ok _ _ _ _)
    T.okS (by kernel_rfl)
theorem sa1_r (B : List Int) (R : List GRoll) (S : List GSale) (rc : GReceipt) (L : List GLayer) (hR : (R.length : Int) = 4) (hL : L.length ≤ 1000) : d_stock_At (F1 (F70 (F4 L 0)) B R S rc) 0 0 1 = some (F4 [] 0) :=
  T.by_go [.a ((↑(List.length R) : Int) ≥ 4)]
    6 (T.prs [10000]) (t_stock_At_ok _ _ _ _)
    T.okS (by kernel_rfl)
end Go.Pv
