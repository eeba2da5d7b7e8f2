/- Runs with symbols. -/
import Derived.Test.YtpbcnilkippahaaM53
set_option linter.unusedSimpArgs false
set_option linter.unusedVariables false
namespace Go.Pv
open Go.Proofs
set_option maxRecDepth 100000
set_option maxHeartbeats 4000000
theorem ow1_0 (a b c p : Int) (e1 : d_law00_Place a 16 = some 0) (e2 : d_law00_Place b 10 = some 0) (e3 : d_law00_Place c 1000 = some p) (h1 : 0 ≤ p) (h2 : p < 1000) : d_law05_OpsWrong 60 a b c = some (true) :=
  T.by_go [.o ((Go.Pv.d_law00_Place a 16).map .z) (.z (0)),
    .o ((Go.Pv.d_law00_Place c 1000).map .z) (.z (p)),
    .s (1 + p),
    .o ((Go.Pv.d_law00_Place b 10).map .z) (.z (0)),
    .w (16 + (1 + p)) (17 + p),
    .b (17 + p < 1),
    .a (17 + p > 16)]
    0 (T.prs [1000,1,50002,1003,4,5,4006,5,213006]) (t_law05_OpsWrong_ok _ _ _ _)
    T.okS (by kernel_rfl)
theorem ow1_1 (a b c p : Int) (e1 : d_law00_Place a 16 = some 0) (e2 : d_law00_Place b 10 = some 1) (e3 : d_law00_Place c 1000 = some p) (h1 : 0 ≤ p) (h2 : p < 1000) : d_law05_OpsWrong 60 a b c = some (true) :=
  T.by_go [.o ((Go.Pv.d_law00_Place a 16).map .z) (.z (0)),
    .o ((Go.Pv.d_law00_Place c 1000).map .z) (.z (p)),
    .s (1 + p),
    .o ((Go.Pv.d_law00_Place b 10).map .z) (.z (1)),
    .w (0 - (1 + p)) (-1 - p),
    .a (-1 - p < 1)]
    0 (T.prs [1000,1,50002,2003,4,4005,213005]) (t_law05_OpsWrong_ok _ _ _ _)
    T.okS (by kernel_rfl)
theorem ow1_2 (a b c p : Int) (e1 : d_law00_Place a 16 = some 0) (e2 : d_law00_Place b 10 = some 2) (e3 : d_law00_Place c 1000 = some p) (h1 : 0 ≤ p) (h2 : p < 1000) : d_law05_OpsWrong 60 a b c = some (true) :=
  T.by_go [.o ((Go.Pv.d_law00_Place a 16).map .z) (.z (0)),
    .o ((Go.Pv.d_law00_Place c 1000).map .z) (.z (p)),
    .s (1 + p),
    .o ((Go.Pv.d_law00_Place b 10).map .z) (.z (2)),
    .w (3 + (1 + p)) (4 + p),
    .b (4 + p < 0),
    .a (4 + p > 3)]
    0 (T.prs [1000,1,50002,3003,4004,5,8006,5,213006]) (t_law05_OpsWrong_ok _ _ _ _)
    T.okS (by kernel_rfl)
theorem ow1_3 (a b c p : Int) (e1 : d_law00_Place a 16 = some 0) (e2 : d_law00_Place b 10 = some 3) (e3 : d_law00_Place c 1000 = some p) (h1 : 0 ≤ p) (h2 : p < 1000) : d_law05_OpsWrong 60 a b c = some (true) :=
  T.by_go [.o ((Go.Pv.d_law00_Place a 16).map .z) (.z (0)),
    .o ((Go.Pv.d_law00_Place c 1000).map .z) (.z (p)),
    .s (1 + p),
    .o ((Go.Pv.d_law00_Place b 10).map .z) (.z (3)),
    .w (0 - (1 + p)) (-1 - p),
    .a (-1 - p < 0)]
    0 (T.prs [1000,1,50002,4003,9004,13005,213005]) (t_law05_OpsWrong_ok _ _ _ _)
    T.okS (by kernel_rfl)
theorem ow1_4 (a b c p : Int) (e1 : d_law00_Place a 16 = some 0) (e2 : d_law00_Place b 10 = some 4) (e3 : d_law00_Place c 1000 = some p) (h1 : 0 ≤ p) (h2 : p < 1000) : d_law05_OpsWrong 60 a b c = some (true) :=
  T.by_go [.o ((Go.Pv.d_law00_Place a 16).map .z) (.z (0)),
    .o ((Go.Pv.d_law00_Place c 1000).map .z) (.z (p)),
    .s (1 + p),
    .o ((Go.Pv.d_law00_Place b 10).map .z) (.z (4)),
    .w (1 + (1 + p)) (2 + p),
    .b (2 + p < 0),
    .a (2 + p > 1)]
    0 (T.prs [1000,1,50002,5003,15004,5,19006,5,213006]) (t_law05_OpsWrong_ok _ _ _ _)
    T.okS (by kernel_rfl)
theorem ow1_5 (a b c p : Int) (e1 : d_law00_Place a 16 = some 0) (e2 : d_law00_Place b 10 = some 5) (e3 : d_law00_Place c 1000 = some p) (h1 : 0 ≤ p) (h2 : p < 1000) : d_law05_OpsWrong 60 a b c = some (true) :=
  T.by_go [.o ((Go.Pv.d_law00_Place a 16).map .z) (.z (0)),
    .o ((Go.Pv.d_law00_Place c 1000).map .z) (.z (p)),
    .s (1 + p),
    .o ((Go.Pv.d_law00_Place b 10).map .z) (.z (5)),
    .w (3 + (1 + p)) (4 + p),
    .b (4 + p < 0),
    .a (4 + p > 0)]
    0 (T.prs [1000,1,50002,6003,18004,5,22006,5,213006]) (t_law05_OpsWrong_ok _ _ _ _)
    T.okS (by kernel_rfl)
theorem ow1_6 (a b c p : Int) (e1 : d_law00_Place a 16 = some 0) (e2 : d_law00_Place b 10 = some 6) (e3 : d_law00_Place c 1000 = some p) (h1 : 0 ≤ p) (h2 : p < 1000) : d_law05_OpsWrong 60 a b c = some (true) :=
  T.by_go [.o ((Go.Pv.d_law00_Place a 16).map .z) (.z (0)),
    .o ((Go.Pv.d_law00_Place c 1000).map .z) (.z (p)),
    .s (1 + p),
    .o ((Go.Pv.d_law00_Place b 10).map .z) (.z (6)),
    .w (0 - (1 + p)) (-1 - p),
    .a (-1 - p < 1)]
    0 (T.prs [1000,1,50002,7003,27004,31005,213005]) (t_law05_OpsWrong_ok _ _ _ _)
    T.okS (by kernel_rfl)
theorem ow1_7 (a b c p : Int) (e1 : d_law00_Place a 16 = some 0) (e2 : d_law00_Place b 10 = some 7) (e3 : d_law00_Place c 1000 = some p) (h1 : 0 ≤ p) (h2 : p < 1000) : d_law05_OpsWrong 60 a b c = some (true) :=
  T.by_go [.o ((Go.Pv.d_law00_Place a 16).map .z) (.z (0)),
    .o ((Go.Pv.d_law00_Place c 1000).map .z) (.z (p)),
    .s (1 + p),
    .o ((Go.Pv.d_law00_Place b 10).map .z) (.z (7)),
    .w (1125899906842624 + (1 + p)) (1125899906842625 + p),
    .b (1125899906842625 + p < 0),
    .a (1125899906842625 + p > 1125899906842624)]
    0 (T.prs [1000,1,50002,8003,38004,5,42006,5,213006]) (t_law05_OpsWrong_ok _ _ _ _)
    T.okS (by kernel_rfl)
theorem ow1_8 (a b c p : Int) (e1 : d_law00_Place a 16 = some 0) (e2 : d_law00_Place b 10 = some 8) (e3 : d_law00_Place c 1000 = some p) (h1 : 0 ≤ p) (h2 : p < 1000) : d_law05_OpsWrong 60 a b c = some (true) :=
  T.by_go [.o ((Go.Pv.d_law00_Place a 16).map .z) (.z (0)),
    .o ((Go.Pv.d_law00_Place c 1000).map .z) (.z (p)),
    .s (1 + p),
    .o ((Go.Pv.d_law00_Place b 10).map .z) (.z (8)),
    .w (39 + (1 + p)) (40 + p),
    .b (40 + p < 0),
    .a (40 + p > 0)]
    0 (T.prs [1000,1,50002,9003,41004,5,45006,5,213006]) (t_law05_OpsWrong_ok _ _ _ _)
    T.okS (by kernel_rfl)
theorem ow1_9 (a b c p : Int) (e1 : d_law00_Place a 16 = some 0) (e2 : d_law00_Place b 10 = some 9) (e3 : d_law00_Place c 1000 = some p) (h1 : 0 ≤ p) (h2 : p < 1000) : d_law05_OpsWrong 60 a b c = some (true) :=
  T.by_go [.o ((Go.Pv.d_law00_Place a 16).map .z) (.z (0)),
    .o ((Go.Pv.d_law00_Place c 1000).map .z) (.z (p)),
    .s (1 + p),
    .o ((Go.Pv.d_law00_Place b 10).map .z) (.z (9)),
    .w (0 - (1 + p)) (-1 - p)]
    0 (T.prs [1000,1,50002,9003,308004]) (t_law05_OpsWrong_ok _ _ _ _)
    T.okS (by kernel_rfl)
theorem ow2_0 (a b c p : Int) (e1 : d_law00_Place a 16 = some 1) (e2 : d_law00_Place b 10 = some 0) (e3 : d_law00_Place c 1000 = some p) (h1 : 0 ≤ p) (h2 : p < 1000) : d_law05_OpsWrong 60 a b c = some (true) :=
  T.by_go [.o ((Go.Pv.d_law00_Place a 16).map .z) (.z (1)),
    .o ((Go.Pv.d_law00_Place c 1000).map .z) (.z (p)),
    .s (1 + p),
    .o ((Go.Pv.d_law00_Place b 10).map .z) (.z (0)),
    .w (16 + (1 + p)) (17 + p),
    .b (17 + p < 1),
    .a (17 + p > 16)]
    0 (T.prs [1000,1,51002,1003,4,5,4006,5,213006]) (t_law05_OpsWrong_ok _ _ _ _)
    T.okS (by kernel_rfl)
theorem ow2_1 (a b c p : Int) (e1 : d_law00_Place a 16 = some 1) (e2 : d_law00_Place b 10 = some 1) (e3 : d_law00_Place c 1000 = some p) (h1 : 0 ≤ p) (h2 : p < 1000) : d_law05_OpsWrong 60 a b c = some (true) :=
  T.by_go [.o ((Go.Pv.d_law00_Place a 16).map .z) (.z (1)),
    .o ((Go.Pv.d_law00_Place c 1000).map .z) (.z (p)),
    .s (1 + p),
    .o ((Go.Pv.d_law00_Place b 10).map .z) (.z (1)),
    .w (0 - (1 + p)) (-1 - p),
    .a (-1 - p < 1)]
    0 (T.prs [1000,1,51002,2003,4,4005,213005]) (t_law05_OpsWrong_ok _ _ _ _)
    T.okS (by kernel_rfl)
theorem ow2_2 (a b c p : Int) (e1 : d_law00_Place a 16 = some 1) (e2 : d_law00_Place b 10 = some 2) (e3 : d_law00_Place c 1000 = some p) (h1 : 0 ≤ p) (h2 : p < 1000) : d_law05_OpsWrong 60 a b c = some (true) :=
  T.by_go [.o ((Go.Pv.d_law00_Place a 16).map .z) (.z (1)),
    .o ((Go.Pv.d_law00_Place c 1000).map .z) (.z (p)),
    .s (1 + p),
    .o ((Go.Pv.d_law00_Place b 10).map .z) (.z (2)),
    .w (3 + (1 + p)) (4 + p),
    .b (4 + p < 0),
    .a (4 + p > 0)]
    0 (T.prs [1000,1,51002,3003,3004,5,7006,5,213006]) (t_law05_OpsWrong_ok _ _ _ _)
    T.okS (by kernel_rfl)
theorem ow2_3 (a b c p : Int) (e1 : d_law00_Place a 16 = some 1) (e2 : d_law00_Place b 10 = some 3) (e3 : d_law00_Place c 1000 = some p) (h1 : 0 ≤ p) (h2 : p < 1000) : d_law05_OpsWrong 60 a b c = some (true) :=
  T.by_go [.o ((Go.Pv.d_law00_Place a 16).map .z) (.z (1)),
    .o ((Go.Pv.d_law00_Place c 1000).map .z) (.z (p)),
    .s (1 + p),
    .o ((Go.Pv.d_law00_Place b 10).map .z) (.z (3)),
    .w (0 - (1 + p)) (-1 - p),
    .a (-1 - p < 0)]
    0 (T.prs [1000,1,51002,4003,6004,10005,213005]) (t_law05_OpsWrong_ok _ _ _ _)
    T.okS (by kernel_rfl)
theorem ow2_4 (a b c p : Int) (e1 : d_law00_Place a 16 = some 1) (e2 : d_law00_Place b 10 = some 4) (e3 : d_law00_Place c 1000 = some p) (h1 : 0 ≤ p) (h2 : p < 1000) : d_law05_OpsWrong 60 a b c = some (true) :=
  T.by_go [.o ((Go.Pv.d_law00_Place a 16).map .z) (.z (1)),
    .o ((Go.Pv.d_law00_Place c 1000).map .z) (.z (p)),
    .s (1 + p),
    .o ((Go.Pv.d_law00_Place b 10).map .z) (.z (4)),
    .w (1 + (1 + p)) (2 + p),
    .b (2 + p < 0),
    .a (2 + p > 0)]
    0 (T.prs [1000,1,51002,5003,9004,5,13006,5,213006]) (t_law05_OpsWrong_ok _ _ _ _)
    T.okS (by kernel_rfl)
theorem ow2_5 (a b c p : Int) (e1 : d_law00_Place a 16 = some 1) (e2 : d_law00_Place b 10 = some 5) (e3 : d_law00_Place c 1000 = some p) (h1 : 0 ≤ p) (h2 : p < 1000) : d_law05_OpsWrong 60 a b c = some (true) :=
  T.by_go [.o ((Go.Pv.d_law00_Place a 16).map .z) (.z (1)),
    .o ((Go.Pv.d_law00_Place c 1000).map .z) (.z (p)),
    .s (1 + p),
    .o ((Go.Pv.d_law00_Place b 10).map .z) (.z (5)),
    .w (3 + (1 + p)) (4 + p),
    .b (4 + p < 0),
    .a (4 + p > 0)]
    0 (T.prs [1000,1,51002,6003,12004,5,16006,5,213006]) (t_law05_OpsWrong_ok _ _ _ _)
    T.okS (by kernel_rfl)
theorem ow2_6 (a b c p : Int) (e1 : d_law00_Place a 16 = some 1) (e2 : d_law00_Place b 10 = some 6) (e3 : d_law00_Place c 1000 = some p) (h1 : 0 ≤ p) (h2 : p < 1000) : d_law05_OpsWrong 60 a b c = some (true) :=
  T.by_go [.o ((Go.Pv.d_law00_Place a 16).map .z) (.z (1)),
    .o ((Go.Pv.d_law00_Place c 1000).map .z) (.z (p)),
    .s (1 + p),
    .o ((Go.Pv.d_law00_Place b 10).map .z) (.z (6)),
    .w (0 - (1 + p)) (-1 - p),
    .a (-1 - p < 1)]
    0 (T.prs [1000,1,51002,7003,21004,25005,213005]) (t_law05_OpsWrong_ok _ _ _ _)
    T.okS (by kernel_rfl)
theorem ow2_7 (a b c p : Int) (e1 : d_law00_Place a 16 = some 1) (e2 : d_law00_Place b 10 = some 7) (e3 : d_law00_Place c 1000 = some p) (h1 : 0 ≤ p) (h2 : p < 1000) : d_law05_OpsWrong 60 a b c = some (true) :=
  T.by_go [.o ((Go.Pv.d_law00_Place a 16).map .z) (.z (1)),
    .o ((Go.Pv.d_law00_Place c 1000).map .z) (.z (p)),
    .s (1 + p),
    .o ((Go.Pv.d_law00_Place b 10).map .z) (.z (7)),
    .w (1125899906842624 + (1 + p)) (1125899906842625 + p),
    .b (1125899906842625 + p < 0),
    .a (1125899906842625 + p > 1125899906842624)]
    0 (T.prs [1000,1,51002,8003,32004,5,36006,5,213006]) (t_law05_OpsWrong_ok _ _ _ _)
    T.okS (by kernel_rfl)
theorem ow2_8 (a b c p : Int) (e1 : d_law00_Place a 16 = some 1) (e2 : d_law00_Place b 10 = some 8) (e3 : d_law00_Place c 1000 = some p) (h1 : 0 ≤ p) (h2 : p < 1000) : d_law05_OpsWrong 60 a b c = some (true) :=
  T.by_go [.o ((Go.Pv.d_law00_Place a 16).map .z) (.z (1)),
    .o ((Go.Pv.d_law00_Place c 1000).map .z) (.z (p)),
    .s (1 + p),
    .o ((Go.Pv.d_law00_Place b 10).map .z) (.z (8)),
    .w (39 + (1 + p)) (40 + p),
    .b (40 + p < 0),
    .a (40 + p > 39)]
    0 (T.prs [1000,1,51002,9003,41004,5,45006,5,213006]) (t_law05_OpsWrong_ok _ _ _ _)
    T.okS (by kernel_rfl)
theorem ow2_9 (a b c p : Int) (e1 : d_law00_Place a 16 = some 1) (e2 : d_law00_Place b 10 = some 9) (e3 : d_law00_Place c 1000 = some p) (h1 : 0 ≤ p) (h2 : p < 1000) : d_law05_OpsWrong 60 a b c = some (true) :=
  T.by_go [.o ((Go.Pv.d_law00_Place a 16).map .z) (.z (1)),
    .o ((Go.Pv.d_law00_Place c 1000).map .z) (.z (p)),
    .s (1 + p),
    .o ((Go.Pv.d_law00_Place b 10).map .z) (.z (9)),
    .w (0 - (1 + p)) (-1 - p)]
    0 (T.prs [1000,1,51002,9003,308004]) (t_law05_OpsWrong_ok _ _ _ _)
    T.okS (by kernel_rfl)
theorem ow3_0 (a b c p : Int) (e1 : d_law00_Place a 16 = some 2) (e2 : d_law00_Place b 10 = some 0) (e3 : d_law00_Place c 1000 = some p) (h1 : 0 ≤ p) (h2 : p < 1000) : d_law05_OpsWrong 60 a b c = some (true) :=
  T.by_go [.o ((Go.Pv.d_law00_Place a 16).map .z) (.z (2)),
    .o ((Go.Pv.d_law00_Place c 1000).map .z) (.z (p)),
    .s (1 + p),
    .o ((Go.Pv.d_law00_Place b 10).map .z) (.z (0)),
    .w (16 + (1 + p)) (17 + p),
    .b (17 + p < 1),
    .a (17 + p > 16)]
    0 (T.prs [1000,1,44002,1003,4,5,4006,5,213006]) (t_law05_OpsWrong_ok _ _ _ _)
    T.okS (by kernel_rfl)
theorem ow3_1 (a b c p : Int) (e1 : d_law00_Place a 16 = some 2) (e2 : d_law00_Place b 10 = some 1) (e3 : d_law00_Place c 1000 = some p) (h1 : 0 ≤ p) (h2 : p < 1000) : d_law05_OpsWrong 60 a b c = some (true) :=
  T.by_go [.o ((Go.Pv.d_law00_Place a 16).map .z) (.z (2)),
    .o ((Go.Pv.d_law00_Place c 1000).map .z) (.z (p)),
    .s (1 + p),
    .o ((Go.Pv.d_law00_Place b 10).map .z) (.z (1)),
    .w (0 - (1 + p)) (-1 - p),
    .a (-1 - p < 1)]
    0 (T.prs [1000,1,44002,2003,4,4005,213005]) (t_law05_OpsWrong_ok _ _ _ _)
    T.okS (by kernel_rfl)
theorem ow3_2 (a b c p : Int) (e1 : d_law00_Place a 16 = some 2) (e2 : d_law00_Place b 10 = some 2) (e3 : d_law00_Place c 1000 = some p) (h1 : 0 ≤ p) (h2 : p < 1000) : d_law05_OpsWrong 60 a b c = some (true) :=
  T.by_go [.o ((Go.Pv.d_law00_Place a 16).map .z) (.z (2)),
    .o ((Go.Pv.d_law00_Place c 1000).map .z) (.z (p)),
    .s (1 + p),
    .o ((Go.Pv.d_law00_Place b 10).map .z) (.z (2)),
    .w (3 + (1 + p)) (4 + p),
    .b (4 + p < 0),
    .a (4 + p > 0)]
    0 (T.prs [1000,1,44002,3003,3004,5,7006,5,213006]) (t_law05_OpsWrong_ok _ _ _ _)
    T.okS (by kernel_rfl)
theorem ow3_3 (a b c p : Int) (e1 : d_law00_Place a 16 = some 2) (e2 : d_law00_Place b 10 = some 3) (e3 : d_law00_Place c 1000 = some p) (h1 : 0 ≤ p) (h2 : p < 1000) : d_law05_OpsWrong 60 a b c = some (true) :=
  T.by_go [.o ((Go.Pv.d_law00_Place a 16).map .z) (.z (2)),
    .o ((Go.Pv.d_law00_Place c 1000).map .z) (.z (p)),
    .s (1 + p),
    .o ((Go.Pv.d_law00_Place b 10).map .z) (.z (3)),
    .w (0 - (1 + p)) (-1 - p),
    .a (-1 - p < 0)]
    0 (T.prs [1000,1,44002,4003,6004,10005,213005]) (t_law05_OpsWrong_ok _ _ _ _)
    T.okS (by kernel_rfl)
theorem ow3_4 (a b c p : Int) (e1 : d_law00_Place a 16 = some 2) (e2 : d_law00_Place b 10 = some 4) (e3 : d_law00_Place c 1000 = some p) (h1 : 0 ≤ p) (h2 : p < 1000) : d_law05_OpsWrong 60 a b c = some (true) :=
  T.by_go [.o ((Go.Pv.d_law00_Place a 16).map .z) (.z (2)),
    .o ((Go.Pv.d_law00_Place c 1000).map .z) (.z (p)),
    .s (1 + p),
    .o ((Go.Pv.d_law00_Place b 10).map .z) (.z (4)),
    .w (1 + (1 + p)) (2 + p),
    .b (2 + p < 0),
    .a (2 + p > 0)]
    0 (T.prs [1000,1,44002,5003,9004,5,13006,5,213006]) (t_law05_OpsWrong_ok _ _ _ _)
    T.okS (by kernel_rfl)
theorem ow3_5 (a b c p : Int) (e1 : d_law00_Place a 16 = some 2) (e2 : d_law00_Place b 10 = some 5) (e3 : d_law00_Place c 1000 = some p) (h1 : 0 ≤ p) (h2 : p < 1000) : d_law05_OpsWrong 60 a b c = some (true) :=
  T.by_go [.o ((Go.Pv.d_law00_Place a 16).map .z) (.z (2)),
    .o ((Go.Pv.d_law00_Place c 1000).map .z) (.z (p)),
    .s (1 + p),
    .o ((Go.Pv.d_law00_Place b 10).map .z) (.z (5)),
    .w (3 + (1 + p)) (4 + p),
    .b (4 + p < 0),
    .a (4 + p > 0)]
    0 (T.prs [1000,1,44002,6003,12004,5,16006,5,213006]) (t_law05_OpsWrong_ok _ _ _ _)
    T.okS (by kernel_rfl)
theorem ow3_6 (a b c p : Int) (e1 : d_law00_Place a 16 = some 2) (e2 : d_law00_Place b 10 = some 6) (e3 : d_law00_Place c 1000 = some p) (h1 : 0 ≤ p) (h2 : p < 1000) : d_law05_OpsWrong 60 a b c = some (true) :=
  T.by_go [.o ((Go.Pv.d_law00_Place a 16).map .z) (.z (2)),
    .o ((Go.Pv.d_law00_Place c 1000).map .z) (.z (p)),
    .s (1 + p),
    .o ((Go.Pv.d_law00_Place b 10).map .z) (.z (6)),
    .w (0 - (1 + p)) (-1 - p),
    .a (-1 - p < 1)]
    0 (T.prs [1000,1,44002,7003,21004,25005,213005]) (t_law05_OpsWrong_ok _ _ _ _)
    T.okS (by kernel_rfl)
theorem ow3_7 (a b c p : Int) (e1 : d_law00_Place a 16 = some 2) (e2 : d_law00_Place b 10 = some 7) (e3 : d_law00_Place c 1000 = some p) (h1 : 0 ≤ p) (h2 : p < 1000) : d_law05_OpsWrong 60 a b c = some (true) :=
  T.by_go [.o ((Go.Pv.d_law00_Place a 16).map .z) (.z (2)),
    .o ((Go.Pv.d_law00_Place c 1000).map .z) (.z (p)),
    .s (1 + p),
    .o ((Go.Pv.d_law00_Place b 10).map .z) (.z (7)),
    .w (1125899906842624 + (1 + p)) (1125899906842625 + p),
    .b (1125899906842625 + p < 0),
    .a (1125899906842625 + p > 0)]
    0 (T.prs [1000,1,44002,8003,24004,5,28006,5,213006]) (t_law05_OpsWrong_ok _ _ _ _)
    T.okS (by kernel_rfl)
theorem ow3_8 (a b c p : Int) (e1 : d_law00_Place a 16 = some 2) (e2 : d_law00_Place b 10 = some 8) (e3 : d_law00_Place c 1000 = some p) (h1 : 0 ≤ p) (h2 : p < 1000) : d_law05_OpsWrong 60 a b c = some (true) :=
  T.by_go [.o ((Go.Pv.d_law00_Place a 16).map .z) (.z (2)),
    .o ((Go.Pv.d_law00_Place c 1000).map .z) (.z (p)),
    .s (1 + p),
    .o ((Go.Pv.d_law00_Place b 10).map .z) (.z (8)),
    .w (39 + (1 + p)) (40 + p),
    .b (40 + p < 0),
    .a (40 + p > 39)]
    0 (T.prs [1000,1,44002,9003,33004,5,37006,5,213006]) (t_law05_OpsWrong_ok _ _ _ _)
    T.okS (by kernel_rfl)
theorem ow3_9 (a b c p : Int) (e1 : d_law00_Place a 16 = some 2) (e2 : d_law00_Place b 10 = some 9) (e3 : d_law00_Place c 1000 = some p) (h1 : 0 ≤ p) (h2 : p < 1000) : d_law05_OpsWrong 60 a b c = some (true) :=
  T.by_go [.o ((Go.Pv.d_law00_Place a 16).map .z) (.z (2)),
    .o ((Go.Pv.d_law00_Place c 1000).map .z) (.z (p)),
    .s (1 + p),
    .o ((Go.Pv.d_law00_Place b 10).map .z) (.z (9)),
    .w (0 - (1 + p)) (-1 - p)]
    0 (T.prs [1000,1,44002,9003,292004]) (t_law05_OpsWrong_ok _ _ _ _)
    T.okS (by kernel_rfl)
theorem ow4_0 (a b c p : Int) (e1 : d_law00_Place a 16 = some 3) (e2 : d_law00_Place b 10 = some 0) (e3 : d_law00_Place c 1000 = some p) (h1 : 0 ≤ p) (h2 : p < 1000) : d_law05_OpsWrong 60 a b c = some (true) :=
  T.by_go [.o ((Go.Pv.d_law00_Place a 16).map .z) (.z (3)),
    .o ((Go.Pv.d_law00_Place c 1000).map .z) (.z (p)),
    .s (1 + p),
    .o ((Go.Pv.d_law00_Place b 10).map .z) (.z (0)),
    .w (16 + (1 + p)) (17 + p),
    .b (17 + p < 1),
    .a (17 + p > 16)]
    0 (T.prs [1000,1,53002,1003,4,5,4006,5,213006]) (t_law05_OpsWrong_ok _ _ _ _)
    T.okS (by kernel_rfl)
theorem ow4_1 (a b c p : Int) (e1 : d_law00_Place a 16 = some 3) (e2 : d_law00_Place b 10 = some 1) (e3 : d_law00_Place c 1000 = some p) (h1 : 0 ≤ p) (h2 : p < 1000) : d_law05_OpsWrong 60 a b c = some (true) :=
  T.by_go [.o ((Go.Pv.d_law00_Place a 16).map .z) (.z (3)),
    .o ((Go.Pv.d_law00_Place c 1000).map .z) (.z (p)),
    .s (1 + p),
    .o ((Go.Pv.d_law00_Place b 10).map .z) (.z (1)),
    .w (0 - (1 + p)) (-1 - p),
    .a (-1 - p < 1)]
    0 (T.prs [1000,1,53002,2003,4,4005,213005]) (t_law05_OpsWrong_ok _ _ _ _)
    T.okS (by kernel_rfl)
theorem ow4_2 (a b c p : Int) (e1 : d_law00_Place a 16 = some 3) (e2 : d_law00_Place b 10 = some 2) (e3 : d_law00_Place c 1000 = some p) (h1 : 0 ≤ p) (h2 : p < 1000) : d_law05_OpsWrong 60 a b c = some (true) :=
  T.by_go [.o ((Go.Pv.d_law00_Place a 16).map .z) (.z (3)),
    .o ((Go.Pv.d_law00_Place c 1000).map .z) (.z (p)),
    .s (1 + p),
    .o ((Go.Pv.d_law00_Place b 10).map .z) (.z (2)),
    .w (3 + (1 + p)) (4 + p),
    .b (4 + p < 0),
    .a (4 + p > 3)]
    0 (T.prs [1000,1,53002,3003,4004,5,8006,5,213006]) (t_law05_OpsWrong_ok _ _ _ _)
    T.okS (by kernel_rfl)
theorem ow4_3 (a b c p : Int) (e1 : d_law00_Place a 16 = some 3) (e2 : d_law00_Place b 10 = some 3) (e3 : d_law00_Place c 1000 = some p) (h1 : 0 ≤ p) (h2 : p < 1000) : d_law05_OpsWrong 60 a b c = some (true) :=
  T.by_go [.o ((Go.Pv.d_law00_Place a 16).map .z) (.z (3)),
    .o ((Go.Pv.d_law00_Place c 1000).map .z) (.z (p)),
    .s (1 + p),
    .o ((Go.Pv.d_law00_Place b 10).map .z) (.z (3)),
    .w (0 - (1 + p)) (-1 - p),
    .a (-1 - p < 0)]
    0 (T.prs [1000,1,53002,4003,9004,13005,213005]) (t_law05_OpsWrong_ok _ _ _ _)
    T.okS (by kernel_rfl)
theorem ow4_4 (a b c p : Int) (e1 : d_law00_Place a 16 = some 3) (e2 : d_law00_Place b 10 = some 4) (e3 : d_law00_Place c 1000 = some p) (h1 : 0 ≤ p) (h2 : p < 1000) : d_law05_OpsWrong 60 a b c = some (true) :=
  T.by_go [.o ((Go.Pv.d_law00_Place a 16).map .z) (.z (3)),
    .o ((Go.Pv.d_law00_Place c 1000).map .z) (.z (p)),
    .s (1 + p),
    .o ((Go.Pv.d_law00_Place b 10).map .z) (.z (4)),
    .w (1 + (1 + p)) (2 + p),
    .b (2 + p < 0),
    .a (2 + p > 1)]
    0 (T.prs [1000,1,53002,5003,15004,5,19006,5,213006]) (t_law05_OpsWrong_ok _ _ _ _)
    T.okS (by kernel_rfl)
theorem ow4_5 (a b c p : Int) (e1 : d_law00_Place a 16 = some 3) (e2 : d_law00_Place b 10 = some 5) (e3 : d_law00_Place c 1000 = some p) (h1 : 0 ≤ p) (h2 : p < 1000) : d_law05_OpsWrong 60 a b c = some (true) :=
  T.by_go [.o ((Go.Pv.d_law00_Place a 16).map .z) (.z (3)),
    .o ((Go.Pv.d_law00_Place c 1000).map .z) (.z (p)),
    .s (1 + p),
    .o ((Go.Pv.d_law00_Place b 10).map .z) (.z (5)),
    .w (3 + (1 + p)) (4 + p),
    .b (4 + p < 0),
    .a (4 + p > 0)]
    0 (T.prs [1000,1,53002,6003,18004,5,22006,5,213006]) (t_law05_OpsWrong_ok _ _ _ _)
    T.okS (by kernel_rfl)
theorem ow4_6 (a b c p : Int) (e1 : d_law00_Place a 16 = some 3) (e2 : d_law00_Place b 10 = some 6) (e3 : d_law00_Place c 1000 = some p) (h1 : 0 ≤ p) (h2 : p < 1000) : d_law05_OpsWrong 60 a b c = some (true) :=
  T.by_go [.o ((Go.Pv.d_law00_Place a 16).map .z) (.z (3)),
    .o ((Go.Pv.d_law00_Place c 1000).map .z) (.z (p)),
    .s (1 + p),
    .o ((Go.Pv.d_law00_Place b 10).map .z) (.z (6)),
    .w (0 - (1 + p)) (-1 - p),
    .a (-1 - p < 1)]
    0 (T.prs [1000,1,53002,7003,27004,31005,213005]) (t_law05_OpsWrong_ok _ _ _ _)
    T.okS (by kernel_rfl)
theorem ow4_7 (a b c p : Int) (e1 : d_law00_Place a 16 = some 3) (e2 : d_law00_Place b 10 = some 7) (e3 : d_law00_Place c 1000 = some p) (h1 : 0 ≤ p) (h2 : p < 1000) : d_law05_OpsWrong 60 a b c = some (true) :=
  T.by_go [.o ((Go.Pv.d_law00_Place a 16).map .z) (.z (3)),
    .o ((Go.Pv.d_law00_Place c 1000).map .z) (.z (p)),
    .s (1 + p),
    .o ((Go.Pv.d_law00_Place b 10).map .z) (.z (7)),
    .w (1125899906842624 + (1 + p)) (1125899906842625 + p),
    .b (1125899906842625 + p < 0),
    .a (1125899906842625 + p > 1125899906842624)]
    0 (T.prs [1000,1,53002,8003,38004,5,42006,5,213006]) (t_law05_OpsWrong_ok _ _ _ _)
    T.okS (by kernel_rfl)
theorem ow4_8 (a b c p : Int) (e1 : d_law00_Place a 16 = some 3) (e2 : d_law00_Place b 10 = some 8) (e3 : d_law00_Place c 1000 = some p) (h1 : 0 ≤ p) (h2 : p < 1000) : d_law05_OpsWrong 60 a b c = some (true) :=
  T.by_go [.o ((Go.Pv.d_law00_Place a 16).map .z) (.z (3)),
    .o ((Go.Pv.d_law00_Place c 1000).map .z) (.z (p)),
    .s (1 + p),
    .o ((Go.Pv.d_law00_Place b 10).map .z) (.z (8)),
    .w (39 + (1 + p)) (40 + p),
    .b (40 + p < 0),
    .a (40 + p > 0)]
    0 (T.prs [1000,1,53002,9003,41004,5,45006,5,213006]) (t_law05_OpsWrong_ok _ _ _ _)
    T.okS (by kernel_rfl)
theorem ow4_9 (a b c p : Int) (e1 : d_law00_Place a 16 = some 3) (e2 : d_law00_Place b 10 = some 9) (e3 : d_law00_Place c 1000 = some p) (h1 : 0 ≤ p) (h2 : p < 1000) : d_law05_OpsWrong 60 a b c = some (true) :=
  T.by_go [.o ((Go.Pv.d_law00_Place a 16).map .z) (.z (3)),
    .o ((Go.Pv.d_law00_Place c 1000).map .z) (.z (p)),
    .s (1 + p),
    .o ((Go.Pv.d_law00_Place b 10).map .z) (.z (9)),
    .w (0 - (1 + p)) (-1 - p)]
    0 (T.prs [1000,1,53002,9003,308004]) (t_law05_OpsWrong_ok _ _ _ _)
    T.okS (by kernel_rfl)
theorem ow5_0 (a b c p : Int) (e1 : d_law00_Place a 16 = some 4) (e2 : d_law00_Place b 10 = some 0) (e3 : d_law00_Place c 1000 = some p) (h1 : 0 ≤ p) (h2 : p < 1000) : d_law05_OpsWrong 60 a b c = some (true) :=
  T.by_go [.o ((Go.Pv.d_law00_Place a 16).map .z) (.z (4)),
    .o ((Go.Pv.d_law00_Place c 1000).map .z) (.z (p)),
    .s (1 + p),
    .o ((Go.Pv.d_law00_Place b 10).map .z) (.z (0)),
    .w (16 + (1 + p)) (17 + p),
    .b (17 + p < 1),
    .a (17 + p > 16)]
    0 (T.prs [1000,1,54002,1003,4,5,4006,5,213006]) (t_law05_OpsWrong_ok _ _ _ _)
    T.okS (by kernel_rfl)
theorem ow5_1 (a b c p : Int) (e1 : d_law00_Place a 16 = some 4) (e2 : d_law00_Place b 10 = some 1) (e3 : d_law00_Place c 1000 = some p) (h1 : 0 ≤ p) (h2 : p < 1000) : d_law05_OpsWrong 60 a b c = some (true) :=
  T.by_go [.o ((Go.Pv.d_law00_Place a 16).map .z) (.z (4)),
    .o ((Go.Pv.d_law00_Place c 1000).map .z) (.z (p)),
    .s (1 + p),
    .o ((Go.Pv.d_law00_Place b 10).map .z) (.z (1)),
    .w (0 - (1 + p)) (-1 - p),
    .a (-1 - p < 1)]
    0 (T.prs [1000,1,54002,2003,4,4005,213005]) (t_law05_OpsWrong_ok _ _ _ _)
    T.okS (by kernel_rfl)
theorem ow5_2 (a b c p : Int) (e1 : d_law00_Place a 16 = some 4) (e2 : d_law00_Place b 10 = some 2) (e3 : d_law00_Place c 1000 = some p) (h1 : 0 ≤ p) (h2 : p < 1000) : d_law05_OpsWrong 60 a b c = some (true) :=
  T.by_go [.o ((Go.Pv.d_law00_Place a 16).map .z) (.z (4)),
    .o ((Go.Pv.d_law00_Place c 1000).map .z) (.z (p)),
    .s (1 + p),
    .o ((Go.Pv.d_law00_Place b 10).map .z) (.z (2)),
    .w (3 + (1 + p)) (4 + p),
    .b (4 + p < 0),
    .a (4 + p > 0)]
    0 (T.prs [1000,1,54002,3003,3004,5,7006,5,213006]) (t_law05_OpsWrong_ok _ _ _ _)
    T.okS (by kernel_rfl)
theorem ow5_3 (a b c p : Int) (e1 : d_law00_Place a 16 = some 4) (e2 : d_law00_Place b 10 = some 3) (e3 : d_law00_Place c 1000 = some p) (h1 : 0 ≤ p) (h2 : p < 1000) : d_law05_OpsWrong 60 a b c = some (true) :=
  T.by_go [.o ((Go.Pv.d_law00_Place a 16).map .z) (.z (4)),
    .o ((Go.Pv.d_law00_Place c 1000).map .z) (.z (p)),
    .s (1 + p),
    .o ((Go.Pv.d_law00_Place b 10).map .z) (.z (3)),
    .w (0 - (1 + p)) (-1 - p),
    .a (-1 - p < 0)]
    0 (T.prs [1000,1,54002,4003,6004,10005,213005]) (t_law05_OpsWrong_ok _ _ _ _)
    T.okS (by kernel_rfl)
theorem ow5_4 (a b c p : Int) (e1 : d_law00_Place a 16 = some 4) (e2 : d_law00_Place b 10 = some 4) (e3 : d_law00_Place c 1000 = some p) (h1 : 0 ≤ p) (h2 : p < 1000) : d_law05_OpsWrong 60 a b c = some (true) :=
  T.by_go [.o ((Go.Pv.d_law00_Place a 16).map .z) (.z (4)),
    .o ((Go.Pv.d_law00_Place c 1000).map .z) (.z (p)),
    .s (1 + p),
    .o ((Go.Pv.d_law00_Place b 10).map .z) (.z (4)),
    .w (1 + (1 + p)) (2 + p),
    .b (2 + p < 0),
    .a (2 + p > 0)]
    0 (T.prs [1000,1,54002,5003,9004,5,13006,5,213006]) (t_law05_OpsWrong_ok _ _ _ _)
    T.okS (by kernel_rfl)
theorem ow5_5 (a b c p : Int) (e1 : d_law00_Place a 16 = some 4) (e2 : d_law00_Place b 10 = some 5) (e3 : d_law00_Place c 1000 = some p) (h1 : 0 ≤ p) (h2 : p < 1000) : d_law05_OpsWrong 60 a b c = some (true) :=
  T.by_go [.o ((Go.Pv.d_law00_Place a 16).map .z) (.z (4)),
    .o ((Go.Pv.d_law00_Place c 1000).map .z) (.z (p)),
    .s (1 + p),
    .o ((Go.Pv.d_law00_Place b 10).map .z) (.z (5)),
    .w (3 + (1 + p)) (4 + p),
    .b (4 + p < 0),
    .a (4 + p > 0)]
    0 (T.prs [1000,1,54002,6003,12004,5,16006,5,213006]) (t_law05_OpsWrong_ok _ _ _ _)
    T.okS (by kernel_rfl)
theorem ow5_6 (a b c p : Int) (e1 : d_law00_Place a 16 = some 4) (e2 : d_law00_Place b 10 = some 6) (e3 : d_law00_Place c 1000 = some p) (h1 : 0 ≤ p) (h2 : p < 1000) : d_law05_OpsWrong 60 a b c = some (true) :=
  T.by_go [.o ((Go.Pv.d_law00_Place a 16).map .z) (.z (4)),
    .o ((Go.Pv.d_law00_Place c 1000).map .z) (.z (p)),
    .s (1 + p),
    .o ((Go.Pv.d_law00_Place b 10).map .z) (.z (6)),
    .w (0 - (1 + p)) (-1 - p),
    .a (-1 - p < 1)]
    0 (T.prs [1000,1,54002,7003,21004,25005,213005]) (t_law05_OpsWrong_ok _ _ _ _)
    T.okS (by kernel_rfl)
theorem ow5_7 (a b c p : Int) (e1 : d_law00_Place a 16 = some 4) (e2 : d_law00_Place b 10 = some 7) (e3 : d_law00_Place c 1000 = some p) (h1 : 0 ≤ p) (h2 : p < 1000) : d_law05_OpsWrong 60 a b c = some (true) :=
  T.by_go [.o ((Go.Pv.d_law00_Place a 16).map .z) (.z (4)),
    .o ((Go.Pv.d_law00_Place c 1000).map .z) (.z (p)),
    .s (1 + p),
    .o ((Go.Pv.d_law00_Place b 10).map .z) (.z (7)),
    .w (1125899906842624 + (1 + p)) (1125899906842625 + p),
    .b (1125899906842625 + p < 0),
    .a (1125899906842625 + p > 1125899906842624)]
    0 (T.prs [1000,1,54002,8003,32004,5,36006,5,213006]) (t_law05_OpsWrong_ok _ _ _ _)
    T.okS (by kernel_rfl)
theorem ow5_8 (a b c p : Int) (e1 : d_law00_Place a 16 = some 4) (e2 : d_law00_Place b 10 = some 8) (e3 : d_law00_Place c 1000 = some p) (h1 : 0 ≤ p) (h2 : p < 1000) : d_law05_OpsWrong 60 a b c = some (true) :=
  T.by_go [.o ((Go.Pv.d_law00_Place a 16).map .z) (.z (4)),
    .o ((Go.Pv.d_law00_Place c 1000).map .z) (.z (p)),
    .s (1 + p),
    .o ((Go.Pv.d_law00_Place b 10).map .z) (.z (8)),
    .w (39 + (1 + p)) (40 + p),
    .b (40 + p < 0),
    .a (40 + p > 39)]
    0 (T.prs [1000,1,54002,9003,41004,5,45006,5,213006]) (t_law05_OpsWrong_ok _ _ _ _)
    T.okS (by kernel_rfl)
theorem ow5_9 (a b c p : Int) (e1 : d_law00_Place a 16 = some 4) (e2 : d_law00_Place b 10 = some 9) (e3 : d_law00_Place c 1000 = some p) (h1 : 0 ≤ p) (h2 : p < 1000) : d_law05_OpsWrong 60 a b c = some (true) :=
  T.by_go [.o ((Go.Pv.d_law00_Place a 16).map .z) (.z (4)),
    .o ((Go.Pv.d_law00_Place c 1000).map .z) (.z (p)),
    .s (1 + p),
    .o ((Go.Pv.d_law00_Place b 10).map .z) (.z (9)),
    .w (0 - (1 + p)) (-1 - p)]
    0 (T.prs [1000,1,54002,9003,308004]) (t_law05_OpsWrong_ok _ _ _ _)
    T.okS (by kernel_rfl)
theorem ow6_0 (a b c p : Int) (e1 : d_law00_Place a 16 = some 5) (e2 : d_law00_Place b 10 = some 0) (e3 : d_law00_Place c 1000 = some p) (h1 : 0 ≤ p) (h2 : p < 1000) : d_law05_OpsWrong 60 a b c = some (true) :=
  T.by_go [.o ((Go.Pv.d_law00_Place a 16).map .z) (.z (5)),
    .o ((Go.Pv.d_law00_Place c 1000).map .z) (.z (p)),
    .s (1 + p),
    .o ((Go.Pv.d_law00_Place b 10).map .z) (.z (0)),
    .w (16 + (1 + p)) (17 + p),
    .b (17 + p < 1),
    .a (17 + p > 16)]
    0 (T.prs [1000,1,47002,1003,4,5,4006,5,213006]) (t_law05_OpsWrong_ok _ _ _ _)
    T.okS (by kernel_rfl)
theorem ow6_1 (a b c p : Int) (e1 : d_law00_Place a 16 = some 5) (e2 : d_law00_Place b 10 = some 1) (e3 : d_law00_Place c 1000 = some p) (h1 : 0 ≤ p) (h2 : p < 1000) : d_law05_OpsWrong 60 a b c = some (true) :=
  T.by_go [.o ((Go.Pv.d_law00_Place a 16).map .z) (.z (5)),
    .o ((Go.Pv.d_law00_Place c 1000).map .z) (.z (p)),
    .s (1 + p),
    .o ((Go.Pv.d_law00_Place b 10).map .z) (.z (1)),
    .w (0 - (1 + p)) (-1 - p),
    .a (-1 - p < 1)]
    0 (T.prs [1000,1,47002,2003,4,4005,213005]) (t_law05_OpsWrong_ok _ _ _ _)
    T.okS (by kernel_rfl)
theorem ow6_2 (a b c p : Int) (e1 : d_law00_Place a 16 = some 5) (e2 : d_law00_Place b 10 = some 2) (e3 : d_law00_Place c 1000 = some p) (h1 : 0 ≤ p) (h2 : p < 1000) : d_law05_OpsWrong 60 a b c = some (true) :=
  T.by_go [.o ((Go.Pv.d_law00_Place a 16).map .z) (.z (5)),
    .o ((Go.Pv.d_law00_Place c 1000).map .z) (.z (p)),
    .s (1 + p),
    .o ((Go.Pv.d_law00_Place b 10).map .z) (.z (2)),
    .w (3 + (1 + p)) (4 + p),
    .b (4 + p < 0),
    .a (4 + p > 3)]
    0 (T.prs [1000,1,47002,3003,4004,5,8006,5,213006]) (t_law05_OpsWrong_ok _ _ _ _)
    T.okS (by kernel_rfl)
theorem ow6_3 (a b c p : Int) (e1 : d_law00_Place a 16 = some 5) (e2 : d_law00_Place b 10 = some 3) (e3 : d_law00_Place c 1000 = some p) (h1 : 0 ≤ p) (h2 : p < 1000) : d_law05_OpsWrong 60 a b c = some (true) :=
  T.by_go [.o ((Go.Pv.d_law00_Place a 16).map .z) (.z (5)),
    .o ((Go.Pv.d_law00_Place c 1000).map .z) (.z (p)),
    .s (1 + p),
    .o ((Go.Pv.d_law00_Place b 10).map .z) (.z (3)),
    .w (0 - (1 + p)) (-1 - p),
    .a (-1 - p < 0)]
    0 (T.prs [1000,1,47002,4003,9004,13005,213005]) (t_law05_OpsWrong_ok _ _ _ _)
    T.okS (by kernel_rfl)
theorem ow6_4 (a b c p : Int) (e1 : d_law00_Place a 16 = some 5) (e2 : d_law00_Place b 10 = some 4) (e3 : d_law00_Place c 1000 = some p) (h1 : 0 ≤ p) (h2 : p < 1000) : d_law05_OpsWrong 60 a b c = some (true) :=
  T.by_go [.o ((Go.Pv.d_law00_Place a 16).map .z) (.z (5)),
    .o ((Go.Pv.d_law00_Place c 1000).map .z) (.z (p)),
    .s (1 + p),
    .o ((Go.Pv.d_law00_Place b 10).map .z) (.z (4)),
    .w (1 + (1 + p)) (2 + p),
    .b (2 + p < 0),
    .a (2 + p > 1)]
    0 (T.prs [1000,1,47002,5003,15004,5,19006,5,213006]) (t_law05_OpsWrong_ok _ _ _ _)
    T.okS (by kernel_rfl)
theorem ow6_5 (a b c p : Int) (e1 : d_law00_Place a 16 = some 5) (e2 : d_law00_Place b 10 = some 5) (e3 : d_law00_Place c 1000 = some p) (h1 : 0 ≤ p) (h2 : p < 1000) : d_law05_OpsWrong 60 a b c = some (true) :=
  T.by_go [.o ((Go.Pv.d_law00_Place a 16).map .z) (.z (5)),
    .o ((Go.Pv.d_law00_Place c 1000).map .z) (.z (p)),
    .s (1 + p),
    .o ((Go.Pv.d_law00_Place b 10).map .z) (.z (5)),
    .w (3 + (1 + p)) (4 + p),
    .b (4 + p < 0),
    .a (4 + p > 0)]
    0 (T.prs [1000,1,47002,6003,18004,5,22006,5,213006]) (t_law05_OpsWrong_ok _ _ _ _)
    T.okS (by kernel_rfl)
theorem ow6_6 (a b c p : Int) (e1 : d_law00_Place a 16 = some 5) (e2 : d_law00_Place b 10 = some 6) (e3 : d_law00_Place c 1000 = some p) (h1 : 0 ≤ p) (h2 : p < 1000) : d_law05_OpsWrong 60 a b c = some (true) :=
  T.by_go [.o ((Go.Pv.d_law00_Place a 16).map .z) (.z (5)),
    .o ((Go.Pv.d_law00_Place c 1000).map .z) (.z (p)),
    .s (1 + p),
    .o ((Go.Pv.d_law00_Place b 10).map .z) (.z (6)),
    .w (0 - (1 + p)) (-1 - p),
    .a (-1 - p < 1)]
    0 (T.prs [1000,1,47002,7003,27004,31005,213005]) (t_law05_OpsWrong_ok _ _ _ _)
    T.okS (by kernel_rfl)
theorem ow6_7 (a b c p : Int) (e1 : d_law00_Place a 16 = some 5) (e2 : d_law00_Place b 10 = some 7) (e3 : d_law00_Place c 1000 = some p) (h1 : 0 ≤ p) (h2 : p < 1000) : d_law05_OpsWrong 60 a b c = some (true) :=
  T.by_go [.o ((Go.Pv.d_law00_Place a 16).map .z) (.z (5)),
    .o ((Go.Pv.d_law00_Place c 1000).map .z) (.z (p)),
    .s (1 + p),
    .o ((Go.Pv.d_law00_Place b 10).map .z) (.z (7)),
    .w (1125899906842624 + (1 + p)) (1125899906842625 + p),
    .b (1125899906842625 + p < 0),
    .a (1125899906842625 + p > 0)]
    0 (T.prs [1000,1,47002,8003,30004,5,34006,5,213006]) (t_law05_OpsWrong_ok _ _ _ _)
    T.okS (by kernel_rfl)
theorem ow6_8 (a b c p : Int) (e1 : d_law00_Place a 16 = some 5) (e2 : d_law00_Place b 10 = some 8) (e3 : d_law00_Place c 1000 = some p) (h1 : 0 ≤ p) (h2 : p < 1000) : d_law05_OpsWrong 60 a b c = some (true) :=
  T.by_go [.o ((Go.Pv.d_law00_Place a 16).map .z) (.z (5)),
    .o ((Go.Pv.d_law00_Place c 1000).map .z) (.z (p)),
    .s (1 + p),
    .o ((Go.Pv.d_law00_Place b 10).map .z) (.z (8)),
    .w (39 + (1 + p)) (40 + p),
    .b (40 + p < 0),
    .a (40 + p > 0)]
    0 (T.prs [1000,1,47002,9003,33004,5,37006,5,213006]) (t_law05_OpsWrong_ok _ _ _ _)
    T.okS (by kernel_rfl)
theorem ow6_9 (a b c p : Int) (e1 : d_law00_Place a 16 = some 5) (e2 : d_law00_Place b 10 = some 9) (e3 : d_law00_Place c 1000 = some p) (h1 : 0 ≤ p) (h2 : p < 1000) : d_law05_OpsWrong 60 a b c = some (true) :=
  T.by_go [.o ((Go.Pv.d_law00_Place a 16).map .z) (.z (5)),
    .o ((Go.Pv.d_law00_Place c 1000).map .z) (.z (p)),
    .s (1 + p),
    .o ((Go.Pv.d_law00_Place b 10).map .z) (.z (9)),
    .w (0 - (1 + p)) (-1 - p)]
    0 (T.prs [1000,1,47002,9003,292004]) (t_law05_OpsWrong_ok _ _ _ _)
    T.okS (by kernel_rfl)
theorem ow7_0 (a b c p : Int) (e1 : d_law00_Place a 16 = some 6) (e2 : d_law00_Place b 10 = some 0) (e3 : d_law00_Place c 1000 = some p) (h1 : 0 ≤ p) (h2 : p < 1000) : d_law05_OpsWrong 60 a b c = some (true) :=
  T.by_go [.o ((Go.Pv.d_law00_Place a 16).map .z) (.z (6)),
    .o ((Go.Pv.d_law00_Place c 1000).map .z) (.z (p)),
    .s (1 + p),
    .o ((Go.Pv.d_law00_Place b 10).map .z) (.z (0)),
    .w (16 + (1 + p)) (17 + p),
    .b (17 + p < 1),
    .a (17 + p > 16)]
    0 (T.prs [1000,1,48002,1003,4,5,4006,5,213006]) (t_law05_OpsWrong_ok _ _ _ _)
    T.okS (by kernel_rfl)
theorem ow7_1 (a b c p : Int) (e1 : d_law00_Place a 16 = some 6) (e2 : d_law00_Place b 10 = some 1) (e3 : d_law00_Place c 1000 = some p) (h1 : 0 ≤ p) (h2 : p < 1000) : d_law05_OpsWrong 60 a b c = some (true) :=
  T.by_go [.o ((Go.Pv.d_law00_Place a 16).map .z) (.z (6)),
    .o ((Go.Pv.d_law00_Place c 1000).map .z) (.z (p)),
    .s (1 + p),
    .o ((Go.Pv.d_law00_Place b 10).map .z) (.z (1)),
    .w (0 - (1 + p)) (-1 - p),
    .a (-1 - p < 1)]
    0 (T.prs [1000,1,48002,2003,4,4005,213005]) (t_law05_OpsWrong_ok _ _ _ _)
    T.okS (by kernel_rfl)
theorem ow7_2 (a b c p : Int) (e1 : d_law00_Place a 16 = some 6) (e2 : d_law00_Place b 10 = some 2) (e3 : d_law00_Place c 1000 = some p) (h1 : 0 ≤ p) (h2 : p < 1000) : d_law05_OpsWrong 60 a b c = some (true) :=
  T.by_go [.o ((Go.Pv.d_law00_Place a 16).map .z) (.z (6)),
    .o ((Go.Pv.d_law00_Place c 1000).map .z) (.z (p)),
    .s (1 + p),
    .o ((Go.Pv.d_law00_Place b 10).map .z) (.z (2)),
    .w (3 + (1 + p)) (4 + p),
    .b (4 + p < 0),
    .a (4 + p > 3)]
    0 (T.prs [1000,1,48002,3003,4004,5,8006,5,213006]) (t_law05_OpsWrong_ok _ _ _ _)
    T.okS (by kernel_rfl)
theorem ow7_3 (a b c p : Int) (e1 : d_law00_Place a 16 = some 6) (e2 : d_law00_Place b 10 = some 3) (e3 : d_law00_Place c 1000 = some p) (h1 : 0 ≤ p) (h2 : p < 1000) : d_law05_OpsWrong 60 a b c = some (true) :=
  T.by_go [.o ((Go.Pv.d_law00_Place a 16).map .z) (.z (6)),
    .o ((Go.Pv.d_law00_Place c 1000).map .z) (.z (p)),
    .s (1 + p),
    .o ((Go.Pv.d_law00_Place b 10).map .z) (.z (3)),
    .w (0 - (1 + p)) (-1 - p),
    .a (-1 - p < 0)]
    0 (T.prs [1000,1,48002,4003,9004,13005,213005]) (t_law05_OpsWrong_ok _ _ _ _)
    T.okS (by kernel_rfl)
theorem ow7_4 (a b c p : Int) (e1 : d_law00_Place a 16 = some 6) (e2 : d_law00_Place b 10 = some 4) (e3 : d_law00_Place c 1000 = some p) (h1 : 0 ≤ p) (h2 : p < 1000) : d_law05_OpsWrong 60 a b c = some (true) :=
  T.by_go [.o ((Go.Pv.d_law00_Place a 16).map .z) (.z (6)),
    .o ((Go.Pv.d_law00_Place c 1000).map .z) (.z (p)),
    .s (1 + p),
    .o ((Go.Pv.d_law00_Place b 10).map .z) (.z (4)),
    .w (1 + (1 + p)) (2 + p),
    .b (2 + p < 0),
    .a (2 + p > 1)]
    0 (T.prs [1000,1,48002,5003,15004,5,19006,5,213006]) (t_law05_OpsWrong_ok _ _ _ _)
    T.okS (by kernel_rfl)
theorem ow7_5 (a b c p : Int) (e1 : d_law00_Place a 16 = some 6) (e2 : d_law00_Place b 10 = some 5) (e3 : d_law00_Place c 1000 = some p) (h1 : 0 ≤ p) (h2 : p < 1000) : d_law05_OpsWrong 60 a b c = some (true) :=
  T.by_go [.o ((Go.Pv.d_law00_Place a 16).map .z) (.z (6)),
    .o ((Go.Pv.d_law00_Place c 1000).map .z) (.z (p)),
    .s (1 + p),
    .o ((Go.Pv.d_law00_Place b 10).map .z) (.z (5)),
    .w (3 + (1 + p)) (4 + p),
    .b (4 + p < 0),
    .a (4 + p > 0)]
    0 (T.prs [1000,1,48002,6003,18004,5,22006,5,213006]) (t_law05_OpsWrong_ok _ _ _ _)
    T.okS (by kernel_rfl)
theorem ow7_6 (a b c p : Int) (e1 : d_law00_Place a 16 = some 6) (e2 : d_law00_Place b 10 = some 6) (e3 : d_law00_Place c 1000 = some p) (h1 : 0 ≤ p) (h2 : p < 1000) : d_law05_OpsWrong 60 a b c = some (true) :=
  T.by_go [.o ((Go.Pv.d_law00_Place a 16).map .z) (.z (6)),
    .o ((Go.Pv.d_law00_Place c 1000).map .z) (.z (p)),
    .s (1 + p),
    .o ((Go.Pv.d_law00_Place b 10).map .z) (.z (6)),
    .w (0 - (1 + p)) (-1 - p),
    .a (-1 - p < 0)]
    0 (T.prs [1000,1,48002,7003,27004,31005,213005]) (t_law05_OpsWrong_ok _ _ _ _)
    T.okS (by kernel_rfl)
theorem ow7_7 (a b c p : Int) (e1 : d_law00_Place a 16 = some 6) (e2 : d_law00_Place b 10 = some 7) (e3 : d_law00_Place c 1000 = some p) (h1 : 0 ≤ p) (h2 : p < 1000) : d_law05_OpsWrong 60 a b c = some (true) :=
  T.by_go [.o ((Go.Pv.d_law00_Place a 16).map .z) (.z (6)),
    .o ((Go.Pv.d_law00_Place c 1000).map .z) (.z (p)),
    .s (1 + p),
    .o ((Go.Pv.d_law00_Place b 10).map .z) (.z (7)),
    .w (1125899906842624 + (1 + p)) (1125899906842625 + p),
    .b (1125899906842625 + p < 0),
    .a (1125899906842625 + p > 0)]
    0 (T.prs [1000,1,48002,8003,30004,5,34006,5,213006]) (t_law05_OpsWrong_ok _ _ _ _)
    T.okS (by kernel_rfl)
theorem ow7_8 (a b c p : Int) (e1 : d_law00_Place a 16 = some 6) (e2 : d_law00_Place b 10 = some 8) (e3 : d_law00_Place c 1000 = some p) (h1 : 0 ≤ p) (h2 : p < 1000) : d_law05_OpsWrong 60 a b c = some (true) :=
  T.by_go [.o ((Go.Pv.d_law00_Place a 16).map .z) (.z (6)),
    .o ((Go.Pv.d_law00_Place c 1000).map .z) (.z (p)),
    .s (1 + p),
    .o ((Go.Pv.d_law00_Place b 10).map .z) (.z (8)),
    .w (39 + (1 + p)) (40 + p),
    .b (40 + p < 0),
    .a (40 + p > 0)]
    0 (T.prs [1000,1,48002,9003,33004,5,37006,5,213006]) (t_law05_OpsWrong_ok _ _ _ _)
    T.okS (by kernel_rfl)
theorem ow7_9 (a b c p : Int) (e1 : d_law00_Place a 16 = some 6) (e2 : d_law00_Place b 10 = some 9) (e3 : d_law00_Place c 1000 = some p) (h1 : 0 ≤ p) (h2 : p < 1000) : d_law05_OpsWrong 60 a b c = some (true) :=
  T.by_go [.o ((Go.Pv.d_law00_Place a 16).map .z) (.z (6)),
    .o ((Go.Pv.d_law00_Place c 1000).map .z) (.z (p)),
    .s (1 + p),
    .o ((Go.Pv.d_law00_Place b 10).map .z) (.z (9)),
    .w (0 - (1 + p)) (-1 - p)]
    0 (T.prs [1000,1,48002,9003,292004]) (t_law05_OpsWrong_ok _ _ _ _)
    T.okS (by kernel_rfl)
theorem ow8_0 (a b c p : Int) (e1 : d_law00_Place a 16 = some 7) (e2 : d_law00_Place b 10 = some 0) (e3 : d_law00_Place c 1000 = some p) (h1 : 0 ≤ p) (h2 : p < 1000) : d_law05_OpsWrong 60 a b c = some (true) :=
  T.by_go [.o ((Go.Pv.d_law00_Place a 16).map .z) (.z (7)),
    .o ((Go.Pv.d_law00_Place c 1000).map .z) (.z (p)),
    .s (1 + p),
    .o ((Go.Pv.d_law00_Place b 10).map .z) (.z (0)),
    .w (16 + (1 + p)) (17 + p),
    .b (17 + p < 1),
    .a (17 + p > 16)]
    0 (T.prs [1000,1,54002,1003,4,5,4006,5,213006]) (t_law05_OpsWrong_ok _ _ _ _)
    T.okS (by kernel_rfl)
theorem ow8_1 (a b c p : Int) (e1 : d_law00_Place a 16 = some 7) (e2 : d_law00_Place b 10 = some 1) (e3 : d_law00_Place c 1000 = some p) (h1 : 0 ≤ p) (h2 : p < 1000) : d_law05_OpsWrong 60 a b c = some (true) :=
  T.by_go [.o ((Go.Pv.d_law00_Place a 16).map .z) (.z (7)),
    .o ((Go.Pv.d_law00_Place c 1000).map .z) (.z (p)),
    .s (1 + p),
    .o ((Go.Pv.d_law00_Place b 10).map .z) (.z (1)),
    .w (0 - (1 + p)) (-1 - p),
    .a (-1 - p < 1)]
    0 (T.prs [1000,1,54002,2003,4,4005,213005]) (t_law05_OpsWrong_ok _ _ _ _)
    T.okS (by kernel_rfl)
theorem ow8_2 (a b c p : Int) (e1 : d_law00_Place a 16 = some 7) (e2 : d_law00_Place b 10 = some 2) (e3 : d_law00_Place c 1000 = some p) (h1 : 0 ≤ p) (h2 : p < 1000) : d_law05_OpsWrong 60 a b c = some (true) :=
  T.by_go [.o ((Go.Pv.d_law00_Place a 16).map .z) (.z (7)),
    .o ((Go.Pv.d_law00_Place c 1000).map .z) (.z (p)),
    .s (1 + p),
    .o ((Go.Pv.d_law00_Place b 10).map .z) (.z (2)),
    .w (3 + (1 + p)) (4 + p),
    .b (4 + p < 0),
    .a (4 + p > 3)]
    0 (T.prs [1000,1,54002,3003,4004,5,8006,5,213006]) (t_law05_OpsWrong_ok _ _ _ _)
    T.okS (by kernel_rfl)
theorem ow8_3 (a b c p : Int) (e1 : d_law00_Place a 16 = some 7) (e2 : d_law00_Place b 10 = some 3) (e3 : d_law00_Place c 1000 = some p) (h1 : 0 ≤ p) (h2 : p < 1000) : d_law05_OpsWrong 60 a b c = some (true) :=
  T.by_go [.o ((Go.Pv.d_law00_Place a 16).map .z) (.z (7)),
    .o ((Go.Pv.d_law00_Place c 1000).map .z) (.z (p)),
    .s (1 + p),
    .o ((Go.Pv.d_law00_Place b 10).map .z) (.z (3)),
    .w (0 - (1 + p)) (-1 - p),
    .a (-1 - p < 0)]
    0 (T.prs [1000,1,54002,4003,9004,13005,213005]) (t_law05_OpsWrong_ok _ _ _ _)
    T.okS (by kernel_rfl)
theorem ow8_4 (a b c p : Int) (e1 : d_law00_Place a 16 = some 7) (e2 : d_law00_Place b 10 = some 4) (e3 : d_law00_Place c 1000 = some p) (h1 : 0 ≤ p) (h2 : p < 1000) : d_law05_OpsWrong 60 a b c = some (true) :=
  T.by_go [.o ((Go.Pv.d_law00_Place a 16).map .z) (.z (7)),
    .o ((Go.Pv.d_law00_Place c 1000).map .z) (.z (p)),
    .s (1 + p),
    .o ((Go.Pv.d_law00_Place b 10).map .z) (.z (4)),
    .w (1 + (1 + p)) (2 + p),
    .b (2 + p < 0),
    .a (2 + p > 1)]
    0 (T.prs [1000,1,54002,5003,15004,5,19006,5,213006]) (t_law05_OpsWrong_ok _ _ _ _)
    T.okS (by kernel_rfl)
theorem ow8_5 (a b c p : Int) (e1 : d_law00_Place a 16 = some 7) (e2 : d_law00_Place b 10 = some 5) (e3 : d_law00_Place c 1000 = some p) (h1 : 0 ≤ p) (h2 : p < 1000) : d_law05_OpsWrong 60 a b c = some (true) :=
  T.by_go [.o ((Go.Pv.d_law00_Place a 16).map .z) (.z (7)),
    .o ((Go.Pv.d_law00_Place c 1000).map .z) (.z (p)),
    .s (1 + p),
    .o ((Go.Pv.d_law00_Place b 10).map .z) (.z (5)),
    .w (3 + (1 + p)) (4 + p),
    .b (4 + p < 0),
    .a (4 + p > 1)]
    0 (T.prs [1000,1,54002,6003,22004,5,26006,5,213006]) (t_law05_OpsWrong_ok _ _ _ _)
    T.okS (by kernel_rfl)
theorem ow8_6 (a b c p : Int) (e1 : d_law00_Place a 16 = some 7) (e2 : d_law00_Place b 10 = some 6) (e3 : d_law00_Place c 1000 = some p) (h1 : 0 ≤ p) (h2 : p < 1000) : d_law05_OpsWrong 60 a b c = some (true) :=
  T.by_go [.o ((Go.Pv.d_law00_Place a 16).map .z) (.z (7)),
    .o ((Go.Pv.d_law00_Place c 1000).map .z) (.z (p)),
    .s (1 + p),
    .o ((Go.Pv.d_law00_Place b 10).map .z) (.z (6)),
    .w (0 - (1 + p)) (-1 - p),
    .a (-1 - p < 1)]
    0 (T.prs [1000,1,54002,7003,31004,35005,213005]) (t_law05_OpsWrong_ok _ _ _ _)
    T.okS (by kernel_rfl)
theorem ow8_7 (a b c p : Int) (e1 : d_law00_Place a 16 = some 7) (e2 : d_law00_Place b 10 = some 7) (e3 : d_law00_Place c 1000 = some p) (h1 : 0 ≤ p) (h2 : p < 1000) : d_law05_OpsWrong 60 a b c = some (true) :=
  T.by_go [.o ((Go.Pv.d_law00_Place a 16).map .z) (.z (7)),
    .o ((Go.Pv.d_law00_Place c 1000).map .z) (.z (p)),
    .s (1 + p),
    .o ((Go.Pv.d_law00_Place b 10).map .z) (.z (7)),
    .w (1125899906842624 + (1 + p)) (1125899906842625 + p),
    .b (1125899906842625 + p < 0),
    .a (1125899906842625 + p > 0)]
    0 (T.prs [1000,1,54002,8003,34004,5,38006,5,213006]) (t_law05_OpsWrong_ok _ _ _ _)
    T.okS (by kernel_rfl)
theorem ow8_8 (a b c p : Int) (e1 : d_law00_Place a 16 = some 7) (e2 : d_law00_Place b 10 = some 8) (e3 : d_law00_Place c 1000 = some p) (h1 : 0 ≤ p) (h2 : p < 1000) : d_law05_OpsWrong 60 a b c = some (true) :=
  T.by_go [.o ((Go.Pv.d_law00_Place a 16).map .z) (.z (7)),
    .o ((Go.Pv.d_law00_Place c 1000).map .z) (.z (p)),
    .s (1 + p),
    .o ((Go.Pv.d_law00_Place b 10).map .z) (.z (8)),
    .w (39 + (1 + p)) (40 + p),
    .b (40 + p < 0),
    .a (40 + p > 0)]
    0 (T.prs [1000,1,54002,9003,37004,5,41006,5,213006]) (t_law05_OpsWrong_ok _ _ _ _)
    T.okS (by kernel_rfl)
theorem ow8_9 (a b c p : Int) (e1 : d_law00_Place a 16 = some 7) (e2 : d_law00_Place b 10 = some 9) (e3 : d_law00_Place c 1000 = some p) (h1 : 0 ≤ p) (h2 : p < 1000) : d_law05_OpsWrong 60 a b c = some (true) :=
  T.by_go [.o ((Go.Pv.d_law00_Place a 16).map .z) (.z (7)),
    .o ((Go.Pv.d_law00_Place c 1000).map .z) (.z (p)),
    .s (1 + p),
    .o ((Go.Pv.d_law00_Place b 10).map .z) (.z (9)),
    .w (0 - (1 + p)) (-1 - p)]
    0 (T.prs [1000,1,54002,9003,300004]) (t_law05_OpsWrong_ok _ _ _ _)
    T.okS (by kernel_rfl)
theorem ow9_0 (a b c p : Int) (e1 : d_law00_Place a 16 = some 8) (e2 : d_law00_Place b 10 = some 0) (e3 : d_law00_Place c 1000 = some p) (h1 : 0 ≤ p) (h2 : p < 1000) : d_law05_OpsWrong 60 a b c = some (true) :=
  T.by_go [.o ((Go.Pv.d_law00_Place a 16).map .z) (.z (8)),
    .o ((Go.Pv.d_law00_Place c 1000).map .z) (.z (p)),
    .s (1 + p),
    .o ((Go.Pv.d_law00_Place b 10).map .z) (.z (0)),
    .w (16 + (1 + p)) (17 + p),
    .b (17 + p < 1),
    .a (17 + p > 16)]
    0 (T.prs [1000,1,48002,1003,4,5,4006,5,213006]) (t_law05_OpsWrong_ok _ _ _ _)
    T.okS (by kernel_rfl)
theorem ow9_1 (a b c p : Int) (e1 : d_law00_Place a 16 = some 8) (e2 : d_law00_Place b 10 = some 1) (e3 : d_law00_Place c 1000 = some p) (h1 : 0 ≤ p) (h2 : p < 1000) : d_law05_OpsWrong 60 a b c = some (true) :=
  T.by_go [.o ((Go.Pv.d_law00_Place a 16).map .z) (.z (8)),
    .o ((Go.Pv.d_law00_Place c 1000).map .z) (.z (p)),
    .s (1 + p),
    .o ((Go.Pv.d_law00_Place b 10).map .z) (.z (1)),
    .w (0 - (1 + p)) (-1 - p),
    .a (-1 - p < 1)]
    0 (T.prs [1000,1,48002,2003,4,4005,213005]) (t_law05_OpsWrong_ok _ _ _ _)
    T.okS (by kernel_rfl)
theorem ow9_2 (a b c p : Int) (e1 : d_law00_Place a 16 = some 8) (e2 : d_law00_Place b 10 = some 2) (e3 : d_law00_Place c 1000 = some p) (h1 : 0 ≤ p) (h2 : p < 1000) : d_law05_OpsWrong 60 a b c = some (true) :=
  T.by_go [.o ((Go.Pv.d_law00_Place a 16).map .z) (.z (8)),
    .o ((Go.Pv.d_law00_Place c 1000).map .z) (.z (p)),
    .s (1 + p),
    .o ((Go.Pv.d_law00_Place b 10).map .z) (.z (2)),
    .w (3 + (1 + p)) (4 + p),
    .b (4 + p < 0),
    .a (4 + p > 3)]
    0 (T.prs [1000,1,48002,3003,4004,5,8006,5,213006]) (t_law05_OpsWrong_ok _ _ _ _)
    T.okS (by kernel_rfl)
theorem ow9_3 (a b c p : Int) (e1 : d_law00_Place a 16 = some 8) (e2 : d_law00_Place b 10 = some 3) (e3 : d_law00_Place c 1000 = some p) (h1 : 0 ≤ p) (h2 : p < 1000) : d_law05_OpsWrong 60 a b c = some (true) :=
  T.by_go [.o ((Go.Pv.d_law00_Place a 16).map .z) (.z (8)),
    .o ((Go.Pv.d_law00_Place c 1000).map .z) (.z (p)),
    .s (1 + p),
    .o ((Go.Pv.d_law00_Place b 10).map .z) (.z (3)),
    .w (0 - (1 + p)) (-1 - p),
    .a (-1 - p < 0)]
    0 (T.prs [1000,1,48002,4003,9004,13005,213005]) (t_law05_OpsWrong_ok _ _ _ _)
    T.okS (by kernel_rfl)
theorem ow9_4 (a b c p : Int) (e1 : d_law00_Place a 16 = some 8) (e2 : d_law00_Place b 10 = some 4) (e3 : d_law00_Place c 1000 = some p) (h1 : 0 ≤ p) (h2 : p < 1000) : d_law05_OpsWrong 60 a b c = some (true) :=
  T.by_go [.o ((Go.Pv.d_law00_Place a 16).map .z) (.z (8)),
    .o ((Go.Pv.d_law00_Place c 1000).map .z) (.z (p)),
    .s (1 + p),
    .o ((Go.Pv.d_law00_Place b 10).map .z) (.z (4)),
    .w (1 + (1 + p)) (2 + p),
    .b (2 + p < 0),
    .a (2 + p > 0)]
    0 (T.prs [1000,1,48002,5003,12004,5,16006,5,213006]) (t_law05_OpsWrong_ok _ _ _ _)
    T.okS (by kernel_rfl)
theorem ow9_5 (a b c p : Int) (e1 : d_law00_Place a 16 = some 8) (e2 : d_law00_Place b 10 = some 5) (e3 : d_law00_Place c 1000 = some p) (h1 : 0 ≤ p) (h2 : p < 1000) : d_law05_OpsWrong 60 a b c = some (true) :=
  T.by_go [.o ((Go.Pv.d_law00_Place a 16).map .z) (.z (8)),
    .o ((Go.Pv.d_law00_Place c 1000).map .z) (.z (p)),
    .s (1 + p),
    .o ((Go.Pv.d_law00_Place b 10).map .z) (.z (5)),
    .w (3 + (1 + p)) (4 + p),
    .b (4 + p < 0),
    .a (4 + p > 0)]
    0 (T.prs [1000,1,48002,6003,15004,5,19006,5,213006]) (t_law05_OpsWrong_ok _ _ _ _)
    T.okS (by kernel_rfl)
theorem ow9_6 (a b c p : Int) (e1 : d_law00_Place a 16 = some 8) (e2 : d_law00_Place b 10 = some 6) (e3 : d_law00_Place c 1000 = some p) (h1 : 0 ≤ p) (h2 : p < 1000) : d_law05_OpsWrong 60 a b c = some (true) :=
  T.by_go [.o ((Go.Pv.d_law00_Place a 16).map .z) (.z (8)),
    .o ((Go.Pv.d_law00_Place c 1000).map .z) (.z (p)),
    .s (1 + p),
    .o ((Go.Pv.d_law00_Place b 10).map .z) (.z (6)),
    .w (0 - (1 + p)) (-1 - p),
    .a (-1 - p < 0)]
    0 (T.prs [1000,1,48002,7003,18004,22005,213005]) (t_law05_OpsWrong_ok _ _ _ _)
    T.okS (by kernel_rfl)
theorem ow9_7 (a b c p : Int) (e1 : d_law00_Place a 16 = some 8) (e2 : d_law00_Place b 10 = some 7) (e3 : d_law00_Place c 1000 = some p) (h1 : 0 ≤ p) (h2 : p < 1000) : d_law05_OpsWrong 60 a b c = some (true) :=
  T.by_go [.o ((Go.Pv.d_law00_Place a 16).map .z) (.z (8)),
    .o ((Go.Pv.d_law00_Place c 1000).map .z) (.z (p)),
    .s (1 + p),
    .o ((Go.Pv.d_law00_Place b 10).map .z) (.z (7)),
    .w (1125899906842624 + (1 + p)) (1125899906842625 + p),
    .b (1125899906842625 + p < 0),
    .a (1125899906842625 + p > 1073741824)]
    0 (T.prs [1000,1,48002,8003,28004,5,32006,5,213006]) (t_law05_OpsWrong_ok _ _ _ _)
    T.okS (by kernel_rfl)
theorem ow9_8 (a b c p : Int) (e1 : d_law00_Place a 16 = some 8) (e2 : d_law00_Place b 10 = some 8) (e3 : d_law00_Place c 1000 = some p) (h1 : 0 ≤ p) (h2 : p < 1000) : d_law05_OpsWrong 60 a b c = some (true) :=
  T.by_go [.o ((Go.Pv.d_law00_Place a 16).map .z) (.z (8)),
    .o ((Go.Pv.d_law00_Place c 1000).map .z) (.z (p)),
    .s (1 + p),
    .o ((Go.Pv.d_law00_Place b 10).map .z) (.z (8)),
    .w (39 + (1 + p)) (40 + p),
    .b (40 + p < 0),
    .a (40 + p > 0)]
    0 (T.prs [1000,1,48002,9003,31004,5,35006,5,213006]) (t_law05_OpsWrong_ok _ _ _ _)
    T.okS (by kernel_rfl)
theorem ow9_9 (a b c p : Int) (e1 : d_law00_Place a 16 = some 8) (e2 : d_law00_Place b 10 = some 9) (e3 : d_law00_Place c 1000 = some p) (h1 : 0 ≤ p) (h2 : p < 1000) : d_law05_OpsWrong 60 a b c = some (true) :=
  T.by_go [.o ((Go.Pv.d_law00_Place a 16).map .z) (.z (8)),
    .o ((Go.Pv.d_law00_Place c 1000).map .z) (.z (p)),
    .s (1 + p),
    .o ((Go.Pv.d_law00_Place b 10).map .z) (.z (9)),
    .w (0 - (1 + p)) (-1 - p)]
    0 (T.prs [1000,1,48002,9003,288004]) (t_law05_OpsWrong_ok _ _ _ _)
    T.okS (by kernel_rfl)
theorem ow10_0 (a b c p : Int) (e1 : d_law00_Place a 16 = some 9) (e2 : d_law00_Place b 10 = some 0) (e3 : d_law00_Place c 1000 = some p) (h1 : 0 ≤ p) (h2 : p < 1000) : d_law05_OpsWrong 60 a b c = some (true) :=
  T.by_go [.o ((Go.Pv.d_law00_Place a 16).map .z) (.z (9)),
    .o ((Go.Pv.d_law00_Place c 1000).map .z) (.z (p)),
    .s (1 + p),
    .o ((Go.Pv.d_law00_Place b 10).map .z) (.z (0)),
    .w (16 + (1 + p)) (17 + p),
    .b (17 + p < 1),
    .a (17 + p > 16)]
    0 (T.prs [1000,1,50002,1003,4,5,4006,5,213006]) (t_law05_OpsWrong_ok _ _ _ _)
    T.okS (by kernel_rfl)
theorem ow10_1 (a b c p : Int) (e1 : d_law00_Place a 16 = some 9) (e2 : d_law00_Place b 10 = some 1) (e3 : d_law00_Place c 1000 = some p) (h1 : 0 ≤ p) (h2 : p < 1000) : d_law05_OpsWrong 60 a b c = some (true) :=
  T.by_go [.o ((Go.Pv.d_law00_Place a 16).map .z) (.z (9)),
    .o ((Go.Pv.d_law00_Place c 1000).map .z) (.z (p)),
    .s (1 + p),
    .o ((Go.Pv.d_law00_Place b 10).map .z) (.z (1)),
    .w (0 - (1 + p)) (-1 - p),
    .a (-1 - p < 1)]
    0 (T.prs [1000,1,50002,2003,4,4005,213005]) (t_law05_OpsWrong_ok _ _ _ _)
    T.okS (by kernel_rfl)
theorem ow10_2 (a b c p : Int) (e1 : d_law00_Place a 16 = some 9) (e2 : d_law00_Place b 10 = some 2) (e3 : d_law00_Place c 1000 = some p) (h1 : 0 ≤ p) (h2 : p < 1000) : d_law05_OpsWrong 60 a b c = some (true) :=
  T.by_go [.o ((Go.Pv.d_law00_Place a 16).map .z) (.z (9)),
    .o ((Go.Pv.d_law00_Place c 1000).map .z) (.z (p)),
    .s (1 + p),
    .o ((Go.Pv.d_law00_Place b 10).map .z) (.z (2)),
    .w (3 + (1 + p)) (4 + p),
    .b (4 + p < 0),
    .a (4 + p > 3)]
    0 (T.prs [1000,1,50002,3003,4004,5,8006,5,213006]) (t_law05_OpsWrong_ok _ _ _ _)
    T.okS (by kernel_rfl)
theorem ow10_3 (a b c p : Int) (e1 : d_law00_Place a 16 = some 9) (e2 : d_law00_Place b 10 = some 3) (e3 : d_law00_Place c 1000 = some p) (h1 : 0 ≤ p) (h2 : p < 1000) : d_law05_OpsWrong 60 a b c = some (true) :=
  T.by_go [.o ((Go.Pv.d_law00_Place a 16).map .z) (.z (9)),
    .o ((Go.Pv.d_law00_Place c 1000).map .z) (.z (p)),
    .s (1 + p),
    .o ((Go.Pv.d_law00_Place b 10).map .z) (.z (3)),
    .w (0 - (1 + p)) (-1 - p),
    .a (-1 - p < 0)]
    0 (T.prs [1000,1,50002,4003,9004,13005,213005]) (t_law05_OpsWrong_ok _ _ _ _)
    T.okS (by kernel_rfl)
theorem ow10_4 (a b c p : Int) (e1 : d_law00_Place a 16 = some 9) (e2 : d_law00_Place b 10 = some 4) (e3 : d_law00_Place c 1000 = some p) (h1 : 0 ≤ p) (h2 : p < 1000) : d_law05_OpsWrong 60 a b c = some (true) :=
  T.by_go [.o ((Go.Pv.d_law00_Place a 16).map .z) (.z (9)),
    .o ((Go.Pv.d_law00_Place c 1000).map .z) (.z (p)),
    .s (1 + p),
    .o ((Go.Pv.d_law00_Place b 10).map .z) (.z (4)),
    .w (1 + (1 + p)) (2 + p),
    .b (2 + p < 0),
    .a (2 + p > 0)]
    0 (T.prs [1000,1,50002,5003,12004,5,16006,5,213006]) (t_law05_OpsWrong_ok _ _ _ _)
    T.okS (by kernel_rfl)
theorem ow10_5 (a b c p : Int) (e1 : d_law00_Place a 16 = some 9) (e2 : d_law00_Place b 10 = some 5) (e3 : d_law00_Place c 1000 = some p) (h1 : 0 ≤ p) (h2 : p < 1000) : d_law05_OpsWrong 60 a b c = some (true) :=
  T.by_go [.o ((Go.Pv.d_law00_Place a 16).map .z) (.z (9)),
    .o ((Go.Pv.d_law00_Place c 1000).map .z) (.z (p)),
    .s (1 + p),
    .o ((Go.Pv.d_law00_Place b 10).map .z) (.z (5)),
    .w (3 + (1 + p)) (4 + p),
    .b (4 + p < 0),
    .a (4 + p > 0)]
    0 (T.prs [1000,1,50002,6003,15004,5,19006,5,213006]) (t_law05_OpsWrong_ok _ _ _ _)
    T.okS (by kernel_rfl)
theorem ow10_6 (a b c p : Int) (e1 : d_law00_Place a 16 = some 9) (e2 : d_law00_Place b 10 = some 6) (e3 : d_law00_Place c 1000 = some p) (h1 : 0 ≤ p) (h2 : p < 1000) : d_law05_OpsWrong 60 a b c = some (true) :=
  T.by_go [.o ((Go.Pv.d_law00_Place a 16).map .z) (.z (9)),
    .o ((Go.Pv.d_law00_Place c 1000).map .z) (.z (p)),
    .s (1 + p),
    .o ((Go.Pv.d_law00_Place b 10).map .z) (.z (6)),
    .w (0 - (1 + p)) (-1 - p),
    .a (-1 - p < 0)]
    0 (T.prs [1000,1,50002,7003,18004,22005,213005]) (t_law05_OpsWrong_ok _ _ _ _)
    T.okS (by kernel_rfl)
theorem ow10_7 (a b c p : Int) (e1 : d_law00_Place a 16 = some 9) (e2 : d_law00_Place b 10 = some 7) (e3 : d_law00_Place c 1000 = some p) (h1 : 0 ≤ p) (h2 : p < 1000) : d_law05_OpsWrong 60 a b c = some (true) :=
  T.by_go [.o ((Go.Pv.d_law00_Place a 16).map .z) (.z (9)),
    .o ((Go.Pv.d_law00_Place c 1000).map .z) (.z (p)),
    .s (1 + p),
    .o ((Go.Pv.d_law00_Place b 10).map .z) (.z (7)),
    .w (1125899906842624 + (1 + p)) (1125899906842625 + p),
    .b (1125899906842625 + p < 0),
    .a (1125899906842625 + p > 1073741824)]
    0 (T.prs [1000,1,50002,8003,29004,5,33006,5,213006]) (t_law05_OpsWrong_ok _ _ _ _)
    T.okS (by kernel_rfl)
theorem ow10_8 (a b c p : Int) (e1 : d_law00_Place a 16 = some 9) (e2 : d_law00_Place b 10 = some 8) (e3 : d_law00_Place c 1000 = some p) (h1 : 0 ≤ p) (h2 : p < 1000) : d_law05_OpsWrong 60 a b c = some (true) :=
  T.by_go [.o ((Go.Pv.d_law00_Place a 16).map .z) (.z (9)),
    .o ((Go.Pv.d_law00_Place c 1000).map .z) (.z (p)),
    .s (1 + p),
    .o ((Go.Pv.d_law00_Place b 10).map .z) (.z (8)),
    .w (39 + (1 + p)) (40 + p),
    .b (40 + p < 0),
    .a (40 + p > 0)]
    0 (T.prs [1000,1,50002,9003,32004,5,36006,5,213006]) (t_law05_OpsWrong_ok _ _ _ _)
    T.okS (by kernel_rfl)
theorem ow10_9 (a b c p : Int) (e1 : d_law00_Place a 16 = some 9) (e2 : d_law00_Place b 10 = some 9) (e3 : d_law00_Place c 1000 = some p) (h1 : 0 ≤ p) (h2 : p < 1000) : d_law05_OpsWrong 60 a b c = some (true) :=
  T.by_go [.o ((Go.Pv.d_law00_Place a 16).map .z) (.z (9)),
    .o ((Go.Pv.d_law00_Place c 1000).map .z) (.z (p)),
    .s (1 + p),
    .o ((Go.Pv.d_law00_Place b 10).map .z) (.z (9)),
    .w (0 - (1 + p)) (-1 - p)]
    0 (T.prs [1000,1,50002,9003,290004]) (t_law05_OpsWrong_ok _ _ _ _)
    T.okS (by kernel_rfl)
theorem ow11_0 (a b c p : Int) (e1 : d_law00_Place a 16 = some 10) (e2 : d_law00_Place b 10 = some 0) (e3 : d_law00_Place c 1000 = some p) (h1 : 0 ≤ p) (h2 : p < 1000) : d_law05_OpsWrong 60 a b c = some (true) :=
  T.by_go [.o ((Go.Pv.d_law00_Place a 16).map .z) (.z (10)),
    .o ((Go.Pv.d_law00_Place c 1000).map .z) (.z (p)),
    .s (1 + p),
    .o ((Go.Pv.d_law00_Place b 10).map .z) (.z (0)),
    .w (16 + (1 + p)) (17 + p),
    .b (17 + p < 1),
    .a (17 + p > 16)]
    0 (T.prs [1000,1,58002,1003,4,5,4006,5,213006]) (t_law05_OpsWrong_ok _ _ _ _)
    T.okS (by kernel_rfl)
theorem ow11_1 (a b c p : Int) (e1 : d_law00_Place a 16 = some 10) (e2 : d_law00_Place b 10 = some 1) (e3 : d_law00_Place c 1000 = some p) (h1 : 0 ≤ p) (h2 : p < 1000) : d_law05_OpsWrong 60 a b c = some (true) :=
  T.by_go [.o ((Go.Pv.d_law00_Place a 16).map .z) (.z (10)),
    .o ((Go.Pv.d_law00_Place c 1000).map .z) (.z (p)),
    .s (1 + p),
    .o ((Go.Pv.d_law00_Place b 10).map .z) (.z (1)),
    .w (0 - (1 + p)) (-1 - p),
    .a (-1 - p < 1)]
    0 (T.prs [1000,1,58002,2003,4,4005,213005]) (t_law05_OpsWrong_ok _ _ _ _)
    T.okS (by kernel_rfl)
theorem ow11_2 (a b c p : Int) (e1 : d_law00_Place a 16 = some 10) (e2 : d_law00_Place b 10 = some 2) (e3 : d_law00_Place c 1000 = some p) (h1 : 0 ≤ p) (h2 : p < 1000) : d_law05_OpsWrong 60 a b c = some (true) :=
  T.by_go [.o ((Go.Pv.d_law00_Place a 16).map .z) (.z (10)),
    .o ((Go.Pv.d_law00_Place c 1000).map .z) (.z (p)),
    .s (1 + p),
    .o ((Go.Pv.d_law00_Place b 10).map .z) (.z (2)),
    .w (3 + (1 + p)) (4 + p),
    .b (4 + p < 0),
    .a (4 + p > 0)]
    0 (T.prs [1000,1,58002,3003,3004,5,7006,5,213006]) (t_law05_OpsWrong_ok _ _ _ _)
    T.okS (by kernel_rfl)
theorem ow11_3 (a b c p : Int) (e1 : d_law00_Place a 16 = some 10) (e2 : d_law00_Place b 10 = some 3) (e3 : d_law00_Place c 1000 = some p) (h1 : 0 ≤ p) (h2 : p < 1000) : d_law05_OpsWrong 60 a b c = some (true) :=
  T.by_go [.o ((Go.Pv.d_law00_Place a 16).map .z) (.z (10)),
    .o ((Go.Pv.d_law00_Place c 1000).map .z) (.z (p)),
    .s (1 + p),
    .o ((Go.Pv.d_law00_Place b 10).map .z) (.z (3)),
    .w (0 - (1 + p)) (-1 - p),
    .a (-1 - p < 0)]
    0 (T.prs [1000,1,58002,4003,6004,10005,213005]) (t_law05_OpsWrong_ok _ _ _ _)
    T.okS (by kernel_rfl)
theorem ow11_4 (a b c p : Int) (e1 : d_law00_Place a 16 = some 10) (e2 : d_law00_Place b 10 = some 4) (e3 : d_law00_Place c 1000 = some p) (h1 : 0 ≤ p) (h2 : p < 1000) : d_law05_OpsWrong 60 a b c = some (true) :=
  T.by_go [.o ((Go.Pv.d_law00_Place a 16).map .z) (.z (10)),
    .o ((Go.Pv.d_law00_Place c 1000).map .z) (.z (p)),
    .s (1 + p),
    .o ((Go.Pv.d_law00_Place b 10).map .z) (.z (4)),
    .w (1 + (1 + p)) (2 + p),
    .b (2 + p < 0),
    .a (2 + p > 0)]
    0 (T.prs [1000,1,58002,5003,9004,5,13006,5,213006]) (t_law05_OpsWrong_ok _ _ _ _)
    T.okS (by kernel_rfl)
theorem ow11_5 (a b c p : Int) (e1 : d_law00_Place a 16 = some 10) (e2 : d_law00_Place b 10 = some 5) (e3 : d_law00_Place c 1000 = some p) (h1 : 0 ≤ p) (h2 : p < 1000) : d_law05_OpsWrong 60 a b c = some (true) :=
  T.by_go [.o ((Go.Pv.d_law00_Place a 16).map .z) (.z (10)),
    .o ((Go.Pv.d_law00_Place c 1000).map .z) (.z (p)),
    .s (1 + p),
    .o ((Go.Pv.d_law00_Place b 10).map .z) (.z (5)),
    .w (3 + (1 + p)) (4 + p),
    .b (4 + p < 0),
    .a (4 + p > 2)]
    0 (T.prs [1000,1,58002,6003,16004,5,20006,5,213006]) (t_law05_OpsWrong_ok _ _ _ _)
    T.okS (by kernel_rfl)
theorem ow11_6 (a b c p : Int) (e1 : d_law00_Place a 16 = some 10) (e2 : d_law00_Place b 10 = some 6) (e3 : d_law00_Place c 1000 = some p) (h1 : 0 ≤ p) (h2 : p < 1000) : d_law05_OpsWrong 60 a b c = some (true) :=
  T.by_go [.o ((Go.Pv.d_law00_Place a 16).map .z) (.z (10)),
    .o ((Go.Pv.d_law00_Place c 1000).map .z) (.z (p)),
    .s (1 + p),
    .o ((Go.Pv.d_law00_Place b 10).map .z) (.z (6)),
    .w (0 - (1 + p)) (-1 - p),
    .a (-1 - p < 0)]
    0 (T.prs [1000,1,58002,7003,19004,23005,213005]) (t_law05_OpsWrong_ok _ _ _ _)
    T.okS (by kernel_rfl)
theorem ow11_7 (a b c p : Int) (e1 : d_law00_Place a 16 = some 10) (e2 : d_law00_Place b 10 = some 7) (e3 : d_law00_Place c 1000 = some p) (h1 : 0 ≤ p) (h2 : p < 1000) : d_law05_OpsWrong 60 a b c = some (true) :=
  T.by_go [.o ((Go.Pv.d_law00_Place a 16).map .z) (.z (10)),
    .o ((Go.Pv.d_law00_Place c 1000).map .z) (.z (p)),
    .s (1 + p),
    .o ((Go.Pv.d_law00_Place b 10).map .z) (.z (7)),
    .w (1125899906842624 + (1 + p)) (1125899906842625 + p),
    .b (1125899906842625 + p < 0),
    .a (1125899906842625 + p > 1125899906842624)]
    0 (T.prs [1000,1,58002,8003,30004,5,34006,5,213006]) (t_law05_OpsWrong_ok _ _ _ _)
    T.okS (by kernel_rfl)
theorem ow11_8 (a b c p : Int) (e1 : d_law00_Place a 16 = some 10) (e2 : d_law00_Place b 10 = some 8) (e3 : d_law00_Place c 1000 = some p) (h1 : 0 ≤ p) (h2 : p < 1000) : d_law05_OpsWrong 60 a b c = some (true) :=
  T.by_go [.o ((Go.Pv.d_law00_Place a 16).map .z) (.z (10)),
    .o ((Go.Pv.d_law00_Place c 1000).map .z) (.z (p)),
    .s (1 + p),
    .o ((Go.Pv.d_law00_Place b 10).map .z) (.z (8)),
    .w (39 + (1 + p)) (40 + p),
    .b (40 + p < 0),
    .a (40 + p > 0)]
    0 (T.prs [1000,1,58002,9003,33004,5,37006,5,213006]) (t_law05_OpsWrong_ok _ _ _ _)
    T.okS (by kernel_rfl)
theorem ow11_9 (a b c p : Int) (e1 : d_law00_Place a 16 = some 10) (e2 : d_law00_Place b 10 = some 9) (e3 : d_law00_Place c 1000 = some p) (h1 : 0 ≤ p) (h2 : p < 1000) : d_law05_OpsWrong 60 a b c = some (true) :=
  T.by_go [.o ((Go.Pv.d_law00_Place a 16).map .z) (.z (10)),
    .o ((Go.Pv.d_law00_Place c 1000).map .z) (.z (p)),
    .s (1 + p),
    .o ((Go.Pv.d_law00_Place b 10).map .z) (.z (9)),
    .w (0 - (1 + p)) (-1 - p),
    .a (-1 - p < 0)]
    0 (T.prs [1000,1,58002,9003,46004,49005,213005]) (t_law05_OpsWrong_ok _ _ _ _)
    T.okS (by kernel_rfl)
theorem ow12_0 (a b c p : Int) (e1 : d_law00_Place a 16 = some 11) (e2 : d_law00_Place b 10 = some 0) (e3 : d_law00_Place c 1000 = some p) (h1 : 0 ≤ p) (h2 : p < 1000) : d_law05_OpsWrong 60 a b c = some (true) :=
  T.by_go [.o ((Go.Pv.d_law00_Place a 16).map .z) (.z (11)),
    .o ((Go.Pv.d_law00_Place c 1000).map .z) (.z (p)),
    .s (1 + p),
    .o ((Go.Pv.d_law00_Place b 10).map .z) (.z (0)),
    .w (16 + (1 + p)) (17 + p),
    .b (17 + p < 1),
    .a (17 + p > 16)]
    0 (T.prs [1000,1,66002,1003,4,5,4006,5,213006]) (t_law05_OpsWrong_ok _ _ _ _)
    T.okS (by kernel_rfl)
theorem ow12_1 (a b c p : Int) (e1 : d_law00_Place a 16 = some 11) (e2 : d_law00_Place b 10 = some 1) (e3 : d_law00_Place c 1000 = some p) (h1 : 0 ≤ p) (h2 : p < 1000) : d_law05_OpsWrong 60 a b c = some (true) :=
  T.by_go [.o ((Go.Pv.d_law00_Place a 16).map .z) (.z (11)),
    .o ((Go.Pv.d_law00_Place c 1000).map .z) (.z (p)),
    .s (1 + p),
    .o ((Go.Pv.d_law00_Place b 10).map .z) (.z (1)),
    .w (0 - (1 + p)) (-1 - p),
    .a (-1 - p < 1)]
    0 (T.prs [1000,1,66002,2003,4,4005,213005]) (t_law05_OpsWrong_ok _ _ _ _)
    T.okS (by kernel_rfl)
theorem ow12_2 (a b c p : Int) (e1 : d_law00_Place a 16 = some 11) (e2 : d_law00_Place b 10 = some 2) (e3 : d_law00_Place c 1000 = some p) (h1 : 0 ≤ p) (h2 : p < 1000) : d_law05_OpsWrong 60 a b c = some (true) :=
  T.by_go [.o ((Go.Pv.d_law00_Place a 16).map .z) (.z (11)),
    .o ((Go.Pv.d_law00_Place c 1000).map .z) (.z (p)),
    .s (1 + p),
    .o ((Go.Pv.d_law00_Place b 10).map .z) (.z (2)),
    .w (3 + (1 + p)) (4 + p),
    .b (4 + p < 0),
    .a (4 + p > 3)]
    0 (T.prs [1000,1,66002,3003,4004,5,8006,5,213006]) (t_law05_OpsWrong_ok _ _ _ _)
    T.okS (by kernel_rfl)
theorem ow12_3 (a b c p : Int) (e1 : d_law00_Place a 16 = some 11) (e2 : d_law00_Place b 10 = some 3) (e3 : d_law00_Place c 1000 = some p) (h1 : 0 ≤ p) (h2 : p < 1000) : d_law05_OpsWrong 60 a b c = some (true) :=
  T.by_go [.o ((Go.Pv.d_law00_Place a 16).map .z) (.z (11)),
    .o ((Go.Pv.d_law00_Place c 1000).map .z) (.z (p)),
    .s (1 + p),
    .o ((Go.Pv.d_law00_Place b 10).map .z) (.z (3)),
    .w (0 - (1 + p)) (-1 - p),
    .a (-1 - p < 0)]
    0 (T.prs [1000,1,66002,4003,9004,13005,213005]) (t_law05_OpsWrong_ok _ _ _ _)
    T.okS (by kernel_rfl)
theorem ow12_4 (a b c p : Int) (e1 : d_law00_Place a 16 = some 11) (e2 : d_law00_Place b 10 = some 4) (e3 : d_law00_Place c 1000 = some p) (h1 : 0 ≤ p) (h2 : p < 1000) : d_law05_OpsWrong 60 a b c = some (true) :=
  T.by_go [.o ((Go.Pv.d_law00_Place a 16).map .z) (.z (11)),
    .o ((Go.Pv.d_law00_Place c 1000).map .z) (.z (p)),
    .s (1 + p),
    .o ((Go.Pv.d_law00_Place b 10).map .z) (.z (4)),
    .w (1 + (1 + p)) (2 + p),
    .b (2 + p < 0),
    .a (2 + p > 1)]
    0 (T.prs [1000,1,66002,5003,15004,5,19006,5,213006]) (t_law05_OpsWrong_ok _ _ _ _)
    T.okS (by kernel_rfl)
theorem ow12_5 (a b c p : Int) (e1 : d_law00_Place a 16 = some 11) (e2 : d_law00_Place b 10 = some 5) (e3 : d_law00_Place c 1000 = some p) (h1 : 0 ≤ p) (h2 : p < 1000) : d_law05_OpsWrong 60 a b c = some (true) :=
  T.by_go [.o ((Go.Pv.d_law00_Place a 16).map .z) (.z (11)),
    .o ((Go.Pv.d_law00_Place c 1000).map .z) (.z (p)),
    .s (1 + p),
    .o ((Go.Pv.d_law00_Place b 10).map .z) (.z (5)),
    .w (3 + (1 + p)) (4 + p),
    .b (4 + p < 0),
    .a (4 + p > 3)]
    0 (T.prs [1000,1,66002,6003,22004,5,26006,5,213006]) (t_law05_OpsWrong_ok _ _ _ _)
    T.okS (by kernel_rfl)
theorem ow12_6 (a b c p : Int) (e1 : d_law00_Place a 16 = some 11) (e2 : d_law00_Place b 10 = some 6) (e3 : d_law00_Place c 1000 = some p) (h1 : 0 ≤ p) (h2 : p < 1000) : d_law05_OpsWrong 60 a b c = some (true) :=
  T.by_go [.o ((Go.Pv.d_law00_Place a 16).map .z) (.z (11)),
    .o ((Go.Pv.d_law00_Place c 1000).map .z) (.z (p)),
    .s (1 + p),
    .o ((Go.Pv.d_law00_Place b 10).map .z) (.z (6)),
    .w (0 - (1 + p)) (-1 - p),
    .a (-1 - p < 1)]
    0 (T.prs [1000,1,66002,7003,31004,35005,213005]) (t_law05_OpsWrong_ok _ _ _ _)
    T.okS (by kernel_rfl)
theorem ow12_7 (a b c p : Int) (e1 : d_law00_Place a 16 = some 11) (e2 : d_law00_Place b 10 = some 7) (e3 : d_law00_Place c 1000 = some p) (h1 : 0 ≤ p) (h2 : p < 1000) : d_law05_OpsWrong 60 a b c = some (true) :=
  T.by_go [.o ((Go.Pv.d_law00_Place a 16).map .z) (.z (11)),
    .o ((Go.Pv.d_law00_Place c 1000).map .z) (.z (p)),
    .s (1 + p),
    .o ((Go.Pv.d_law00_Place b 10).map .z) (.z (7)),
    .w (1125899906842624 + (1 + p)) (1125899906842625 + p),
    .b (1125899906842625 + p < 0),
    .a (1125899906842625 + p > 1125899906842624)]
    0 (T.prs [1000,1,66002,8003,42004,5,46006,5,213006]) (t_law05_OpsWrong_ok _ _ _ _)
    T.okS (by kernel_rfl)
theorem ow12_8 (a b c p : Int) (e1 : d_law00_Place a 16 = some 11) (e2 : d_law00_Place b 10 = some 8) (e3 : d_law00_Place c 1000 = some p) (h1 : 0 ≤ p) (h2 : p < 1000) : d_law05_OpsWrong 60 a b c = some (true) :=
  T.by_go [.o ((Go.Pv.d_law00_Place a 16).map .z) (.z (11)),
    .o ((Go.Pv.d_law00_Place c 1000).map .z) (.z (p)),
    .s (1 + p),
    .o ((Go.Pv.d_law00_Place b 10).map .z) (.z (8)),
    .w (39 + (1 + p)) (40 + p),
    .b (40 + p < 0),
    .a (40 + p > 0)]
    0 (T.prs [1000,1,66002,9003,45004,5,49006,5,213006]) (t_law05_OpsWrong_ok _ _ _ _)
    T.okS (by kernel_rfl)
theorem ow12_9 (a b c p : Int) (e1 : d_law00_Place a 16 = some 11) (e2 : d_law00_Place b 10 = some 9) (e3 : d_law00_Place c 1000 = some p) (h1 : 0 ≤ p) (h2 : p < 1000) : d_law05_OpsWrong 60 a b c = some (true) :=
  T.by_go [.o ((Go.Pv.d_law00_Place a 16).map .z) (.z (11)),
    .o ((Go.Pv.d_law00_Place c 1000).map .z) (.z (p)),
    .s (1 + p),
    .o ((Go.Pv.d_law00_Place b 10).map .z) (.z (9)),
    .w (0 - (1 + p)) (-1 - p)]
    0 (T.prs [1000,1,66002,9003,316004]) (t_law05_OpsWrong_ok _ _ _ _)
    T.okS (by kernel_rfl)
theorem ow13_0 (a b c p : Int) (e1 : d_law00_Place a 16 = some 12) (e2 : d_law00_Place b 10 = some 0) (e3 : d_law00_Place c 1000 = some p) (h1 : 0 ≤ p) (h2 : p < 1000) : d_law05_OpsWrong 60 a b c = some (true) :=
  T.by_go [.o ((Go.Pv.d_law00_Place a 16).map .z) (.z (12)),
    .o ((Go.Pv.d_law00_Place c 1000).map .z) (.z (p)),
    .s (1 + p),
    .o ((Go.Pv.d_law00_Place b 10).map .z) (.z (0)),
    .w (16 + (1 + p)) (17 + p),
    .b (17 + p < 1),
    .a (17 + p > 16)]
    0 (T.prs [1000,1,57002,1003,4,5,4006,5,213006]) (t_law05_OpsWrong_ok _ _ _ _)
    T.okS (by kernel_rfl)
theorem ow13_1 (a b c p : Int) (e1 : d_law00_Place a 16 = some 12) (e2 : d_law00_Place b 10 = some 1) (e3 : d_law00_Place c 1000 = some p) (h1 : 0 ≤ p) (h2 : p < 1000) : d_law05_OpsWrong 60 a b c = some (true) :=
  T.by_go [.o ((Go.Pv.d_law00_Place a 16).map .z) (.z (12)),
    .o ((Go.Pv.d_law00_Place c 1000).map .z) (.z (p)),
    .s (1 + p),
    .o ((Go.Pv.d_law00_Place b 10).map .z) (.z (1)),
    .w (0 - (1 + p)) (-1 - p),
    .a (-1 - p < 1)]
    0 (T.prs [1000,1,57002,2003,4,4005,213005]) (t_law05_OpsWrong_ok _ _ _ _)
    T.okS (by kernel_rfl)
theorem ow13_2 (a b c p : Int) (e1 : d_law00_Place a 16 = some 12) (e2 : d_law00_Place b 10 = some 2) (e3 : d_law00_Place c 1000 = some p) (h1 : 0 ≤ p) (h2 : p < 1000) : d_law05_OpsWrong 60 a b c = some (true) :=
  T.by_go [.o ((Go.Pv.d_law00_Place a 16).map .z) (.z (12)),
    .o ((Go.Pv.d_law00_Place c 1000).map .z) (.z (p)),
    .s (1 + p),
    .o ((Go.Pv.d_law00_Place b 10).map .z) (.z (2)),
    .w (3 + (1 + p)) (4 + p),
    .b (4 + p < 0),
    .a (4 + p > 0)]
    0 (T.prs [1000,1,57002,3003,3004,5,7006,5,213006]) (t_law05_OpsWrong_ok _ _ _ _)
    T.okS (by kernel_rfl)
theorem ow13_3 (a b c p : Int) (e1 : d_law00_Place a 16 = some 12) (e2 : d_law00_Place b 10 = some 3) (e3 : d_law00_Place c 1000 = some p) (h1 : 0 ≤ p) (h2 : p < 1000) : d_law05_OpsWrong 60 a b c = some (true) :=
  T.by_go [.o ((Go.Pv.d_law00_Place a 16).map .z) (.z (12)),
    .o ((Go.Pv.d_law00_Place c 1000).map .z) (.z (p)),
    .s (1 + p),
    .o ((Go.Pv.d_law00_Place b 10).map .z) (.z (3)),
    .w (0 - (1 + p)) (-1 - p),
    .a (-1 - p < 0)]
    0 (T.prs [1000,1,57002,4003,6004,10005,213005]) (t_law05_OpsWrong_ok _ _ _ _)
    T.okS (by kernel_rfl)
theorem ow13_4 (a b c p : Int) (e1 : d_law00_Place a 16 = some 12) (e2 : d_law00_Place b 10 = some 4) (e3 : d_law00_Place c 1000 = some p) (h1 : 0 ≤ p) (h2 : p < 1000) : d_law05_OpsWrong 60 a b c = some (true) :=
  T.by_go [.o ((Go.Pv.d_law00_Place a 16).map .z) (.z (12)),
    .o ((Go.Pv.d_law00_Place c 1000).map .z) (.z (p)),
    .s (1 + p),
    .o ((Go.Pv.d_law00_Place b 10).map .z) (.z (4)),
    .w (1 + (1 + p)) (2 + p),
    .b (2 + p < 0),
    .a (2 + p > 1)]
    0 (T.prs [1000,1,57002,5003,12004,5,16006,5,213006]) (t_law05_OpsWrong_ok _ _ _ _)
    T.okS (by kernel_rfl)
theorem ow13_5 (a b c p : Int) (e1 : d_law00_Place a 16 = some 12) (e2 : d_law00_Place b 10 = some 5) (e3 : d_law00_Place c 1000 = some p) (h1 : 0 ≤ p) (h2 : p < 1000) : d_law05_OpsWrong 60 a b c = some (true) :=
  T.by_go [.o ((Go.Pv.d_law00_Place a 16).map .z) (.z (12)),
    .o ((Go.Pv.d_law00_Place c 1000).map .z) (.z (p)),
    .s (1 + p),
    .o ((Go.Pv.d_law00_Place b 10).map .z) (.z (5)),
    .w (3 + (1 + p)) (4 + p),
    .b (4 + p < 0),
    .a (4 + p > 0)]
    0 (T.prs [1000,1,57002,6003,15004,5,19006,5,213006]) (t_law05_OpsWrong_ok _ _ _ _)
    T.okS (by kernel_rfl)
theorem ow13_6 (a b c p : Int) (e1 : d_law00_Place a 16 = some 12) (e2 : d_law00_Place b 10 = some 6) (e3 : d_law00_Place c 1000 = some p) (h1 : 0 ≤ p) (h2 : p < 1000) : d_law05_OpsWrong 60 a b c = some (true) :=
  T.by_go [.o ((Go.Pv.d_law00_Place a 16).map .z) (.z (12)),
    .o ((Go.Pv.d_law00_Place c 1000).map .z) (.z (p)),
    .s (1 + p),
    .o ((Go.Pv.d_law00_Place b 10).map .z) (.z (6)),
    .w (0 - (1 + p)) (-1 - p),
    .a (-1 - p < 1)]
    0 (T.prs [1000,1,57002,7003,24004,28005,213005]) (t_law05_OpsWrong_ok _ _ _ _)
    T.okS (by kernel_rfl)
theorem ow13_7 (a b c p : Int) (e1 : d_law00_Place a 16 = some 12) (e2 : d_law00_Place b 10 = some 7) (e3 : d_law00_Place c 1000 = some p) (h1 : 0 ≤ p) (h2 : p < 1000) : d_law05_OpsWrong 60 a b c = some (true) :=
  T.by_go [.o ((Go.Pv.d_law00_Place a 16).map .z) (.z (12)),
    .o ((Go.Pv.d_law00_Place c 1000).map .z) (.z (p)),
    .s (1 + p),
    .o ((Go.Pv.d_law00_Place b 10).map .z) (.z (7)),
    .w (1125899906842624 + (1 + p)) (1125899906842625 + p),
    .b (1125899906842625 + p < 0),
    .a (1125899906842625 + p > 0)]
    0 (T.prs [1000,1,57002,8003,27004,5,31006,5,213006]) (t_law05_OpsWrong_ok _ _ _ _)
    T.okS (by kernel_rfl)
theorem ow13_8 (a b c p : Int) (e1 : d_law00_Place a 16 = some 12) (e2 : d_law00_Place b 10 = some 8) (e3 : d_law00_Place c 1000 = some p) (h1 : 0 ≤ p) (h2 : p < 1000) : d_law05_OpsWrong 60 a b c = some (true) :=
  T.by_go [.o ((Go.Pv.d_law00_Place a 16).map .z) (.z (12)),
    .o ((Go.Pv.d_law00_Place c 1000).map .z) (.z (p)),
    .s (1 + p),
    .o ((Go.Pv.d_law00_Place b 10).map .z) (.z (8)),
    .w (39 + (1 + p)) (40 + p),
    .b (40 + p < 0),
    .a (40 + p > 39)]
    0 (T.prs [1000,1,57002,9003,36004,5,40006,5,213006]) (t_law05_OpsWrong_ok _ _ _ _)
    T.okS (by kernel_rfl)
theorem ow13_9 (a b c p : Int) (e1 : d_law00_Place a 16 = some 12) (e2 : d_law00_Place b 10 = some 9) (e3 : d_law00_Place c 1000 = some p) (h1 : 0 ≤ p) (h2 : p < 1000) : d_law05_OpsWrong 60 a b c = some (true) :=
  T.by_go [.o ((Go.Pv.d_law00_Place a 16).map .z) (.z (12)),
    .o ((Go.Pv.d_law00_Place c 1000).map .z) (.z (p)),
    .s (1 + p),
    .o ((Go.Pv.d_law00_Place b 10).map .z) (.z (9)),
    .w (0 - (1 + p)) (-1 - p)]
    0 (T.prs [1000,1,57002,9003,298004]) (t_law05_OpsWrong_ok _ _ _ _)
    T.okS (by kernel_rfl)
theorem ow14_0 (a b c p : Int) (e1 : d_law00_Place a 16 = some 13) (e2 : d_law00_Place b 10 = some 0) (e3 : d_law00_Place c 1000 = some p) (h1 : 0 ≤ p) (h2 : p < 1000) : d_law05_OpsWrong 60 a b c = some (true) :=
  T.by_go [.o ((Go.Pv.d_law00_Place a 16).map .z) (.z (13)),
    .o ((Go.Pv.d_law00_Place c 1000).map .z) (.z (p)),
    .s (1 + p),
    .o ((Go.Pv.d_law00_Place b 10).map .z) (.z (0)),
    .w (16 + (1 + p)) (17 + p),
    .b (17 + p < 1),
    .a (17 + p > 16)]
    0 (T.prs [1000,1,44002,1003,4,5,4006,5,213006]) (t_law05_OpsWrong_ok _ _ _ _)
    T.okS (by kernel_rfl)
theorem ow14_1 (a b c p : Int) (e1 : d_law00_Place a 16 = some 13) (e2 : d_law00_Place b 10 = some 1) (e3 : d_law00_Place c 1000 = some p) (h1 : 0 ≤ p) (h2 : p < 1000) : d_law05_OpsWrong 60 a b c = some (true) :=
  T.by_go [.o ((Go.Pv.d_law00_Place a 16).map .z) (.z (13)),
    .o ((Go.Pv.d_law00_Place c 1000).map .z) (.z (p)),
    .s (1 + p),
    .o ((Go.Pv.d_law00_Place b 10).map .z) (.z (1)),
    .w (0 - (1 + p)) (-1 - p),
    .a (-1 - p < 1)]
    0 (T.prs [1000,1,44002,2003,4,4005,213005]) (t_law05_OpsWrong_ok _ _ _ _)
    T.okS (by kernel_rfl)
theorem ow14_2 (a b c p : Int) (e1 : d_law00_Place a 16 = some 13) (e2 : d_law00_Place b 10 = some 2) (e3 : d_law00_Place c 1000 = some p) (h1 : 0 ≤ p) (h2 : p < 1000) : d_law05_OpsWrong 60 a b c = some (true) :=
  T.by_go [.o ((Go.Pv.d_law00_Place a 16).map .z) (.z (13)),
    .o ((Go.Pv.d_law00_Place c 1000).map .z) (.z (p)),
    .s (1 + p),
    .o ((Go.Pv.d_law00_Place b 10).map .z) (.z (2)),
    .w (3 + (1 + p)) (4 + p),
    .b (4 + p < 0),
    .a (4 + p > 3)]
    0 (T.prs [1000,1,44002,3003,4004,5,8006,5,213006]) (t_law05_OpsWrong_ok _ _ _ _)
    T.okS (by kernel_rfl)
theorem ow14_3 (a b c p : Int) (e1 : d_law00_Place a 16 = some 13) (e2 : d_law00_Place b 10 = some 3) (e3 : d_law00_Place c 1000 = some p) (h1 : 0 ≤ p) (h2 : p < 1000) : d_law05_OpsWrong 60 a b c = some (true) :=
  T.by_go [.o ((Go.Pv.d_law00_Place a 16).map .z) (.z (13)),
    .o ((Go.Pv.d_law00_Place c 1000).map .z) (.z (p)),
    .s (1 + p),
    .o ((Go.Pv.d_law00_Place b 10).map .z) (.z (3)),
    .w (0 - (1 + p)) (-1 - p),
    .a (-1 - p < 0)]
    0 (T.prs [1000,1,44002,4003,7004,11005,213005]) (t_law05_OpsWrong_ok _ _ _ _)
    T.okS (by kernel_rfl)
theorem ow14_4 (a b c p : Int) (e1 : d_law00_Place a 16 = some 13) (e2 : d_law00_Place b 10 = some 4) (e3 : d_law00_Place c 1000 = some p) (h1 : 0 ≤ p) (h2 : p < 1000) : d_law05_OpsWrong 60 a b c = some (true) :=
  T.by_go [.o ((Go.Pv.d_law00_Place a 16).map .z) (.z (13)),
    .o ((Go.Pv.d_law00_Place c 1000).map .z) (.z (p)),
    .s (1 + p),
    .o ((Go.Pv.d_law00_Place b 10).map .z) (.z (4)),
    .w (1 + (1 + p)) (2 + p),
    .b (2 + p < 0),
    .a (2 + p > 0)]
    0 (T.prs [1000,1,44002,5003,10004,5,14006,5,213006]) (t_law05_OpsWrong_ok _ _ _ _)
    T.okS (by kernel_rfl)
theorem ow14_5 (a b c p : Int) (e1 : d_law00_Place a 16 = some 13) (e2 : d_law00_Place b 10 = some 5) (e3 : d_law00_Place c 1000 = some p) (h1 : 0 ≤ p) (h2 : p < 1000) : d_law05_OpsWrong 60 a b c = some (true) :=
  T.by_go [.o ((Go.Pv.d_law00_Place a 16).map .z) (.z (13)),
    .o ((Go.Pv.d_law00_Place c 1000).map .z) (.z (p)),
    .s (1 + p),
    .o ((Go.Pv.d_law00_Place b 10).map .z) (.z (5)),
    .w (3 + (1 + p)) (4 + p),
    .b (4 + p < 0),
    .a (4 + p > 0)]
    0 (T.prs [1000,1,44002,6003,13004,5,17006,5,213006]) (t_law05_OpsWrong_ok _ _ _ _)
    T.okS (by kernel_rfl)
theorem ow14_6 (a b c p : Int) (e1 : d_law00_Place a 16 = some 13) (e2 : d_law00_Place b 10 = some 6) (e3 : d_law00_Place c 1000 = some p) (h1 : 0 ≤ p) (h2 : p < 1000) : d_law05_OpsWrong 60 a b c = some (true) :=
  T.by_go [.o ((Go.Pv.d_law00_Place a 16).map .z) (.z (13)),
    .o ((Go.Pv.d_law00_Place c 1000).map .z) (.z (p)),
    .s (1 + p),
    .o ((Go.Pv.d_law00_Place b 10).map .z) (.z (6)),
    .w (0 - (1 + p)) (-1 - p),
    .a (-1 - p < 0)]
    0 (T.prs [1000,1,44002,7003,16004,20005,213005]) (t_law05_OpsWrong_ok _ _ _ _)
    T.okS (by kernel_rfl)
theorem ow14_7 (a b c p : Int) (e1 : d_law00_Place a 16 = some 13) (e2 : d_law00_Place b 10 = some 7) (e3 : d_law00_Place c 1000 = some p) (h1 : 0 ≤ p) (h2 : p < 1000) : d_law05_OpsWrong 60 a b c = some (true) :=
  T.by_go [.o ((Go.Pv.d_law00_Place a 16).map .z) (.z (13)),
    .o ((Go.Pv.d_law00_Place c 1000).map .z) (.z (p)),
    .s (1 + p),
    .o ((Go.Pv.d_law00_Place b 10).map .z) (.z (7)),
    .w (1125899906842624 + (1 + p)) (1125899906842625 + p),
    .b (1125899906842625 + p < 0),
    .a (1125899906842625 + p > 0)]
    0 (T.prs [1000,1,44002,8003,19004,5,23006,5,213006]) (t_law05_OpsWrong_ok _ _ _ _)
    T.okS (by kernel_rfl)
theorem ow14_8 (a b c p : Int) (e1 : d_law00_Place a 16 = some 13) (e2 : d_law00_Place b 10 = some 8) (e3 : d_law00_Place c 1000 = some p) (h1 : 0 ≤ p) (h2 : p < 1000) : d_law05_OpsWrong 60 a b c = some (true) :=
  T.by_go [.o ((Go.Pv.d_law00_Place a 16).map .z) (.z (13)),
    .o ((Go.Pv.d_law00_Place c 1000).map .z) (.z (p)),
    .s (1 + p),
    .o ((Go.Pv.d_law00_Place b 10).map .z) (.z (8)),
    .w (39 + (1 + p)) (40 + p),
    .b (40 + p < 0),
    .a (40 + p > 0)]
    0 (T.prs [1000,1,44002,9003,22004,5,26006,5,213006]) (t_law05_OpsWrong_ok _ _ _ _)
    T.okS (by kernel_rfl)
theorem ow14_9 (a b c p : Int) (e1 : d_law00_Place a 16 = some 13) (e2 : d_law00_Place b 10 = some 9) (e3 : d_law00_Place c 1000 = some p) (h1 : 0 ≤ p) (h2 : p < 1000) : d_law05_OpsWrong 60 a b c = some (true) :=
  T.by_go [.o ((Go.Pv.d_law00_Place a 16).map .z) (.z (13)),
    .o ((Go.Pv.d_law00_Place c 1000).map .z) (.z (p)),
    .s (1 + p),
    .o ((Go.Pv.d_law00_Place b 10).map .z) (.z (9)),
    .w (0 - (1 + p)) (-1 - p)]
    0 (T.prs [1000,1,44002,9003,270004]) (t_law05_OpsWrong_ok _ _ _ _)
    T.okS (by kernel_rfl)
theorem ow15_0 (a b c p : Int) (e1 : d_law00_Place a 16 = some 14) (e2 : d_law00_Place b 10 = some 0) (e3 : d_law00_Place c 1000 = some p) (h1 : 0 ≤ p) (h2 : p < 1000) : d_law05_OpsWrong 60 a b c = some (true) :=
  T.by_go [.o ((Go.Pv.d_law00_Place a 16).map .z) (.z (14)),
    .o ((Go.Pv.d_law00_Place c 1000).map .z) (.z (p)),
    .s (1 + p),
    .o ((Go.Pv.d_law00_Place b 10).map .z) (.z (0)),
    .w (16 + (1 + p)) (17 + p),
    .b (17 + p < 1),
    .a (17 + p > 16)]
    0 (T.prs [1000,1,45002,1003,4,5,4006,5,213006]) (t_law05_OpsWrong_ok _ _ _ _)
    T.okS (by kernel_rfl)
theorem ow15_1 (a b c p : Int) (e1 : d_law00_Place a 16 = some 14) (e2 : d_law00_Place b 10 = some 1) (e3 : d_law00_Place c 1000 = some p) (h1 : 0 ≤ p) (h2 : p < 1000) : d_law05_OpsWrong 60 a b c = some (true) :=
  T.by_go [.o ((Go.Pv.d_law00_Place a 16).map .z) (.z (14)),
    .o ((Go.Pv.d_law00_Place c 1000).map .z) (.z (p)),
    .s (1 + p),
    .o ((Go.Pv.d_law00_Place b 10).map .z) (.z (1)),
    .w (0 - (1 + p)) (-1 - p),
    .a (-1 - p < 1)]
    0 (T.prs [1000,1,45002,2003,4,4005,213005]) (t_law05_OpsWrong_ok _ _ _ _)
    T.okS (by kernel_rfl)
theorem ow15_2 (a b c p : Int) (e1 : d_law00_Place a 16 = some 14) (e2 : d_law00_Place b 10 = some 2) (e3 : d_law00_Place c 1000 = some p) (h1 : 0 ≤ p) (h2 : p < 1000) : d_law05_OpsWrong 60 a b c = some (true) :=
  T.by_go [.o ((Go.Pv.d_law00_Place a 16).map .z) (.z (14)),
    .o ((Go.Pv.d_law00_Place c 1000).map .z) (.z (p)),
    .s (1 + p),
    .o ((Go.Pv.d_law00_Place b 10).map .z) (.z (2)),
    .w (3 + (1 + p)) (4 + p),
    .b (4 + p < 0),
    .a (4 + p > 3)]
    0 (T.prs [1000,1,45002,3003,4004,5,8006,5,213006]) (t_law05_OpsWrong_ok _ _ _ _)
    T.okS (by kernel_rfl)
theorem ow15_3 (a b c p : Int) (e1 : d_law00_Place a 16 = some 14) (e2 : d_law00_Place b 10 = some 3) (e3 : d_law00_Place c 1000 = some p) (h1 : 0 ≤ p) (h2 : p < 1000) : d_law05_OpsWrong 60 a b c = some (true) :=
  T.by_go [.o ((Go.Pv.d_law00_Place a 16).map .z) (.z (14)),
    .o ((Go.Pv.d_law00_Place c 1000).map .z) (.z (p)),
    .s (1 + p),
    .o ((Go.Pv.d_law00_Place b 10).map .z) (.z (3)),
    .w (0 - (1 + p)) (-1 - p),
    .a (-1 - p < 0)]
    0 (T.prs [1000,1,45002,4003,7004,11005,213005]) (t_law05_OpsWrong_ok _ _ _ _)
    T.okS (by kernel_rfl)
theorem ow15_4 (a b c p : Int) (e1 : d_law00_Place a 16 = some 14) (e2 : d_law00_Place b 10 = some 4) (e3 : d_law00_Place c 1000 = some p) (h1 : 0 ≤ p) (h2 : p < 1000) : d_law05_OpsWrong 60 a b c = some (true) :=
  T.by_go [.o ((Go.Pv.d_law00_Place a 16).map .z) (.z (14)),
    .o ((Go.Pv.d_law00_Place c 1000).map .z) (.z (p)),
    .s (1 + p),
    .o ((Go.Pv.d_law00_Place b 10).map .z) (.z (4)),
    .w (1 + (1 + p)) (2 + p),
    .b (2 + p < 0),
    .a (2 + p > 0)]
    0 (T.prs [1000,1,45002,5003,10004,5,14006,5,213006]) (t_law05_OpsWrong_ok _ _ _ _)
    T.okS (by kernel_rfl)
theorem ow15_5 (a b c p : Int) (e1 : d_law00_Place a 16 = some 14) (e2 : d_law00_Place b 10 = some 5) (e3 : d_law00_Place c 1000 = some p) (h1 : 0 ≤ p) (h2 : p < 1000) : d_law05_OpsWrong 60 a b c = some (true) :=
  T.by_go [.o ((Go.Pv.d_law00_Place a 16).map .z) (.z (14)),
    .o ((Go.Pv.d_law00_Place c 1000).map .z) (.z (p)),
    .s (1 + p),
    .o ((Go.Pv.d_law00_Place b 10).map .z) (.z (5)),
    .w (3 + (1 + p)) (4 + p),
    .b (4 + p < 0),
    .a (4 + p > 0)]
    0 (T.prs [1000,1,45002,6003,13004,5,17006,5,213006]) (t_law05_OpsWrong_ok _ _ _ _)
    T.okS (by kernel_rfl)
theorem ow15_6 (a b c p : Int) (e1 : d_law00_Place a 16 = some 14) (e2 : d_law00_Place b 10 = some 6) (e3 : d_law00_Place c 1000 = some p) (h1 : 0 ≤ p) (h2 : p < 1000) : d_law05_OpsWrong 60 a b c = some (true) :=
  T.by_go [.o ((Go.Pv.d_law00_Place a 16).map .z) (.z (14)),
    .o ((Go.Pv.d_law00_Place c 1000).map .z) (.z (p)),
    .s (1 + p),
    .o ((Go.Pv.d_law00_Place b 10).map .z) (.z (6)),
    .w (0 - (1 + p)) (-1 - p),
    .a (-1 - p < 0)]
    0 (T.prs [1000,1,45002,7003,16004,20005,213005]) (t_law05_OpsWrong_ok _ _ _ _)
    T.okS (by kernel_rfl)
theorem ow15_7 (a b c p : Int) (e1 : d_law00_Place a 16 = some 14) (e2 : d_law00_Place b 10 = some 7) (e3 : d_law00_Place c 1000 = some p) (h1 : 0 ≤ p) (h2 : p < 1000) : d_law05_OpsWrong 60 a b c = some (true) :=
  T.by_go [.o ((Go.Pv.d_law00_Place a 16).map .z) (.z (14)),
    .o ((Go.Pv.d_law00_Place c 1000).map .z) (.z (p)),
    .s (1 + p),
    .o ((Go.Pv.d_law00_Place b 10).map .z) (.z (7)),
    .w (1125899906842624 + (1 + p)) (1125899906842625 + p),
    .b (1125899906842625 + p < 0),
    .a (1125899906842625 + p > 0)]
    0 (T.prs [1000,1,45002,8003,19004,5,23006,5,213006]) (t_law05_OpsWrong_ok _ _ _ _)
    T.okS (by kernel_rfl)
theorem ow15_8 (a b c p : Int) (e1 : d_law00_Place a 16 = some 14) (e2 : d_law00_Place b 10 = some 8) (e3 : d_law00_Place c 1000 = some p) (h1 : 0 ≤ p) (h2 : p < 1000) : d_law05_OpsWrong 60 a b c = some (true) :=
  T.by_go [.o ((Go.Pv.d_law00_Place a 16).map .z) (.z (14)),
    .o ((Go.Pv.d_law00_Place c 1000).map .z) (.z (p)),
    .s (1 + p),
    .o ((Go.Pv.d_law00_Place b 10).map .z) (.z (8)),
    .w (39 + (1 + p)) (40 + p),
    .b (40 + p < 0),
    .a (40 + p > 0)]
    0 (T.prs [1000,1,45002,9003,22004,5,26006,5,213006]) (t_law05_OpsWrong_ok _ _ _ _)
    T.okS (by kernel_rfl)
theorem ow15_9 (a b c p : Int) (e1 : d_law00_Place a 16 = some 14) (e2 : d_law00_Place b 10 = some 9) (e3 : d_law00_Place c 1000 = some p) (h1 : 0 ≤ p) (h2 : p < 1000) : d_law05_OpsWrong 60 a b c = some (true) :=
  T.by_go [.o ((Go.Pv.d_law00_Place a 16).map .z) (.z (14)),
    .o ((Go.Pv.d_law00_Place c 1000).map .z) (.z (p)),
    .s (1 + p),
    .o ((Go.Pv.d_law00_Place b 10).map .z) (.z (9)),
    .w (0 - (1 + p)) (-1 - p)]
    0 (T.prs [1000,1,45002,9003,270004]) (t_law05_OpsWrong_ok _ _ _ _)
    T.okS (by kernel_rfl)
theorem ow16_0 (a b c p : Int) (e1 : d_law00_Place a 16 = some 15) (e2 : d_law00_Place b 10 = some 0) (e3 : d_law00_Place c 1000 = some p) (h1 : 0 ≤ p) (h2 : p < 1000) : d_law05_OpsWrong 60 a b c = some (true) :=
  T.by_go [.o ((Go.Pv.d_law00_Place a 16).map .z) (.z (15)),
    .o ((Go.Pv.d_law00_Place c 1000).map .z) (.z (p)),
    .s (1 + p),
    .o ((Go.Pv.d_law00_Place b 10).map .z) (.z (0)),
    .w (16 + (1 + p)) (17 + p),
    .b (17 + p < 1),
    .a (17 + p > 16)]
    0 (T.prs [1000,1,46002,1003,4,5,4006,5,213006]) (t_law05_OpsWrong_ok _ _ _ _)
    T.okS (by kernel_rfl)
theorem ow16_1 (a b c p : Int) (e1 : d_law00_Place a 16 = some 15) (e2 : d_law00_Place b 10 = some 1) (e3 : d_law00_Place c 1000 = some p) (h1 : 0 ≤ p) (h2 : p < 1000) : d_law05_OpsWrong 60 a b c = some (true) :=
  T.by_go [.o ((Go.Pv.d_law00_Place a 16).map .z) (.z (15)),
    .o ((Go.Pv.d_law00_Place c 1000).map .z) (.z (p)),
    .s (1 + p),
    .o ((Go.Pv.d_law00_Place b 10).map .z) (.z (1)),
    .w (0 - (1 + p)) (-1 - p),
    .a (-1 - p < 1)]
    0 (T.prs [1000,1,46002,2003,4,4005,213005]) (t_law05_OpsWrong_ok _ _ _ _)
    T.okS (by kernel_rfl)
theorem ow16_2 (a b c p : Int) (e1 : d_law00_Place a 16 = some 15) (e2 : d_law00_Place b 10 = some 2) (e3 : d_law00_Place c 1000 = some p) (h1 : 0 ≤ p) (h2 : p < 1000) : d_law05_OpsWrong 60 a b c = some (true) :=
  T.by_go [.o ((Go.Pv.d_law00_Place a 16).map .z) (.z (15)),
    .o ((Go.Pv.d_law00_Place c 1000).map .z) (.z (p)),
    .s (1 + p),
    .o ((Go.Pv.d_law00_Place b 10).map .z) (.z (2)),
    .w (3 + (1 + p)) (4 + p),
    .b (4 + p < 0),
    .a (4 + p > 3)]
    0 (T.prs [1000,1,46002,3003,4004,5,8006,5,213006]) (t_law05_OpsWrong_ok _ _ _ _)
    T.okS (by kernel_rfl)
theorem ow16_3 (a b c p : Int) (e1 : d_law00_Place a 16 = some 15) (e2 : d_law00_Place b 10 = some 3) (e3 : d_law00_Place c 1000 = some p) (h1 : 0 ≤ p) (h2 : p < 1000) : d_law05_OpsWrong 60 a b c = some (true) :=
  T.by_go [.o ((Go.Pv.d_law00_Place a 16).map .z) (.z (15)),
    .o ((Go.Pv.d_law00_Place c 1000).map .z) (.z (p)),
    .s (1 + p),
    .o ((Go.Pv.d_law00_Place b 10).map .z) (.z (3)),
    .w (0 - (1 + p)) (-1 - p),
    .a (-1 - p < 0)]
    0 (T.prs [1000,1,46002,4003,7004,11005,213005]) (t_law05_OpsWrong_ok _ _ _ _)
    T.okS (by kernel_rfl)
theorem ow16_4 (a b c p : Int) (e1 : d_law00_Place a 16 = some 15) (e2 : d_law00_Place b 10 = some 4) (e3 : d_law00_Place c 1000 = some p) (h1 : 0 ≤ p) (h2 : p < 1000) : d_law05_OpsWrong 60 a b c = some (true) :=
  T.by_go [.o ((Go.Pv.d_law00_Place a 16).map .z) (.z (15)),
    .o ((Go.Pv.d_law00_Place c 1000).map .z) (.z (p)),
    .s (1 + p),
    .o ((Go.Pv.d_law00_Place b 10).map .z) (.z (4)),
    .w (1 + (1 + p)) (2 + p),
    .b (2 + p < 0),
    .a (2 + p > 0)]
    0 (T.prs [1000,1,46002,5003,10004,5,14006,5,213006]) (t_law05_OpsWrong_ok _ _ _ _)
    T.okS (by kernel_rfl)
theorem ow16_5 (a b c p : Int) (e1 : d_law00_Place a 16 = some 15) (e2 : d_law00_Place b 10 = some 5) (e3 : d_law00_Place c 1000 = some p) (h1 : 0 ≤ p) (h2 : p < 1000) : d_law05_OpsWrong 60 a b c = some (true) :=
  T.by_go [.o ((Go.Pv.d_law00_Place a 16).map .z) (.z (15)),
    .o ((Go.Pv.d_law00_Place c 1000).map .z) (.z (p)),
    .s (1 + p),
    .o ((Go.Pv.d_law00_Place b 10).map .z) (.z (5)),
    .w (3 + (1 + p)) (4 + p),
    .b (4 + p < 0),
    .a (4 + p > 0)]
    0 (T.prs [1000,1,46002,6003,13004,5,17006,5,213006]) (t_law05_OpsWrong_ok _ _ _ _)
    T.okS (by kernel_rfl)
theorem ow16_6 (a b c p : Int) (e1 : d_law00_Place a 16 = some 15) (e2 : d_law00_Place b 10 = some 6) (e3 : d_law00_Place c 1000 = some p) (h1 : 0 ≤ p) (h2 : p < 1000) : d_law05_OpsWrong 60 a b c = some (true) :=
  T.by_go [.o ((Go.Pv.d_law00_Place a 16).map .z) (.z (15)),
    .o ((Go.Pv.d_law00_Place c 1000).map .z) (.z (p)),
    .s (1 + p),
    .o ((Go.Pv.d_law00_Place b 10).map .z) (.z (6)),
    .w (0 - (1 + p)) (-1 - p),
    .a (-1 - p < 0)]
    0 (T.prs [1000,1,46002,7003,16004,20005,213005]) (t_law05_OpsWrong_ok _ _ _ _)
    T.okS (by kernel_rfl)
theorem ow16_7 (a b c p : Int) (e1 : d_law00_Place a 16 = some 15) (e2 : d_law00_Place b 10 = some 7) (e3 : d_law00_Place c 1000 = some p) (h1 : 0 ≤ p) (h2 : p < 1000) : d_law05_OpsWrong 60 a b c = some (true) :=
  T.by_go [.o ((Go.Pv.d_law00_Place a 16).map .z) (.z (15)),
    .o ((Go.Pv.d_law00_Place c 1000).map .z) (.z (p)),
    .s (1 + p),
    .o ((Go.Pv.d_law00_Place b 10).map .z) (.z (7)),
    .w (1125899906842624 + (1 + p)) (1125899906842625 + p),
    .b (1125899906842625 + p < 0),
    .a (1125899906842625 + p > 0)]
    0 (T.prs [1000,1,46002,8003,19004,5,23006,5,213006]) (t_law05_OpsWrong_ok _ _ _ _)
    T.okS (by kernel_rfl)
theorem ow16_8 (a b c p : Int) (e1 : d_law00_Place a 16 = some 15) (e2 : d_law00_Place b 10 = some 8) (e3 : d_law00_Place c 1000 = some p) (h1 : 0 ≤ p) (h2 : p < 1000) : d_law05_OpsWrong 60 a b c = some (true) :=
  T.by_go [.o ((Go.Pv.d_law00_Place a 16).map .z) (.z (15)),
    .o ((Go.Pv.d_law00_Place c 1000).map .z) (.z (p)),
    .s (1 + p),
    .o ((Go.Pv.d_law00_Place b 10).map .z) (.z (8)),
    .w (39 + (1 + p)) (40 + p),
    .b (40 + p < 0),
    .a (40 + p > 0)]
    0 (T.prs [1000,1,46002,9003,22004,5,26006,5,213006]) (t_law05_OpsWrong_ok _ _ _ _)
    T.okS (by kernel_rfl)
theorem ow16_9 (a b c p : Int) (e1 : d_law00_Place a 16 = some 15) (e2 : d_law00_Place b 10 = some 9) (e3 : d_law00_Place c 1000 = some p) (h1 : 0 ≤ p) (h2 : p < 1000) : d_law05_OpsWrong 60 a b c = some (true) :=
  T.by_go [.o ((Go.Pv.d_law00_Place a 16).map .z) (.z (15)),
    .o ((Go.Pv.d_law00_Place c 1000).map .z) (.z (p)),
    .s (1 + p),
    .o ((Go.Pv.d_law00_Place b 10).map .z) (.z (9)),
    .w (0 - (1 + p)) (-1 - p)]
    0 (T.prs [1000,1,46002,9003,270004]) (t_law05_OpsWrong_ok _ _ _ _)
    T.okS (by kernel_rfl)
end Go.Pv
