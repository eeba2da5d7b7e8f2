/- Runs with symbols. -/
import Derived.Test.YtbcjcecegdfnpaaGreatM8
set_option linter.unusedSimpArgs false
set_option linter.unusedVariables false
namespace Go.Pv
open Go.Proofs
set_option maxRecDepth 100000
set_option maxHeartbeats 4000000
theorem se0 (a b k : Int) (e1 : d_law00_Place b 20 = some (k - 1)) (h1 : 1 ≤ k) (h2 : k ≤ 20) (e2 : d_law00_Place a 6 = some 0) : d_law20_ShipErrors 60 a b = some (true) :=
  T.by_go [.o ((Go.Pv.d_law00_Place b 20).map fun v => (v, 0, 0)) (k - 1, 0, 0),
    .w (1 + (k - 1)) (k),
    .w (5 + k) (5 + k),
    .o ((Go.Pv.d_law00_Place a 6).map fun v => (v, 0, 0)) (0, 0, 0),
    .q false (decide ((5 + k : Int) < 1)),
    .q false (decide ((5 + k : Int) < 5)),
    .w (5 + k - 5) (k),
    .q false (decide ((k : Int) = 0))]
    0 [(0,0), (1,0), (2,0), (3,61), (4,2), (5,0), (6,0), (7,8)] (t_law20_ShipErrors_ok _ _ _)
    (by repeat (first | exact T.okN | refine T.okC (by first | exact T.okT (by omega) | exact T.okT rfl | exact T.okF (by omega) | exact T.okW (by omega) | exact T.okW (by rw [Int.tdiv_eq_ediv_of_nonneg (by omega)]; omega) | exact T.okO (by assumption) | exact T.okO (md (by omega) (by omega) (by omega) (by first | omega | (simp only [Int.add_zero]; ac_rfl) | grind) (by omega)) | exact T.okT (by simp; done) | exact T.okF (by simp; done) | exact T.okF (by simp; omega) | exact T.okO (T.okP (by assumption))) ?_)) (by kernel_rfl)
theorem se1 (a b k : Int) (e1 : d_law00_Place b 20 = some (k - 1)) (h1 : 1 ≤ k) (h2 : k ≤ 20) (e2 : d_law00_Place a 6 = some 1) : d_law20_ShipErrors 60 a b = some (true) :=
  T.by_go [.o ((Go.Pv.d_law00_Place b 20).map fun v => (v, 0, 0)) (k - 1, 0, 0),
    .w (1 + (k - 1)) (k),
    .w (5 + k) (5 + k),
    .o ((Go.Pv.d_law00_Place a 6).map fun v => (v, 0, 0)) (1, 0, 0)]
    0 [(0,0), (1,0), (2,0), (3,24)] (t_law20_ShipErrors_ok _ _ _)
    (by repeat (first | exact T.okN | refine T.okC (by first | exact T.okT (by omega) | exact T.okT rfl | exact T.okF (by omega) | exact T.okW (by omega) | exact T.okW (by rw [Int.tdiv_eq_ediv_of_nonneg (by omega)]; omega) | exact T.okO (by assumption) | exact T.okO (md (by omega) (by omega) (by omega) (by first | omega | (simp only [Int.add_zero]; ac_rfl) | grind) (by omega)) | exact T.okT (by simp; done) | exact T.okF (by simp; done) | exact T.okF (by simp; omega) | exact T.okO (T.okP (by assumption))) ?_)) (by kernel_rfl)
theorem se2 (a b k : Int) (e1 : d_law00_Place b 20 = some (k - 1)) (h1 : 1 ≤ k) (h2 : k ≤ 20) (e2 : d_law00_Place a 6 = some 2) : d_law20_ShipErrors 60 a b = some (true) :=
  T.by_go [.o ((Go.Pv.d_law00_Place b 20).map fun v => (v, 0, 0)) (k - 1, 0, 0),
    .w (1 + (k - 1)) (k),
    .w (5 + k) (5 + k),
    .o ((Go.Pv.d_law00_Place a 6).map fun v => (v, 0, 0)) (2, 0, 0)]
    0 [(0,0), (1,0), (2,0), (3,10)] (t_law20_ShipErrors_ok _ _ _)
    (by repeat (first | exact T.okN | refine T.okC (by first | exact T.okT (by omega) | exact T.okT rfl | exact T.okF (by omega) | exact T.okW (by omega) | exact T.okW (by rw [Int.tdiv_eq_ediv_of_nonneg (by omega)]; omega) | exact T.okO (by assumption) | exact T.okO (md (by omega) (by omega) (by omega) (by first | omega | (simp only [Int.add_zero]; ac_rfl) | grind) (by omega)) | exact T.okT (by simp; done) | exact T.okF (by simp; done) | exact T.okF (by simp; omega) | exact T.okO (T.okP (by assumption))) ?_)) (by kernel_rfl)
theorem se3 (a b k : Int) (e1 : d_law00_Place b 20 = some (k - 1)) (h1 : 1 ≤ k) (h2 : k ≤ 20) (e2 : d_law00_Place a 6 = some 3) : d_law20_ShipErrors 60 a b = some (true) :=
  T.by_go [.o ((Go.Pv.d_law00_Place b 20).map fun v => (v, 0, 0)) (k - 1, 0, 0),
    .w (1 + (k - 1)) (k),
    .w (5 + k) (5 + k),
    .o ((Go.Pv.d_law00_Place a 6).map fun v => (v, 0, 0)) (3, 0, 0)]
    0 [(0,0), (1,0), (2,0), (3,13)] (t_law20_ShipErrors_ok _ _ _)
    (by repeat (first | exact T.okN | refine T.okC (by first | exact T.okT (by omega) | exact T.okT rfl | exact T.okF (by omega) | exact T.okW (by omega) | exact T.okW (by rw [Int.tdiv_eq_ediv_of_nonneg (by omega)]; omega) | exact T.okO (by assumption) | exact T.okO (md (by omega) (by omega) (by omega) (by first | omega | (simp only [Int.add_zero]; ac_rfl) | grind) (by omega)) | exact T.okT (by simp; done) | exact T.okF (by simp; done) | exact T.okF (by simp; omega) | exact T.okO (T.okP (by assumption))) ?_)) (by kernel_rfl)
theorem se4 (a b k : Int) (e1 : d_law00_Place b 20 = some (k - 1)) (h1 : 1 ≤ k) (h2 : k ≤ 20) (e2 : d_law00_Place a 6 = some 4) : d_law20_ShipErrors 60 a b = some (true) :=
  T.by_go [.o ((Go.Pv.d_law00_Place b 20).map fun v => (v, 0, 0)) (k - 1, 0, 0),
    .w (1 + (k - 1)) (k),
    .w (5 + k) (5 + k),
    .o ((Go.Pv.d_law00_Place a 6).map fun v => (v, 0, 0)) (4, 0, 0),
    .q false (decide ((k : Int) < 0)),
    .q true (decide ((k : Int) ≥ 0))]
    0 [(0,0), (1,0), (2,0), (3,6), (4,0), (5,2)] (t_law20_ShipErrors_ok _ _ _)
    (by repeat (first | exact T.okN | refine T.okC (by first | exact T.okT (by omega) | exact T.okT rfl | exact T.okF (by omega) | exact T.okW (by omega) | exact T.okW (by rw [Int.tdiv_eq_ediv_of_nonneg (by omega)]; omega) | exact T.okO (by assumption) | exact T.okO (md (by omega) (by omega) (by omega) (by first | omega | (simp only [Int.add_zero]; ac_rfl) | grind) (by omega)) | exact T.okT (by simp; done) | exact T.okF (by simp; done) | exact T.okF (by simp; omega) | exact T.okO (T.okP (by assumption))) ?_)) (by kernel_rfl)
theorem se5 (a b k : Int) (e1 : d_law00_Place b 20 = some (k - 1)) (h1 : 1 ≤ k) (h2 : k ≤ 20) (e2 : d_law00_Place a 6 = some 5) : d_law20_ShipErrors 60 a b = some (true) :=
  T.by_go [.o ((Go.Pv.d_law00_Place b 20).map fun v => (v, 0, 0)) (k - 1, 0, 0),
    .w (1 + (k - 1)) (k),
    .w (5 + k) (5 + k),
    .o ((Go.Pv.d_law00_Place a 6).map fun v => (v, 0, 0)) (5, 0, 0),
    .q false (decide ((k : Int) < 1))]
    0 [(0,0), (1,0), (2,0), (3,61), (4,7)] (t_law20_ShipErrors_ok _ _ _)
    (by repeat (first | exact T.okN | refine T.okC (by first | exact T.okT (by omega) | exact T.okT rfl | exact T.okF (by omega) | exact T.okW (by omega) | exact T.okW (by rw [Int.tdiv_eq_ediv_of_nonneg (by omega)]; omega) | exact T.okO (by assumption) | exact T.okO (md (by omega) (by omega) (by omega) (by first | omega | (simp only [Int.add_zero]; ac_rfl) | grind) (by omega)) | exact T.okT (by simp; done) | exact T.okF (by simp; done) | exact T.okF (by simp; omega) | exact T.okO (T.okP (by assumption))) ?_)) (by kernel_rfl)
end Go.Pv
