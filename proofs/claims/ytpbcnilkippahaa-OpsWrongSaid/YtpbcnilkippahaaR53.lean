/- OpsWrong: plain law. -/
import Derived.Test.YtpbcnilkippahaaS53
set_option linter.unusedSimpArgs false
set_option linter.unusedVariables false
namespace Go.Pv
theorem ow1 {a b c p q : Int} (e1 : d_law00_Place a 16 = some 0) (e2 : d_law00_Place b 10 = some q) (hq : 0 ≤ q ∧ q < 10) (e3 : d_law00_Place c 1000 = some p) (h1 : 0 ≤ p) (h2 : p < 1000) : d_law05_OpsWrong 60 a b c = some true := by
  have h : q = 0 ∨ q = 1 ∨ q = 2 ∨ q = 3 ∨ q = 4 ∨ q = 5 ∨ q = 6 ∨ q = 7 ∨ q = 8 ∨ q = 9 := by omega
  rcases h with rfl | rfl | rfl | rfl | rfl | rfl | rfl | rfl | rfl | rfl
  · exact ow1_0 a b c p e1 e2 e3 h1 h2
  · exact ow1_1 a b c p e1 e2 e3 h1 h2
  · exact ow1_2 a b c p e1 e2 e3 h1 h2
  · exact ow1_3 a b c p e1 e2 e3 h1 h2
  · exact ow1_4 a b c p e1 e2 e3 h1 h2
  · exact ow1_5 a b c p e1 e2 e3 h1 h2
  · exact ow1_6 a b c p e1 e2 e3 h1 h2
  · exact ow1_7 a b c p e1 e2 e3 h1 h2
  · exact ow1_8 a b c p e1 e2 e3 h1 h2
  · exact ow1_9 a b c p e1 e2 e3 h1 h2
theorem ow2 {a b c p q : Int} (e1 : d_law00_Place a 16 = some 1) (e2 : d_law00_Place b 10 = some q) (hq : 0 ≤ q ∧ q < 10) (e3 : d_law00_Place c 1000 = some p) (h1 : 0 ≤ p) (h2 : p < 1000) : d_law05_OpsWrong 60 a b c = some true := by
  have h : q = 0 ∨ q = 1 ∨ q = 2 ∨ q = 3 ∨ q = 4 ∨ q = 5 ∨ q = 6 ∨ q = 7 ∨ q = 8 ∨ q = 9 := by omega
  rcases h with rfl | rfl | rfl | rfl | rfl | rfl | rfl | rfl | rfl | rfl
  · exact ow2_0 a b c p e1 e2 e3 h1 h2
  · exact ow2_1 a b c p e1 e2 e3 h1 h2
  · exact ow2_2 a b c p e1 e2 e3 h1 h2
  · exact ow2_3 a b c p e1 e2 e3 h1 h2
  · exact ow2_4 a b c p e1 e2 e3 h1 h2
  · exact ow2_5 a b c p e1 e2 e3 h1 h2
  · exact ow2_6 a b c p e1 e2 e3 h1 h2
  · exact ow2_7 a b c p e1 e2 e3 h1 h2
  · exact ow2_8 a b c p e1 e2 e3 h1 h2
  · exact ow2_9 a b c p e1 e2 e3 h1 h2
theorem ow3 {a b c p q : Int} (e1 : d_law00_Place a 16 = some 2) (e2 : d_law00_Place b 10 = some q) (hq : 0 ≤ q ∧ q < 10) (e3 : d_law00_Place c 1000 = some p) (h1 : 0 ≤ p) (h2 : p < 1000) : d_law05_OpsWrong 60 a b c = some true := by
  have h : q = 0 ∨ q = 1 ∨ q = 2 ∨ q = 3 ∨ q = 4 ∨ q = 5 ∨ q = 6 ∨ q = 7 ∨ q = 8 ∨ q = 9 := by omega
  rcases h with rfl | rfl | rfl | rfl | rfl | rfl | rfl | rfl | rfl | rfl
  · exact ow3_0 a b c p e1 e2 e3 h1 h2
  · exact ow3_1 a b c p e1 e2 e3 h1 h2
  · exact ow3_2 a b c p e1 e2 e3 h1 h2
  · exact ow3_3 a b c p e1 e2 e3 h1 h2
  · exact ow3_4 a b c p e1 e2 e3 h1 h2
  · exact ow3_5 a b c p e1 e2 e3 h1 h2
  · exact ow3_6 a b c p e1 e2 e3 h1 h2
  · exact ow3_7 a b c p e1 e2 e3 h1 h2
  · exact ow3_8 a b c p e1 e2 e3 h1 h2
  · exact ow3_9 a b c p e1 e2 e3 h1 h2
theorem ow4 {a b c p q : Int} (e1 : d_law00_Place a 16 = some 3) (e2 : d_law00_Place b 10 = some q) (hq : 0 ≤ q ∧ q < 10) (e3 : d_law00_Place c 1000 = some p) (h1 : 0 ≤ p) (h2 : p < 1000) : d_law05_OpsWrong 60 a b c = some true := by
  have h : q = 0 ∨ q = 1 ∨ q = 2 ∨ q = 3 ∨ q = 4 ∨ q = 5 ∨ q = 6 ∨ q = 7 ∨ q = 8 ∨ q = 9 := by omega
  rcases h with rfl | rfl | rfl | rfl | rfl | rfl | rfl | rfl | rfl | rfl
  · exact ow4_0 a b c p e1 e2 e3 h1 h2
  · exact ow4_1 a b c p e1 e2 e3 h1 h2
  · exact ow4_2 a b c p e1 e2 e3 h1 h2
  · exact ow4_3 a b c p e1 e2 e3 h1 h2
  · exact ow4_4 a b c p e1 e2 e3 h1 h2
  · exact ow4_5 a b c p e1 e2 e3 h1 h2
  · exact ow4_6 a b c p e1 e2 e3 h1 h2
  · exact ow4_7 a b c p e1 e2 e3 h1 h2
  · exact ow4_8 a b c p e1 e2 e3 h1 h2
  · exact ow4_9 a b c p e1 e2 e3 h1 h2
theorem ow5 {a b c p q : Int} (e1 : d_law00_Place a 16 = some 4) (e2 : d_law00_Place b 10 = some q) (hq : 0 ≤ q ∧ q < 10) (e3 : d_law00_Place c 1000 = some p) (h1 : 0 ≤ p) (h2 : p < 1000) : d_law05_OpsWrong 60 a b c = some true := by
  have h : q = 0 ∨ q = 1 ∨ q = 2 ∨ q = 3 ∨ q = 4 ∨ q = 5 ∨ q = 6 ∨ q = 7 ∨ q = 8 ∨ q = 9 := by omega
  rcases h with rfl | rfl | rfl | rfl | rfl | rfl | rfl | rfl | rfl | rfl
  · exact ow5_0 a b c p e1 e2 e3 h1 h2
  · exact ow5_1 a b c p e1 e2 e3 h1 h2
  · exact ow5_2 a b c p e1 e2 e3 h1 h2
  · exact ow5_3 a b c p e1 e2 e3 h1 h2
  · exact ow5_4 a b c p e1 e2 e3 h1 h2
  · exact ow5_5 a b c p e1 e2 e3 h1 h2
  · exact ow5_6 a b c p e1 e2 e3 h1 h2
  · exact ow5_7 a b c p e1 e2 e3 h1 h2
  · exact ow5_8 a b c p e1 e2 e3 h1 h2
  · exact ow5_9 a b c p e1 e2 e3 h1 h2
theorem ow6 {a b c p q : Int} (e1 : d_law00_Place a 16 = some 5) (e2 : d_law00_Place b 10 = some q) (hq : 0 ≤ q ∧ q < 10) (e3 : d_law00_Place c 1000 = some p) (h1 : 0 ≤ p) (h2 : p < 1000) : d_law05_OpsWrong 60 a b c = some true := by
  have h : q = 0 ∨ q = 1 ∨ q = 2 ∨ q = 3 ∨ q = 4 ∨ q = 5 ∨ q = 6 ∨ q = 7 ∨ q = 8 ∨ q = 9 := by omega
  rcases h with rfl | rfl | rfl | rfl | rfl | rfl | rfl | rfl | rfl | rfl
  · exact ow6_0 a b c p e1 e2 e3 h1 h2
  · exact ow6_1 a b c p e1 e2 e3 h1 h2
  · exact ow6_2 a b c p e1 e2 e3 h1 h2
  · exact ow6_3 a b c p e1 e2 e3 h1 h2
  · exact ow6_4 a b c p e1 e2 e3 h1 h2
  · exact ow6_5 a b c p e1 e2 e3 h1 h2
  · exact ow6_6 a b c p e1 e2 e3 h1 h2
  · exact ow6_7 a b c p e1 e2 e3 h1 h2
  · exact ow6_8 a b c p e1 e2 e3 h1 h2
  · exact ow6_9 a b c p e1 e2 e3 h1 h2
theorem ow7 {a b c p q : Int} (e1 : d_law00_Place a 16 = some 6) (e2 : d_law00_Place b 10 = some q) (hq : 0 ≤ q ∧ q < 10) (e3 : d_law00_Place c 1000 = some p) (h1 : 0 ≤ p) (h2 : p < 1000) : d_law05_OpsWrong 60 a b c = some true := by
  have h : q = 0 ∨ q = 1 ∨ q = 2 ∨ q = 3 ∨ q = 4 ∨ q = 5 ∨ q = 6 ∨ q = 7 ∨ q = 8 ∨ q = 9 := by omega
  rcases h with rfl | rfl | rfl | rfl | rfl | rfl | rfl | rfl | rfl | rfl
  · exact ow7_0 a b c p e1 e2 e3 h1 h2
  · exact ow7_1 a b c p e1 e2 e3 h1 h2
  · exact ow7_2 a b c p e1 e2 e3 h1 h2
  · exact ow7_3 a b c p e1 e2 e3 h1 h2
  · exact ow7_4 a b c p e1 e2 e3 h1 h2
  · exact ow7_5 a b c p e1 e2 e3 h1 h2
  · exact ow7_6 a b c p e1 e2 e3 h1 h2
  · exact ow7_7 a b c p e1 e2 e3 h1 h2
  · exact ow7_8 a b c p e1 e2 e3 h1 h2
  · exact ow7_9 a b c p e1 e2 e3 h1 h2
theorem ow8 {a b c p q : Int} (e1 : d_law00_Place a 16 = some 7) (e2 : d_law00_Place b 10 = some q) (hq : 0 ≤ q ∧ q < 10) (e3 : d_law00_Place c 1000 = some p) (h1 : 0 ≤ p) (h2 : p < 1000) : d_law05_OpsWrong 60 a b c = some true := by
  have h : q = 0 ∨ q = 1 ∨ q = 2 ∨ q = 3 ∨ q = 4 ∨ q = 5 ∨ q = 6 ∨ q = 7 ∨ q = 8 ∨ q = 9 := by omega
  rcases h with rfl | rfl | rfl | rfl | rfl | rfl | rfl | rfl | rfl | rfl
  · exact ow8_0 a b c p e1 e2 e3 h1 h2
  · exact ow8_1 a b c p e1 e2 e3 h1 h2
  · exact ow8_2 a b c p e1 e2 e3 h1 h2
  · exact ow8_3 a b c p e1 e2 e3 h1 h2
  · exact ow8_4 a b c p e1 e2 e3 h1 h2
  · exact ow8_5 a b c p e1 e2 e3 h1 h2
  · exact ow8_6 a b c p e1 e2 e3 h1 h2
  · exact ow8_7 a b c p e1 e2 e3 h1 h2
  · exact ow8_8 a b c p e1 e2 e3 h1 h2
  · exact ow8_9 a b c p e1 e2 e3 h1 h2
theorem ow9 {a b c p q : Int} (e1 : d_law00_Place a 16 = some 8) (e2 : d_law00_Place b 10 = some q) (hq : 0 ≤ q ∧ q < 10) (e3 : d_law00_Place c 1000 = some p) (h1 : 0 ≤ p) (h2 : p < 1000) : d_law05_OpsWrong 60 a b c = some true := by
  have h : q = 0 ∨ q = 1 ∨ q = 2 ∨ q = 3 ∨ q = 4 ∨ q = 5 ∨ q = 6 ∨ q = 7 ∨ q = 8 ∨ q = 9 := by omega
  rcases h with rfl | rfl | rfl | rfl | rfl | rfl | rfl | rfl | rfl | rfl
  · exact ow9_0 a b c p e1 e2 e3 h1 h2
  · exact ow9_1 a b c p e1 e2 e3 h1 h2
  · exact ow9_2 a b c p e1 e2 e3 h1 h2
  · exact ow9_3 a b c p e1 e2 e3 h1 h2
  · exact ow9_4 a b c p e1 e2 e3 h1 h2
  · exact ow9_5 a b c p e1 e2 e3 h1 h2
  · exact ow9_6 a b c p e1 e2 e3 h1 h2
  · exact ow9_7 a b c p e1 e2 e3 h1 h2
  · exact ow9_8 a b c p e1 e2 e3 h1 h2
  · exact ow9_9 a b c p e1 e2 e3 h1 h2
theorem ow10 {a b c p q : Int} (e1 : d_law00_Place a 16 = some 9) (e2 : d_law00_Place b 10 = some q) (hq : 0 ≤ q ∧ q < 10) (e3 : d_law00_Place c 1000 = some p) (h1 : 0 ≤ p) (h2 : p < 1000) : d_law05_OpsWrong 60 a b c = some true := by
  have h : q = 0 ∨ q = 1 ∨ q = 2 ∨ q = 3 ∨ q = 4 ∨ q = 5 ∨ q = 6 ∨ q = 7 ∨ q = 8 ∨ q = 9 := by omega
  rcases h with rfl | rfl | rfl | rfl | rfl | rfl | rfl | rfl | rfl | rfl
  · exact ow10_0 a b c p e1 e2 e3 h1 h2
  · exact ow10_1 a b c p e1 e2 e3 h1 h2
  · exact ow10_2 a b c p e1 e2 e3 h1 h2
  · exact ow10_3 a b c p e1 e2 e3 h1 h2
  · exact ow10_4 a b c p e1 e2 e3 h1 h2
  · exact ow10_5 a b c p e1 e2 e3 h1 h2
  · exact ow10_6 a b c p e1 e2 e3 h1 h2
  · exact ow10_7 a b c p e1 e2 e3 h1 h2
  · exact ow10_8 a b c p e1 e2 e3 h1 h2
  · exact ow10_9 a b c p e1 e2 e3 h1 h2
theorem ow11 {a b c p q : Int} (e1 : d_law00_Place a 16 = some 10) (e2 : d_law00_Place b 10 = some q) (hq : 0 ≤ q ∧ q < 10) (e3 : d_law00_Place c 1000 = some p) (h1 : 0 ≤ p) (h2 : p < 1000) : d_law05_OpsWrong 60 a b c = some true := by
  have h : q = 0 ∨ q = 1 ∨ q = 2 ∨ q = 3 ∨ q = 4 ∨ q = 5 ∨ q = 6 ∨ q = 7 ∨ q = 8 ∨ q = 9 := by omega
  rcases h with rfl | rfl | rfl | rfl | rfl | rfl | rfl | rfl | rfl | rfl
  · exact ow11_0 a b c p e1 e2 e3 h1 h2
  · exact ow11_1 a b c p e1 e2 e3 h1 h2
  · exact ow11_2 a b c p e1 e2 e3 h1 h2
  · exact ow11_3 a b c p e1 e2 e3 h1 h2
  · exact ow11_4 a b c p e1 e2 e3 h1 h2
  · exact ow11_5 a b c p e1 e2 e3 h1 h2
  · exact ow11_6 a b c p e1 e2 e3 h1 h2
  · exact ow11_7 a b c p e1 e2 e3 h1 h2
  · exact ow11_8 a b c p e1 e2 e3 h1 h2
  · exact ow11_9 a b c p e1 e2 e3 h1 h2
theorem ow12 {a b c p q : Int} (e1 : d_law00_Place a 16 = some 11) (e2 : d_law00_Place b 10 = some q) (hq : 0 ≤ q ∧ q < 10) (e3 : d_law00_Place c 1000 = some p) (h1 : 0 ≤ p) (h2 : p < 1000) : d_law05_OpsWrong 60 a b c = some true := by
  have h : q = 0 ∨ q = 1 ∨ q = 2 ∨ q = 3 ∨ q = 4 ∨ q = 5 ∨ q = 6 ∨ q = 7 ∨ q = 8 ∨ q = 9 := by omega
  rcases h with rfl | rfl | rfl | rfl | rfl | rfl | rfl | rfl | rfl | rfl
  · exact ow12_0 a b c p e1 e2 e3 h1 h2
  · exact ow12_1 a b c p e1 e2 e3 h1 h2
  · exact ow12_2 a b c p e1 e2 e3 h1 h2
  · exact ow12_3 a b c p e1 e2 e3 h1 h2
  · exact ow12_4 a b c p e1 e2 e3 h1 h2
  · exact ow12_5 a b c p e1 e2 e3 h1 h2
  · exact ow12_6 a b c p e1 e2 e3 h1 h2
  · exact ow12_7 a b c p e1 e2 e3 h1 h2
  · exact ow12_8 a b c p e1 e2 e3 h1 h2
  · exact ow12_9 a b c p e1 e2 e3 h1 h2
theorem ow13 {a b c p q : Int} (e1 : d_law00_Place a 16 = some 12) (e2 : d_law00_Place b 10 = some q) (hq : 0 ≤ q ∧ q < 10) (e3 : d_law00_Place c 1000 = some p) (h1 : 0 ≤ p) (h2 : p < 1000) : d_law05_OpsWrong 60 a b c = some true := by
  have h : q = 0 ∨ q = 1 ∨ q = 2 ∨ q = 3 ∨ q = 4 ∨ q = 5 ∨ q = 6 ∨ q = 7 ∨ q = 8 ∨ q = 9 := by omega
  rcases h with rfl | rfl | rfl | rfl | rfl | rfl | rfl | rfl | rfl | rfl
  · exact ow13_0 a b c p e1 e2 e3 h1 h2
  · exact ow13_1 a b c p e1 e2 e3 h1 h2
  · exact ow13_2 a b c p e1 e2 e3 h1 h2
  · exact ow13_3 a b c p e1 e2 e3 h1 h2
  · exact ow13_4 a b c p e1 e2 e3 h1 h2
  · exact ow13_5 a b c p e1 e2 e3 h1 h2
  · exact ow13_6 a b c p e1 e2 e3 h1 h2
  · exact ow13_7 a b c p e1 e2 e3 h1 h2
  · exact ow13_8 a b c p e1 e2 e3 h1 h2
  · exact ow13_9 a b c p e1 e2 e3 h1 h2
theorem ow14 {a b c p q : Int} (e1 : d_law00_Place a 16 = some 13) (e2 : d_law00_Place b 10 = some q) (hq : 0 ≤ q ∧ q < 10) (e3 : d_law00_Place c 1000 = some p) (h1 : 0 ≤ p) (h2 : p < 1000) : d_law05_OpsWrong 60 a b c = some true := by
  have h : q = 0 ∨ q = 1 ∨ q = 2 ∨ q = 3 ∨ q = 4 ∨ q = 5 ∨ q = 6 ∨ q = 7 ∨ q = 8 ∨ q = 9 := by omega
  rcases h with rfl | rfl | rfl | rfl | rfl | rfl | rfl | rfl | rfl | rfl
  · exact ow14_0 a b c p e1 e2 e3 h1 h2
  · exact ow14_1 a b c p e1 e2 e3 h1 h2
  · exact ow14_2 a b c p e1 e2 e3 h1 h2
  · exact ow14_3 a b c p e1 e2 e3 h1 h2
  · exact ow14_4 a b c p e1 e2 e3 h1 h2
  · exact ow14_5 a b c p e1 e2 e3 h1 h2
  · exact ow14_6 a b c p e1 e2 e3 h1 h2
  · exact ow14_7 a b c p e1 e2 e3 h1 h2
  · exact ow14_8 a b c p e1 e2 e3 h1 h2
  · exact ow14_9 a b c p e1 e2 e3 h1 h2
theorem ow15 {a b c p q : Int} (e1 : d_law00_Place a 16 = some 14) (e2 : d_law00_Place b 10 = some q) (hq : 0 ≤ q ∧ q < 10) (e3 : d_law00_Place c 1000 = some p) (h1 : 0 ≤ p) (h2 : p < 1000) : d_law05_OpsWrong 60 a b c = some true := by
  have h : q = 0 ∨ q = 1 ∨ q = 2 ∨ q = 3 ∨ q = 4 ∨ q = 5 ∨ q = 6 ∨ q = 7 ∨ q = 8 ∨ q = 9 := by omega
  rcases h with rfl | rfl | rfl | rfl | rfl | rfl | rfl | rfl | rfl | rfl
  · exact ow15_0 a b c p e1 e2 e3 h1 h2
  · exact ow15_1 a b c p e1 e2 e3 h1 h2
  · exact ow15_2 a b c p e1 e2 e3 h1 h2
  · exact ow15_3 a b c p e1 e2 e3 h1 h2
  · exact ow15_4 a b c p e1 e2 e3 h1 h2
  · exact ow15_5 a b c p e1 e2 e3 h1 h2
  · exact ow15_6 a b c p e1 e2 e3 h1 h2
  · exact ow15_7 a b c p e1 e2 e3 h1 h2
  · exact ow15_8 a b c p e1 e2 e3 h1 h2
  · exact ow15_9 a b c p e1 e2 e3 h1 h2
theorem ow16 {a b c p q : Int} (e1 : d_law00_Place a 16 = some 15) (e2 : d_law00_Place b 10 = some q) (hq : 0 ≤ q ∧ q < 10) (e3 : d_law00_Place c 1000 = some p) (h1 : 0 ≤ p) (h2 : p < 1000) : d_law05_OpsWrong 60 a b c = some true := by
  have h : q = 0 ∨ q = 1 ∨ q = 2 ∨ q = 3 ∨ q = 4 ∨ q = 5 ∨ q = 6 ∨ q = 7 ∨ q = 8 ∨ q = 9 := by omega
  rcases h with rfl | rfl | rfl | rfl | rfl | rfl | rfl | rfl | rfl | rfl
  · exact ow16_0 a b c p e1 e2 e3 h1 h2
  · exact ow16_1 a b c p e1 e2 e3 h1 h2
  · exact ow16_2 a b c p e1 e2 e3 h1 h2
  · exact ow16_3 a b c p e1 e2 e3 h1 h2
  · exact ow16_4 a b c p e1 e2 e3 h1 h2
  · exact ow16_5 a b c p e1 e2 e3 h1 h2
  · exact ow16_6 a b c p e1 e2 e3 h1 h2
  · exact ow16_7 a b c p e1 e2 e3 h1 h2
  · exact ow16_8 a b c p e1 e2 e3 h1 h2
  · exact ow16_9 a b c p e1 e2 e3 h1 h2
theorem opsWrong_plain {a b c : Int} (ha : -9223372036854775808 ≤ a ∧ a ≤ 9223372036854775807) (hb : -9223372036854775808 ≤ b ∧ b ≤ 9223372036854775807) (hc : -9223372036854775808 ≤ c ∧ c ≤ 9223372036854775807) : d_law05_OpsWrong 60 a b c = some true := by
  obtain ⟨k, e1, k1, k2⟩ := place_e (n := 16) (by decide) ha
  obtain ⟨q, e2, q1, q2⟩ := place_e (n := 10) (by decide) hb
  obtain ⟨p, e3, h1, h2⟩ := place_e (n := 1000) (by decide) hc
  have h : k = 0 ∨ k = 1 ∨ k = 2 ∨ k = 3 ∨ k = 4 ∨ k = 5 ∨ k = 6 ∨ k = 7 ∨ k = 8 ∨ k = 9 ∨ k = 10 ∨ k = 11 ∨ k = 12 ∨ k = 13 ∨ k = 14 ∨ k = 15 := by omega
  rcases h with rfl | rfl | rfl | rfl | rfl | rfl | rfl | rfl | rfl | rfl | rfl | rfl | rfl | rfl | rfl | rfl
  · exact ow1 e1 e2 ⟨q1, q2⟩ e3 h1 h2
  · exact ow2 e1 e2 ⟨q1, q2⟩ e3 h1 h2
  · exact ow3 e1 e2 ⟨q1, q2⟩ e3 h1 h2
  · exact ow4 e1 e2 ⟨q1, q2⟩ e3 h1 h2
  · exact ow5 e1 e2 ⟨q1, q2⟩ e3 h1 h2
  · exact ow6 e1 e2 ⟨q1, q2⟩ e3 h1 h2
  · exact ow7 e1 e2 ⟨q1, q2⟩ e3 h1 h2
  · exact ow8 e1 e2 ⟨q1, q2⟩ e3 h1 h2
  · exact ow9 e1 e2 ⟨q1, q2⟩ e3 h1 h2
  · exact ow10 e1 e2 ⟨q1, q2⟩ e3 h1 h2
  · exact ow11 e1 e2 ⟨q1, q2⟩ e3 h1 h2
  · exact ow12 e1 e2 ⟨q1, q2⟩ e3 h1 h2
  · exact ow13 e1 e2 ⟨q1, q2⟩ e3 h1 h2
  · exact ow14 e1 e2 ⟨q1, q2⟩ e3 h1 h2
  · exact ow15 e1 e2 ⟨q1, q2⟩ e3 h1 h2
  · exact ow16 e1 e2 ⟨q1, q2⟩ e3 h1 h2
end Go.Pv
