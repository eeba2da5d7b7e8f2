/- SellBack: plain law. -/
import Derived.Test.YtbcjcecegdfnpaaGreatR5b
set_option linter.unusedSimpArgs false
set_option linter.unusedVariables false
namespace Go.Pv
open Go.Proofs
set_option maxRecDepth 100000
set_option maxHeartbeats 2000000
theorem hp1 : ∀ j q w P, PI1 j q w P → (P.length : Int) = 8 := by rintro j q w P (⟨-, -, rfl⟩ | ⟨-, rfl⟩) <;> rfl
theorem hp3 : ∀ j q w P, PI3 j q w P → (P.length : Int) = 8 := by rintro j q w P (⟨-, -, rfl⟩ | ⟨-, rfl⟩) <;> rfl
theorem hp0 : ∀ j q w P, PI0 j q w P → (P.length : Int) = 8 := by rintro j q w P ⟨L, -, -, -, -, rfl⟩; rfl
theorem sb0 {a b d p v : Int} {l : List Int} (hw : ∀ x ∈ l, -9223372036854775808 ≤ x ∧ x ≤ 9223372036854775807) (p0 : 0 ≤ p) (p1 : p < 200) (v0 : 0 ≤ v) (v1 : v < 10000) (e1 : d_law00_Place a 4 = some 0) (e2 : d_law00_Place b 200 = some p) (e3 : d_law00_Place d 10000 = some v) : d_law16_SellBack 80 a b d l = some true := by
  have hS := st50_r (1 + p) v (by omega) (by omega) v0 v1
  have ep : d_stock_Post 80 (F1 (F70 (F4 [] 0)) (F2 (v) (0 - (v)) 0 0 0) [F3 (v), F3 0, F3 0, F3 0] [] (F6 (1 + p) (v) 0)) 0 [⟨3, 7⟩, ⟨4, -7⟩, ⟨5, (v)⟩, ⟨0, 0 - (v)⟩] = some (F1 (F70 (F4 [] 0)) (F2 0 (0 - (v)) 7 (-7) (v)) [F3 (v), F3 0, F3 0, F3 0] [] (F6 (1 + p) (v) 0), 0) := poS_r 40 _ _ _ _ (v) (by omega) (by omega)
  have et := tuS_r (F70 (F4 [] 0)) (F2 0 (0 - (v)) 7 (-7) (v)) [F3 (v), F3 0, F3 0, F3 0] [] (F6 (1 + p) (v) 0) 0 (v) 0 0 0 (v) rfl rfl (by omega) (by omega) rfl (by omega) (by omega) (by omega) (by omega) (by omega) (by omega) (by omega) (by omega) (by omega) (by omega)
  have ok1 : LOK [⟨(1 + p), v, 0⟩] := fun x hx => by simp at hx; subst hx; exact ⟨by show 1 ≤ (1 + p); omega, by show 0 ≤ v; omega, rfl⟩
  have et0 := tot_v (n := 80) (L := [⟨(1 + p), v, 0⟩]) (by simp) (by simp) ok1 (by simp [lq, sm] <;> omega) (by simp [lv, sm] <;> omega)
  simp only [lq, lv, List.map_cons, List.map_nil, sm, Int.add_zero] at et0
  obtain ⟨d1, em, _, _, dm, _⟩ := part_v (m := 40) (a := (v)) (k := (1 + p)) (o := (1 + p)) (by omega) (by omega) (by omega) (Int.le_refl _) (by omega)
  rw [dm rfl] at em
  obtain ⟨d2, ez, _, _, dz, _⟩ := part_v (m := 40) (a := 0) (k := (1 + p)) (o := (1 + p)) (by omega) (by omega) (by omega) (Int.le_refl _) (by omega)
  rw [dz rfl] at ez
  have hD := se50_r (1 + p) v (by omega) (by omega) v0 v1 (F2 (v) (0 - (v)) 0 0 0) (F2 0 (0 - (v)) 7 (-7) (v)) [F3 (v), F3 0, F3 0, F3 0] (List.set [F3 (v), F3 0, F3 0, F3 0] (Int.toNat 0) ⟨0, v, 0, 0, 0 + 0, 0 + (v), 0, 0, 0, 0, 0⟩) (F6 (1 + p) (v) 0) (by simp)
  have hD := hD et0
  have hD := hD em
  have hD := hD ez
  have hD := hD ep
  have hD := hD et
  have hr0 : ix (List.set [F3 (v), F3 0, F3 0, F3 0] (Int.toNat 0) ⟨0, v, 0, 0, 0 + 0, 0 + (v), 0, 0, 0, 0, 0⟩) 0 = some ⟨0, (v), 0, 0, (v) - (v), (v), 0, 0, 0, 0, 0⟩ := by rw [Int.sub_self]; show some (⟨0, v, 0, 0, 0 + 0, 0 + (v), 0, 0, 0, 0, 0⟩ : GRoll) = _; rw [Int.zero_add, Int.zero_add]
  obtain ⟨b, P', R', j, b0, b1, hP, j0, j1, hL⟩ := back_loop (i := 0) (n := (1 + p)) (v := (v)) (l := l) (rc := (F6 (1 + p) (v) 0)) (PI := PI0) hw (by omega) (by omega) (by omega) (by omega) (by omega) (by omega) hp0 hb0 12 27 (1 + p) (v) 0 0 (F70 (F4 [] 0)) (List.set [F3 (v), F3 0, F3 0, F3 0] (Int.toNat 0) ⟨0, v, 0, 0, 0 + 0, 0 + (v), 0, 0, 0, 0, 0⟩) (by rw [Int.sub_self, Int.sub_self]; exact ⟨[], (fun x hx => nomatch hx), (by simp [lq, sm]), (by simp [lv, sm]), (by simp), rfl⟩) (by omega) (by omega) (by omega) (by omega) (by omega) (by omega) (by omega) (by omega) (by omega) (by omega) (by omega) (by decide) (by simp) hr0
  rw [Int.sub_self, Int.sub_self] at hL
  have hL : d_law16_SellBack_L0 l 80 (1 + p) 0 0 (F1 (F70 (F4 [] 0)) (F2 0 (0 - (v)) 7 (-7) (v)) (List.set [F3 (v), F3 0, F3 0, F3 0] (Int.toNat 0) ⟨0, v, 0, 0, 0 + 0, 0 + (v), 0, 0, 0, 0, 0⟩) [⟨0, 0, 0, (1 + p), 0, v, 0, 1, false⟩] (F6 (1 + p) (v) 0)) = _ := hL
  obtain ⟨L, ok, hq, hv, hl, rfl⟩ := hP
  have hW := worth0 (F2 v (0 - v) (7 - b) (b - 7) 0) R' [⟨0, 0, 0, (1 + p), (1 + p), 0, 0, 1, false⟩] (F6 (1 + p) (v) 0) ok hq hv (by omega) (by omega) v1
  have hA := aw16
  exact auto16
theorem sb1 {a b d p v : Int} {l : List Int} (hw : ∀ x ∈ l, -9223372036854775808 ≤ x ∧ x ≤ 9223372036854775807) (p0 : 0 ≤ p) (p1 : p < 200) (v0 : 0 ≤ v) (v1 : v < 10000) (e1 : d_law00_Place a 4 = some 1) (e2 : d_law00_Place b 200 = some p) (e3 : d_law00_Place d 10000 = some v) : d_law16_SellBack 80 a b d l = some true := by
  have hS := st51_r (1 + p) v (by omega) (by omega) v0 v1
  have ep : d_stock_Post 80 (F1 (F71 (F4 [] 0)) (F2 (v) (0 - (v)) 0 0 0) [F3 0, F3 (v), F3 0, F3 0] [] (F6 (1 + p) (v) 1)) 0 [⟨3, 7⟩, ⟨4, -7⟩, ⟨5, (v)⟩, ⟨0, 0 - (v)⟩] = some (F1 (F71 (F4 [] 0)) (F2 0 (0 - (v)) 7 (-7) (v)) [F3 0, F3 (v), F3 0, F3 0] [] (F6 (1 + p) (v) 1), 0) := poS_r 40 _ _ _ _ (v) (by omega) (by omega)
  have et := tuS_r (F71 (F4 [] 0)) (F2 0 (0 - (v)) 7 (-7) (v)) [F3 0, F3 (v), F3 0, F3 0] [] (F6 (1 + p) (v) 1) 1 (v) 0 0 0 (v) rfl rfl (by omega) (by omega) rfl (by omega) (by omega) (by omega) (by omega) (by omega) (by omega) (by omega) (by omega) (by omega) (by omega)
  have ok1 : LOK [⟨(1 + p), v, 0⟩] := fun x hx => by simp at hx; subst hx; exact ⟨by show 1 ≤ (1 + p); omega, by show 0 ≤ v; omega, rfl⟩
  have et0 := tot_v (n := 80) (L := [⟨(1 + p), v, 0⟩]) (by simp) (by simp) ok1 (by simp [lq, sm] <;> omega) (by simp [lv, sm] <;> omega)
  simp only [lq, lv, List.map_cons, List.map_nil, sm, Int.add_zero] at et0
  obtain ⟨d1, em, _, _, dm, _⟩ := part_v (m := 40) (a := (v)) (k := (1 + p)) (o := (1 + p)) (by omega) (by omega) (by omega) (Int.le_refl _) (by omega)
  rw [dm rfl] at em
  obtain ⟨d2, ez, _, _, dz, _⟩ := part_v (m := 40) (a := 0) (k := (1 + p)) (o := (1 + p)) (by omega) (by omega) (by omega) (Int.le_refl _) (by omega)
  rw [dz rfl] at ez
  have hD := se51_r (1 + p) v (by omega) (by omega) v0 v1 (F2 (v) (0 - (v)) 0 0 0) (F2 0 (0 - (v)) 7 (-7) (v)) [F3 0, F3 (v), F3 0, F3 0] (List.set [F3 0, F3 (v), F3 0, F3 0] (Int.toNat 1) ⟨0, v, 0, 0, 0 + 0, 0 + (v), 0, 0, 0, 0, 0⟩) (F6 (1 + p) (v) 1) (by simp)
  have hD := hD et0
  have hD := hD em
  have hD := hD ez
  have hD := hD ep
  have hD := hD et
  have hr0 : ix (List.set [F3 0, F3 (v), F3 0, F3 0] (Int.toNat 1) ⟨0, v, 0, 0, 0 + 0, 0 + (v), 0, 0, 0, 0, 0⟩) 1 = some ⟨0, (v), 0, 0, (v) - (v), (v), 0, 0, 0, 0, 0⟩ := by rw [Int.sub_self]; show some (⟨0, v, 0, 0, 0 + 0, 0 + (v), 0, 0, 0, 0, 0⟩ : GRoll) = _; rw [Int.zero_add, Int.zero_add]
  obtain ⟨b, P', R', j, b0, b1, hP, j0, j1, hL⟩ := back_loop (i := 1) (n := (1 + p)) (v := (v)) (l := l) (rc := (F6 (1 + p) (v) 1)) (PI := PI1) hw (by omega) (by omega) (by omega) (by omega) (by omega) (by omega) hp1 hb1 12 27 (1 + p) (v) 0 0 (F71 (F4 [] 0)) (List.set [F3 0, F3 (v), F3 0, F3 0] (Int.toNat 1) ⟨0, v, 0, 0, 0 + 0, 0 + (v), 0, 0, 0, 0, 0⟩) (by rw [Int.sub_self, Int.sub_self]; exact .inl ⟨by omega, by omega, rfl⟩) (by omega) (by omega) (by omega) (by omega) (by omega) (by omega) (by omega) (by omega) (by omega) (by omega) (by omega) (by decide) (by simp) hr0
  rw [Int.sub_self, Int.sub_self] at hL
  have hL : d_law16_SellBack_L0 l 80 (1 + p) 0 0 (F1 (F71 (F4 [] 0)) (F2 0 (0 - (v)) 7 (-7) (v)) (List.set [F3 0, F3 (v), F3 0, F3 0] (Int.toNat 1) ⟨0, v, 0, 0, 0 + 0, 0 + (v), 0, 0, 0, 0, 0⟩) [⟨0, 1, 0, (1 + p), 0, v, 0, 1, false⟩] (F6 (1 + p) (v) 1)) = _ := hL
  have hP := hP.resolve_left (fun h => by omega)
  obtain ⟨-, rfl⟩ := hP
  have hW := wo1_r (F2 (v) (0 - (v)) (7 - b) (b - 7) 0) R' [⟨0, 1, 0, (1 + p), (1 + p), 0, 0, 1, false⟩] (F6 (1 + p) (v) 1) (1 + p) (v) (by omega) (by omega) (by omega) (by omega)
  have hA := aw16
  exact auto16
theorem sb2 {a b d p v : Int} {l : List Int} (hw : ∀ x ∈ l, -9223372036854775808 ≤ x ∧ x ≤ 9223372036854775807) (p0 : 0 ≤ p) (p1 : p < 200) (v0 : 0 ≤ v) (v1 : v < 10000) (e1 : d_law00_Place a 4 = some 2) (e2 : d_law00_Place b 200 = some p) (e3 : d_law00_Place d 10000 = some v) : d_law16_SellBack 80 a b d l = some true := by
  have hS := st52_r (1 + p) v (by omega) (by omega) v0 v1
  have ep : d_stock_Post 80 (F1 (F72 (F4 [⟨(1 + p), v, 0⟩] ((1 + p)))) (F2 (v) (0 - (v)) 0 0 0) [F3 0, F3 0, F3 (v), F3 0] [] (F6 (1 + p) (v) 2)) 0 [⟨3, 7⟩, ⟨4, -7⟩, ⟨5, 0⟩, ⟨0, 0⟩] = some (F1 (F72 (F4 [⟨(1 + p), v, 0⟩] ((1 + p)))) (F2 v (0 - v) 7 (-7) 0) [F3 0, F3 0, F3 (v), F3 0] [] (F6 (1 + p) (v) 2), 0) := poW_r 40 _ _ _ _ (v) (by omega) (by omega)
  have et := tuS_r (F72 (F4 [⟨(1 + p), v, 0⟩] ((1 + p)))) (F2 v (0 - v) 7 (-7) 0) [F3 0, F3 0, F3 (v), F3 0] [] (F6 (1 + p) (v) 2) 2 (v) 0 0 0 0 rfl rfl (by omega) (by omega) rfl (by omega) (by omega) (by omega) (by omega) (by omega) (by omega) (by omega) (by omega) (by omega) (by omega)
  have ok1 : LOK [⟨(1 + p), v, 0⟩] := fun x hx => by simp at hx; subst hx; exact ⟨by show 1 ≤ (1 + p); omega, by show 0 ≤ v; omega, rfl⟩
  have et0 := tot_v (n := 80) (L := [⟨(1 + p), v, 0⟩]) (by simp) (by simp) ok1 (by simp [lq, sm] <;> omega) (by simp [lv, sm] <;> omega)
  simp only [lq, lv, List.map_cons, List.map_nil, sm, Int.add_zero] at et0
  obtain ⟨d1, em, _, _, dm, _⟩ := part_v (m := 40) (a := (v)) (k := (1 + p)) (o := (1 + p)) (by omega) (by omega) (by omega) (Int.le_refl _) (by omega)
  rw [dm rfl] at em
  obtain ⟨d2, ez, _, _, dz, _⟩ := part_v (m := 40) (a := 0) (k := (1 + p)) (o := (1 + p)) (by omega) (by omega) (by omega) (Int.le_refl _) (by omega)
  rw [dz rfl] at ez
  have hD := se52_r (1 + p) v (by omega) (by omega) v0 v1 (F2 (v) (0 - (v)) 0 0 0) (F2 v (0 - v) 7 (-7) 0) [F3 0, F3 0, F3 (v), F3 0] (List.set [F3 0, F3 0, F3 (v), F3 0] (Int.toNat 2) ⟨0, v, 0, 0, 0 + 0, 0 + 0, 0, 0, 0, 0, 0⟩) (F6 (1 + p) (v) 2) (by simp)
  have hD := hD et0
  have hD := hD em
  have hD := hD ez
  have hD := hD ep
  have hD := hD et
  obtain ⟨b, b0, b1, hL⟩ := wait_loop (R := (List.set [F3 0, F3 0, F3 (v), F3 0] (Int.toNat 2) ⟨0, v, 0, 0, 0 + 0, 0 + 0, 0, 0, 0, 0, 0⟩)) (rc := (F6 (1 + p) (v) 2)) (n := (1 + p)) (v := v) hw (by simp) (by omega) (by omega) v0 v1 12 27 (1 + p) 0 0 (by omega) (by omega) (by omega) (by omega) (by omega) (by omega) (by omega) (by decide)
  rw [Int.sub_self] at hL
  have hL : d_law16_SellBack_L0 l 80 (1 + p) 0 0 (F1 (F72 (F4 [⟨(1 + p), v, 0⟩] ((1 + p)))) (F2 v (0 - v) 7 (-7) 0) (List.set [F3 0, F3 0, F3 (v), F3 0] (Int.toNat 2) ⟨0, v, 0, 0, 0 + 0, 0 + 0, 0, 0, 0, 0, 0⟩) [⟨0, 2, 0, (1 + p), 0, 0, 0, 1, true⟩] (F6 (1 + p) (v) 2)) = _ := hL
  have hW := wo2_r (F2 v (0 - v) (7 - b) (b - 7) 0) (List.set [F3 0, F3 0, F3 (v), F3 0] (Int.toNat 2) ⟨0, v, 0, 0, 0 + 0, 0 + 0, 0, 0, 0, 0, 0⟩) [⟨0, 2, 0, (1 + p), (1 + p), 0, 0, 1, true⟩] (F6 (1 + p) (v) 2) (1 + p) v (by omega) (by omega) v0 v1
  have hA := aw16
  exact auto16
theorem sb3 {a b d p u : Int} {l : List Int} (hw : ∀ x ∈ l, -9223372036854775808 ≤ x ∧ x ≤ 9223372036854775807) (p0 : 0 ≤ p) (p1 : p < 200) (e1 : d_law00_Place a 4 = some 3) (e2 : d_law00_Place b 200 = some p) (e3 : d_law00_Place d 10000 = some u) : d_law16_SellBack 80 a b d l = some true := by
  have hS := st53_r (1 + p) (by omega) (by omega)
  have ep : d_stock_Post 80 (F1 (F73 (F4 [] 0)) (F2 (10 * (1 + p)) (0 - (10 * (1 + p))) 0 0 0) [F3 0, F3 0, F3 0, F3 (10 * (1 + p))] [] (F6 (1 + p) (10 * (1 + p)) 3)) 0 [⟨3, 7⟩, ⟨4, -7⟩, ⟨5, (10 * (1 + p))⟩, ⟨0, 0 - (10 * (1 + p))⟩] = some (F1 (F73 (F4 [] 0)) (F2 0 (0 - (10 * (1 + p))) 7 (-7) (10 * (1 + p))) [F3 0, F3 0, F3 0, F3 (10 * (1 + p))] [] (F6 (1 + p) (10 * (1 + p)) 3), 0) := poS_r 40 _ _ _ _ (10 * (1 + p)) (by omega) (by omega)
  have et := tuS_r (F73 (F4 [] 0)) (F2 0 (0 - (10 * (1 + p))) 7 (-7) (10 * (1 + p))) [F3 0, F3 0, F3 0, F3 (10 * (1 + p))] [] (F6 (1 + p) (10 * (1 + p)) 3) 3 (10 * (1 + p)) 0 0 0 (10 * (1 + p)) rfl rfl (by omega) (by omega) rfl (by omega) (by omega) (by omega) (by omega) (by omega) (by omega) (by omega) (by omega) (by omega) (by omega)
  have ok1 : LOK [⟨(1 + p), 10 * (1 + p), 0⟩] := fun x hx => by simp at hx; subst hx; exact ⟨by show 1 ≤ (1 + p); omega, by show 0 ≤ 10 * (1 + p); omega, rfl⟩
  have et0 := tot_v (n := 80) (L := [⟨(1 + p), 10 * (1 + p), 0⟩]) (by simp) (by simp) ok1 (by simp [lq, sm] <;> omega) (by simp [lv, sm] <;> omega)
  simp only [lq, lv, List.map_cons, List.map_nil, sm, Int.add_zero] at et0
  obtain ⟨d1, em, _, _, dm, _⟩ := part_v (m := 40) (a := (10 * (1 + p))) (k := (1 + p)) (o := (1 + p)) (by omega) (by omega) (by omega) (Int.le_refl _) (by omega)
  rw [dm rfl] at em
  obtain ⟨d2, ez, _, _, dz, _⟩ := part_v (m := 40) (a := 0) (k := (1 + p)) (o := (1 + p)) (by omega) (by omega) (by omega) (Int.le_refl _) (by omega)
  rw [dz rfl] at ez
  have hD := se53_r (1 + p) (by omega) (by omega) (F2 (10 * (1 + p)) (0 - (10 * (1 + p))) 0 0 0) (F2 0 (0 - (10 * (1 + p))) 7 (-7) (10 * (1 + p))) [F3 0, F3 0, F3 0, F3 (10 * (1 + p))] (List.set [F3 0, F3 0, F3 0, F3 (10 * (1 + p))] (Int.toNat 3) ⟨0, 10 * (1 + p), 0, 0, 0 + 0, 0 + (10 * (1 + p)), 0, 0, 0, 0, 0⟩) (F6 (1 + p) (10 * (1 + p)) 3) (by simp)
  have hD := hD et0
  have hD := hD em
  have hD := hD ez
  have hD := hD ep
  have hD := hD et
  have hr0 : ix (List.set [F3 0, F3 0, F3 0, F3 (10 * (1 + p))] (Int.toNat 3) ⟨0, 10 * (1 + p), 0, 0, 0 + 0, 0 + (10 * (1 + p)), 0, 0, 0, 0, 0⟩) 3 = some ⟨0, (10 * (1 + p)), 0, 0, (10 * (1 + p)) - (10 * (1 + p)), (10 * (1 + p)), 0, 0, 0, 0, 0⟩ := by rw [Int.sub_self]; show some (⟨0, 10 * (1 + p), 0, 0, 0 + 0, 0 + (10 * (1 + p)), 0, 0, 0, 0, 0⟩ : GRoll) = _; rw [Int.zero_add, Int.zero_add]
  obtain ⟨b, P', R', j, b0, b1, hP, j0, j1, hL⟩ := back_loop (i := 3) (n := (1 + p)) (v := (10 * (1 + p))) (l := l) (rc := (F6 (1 + p) (10 * (1 + p)) 3)) (PI := PI3) hw (by omega) (by omega) (by omega) (by omega) (by omega) (by omega) hp3 hb3 12 27 (1 + p) (10 * (1 + p)) 0 0 (F73 (F4 [] 0)) (List.set [F3 0, F3 0, F3 0, F3 (10 * (1 + p))] (Int.toNat 3) ⟨0, 10 * (1 + p), 0, 0, 0 + 0, 0 + (10 * (1 + p)), 0, 0, 0, 0, 0⟩) (by rw [Int.sub_self, Int.sub_self]; exact .inl ⟨by omega, by omega, rfl⟩) (by omega) (by omega) (by omega) (by omega) (by omega) (by omega) (by omega) (by omega) (by omega) (by omega) (by omega) (by decide) (by simp) hr0
  rw [Int.sub_self, Int.sub_self] at hL
  have hL : d_law16_SellBack_L0 l 80 (1 + p) 0 0 (F1 (F73 (F4 [] 0)) (F2 0 (0 - (10 * (1 + p))) 7 (-7) (10 * (1 + p))) (List.set [F3 0, F3 0, F3 0, F3 (10 * (1 + p))] (Int.toNat 3) ⟨0, 10 * (1 + p), 0, 0, 0 + 0, 0 + (10 * (1 + p)), 0, 0, 0, 0, 0⟩) [⟨0, 3, 0, (1 + p), 0, 10 * (1 + p), 0, 1, false⟩] (F6 (1 + p) (10 * (1 + p)) 3)) = _ := hL
  have hP := hP.resolve_left (fun h => by omega)
  obtain ⟨-, rfl⟩ := hP
  have hW := wo3_r (F2 (10 * (1 + p)) (0 - (10 * (1 + p))) (7 - b) (b - 7) 0) R' [⟨0, 3, 0, (1 + p), (1 + p), 0, 0, 1, false⟩] (F6 (1 + p) (10 * (1 + p)) 3) (1 + p) (10 * (1 + p)) (by omega) (by omega) (by omega) (by omega)
  have hA := aw16
  exact auto16
theorem sellBack_plain {a b d : Int} {l : List Int} (ha : -9223372036854775808 ≤ a ∧ a ≤ 9223372036854775807) (hb : -9223372036854775808 ≤ b ∧ b ≤ 9223372036854775807) (hc : -9223372036854775808 ≤ d ∧ d ≤ 9223372036854775807) (hw : ∀ x ∈ l, -9223372036854775808 ≤ x ∧ x ≤ 9223372036854775807) : d_law16_SellBack 80 a b d l = some true := by
  obtain ⟨i, e1, i0, i1⟩ := place_e (n := 4) (by decide) ha
  obtain ⟨p, e2, p0, p1⟩ := place_e (n := 200) (by decide) hb
  obtain ⟨v, e3, v0, v1⟩ := place_e (n := 10000) (by decide) hc
  have hi : i = 0 ∨ i = 1 ∨ i = 2 ∨ i = 3 := by omega
  rcases hi with rfl | rfl | rfl | rfl
  · exact sb0 hw p0 p1 v0 v1 e1 e2 e3
  · exact sb1 hw p0 p1 v0 v1 e1 e2 e3
  · exact sb2 hw p0 p1 v0 v1 e1 e2 e3
  · exact sb3 hw p0 p1 e1 e2 e3
end Go.Pv
