/- ReceiveMany: a receipt on any such state. -/
import Derived.Test.YtpbcnilkippahaaGreatD45
set_option linter.unusedSimpArgs false
set_option linter.unusedVariables false
namespace Go.Pv
set_option maxRecDepth 100000
set_option maxHeartbeats 1000000
@[reducible] def zp (l : List GLayer) : GPool := ⟨l, ⟨0, 0, 0⟩⟩
def mkP (P : Nat → List GLayer) : List GPool := [zp (P 0), zp (P 1), zp (P 2), zp (P 3), zp (P 4), zp (P 5), zp (P 6), zp (P 7)]
def upP {α : Type} (P : Nat → α) (j : Nat) (l : α) : Nat → α := fun m => if m = j then l else P m
@[reducible] def ro (b : Int) : GRoll := ⟨0, b, 0, 0, 0, 0, 0, 0, 0, 0, 0⟩
def mkR (R : Nat → Int) : List GRoll := [ro (R 0), ro (R 1), ro (R 2), ro (R 3)]
def mkB (w g p : Int) : List Int := [w, g, 0, 0, 0, 0, p, 0, 0, 0, 0, 0, 0, 0, 0, 0, 0]
def mkX (P : Nat → List GLayer) (R : Nat → Int) (w g p : Int) : GEnt := ⟨1, false, mkP P, mkB w g p, mkR R, [-1, -1, -1, -1], [0, 0, 0, 0], []⟩
def M0 : GMaster := ⟨2, 3, [1, 2, 3, 0], [[1, 2, 3, 4], [1, 2, 3, 4]], [[10, 10, 10, 10], [10, 10, 10, 10]]⟩
def St (X : List GEnt) (rc : List GReceipt) : GState := ⟨M0, X, rc, [], [], 0⟩
theorem j8 {j : Nat} (h : j < 8) : j = 0 ∨ j = 1 ∨ j = 2 ∨ j = 3 ∨ j = 4 ∨ j = 5 ∨ j = 6 ∨ j = 7 := by omega
theorem mkP_at (P : Nat → List GLayer) {j : Nat} (h : j < 8) : (mkP P)[j]? = some (zp (P j)) := by rcases j8 h with rfl | rfl | rfl | rfl | rfl | rfl | rfl | rfl <;> rfl
theorem mkP_set (P : Nat → List GLayer) {j : Nat} (h : j < 8) (l : List GLayer) : (mkP P).set j (zp l) = mkP (upP P j l) := by rcases j8 h with rfl | rfl | rfl | rfl | rfl | rfl | rfl | rfl <;> rfl
theorem mkR_at (R : Nat → Int) {j : Nat} (h : j < 4) : (mkR R)[j]? = some (ro (R j)) := by
  have : j = 0 ∨ j = 1 ∨ j = 2 ∨ j = 3 := by omega
  rcases this with rfl | rfl | rfl | rfl <;> rfl
theorem mkR_set (R : Nat → Int) {j : Nat} (h : j < 4) (b : Int) : (mkR R).set j (ro b) = mkR (upP R j b) := by
  have : j = 0 ∨ j = 1 ∨ j = 2 ∨ j = 3 := by omega
  rcases this with rfl | rfl | rfl | rfl <;> rfl
def sP (P : Nat → List GLayer) : Int := sv (P 0) + sv (P 1) + sv (P 2) + sv (P 3) + sv (P 4) + sv (P 5) + sv (P 6) + sv (P 7)
theorem sP_up (P : Nat → List GLayer) {j : Nat} (h : j < 8) (l : List GLayer) : sP (upP P j l) = sP P - sv (P j) + sv l := by
  rcases j8 h with rfl | rfl | rfl | rfl | rfl | rfl | rfl | rfl <;> simp only [sP, upP] <;> simp <;> omega
structure PoolOk (P : Nat → List GLayer) (B : Int) : Prop where
  ok : ∀ j, j < 8 → LOk (P j)
  q : ∀ j, j < 8 → sq (P j) ≤ B
  v : ∀ j, j < 8 → sv (P j) ≤ B
  n : ∀ j, j < 8 → (P j).length ≤ 30
  one : ∀ j, 2 ≤ j → j < 8 → (P j).length ≤ 1
theorem at_e {X : List GEnt} {rc : List GReceipt} {e i : Int} {P : Nat → List GLayer} {R : Nat → Int} {w g p : Int} (hX : X.length = 2) (he : e = 0 ∨ e = 1) (hx : X[e.toNat]? = some (mkX P R w g p)) (hi : 0 ≤ i ∧ i < 4) :
    At (St X rc) e i (mkX P R w g p) [1, 2, 3, 4] [10, 10, 10, 10] (i + 1) 10 where
  e0 := by omega
  hx := hx
  el := by show X.length ≤ 1000; omega
  i0 := hi.1
  i1 := by show i < 4; omega
  wl := by show 4 ≤ 1000; omega
  hm := by rcases he with rfl | rfl <;> rfl
  hc := by rcases he with rfl | rfl <;> rfl
  ml := by show 4 ≤ 4; omega
  cl := by show 4 ≤ 4; omega
  him := by
    have : i = 0 ∨ i = 1 ∨ i = 2 ∨ i = 3 := by omega
    rcases this with rfl | rfl | rfl | rfl <;> rfl
  hic := by
    have : i = 0 ∨ i = 1 ∨ i = 2 ∨ i = 3 := by omega
    rcases this with rfl | rfl | rfl | rfl <;> rfl
  pl := by show 4 * 2 ≤ 8 ∧ 8 ≤ 4000; omega
  rl := by show 4 ≤ 4 ∧ 4 ≤ 4000; omega
variable {n : Nat}
theorem post_gen {s : GState} {e : Int} {P : Nat → List GLayer} {R : Nat → Int} {w g p a b c : Int} (e0 : 0 ≤ e) (hx : s.Ents[e.toNat]? = some (mkX P R w g p)) (el : s.Ents.length ≤ 1000) (bw : 0 ≤ w ∧ w ≤ 1000000000) (bg : -1000000000 ≤ g ∧ g ≤ 0) (bp : -1000000000 ≤ p ∧ p ≤ 1000000000)
    (ba : 0 ≤ a ∧ a ≤ 1000000) (bb : -1000000 ≤ b ∧ b ≤ 1000000) (bc : -1000000 ≤ c ∧ c ≤ 0) (hs : a + b + c = 0) (hz : a = 0 → b = 0) :
    d_stock_Post (n + 14) s e [⟨0, a⟩, ⟨6, b⟩, ⟨1, c⟩] = some (stE s e (mkX P R (w + a) (g + c) (p + b)), 0) := by
  have sa : Sm a := by omega
  have sb : Sm b := by omega
  have sc : Sm c := by omega
  have q0 : (mkX P R w g p).Bal.length = 17 := rfl
  have g0 : (mkX P R w g p).Bal[(0 : Int).toNat]? = some w := rfl
  have g6 : (mkX P R w g p).Bal[(6 : Int).toNat]? = some p := rfl
  have g1 : (mkX P R w g p).Bal[(1 : Int).toNat]? = some g := rfl
  by_cases ha : a = 0
  · have hb0 : b = 0 := hz ha
    have hc0 : c = 0 := by omega
    refine (post_v e0 hx el (plB sa sb sc ha hb0 hc0) (glB q0)).trans ?_
    rw [ha, hb0, hc0, Int.add_zero, Int.add_zero, Int.add_zero]; rfl
  · by_cases hb0 : b = 0
    · have hc0 : c ≠ 0 := by omega
      refine (post_v e0 hx el (plA sa sb sc ha hb0 hc0) (glA q0 g0 ⟨by omega, sa, by omega⟩ g1 ⟨by omega, sc, by omega⟩ ha hc0 (by omega))).trans ?_
      rw [hb0, Int.add_zero]; rfl
    · by_cases hc0 : c = 0
      · refine (post_v e0 hx el (plD sa sb sc ha hb0 hc0) (glD q0 g0 ⟨by omega, sa, by omega⟩ g6 ⟨by omega, sb, by omega⟩ ha hb0 (by omega))).trans ?_
        rw [hc0, Int.add_zero]; rfl
      · refine (post_v e0 hx el (plC sa sb sc ha hb0 hc0) (glC q0 g0 ⟨by omega, sa, by omega⟩ g1 ⟨by omega, sc, by omega⟩ g6 ⟨by omega, sb, by omega⟩ ha hc0 hb0 (by omega))).trans ?_
        rfl
theorem x2 {X : List GEnt} {e : Int} {x : GEnt} (hX : X.length = 2) (he : e = 0 ∨ e = 1) : (X.set e.toNat x).length = 2 ∧ (X.set e.toNat x)[e.toNat]? = some x := by
  refine ⟨by rw [List.length_set]; exact hX, ?_⟩
  rw [List.getElem?_set, if_pos rfl, if_pos (by rcases he with rfl | rfl <;> simp <;> omega)]
theorem set_set {X : List GEnt} {j : Nat} {x y : GEnt} : (X.set j x).set j y = X.set j y := List.set_set ..
theorem upP_ok {P : Nat → List GLayer} {B : Int} (h : PoolOk P B) {j : Nat} (hj : j < 8) {l : List GLayer} (ok : LOk l) (q : sq l ≤ B + 3000) (v : sv l ≤ B + 3000) (n : l.length ≤ 30) (one : 2 ≤ j → l.length ≤ 1) : PoolOk (upP P j l) (B + 3000) := by
  refine ⟨fun m hm => ?_, fun m hm => ?_, fun m hm => ?_, fun m hm => ?_, fun m h2 hm => ?_⟩
  all_goals (unfold upP; by_cases hmj : m = j)
  · rw [if_pos hmj]; exact ok
  · rw [if_neg hmj]; exact h.ok m hm
  · rw [if_pos hmj]; exact q
  · rw [if_neg hmj]; have := h.q m hm; omega
  · rw [if_pos hmj]; exact v
  · rw [if_neg hmj]; have := h.v m hm; omega
  · rw [if_pos hmj]; exact n
  · rw [if_neg hmj]; exact h.n m hm
  · rw [if_pos hmj]; exact one (by omega)
  · rw [if_neg hmj]; exact h.one m h2 hm
theorem rec_v {X : List GEnt} {rc : List GReceipt} {e i k q v : Int} {P : Nat → List GLayer} {R : Nat → Int} {w g p B : Int} (hX : X.length = 2) (he : e = 0 ∨ e = 1) (hx : X[e.toNat]? = some (mkX P R w g p)) (hi : 0 ≤ i ∧ i < 4) (hk : 0 ≤ k ∧ k ≤ 1)
    (hq : 1 ≤ q ∧ q ≤ 30) (hv : 0 ≤ v ∧ v < 2000) (hP : PoolOk P B) (hB : 0 ≤ B ∧ B ≤ 200000) (bw : 0 ≤ w ∧ w ≤ B) (bg : -B ≤ g ∧ g ≤ 0) (bp : -B ≤ p ∧ p ≤ B) (bR : ∀ j, j < 4 → 0 ≤ R j ∧ R j ≤ B) (hrc : rc.length < 40) (hf : ¬ (i = 0 ∧ (P k.toNat).length = 30)) :
    d_receive_Do (n + 200) (St X rc) ⟨1, e, i, k, 0, q, v, 0, []⟩ = some (St (X.set e.toNat (mkX (upP P (i * 2 + k).toNat (newL (i + 1) (P (i * 2 + k).toNat) q v)) (upP R i.toNat (R i.toNat + car (i + 1) q v)) (w + car (i + 1) q v) (g + (0 - v)) (p + (v - car (i + 1) q v)))) (rc ++ [⟨e, i, k, q, v, q, v, 0⟩]), 0) := by
  have hj : (i * 2 + k).toNat < 8 := by omega
  have hA := at_e (rc := rc) hX he hx hi
  have e0 : 0 ≤ e := by omega
  obtain ⟨hn1, hn2, hn3, hn4, hn5, hn6⟩ := newL_ok (m := i + 1) (hP.ok _ hj) hq.1 hv.1
  have hql := hP.q _ hj
  have hvl := hP.v _ hj
  have hnl := hP.n _ hj
  have hcar : car (i + 1) q v ≤ 3000 := by unfold car; split <;> omega
  have hl30 : (P (i * 2 + k).toNat).length < 30 := by
    by_cases h0 : i = 0
    · subst h0
      have : ¬ (P k.toNat).length = 30 := fun h => hf ⟨rfl, h⟩
      simp only [Int.zero_mul, Int.zero_add] at hnl ⊢; omega
    · have := hP.one (i * 2 + k).toNat (by omega) hj; omega
  have hpin := pinA (m := i + 1) (by omega) (hP.ok _ hj) hl30 (pd := ⟨0, 0, 0⟩) hq.1 hv.1 (by omega) (by omega) (by omega) (by omega) (n := n + 200) (by omega)
  have hP' := upP_ok hP hj hn1 (by rw [hn2]; omega) (by rw [hn3]; omega) (by omega) (fun h2 => hn5 (by omega))
  generalize hP2 : upP P (i * 2 + k).toNat (newL (i + 1) (P (i * 2 + k).toNat) q v) = P' at *
  have hset : (mkP P).set (i * 2 + k).toNat (zp (newL (i + 1) (P (i * 2 + k).toNat) q v)) = mkP P' := by rw [mkP_set P hj, hP2]
  have hA1 : At (stE (St X rc) e (mkX P' R w g p)) e i (mkX P' R w g p) [1, 2, 3, 4] [10, 10, 10, 10] (i + 1) 10 := hA.set rfl rfl
  have a0 : (i * 2 + 0).toNat < 8 := by omega
  have a1 : (i * 2 + (0 + 1)).toNat < 8 := by omega
  have p0 : (mkX P' R w g p).Pools[(i * 2 + 0).toNat]? = some (zp (P' (i * 2 + 0).toNat)) := mkP_at P' a0
  have p1 : (mkX P' R w g p).Pools[(i * 2 + (0 + 1)).toNat]? = some (zp (P' (i * 2 + (0 + 1)).toNat)) := mkP_at P' a1
  have q0 := hP'.q _ a0; have q1 := hP'.q _ a1; have v0 := hP'.v _ a0; have v1 := hP'.v _ a1
  have n0 := hP'.n _ a0; have n1 := hP'.n _ a1
  have nq0 := (sq_nn (hP'.ok _ a0)).1; have nq1 := (sq_nn (hP'.ok _ a1)).1; have nv0 := sv_nn (hP'.ok _ a0); have nv1 := sv_nn (hP'.ok _ a1)
  have hw := worth_v (n := n + 70) hA1 p0 p1 (by dsimp only; omega) (by dsimp only; omega) (fun m => totL (hP'.ok _ a0) (by omega) (by omega) (by omega) (by omega)) (fun m => totL (hP'.ok _ a1) (by omega) (by omega) (by omega) (by omega)) (by dsimp only; omega) (by dsimp only; omega) (by dsimp only; decide)
  have hst := steady_v (n := n + 70) hA1 p0 p1 (by dsimp only; omega) (by dsimp only; omega) (fun m => sL1 (zp (P' (i * 2 + 0).toNat)) (hP'.ok _ a0) (by dsimp only; omega) _ 0 _ [] (Nat.zero_add _) (by dsimp only; omega) (by simp)) (fun m => sL1 (zp (P' (i * 2 + (0 + 1)).toNat)) (hP'.ok _ a1) (by dsimp only; omega) _ 0 _ _ (Nat.zero_add _) (by dsimp only; omega) (by simp only [List.drop_zero, List.nil_append, List.length_map]; omega)) (fun m => by
    refine sumS (l := _) ?_ ?_ ?_ ?_
    · intro x hx
      simp only [List.drop_zero, List.nil_append, List.mem_append] at hx
      rcases hx with hx | hx <;> exact zer x hx
    · simp only [List.drop_zero, List.nil_append, List.length_append, List.length_map]; omega
    · simp only [List.drop_zero, List.nil_append]
      have : ∀ a b : List Int, sm (a ++ b) = sm a + sm b := by
        intro a b
        induction a with
        | nil => simp [sm]
        | cons x a ih => simp only [List.cons_append, sm, ih]; omega
      rw [this, sm_z, sm_z]; decide
    · simp only [List.drop_zero, List.nil_append, List.length_append, List.length_map]; omega)
  have hb := bring_v (n := n + 70) hA (l := ⟨q, v, 0⟩) hk (mkP_at P hj) hpin (by dsimp only; omega) (by rw [show (mkX P R w g p).Pools = mkP P from rfl, hset]; exact hw) (by rw [show (mkX P R w g p).Pools = mkP P from rfl, hset]; exact hst)
  rw [show (mkX P R w g p).Pools = mkP P from rfl, hset] at hb
  have ecar : v - (v - car (i + 1) q v) = car (i + 1) q v := by omega
  simp only [ecar] at hb
  have hx1 : (stE (St X rc) e (mkX P' R w g p)).Ents[e.toNat]? = some (mkX P' R w g p) := (x2 hX he).2
  have hpo := post_gen (n := n + 186) (a := car (i + 1) q v) (b := v - car (i + 1) q v) (c := 0 - v) e0 hx1 (by show (X.set _ _).length ≤ 1000; rw [(x2 hX he).1]; omega) (by omega) (by omega) (by omega) (by omega) (by omega) (by omega) (by omega) (fun h => by
    have : car (i + 1) q v = v ∨ car (i + 1) q v = q * 10 := by unfold car; split <;> simp
    omega)
  have hA2 : At (stE (stE (St X rc) e (mkX P' R w g p)) e (mkX P' R (w + car (i + 1) q v) (g + (0 - v)) (p + (v - car (i + 1) q v)))) e i (mkX P' R (w + car (i + 1) q v) (g + (0 - v)) (p + (v - car (i + 1) q v))) [1, 2, 3, 4] [10, 10, 10, 10] (i + 1) 10 := hA1.set rfl rfl
  have hi4 : i.toNat < 4 := by omega
  have hRi := bR i.toNat hi4
  have z0 : Sm 0 ∧ Sm 0 ∧ Sm (0 + 0) := by decide
  have htu := turn_v hA2 (q1 := 0) (q2 := car (i + 1) q v) (q3 := 0) (q4 := 0) (q5 := 0) (q6 := 0) (q7 := 0) (q8 := 0) (q9 := 0) (q10 := 0) (q11 := 0) (mkR_at R hi4) z0 ⟨by omega, by omega, by omega⟩ z0 z0 z0 z0 z0 z0 z0 z0 z0
  have hR2 : (mkX P' R (w + car (i + 1) q v) (g + (0 - v)) (p + (v - car (i + 1) q v))).Rolls.set i.toNat ⟨0 + 0, R i.toNat + car (i + 1) q v, 0 + 0, 0 + 0, 0 + 0, 0 + 0, 0 + 0, 0 + 0, 0 + 0, 0 + 0, 0 + 0⟩ = mkR (upP R i.toNat (R i.toNat + car (i + 1) q v)) := mkR_set R hi4 _
  rw [hR2] at htu
  have hrd := ready_v hA rfl
  have := receive_v (n := n + 200) hrd hrc hb (by omega) hpo htu (by show rc.length ≤ 1000; omega)
  refine this.trans ?_
  show some ((⟨M0, (((X.set e.toNat _).set e.toNat _).set e.toNat _), _, _, _, _⟩ : GState), (0 : Int)) = _
  rw [List.set_set, List.set_set]; rfl
end Go.Pv
