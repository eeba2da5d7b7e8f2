/- SellBack: layers one behind the other. -/
import Derived.Test.YtbcjcecegdfnpaaGreatS5
set_option linter.unusedSimpArgs false
set_option linter.unusedVariables false
namespace Go.Pv
open Go.Proofs
set_option maxRecDepth 100000
set_option maxHeartbeats 1000000
theorem vauto {α : Type} {D : Option α} {r : α} (h : D = some r := by repeat (first | with_reducible exact v_end | with_reducible assumption | ((with_reducible refine v_fin ?_); (exact rfl)) | ((with_reducible refine v_w ?_ ?_); · first | omega | decide | (dsimp only; omega) | (simp; done) | (simp; omega)) | ((with_reducible refine v_wu ?_ ?_); · first | omega | decide | (dsimp only; omega) | (simp; done) | (simp; omega)) | ((with_reducible refine v_T ?_ ?_); · first | omega | decide | (dsimp only; omega) | (simp; done) | (simp; omega) | (exact of_decide_eq_true rfl)) | ((with_reducible refine v_F ?_ ?_); · first | omega | decide | (dsimp only; omega) | (simp; done) | (simp; omega) | (exact of_decide_eq_true rfl)) | with_reducible refine v_nT ?_ | with_reducible refine v_nF ?_ | with_reducible refine v_cT ?_ | with_reducible refine v_cF ?_ | ((with_reducible refine v_as ?_ ?_); · first | omega | decide | (dsimp only; omega) | (simp; done) | (simp; omega) | (exact of_decide_eq_true rfl)) | ((with_reducible apply v_ix); (first | omega | decide | (simp; done) | (dsimp only [List.length_cons, List.length_nil]; omega)); (exact rfl)) | with_reducible refine v_p2 ?_ | with_reducible refine v_selb ?_ | with_reducible refine v_sele ?_ | with_reducible refine v_selrl ?_ | with_reducible refine v_selrr ?_ | ((with_reducible refine v_ifT ?_ ?_); · first | omega | decide | (dsimp only; omega)) | ((with_reducible refine v_ifF ?_ ?_); · first | omega | decide | (dsimp only; omega)) | with_reducible refine v_bi (by assumption) ?_ | with_reducible refine v_brk ?_ | with_reducible refine v_esc ?_ | dsimp only [List.nil_append, List.cons_append] | with_reducible apply v_bi | with_reducible refine v_bnd ?_)) : D = some r := h
theorem iloop {α σ τ : Type} (l : List α) (F : Nat → Int → σ → Option τ) (g : σ → α → σ) (fin : σ → τ) (P : σ → List α → Prop)
    (hstep : ∀ n j s x r, P s (x :: r) → 0 ≤ j → j < (l.length : Int) → ix l j = some x → F (n + 1) j s = F n (j + 1) (g s x) ∧ P (g s x) r)
    (hstop : ∀ n j s, ¬ j < (l.length : Int) → F (n + 1) j s = some (fin s)) :
    ∀ (r pre : List α) (n : Nat) (s : σ), l = pre ++ r → r.length < n → P s r → F n (pre.length : Int) s = some (fin (r.foldl g s))
  | [], pre, 0, s, e, hn, hP => absurd hn (Nat.not_lt_zero _)
  | [], pre, n + 1, s, e, hn, hP => hstop n _ s (by subst e; simp)
  | x :: r, pre, 0, s, e, hn, hP => absurd hn (Nat.not_lt_zero _)
  | x :: r, pre, n + 1, s, e, hn, hP => by
    have hlt : pre.length < l.length := by subst e; simp
    have hix : ix l (pre.length : Int) = some x := by
      unfold ix; rw [if_neg (by omega)]; subst e; simp
    obtain ⟨h1, h2⟩ := hstep n (pre.length : Int) s x r hP (by omega) (by omega) hix
    rw [h1]
    have := iloop l F g fin P hstep hstop r (pre ++ [x]) n (g s x) (by simp [e]) (by simp at hn; omega) h2
    simpa using this
def sm : List Int → Int
  | [] => 0
  | x :: r => x + sm r
theorem sm_app (a b : List Int) : sm (a ++ b) = sm a + sm b := by
  induction a with
  | nil => simp [sm]
  | cons x r ih => simp only [List.cons_append, sm, ih]; omega
theorem sm_fold (l : List Int) : ∀ a, l.foldl (fun a y => a + y) a = a + sm l := by
  induction l with
  | nil => intro a; simp [sm]
  | cons x r ih => intro a; simp only [List.foldl_cons, ih, sm]; omega
theorem sm_nn {l : List Int} (h : ∀ x ∈ l, 0 ≤ x) : 0 ≤ sm l := by
  induction l with
  | nil => exact Int.le_refl 0
  | cons x r ih => have h1 := h x (List.mem_cons_self ..); have h2 := ih fun y hy => h y (List.mem_cons_of_mem _ hy); simp only [sm]; omega
theorem sum_v {n : Nat} {l : List Int} (hn : l.length < n) (h1 : l.length ≤ 1000) (h0 : ∀ x ∈ l, 0 ≤ x) (hs : sm l ≤ 100000) : d_money_Sum n l = some (sm l, 0) := by
  have h := iloop l (fun n j a => d_money_Sum_L0 l n a j) (fun a y => a + y) (fun a => .inl a) (fun a r => 0 ≤ a ∧ a + sm r ≤ 100000 ∧ ∀ x ∈ r, 0 ≤ x)
    (fun n j a x r hP j0 j1 hx => by
      have hx0 := hP.2.2 x (List.mem_cons_self ..)
      have hr := sm_nn fun y hy => hP.2.2 y (List.mem_cons_of_mem _ hy)
      have hs := hP.2.1; simp only [sm] at hs
      exact ⟨lsA_r l n a j x j0 (by omega) j1 hx hP.1 hx0 (by omega), by omega, by omega, fun y hy => hP.2.2 y (List.mem_cons_of_mem _ hy)⟩)
    (fun n j a hj => lsB_r l n a j hj) l [] n 0 rfl hn ⟨Int.le_refl 0, by omega, h0⟩
  rw [sm_fold, Int.zero_add] at h
  have h : d_money_Sum_L0 l n 0 0 = some (.inl (sm l)) := h
  unfold d_money_Sum
  rw [h]; rfl
def LOK (L : List GLayer) : Prop := ∀ x ∈ L, 1 ≤ x.Qty ∧ 0 ≤ x.Value ∧ x.Profit = 0
def lq (L : List GLayer) : List Int := L.map fun x => x.Qty
def lv (L : List GLayer) : List Int := L.map fun x => x.Value
def lz (L : List GLayer) : List Int := L.map fun _ => 0
theorem lz_sm (L : List GLayer) : sm (lz L) = 0 := by
  induction L with
  | nil => rfl
  | cons x r ih => show 0 + sm (lz r) = 0; rw [ih]; rfl
theorem tot_fold (L : List GLayer) : ∀ s : List Int × List Int × List Int, L.foldl (fun s x => (s.1 ++ [x.Qty], s.2.1 ++ [x.Value], s.2.2 ++ [(0 : Int)])) s = (s.1 ++ lq L, s.2.1 ++ lv L, s.2.2 ++ lz L) := by
  induction L with
  | nil => intro s; simp [lq, lv, lz]
  | cons x r ih => intro s; rw [List.foldl_cons, ih]; simp [lq, lv, lz]
theorem z_fold (L : List GLayer) : ∀ s : List Int, L.foldl (fun s x => s ++ [(0 : Int)]) s = s ++ lz L := by
  induction L with
  | nil => intro s; simp [lz]
  | cons x r ih => intro s; rw [List.foldl_cons, ih]; simp [lz]
section
variable {n : Nat} {L : List GLayer}
theorem eta0 {x : GLayer} (h : x.Profit = 0) : x = ⟨x.Qty, x.Value, 0⟩ := by cases x; simp at h; subst h; rfl
theorem tot_v (hn : L.length < n) (h1 : L.length ≤ 100) (ok : LOK L) (hq : sm (lq L) ≤ 100000) (hv : sm (lv L) ≤ 100000) : d_fifo_Total n L = some (⟨sm (lq L), sm (lv L), 0⟩, 0) := by
  have h := iloop L (fun n j s => d_fifo_Total_L0 L n j s.1 s.2.1 s.2.2) (fun s x => (s.1 ++ [x.Qty], s.2.1 ++ [x.Value], s.2.2 ++ [(0 : Int)])) (fun s => s)
    (fun s r => (∀ x ∈ r, x.Profit = 0) ∧ s.1.length + r.length ≤ 200 ∧ s.2.1.length + r.length ≤ 200 ∧ s.2.2.length + r.length ≤ 200)
    (fun n j s x r hP j0 j1 hx => by
      have hl : (x :: r).length = r.length + 1 := rfl
      rw [eta0 (hP.1 x (List.mem_cons_self ..))] at hx
      refine ⟨ltA_r L n j x.Qty x.Value s.1 s.2.1 s.2.2 (by omega) (by omega) (by omega) (by omega) j0 j1 hx, fun y hy => hP.1 y (List.mem_cons_of_mem _ hy), ?_, ?_, ?_⟩ <;> simp only [List.length_append, List.length_cons, List.length_nil] <;> omega)
    (fun n j s hj => ltB_r L n j s.1 s.2.1 s.2.2 hj) L [] n ([], [], []) rfl hn ⟨fun x hx => (ok x hx).2.2, by simp; omega, by simp; omega, by simp; omega⟩
  rw [tot_fold] at h
  have hL : d_fifo_Total_L0 L n 0 [] [] [] = some (lq L, lv L, lz L) := h
  have s1 := sum_v (n := n) (l := lq L) (by simp [lq]; exact hn) (by simp [lq]; omega) (fun x hx => by simp only [lq, List.mem_map] at hx; obtain ⟨y, hy, rfl⟩ := hx; have := (ok y hy).1; omega) hq
  have s2 := sum_v (n := n) (l := lv L) (by simp [lv]; exact hn) (by simp [lv]; omega) (fun x hx => by simp only [lv, List.mem_map] at hx; obtain ⟨y, hy, rfl⟩ := hx; exact (ok y hy).2.1) hv
  have s3 := sum_v (n := n) (l := lz L) (by simp [lz]; exact hn) (by simp [lz]; omega) (fun x hx => by simp only [lz, List.mem_map] at hx; obtain ⟨y, hy, rfl⟩ := hx; exact Int.le_refl 0) (by rw [lz_sm]; omega)
  rw [lz_sm] at s3
  unfold d_fifo_Total
  exact vauto
theorem fsteady_v (hn : L.length < n) (h1 : L.length ≤ 100) (ok : LOK L) : d_fifo_steady n L = some true := by
  have h := iloop L (fun n j s => d_fifo_steady_L0 L n j s) (fun s x => s ++ [(0 : Int)]) (fun s => s) (fun s r => (∀ x ∈ r, x.Profit = 0) ∧ s.length + r.length ≤ 200)
    (fun n j s x r hP j0 j1 hx => by
      have hl : (x :: r).length = r.length + 1 := rfl
      rw [eta0 (hP.1 x (List.mem_cons_self ..))] at hx
      refine ⟨lfA_r L n j x.Qty x.Value s (by omega) (by omega) j0 j1 hx, fun y hy => hP.1 y (List.mem_cons_of_mem _ hy), ?_⟩
      simp only [List.length_append, List.length_cons, List.length_nil]; omega)
    (fun n j s hj => lfB_r L n j s hj) L [] n [] rfl hn ⟨fun x hx => (ok x hx).2.2, by simp; omega⟩
  rw [z_fold] at h
  have hL : d_fifo_steady_L0 L n 0 [] = some (lz L) := h
  have s3 := sum_v (n := n) (l := lz L) (by simp [lz]; exact hn) (by simp [lz]; omega) (fun x hx => by simp only [lz, List.mem_map] at hx; obtain ⟨y, hy, rfl⟩ := hx; exact Int.le_refl 0) (by rw [lz_sm]; omega)
  unfold d_fifo_steady
  exact vauto
theorem lq_le {L : List GLayer} (ok : LOK L) {x : GLayer} (hx : x ∈ L) : x.Qty ≤ sm (lq L) ∧ x.Value ≤ sm (lv L) := by
  induction L with
  | nil => cases hx
  | cons y r ih =>
    have hr : LOK r := fun z hz => ok z (List.mem_cons_of_mem _ hz)
    have h1 : 0 ≤ sm (lq r) := sm_nn fun z hz => by simp only [lq, List.mem_map] at hz; obtain ⟨w, hw, rfl⟩ := hz; have := (hr w hw).1; omega
    have h2 : 0 ≤ sm (lv r) := sm_nn fun z hz => by simp only [lv, List.mem_map] at hz; obtain ⟨w, hw, rfl⟩ := hz; exact (hr w hw).2.1
    have h3 := ok y (List.mem_cons_self ..)
    show x.Qty ≤ y.Qty + sm (lq r) ∧ x.Value ≤ y.Value + sm (lv r)
    rcases List.mem_cons.1 hx with e | hx
    · subst e; omega
    · have := ih hr hx; omega
theorem right_v (hn : L.length < n) (h1 : L.length ≤ 30) (ok : LOK L) (hq : sm (lq L) ≤ 100000) (hv : sm (lv L) ≤ 100000) : d_fifo_Right n L = some true := by
  have h := iloop L (fun n j (s : Unit) => d_fifo_Right_L0 L n j) (fun s x => ()) (fun s => .inl ()) (fun s r => ∀ x ∈ r, 1 ≤ x.Qty ∧ 0 ≤ x.Value ∧ x.Profit = 0 ∧ x.Qty ≤ 100000 ∧ x.Value ≤ 100000)
    (fun n j s x r hP j0 j1 hx => by
      obtain ⟨a1, a2, a3, a4, a5⟩ := hP x (List.mem_cons_self ..)
      rw [eta0 a3] at hx
      exact ⟨lrA_r L n j x.Qty x.Value a1 a4 a2 a5 (by omega) j0 j1 hx, fun y hy => hP y (List.mem_cons_of_mem _ hy)⟩)
    (fun n j s hj => lrB_r L n j hj) L [] n () rfl hn (fun x hx => by have := ok x hx; have := lq_le ok hx; omega)
  have hL : d_fifo_Right_L0 L n 0 = some (.inl ()) := h
  have hT := tot_v hn (by omega) ok hq hv
  have hS := fsteady_v hn (by omega) ok
  unfold d_fifo_Right
  exact vauto
theorem fin_v {x : GLayer} (hn : L.length + 1 < n) (h1 : L.length < 30) (ok : LOK (L ++ [x])) (hq : sm (lq (L ++ [x])) ≤ 100000) (hv : sm (lv (L ++ [x])) ≤ 100000) : d_fifo_In n L x = some (L ++ [x], 0) := by
  have hR := right_v (n := n) (L := L ++ [x]) (by simp; omega) (by simp; omega) ok hq hv
  have hx := ok x (by simp)
  unfold d_fifo_In
  exact vauto
theorem sst_v {B : List Int} {R : List GRoll} {S : List GSale} {rc : GReceipt} (hn : L.length + 3 < n) (h1 : L.length ≤ 100) (ok : LOK L) (hR : (R.length : Int) = 4) :
    d_stock_steady n (F1 (F70 (F4 L 0)) B R S rc) 0 0 = some true := by
  obtain ⟨m, rfl⟩ : ∃ m, n = m + 3 := ⟨n - 3, by omega⟩
  have h := iloop L (fun n j s => d_stock_steady_L1 (F4 L 0) n j s) (fun s x => s ++ [(0 : Int)]) (fun s => s) (fun s r => (∀ x ∈ r, x.Profit = 0) ∧ s.length + r.length ≤ 200)
    (fun n j s x r hP j0 j1 hx => by
      have hl : (x :: r).length = r.length + 1 := rfl
      rw [eta0 (hP.1 x (List.mem_cons_self ..))] at hx
      refine ⟨lgA_r L n j x.Qty x.Value s (by omega) (by omega) j0 j1 hx, fun y hy => hP.1 y (List.mem_cons_of_mem _ hy), ?_⟩
      simp only [List.length_append, List.length_cons, List.length_nil]; omega)
    (fun n j s hj => lgB_r L n j s hj) L [] (m + 2) [] rfl (by omega) ⟨fun x hx => (ok x hx).2.2, by simp; omega⟩
  rw [z_fold] at h
  have hL : d_stock_steady_L1 (F4 L 0) (m + 2) 0 [] = some (lz L) := h
  have hE : d_stock_steady_L1 (F4 [] 0) (m + 1) 0 (lz L) = some (lz L) := lgB_r [] m 0 (lz L) (by simp)
  have a0 := sa0_r B R S rc L hR (by omega)
  have a1 := sa1_r B R S rc L hR (by omega)
  have s3 := sum_v (n := m + 3) (l := lz L) (by simp [lz]; omega) (by simp [lz]; omega) (fun x hx => by simp only [lz, List.mem_map] at hx; obtain ⟨y, hy, rfl⟩ := hx; exact Int.le_refl 0) (by rw [lz_sm]; omega)
  have c2 : d_stock_steady_L0 (F1 (F70 (F4 L 0)) B R S rc) 0 0 (m + 1) 2 (lz L) = some (lz L) := by
    rw [d_stock_steady_L0]
    exact vauto
  have c1 : d_stock_steady_L0 (F1 (F70 (F4 L 0)) B R S rc) 0 0 (m + 2) 1 (lz L) = some (lz L) := by
    have c2 : d_stock_steady_L0 _ 0 0 (m + 1) (1 + 1) (lz L) = _ := c2
    rw [d_stock_steady_L0]
    exact vauto
  have c0 : d_stock_steady_L0 (F1 (F70 (F4 L 0)) B R S rc) 0 0 (m + 3) 0 [] = some (lz L) := by
    have c1 : d_stock_steady_L0 _ 0 0 (m + 2) (0 + 1) (lz L) = _ := c1
    rw [d_stock_steady_L0]
    exact vauto
  unfold d_stock_steady
  exact vauto
theorem rtot_fold (L : List GLayer) : ∀ s : Int × Int, L.foldl (fun s x => (s.1 + x.Qty, s.2 + x.Value)) s = (s.1 + sm (lq L), s.2 + sm (lv L)) := by
  induction L with
  | nil => intro s; simp [lq, lv, sm]
  | cons x r ih => intro s; rw [List.foldl_cons, ih]; simp only [lq, lv, List.map_cons, sm, Prod.mk.injEq]; omega
theorem sm_lq_nn (ok : LOK L) : 0 ≤ sm (lq L) ∧ 0 ≤ sm (lv L) :=
  ⟨sm_nn fun z hz => by simp only [lq, List.mem_map] at hz; obtain ⟨w, hw, rfl⟩ := hz; have := (ok w hw).1; omega, sm_nn fun z hz => by simp only [lv, List.mem_map] at hz; obtain ⟨w, hw, rfl⟩ := hz; exact (ok w hw).2.1⟩
theorem rtot_v (hn : L.length < n) (h1 : L.length ≤ 100) (ok : LOK L) (hq : sm (lq L) ≤ 100000) (hv : sm (lv L) ≤ 100000) : d_ref09_Total n L = some (⟨sm (lq L), sm (lv L), 0⟩, 0) := by
  have h := iloop L (fun n j (s : Int × Int) => d_ref09_Total_L0 L n j ⟨s.1, s.2, 0⟩) (fun s x => (s.1 + x.Qty, s.2 + x.Value)) (fun s => .inl ⟨s.1, s.2, 0⟩)
    (fun s r => LOK r ∧ 0 ≤ s.1 ∧ s.1 + sm (lq r) ≤ 100000 ∧ 0 ≤ s.2 ∧ s.2 + sm (lv r) ≤ 100000 ∧ r.length ≤ 100)
    (fun n j s x r hP j0 j1 hx => by
      obtain ⟨p1, p2, p3, p4, p5, p6⟩ := hP
      have hx0 := p1 x (List.mem_cons_self ..)
      have okr : LOK r := fun y hy => p1 y (List.mem_cons_of_mem _ hy)
      have hr := sm_lq_nn okr
      simp only [lq, lv, List.map_cons, sm] at p3 p5
      simp only [lq, lv] at hr
      rw [eta0 hx0.2.2] at hx
      simp only [List.length_cons] at p6
      exact ⟨lhA_r L n j x.Qty x.Value s.1 s.2 hx0.1 hx0.2.1 p2 (by omega) p4 (by omega) (by omega) j0 j1 hx, okr, by omega, by simp only [lq]; omega, by omega, by simp only [lv]; omega, by omega⟩)
    (fun n j s hj => lhB_r L n j s.1 s.2 hj) L [] n (0, 0) rfl hn ⟨ok, Int.le_refl 0, by simp; omega, Int.le_refl 0, by simp; omega, h1⟩
  rw [rtot_fold, Int.zero_add, Int.zero_add] at h
  have hL : d_ref09_Total_L0 L n 0 ⟨0, 0, 0⟩ = some (.inl ⟨sm (lq L), sm (lv L), 0⟩) := h
  unfold d_ref09_Total
  rw [hL]; rfl
end
end Go.Pv
