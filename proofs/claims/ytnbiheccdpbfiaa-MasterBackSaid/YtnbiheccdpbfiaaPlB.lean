/- Plain laws of the master. -/
import Derived.Test.YtnbiheccdpbfiaaPlA
import Derived.Test.YtnbiheccdpbfiaaM4c
set_option linter.unusedSimpArgs false
set_option linter.unusedVariables false
namespace Go.Pv
def inR (lo hi : Int) (v : Int) : Bool := decide (lo ≤ v) && decide (v ≤ hi)
theorem inR_t {lo hi v : Int} : inR lo hi v = true ↔ lo ≤ v ∧ v ≤ hi := by unfold inR; rw [Bool.and_eq_true, decide_eq_true_eq, decide_eq_true_eq]
def rowOk (w : Nat) (lo hi : Int) (l : List Int) : Bool := decide ((l.length : Int) = (w : Int)) && l.all (inR lo hi)
def goodM (m : GMaster) : Bool := inR 1 4 m.Entities && (inR 1 12 m.Periods && (inR 1 5 (m.Weights.length : Int) && (m.Weights.all (inR 0 1073741824) && ((decide ((m.Methods.length : Int) = m.Entities) && m.Methods.all (rowOk m.Weights.length 1 4)) && (decide ((m.Costs.length : Int) = m.Entities) && m.Costs.all (rowOk m.Weights.length 0 1073741824))))))
theorem in_v (a b c : Int) : d_master_in a b c = some (inR b c a) := by
  simp only [d_master_in, bnd_v]
  unfold inR
  by_cases h : a ≥ b
  · simp only [h, decide_true, cnd_t, ob_s, Bool.true_and]
  · have h' : ¬ b ≤ a := h
    simp only [h', decide_false, cnd_f, ob_s, Bool.false_and]
theorem check1_v (a : Int) : d_master_Check_1 a = some (inR 0 1073741824 a) := by simp only [d_master_Check_1, in_v, ob_s]
theorem check2_v (a : Int) : d_master_Check_2_1 a = some (inR 1 4 a) := by simp only [d_master_Check_2_1, in_v, ob_s]
theorem cl0 {m : GMaster} (hl : m.Weights.length ≤ 68719476736) (n : Nat) (hn : m.Weights.length < n) :
    d_master_Check_L0 m n 0 = cond (!m.Weights.all (inR 0 1073741824)) (esc (some ((m.Weights.findIdx (fun v => !inR 0 1073741824 v) : Nat) : Int))) (brk ()) := by
  rw [← any_not]; exact scan (N0 := 0) (l := m.Weights) (fun v => !inR 0 1073741824 v) (fun k => (k : Int)) (d_master_Check_L0 m) (by
    intro n k v _ hv
    simp only [d_master_Check_L0, bnd_v, lt_t hv, cnd_t, ix_nat, hv, ob_s, check1_v, nx (le_k hv hl)]) (by intro n; simp only [d_master_Check_L0, bnd_v, lt_f, cnd_f]) n (by omega)
theorem cl2 {l : List Int} (hl : l.length ≤ 68719476736) (n : Nat) (hn : l.length < n) :
    d_master_Check_L2 l n 0 = cond (!l.all (inR 1 4)) (esc (some ((l.findIdx (fun v => !inR 1 4 v) : Nat) : Int))) (brk ()) := by
  rw [← any_not]; exact scan (N0 := 0) (l := l) (fun v => !inR 1 4 v) (fun k => (k : Int)) (d_master_Check_L2 l) (by
    intro n k v _ hv
    simp only [d_master_Check_L2, bnd_v, lt_t hv, cnd_t, ix_nat, hv, ob_s, check2_v, nx (le_k hv hl)]) (by intro n; simp only [d_master_Check_L2, bnd_v, lt_f, cnd_f]) n (by omega)
theorem cl4 {l : List Int} (hl : l.length ≤ 68719476736) (n : Nat) (hn : l.length < n) :
    d_master_Check_L4 l n 0 = cond (!l.all (inR 0 1073741824)) (esc (some ((l.findIdx (fun v => !inR 0 1073741824 v) : Nat) : Int))) (brk ()) := by
  rw [← any_not]; exact scan (N0 := 0) (l := l) (fun v => !inR 0 1073741824 v) (fun k => (k : Int)) (d_master_Check_L4 l) (by
    intro n k v _ hv
    simp only [d_master_Check_L4, bnd_v, lt_t hv, cnd_t, ix_nat, hv, ob_s, check1_v, nx (le_k hv hl)]) (by intro n; simp only [d_master_Check_L4, bnd_v, lt_f, cnd_f]) n (by omega)
/-- What is looked up is negative if and only if there is none. -/
theorem find_v {b : Bool} {j : Nat} : (((cond b (esc (some (j : Int))) (brk ()) : Option (Unit ⊕ Int))).bind (sel fun (_ : Unit) => some (-1))).bind (fun y => some (decide (y ≥ 0))) = some b := by
  cases b
  · rfl
  · show some (decide ((j : Int) ≥ 0)) = _; rw [decide_eq_true (by omega)]

theorem some_b {b : Bool} : (some b).bind (fun x => some x) = some b := rfl
structure Few (x : GMaster) : Prop where
  w : x.Weights.length ≤ 20
  m : x.Methods.length ≤ 10
  mr : ∀ r ∈ x.Methods, r.length ≤ 20
  c : x.Costs.length ≤ 10
  cr : ∀ r ∈ x.Costs, r.length ≤ 20
theorem mem_get {α : Type} {l : List α} {k : Nat} {v : α} (h : l[k]? = some v) : v ∈ l := List.mem_of_getElem? h
theorem cl1 {m : GMaster} (hm : Few m) (n : Nat) (hn : 50 ≤ n) :
    d_master_Check_L1 m n 0 = cond (!m.Methods.all (rowOk m.Weights.length 1 4)) (esc (some ((m.Methods.findIdx (fun v => !rowOk m.Weights.length 1 4 v) : Nat) : Int))) (brk ()) := by
  have := hm.m
  rw [← any_not]; exact scan (N0 := 30) (l := m.Methods) (fun v => !rowOk m.Weights.length 1 4 v) (fun k => (k : Int)) (d_master_Check_L1 m) (by
    intro n k v hn hv
    have h1 := hm.mr v (mem_get hv)
    simp only [d_master_Check_L1, bnd_v, lt_t hv, cnd_t, ix_nat, hv, ob_s, cl2 (l := v) (by omega) n (by omega), find_v, nx (le_k hv (by omega))]
    unfold rowOk
    cases decide ((v.length : Int) = (m.Weights.length : Int)) with
    | false => rfl
    | true =>
      simp only [cnd_t, ob_s, find_v, Bool.true_and, Bool.not_not]) (by intro n; simp only [d_master_Check_L1, bnd_v, lt_f, cnd_f]) n (by omega)
theorem cl3 {m : GMaster} (hm : Few m) (n : Nat) (hn : 50 ≤ n) :
    d_master_Check_L3 m n 0 = cond (!m.Costs.all (rowOk m.Weights.length 0 1073741824)) (esc (some ((m.Costs.findIdx (fun v => !rowOk m.Weights.length 0 1073741824 v) : Nat) : Int))) (brk ()) := by
  have := hm.c
  rw [← any_not]; exact scan (N0 := 30) (l := m.Costs) (fun v => !rowOk m.Weights.length 0 1073741824 v) (fun k => (k : Int)) (d_master_Check_L3 m) (by
    intro n k v hn hv
    have h1 := hm.cr v (mem_get hv)
    simp only [d_master_Check_L3, bnd_v, lt_t hv, cnd_t, ix_nat, hv, ob_s, cl4 (l := v) (by omega) n (by omega), find_v, nx (le_k hv (by omega))]
    unfold rowOk
    cases decide ((v.length : Int) = (m.Weights.length : Int)) with
    | false => rfl
    | true =>
      simp only [cnd_t, ob_s, find_v, Bool.true_and, Bool.not_not]) (by intro n; simp only [d_master_Check_L3, bnd_v, lt_f, cnd_f]) n (by omega)
theorem check_v {m : GMaster} (hm : Few m) (n : Nat) (hn : 50 ≤ n) : d_master_Check n m = some (goodM m) := by
  have := hm.w
  simp only [d_master_Check, bnd_v, in_v, ob_s, cl0 (m := m) (by omega) n (by omega), cl1 hm n hn, cl3 hm n hn, find_v, decide_true, cnd_t]
  unfold goodM
  cases inR 1 4 m.Entities; · rfl
  cases inR 1 12 m.Periods; · rfl
  cases inR 1 5 (m.Weights.length : Int); · rfl
  cases m.Weights.all (inR 0 1073741824); · rfl
  simp only [ob_s, cnd_t, cnd_f]
  cases decide ((m.Methods.length : Int) = m.Entities); · rfl
  cases m.Methods.all (rowOk m.Weights.length 1 4); · rfl
  cases decide ((m.Costs.length : Int) = m.Entities); · rfl
  cases m.Costs.all (rowOk m.Weights.length 0 1073741824) <;> rfl

theorem rall_v {l : List Int} {w : Nat} {lo hi : Int} (hl : l.length ≤ 20) (n : Nat) (hn : 30 ≤ n) : d_ref04_all n l (w : Int) lo hi = some (rowOk w lo hi l) := by
  unfold rowOk
  simp only [d_ref04_all, bnd_v]
  by_cases h : (l.length : Int) = (w : Int)
  · have e : l.length = w := by omega
    subst e
    have := scan (N0 := 0) (l := l) (fun v => !inR lo hi v) (fun _ => false) (d_ref04_all_L0 l (l.length : Int) lo hi) (by
      intro n k v _ hv
      simp only [d_ref04_all_L0, bnd_v, lt_t hv, cnd_t, ix_nat, hv, ob_s, nx (le_k hv (by omega : l.length ≤ 68719476736))]
      unfold inR
      by_cases h1 : v < lo
      · have : ¬ lo ≤ v := by omega
        simp only [h1, this, decide_true, decide_false, cnd_t, ob_s, Bool.false_and, Bool.not_false]
      · have : lo ≤ v := by omega
        simp only [h1, this, decide_true, decide_false, cnd_t, cnd_f, ob_s, Bool.true_and]
        by_cases h2 : v > hi
        · have : ¬ v ≤ hi := by omega
          simp only [h2, this, decide_true, decide_false, cnd_t, cnd_f, Bool.not_false]
        · have : v ≤ hi := by omega
          simp only [h2, this, decide_true, decide_false, cnd_t, cnd_f, Bool.not_true])
      (by intro n; simp only [d_ref04_all_L0, bnd_v, lt_f, cnd_f]) n (by omega)
    rw [this, sel_c, any_not]
    simp only [ne_eq, not_true_eq_false, decide_false, cnd_f, decide_true, Bool.true_and]
    cases l.all (inR lo hi) <;> rfl
  · simp only [ne_eq, h, not_false_eq_true, decide_true, decide_false, cnd_t, Bool.false_and]
theorem rcl {m : GMaster} (hm : Few m) (h1 : (m.Methods.length : Int) = m.Entities) (h2 : (m.Costs.length : Int) = m.Entities) (n : Nat) (hn : 50 ≤ n) :
    (d_ref04_Check_L0 m n 0).bind (sel fun (_ : Unit) => some true) = some (m.Methods.all (rowOk m.Weights.length 1 4) && m.Costs.all (rowOk m.Weights.length 0 1073741824)) := by
  have h3 := hm.m
  have h4 : (m.Methods.zip m.Costs).length = m.Methods.length := zip_len (by omega)
  have := scan (N0 := 30) (l := m.Methods.zip m.Costs) (fun v => !(rowOk m.Weights.length 1 4 v.1 && rowOk m.Weights.length 0 1073741824 v.2)) (fun _ => false) (d_ref04_Check_L0 m) (by
    rintro n k ⟨u, v⟩ hn hv
    obtain ⟨ha, hb⟩ := zip_get hv
    have la := hm.mr u (mem_get ha)
    have lb := hm.cr v (mem_get hb)
    have he : decide ((k : Int) < m.Entities) = true := by rw [← h1]; exact lt_t ha
    simp only [d_ref04_Check_L0, bnd_v, he, cnd_t, ix_nat, ha, hb, ob_s, rall_v la n hn, rall_v lb n hn, nx (le_k ha (by omega : m.Methods.length ≤ 68719476736))]
    cases rowOk m.Weights.length 1 4 u <;> rfl) (by
    intro n
    have he : decide (((m.Methods.zip m.Costs).length : Int) < m.Entities) = false := by rw [h4, h1, decide_eq_false_iff_not]; omega
    simp only [d_ref04_Check_L0, bnd_v, he, cnd_f]) n (by omega)
  rw [this, sel_c, any_not, zip_all (by omega)]
  cases m.Methods.all (rowOk m.Weights.length 1 4) <;> cases m.Costs.all (rowOk m.Weights.length 0 1073741824) <;> rfl
theorem inR_n {lo hi v : Int} : inR lo hi v = (!decide (v < lo) && !decide (v > hi)) := by
  unfold inR
  rw [← decide_not, ← decide_not]; congr 1 <;> (apply decide_eq_decide.2; omega)
theorem dne {a b : Int} : decide (a ≠ b) = !decide (a = b) := decide_not
theorem rowOk_w {l : List Int} {lo hi : Int} : rowOk l.length lo hi l = l.all (inR lo hi) := by unfold rowOk; simp only [decide_true, Bool.true_and]
theorem rcheck_v {m : GMaster} (hm : Few m) (n : Nat) (hn : 50 ≤ n) : d_ref04_Check n m = some (goodM m) := by
  have := hm.w
  simp only [d_ref04_Check, bnd_v, ob_s, rall_v hm.w n (by omega), dne, rowOk_w]
  unfold goodM
  simp only [inR_n (v := m.Entities), inR_n (v := m.Periods), inR_n (v := (m.Weights.length : Int))]
  cases decide (m.Entities < 1); case true => rfl
  cases decide (m.Entities > 4); case true => rfl
  cases decide (m.Periods < 1); case true => rfl
  cases decide (m.Periods > 12); case true => rfl
  cases decide ((m.Weights.length : Int) < 1); case true => rfl
  cases decide ((m.Weights.length : Int) > 5); case true => rfl
  cases m.Weights.all (inR 0 1073741824); case false => rfl
  by_cases h1 : (m.Methods.length : Int) = m.Entities
  · by_cases h2 : (m.Costs.length : Int) = m.Entities
    · simp only [h1, h2, decide_true, Bool.not_true, cnd_f, ob_s, rcl hm h1 h2 n hn, Bool.true_and, Bool.not_false]
    · simp only [h1, h2, decide_true, decide_false, Bool.not_true, Bool.not_false, cnd_f, cnd_t, ob_s, Bool.true_and, Bool.false_and, Bool.and_false]
  · simp only [h1, decide_false, Bool.not_true, Bool.not_false, cnd_f, cnd_t, ob_s, Bool.true_and, Bool.false_and]
end Go.Pv
