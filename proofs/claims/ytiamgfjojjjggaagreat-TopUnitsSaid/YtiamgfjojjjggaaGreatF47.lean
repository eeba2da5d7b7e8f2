/- TopUnits: its states; receipts, sales, scrap. -/
import Derived.Test.YtiamgfjojjjggaaGreatE47
set_option linter.unusedSimpArgs false
set_option linter.unusedVariables false
namespace Go.Pv
open Go.Proofs
set_option maxRecDepth 100000
set_option maxHeartbeats 1000000
def mT : GMaster := ⟨1, 4, [1], [[1]], [[10]]⟩
def entU (l : List (Nat × Int)) (bal : List Int) (ro : GRoll) : GEnt := ⟨1, false, [⟨mkL l, ⟨0, 0, 0⟩⟩, ⟨[], ⟨0, 0, 0⟩⟩], bal, [ro], [-1], [0], []⟩
def bU (v g r s c x : Int) : List Int := [v, g, 0, r, s, c, 0, x, 0, 0, 0, 0, 0, 0, 0, 0, 0]
def roU (b c x : Int) : GRoll := ⟨0, b, 0, 0, 0, c, 0, 0, x, 0, 0⟩
def sU (e : GEnt) (rc : List GReceipt) (sl : List GSale) (dn : Int) : GState := ⟨mT, [e], rc, sl, [], dn⟩
def enU (l : List (Nat × Int)) (b r c x : Int) : GEnt := entU l (bU (su (flat l)) (-b) r (-r) c x) (roU b c x)
structure NmU (l : List (Nat × Int)) (b r c x : Int) : Prop where
  ok : POk l
  len : l.length ≤ 30
  hb : 0 ≤ b ∧ b ≤ 100000
  hr : 0 ≤ r ∧ r ≤ 100000
  hc : 0 ≤ c ∧ c ≤ 100000
  hx : 0 ≤ x ∧ x ≤ 100000
theorem atU (e : GEnt) (hp : e.Pools.length = 2) (hr : e.Rolls.length = 1) (rc : List GReceipt) (sl : List GSale) (dn : Int) : At (sU e rc sl dn) 0 0 e [1] [10] 1 10 := ⟨by decide, rfl, by simp [sU], by decide, by simp [sU, mT], by simp [sU, mT], rfl, rfl, by simp [sU, mT], by simp [sU, mT], rfl, rfl, by simp [sU, mT, hp], by simp [sU, mT, hr]⟩
variable {l : List (Nat × Int)} {b r c x : Int} {rc : List GReceipt} {sl : List GSale} {dn : Int} {n : Nat}
theorem ownU {p : GPool} (h : p.Layers.length ≤ 1000) : d_pool_own p = some p := by
  unfold d_pool_own; exact v_as (by omega) (v_bi rfl rfl)
theorem pinU (h : POk l) (hl : l.length < 30) {k : Nat} {p : Int} (hk : 1 ≤ k ∧ k ≤ 12) (hp : 0 ≤ p ∧ p ≤ 89) (hn : 100 < n) : d_pool_In n 1 10 ⟨mkL l, ⟨0, 0, 0⟩⟩ ⟨k, k * p, 0⟩ = some (⟨mkL (l ++ [(k, p)]), ⟨0, 0, 0⟩⟩, 0, 0) := by
  have h1 := finU h hl hk hp hn
  unfold d_pool_In
  refine v_bi (a := .inr ()) (v_T rfl (v_cT rfl)) ?_
  refine v_selrr ?_
  refine v_bi (v_bi h1 rfl) ?_
  refine v_p2 ?_
  exact v_F (show ¬ ((0 : Int) ≠ 0) by decide) (v_cF rfl)
theorem pinUF (hl : l.length = 30) {k : Nat} {p : Int} (hk : 1 ≤ k ∧ k ≤ 12) (hp : 0 ≤ p ∧ p ≤ 89) : d_pool_In n 1 10 ⟨mkL l, ⟨0, 0, 0⟩⟩ ⟨k, k * p, 0⟩ = some (⟨mkL l, ⟨0, 0, 0⟩⟩, 0, 6) := by
  have h1 := finUF hl hk hp (n := n)
  unfold d_pool_In
  refine v_bi (a := .inr ()) (v_T rfl (v_cT rfl)) ?_
  refine v_selrr ?_
  refine v_bi (v_bi h1 rfl) ?_
  refine v_p2 ?_
  exact v_T (show (6 : Int) ≠ 0 by decide) (v_cT (v_bi (ownU (by show (mkL l).length ≤ 1000; rw [mkL_len]; omega)) rfl))
theorem worthU {bal : List Int} {ro : GRoll} (h : POk l) (hl : l.length ≤ 30) : d_stock_worth (n + 200) (sU (entU l bal ro) rc sl dn) 0 0 = some (⟨(flat l).length, su (flat l), 0⟩, true) := by
  have hb := flat_b h hl
  have hA := atU (entU l bal ro) rfl rfl rc sl dn
  have t0 : ∀ n, d_fifo_Total (n + 120) [] = some (⟨0, 0, 0⟩, 0) := fun n => totL (fun x hx => by cases hx) (by simp) (by simp [sq]) (by simp [sv]) (n := n + 120) (by omega)
  have hw := worth_v (n := n + 70) hA (p := ⟨mkL l, ⟨0, 0, 0⟩⟩) (q := ⟨[], ⟨0, 0, 0⟩⟩) rfl rfl (by show (mkL l).length ≤ _; rw [mkL_len]; omega) (by simp) (fun n => totU h hl (by omega)) t0 (by dsimp only; omega) (by dsimp only; omega) (by dsimp only; decide)
  rw [hw]
  simp only [Int.zero_add, Int.add_zero]
theorem stdyU {bal : List Int} {ro : GRoll} (h : POk l) (hl : l.length ≤ 30) : d_stock_steady (n + 200) (sU (entU l bal ro) rc sl dn) 0 0 = some true := by
  have hA := atU (entU l bal ro) rfl rfl rc sl dn
  have hll : (mkL l).length ≤ 30 := by rw [mkL_len]; exact hl
  exact steady_v (n := n + 70) hA (p := ⟨mkL l, ⟨0, 0, 0⟩⟩) (q := ⟨[], ⟨0, 0, 0⟩⟩) rfl rfl (by dsimp only; omega) (by simp)
    (fun m => sL1 ⟨mkL l, ⟨0, 0, 0⟩⟩ (mkL_ok h) (by dsimp only; omega) _ 0 _ [] (Nat.zero_add _) (by dsimp only; omega) (by simp)) (fun m => sL1_0 rfl _) (fun m => by
      refine sumS (l := _) ?_ ?_ ?_ ?_
      · intro y hy
        simp only [List.drop_zero, List.nil_append] at hy
        exact zer y hy
      · simp only [List.drop_zero, List.nil_append, List.length_map]; omega
      · simp only [List.drop_zero, List.nil_append]
        rw [sm_z]; decide
      · simp only [List.drop_zero, List.nil_append, List.length_map]; omega)
theorem rcvU (h : NmU l b r c x) (hl : l.length < 30) (hrc : rc.length < 40) {k : Nat} {p : Int} (hk : 1 ≤ k ∧ k ≤ 12) (hp : 0 ≤ p ∧ p ≤ 89) :
    d_receive_Do (n + 200) (sU (enU l b r c x) rc sl dn) ⟨1, 0, 0, 0, 0, k, k * p, 0, []⟩ = some (sU (enU (l ++ [(k, p)]) (b + k * p) r c x) (rc ++ [⟨0, 0, 0, k, k * p, k, k * p, 0⟩]) sl dn, 0) := by
  have hbb := h.hb
  have hfb := flat_b h.ok h.len
  have hpb := prodB (n := (k : Int)) (p := p) (by omega) hp
  have hA := atU (enU l b r c x) rfl rfl rc sl dn
  have hok := h.ok.app hk hp
  have hpi := pinU h.ok hl hk hp (n := n + 200) (by omega)
  have hl1 : (l ++ [(k, p)]).length ≤ 30 := by simp; omega
  have hw := worthU (bal := bU (su (flat l)) (-b) r (-r) c x) (ro := roU b c x) (rc := rc) (sl := sl) (dn := dn) (n := n) hok hl1
  have hst := stdyU (bal := bU (su (flat l)) (-b) r (-r) c x) (ro := roU b c x) (rc := rc) (sl := sl) (dn := dn) (n := n) hok hl1
  have hsf : su (flat (l ++ [(k, p)])) = su (flat l) + k * p := by rw [flat_app, su_app]; show _ + su (List.replicate k p ++ []) = _; rw [List.append_nil, su_rep]
  generalize hv1 : (k : Int) * p = v1 at *
  have hbr := bring_v (n := n + 70) hA (k := 0) (l := ⟨k, v1, 0⟩) (p := ⟨mkL l, ⟨0, 0, 0⟩⟩) (by omega) rfl hpi (by dsimp only; omega) hw hst
  have hsub : v1 - 0 = v1 := by omega
  have hpo : d_stock_Post (n + 200) (sU (entU (l ++ [(k, p)]) (bU (su (flat l)) (-b) r (-r) c x) (roU b c x)) rc sl dn) 0 [⟨0, v1 - 0⟩, ⟨6, 0⟩, ⟨1, 0 - v1⟩] =
      some (sU (entU (l ++ [(k, p)]) (bU (su (flat l) + v1) (-b + (0 - v1)) r (-r) c x) (roU b c x)) rc sl dn, 0) := by
    rw [hsub]
    by_cases h0 : v1 = 0
    · refine (post_v (x := entU (l ++ [(k, p)]) (bU (su (flat l)) (-b) r (-r) c x) (roU b c x)) (by decide) rfl (by simp [sU]) (plB (n := n + 188) (by omega) (by omega) (by omega) h0 rfl (by omega)) (glB (n := n + 186) rfl)).trans ?_
      rw [h0, Int.add_zero, show -b + (0 - 0) = -b by omega]; rfl
    · exact post_v (x := entU (l ++ [(k, p)]) (bU (su (flat l)) (-b) r (-r) c x) (roU b c x)) (by decide) rfl (by simp [sU]) (plA (n := n + 188) (by omega) (by omega) (by omega) h0 rfl (by omega)) (glA (n := n + 186) rfl rfl (by omega) rfl (by omega) h0 (by omega) (by omega))
  have hA2 := atU (entU (l ++ [(k, p)]) (bU (su (flat l) + v1) (-b + (0 - v1)) r (-r) c x) (roU b c x)) rfl rfl rc sl dn
  have hc := h.hc; have hx := h.hx
  have htu := turn_v hA2 (r1 := 0) (r2 := b) (r3 := 0) (r4 := 0) (r5 := 0) (r6 := c) (r7 := 0) (r8 := 0) (r9 := x) (r10 := 0) (r11 := 0) (q1 := 0) (q2 := v1 - 0) (q3 := 0) (q4 := 0) (q5 := 0) (q6 := 0) (q7 := 0) (q8 := 0) (q9 := 0) (q10 := 0) (q11 := 0) rfl (by omega) (by omega) (by omega) (by omega) (by omega) (by omega) (by omega) (by omega) (by omega) (by omega) (by omega)
  refine (receive_v (ready_v hA rfl) hrc hbr (by omega) hpo htu (by show rc.length ≤ 1000; omega)).trans ?_
  rw [hsub]
  unfold enU
  rw [hsf, show -b + (0 - v1) = -(b + v1) by omega, Int.add_zero c, Int.add_zero x]
  rfl
theorem rcvUF (h : NmU l b r c x) (hf : ¬ (l.length < 30 ∧ rc.length < 40)) (hrl : rc.length ≤ 40) {k : Nat} {p : Int} (hk : 1 ≤ k ∧ k ≤ 12) (hp : 0 ≤ p ∧ p ≤ 89) :
    d_receive_Do (n + 200) (sU (enU l b r c x) rc sl dn) ⟨1, 0, 0, 0, 0, k, k * p, 0, []⟩ = some (sU (enU l b r c x) rc sl dn, 6) := by
  have hA := atU (enU l b r c x) rfl rfl rc sl dn
  have hrd := ready_v hA rfl
  have hlen := h.len
  unfold d_receive_Do
  refine v_F (show ¬ ((1 : Int) ≠ 1) by decide) (v_as rfl ?_)
  refine v_bi (a := (sU (enU l b r c x) rc sl dn, 6)) ?_ (v_p2 (v_T (show (6 : Int) ≠ 0 by decide) (v_cT rfl)))
  refine v_bi (a := 0) (v_bi hrd rfl) ?_
  refine v_F (show ¬ ((0 : Int) ≠ 0) by decide) (v_cF ?_)
  by_cases h40 : rc.length < 40
  · refine v_bi (a := 0) (v_F (by show ¬ ((rc.length : Int) ≥ 40); omega) (v_cF rfl)) ?_
    refine v_F (show ¬ ((0 : Int) ≠ 0) by decide) (v_cF ?_)
    have hpf := pinUF (l := l) (n := n + 200) (by omega) hk hp
    have hbr : d_stock_Bring (n + 200) (sU (enU l b r c x) rc sl dn) 0 0 0 ⟨k, k * p, 0⟩ = some (sU (enU l b r c x) rc sl dn, 0, 0, 6) := by
      unfold d_stock_Bring
      exact v_bi (place_s hA (k := 0) (by omega)) (v_F (by omega) (v_as rfl (v_ix (by omega) rfl (v_ix (by omega) rfl (v_ix (by omega) rfl (v_ix (by omega) rfl (v_ix (by omega) rfl (v_ix (by omega) rfl (v_bi hpf (v_T (show (6 : Int) ≠ 0 by decide) (v_cT rfl)))))))))))
    refine v_bi (v_bi hbr rfl) (v_p2 (v_p2 (v_p2 (v_T (show (6 : Int) ≠ 0 by decide) (v_cT rfl)))))
  · refine v_bi (a := 6) (v_T (by show (rc.length : Int) ≥ 40; omega) (v_cT rfl)) ?_
    exact v_T (show (6 : Int) ≠ 0 by decide) (v_cT rfl)
theorem poutT (h : POk l) (hl : l.length ≤ 30) {q : Nat} (hq : 1 ≤ q ∧ q ≤ 1000) (hf : q ≤ (flat l).length) {kd : Int} (hkd : kd = 0 ∨ kd = 1) (hn : 100 < n) : d_pool_Out n 1 10 ⟨mkL l, ⟨0, 0, 0⟩⟩ kd q = some (⟨mkL (cut l q), ⟨0, 0, 0⟩⟩, ⟨q, su ((flat l).take q), 0⟩, false, 0) := by
  have h1 := outT h hl hq hf hn
  unfold d_pool_Out
  refine v_bi (a := .inr ()) (v_T rfl (v_cT rfl)) ?_
  refine v_selrr ?_
  refine v_bi (a := false) (v_F (by omega) (v_cF (v_F (by omega) rfl))) ?_
  refine v_as rfl ?_
  refine v_bi rfl ?_
  refine v_bi (v_bi h1 rfl) ?_
  refine v_p2 (v_p2 ?_)
  exact v_F (show ¬ ((0 : Int) ≠ 0) by decide) (v_cF rfl)
theorem poutF (h : POk l) (hl : l.length ≤ 30) {q : Nat} (hq : 1 ≤ q ∧ q ≤ 1000) (hf : ¬ q ≤ (flat l).length) {kd : Int} (hkd : kd = 0 ∨ kd = 1) (hn : 100 < n) : d_pool_Out n 1 10 ⟨mkL l, ⟨0, 0, 0⟩⟩ kd q = some (⟨mkL l, ⟨0, 0, 0⟩⟩, ⟨0, 0, 0⟩, false, 5) := by
  have h1 := outF h hl hq hf hn
  unfold d_pool_Out
  refine v_bi (a := .inr ()) (v_T rfl (v_cT rfl)) ?_
  refine v_selrr ?_
  refine v_bi (a := false) (v_F (by omega) (v_cF (v_F (by omega) rfl))) ?_
  refine v_as rfl ?_
  refine v_bi rfl ?_
  refine v_bi (v_bi h1 rfl) ?_
  refine v_p2 (v_p2 ?_)
  exact v_T (show (5 : Int) ≠ 0 by decide) (v_cT (v_bi (ownU (by show (mkL l).length ≤ 1000; rw [mkL_len]; omega)) rfl))
theorem fetchT {bal : List Int} {ro : GRoll} (h : POk l) (hl : l.length ≤ 30) {q : Nat} (hq : 1 ≤ q ∧ q ≤ 1000) (hf : q ≤ (flat l).length) {kd : Int} (hkd : kd = 0 ∨ kd = 1) :
    d_stock_Fetch (n + 200) (sU (entU l bal ro) rc sl dn) 0 0 0 kd q = some (sU (entU (cut l q) bal ro) rc sl dn, ⟨q, su ((flat l).take q), 0⟩, false, 0) := by
  have hA := atU (entU l bal ro) rfl rfl rc sl dn
  have ho := poutT h hl hq hf hkd (n := n + 200) (by omega)
  unfold d_stock_Fetch
  refine v_bi (place_s hA (k := 0) (by omega)) (v_F (by omega) (v_as rfl (v_ix (by omega) rfl (v_ix (by omega) rfl (v_ix (by omega) rfl (v_ix (by omega) rfl (v_ix (by omega) rfl (v_ix (by omega) rfl (v_bi ho (v_bnd (v_F (show ¬ ((0 : Int) ≠ 0) by decide) (v_cF ?_))))))))))))
  refine v_bi (a := (1, false, bal, [ro], [-1], [0], [], [⟨mkL (cut l q), ⟨0, 0, 0⟩⟩, ⟨[], ⟨0, 0, 0⟩⟩])) ?_ ?_
  · exact v_bi (a := ()) (v_as (by simp [sU]) (v_ix (by omega) rfl rfl)) (v_ix (by omega) rfl (v_as (by simp [entU]) (v_ix (by omega) rfl (v_bnd rfl))))
  · exact v_p2 (v_p2 (v_p2 (v_p2 (v_p2 (v_p2 (v_p2 (v_ix (by omega) rfl rfl)))))))
theorem fetchF {bal : List Int} {ro : GRoll} (h : POk l) (hl : l.length ≤ 30) {q : Nat} (hq : 1 ≤ q ∧ q ≤ 1000) (hf : ¬ q ≤ (flat l).length) {kd : Int} (hkd : kd = 0 ∨ kd = 1) :
    d_stock_Fetch (n + 200) (sU (entU l bal ro) rc sl dn) 0 0 0 kd q = some (sU (entU l bal ro) rc sl dn, ⟨0, 0, 0⟩, false, 5) := by
  have hA := atU (entU l bal ro) rfl rfl rc sl dn
  have ho := poutF h hl hq hf hkd (n := n + 200) (by omega)
  unfold d_stock_Fetch
  exact v_bi (place_s hA (k := 0) (by omega)) (v_F (by omega) (v_as rfl (v_ix (by omega) rfl (v_ix (by omega) rfl (v_ix (by omega) rfl (v_ix (by omega) rfl (v_ix (by omega) rfl (v_ix (by omega) rfl (v_bi ho (v_bnd (v_T (show (5 : Int) ≠ 0 by decide) (v_cT rfl))))))))))))
theorem sellT (h : NmU l b r c x) {q : Nat} (hq : 1 ≤ q ∧ q ≤ 12) (hf : q ≤ (flat l).length) (hs : sl.length < 40) : ∃ z,
    d_sell_sell (n + 200) (sU (enU l b r c x) rc sl dn) ⟨4, 0, 0, 0, 0, q, 1, 0, []⟩ = some (sU (enU (cut l q) b (r + 1) (c + su ((flat l).take q)) x) rc (sl ++ [z]) dn, 0) := by
  have hbb := h.hb; have hc := h.hc; have hx := h.hx; have hr := h.hr
  have hfb := flat_b h.ok h.len
  have f1 := fetchT (bal := bU (su (flat l)) (-b) r (-r) c x) (ro := roU b c x) (rc := rc) (sl := sl) (dn := dn) (n := n) h.ok h.len (q := q) (by omega) hf (kd := 0) (.inl rfl)
  have ht := su_take (flat_in h.ok) q
  have hsd : su (flat (cut l q)) = su (flat l) + (0 - su ((flat l).take q)) := by rw [flat_cut]; omega
  generalize su ((flat l).take q) = w at *
  have f2 : d_stock_Post (n + 200) (sU (entU (cut l q) (bU (su (flat l)) (-b) r (-r) c x) (roU b c x)) rc sl dn) 0 [⟨3, 1⟩, ⟨4, 0 - 1⟩, ⟨5, w⟩, ⟨0, 0 - w⟩] = some (sU (entU (cut l q) (bU (su (flat l) + (0 - w)) (-b) (r + 1) (-r + -1) (c + w) x) (roU b c x)) rc sl dn, 0) := by
    by_cases h0 : w = 0
    · subst h0
      refine (post_v (x := entU (cut l q) (bU (su (flat l)) (-b) r (-r) c x) (roU b c x)) (by decide) rfl (by simp [sU]) (plV (n := n + 188)) (glV (n := n + 186) rfl rfl (by omega) rfl (by omega))).trans ?_
      rw [Int.add_zero c, show su (flat l) + (0 - 0) = su (flat l) by omega]; rfl
    · exact post_v (x := entU (cut l q) (bU (su (flat l)) (-b) r (-r) c x) (roU b c x)) (by decide) rfl (by simp [sU]) (plT (n := n + 188) (c := w) (d := 0 - w) (by omega) (by omega) (by omega) (by omega)) (glT (n := n + 186) rfl rfl (by omega) rfl (by omega) rfl (by omega) rfl (by omega) (by omega) (by omega) (by omega) (by omega))
  have hA2 := atU (entU (cut l q) (bU (su (flat l) + (0 - w)) (-b) (r + 1) (-r + -1) (c + w) x) (roU b c x)) rfl rfl rc sl dn
  have f3 := turn_v hA2 (r1 := 0) (r2 := b) (r3 := 0) (r4 := 0) (r5 := 0) (r6 := c) (r7 := 0) (r8 := 0) (r9 := x) (r10 := 0) (r11 := 0) (q1 := 0) (q2 := 0) (q3 := 0) (q4 := 0) (q5 := 0) (q6 := w) (q7 := 0) (q8 := 0) (q9 := 0) (q10 := 0) (q11 := 0) rfl (by omega) (by omega) (by omega) (by omega) (by omega) (by omega) (by omega) (by omega) (by omega) (by omega) (by omega)
  refine ⟨⟨0, 0, 0, q, 0, w, 0, 1, false⟩, ?_⟩
  unfold d_sell_sell
  refine v_F (by show ¬ ((sl.length : Int) ≥ 40); omega) (v_cF (v_bi f1 (v_F (show ¬ ((0 : Int) ≠ 0) by decide) (v_cF (v_bi rfl (v_w (by dsimp only; omega) (v_bi rfl (v_bi rfl (v_w (by dsimp only; omega) (v_bi rfl ?_))))))))))
  refine v_bi f2 (v_F (show ¬ ((0 : Int) ≠ 0) by decide) (v_as rfl (v_bi f3 (v_F (show ¬ ((0 : Int) ≠ 0) by decide) (v_as rfl (v_ix (show (0 : Int) ≤ 0 by decide) rfl (v_bnd (v_as ?_ (v_bnd (v_as ?_ ?_))))))))))
  · show sl.length ≤ _; omega
  · show (sl ++ [_]).length ≤ _; rw [List.length_append, List.length_singleton]; omega
  · unfold enU
    rw [hsd, show -(r + 1) = -r + -1 by omega]
    show some (sU (entU (cut l q) _ ⟨0 + 0, b + 0, 0 + 0, 0 + 0, 0 + 0, c + w, 0 + 0, 0 + 0, x + 0, 0 + 0, 0 + 0⟩) _ _ _, 0) = _
    rw [Int.add_zero b, Int.add_zero x]
    rfl
theorem sellF (h : NmU l b r c x) {q : Nat} (hq : 1 ≤ q ∧ q ≤ 12) (hf : ¬ q ≤ (flat l).length) (hs : sl.length < 40) :
    d_sell_sell (n + 200) (sU (enU l b r c x) rc sl dn) ⟨4, 0, 0, 0, 0, q, 1, 0, []⟩ = some (sU (enU l b r c x) rc sl dn, 5) := by
  have f1 := fetchF (bal := bU (su (flat l)) (-b) r (-r) c x) (ro := roU b c x) (rc := rc) (sl := sl) (dn := dn) (n := n) h.ok h.len (q := q) (by omega) hf (kd := 0) (.inl rfl)
  unfold d_sell_sell
  exact v_F (by show ¬ ((sl.length : Int) ≥ 40); omega) (v_cF (v_bi f1 (v_T (show (5 : Int) ≠ 0 by decide) (v_cT rfl))))
theorem sell40 {s : GState} (hs : s.Sales.length = 40) {o : GOp} : d_sell_sell n s o = some (s, 6) := by
  unfold d_sell_sell
  exact v_T (by omega) (v_cT rfl)
theorem scrT (h : NmU l b r c x) {q : Nat} (hq : 1 ≤ q ∧ q ≤ 12) (hf : q ≤ (flat l).length) :
    d_adjust_scrap (n + 200) (sU (enU l b r c x) rc sl dn) ⟨6, 0, 0, 0, 0, q, 0, 0, []⟩ = some (sU (enU (cut l q) b r c (x + su ((flat l).take q))) rc sl dn, 0) := by
  have hbb := h.hb; have hc := h.hc; have hx := h.hx; have hr := h.hr
  have hfb := flat_b h.ok h.len
  have f1 := fetchT (bal := bU (su (flat l)) (-b) r (-r) c x) (ro := roU b c x) (rc := rc) (sl := sl) (dn := dn) (n := n) h.ok h.len (q := q) (by omega) hf (kd := 1) (.inr rfl)
  have ht := su_take (flat_in h.ok) q
  have hsd : su (flat (cut l q)) = su (flat l) + (0 - su ((flat l).take q)) := by rw [flat_cut]; omega
  generalize su ((flat l).take q) = w at *
  have f2 : d_stock_Post (n + 200) (sU (entU (cut l q) (bU (su (flat l)) (-b) r (-r) c x) (roU b c x)) rc sl dn) 0 [⟨7, w⟩, ⟨0, 0 - w⟩] = some (sU (entU (cut l q) (bU (su (flat l) + (0 - w)) (-b) r (-r) c (x + w)) (roU b c x)) rc sl dn, 0) := by
    by_cases h0 : w = 0
    · subst h0
      refine (post_v (x := entU (cut l q) (bU (su (flat l)) (-b) r (-r) c x) (roU b c x)) (by decide) rfl (by simp [sU]) (plX0 (n := n + 188)) (glB (n := n + 186) rfl)).trans ?_
      rw [Int.add_zero x, show su (flat l) + (0 - 0) = su (flat l) by omega]; rfl
    · exact post_v (x := entU (cut l q) (bU (su (flat l)) (-b) r (-r) c x) (roU b c x)) (by decide) rfl (by simp [sU]) (plX (n := n + 188) (c := w) (d := 0 - w) (by omega) (by omega) (by omega) (by omega)) (glX (n := n + 186) rfl rfl (by omega) rfl (by omega) (by omega) (by omega) (by omega))
  have hA2 := atU (entU (cut l q) (bU (su (flat l) + (0 - w)) (-b) r (-r) c (x + w)) (roU b c x)) rfl rfl rc sl dn
  have f3 := turn_v hA2 (r1 := 0) (r2 := b) (r3 := 0) (r4 := 0) (r5 := 0) (r6 := c) (r7 := 0) (r8 := 0) (r9 := x) (r10 := 0) (r11 := 0) (q1 := 0) (q2 := 0) (q3 := 0) (q4 := 0) (q5 := 0) (q6 := 0) (q7 := 0) (q8 := 0) (q9 := w) (q10 := 0) (q11 := 0) rfl (by omega) (by omega) (by omega) (by omega) (by omega) (by omega) (by omega) (by omega) (by omega) (by omega) (by omega)
  unfold d_adjust_scrap
  refine v_bi f1 (v_F (show ¬ ((0 : Int) ≠ 0) by decide) (v_cF (v_bi rfl (v_w (by dsimp only; omega) (v_bi rfl ?_)))))
  refine v_bi (a := (sU (enU (cut l q) b r c (x + w)) rc sl dn, 0)) ?_ rfl
  unfold d_adjust_write
  refine v_bi f2 (v_F (show ¬ ((0 : Int) ≠ 0) by decide) (v_as rfl (v_bi f3 ?_)))
  unfold enU
  rw [hsd]
  show some (sU (entU (cut l q) _ ⟨0 + 0, b + 0, 0 + 0, 0 + 0, 0 + 0, c + 0, 0 + 0, 0 + 0, x + w, 0 + 0, 0 + 0⟩) _ _ _, 0) = _
  rw [Int.add_zero b, Int.add_zero c]
  rfl
theorem scrF (h : NmU l b r c x) {q : Nat} (hq : 1 ≤ q ∧ q ≤ 12) (hf : ¬ q ≤ (flat l).length) :
    d_adjust_scrap (n + 200) (sU (enU l b r c x) rc sl dn) ⟨6, 0, 0, 0, 0, q, 0, 0, []⟩ = some (sU (enU l b r c x) rc sl dn, 5) := by
  have f1 := fetchF (bal := bU (su (flat l)) (-b) r (-r) c x) (ro := roU b c x) (rc := rc) (sl := sl) (dn := dn) (n := n) h.ok h.len (q := q) (by omega) hf (kd := 1) (.inr rfl)
  unfold d_adjust_scrap
  exact v_bi f1 (v_T (show (5 : Int) ≠ 0 by decide) (v_cT rfl))
end Go.Pv
