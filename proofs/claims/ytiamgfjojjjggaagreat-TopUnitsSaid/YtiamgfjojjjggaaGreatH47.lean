/- TopUnits: its rounds; the law. -/
import Derived.Test.YtiamgfjojjjggaaGreatG47
set_option linter.unusedSimpArgs false
set_option linter.unusedVariables false
namespace Go.Pv
open Go.Proofs
set_option maxRecDepth 100000
set_option maxHeartbeats 1000000
theorem plc47 {v n : Int} (hn : 0 < n ∧ n ≤ 4611686018427387904) : ∃ r, d_law00_Place v n = some r ∧ 0 ≤ r ∧ r < n := by
  have h2 : (v.tmod n) < n ∧ -n < v.tmod n := by
    have := Int.tmod_lt_of_pos v hn.1
    have h3 := Int.lt_tmod_of_pos v hn.1
    omega
  unfold d_law00_Place
  by_cases h0 : v.tmod n < 0
  · exact ⟨v.tmod n + n, v_as (by omega) (v_bnd (v_T h0 (v_bi (v_cT (v_w (by omega) rfl)) rfl))), by omega, by omega⟩
  · exact ⟨v.tmod n, v_as (by omega) (v_bnd (v_F h0 (v_bi (v_cF rfl) rfl))), by omega, by omega⟩
theorem v_biE {α β : Type} {x : Option α} {f : α → Option β} {r : Option β} (Q : α → Prop) (h : ∃ a, x = some a ∧ Q a) (k : ∀ a, Q a → f a = r) : x.bind f = r := by
  obtain ⟨a, h1, h2⟩ := h
  rw [h1]; exact k a h2
structure IvU (i : Nat) (l : List (Nat × Int)) (b r c x : Int) (rc : List GReceipt) (sl : List GSale) (dn : Int) : Prop where
  ok : POk l
  len : l.length ≤ 30
  hb : 0 ≤ b ∧ b ≤ 1068 * i
  hr : 0 ≤ r ∧ r ≤ i
  hc : 0 ≤ c
  hx : 0 ≤ x
  hs : c + x + su (flat l) = b
  hrc : rc.length ≤ 40
  hsl : sl.length ≤ 40
  hd : 0 ≤ dn ∧ dn ≤ i
theorem IvU.nm {i : Nat} {l : List (Nat × Int)} {b r c x : Int} {rc : List GReceipt} {sl : List GSale} {dn : Int} (h : IvU i l b r c x rc sl dn) (hi : i ≤ 60) : NmU l b r c x := by
  have hf := flat_b h.ok h.len
  have := h.hb; have := h.hr; have := h.hc; have := h.hx; have := h.hs
  exact ⟨h.ok, h.len, by omega, by omega, by omega, by omega⟩
theorem IvU.mono {i : Nat} {l : List (Nat × Int)} {b r c x : Int} {rc : List GReceipt} {sl : List GSale} {dn : Int} (h : IvU i l b r c x rc sl dn) : IvU (i + 1) l b r c x rc sl dn := by
  have := h.hb; have := h.hr; have := h.hd
  exact ⟨h.ok, h.len, by omega, by omega, h.hc, h.hx, h.hs, h.hrc, h.hsl, by omega⟩
def PU (i : Nat) (a : Int × Int × GState × List Int) : Prop := ∃ l b r rc sl dn, IvU i l b r a.1 a.2.1 rc sl dn ∧ a.2.2.1 = sU (enU l b r a.1 a.2.1) rc sl dn ∧ a.2.2.2 = flat l
theorem mod4 {k : Int} (h : 0 ≤ k) : k.tmod 4 = 0 ∨ k.tmod 4 = 1 ∨ k.tmod 4 = 2 ∨ k.tmod 4 = 3 := by
  have h1 := Int.tmod_nonneg 4 h
  have h2 := Int.tmod_lt_of_pos k (show (0 : Int) < 4 by decide)
  omega
theorem rdyU {l : List (Nat × Int)} {b r c x : Int} {rc : List GReceipt} {sl : List GSale} {dn : Int} : d_stock_Ready (sU (enU l b r c x) rc sl dn) 0 0 = some 0 :=
  ready_v (atU (enU l b r c x) rfl rfl rc sl dn) rfl
theorem roundsU (a1 : List Int) : ∀ (d i n : Nat) (l : List (Nat × Int)) (b r c x : Int) (rc : List GReceipt) (sl : List GSale) (dn : Int), i + d = 60 → d < n → IvU i l b r c x rc sl dn →
    d_top_TopUnits_L0 a1 (n + 700) c x i (sU (enU l b r c x) rc sl dn) (flat l) = some () := by
  intro d
  induction d with
  | zero =>
    intro i n l b r c x rc sl dn hi hn hI
    obtain ⟨n, rfl⟩ : ∃ m, n = m + 1 := ⟨n - 1, by omega⟩
    rw [show n + 1 + 700 = (n + 700) + 1 by omega, d_top_TopUnits_L0]
    refine v_bi (a := false) ?_ (v_cF rfl)
    by_cases h : (i : Int) < a1.length
    · exact v_T h (v_cT (v_F (by omega) rfl))
    · exact v_F h (v_cF rfl)
  | succ d ih =>
    intro i n l b r c x rc sl dn hi hn hI
    obtain ⟨n, rfl⟩ : ∃ m, n = m + 1 := ⟨n - 1, by omega⟩
    rw [show n + 1 + 700 = (n + 700) + 1 by omega, d_top_TopUnits_L0]
    by_cases h : (i : Int) < a1.length
    · have hlt : i < a1.length := by omega
      refine v_bi (a := true) (v_T h (v_cT (v_T (by omega) rfl))) (v_cT ?_)
      refine v_biE (PU (i + 1)) ?_ ?_
      · obtain ⟨k, hk, k0, k1⟩ := plc47 (v := a1[i]) (n := 1048576) (by decide)
        have hfb := flat_b hI.ok hI.len
        have hN := hI.nm (by omega)
        have hix : a1[((i : Nat) : Int).toNat]? = some a1[i] := by rw [Int.toNat_natCast]; exact List.getElem?_eq_getElem hlt
        have e4 : 0 ≤ k.tdiv 4 ∧ k.tdiv 4 ≤ 1048576 := by rw [Int.tdiv_eq_ediv_of_nonneg k0]; omega
        have e48 : 0 ≤ k.tdiv 48 ∧ k.tdiv 48 ≤ 1048576 := by rw [Int.tdiv_eq_ediv_of_nonneg k0]; omega
        have m12 : 0 ≤ (k.tdiv 4).tmod 12 ∧ (k.tdiv 4).tmod 12 ≤ 11 := by have := Int.tmod_nonneg 12 e4.1; have := Int.tmod_lt_of_pos (k.tdiv 4) (show (0 : Int) < 12 by decide); omega
        have m90 : 0 ≤ (k.tdiv 48).tmod 90 ∧ (k.tdiv 48).tmod 90 ≤ 89 := by have := Int.tmod_nonneg 90 e48.1; have := Int.tmod_lt_of_pos (k.tdiv 48) (show (0 : Int) < 90 by decide); omega
        obtain ⟨q, hq⟩ : ∃ q : Nat, 1 + (k.tdiv 4).tmod 12 = (q : Int) := ⟨(1 + (k.tdiv 4).tmod 12).toNat, by omega⟩
        obtain ⟨p, hp⟩ : ∃ p : Int, (k.tdiv 48).tmod 90 = p := ⟨_, rfl⟩
        have q12 : 1 ≤ q ∧ q ≤ 12 := by omega
        have p89 : 0 ≤ p ∧ p ≤ 89 := by omega
        have hpb := prodB (n := (q : Int)) (p := p) (by omega) p89
        have hIm := hI.mono
        have hok := hI.ok; have hlen := hI.len
        have hsb := hI.hb; have hsr := hI.hr; have hsc := hI.hc; have hsx := hI.hx; have hss := hI.hs; have hrc := hI.hrc; have hsl := hI.hsl; have hdn := hI.hd
        have W : ∀ {a : Int × Int × GState × List Int} {F : Int → Option (Int × Int × GState × List Int)}, F k = some a → ((ix a1 (i : Int)).bind fun x11 => (d_law00_Place x11 1048576).bind F) = some a := fun h => v_ix (by omega) hix (v_bi hk h)
        have Rc : d_close_Step (n + 700) (sU (enU l b r c x) rc sl dn) ⟨1, 0, 0, 0, 0, q, q * p, 0, []⟩ = some (if l.length < 30 ∧ rc.length < 40 then sU (enU (l ++ [(q, p)]) (b + q * p) r c x) (rc ++ [⟨0, 0, 0, q, q * p, q, q * p, 0⟩]) sl (dn + 1) else sU (enU l b r c x) rc sl dn, if l.length < 30 ∧ rc.length < 40 then 0 else 6) := by
          by_cases hf : l.length < 30 ∧ rc.length < 40
          · have h1 := appR (n := n + 700) (by omega) (by omega) (by show 0 ≤ dn ∧ dn ≤ 1000; omega) (rcvU hN hf.1 hf.2 q12 p89 (n := n + 500) (rc := rc) (sl := sl) (dn := dn))
            rw [if_pos hf, if_pos hf, h1]; rfl
          · have h1 := appR (n := n + 700) (by omega) (by omega) (by show 0 ≤ dn ∧ dn ≤ 1000; omega) (rcvUF hN hf hrc q12 p89 (n := n + 500) (rc := rc) (sl := sl) (dn := dn))
            rw [if_neg hf, if_neg hf, h1]; rfl
        have rcv : ∀ a, (a = if l.length < 30 ∧ rc.length < 40 then (c, x, sU (enU (l ++ [(q, p)]) (b + q * p) r c x) (rc ++ [⟨0, 0, 0, q, q * p, q, q * p, 0⟩]) sl (dn + 1), flat l ++ List.replicate q p) else (c, x, sU (enU l b r c x) rc sl dn, flat l)) → PU (i + 1) a := by
          rintro a rfl
          split
          · rename_i hf
            refine ⟨l ++ [(q, p)], b + q * p, r, rc ++ [⟨0, 0, 0, q, q * p, q, q * p, 0⟩], sl, dn + 1, ⟨hok.app q12 p89, (by simp; omega), (by show 0 ≤ b + q * p ∧ b + q * p ≤ 1068 * ((i + 1 : Nat) : Int); omega), (by omega), hsc, hsx, ?_, (by simp; omega), hsl, (by omega)⟩, rfl, ?_⟩
            · show c + x + su (flat (l ++ [(q, p)])) = b + q * p
              rw [flat_app, su_app]; show _ + (_ + su (List.replicate q p ++ [])) = _; rw [List.append_nil, su_rep]; omega
            · rw [flat_app]; show _ = _ ++ (List.replicate q p ++ []); rw [List.append_nil]
          · exact ⟨l, b, r, rc, sl, dn, hIm, rfl, rfl⟩
        rcases mod4 k0 with hs | hs | hs | hs
        · refine ⟨_, W (v_w (by omega) (v_bnd (v_w (by omega) (v_w (by omega) (v_bnd ?_))))), rcv _ rfl⟩
          rw [hq, hp]
          refine v_w (by omega) (v_w (by omega) (v_bnd ?_))
          rw [hs]
          refine v_ix (by decide) rfl (v_bi Rc (v_bnd (v_T (by decide) ?_)))
          by_cases hf : l.length < 30 ∧ rc.length < 40
          · rw [if_pos hf, if_pos hf, if_pos hf]
            have h2 := l2V q p q12.2 q 0 (n + 700) (flat l) (by omega) (by omega) (by omega)
            refine v_bi (a := .inl (c, x, flat l ++ List.replicate q p)) (v_cT (v_F (show ¬ ((0 : Int) ≠ 0) by decide) (v_cF (v_bi h2 rfl)))) ?_
            refine v_selb (v_p2 (v_p2 ?_))
            have hN2 : NmU (l ++ [(q, p)]) (b + q * p) r c x := ⟨hok.app q12 p89, (by simp; omega), (by omega), hN.hr, hN.hc, hN.hx⟩
            have hfl : flat l ++ List.replicate q p = flat (l ++ [(q, p)]) := by rw [flat_app]; show _ = _ ++ (List.replicate q p ++ []); rw [List.append_nil]
            rw [hfl]
            exact lookU hN2
          · rw [if_neg hf, if_neg hf, if_neg hf]
            refine v_bi (a := .inr (c, x, sU (enU l b r c x) rc sl dn, flat l)) (v_cT (v_T (show (6 : Int) ≠ 0 by decide) (v_cT (v_F (show ¬ ((6 : Int) ≠ 6) by decide) (v_as rfl rfl))))) ?_
            exact v_sele rfl
        · refine ⟨_, W (v_w (by omega) (v_bnd (v_w (by omega) (v_w (by omega) (v_bnd ?_))))), rcv _ rfl⟩
          rw [hq, hp]
          refine v_w (by omega) (v_w (by omega) (v_bnd ?_))
          rw [hs]
          refine v_ix (by decide) rfl (v_bi Rc (v_bnd (v_T (by decide) ?_)))
          by_cases hf : l.length < 30 ∧ rc.length < 40
          · rw [if_pos hf, if_pos hf, if_pos hf]
            have h2 := l2V q p q12.2 q 0 (n + 700) (flat l) (by omega) (by omega) (by omega)
            refine v_bi (a := .inl (c, x, flat l ++ List.replicate q p)) (v_cT (v_F (show ¬ ((0 : Int) ≠ 0) by decide) (v_cF (v_bi h2 rfl)))) ?_
            refine v_selb (v_p2 (v_p2 ?_))
            have hN2 : NmU (l ++ [(q, p)]) (b + q * p) r c x := ⟨hok.app q12 p89, (by simp; omega), (by omega), hN.hr, hN.hc, hN.hx⟩
            have hfl : flat l ++ List.replicate q p = flat (l ++ [(q, p)]) := by rw [flat_app]; show _ = _ ++ (List.replicate q p ++ []); rw [List.append_nil]
            rw [hfl]
            exact lookU hN2
          · rw [if_neg hf, if_neg hf, if_neg hf]
            refine v_bi (a := .inr (c, x, sU (enU l b r c x) rc sl dn, flat l)) (v_cT (v_T (show (6 : Int) ≠ 0 by decide) (v_cT (v_F (show ¬ ((6 : Int) ≠ 6) by decide) (v_as rfl rfl))))) ?_
            exact v_sele rfl
        · by_cases hf : q ≤ (flat l).length
          · by_cases h40 : sl.length < 40
            · obtain ⟨z, hz⟩ := sellT hN q12 hf h40 (n := n + 500) (rc := rc) (dn := dn)
              have ht := su_take (flat_in hok) q
              have hst := appS (n := n + 700) (by omega) (by show 0 ≤ dn ∧ dn ≤ 1000; omega) rdyU hz
              have h1 := l1S (flat l) (flat_in hok) k q hf q12.2 hs q 0 (n + 700) c x (by omega) (by omega) (by rw [List.drop_zero]; omega)
              rw [List.drop_zero] at h1
              have hIn : IvU (i + 1) (cut l q) b (r + 1) (c + su ((flat l).take q)) x rc (sl ++ [z]) (dn + 1) :=
                ⟨cut_ok hok, Nat.le_trans cutL_len hlen, by omega, by omega, by omega, hsx, by rw [flat_cut]; omega, hrc, by simp; omega, by omega⟩
              refine ⟨(c + su ((flat l).take q), x, sU (enU (cut l q) b (r + 1) (c + su ((flat l).take q)) x) rc (sl ++ [z]) (dn + 1), flat (cut l q)), W (v_w (by omega) (v_bnd (v_w (by omega) (v_w (by omega) (v_bnd ?_))))), ⟨_, _, _, _, _, _, hIn, rfl, rfl⟩⟩
              rw [hq, hp]
              refine v_w (by omega) (v_w (by omega) (v_bnd ?_))
              rw [hs]
              refine v_ix (by decide) rfl (v_bi hst (v_bnd (v_F (by decide) ?_)))
              refine v_bi (a := .inl (c + su ((flat l).take q), x, flat (cut l q))) (v_cF (v_F (by omega) (v_cF (v_bi (a := false) (v_F (show ¬ ((0 : Int) = 6) by decide) (v_cF rfl)) (v_cF (v_F (show ¬ ((0 : Int) ≠ 0) by decide) (v_as rfl (v_bi h1 (v_p2 (v_as (by omega) (v_bnd ?_)))))))))) ) ?_
              · rw [Int.toNat_natCast, ← flat_cut]; rfl
              refine v_selb (v_p2 (v_p2 ?_))
              exact lookU (hIn.nm (by omega))
            · have hst := appS (n := n + 700) (by omega) (by show 0 ≤ dn ∧ dn ≤ 1000; omega) rdyU (sell40 (n := n + 700) (s := sU (enU l b r c x) rc sl dn) (by show sl.length = 40; omega) (o := ⟨4, 0, 0, 0, 0, q, 1, 0, []⟩))
              refine ⟨(c, x, sU (enU l b r c x) rc sl dn, flat l), W (v_w (by omega) (v_bnd (v_w (by omega) (v_w (by omega) (v_bnd ?_))))), ⟨_, _, _, _, _, _, hIm, rfl, rfl⟩⟩
              rw [hq, hp]
              refine v_w (by omega) (v_w (by omega) (v_bnd ?_))
              rw [hs]
              refine v_ix (by decide) rfl (v_bi hst (v_bnd (v_F (by decide) ?_)))
              refine v_bi (a := .inr (c, x, sU (enU l b r c x) rc sl dn, flat l)) (v_cF (v_F (by omega) (v_cF (v_bi (a := true) (v_T (show (6 : Int) = 6 by decide) (v_cT (v_bnd (v_T rfl rfl)))) (v_cT rfl))))) ?_
              exact v_sele rfl
          · have hst : ∃ e : Int, (e = 5 ∨ e = 6) ∧ d_close_Step (n + 700) (sU (enU l b r c x) rc sl dn) ⟨4, 0, 0, 0, 0, q, 1, 0, []⟩ = some (sU (enU l b r c x) rc sl dn, e) := by
              by_cases h40 : sl.length < 40
              · exact ⟨5, .inl rfl, appS (n := n + 700) (by omega) (by show 0 ≤ dn ∧ dn ≤ 1000; omega) rdyU (sellF hN q12 hf h40 (n := n + 500))⟩
              · exact ⟨6, .inr rfl, appS (n := n + 700) (by omega) (by show 0 ≤ dn ∧ dn ≤ 1000; omega) rdyU (sell40 (n := n + 700) (s := sU (enU l b r c x) rc sl dn) (by show sl.length = 40; omega))⟩
            obtain ⟨e, he, hst⟩ := hst
            refine ⟨(c, x, sU (enU l b r c x) rc sl dn, flat l), W (v_w (by omega) (v_bnd (v_w (by omega) (v_w (by omega) (v_bnd ?_))))), ⟨_, _, _, _, _, _, hIm, rfl, rfl⟩⟩
            rw [hq, hp]
            refine v_w (by omega) (v_w (by omega) (v_bnd ?_))
            rw [hs]
            refine v_ix (by decide) rfl (v_bi hst (v_bnd (v_F (by decide) ?_)))
            refine v_bi (a := .inr (c, x, sU (enU l b r c x) rc sl dn, flat l)) (v_cF (v_T (by omega) (v_cT (v_bi (a := false) ?_ (v_as rfl rfl))))) ?_
            · rcases he with rfl | rfl
              · exact v_F (show ¬ ((5 : Int) ≠ 5) by decide) (v_cF rfl)
              · exact v_T (show (6 : Int) ≠ 5 by decide) (v_cT (v_F (show ¬ ((6 : Int) ≠ 6) by decide) rfl))
            exact v_sele rfl
        · by_cases hf : q ≤ (flat l).length
          · have hz := scrT hN q12 hf (n := n + 500) (rc := rc) (sl := sl) (dn := dn)
            have ht := su_take (flat_in hok) q
            have hst := appX (n := n + 700) (by omega) (by show 0 ≤ dn ∧ dn ≤ 1000; omega) rdyU hz
            have h1 := l1X (flat l) (flat_in hok) k q hf q12.2 (by omega) q 0 (n + 700) c x (by omega) (by omega) (by rw [List.drop_zero]; omega)
            rw [List.drop_zero] at h1
            have hIn : IvU (i + 1) (cut l q) b r c (x + su ((flat l).take q)) rc sl (dn + 1) :=
              ⟨cut_ok hok, Nat.le_trans cutL_len hlen, by omega, by omega, hsc, by omega, by rw [flat_cut]; omega, hrc, hsl, by omega⟩
            refine ⟨(c, x + su ((flat l).take q), sU (enU (cut l q) b r c (x + su ((flat l).take q))) rc sl (dn + 1), flat (cut l q)), W (v_w (by omega) (v_bnd (v_w (by omega) (v_w (by omega) (v_bnd ?_))))), ⟨_, _, _, _, _, _, hIn, rfl, rfl⟩⟩
            rw [hq, hp]
            refine v_w (by omega) (v_w (by omega) (v_bnd ?_))
            rw [hs]
            refine v_ix (by decide) rfl (v_bi hst (v_bnd (v_F (by decide) ?_)))
            refine v_bi (a := .inl (c, x + su ((flat l).take q), flat (cut l q))) (v_cF (v_F (by omega) (v_cF (v_bi (a := false) (v_F (show ¬ ((0 : Int) = 6) by decide) (v_cF rfl)) (v_cF (v_F (show ¬ ((0 : Int) ≠ 0) by decide) (v_as rfl (v_bi h1 (v_p2 (v_as (by omega) (v_bnd ?_)))))))))) ) ?_
            · rw [Int.toNat_natCast, ← flat_cut]; rfl
            refine v_selb (v_p2 (v_p2 ?_))
            exact lookU (hIn.nm (by omega))
          · have hst := appX (n := n + 700) (by omega) (by show 0 ≤ dn ∧ dn ≤ 1000; omega) rdyU (scrF hN q12 hf (n := n + 500) (rc := rc) (sl := sl) (dn := dn))
            refine ⟨(c, x, sU (enU l b r c x) rc sl dn, flat l), W (v_w (by omega) (v_bnd (v_w (by omega) (v_w (by omega) (v_bnd ?_))))), ⟨_, _, _, _, _, _, hIm, rfl, rfl⟩⟩
            rw [hq, hp]
            refine v_w (by omega) (v_w (by omega) (v_bnd ?_))
            rw [hs]
            refine v_ix (by decide) rfl (v_bi hst (v_bnd (v_F (by decide) ?_)))
            refine v_bi (a := .inr (c, x, sU (enU l b r c x) rc sl dn, flat l)) (v_cF (v_T (by omega) (v_cT (v_bi (a := false) ?_ (v_as rfl rfl))))) ?_
            · exact v_F (show ¬ ((5 : Int) ≠ 5) by decide) (v_cF rfl)
            exact v_sele rfl
      · rintro ⟨c', x', s', us'⟩ ⟨l', b', r', rc', sl', dn', hI', hs', hu'⟩
        simp only at hs' hu' hI'
        subst hs' hu'
        refine v_p2 (v_p2 (v_p2 (v_w (by omega) ?_)))
        have := ih (i + 1) n l' b' r' c' x' rc' sl' dn' (by omega) (by omega) hI'
        rw [show ((i : Int) + 1) = ((i + 1 : Nat) : Int) by omega]
        exact this
    · exact v_bi (a := false) (v_F h (v_cF rfl)) (v_cF rfl)
theorem topUnits_plain (l : List Int) : d_top_TopUnits 800 l = some true := by
  have hr := roundsU l 60 0 100 [] 0 0 0 0 [] [] 0 (by omega) (by omega) ⟨(fun x hx => by cases hx), by simp, by omega, by omega, by omega, by omega, by simp [flat, su], by simp, by simp, by omega⟩
  have hs : ∃ m, d_top_simple 800 1 1 = some m ∧ d_top_start 800 m = some (sU (enU [] 0 0 0 0) [] [] 0) := ⟨mT, by kernel_rfl, by kernel_rfl⟩
  obtain ⟨m, h1, h2⟩ := hs
  have aw : d_top_awake 800 = some true := by decide +kernel
  unfold d_top_TopUnits
  exact v_bi h1 (v_bi h2 (v_bi hr (v_bi aw rfl)))
end Go.Pv
