import Derived.Test.YtnbiheccdpbfiaaPvS
import Derived.Test.YtnbiheccdpbfiaaT6
import Derived.Test.YtnbiheccdpbfiaaProg
namespace Go.Pv
open Go.Proofs
set_option maxRecDepth 10000

theorem sh5 : tySh Try.prog 5 = some (1, false) := by kernel_rfl

theorem codecForms_pc {bits v : Int} {minus : Bool} (hb : isI bits) (hv : isI v) : PC Try.prog 5 [int bits, int v, boo minus] H0 (fun y _ => y = boo true) := by
  obtain ⟨j, hj, hj2⟩ := plc_nat (v := bits) (n := 62) (by decide)
  have hj : plcV bits 62 = (j : Int) := hj
  have htw := two_pow_lt hj2
  obtain ⟨k, hk, hk2⟩ := plc_nat (v := v) (n := 2 ^ j) htw.1
  have hsh := shl_one hj2
  refine pc_of' (c := _) Try.func5 rfl rfl ?_
  intro Q hret hnorm
  refine c_seq ?_
  refine c_reg ?_; intro K hK
  refine st rfl rfl rfl (yv_assign rfl rfl) ?_
  refine rg_nil (hK _ ?_); clear hK K
  refine c_seq ?_
  refine c_reg ?_; intro K hK
  refine st rfl rfl rfl (yv_move rfl rfl) ?_
  refine st rfl rfl rfl (yv_callP rfl rfl (.cons rfl (.cons rfl .nil)) cal11 (CvL.refl _) (place_p hb (by decide))) ?_
  refine st rfl rfl rfl (yv_add (r := ((j + 1 : Nat) : Int)) rfl rfl rfl (by rw [hj, wrap64 (by omega)]; omega)) ?_
  refine st rfl rfl rfl (yv_assign rfl rfl) ?_
  refine rg_nil (hK _ ?_); clear hK K
  refine c_seq ?_
  refine c_reg ?_; intro K hK
  refine st rfl rfl rfl (yv_move rfl rfl) ?_
  refine st rfl rfl rfl (yv_sub (r := (j : Int)) rfl rfl rfl (by rw [wrap64 (by omega)]; omega)) ?_
  refine st rfl rfl rfl (yv_convInt (r := (j : Int)) rfl Try.underlying3 Try.underlying38 rfl (wrapu64 (by omega))) ?_
  refine st rfl rfl rfl (yv_shl (r := ((2 ^ j : Nat) : Int)) rfl rfl rfl (by omega) hsh) ?_
  refine st rfl rfl rfl (yv_move rfl rfl) ?_
  refine st rfl rfl rfl (yv_move rfl rfl) ?_
  refine st rfl rfl rfl (yv_sub (r := (j : Int)) rfl rfl rfl (by rw [wrap64 (by omega)]; omega)) ?_
  refine st rfl rfl rfl (yv_convInt (r := (j : Int)) rfl Try.underlying3 Try.underlying38 rfl (wrapu64 (by omega))) ?_
  refine st rfl rfl rfl (yv_shl (r := ((2 ^ j : Nat) : Int)) rfl rfl rfl (by omega) hsh) ?_
  refine st rfl rfl rfl (yv_callP rfl rfl (.cons rfl (.cons rfl .nil)) cal11 (CvL.refl _) (place_p hv (by omega))) ?_
  refine st rfl rfl rfl (yv_add (r := ((2 ^ j + k : Nat) : Int)) rfl rfl rfl (by rw [hk, wrap64 (by omega)]; omega)) ?_
  refine st rfl rfl rfl (yv_assign rfl rfl) ?_
  refine rg_nil (hK _ ?_); clear hK K
  refine c_seq ?_
  refine c_seq ?_
  refine c_reg ?_; intro K hK
  refine st rfl rfl rfl (yv_move rfl rfl) ?_
  refine rg_nil (hK _ ?_); clear hK K
  refine c_if rfl ?_ ?_
  · intro h28
    obtain ⟨n, hn⟩ : ∃ n : Int, -1 - ((2 ^ j + k : Nat) : Int) = n := ⟨_, rfl⟩
    have hfm := form_neg hj2 hk2
    rw [hn] at hfm
    refine c_reg ?_; intro K hK
    refine st rfl rfl rfl (yv_move rfl rfl) ?_
    refine st rfl rfl rfl (yv_sub (r := -1 - ((2 ^ j + k : Nat) : Int)) rfl rfl rfl (wrap64 (by omega))) ?_
    refine st rfl rfl rfl (yv_assign rfl rfl) ?_
    refine rg_nil (hK _ ?_); clear hK K
    refine c_seq ?_
    refine c_as (t := 8) (int n) rfl (congrArg int hn) ?_
    obtain ⟨hlen, p, c, hpc, hc, hform⟩ := form_bytes hj2 hfm.1 hfm.2.1 hfm.2.2
    obtain ⟨d, hd⟩ : ∃ d, UInt8.ofNat (c.toNat + 128) = d := ⟨_, rfl⟩
    have hdn : d.toNat = c.toNat + 128 := by rw [← hd]; exact u8_nat (by omega)
    have hf := hform d (by omega) false
    have hl11 := enc_len n
    have hpl : (p ++ [c]).length = p.length + 1 := by rw [List.length_append]; rfl
    have hpd : (p ++ [d]).length = p.length + 1 := by rw [List.length_append]; rfl
    have hp11 : p.length ≤ 10 := by rw [hpc, hpl] at hl11; omega
    have hok := num_enc hfm.1 [] false
    rw [List.append_nil, hpc] at hok
    have hrow : (byteRows (p ++ [c]))[0 + p.length]? = some [.sc (.int .u8 (c.toNat : Nat))] := by simp [byteRows]
    have hset : (byteRows (p ++ [c])).set (0 + p.length) (putRow [.sc (.int .u8 (c.toNat : Nat))] 0 (AV.sc (.int .u8 (d.toNat : Nat))).cells) = byteRows (p ++ [d]) := by
      rw [byteRows_append, byteRows_append, List.set_append_right _ _ (by rw [byteRows_len]; omega), byteRows_len]
      simp [byteRows, putRow, AV.cells]
    refine c_reg ?_; intro K hK
    refine st rfl rfl rfl (yv_move rfl rfl) ?_
    refine st rfl rfl rfl (yv_callP rfl rfl (.cons rfl .nil) cal21 (CvL.refl _) (num_p hfm.1)) ?_
    refine st rfl rfl rfl (yv_assign rfl rfl) ?_
    refine rg_nil (hK _ ?_); clear hK K
    refine c_seq ?_
    refine c_seq ?_
    refine c_reg ?_; intro K hK
    refine st rfl rfl rfl (yv_move rfl rfl) ?_
    refine st rfl rfl rfl (yv_len_str rfl Try.underlying9 rfl) ?_
    refine st rfl rfl rfl (yv_move rfl rfl) ?_
    refine st rfl rfl rfl (yv_add (r := ((j + 2 : Nat) : Int)) rfl rfl rfl (by rw [wrap64 (by omega)]; omega)) ?_
    refine st rfl rfl rfl (yv_add (r := ((j + 8 : Nat) : Int)) rfl rfl rfl (by rw [wrap64 (by omega)]; omega)) ?_
    refine st rfl rfl rfl (yv_quo (r := (((j + 8) / 7 : Nat) : Int)) rfl rfl rfl (by decide) (show IntKind.i64.wrap (((j + 8) / 7 : Nat) : Int) = _ from wrap64 (by omega))) ?_
    refine st rfl rfl rfl (yv_to (y := boo false) (yv_neq (a := ((enc n).length : Int)) rfl rfl rfl) (congrArg boo (decide_eq_false (by rw [hlen]; omega)))) ?_
    refine rg_nil (hK _ ?_); clear hK K
    refine c_false rfl ?_
    refine c_skip ?_
    refine c_seq ?_
    refine c_as (t := 9) (str (p ++ [c])) rfl (congrArg str hpc) ?_
    refine c_reg ?_; intro K hK
    refine st rfl rfl rfl (yv_move rfl rfl) ?_
    refine se rfl rfl rfl (yl_strToBytes (l := p ++ [c]) 5041 .any rfl Try.underlying9 Try.underlying39 Try.underlying5 rfl (by omega)) ?_
    rintro _ _ ⟨v41, -, rfl, rfl⟩
    refine st rfl rfl rfl (yv_assign rfl rfl) ?_
    refine rg_nil (hK _ ?_); clear hK K
    refine c_seq ?_
    refine c_reg ?_; intro K hK
    refine st rfl rfl rfl (yv_move rfl rfl) ?_
    refine st rfl rfl rfl (yv_move rfl rfl) ?_
    refine st rfl rfl rfl (yv_len_sl rfl Try.underlying39 rfl (.sl rfl rfl)) ?_
    refine st rfl rfl rfl (yv_sub (r := (p.length : Int)) rfl rfl rfl (by rw [wrap64 (by omega)]; omega)) ?_
    refine st rfl rfl rfl (yv_indexAddr rfl Try.underlying39 sh5 rfl rfl rfl (.sl rfl rfl rfl (by omega) (show 0 + p.length < (byteRows (p ++ [c])).length by rw [byteRows_len]; omega))) ?_
    refine st rfl rfl rfl (yv_load rfl sh5 rfl (.pt rfl rfl hrow) rfl) ?_
    refine st rfl rfl rfl (yv_or (r := ((d.toNat : Nat) : Int)) rfl rfl rfl (by rw [← hd]; exact or_c hc)) ?_
    refine st rfl rfl rfl (yv_indexAddr rfl Try.underlying39 sh5 rfl rfl rfl (.sl rfl rfl rfl (by omega) (show 0 + p.length < (byteRows (p ++ [c])).length by rw [byteRows_len]; omega))) ?_
    refine sstore rfl rfl (yl_store rfl sh5 rfl rfl rfl rfl rfl hrow rfl rfl rfl) ?_
    refine rg_nil (hK _ ?_); clear hK K
    refine c_seq ?_
    refine c_draw [0, 1, 3, 7, 0, 16, 63, 127, 255] (fun i k => (Nat.beq i 1 || Nat.beq i 5) && Nat.beq k 5041) (fun i => bif Nat.beq i 3 then some 5053 else bif Nat.beq i 6 then some 5056 else none) mixed (by kernel_rfl) ?_; intro C K hK
    refine dg_pure rfl (fun H hH => yv_move rfl rfl) ?_
    refine dg_pure rfl (fun H hH => yv_bytesToString (l := p ++ [d]) rfl Try.underlying39 Try.underlying5 Try.underlying9 rfl ((hH 5041 rfl).trans rfl) rfl rfl hset (by omega)) ?_
    refine dg_pure rfl (fun H hH => yv_sadd (m := [0]) rfl rfl rfl (by show (p ++ [d]).length + 1 ≤ _; omega)) ?_
    refine dg_eff (k := 5053) (ob := some (rdr 75 (C + 3) (p ++ [d] ++ [0], false))) (x := .pt 5053 (C + 3) 0 0) rfl rfl (fun H hH => yl_callN (V := C + 3) (ob := fun ver => rdr 75 ver (p ++ [d] ++ [0], false)) rfl rfl (.cons rfl .nil) cal10 (new_c 5053 (p ++ [d] ++ [0])) (fun _ => rfl) (fun _ => rfl) pv_rdr) ?_
    refine dg_pure rfl (fun H hH => yv_move rfl rfl) ?_
    refine dg_pure rfl (fun H hH => yv_bytesToString (l := p ++ [d]) rfl Try.underlying39 Try.underlying5 Try.underlying9 rfl ((hH 5041 rfl).trans rfl) rfl rfl hset (by omega)) ?_
    refine dg_eff (k := 5056) (ob := some (rdr 75 (C + 6) (p ++ [d], false))) (x := .pt 5056 (C + 6) 0 0) rfl rfl (fun H hH => yl_callN (V := C + 6) (ob := fun ver => rdr 75 ver (p ++ [d], false)) rfl rfl (.cons rfl .nil) cal10 (new_c 5056 (p ++ [d])) (fun _ => rfl) (fun _ => rfl) pv_rdr) ?_
    refine dg_pure rfl (fun H hH => yv_assign rfl rfl) ?_
    refine dg_pure rfl (fun H hH => yv_assign rfl rfl) ?_
    refine dg_nil (hK _ ?_); clear hK K
    refine c_seq ?_
    refine c_reg ?_; intro K hK
    refine st rfl rfl rfl (yv_move rfl rfl) ?_
    refine se rfl rfl rfl (yl_call rfl rfl (.cons rfl .nil) cal10 (new_c 5058 (p ++ [c]))) ?_
    rintro _ _ ⟨v58, rfl, rfl⟩
    refine st rfl rfl rfl (yv_assign rfl rfl) ?_
    refine rg_nil (hK _ ?_); clear hK K
    refine c_seq ?_
    refine c_reg ?_; intro K hK
    refine st rfl rfl rfl (yv_move rfl rfl) ?_
    refine st rfl rfl rfl (yv_nenil rfl Try.underlying24 rfl (.pt rfl rfl rfl) rfl) ?_
    refine st rfl rfl rfl (yv_move rfl rfl) ?_
    refine st rfl rfl rfl (yv_move rfl rfl) ?_
    refine st rfl rfl rfl (yv_nenil rfl Try.underlying24 rfl (.pt rfl rfl rfl) rfl) ?_
    refine st rfl rfl rfl (yv_pick rfl rfl (fun _ => rfl) (fun _ => rfl) rfl) ?_
    refine st rfl rfl rfl (yv_move rfl rfl) ?_
    refine st rfl rfl rfl (yv_move rfl rfl) ?_
    refine st rfl rfl rfl (yv_nenil rfl Try.underlying24 rfl (.pt rfl rfl rfl) rfl) ?_
    refine st rfl rfl rfl (yv_pick rfl rfl (fun _ => rfl) (fun _ => rfl) rfl) ?_
    refine st rfl rfl rfl (yv_move rfl rfl) ?_
    refine st rfl rfl rfl (yv_move rfl rfl) ?_
    refine se rfl rfl rfl (yl_call rfl rfl (.cons rfl .nil) cal12 (numP_c (s := (p ++ [c], false)) rfl (show (p ++ [c]).length ≤ _ by omega))) ?_
    rintro _ _ ⟨rfl, rfl⟩
    rw [hok.1, hok.2]
    refine st rfl rfl rfl (yv_move rfl rfl) ?_
    refine st rfl rfl rfl (yv_eql rfl rfl rfl) ?_
    refine slit 73 true rfl (decide_eq_true rfl) ?_
    refine st rfl rfl rfl (yv_pick rfl rfl (fun _ => rfl) (fun _ => rfl) rfl) ?_
    refine st rfl rfl rfl (yv_move rfl rfl) ?_
    refine st rfl rfl rfl (yv_move rfl rfl) ?_
    refine st rfl rfl rfl (yv_callR rfl rfl (.cons rfl .nil) cal19 (badP_c rfl) (.sc _)) ?_
    refine st rfl rfl rfl (yv_not rfl rfl rfl) ?_
    refine slit 78 true rfl rfl ?_
    refine st rfl rfl rfl (yv_pick rfl rfl (fun _ => rfl) (fun _ => rfl) rfl) ?_
    refine st rfl rfl rfl (yv_move rfl rfl) ?_
    refine st rfl rfl rfl (yv_move rfl rfl) ?_
    refine se rfl rfl rfl (yl_call rfl rfl (.cons rfl .nil) cal12 (numP_c (s := (p ++ [d] ++ [0], false)) rfl (show (p ++ [d] ++ [0]).length ≤ _ by rw [List.length_append, hpd]; show p.length + 1 + 1 ≤ _; omega))) ?_
    rintro _ _ ⟨rfl, rfl⟩
    rw [hf.2.2.1, hf.2.2.2]
    refine st rfl rfl rfl (yv_eql rfl rfl rfl) ?_
    refine slit 83 true rfl rfl ?_
    refine st rfl rfl rfl (yv_pick rfl rfl (fun _ => rfl) (fun _ => rfl) rfl) ?_
    refine st rfl rfl rfl (yv_move rfl rfl) ?_
    refine st rfl rfl rfl (yv_move rfl rfl) ?_
    refine st rfl rfl rfl (yv_callR rfl rfl (.cons rfl .nil) cal19 (badP_c rfl) (.sc _)) ?_
    refine slit 87 true rfl rfl ?_
    refine st rfl rfl rfl (yv_pick rfl rfl (fun _ => rfl) (fun _ => rfl) rfl) ?_
    refine st rfl rfl rfl (yv_move rfl rfl) ?_
    refine st rfl rfl rfl (yv_move rfl rfl) ?_
    refine se rfl rfl rfl (yl_call rfl rfl (.cons rfl .nil) cal12 (numP_c (s := (p ++ [d], false)) rfl (show (p ++ [d]).length ≤ _ by omega))) ?_
    rintro _ _ ⟨rfl, rfl⟩
    rw [hf.1, hf.2.1]
    refine st rfl rfl rfl (yv_eql rfl rfl rfl) ?_
    refine slit 92 true rfl rfl ?_
    refine st rfl rfl rfl (yv_pick rfl rfl (fun _ => rfl) (fun _ => rfl) rfl) ?_
    refine st rfl rfl rfl (yv_move rfl rfl) ?_
    refine st rfl rfl rfl (yv_move rfl rfl) ?_
    refine st rfl rfl rfl (yv_callR rfl rfl (.cons rfl .nil) cal19 (badP_c rfl) (.sc _)) ?_
    refine slit 96 true rfl rfl ?_
    refine st rfl rfl rfl (yv_pick rfl rfl (fun _ => rfl) (fun _ => rfl) rfl) ?_
    refine st rfl rfl rfl (yv_move rfl rfl) ?_
    refine st rfl rfl rfl (yv_callP rfl rfl .nil cal9 (CvL.refl _) (awake_p)) ?_
    refine st rfl rfl rfl (yv_pick rfl rfl (fun _ => rfl) (fun _ => rfl) rfl) ?_
    refine st rfl rfl rfl (yv_assign rfl rfl) ?_
    refine rg_nil (hK _ ?_); clear hK K
    refine c_ret (hret _ _ H0 (.tmp rfl .nil) (fun _ _ h => by cases h) ?_)
    exact rfl
  · intro h28
    obtain ⟨n, hn⟩ : ∃ n : Int, ((2 ^ j + k : Nat) : Int) = n := ⟨_, rfl⟩
    have hfm := form_pos hj2 hk2
    rw [hn] at hfm
    refine c_skip ?_
    refine c_seq ?_
    refine c_as (t := 8) (int n) rfl (congrArg int hn) ?_
    obtain ⟨hlen, p, c, hpc, hc, hform⟩ := form_bytes hj2 hfm.1 hfm.2.1 hfm.2.2
    obtain ⟨d, hd⟩ : ∃ d, UInt8.ofNat (c.toNat + 128) = d := ⟨_, rfl⟩
    have hdn : d.toNat = c.toNat + 128 := by rw [← hd]; exact u8_nat (by omega)
    have hf := hform d (by omega) false
    have hl11 := enc_len n
    have hpl : (p ++ [c]).length = p.length + 1 := by rw [List.length_append]; rfl
    have hpd : (p ++ [d]).length = p.length + 1 := by rw [List.length_append]; rfl
    have hp11 : p.length ≤ 10 := by rw [hpc, hpl] at hl11; omega
    have hok := num_enc hfm.1 [] false
    rw [List.append_nil, hpc] at hok
    have hrow : (byteRows (p ++ [c]))[0 + p.length]? = some [.sc (.int .u8 (c.toNat : Nat))] := by simp [byteRows]
    have hset : (byteRows (p ++ [c])).set (0 + p.length) (putRow [.sc (.int .u8 (c.toNat : Nat))] 0 (AV.sc (.int .u8 (d.toNat : Nat))).cells) = byteRows (p ++ [d]) := by
      rw [byteRows_append, byteRows_append, List.set_append_right _ _ (by rw [byteRows_len]; omega), byteRows_len]
      simp [byteRows, putRow, AV.cells]
    refine c_reg ?_; intro K hK
    refine st rfl rfl rfl (yv_move rfl rfl) ?_
    refine st rfl rfl rfl (yv_callP rfl rfl (.cons rfl .nil) cal21 (CvL.refl _) (num_p hfm.1)) ?_
    refine st rfl rfl rfl (yv_assign rfl rfl) ?_
    refine rg_nil (hK _ ?_); clear hK K
    refine c_seq ?_
    refine c_seq ?_
    refine c_reg ?_; intro K hK
    refine st rfl rfl rfl (yv_move rfl rfl) ?_
    refine st rfl rfl rfl (yv_len_str rfl Try.underlying9 rfl) ?_
    refine st rfl rfl rfl (yv_move rfl rfl) ?_
    refine st rfl rfl rfl (yv_add (r := ((j + 2 : Nat) : Int)) rfl rfl rfl (by rw [wrap64 (by omega)]; omega)) ?_
    refine st rfl rfl rfl (yv_add (r := ((j + 8 : Nat) : Int)) rfl rfl rfl (by rw [wrap64 (by omega)]; omega)) ?_
    refine st rfl rfl rfl (yv_quo (r := (((j + 8) / 7 : Nat) : Int)) rfl rfl rfl (by decide) (show IntKind.i64.wrap (((j + 8) / 7 : Nat) : Int) = _ from wrap64 (by omega))) ?_
    refine st rfl rfl rfl (yv_to (y := boo false) (yv_neq (a := ((enc n).length : Int)) rfl rfl rfl) (congrArg boo (decide_eq_false (by rw [hlen]; omega)))) ?_
    refine rg_nil (hK _ ?_); clear hK K
    refine c_false rfl ?_
    refine c_skip ?_
    refine c_seq ?_
    refine c_as (t := 9) (str (p ++ [c])) rfl (congrArg str hpc) ?_
    refine c_reg ?_; intro K hK
    refine st rfl rfl rfl (yv_move rfl rfl) ?_
    refine se rfl rfl rfl (yl_strToBytes (l := p ++ [c]) 5041 .any rfl Try.underlying9 Try.underlying39 Try.underlying5 rfl (by omega)) ?_
    rintro _ _ ⟨v41, -, rfl, rfl⟩
    refine st rfl rfl rfl (yv_assign rfl rfl) ?_
    refine rg_nil (hK _ ?_); clear hK K
    refine c_seq ?_
    refine c_reg ?_; intro K hK
    refine st rfl rfl rfl (yv_move rfl rfl) ?_
    refine st rfl rfl rfl (yv_move rfl rfl) ?_
    refine st rfl rfl rfl (yv_len_sl rfl Try.underlying39 rfl (.sl rfl rfl)) ?_
    refine st rfl rfl rfl (yv_sub (r := (p.length : Int)) rfl rfl rfl (by rw [wrap64 (by omega)]; omega)) ?_
    refine st rfl rfl rfl (yv_indexAddr rfl Try.underlying39 sh5 rfl rfl rfl (.sl rfl rfl rfl (by omega) (show 0 + p.length < (byteRows (p ++ [c])).length by rw [byteRows_len]; omega))) ?_
    refine st rfl rfl rfl (yv_load rfl sh5 rfl (.pt rfl rfl hrow) rfl) ?_
    refine st rfl rfl rfl (yv_or (r := ((d.toNat : Nat) : Int)) rfl rfl rfl (by rw [← hd]; exact or_c hc)) ?_
    refine st rfl rfl rfl (yv_indexAddr rfl Try.underlying39 sh5 rfl rfl rfl (.sl rfl rfl rfl (by omega) (show 0 + p.length < (byteRows (p ++ [c])).length by rw [byteRows_len]; omega))) ?_
    refine sstore rfl rfl (yl_store rfl sh5 rfl rfl rfl rfl rfl hrow rfl rfl rfl) ?_
    refine rg_nil (hK _ ?_); clear hK K
    refine c_seq ?_
    refine c_draw [0, 1, 3, 7, 0, 16, 63, 127, 255] (fun i k => (Nat.beq i 1 || Nat.beq i 5) && Nat.beq k 5041) (fun i => bif Nat.beq i 3 then some 5053 else bif Nat.beq i 6 then some 5056 else none) mixed (by kernel_rfl) ?_; intro C K hK
    refine dg_pure rfl (fun H hH => yv_move rfl rfl) ?_
    refine dg_pure rfl (fun H hH => yv_bytesToString (l := p ++ [d]) rfl Try.underlying39 Try.underlying5 Try.underlying9 rfl ((hH 5041 rfl).trans rfl) rfl rfl hset (by omega)) ?_
    refine dg_pure rfl (fun H hH => yv_sadd (m := [0]) rfl rfl rfl (by show (p ++ [d]).length + 1 ≤ _; omega)) ?_
    refine dg_eff (k := 5053) (ob := some (rdr 75 (C + 3) (p ++ [d] ++ [0], false))) (x := .pt 5053 (C + 3) 0 0) rfl rfl (fun H hH => yl_callN (V := C + 3) (ob := fun ver => rdr 75 ver (p ++ [d] ++ [0], false)) rfl rfl (.cons rfl .nil) cal10 (new_c 5053 (p ++ [d] ++ [0])) (fun _ => rfl) (fun _ => rfl) pv_rdr) ?_
    refine dg_pure rfl (fun H hH => yv_move rfl rfl) ?_
    refine dg_pure rfl (fun H hH => yv_bytesToString (l := p ++ [d]) rfl Try.underlying39 Try.underlying5 Try.underlying9 rfl ((hH 5041 rfl).trans rfl) rfl rfl hset (by omega)) ?_
    refine dg_eff (k := 5056) (ob := some (rdr 75 (C + 6) (p ++ [d], false))) (x := .pt 5056 (C + 6) 0 0) rfl rfl (fun H hH => yl_callN (V := C + 6) (ob := fun ver => rdr 75 ver (p ++ [d], false)) rfl rfl (.cons rfl .nil) cal10 (new_c 5056 (p ++ [d])) (fun _ => rfl) (fun _ => rfl) pv_rdr) ?_
    refine dg_pure rfl (fun H hH => yv_assign rfl rfl) ?_
    refine dg_pure rfl (fun H hH => yv_assign rfl rfl) ?_
    refine dg_nil (hK _ ?_); clear hK K
    refine c_seq ?_
    refine c_reg ?_; intro K hK
    refine st rfl rfl rfl (yv_move rfl rfl) ?_
    refine se rfl rfl rfl (yl_call rfl rfl (.cons rfl .nil) cal10 (new_c 5058 (p ++ [c]))) ?_
    rintro _ _ ⟨v58, rfl, rfl⟩
    refine st rfl rfl rfl (yv_assign rfl rfl) ?_
    refine rg_nil (hK _ ?_); clear hK K
    refine c_seq ?_
    refine c_reg ?_; intro K hK
    refine st rfl rfl rfl (yv_move rfl rfl) ?_
    refine st rfl rfl rfl (yv_nenil rfl Try.underlying24 rfl (.pt rfl rfl rfl) rfl) ?_
    refine st rfl rfl rfl (yv_move rfl rfl) ?_
    refine st rfl rfl rfl (yv_move rfl rfl) ?_
    refine st rfl rfl rfl (yv_nenil rfl Try.underlying24 rfl (.pt rfl rfl rfl) rfl) ?_
    refine st rfl rfl rfl (yv_pick rfl rfl (fun _ => rfl) (fun _ => rfl) rfl) ?_
    refine st rfl rfl rfl (yv_move rfl rfl) ?_
    refine st rfl rfl rfl (yv_move rfl rfl) ?_
    refine st rfl rfl rfl (yv_nenil rfl Try.underlying24 rfl (.pt rfl rfl rfl) rfl) ?_
    refine st rfl rfl rfl (yv_pick rfl rfl (fun _ => rfl) (fun _ => rfl) rfl) ?_
    refine st rfl rfl rfl (yv_move rfl rfl) ?_
    refine st rfl rfl rfl (yv_move rfl rfl) ?_
    refine se rfl rfl rfl (yl_call rfl rfl (.cons rfl .nil) cal12 (numP_c (s := (p ++ [c], false)) rfl (show (p ++ [c]).length ≤ _ by omega))) ?_
    rintro _ _ ⟨rfl, rfl⟩
    rw [hok.1, hok.2]
    refine st rfl rfl rfl (yv_move rfl rfl) ?_
    refine st rfl rfl rfl (yv_eql rfl rfl rfl) ?_
    refine slit 73 true rfl (decide_eq_true rfl) ?_
    refine st rfl rfl rfl (yv_pick rfl rfl (fun _ => rfl) (fun _ => rfl) rfl) ?_
    refine st rfl rfl rfl (yv_move rfl rfl) ?_
    refine st rfl rfl rfl (yv_move rfl rfl) ?_
    refine st rfl rfl rfl (yv_callR rfl rfl (.cons rfl .nil) cal19 (badP_c rfl) (.sc _)) ?_
    refine st rfl rfl rfl (yv_not rfl rfl rfl) ?_
    refine slit 78 true rfl rfl ?_
    refine st rfl rfl rfl (yv_pick rfl rfl (fun _ => rfl) (fun _ => rfl) rfl) ?_
    refine st rfl rfl rfl (yv_move rfl rfl) ?_
    refine st rfl rfl rfl (yv_move rfl rfl) ?_
    refine se rfl rfl rfl (yl_call rfl rfl (.cons rfl .nil) cal12 (numP_c (s := (p ++ [d] ++ [0], false)) rfl (show (p ++ [d] ++ [0]).length ≤ _ by rw [List.length_append, hpd]; show p.length + 1 + 1 ≤ _; omega))) ?_
    rintro _ _ ⟨rfl, rfl⟩
    rw [hf.2.2.1, hf.2.2.2]
    refine st rfl rfl rfl (yv_eql rfl rfl rfl) ?_
    refine slit 83 true rfl rfl ?_
    refine st rfl rfl rfl (yv_pick rfl rfl (fun _ => rfl) (fun _ => rfl) rfl) ?_
    refine st rfl rfl rfl (yv_move rfl rfl) ?_
    refine st rfl rfl rfl (yv_move rfl rfl) ?_
    refine st rfl rfl rfl (yv_callR rfl rfl (.cons rfl .nil) cal19 (badP_c rfl) (.sc _)) ?_
    refine slit 87 true rfl rfl ?_
    refine st rfl rfl rfl (yv_pick rfl rfl (fun _ => rfl) (fun _ => rfl) rfl) ?_
    refine st rfl rfl rfl (yv_move rfl rfl) ?_
    refine st rfl rfl rfl (yv_move rfl rfl) ?_
    refine se rfl rfl rfl (yl_call rfl rfl (.cons rfl .nil) cal12 (numP_c (s := (p ++ [d], false)) rfl (show (p ++ [d]).length ≤ _ by omega))) ?_
    rintro _ _ ⟨rfl, rfl⟩
    rw [hf.1, hf.2.1]
    refine st rfl rfl rfl (yv_eql rfl rfl rfl) ?_
    refine slit 92 true rfl rfl ?_
    refine st rfl rfl rfl (yv_pick rfl rfl (fun _ => rfl) (fun _ => rfl) rfl) ?_
    refine st rfl rfl rfl (yv_move rfl rfl) ?_
    refine st rfl rfl rfl (yv_move rfl rfl) ?_
    refine st rfl rfl rfl (yv_callR rfl rfl (.cons rfl .nil) cal19 (badP_c rfl) (.sc _)) ?_
    refine slit 96 true rfl rfl ?_
    refine st rfl rfl rfl (yv_pick rfl rfl (fun _ => rfl) (fun _ => rfl) rfl) ?_
    refine st rfl rfl rfl (yv_move rfl rfl) ?_
    refine st rfl rfl rfl (yv_callP rfl rfl .nil cal9 (CvL.refl _) (awake_p)) ?_
    refine st rfl rfl rfl (yv_pick rfl rfl (fun _ => rfl) (fun _ => rfl) rfl) ?_
    refine st rfl rfl rfl (yv_assign rfl rfl) ?_
    refine rg_nil (hK _ ?_); clear hK K
    refine c_ret (hret _ _ H0 (.tmp rfl .nil) (fun _ _ h => by cases h) ?_)
    exact rfl
end Go.Pv
