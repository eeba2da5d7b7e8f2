import Derived.Test.YtpbcnilkippahaaPvT
import Derived.Test.YtpbcnilkippahaaProg
set_option linter.unusedVariables false
set_option linter.unusedSimpArgs false
namespace Go.Pv
open Go.Proofs
theorem mixed : Try.prog.follows .mixedOrders = true := by kernel_rfl
set_option maxRecDepth 10000
theorem sh3 : tySh Try.prog 3 = some (1, false) := by kernel_rfl
theorem sh4 : tySh Try.prog 4 = some (1, false) := by kernel_rfl
theorem sh9 : tySh Try.prog 9 = some (1, false) := by kernel_rfl
theorem sh59 : tySh Try.prog 59 = some (1, false) := by kernel_rfl
theorem sh69 : tySh Try.prog 69 = some (1, false) := by kernel_rfl
theorem sh70 : tySh Try.prog 70 = some (1, false) := by kernel_rfl
theorem by3 : bby Try.prog 3 = some 8 := by kernel_rfl
theorem by5 : bby Try.prog 5 = some 1 := by kernel_rfl
theorem bz3 : bsz Try.prog 3 = some (1, [.int .i64 0]) := by kernel_rfl
theorem bz5 : bsz Try.prog 5 = some (1, [.int .u8 0]) := by kernel_rfl
theorem cal29 : cal Try.prog 29 = true := by kernel_rfl
theorem cal31 : cal Try.prog 31 = true := by kernel_rfl
theorem cal39 : cal Try.prog 39 = true := by kernel_rfl
theorem cal40 : cal Try.prog 40 = true := by kernel_rfl
theorem cal42 : cal Try.prog 42 = true := by kernel_rfl
theorem cal50 : cal Try.prog 50 = true := by kernel_rfl
theorem cal51 : cal Try.prog 51 = true := by kernel_rfl
theorem cal56 : cal Try.prog 56 = true := by kernel_rfl
theorem cal57 : cal Try.prog 57 = true := by kernel_rfl
theorem fo72_0 : fOff Try.prog 72 0 = some 0 := by kernel_rfl
theorem fo72_1 : fOff Try.prog 72 1 = some 1 := by kernel_rfl
theorem fo87_0 : fOff Try.prog 87 0 = some 0 := by kernel_rfl
theorem fo87_1 : fOff Try.prog 87 1 = some 1 := by kernel_rfl
theorem z72 : zeroOf Try.prog 72 = some [.pointer none, .slice none 0 0] := by kernel_rfl
theorem z87 : zeroOf Try.prog 87 = some [.string ⟨#[]⟩, .bool false] := by kernel_rfl
theorem sz79 : ((Try.prog.info? 72).map (·.size)) = some 2 := by kernel_rfl
theorem c79 : Try.prog.cellsOf 72 = 2 := by kernel_rfl
theorem c5 : Try.prog.cellsOf 5 = 1 := by kernel_rfl
theorem failP_c {H : AH} {id ver : Nat} {s : RS} (hob : H id = some (rdr 87 ver s)) : PC Try.prog 50 [.pt id ver 0 0] H (fun _ H' => H' = upd H id (some (rdr 87 ver ([], true)))) := by
  refine pc_of' (c := _) Try.func50 rfl rfl ?_
  intro Q hret hnorm
  refine c_reg ?_; intro K hK
  refine st rfl rfl rfl (yv_move rfl rfl) ?_
  refine st rfl rfl rfl (yv_move rfl rfl) ?_
  refine st rfl rfl rfl (yv_nilCheck rfl rfl (by first | exact .pp _ | exact .pt (rfl) rfl rfl | exact .pt (hob) rfl rfl | exact .pt (upd_same _ _ _) rfl rfl)) ?_
  refine st rfl rfl rfl (yv_fieldAddr rfl fo87_0 rfl (by first | exact .pp _ | exact .pt (rfl) rfl rfl | exact .pt (hob) rfl rfl | exact .pt (upd_same _ _ _) rfl rfl) (by first | exact .pt _ _ _ _ _ | exact .pp _ _)) ?_
  refine sstore rfl rfl (yl_store rfl sh9 rfl rfl (by first | exact rfl | exact hob | exact upd_same _ _ _) rfl rfl rfl rfl rfl rfl) ?_
  refine st rfl rfl rfl (yv_nilCheck rfl rfl (by first | exact .pp _ | exact .pt (rfl) rfl rfl | exact .pt (hob) rfl rfl | exact .pt (upd_same _ _ _) rfl rfl)) ?_
  refine st rfl rfl rfl (yv_fieldAddr rfl fo87_1 rfl (by first | exact .pp _ | exact .pt (rfl) rfl rfl | exact .pt (hob) rfl rfl | exact .pt (upd_same _ _ _) rfl rfl) (by first | exact .pt _ _ _ _ _ | exact .pp _ _)) ?_
  refine sstore rfl rfl (yl_store rfl sh4 rfl rfl (by first | exact rfl | exact hob | exact upd_same _ _ _) rfl rfl rfl rfl rfl rfl) ?_
  refine rg_nil (hK _ ?_); clear hK K
  refine c_nil (hnorm _ _ _ .nil (fun _ _ h => h) ?_)
  exact upd_upd _ _ _ _
theorem numP_c {H : AH} {id ver : Nat} {s : RS} (hob : H id = some (rdr 87 ver s)) (hl : s.1.length ≤ 9223372036854775806) : PC Try.prog 31 [.pt id ver 0 0] H (fun y H' => y = int (numV s) ∧ H' = upd H id (some (rdr 87 ver (numR s)))) := by
  refine pc_of' (c := _) Try.func31 rfl rfl ?_
  intro Q hret hnorm
  refine c_seq ?_
  refine c_reg ?_; intro K hK
  refine st rfl rfl rfl (yv_assign rfl rfl) ?_
  refine rg_nil (hK _ ?_); clear hK K
  refine c_seq ?_
  refine c_reg ?_; intro K hK
  refine st rfl rfl rfl (yv_assign rfl rfl) ?_
  refine rg_nil (hK _ ?_); clear hK K
  refine c_seq ?_
  refine c_seq ?_
  refine c_reg ?_; intro K hK
  refine st rfl rfl rfl (yv_move rfl rfl) ?_
  refine st rfl rfl rfl (yv_nilCheck rfl rfl (by first | exact .pp _ | exact .pt (rfl) rfl rfl | exact .pt (hob) rfl rfl | exact .pt (upd_same _ _ _) rfl rfl)) ?_
  refine st rfl rfl rfl (yv_fieldAddr rfl fo87_0 rfl (by first | exact .pp _ | exact .pt (rfl) rfl rfl | exact .pt (hob) rfl rfl | exact .pt (upd_same _ _ _) rfl rfl) (by first | exact .pt _ _ _ _ _ | exact .pp _ _)) ?_
  refine st rfl rfl rfl (yv_load rfl sh9 rfl (by first | exact .pp _ | exact .pt (rfl) rfl rfl | exact .pt (hob) rfl rfl | exact .pt (upd_same _ _ _) rfl rfl) rfl) ?_
  refine st rfl rfl rfl (yv_len_str rfl Try.underlying9 rfl) ?_
  refine st rfl rfl rfl (yv_move rfl rfl) ?_
  refine rg_nil (hK _ ?_); clear hK K
  refine c_block ?_; intro Q1 bn1 bx1 br1 bo1
  refine c_loop (ι := Nat) (fun k => ⟨kn [(0, .pt id ver 0 0), (3, .sc (.int .u64 (pre s.1 k : Nat))), (10, int s.1.length), (11, int k)], H⟩) (fun k => k ≤ 9 ∧ k ≤ s.1.length ∧ rd s.1 0 0 = rd (s.1.drop k) k (pre s.1 k) ∧ pre s.1 k < 2 ^ (7 * k)) (fun k => s.1.length - k) 0 (by simp [pre]) (le_kn' ⟨rfl, rfl, rfl, rfl, trivial⟩) ?_
  rintro k ⟨hk9, hkl, hrd0, hpre⟩ Q2 ln2 lx2 lr2
  refine c_seq ?_
  refine c_reg ?_; intro K hK
  refine st rfl rfl rfl (yv_lss rfl rfl rfl) ?_
  refine rg_nil (hK _ ?_); clear hK K
  refine c_seq ?_
  refine c_dec rfl ?_ ?_
  · intro h12
    have hklt : k < s.1.length := by omega
    obtain ⟨c, hget⟩ : ∃ c, s.1[k]? = some c := ⟨_, List.getElem?_eq_getElem hklt⟩
    have hc := c.toNat_lt
    have hc : c.toNat < 256 := by simpa using hc
    have hp9 := pow_le9 hk9
    refine c_skip ?_
    refine c_seq ?_
    refine c_block ?_; intro Q3 bn3 bx3 br3 bo3
    refine c_seq ?_
    refine c_reg ?_; intro K hK
    refine st rfl rfl rfl (yv_move rfl rfl) ?_
    refine st rfl rfl rfl (yv_assign rfl rfl) ?_
    refine rg_nil (hK _ ?_); clear hK K
    refine c_seq ?_
    refine c_reg ?_; intro K hK
    refine st rfl rfl rfl (yv_move rfl rfl) ?_
    refine st rfl rfl rfl (yv_nilCheck rfl rfl (by first | exact .pp _ | exact .pt (rfl) rfl rfl | exact .pt (hob) rfl rfl | exact .pt (upd_same _ _ _) rfl rfl)) ?_
    refine st rfl rfl rfl (yv_fieldAddr rfl fo87_0 rfl (by first | exact .pp _ | exact .pt (rfl) rfl rfl | exact .pt (hob) rfl rfl | exact .pt (upd_same _ _ _) rfl rfl) (by first | exact .pt _ _ _ _ _ | exact .pp _ _)) ?_
    refine st rfl rfl rfl (yv_load rfl sh9 rfl (by first | exact .pp _ | exact .pt (rfl) rfl rfl | exact .pt (hob) rfl rfl | exact .pt (upd_same _ _ _) rfl rfl) rfl) ?_
    refine st rfl rfl rfl (yv_move rfl rfl) ?_
    refine st rfl rfl rfl (yv_index_str rfl Try.underlying9 rfl rfl rfl hget) ?_
    refine st rfl rfl rfl (yv_convInt rfl Try.underlying5 Try.underlying88 rfl (wrapu64 (by omega))) ?_
    refine st rfl rfl rfl (yv_assign rfl rfl) ?_
    refine rg_nil (hK _ ?_); clear hK K
    refine c_seq ?_
    refine c_seq ?_
    refine c_reg ?_; intro K hK
    refine st rfl rfl rfl (yv_move rfl rfl) ?_
    refine st rfl rfl rfl (yv_gtr rfl rfl rfl) ?_
    refine slit 22 false rfl (decide_eq_false (by omega)) ?_
    refine st rfl rfl rfl (yv_move rfl rfl) ?_
    refine st rfl rfl rfl (yv_move rfl rfl) ?_
    refine st rfl rfl rfl (yv_eql rfl rfl rfl) ?_
    refine st rfl rfl rfl (yv_move rfl rfl) ?_
    refine sdec 26 rfl ?_ ?_
    · intro g26
      have hk9e : k = 9 := by omega
      refine st rfl rfl rfl (yv_move rfl rfl) ?_
      refine st rfl rfl rfl (yv_gtr rfl rfl rfl) ?_
      refine st rfl rfl rfl (yv_pick rfl rfl (fun _ => rfl) (fun _ => rfl) rfl) ?_
      refine st rfl rfl rfl (yv_pick rfl rfl (fun _ => rfl) (fun _ => rfl) rfl) ?_
      refine rg_nil (hK _ ?_); clear hK K
      refine c_dec rfl ?_ ?_
      · intro h30
        have hrd : rd s.1 0 0 = none := by rw [hrd0]; exact rd_stop hget (.inr ⟨by omega, by omega⟩)
        refine c_exit (bo3 _ _ (by decide) (lx2 _ _ (bx1 _ ?_)))
        refine c_seq ?_
        refine c_reg ?_; intro K hK
        refine st rfl rfl rfl (yv_move rfl rfl) ?_
        refine se rfl rfl rfl (yl_call rfl rfl (.cons rfl .nil) cal50 (failP_c hob)) ?_
        rintro _ _ rfl
        refine rg_nil (hK _ ?_); clear hK K
        refine c_seq ?_
        refine c_reg ?_; intro K hK
        refine st rfl rfl rfl (yv_assign rfl rfl) ?_
        refine rg_nil (hK _ ?_); clear hK K
        refine c_ret (hret _ _ _ (.tmp rfl .nil) (fun _ _ h => h) ?_)
        first
        | (obtain ⟨e1, e2⟩ := num_none hrd; rw [e1, e2]; exact ⟨rfl, rfl⟩)
        | (obtain ⟨e1, e2⟩ := num_some hrd; rw [e1, e2, ← hz]; refine ⟨rfl, ?_⟩; rw [List.take_length]; rfl)
        | (obtain ⟨e1, e2⟩ := num_some hrd; rw [e1, e2]; refine ⟨rfl, ?_⟩; rw [List.take_length]; rfl)
      · intro h30
        refine c_skip ?_
        refine c_seq ?_
        have hstop : ¬ (9 < k ∨ (k = 9 ∧ 1 < c.toNat)) := by omega
        have hsh : c.toNat % 128 * 2 ^ (7 * k) < 2 ^ 64 := shl_ok hk9 (by omega) (by omega)
        have hor : pre s.1 k ||| c.toNat % 128 * 2 ^ (7 * k) = pre s.1 k + c.toNat % 128 * 2 ^ (7 * k) := or_shift hpre
        have hpl : pre s.1 k < 2 ^ 64 := by omega
        have hpn : pre s.1 (k + 1) = pre s.1 k + c.toNat % 128 * 2 ^ (7 * k) := by simp only [pre]; rw [getD_of hget]
        have hpn64 : pre s.1 (k + 1) < 2 ^ 64 := by rw [hpn, ← hor]; exact Nat.or_lt_two_pow hpl hsh
        refine c_reg ?_; intro K hK
        refine st rfl rfl rfl (yv_move rfl rfl) ?_
        refine st rfl rfl rfl (yv_move rfl rfl) ?_
        refine st rfl rfl rfl (yv_rem (r := ((c.toNat % 128 : Nat) : Int)) rfl rfl rfl (by decide) rfl) ?_
        refine st rfl rfl rfl (yv_move rfl rfl) ?_
        refine st rfl rfl rfl (yv_mul rfl rfl rfl (wrap64 (by omega))) ?_
        refine st rfl rfl rfl (yv_shl rfl rfl rfl (by omega) (shl_u64 hk9 hsh)) ?_
        refine st rfl rfl rfl (yv_or (r := ((pre s.1 (k + 1) : Nat) : Int)) rfl rfl rfl (by rw [or_u64 hpl hsh, hor, hpn])) ?_
        refine st rfl rfl rfl (yv_assign rfl rfl) ?_
        refine rg_nil (hK _ ?_); clear hK K
        refine c_seq ?_
        refine c_seq ?_
        refine c_reg ?_; intro K hK
        refine st rfl rfl rfl (yv_move rfl rfl) ?_
        refine st rfl rfl rfl (yv_geq rfl rfl rfl) ?_
        refine rg_nil (hK _ ?_); clear hK K
        refine c_dec rfl ?_ ?_
        · intro h39
          refine c_exit (bx3 _ ?_)
          refine c_reg ?_; intro K hK
          refine st rfl rfl rfl (yv_add rfl rfl rfl (wrap64 (by omega))) ?_
          refine st rfl rfl rfl (yv_move rfl rfl) ?_
          refine rg_nil (hK _ ?_); clear hK K
          refine c_nil (ln2 _ ⟨k + 1, ⟨?_, by omega, ?_, pre_lt _ hpre⟩, by omega, le_kn' ⟨rfl, rfl, rfl, rfl, trivial⟩⟩)
          · omega
          · rw [hrd0, rd_more hget (by omega) (by omega)]; simp only [pre]; rw [getD_of hget]
        · intro h39
          refine c_skip ?_
          refine c_seq ?_
          refine c_seq ?_
          refine c_reg ?_; intro K hK
          refine st rfl rfl rfl (yv_move rfl rfl) ?_
          refine st rfl rfl rfl (yv_eql rfl rfl rfl) ?_
          refine st rfl rfl rfl (yv_move rfl rfl) ?_
          refine sdec 42 rfl ?_ ?_
          · intro g42
            have hc0 : c.toNat = 0 := by omega
            refine st rfl rfl rfl (yv_move rfl rfl) ?_
            refine st rfl rfl rfl (yv_gtr rfl rfl rfl) ?_
            refine st rfl rfl rfl (yv_pick rfl rfl (fun _ => rfl) (fun _ => rfl) rfl) ?_
            refine rg_nil (hK _ ?_); clear hK K
            refine c_dec rfl ?_ ?_
            · intro h45
              have hrd : rd s.1 0 0 = none := by rw [hrd0]; exact rd_zero hget hc0 (by omega)
              refine c_exit (bo3 _ _ (by decide) (lx2 _ _ (bx1 _ ?_)))
              refine c_seq ?_
              refine c_reg ?_; intro K hK
              refine st rfl rfl rfl (yv_move rfl rfl) ?_
              refine se rfl rfl rfl (yl_call rfl rfl (.cons rfl .nil) cal50 (failP_c hob)) ?_
              rintro _ _ rfl
              refine rg_nil (hK _ ?_); clear hK K
              refine c_seq ?_
              refine c_reg ?_; intro K hK
              refine st rfl rfl rfl (yv_assign rfl rfl) ?_
              refine rg_nil (hK _ ?_); clear hK K
              refine c_ret (hret _ _ _ (.tmp rfl .nil) (fun _ _ h => h) ?_)
              first
              | (obtain ⟨e1, e2⟩ := num_none hrd; rw [e1, e2]; exact ⟨rfl, rfl⟩)
              | (obtain ⟨e1, e2⟩ := num_some hrd; rw [e1, e2, ← hz]; refine ⟨rfl, ?_⟩; rw [List.take_length]; rfl)
              | (obtain ⟨e1, e2⟩ := num_some hrd; rw [e1, e2]; refine ⟨rfl, ?_⟩; rw [List.take_length]; rfl)
            · intro h45
              refine c_skip ?_
              refine c_seq ?_
              have hrd : rd s.1 0 0 = some (pre s.1 (k + 1), s.1.drop (k + 1)) := by rw [hrd0, rd_last hget hstop (by omega) (by omega), hpn]
              refine c_reg ?_; intro K hK
              refine st rfl rfl rfl (yv_move rfl rfl) ?_
              refine st rfl rfl rfl (yv_move rfl rfl) ?_
              refine st rfl rfl rfl (yv_nilCheck rfl rfl (by first | exact .pp _ | exact .pt (rfl) rfl rfl | exact .pt (hob) rfl rfl | exact .pt (upd_same _ _ _) rfl rfl)) ?_
              refine st rfl rfl rfl (yv_fieldAddr rfl fo87_0 rfl (by first | exact .pp _ | exact .pt (rfl) rfl rfl | exact .pt (hob) rfl rfl | exact .pt (upd_same _ _ _) rfl rfl) (by first | exact .pt _ _ _ _ _ | exact .pp _ _)) ?_
              refine st rfl rfl rfl (yv_load rfl sh9 rfl (by first | exact .pp _ | exact .pt (rfl) rfl rfl | exact .pt (hob) rfl rfl | exact .pt (upd_same _ _ _) rfl rfl) rfl) ?_
              refine st rfl rfl rfl (yv_move rfl rfl) ?_
              refine st rfl rfl rfl (yv_add rfl rfl rfl (wrap64 (by omega))) ?_
              refine st rfl rfl rfl (yv_slice_str rfl Try.underlying9 rfl (.yes (i := k + 1) rfl (by omega)) .no (by omega) (Nat.le_refl _)) ?_
              refine st rfl rfl rfl (yv_nilCheck rfl rfl (by first | exact .pp _ | exact .pt (rfl) rfl rfl | exact .pt (hob) rfl rfl | exact .pt (upd_same _ _ _) rfl rfl)) ?_
              refine st rfl rfl rfl (yv_fieldAddr rfl fo87_0 rfl (by first | exact .pp _ | exact .pt (rfl) rfl rfl | exact .pt (hob) rfl rfl | exact .pt (upd_same _ _ _) rfl rfl) (by first | exact .pt _ _ _ _ _ | exact .pp _ _)) ?_
              refine sstore rfl rfl (yl_store rfl sh9 rfl rfl (by first | exact rfl | exact hob | exact upd_same _ _ _) rfl rfl rfl rfl rfl rfl) ?_
              refine rg_nil (hK _ ?_); clear hK K
              refine c_seq ?_
              refine c_reg ?_; intro K hK
              refine st rfl rfl rfl (yv_move rfl rfl) ?_
              refine st rfl rfl rfl (yv_shr rfl rfl rfl (by omega) shr_one) ?_
              refine st rfl rfl rfl (yv_convInt rfl Try.underlying88 Try.underlying3 rfl (wrap64 (by omega))) ?_
              refine st rfl rfl rfl (yv_move rfl rfl) ?_
              refine st rfl rfl rfl (yv_and rfl rfl rfl (and_one_u64' hpn64)) ?_
              refine st rfl rfl rfl (yv_convInt rfl Try.underlying88 Try.underlying3 rfl (wrap64 (by omega))) ?_
              refine st rfl rfl rfl (yv_neg (r := -((pre s.1 (k + 1) % 2 : Nat) : Int)) rfl rfl (by rw [wrap64 (by omega)]; omega)) ?_
              refine st rfl rfl rfl (yv_xor (r := unzz (pre s.1 (k + 1))) rfl rfl rfl (by rw [xor_neg (show pre s.1 (k + 1) / 2 < 2 ^ 63 by omega) (show pre s.1 (k + 1) % 2 = 0 ∨ pre s.1 (k + 1) % 2 = 1 by omega)]; exact (unzz_eq _).symm)) ?_
              refine st rfl rfl rfl (yv_assign rfl rfl) ?_
              refine rg_nil (hK _ ?_); clear hK K
              refine c_ret (br3 _ (lr2 _ (br1 _ (hret _ _ _ (.tmp rfl .nil) (fun _ _ h => h) ?_))))
              first
              | (obtain ⟨e1, e2⟩ := num_none hrd; rw [e1, e2]; exact ⟨rfl, rfl⟩)
              | (obtain ⟨e1, e2⟩ := num_some hrd; rw [e1, e2, ← hz]; refine ⟨rfl, ?_⟩; rw [List.take_length]; rfl)
              | (obtain ⟨e1, e2⟩ := num_some hrd; rw [e1, e2]; refine ⟨rfl, ?_⟩; rw [List.take_length]; rfl)
          · intro g42
            have hc0 : c.toNat ≠ 0 := by omega
            refine sk rfl rfl rfl ?_
            refine sk rfl rfl rfl ?_
            refine st rfl rfl rfl (yv_pick rfl rfl (fun _ => rfl) (fun _ => rfl) rfl) ?_
            refine rg_nil (hK _ ?_); clear hK K
            refine c_false rfl ?_
            refine c_skip ?_
            refine c_seq ?_
            have hrd : rd s.1 0 0 = some (pre s.1 (k + 1), s.1.drop (k + 1)) := by rw [hrd0, rd_last hget hstop (by omega) (by omega), hpn]
            refine c_reg ?_; intro K hK
            refine st rfl rfl rfl (yv_move rfl rfl) ?_
            refine st rfl rfl rfl (yv_move rfl rfl) ?_
            refine st rfl rfl rfl (yv_nilCheck rfl rfl (by first | exact .pp _ | exact .pt (rfl) rfl rfl | exact .pt (hob) rfl rfl | exact .pt (upd_same _ _ _) rfl rfl)) ?_
            refine st rfl rfl rfl (yv_fieldAddr rfl fo87_0 rfl (by first | exact .pp _ | exact .pt (rfl) rfl rfl | exact .pt (hob) rfl rfl | exact .pt (upd_same _ _ _) rfl rfl) (by first | exact .pt _ _ _ _ _ | exact .pp _ _)) ?_
            refine st rfl rfl rfl (yv_load rfl sh9 rfl (by first | exact .pp _ | exact .pt (rfl) rfl rfl | exact .pt (hob) rfl rfl | exact .pt (upd_same _ _ _) rfl rfl) rfl) ?_
            refine st rfl rfl rfl (yv_move rfl rfl) ?_
            refine st rfl rfl rfl (yv_add rfl rfl rfl (wrap64 (by omega))) ?_
            refine st rfl rfl rfl (yv_slice_str rfl Try.underlying9 rfl (.yes (i := k + 1) rfl (by omega)) .no (by omega) (Nat.le_refl _)) ?_
            refine st rfl rfl rfl (yv_nilCheck rfl rfl (by first | exact .pp _ | exact .pt (rfl) rfl rfl | exact .pt (hob) rfl rfl | exact .pt (upd_same _ _ _) rfl rfl)) ?_
            refine st rfl rfl rfl (yv_fieldAddr rfl fo87_0 rfl (by first | exact .pp _ | exact .pt (rfl) rfl rfl | exact .pt (hob) rfl rfl | exact .pt (upd_same _ _ _) rfl rfl) (by first | exact .pt _ _ _ _ _ | exact .pp _ _)) ?_
            refine sstore rfl rfl (yl_store rfl sh9 rfl rfl (by first | exact rfl | exact hob | exact upd_same _ _ _) rfl rfl rfl rfl rfl rfl) ?_
            refine rg_nil (hK _ ?_); clear hK K
            refine c_seq ?_
            refine c_reg ?_; intro K hK
            refine st rfl rfl rfl (yv_move rfl rfl) ?_
            refine st rfl rfl rfl (yv_shr rfl rfl rfl (by omega) shr_one) ?_
            refine st rfl rfl rfl (yv_convInt rfl Try.underlying88 Try.underlying3 rfl (wrap64 (by omega))) ?_
            refine st rfl rfl rfl (yv_move rfl rfl) ?_
            refine st rfl rfl rfl (yv_and rfl rfl rfl (and_one_u64' hpn64)) ?_
            refine st rfl rfl rfl (yv_convInt rfl Try.underlying88 Try.underlying3 rfl (wrap64 (by omega))) ?_
            refine st rfl rfl rfl (yv_neg (r := -((pre s.1 (k + 1) % 2 : Nat) : Int)) rfl rfl (by rw [wrap64 (by omega)]; omega)) ?_
            refine st rfl rfl rfl (yv_xor (r := unzz (pre s.1 (k + 1))) rfl rfl rfl (by rw [xor_neg (show pre s.1 (k + 1) / 2 < 2 ^ 63 by omega) (show pre s.1 (k + 1) % 2 = 0 ∨ pre s.1 (k + 1) % 2 = 1 by omega)]; exact (unzz_eq _).symm)) ?_
            refine st rfl rfl rfl (yv_assign rfl rfl) ?_
            refine rg_nil (hK _ ?_); clear hK K
            refine c_ret (br3 _ (lr2 _ (br1 _ (hret _ _ _ (.tmp rfl .nil) (fun _ _ h => h) ?_))))
            first
            | (obtain ⟨e1, e2⟩ := num_none hrd; rw [e1, e2]; exact ⟨rfl, rfl⟩)
            | (obtain ⟨e1, e2⟩ := num_some hrd; rw [e1, e2, ← hz]; refine ⟨rfl, ?_⟩; rw [List.take_length]; rfl)
            | (obtain ⟨e1, e2⟩ := num_some hrd; rw [e1, e2]; refine ⟨rfl, ?_⟩; rw [List.take_length]; rfl)
    · intro g26
      have hk9n : k ≠ 9 := by omega
      refine sk rfl rfl rfl ?_
      refine sk rfl rfl rfl ?_
      refine st rfl rfl rfl (yv_pick rfl rfl (fun _ => rfl) (fun _ => rfl) rfl) ?_
      refine st rfl rfl rfl (yv_pick rfl rfl (fun _ => rfl) (fun _ => rfl) rfl) ?_
      refine rg_nil (hK _ ?_); clear hK K
      refine c_false rfl ?_
      refine c_skip ?_
      refine c_seq ?_
      have hstop : ¬ (9 < k ∨ (k = 9 ∧ 1 < c.toNat)) := by omega
      have hsh : c.toNat % 128 * 2 ^ (7 * k) < 2 ^ 64 := shl_ok hk9 (by omega) (by omega)
      have hor : pre s.1 k ||| c.toNat % 128 * 2 ^ (7 * k) = pre s.1 k + c.toNat % 128 * 2 ^ (7 * k) := or_shift hpre
      have hpl : pre s.1 k < 2 ^ 64 := by omega
      have hpn : pre s.1 (k + 1) = pre s.1 k + c.toNat % 128 * 2 ^ (7 * k) := by simp only [pre]; rw [getD_of hget]
      have hpn64 : pre s.1 (k + 1) < 2 ^ 64 := by rw [hpn, ← hor]; exact Nat.or_lt_two_pow hpl hsh
      refine c_reg ?_; intro K hK
      refine st rfl rfl rfl (yv_move rfl rfl) ?_
      refine st rfl rfl rfl (yv_move rfl rfl) ?_
      refine st rfl rfl rfl (yv_rem (r := ((c.toNat % 128 : Nat) : Int)) rfl rfl rfl (by decide) rfl) ?_
      refine st rfl rfl rfl (yv_move rfl rfl) ?_
      refine st rfl rfl rfl (yv_mul rfl rfl rfl (wrap64 (by omega))) ?_
      refine st rfl rfl rfl (yv_shl rfl rfl rfl (by omega) (shl_u64 hk9 hsh)) ?_
      refine st rfl rfl rfl (yv_or (r := ((pre s.1 (k + 1) : Nat) : Int)) rfl rfl rfl (by rw [or_u64 hpl hsh, hor, hpn])) ?_
      refine st rfl rfl rfl (yv_assign rfl rfl) ?_
      refine rg_nil (hK _ ?_); clear hK K
      refine c_seq ?_
      refine c_seq ?_
      refine c_reg ?_; intro K hK
      refine st rfl rfl rfl (yv_move rfl rfl) ?_
      refine st rfl rfl rfl (yv_geq rfl rfl rfl) ?_
      refine rg_nil (hK _ ?_); clear hK K
      refine c_dec rfl ?_ ?_
      · intro h39
        refine c_exit (bx3 _ ?_)
        refine c_reg ?_; intro K hK
        refine st rfl rfl rfl (yv_add rfl rfl rfl (wrap64 (by omega))) ?_
        refine st rfl rfl rfl (yv_move rfl rfl) ?_
        refine rg_nil (hK _ ?_); clear hK K
        refine c_nil (ln2 _ ⟨k + 1, ⟨?_, by omega, ?_, pre_lt _ hpre⟩, by omega, le_kn' ⟨rfl, rfl, rfl, rfl, trivial⟩⟩)
        · omega
        · rw [hrd0, rd_more hget (by omega) (by omega)]; simp only [pre]; rw [getD_of hget]
      · intro h39
        refine c_skip ?_
        refine c_seq ?_
        refine c_seq ?_
        refine c_reg ?_; intro K hK
        refine st rfl rfl rfl (yv_move rfl rfl) ?_
        refine st rfl rfl rfl (yv_eql rfl rfl rfl) ?_
        refine st rfl rfl rfl (yv_move rfl rfl) ?_
        refine sdec 42 rfl ?_ ?_
        · intro g42
          have hc0 : c.toNat = 0 := by omega
          refine st rfl rfl rfl (yv_move rfl rfl) ?_
          refine st rfl rfl rfl (yv_gtr rfl rfl rfl) ?_
          refine st rfl rfl rfl (yv_pick rfl rfl (fun _ => rfl) (fun _ => rfl) rfl) ?_
          refine rg_nil (hK _ ?_); clear hK K
          refine c_dec rfl ?_ ?_
          · intro h45
            have hrd : rd s.1 0 0 = none := by rw [hrd0]; exact rd_zero hget hc0 (by omega)
            refine c_exit (bo3 _ _ (by decide) (lx2 _ _ (bx1 _ ?_)))
            refine c_seq ?_
            refine c_reg ?_; intro K hK
            refine st rfl rfl rfl (yv_move rfl rfl) ?_
            refine se rfl rfl rfl (yl_call rfl rfl (.cons rfl .nil) cal50 (failP_c hob)) ?_
            rintro _ _ rfl
            refine rg_nil (hK _ ?_); clear hK K
            refine c_seq ?_
            refine c_reg ?_; intro K hK
            refine st rfl rfl rfl (yv_assign rfl rfl) ?_
            refine rg_nil (hK _ ?_); clear hK K
            refine c_ret (hret _ _ _ (.tmp rfl .nil) (fun _ _ h => h) ?_)
            first
            | (obtain ⟨e1, e2⟩ := num_none hrd; rw [e1, e2]; exact ⟨rfl, rfl⟩)
            | (obtain ⟨e1, e2⟩ := num_some hrd; rw [e1, e2, ← hz]; refine ⟨rfl, ?_⟩; rw [List.take_length]; rfl)
            | (obtain ⟨e1, e2⟩ := num_some hrd; rw [e1, e2]; refine ⟨rfl, ?_⟩; rw [List.take_length]; rfl)
          · intro h45
            refine c_skip ?_
            refine c_seq ?_
            have hrd : rd s.1 0 0 = some (pre s.1 (k + 1), s.1.drop (k + 1)) := by rw [hrd0, rd_last hget hstop (by omega) (by omega), hpn]
            refine c_reg ?_; intro K hK
            refine st rfl rfl rfl (yv_move rfl rfl) ?_
            refine st rfl rfl rfl (yv_move rfl rfl) ?_
            refine st rfl rfl rfl (yv_nilCheck rfl rfl (by first | exact .pp _ | exact .pt (rfl) rfl rfl | exact .pt (hob) rfl rfl | exact .pt (upd_same _ _ _) rfl rfl)) ?_
            refine st rfl rfl rfl (yv_fieldAddr rfl fo87_0 rfl (by first | exact .pp _ | exact .pt (rfl) rfl rfl | exact .pt (hob) rfl rfl | exact .pt (upd_same _ _ _) rfl rfl) (by first | exact .pt _ _ _ _ _ | exact .pp _ _)) ?_
            refine st rfl rfl rfl (yv_load rfl sh9 rfl (by first | exact .pp _ | exact .pt (rfl) rfl rfl | exact .pt (hob) rfl rfl | exact .pt (upd_same _ _ _) rfl rfl) rfl) ?_
            refine st rfl rfl rfl (yv_move rfl rfl) ?_
            refine st rfl rfl rfl (yv_add rfl rfl rfl (wrap64 (by omega))) ?_
            refine st rfl rfl rfl (yv_slice_str rfl Try.underlying9 rfl (.yes (i := k + 1) rfl (by omega)) .no (by omega) (Nat.le_refl _)) ?_
            refine st rfl rfl rfl (yv_nilCheck rfl rfl (by first | exact .pp _ | exact .pt (rfl) rfl rfl | exact .pt (hob) rfl rfl | exact .pt (upd_same _ _ _) rfl rfl)) ?_
            refine st rfl rfl rfl (yv_fieldAddr rfl fo87_0 rfl (by first | exact .pp _ | exact .pt (rfl) rfl rfl | exact .pt (hob) rfl rfl | exact .pt (upd_same _ _ _) rfl rfl) (by first | exact .pt _ _ _ _ _ | exact .pp _ _)) ?_
            refine sstore rfl rfl (yl_store rfl sh9 rfl rfl (by first | exact rfl | exact hob | exact upd_same _ _ _) rfl rfl rfl rfl rfl rfl) ?_
            refine rg_nil (hK _ ?_); clear hK K
            refine c_seq ?_
            refine c_reg ?_; intro K hK
            refine st rfl rfl rfl (yv_move rfl rfl) ?_
            refine st rfl rfl rfl (yv_shr rfl rfl rfl (by omega) shr_one) ?_
            refine st rfl rfl rfl (yv_convInt rfl Try.underlying88 Try.underlying3 rfl (wrap64 (by omega))) ?_
            refine st rfl rfl rfl (yv_move rfl rfl) ?_
            refine st rfl rfl rfl (yv_and rfl rfl rfl (and_one_u64' hpn64)) ?_
            refine st rfl rfl rfl (yv_convInt rfl Try.underlying88 Try.underlying3 rfl (wrap64 (by omega))) ?_
            refine st rfl rfl rfl (yv_neg (r := -((pre s.1 (k + 1) % 2 : Nat) : Int)) rfl rfl (by rw [wrap64 (by omega)]; omega)) ?_
            refine st rfl rfl rfl (yv_xor (r := unzz (pre s.1 (k + 1))) rfl rfl rfl (by rw [xor_neg (show pre s.1 (k + 1) / 2 < 2 ^ 63 by omega) (show pre s.1 (k + 1) % 2 = 0 ∨ pre s.1 (k + 1) % 2 = 1 by omega)]; exact (unzz_eq _).symm)) ?_
            refine st rfl rfl rfl (yv_assign rfl rfl) ?_
            refine rg_nil (hK _ ?_); clear hK K
            refine c_ret (br3 _ (lr2 _ (br1 _ (hret _ _ _ (.tmp rfl .nil) (fun _ _ h => h) ?_))))
            first
            | (obtain ⟨e1, e2⟩ := num_none hrd; rw [e1, e2]; exact ⟨rfl, rfl⟩)
            | (obtain ⟨e1, e2⟩ := num_some hrd; rw [e1, e2, ← hz]; refine ⟨rfl, ?_⟩; rw [List.take_length]; rfl)
            | (obtain ⟨e1, e2⟩ := num_some hrd; rw [e1, e2]; refine ⟨rfl, ?_⟩; rw [List.take_length]; rfl)
        · intro g42
          have hc0 : c.toNat ≠ 0 := by omega
          refine sk rfl rfl rfl ?_
          refine sk rfl rfl rfl ?_
          refine st rfl rfl rfl (yv_pick rfl rfl (fun _ => rfl) (fun _ => rfl) rfl) ?_
          refine rg_nil (hK _ ?_); clear hK K
          refine c_false rfl ?_
          refine c_skip ?_
          refine c_seq ?_
          have hrd : rd s.1 0 0 = some (pre s.1 (k + 1), s.1.drop (k + 1)) := by rw [hrd0, rd_last hget hstop (by omega) (by omega), hpn]
          refine c_reg ?_; intro K hK
          refine st rfl rfl rfl (yv_move rfl rfl) ?_
          refine st rfl rfl rfl (yv_move rfl rfl) ?_
          refine st rfl rfl rfl (yv_nilCheck rfl rfl (by first | exact .pp _ | exact .pt (rfl) rfl rfl | exact .pt (hob) rfl rfl | exact .pt (upd_same _ _ _) rfl rfl)) ?_
          refine st rfl rfl rfl (yv_fieldAddr rfl fo87_0 rfl (by first | exact .pp _ | exact .pt (rfl) rfl rfl | exact .pt (hob) rfl rfl | exact .pt (upd_same _ _ _) rfl rfl) (by first | exact .pt _ _ _ _ _ | exact .pp _ _)) ?_
          refine st rfl rfl rfl (yv_load rfl sh9 rfl (by first | exact .pp _ | exact .pt (rfl) rfl rfl | exact .pt (hob) rfl rfl | exact .pt (upd_same _ _ _) rfl rfl) rfl) ?_
          refine st rfl rfl rfl (yv_move rfl rfl) ?_
          refine st rfl rfl rfl (yv_add rfl rfl rfl (wrap64 (by omega))) ?_
          refine st rfl rfl rfl (yv_slice_str rfl Try.underlying9 rfl (.yes (i := k + 1) rfl (by omega)) .no (by omega) (Nat.le_refl _)) ?_
          refine st rfl rfl rfl (yv_nilCheck rfl rfl (by first | exact .pp _ | exact .pt (rfl) rfl rfl | exact .pt (hob) rfl rfl | exact .pt (upd_same _ _ _) rfl rfl)) ?_
          refine st rfl rfl rfl (yv_fieldAddr rfl fo87_0 rfl (by first | exact .pp _ | exact .pt (rfl) rfl rfl | exact .pt (hob) rfl rfl | exact .pt (upd_same _ _ _) rfl rfl) (by first | exact .pt _ _ _ _ _ | exact .pp _ _)) ?_
          refine sstore rfl rfl (yl_store rfl sh9 rfl rfl (by first | exact rfl | exact hob | exact upd_same _ _ _) rfl rfl rfl rfl rfl rfl) ?_
          refine rg_nil (hK _ ?_); clear hK K
          refine c_seq ?_
          refine c_reg ?_; intro K hK
          refine st rfl rfl rfl (yv_move rfl rfl) ?_
          refine st rfl rfl rfl (yv_shr rfl rfl rfl (by omega) shr_one) ?_
          refine st rfl rfl rfl (yv_convInt rfl Try.underlying88 Try.underlying3 rfl (wrap64 (by omega))) ?_
          refine st rfl rfl rfl (yv_move rfl rfl) ?_
          refine st rfl rfl rfl (yv_and rfl rfl rfl (and_one_u64' hpn64)) ?_
          refine st rfl rfl rfl (yv_convInt rfl Try.underlying88 Try.underlying3 rfl (wrap64 (by omega))) ?_
          refine st rfl rfl rfl (yv_neg (r := -((pre s.1 (k + 1) % 2 : Nat) : Int)) rfl rfl (by rw [wrap64 (by omega)]; omega)) ?_
          refine st rfl rfl rfl (yv_xor (r := unzz (pre s.1 (k + 1))) rfl rfl rfl (by rw [xor_neg (show pre s.1 (k + 1) / 2 < 2 ^ 63 by omega) (show pre s.1 (k + 1) % 2 = 0 ∨ pre s.1 (k + 1) % 2 = 1 by omega)]; exact (unzz_eq _).symm)) ?_
          refine st rfl rfl rfl (yv_assign rfl rfl) ?_
          refine rg_nil (hK _ ?_); clear hK K
          refine c_ret (br3 _ (lr2 _ (br1 _ (hret _ _ _ (.tmp rfl .nil) (fun _ _ h => h) ?_))))
          first
          | (obtain ⟨e1, e2⟩ := num_none hrd; rw [e1, e2]; exact ⟨rfl, rfl⟩)
          | (obtain ⟨e1, e2⟩ := num_some hrd; rw [e1, e2, ← hz]; refine ⟨rfl, ?_⟩; rw [List.take_length]; rfl)
          | (obtain ⟨e1, e2⟩ := num_some hrd; rw [e1, e2]; refine ⟨rfl, ?_⟩; rw [List.take_length]; rfl)
  · intro h12
    have hrd : rd s.1 0 0 = none := by rw [hrd0]; exact rd_nil (by omega)
    refine c_exit (lx2 _ _ (bx1 _ ?_))
    refine c_seq ?_
    refine c_reg ?_; intro K hK
    refine st rfl rfl rfl (yv_move rfl rfl) ?_
    refine se rfl rfl rfl (yl_call rfl rfl (.cons rfl .nil) cal50 (failP_c hob)) ?_
    rintro _ _ rfl
    refine rg_nil (hK _ ?_); clear hK K
    refine c_seq ?_
    refine c_reg ?_; intro K hK
    refine st rfl rfl rfl (yv_assign rfl rfl) ?_
    refine rg_nil (hK _ ?_); clear hK K
    refine c_ret (hret _ _ _ (.tmp rfl .nil) (fun _ _ h => h) ?_)
    first
    | (obtain ⟨e1, e2⟩ := num_none hrd; rw [e1, e2]; exact ⟨rfl, rfl⟩)
    | (obtain ⟨e1, e2⟩ := num_some hrd; rw [e1, e2, ← hz]; refine ⟨rfl, ?_⟩; rw [List.take_length]; rfl)
    | (obtain ⟨e1, e2⟩ := num_some hrd; rw [e1, e2]; refine ⟨rfl, ?_⟩; rw [List.take_length]; rfl)
theorem countP_c {H : AH} {id ver : Nat} {s : RS} {most : Int} (hob : H id = some (rdr 87 ver s)) (hl : s.1.length ≤ 9223372036854775806) : PC Try.prog 29 [.pt id ver 0 0, int most] H (fun y H' => y = int (cntV s most) ∧ H' = upd H id (some (rdr 87 ver (cntR s most)))) := by
  refine pc_of' (c := _) Try.func29 rfl rfl ?_
  intro Q hret hnorm
  refine c_seq ?_
  refine c_reg ?_; intro K hK
  refine st rfl rfl rfl (yv_assign rfl rfl) ?_
  refine rg_nil (hK _ ?_); clear hK K
  refine c_seq ?_
  refine c_reg ?_; intro K hK
  refine st rfl rfl rfl (yv_move rfl rfl) ?_
  refine se rfl rfl rfl (yl_call rfl rfl (.cons rfl .nil) cal31 (numP_c hob hl)) ?_
  rintro _ _ ⟨rfl, rfl⟩
  refine st rfl rfl rfl (yv_assign rfl rfl) ?_
  refine rg_nil (hK _ ?_); clear hK K
  refine c_seq ?_
  refine c_seq ?_
  refine c_reg ?_; intro K hK
  refine st rfl rfl rfl (yv_move rfl rfl) ?_
  refine st rfl rfl rfl (yv_lss rfl rfl rfl) ?_
  refine st rfl rfl rfl (yv_move rfl rfl) ?_
  refine sdec 10 rfl ?_ ?_
  · intro g10
    have hcnd : numV s < 0 ∨ most < numV s := by omega
    refine sk rfl rfl rfl ?_
    refine sk rfl rfl rfl ?_
    refine sk rfl rfl rfl ?_
    refine st rfl rfl rfl (yv_pick rfl rfl (fun _ => rfl) (fun _ => rfl) rfl) ?_
    refine rg_nil (hK _ ?_); clear hK K
    refine c_true rfl ?_
    refine c_seq ?_
    refine c_reg ?_; intro K hK
    refine st rfl rfl rfl (yv_move rfl rfl) ?_
    refine se rfl rfl rfl (yl_call rfl rfl (.cons rfl .nil) cal50 (failP_c (upd_same _ _ _))) ?_
    rintro _ _ rfl
    refine rg_nil (hK _ ?_); clear hK K
    refine c_seq ?_
    refine c_reg ?_; intro K hK
    refine st rfl rfl rfl (yv_assign rfl rfl) ?_
    refine rg_nil (hK _ ?_); clear hK K
    refine c_ret (hret _ _ _ (.tmp rfl .nil) (fun _ _ h => h) ?_)
    refine ⟨?_, ?_⟩
    · unfold cntV; first | (rw [if_pos hcnd]; try rfl) | (rw [if_neg hcnd]; try rfl)
    · unfold cntR; first | (rw [if_pos hcnd]; exact upd_upd _ _ _ _) | (rw [if_neg hcnd]; try rfl)
  · intro g10
    refine st rfl rfl rfl (yv_move rfl rfl) ?_
    refine st rfl rfl rfl (yv_move rfl rfl) ?_
    refine st rfl rfl rfl (yv_gtr rfl rfl rfl) ?_
    refine st rfl rfl rfl (yv_pick rfl rfl (fun _ => rfl) (fun _ => rfl) rfl) ?_
    refine rg_nil (hK _ ?_); clear hK K
    refine c_dec rfl ?_ ?_
    · intro h14
      have hcnd : numV s < 0 ∨ most < numV s := by omega
      refine c_seq ?_
      refine c_reg ?_; intro K hK
      refine st rfl rfl rfl (yv_move rfl rfl) ?_
      refine se rfl rfl rfl (yl_call rfl rfl (.cons rfl .nil) cal50 (failP_c (upd_same _ _ _))) ?_
      rintro _ _ rfl
      refine rg_nil (hK _ ?_); clear hK K
      refine c_seq ?_
      refine c_reg ?_; intro K hK
      refine st rfl rfl rfl (yv_assign rfl rfl) ?_
      refine rg_nil (hK _ ?_); clear hK K
      refine c_ret (hret _ _ _ (.tmp rfl .nil) (fun _ _ h => h) ?_)
      refine ⟨?_, ?_⟩
      · unfold cntV; first | (rw [if_pos hcnd]; try rfl) | (rw [if_neg hcnd]; try rfl)
      · unfold cntR; first | (rw [if_pos hcnd]; exact upd_upd _ _ _ _) | (rw [if_neg hcnd]; try rfl)
    · intro h14
      have hcnd : ¬ (numV s < 0 ∨ most < numV s) := by omega
      refine c_skip ?_
      refine c_seq ?_
      refine c_reg ?_; intro K hK
      refine st rfl rfl rfl (yv_move rfl rfl) ?_
      refine st rfl rfl rfl (yv_assign rfl rfl) ?_
      refine rg_nil (hK _ ?_); clear hK K
      refine c_ret (hret _ _ _ (.tmp rfl .nil) (fun _ _ h => h) ?_)
      refine ⟨?_, ?_⟩
      · unfold cntV; first | (rw [if_pos hcnd]; try rfl) | (rw [if_neg hcnd]; try rfl)
      · unfold cntR; first | (rw [if_pos hcnd]; exact upd_upd _ _ _ _) | (rw [if_neg hcnd]; try rfl)
theorem badP_c {H : AH} {id ver : Nat} {s : RS} (hob : H id = some (rdr 87 ver s)) : PC Try.prog 32 [.pt id ver 0 0] H (fun y H' => y = boo s.2 ∧ H' = H) := by
  refine pc_of' (c := _) Try.func32 rfl rfl ?_
  intro Q hret hnorm
  refine c_seq ?_
  refine c_reg ?_; intro K hK
  refine st rfl rfl rfl (yv_assign rfl rfl) ?_
  refine rg_nil (hK _ ?_); clear hK K
  refine c_seq ?_
  refine c_reg ?_; intro K hK
  refine st rfl rfl rfl (yv_move rfl rfl) ?_
  refine st rfl rfl rfl (yv_nilCheck rfl rfl (by first | exact .pp _ | exact .pt (rfl) rfl rfl | exact .pt (hob) rfl rfl | exact .pt (upd_same _ _ _) rfl rfl)) ?_
  refine st rfl rfl rfl (yv_fieldAddr rfl fo87_1 rfl (by first | exact .pp _ | exact .pt (rfl) rfl rfl | exact .pt (hob) rfl rfl | exact .pt (upd_same _ _ _) rfl rfl) (by first | exact .pt _ _ _ _ _ | exact .pp _ _)) ?_
  refine st rfl rfl rfl (yv_load rfl sh4 rfl (by first | exact .pp _ | exact .pt (rfl) rfl rfl | exact .pt (hob) rfl rfl | exact .pt (upd_same _ _ _) rfl rfl) rfl) ?_
  refine st rfl rfl rfl (yv_assign rfl rfl) ?_
  refine rg_nil (hK _ ?_); clear hK K
  refine c_ret (hret _ _ _ (.tmp rfl .nil) (fun _ _ h => h) ?_)
  exact ⟨rfl, rfl⟩
theorem leftP_c {H : AH} {id ver : Nat} {s : RS} (hob : H id = some (rdr 87 ver s)) : PC Try.prog 33 [.pt id ver 0 0] H (fun y H' => y = int s.1.length ∧ H' = H) := by
  refine pc_of' (c := _) Try.func33 rfl rfl ?_
  intro Q hret hnorm
  refine c_seq ?_
  refine c_reg ?_; intro K hK
  refine st rfl rfl rfl (yv_assign rfl rfl) ?_
  refine rg_nil (hK _ ?_); clear hK K
  refine c_seq ?_
  refine c_reg ?_; intro K hK
  refine st rfl rfl rfl (yv_move rfl rfl) ?_
  refine st rfl rfl rfl (yv_nilCheck rfl rfl (by first | exact .pp _ | exact .pt (rfl) rfl rfl | exact .pt (hob) rfl rfl | exact .pt (upd_same _ _ _) rfl rfl)) ?_
  refine st rfl rfl rfl (yv_fieldAddr rfl fo87_0 rfl (by first | exact .pp _ | exact .pt (rfl) rfl rfl | exact .pt (hob) rfl rfl | exact .pt (upd_same _ _ _) rfl rfl) (by first | exact .pt _ _ _ _ _ | exact .pp _ _)) ?_
  refine st rfl rfl rfl (yv_load rfl sh9 rfl (by first | exact .pp _ | exact .pt (rfl) rfl rfl | exact .pt (hob) rfl rfl | exact .pt (upd_same _ _ _) rfl rfl) rfl) ?_
  refine st rfl rfl rfl (yv_len_str rfl Try.underlying9 rfl) ?_
  refine st rfl rfl rfl (yv_assign rfl rfl) ?_
  refine rg_nil (hK _ ?_); clear hK K
  refine c_ret (hret _ _ _ (.tmp rfl .nil) (fun _ _ h => h) ?_)
  exact ⟨rfl, rfl⟩
theorem listok_c {H : AH} {id ver bx bv : Nat} {s : RS} (hb1 : H bx = some ⟨59, 1, true, true, bv, [[.pt id ver 0 0]]⟩) (hob : H id = some (rdr 87 ver s)) : PC Try.prog 51 [.pt bx bv 0 0] H (fun y H' => y = boo (!s.2) ∧ H' = H) := by
  refine pc_of' (c := _) Try.func51 rfl rfl ?_
  intro Q hret hnorm
  refine c_seq ?_
  refine c_reg ?_; intro K hK
  refine st rfl rfl rfl (yv_assign rfl rfl) ?_
  refine rg_nil (hK _ ?_); clear hK K
  refine c_seq ?_
  refine c_reg ?_; intro K hK
  refine st rfl rfl rfl (yv_load rfl sh59 rfl (by first | exact .pp _ | exact .pt (rfl) rfl rfl | exact .pt (hob) rfl rfl | exact .pt (upd_same _ _ _) rfl rfl | exact .pt (hb1) rfl rfl | exact .pt ((upd_ne _ _ hne).trans hob) rfl rfl | exact .pt ((upd_ne _ _ hne1).trans hb1) rfl rfl | exact .pt (hb2) rfl rfl | exact .pt (hb3) rfl rfl) rfl) ?_
  refine st rfl rfl rfl (yv_nilCheck rfl rfl (by first | exact .pp _ | exact .pt (rfl) rfl rfl | exact .pt (hob) rfl rfl | exact .pt (upd_same _ _ _) rfl rfl | exact .pt (hb1) rfl rfl | exact .pt ((upd_ne _ _ hne).trans hob) rfl rfl | exact .pt ((upd_ne _ _ hne1).trans hb1) rfl rfl | exact .pt (hb2) rfl rfl | exact .pt (hb3) rfl rfl)) ?_
  refine st rfl rfl rfl (yv_fieldAddr rfl fo87_1 rfl (by first | exact .pp _ | exact .pt (rfl) rfl rfl | exact .pt (hob) rfl rfl | exact .pt (upd_same _ _ _) rfl rfl | exact .pt (hb1) rfl rfl | exact .pt ((upd_ne _ _ hne).trans hob) rfl rfl | exact .pt ((upd_ne _ _ hne1).trans hb1) rfl rfl | exact .pt (hb2) rfl rfl | exact .pt (hb3) rfl rfl) (by first | exact .pt _ _ _ _ _ | exact .pp _ _)) ?_
  refine st rfl rfl rfl (yv_load rfl sh4 rfl (by first | exact .pp _ | exact .pt (rfl) rfl rfl | exact .pt (hob) rfl rfl | exact .pt (upd_same _ _ _) rfl rfl | exact .pt (hb1) rfl rfl | exact .pt ((upd_ne _ _ hne).trans hob) rfl rfl | exact .pt ((upd_ne _ _ hne1).trans hb1) rfl rfl | exact .pt (hb2) rfl rfl | exact .pt (hb3) rfl rfl) rfl) ?_
  refine st rfl rfl rfl (yv_not rfl rfl rfl) ?_
  refine st rfl rfl rfl (yv_assign rfl rfl) ?_
  refine rg_nil (hK _ ?_); clear hK K
  refine c_ret (hret _ _ _ (.tmp rfl .nil) (fun _ _ h => h) ?_)
  exact ⟨rfl, rfl⟩
theorem listP_c {H : AH} {id ver : Nat} {s : RS} {most : Int} (hob : H id = some (rdr 87 ver s)) (hl : s.1.length ≤ 1099511627776) (hs : okS s) (hf2 : H 30002 = none) (hf5 : H 30005 = none) : PC Try.prog 30 [.pt id ver 0 0, int most] H (fun y H' => y = ints (lstV s most) ∧ H' = upd H id (some (rdr 87 ver (lstR s most)))) := by
  have n2 : id ≠ 30002 := fun e => by rw [e, hf2] at hob; cases hob
  have n5 : id ≠ 30005 := fun e => by rw [e, hf5] at hob; cases hob
  have hs1 := okS_cnt hs most
  have hc0 := cntV_nonneg s most
  have hcl := cntR_len s most
  have n25 : 30002 ≠ 30005 := by decide
  have hb5 : ∀ v2, upd H 30002 (some (⟨59, 1, true, true, v2, [[.pt id ver 0 0]]⟩ : AObj)) 30005 = none := fun v2 => (upd_ne _ _ (Ne.symm n25)).trans hf5
  refine pc_of' (c := _) Try.func30 rfl rfl ?_
  intro Q hret hnorm
  refine c_seq ?_
  refine c_reg ?_; intro K hK
  refine se rfl rfl rfl (yl_box 30002 .any rfl rfl rfl) ?_
  rintro _ _ ⟨v2, -, rfl, rfl⟩
  refine st rfl rfl rfl (yv_assign rfl rfl) ?_
  refine rg_nil (hK _ ?_); clear hK K
  refine c_seq ?_
  refine c_reg ?_; intro K hK
  refine st rfl rfl rfl (yv_assign rfl rfl) ?_
  refine rg_nil (hK _ ?_); clear hK K
  refine c_seq ?_
  refine c_reg ?_; intro K hK
  refine st rfl rfl rfl (yv_load rfl sh59 rfl (by first | exact .pp _ | exact .pt (rfl) rfl rfl | exact .pt (upd_same _ _ _) rfl rfl | exact .pt ((upd_ne _ _ n2).trans hob) rfl rfl | exact .pt (hbx) rfl rfl | exact .pt (upd_at (Ne.symm n5) rfl) rfl rfl) rfl) ?_
  refine st rfl rfl rfl (yv_makeFunc rfl (.cons rfl .nil) .nil) ?_
  refine st rfl rfl rfl (yv_makeFunc rfl .nil (.cons rfl .nil)) ?_
  refine st rfl rfl rfl (yv_assign rfl rfl) ?_
  refine st rfl rfl rfl (yv_assign rfl rfl) ?_
  refine rg_nil (hK _ ?_); clear hK K
  refine c_seq ?_
  refine c_seq ?_
  refine c_reg ?_; intro K hK
  have hbx := upd_same H 30002 (some (⟨59, 1, true, true, v2, [[.pt id ver 0 0]]⟩ : AObj))
  refine st rfl rfl rfl (yv_load rfl sh59 rfl (by first | exact .pp _ | exact .pt (rfl) rfl rfl | exact .pt (upd_same _ _ _) rfl rfl | exact .pt ((upd_ne _ _ n2).trans hob) rfl rfl | exact .pt (hbx) rfl rfl | exact .pt (upd_at (Ne.symm n5) rfl) rfl rfl) rfl) ?_
  refine st rfl rfl rfl (yv_move rfl rfl) ?_
  refine se rfl rfl rfl (yl_call rfl rfl (.cons rfl (.cons rfl .nil)) cal29 (countP_c ((upd_ne _ _ n2).trans hob) (by omega))) ?_
  rintro _ _ ⟨rfl, rfl⟩
  refine st rfl rfl rfl (yv_move rfl rfl) ?_
  refine rg_nil (hK _ ?_); clear hK K
  refine c_block ?_; intro Q1 bn1 bx1 br1 bo1
  refine c_nilobj 5 30005 3 1 rfl ((upd_ne _ _ (Ne.symm n5)).trans (hb5 v2)) ?_
  intro v5
  refine c_loop2 (ι := Nat) (κ := Nat) (fun k lv => ⟨kn [(6, .fn (.func 31) [.pt id ver 0 0] []), (7, .fn (.func 51) [] [.pt 30002 v2 0 0]), (14, int (cntV s most)), (15, int k), (5, .sl 30005 lv 0 k)], upd (upd (upd H 30002 (some ⟨59, 1, true, true, v2, [[.pt id ver 0 0]]⟩)) id (some (rdr 87 ver (nums k (cntR s most)).2))) 30005 (some (⟨3, 1, true, true, lv, (nums k (cntR s most)).1.map fun n => [int n]⟩ : AObj))⟩) (fun k lv => k ≤ (cntV s most).toNat ∧ (0 < k → (nums k (cntR s most)).2.2 = false)) (fun k lv => (cntV s most).toNat - k) 0 v5 ⟨Nat.zero_le _, fun h => absurd h (by omega)⟩ (le_kn' ⟨rfl, rfl, rfl, rfl, rfl, trivial⟩) ?_
  rintro k lv ⟨hk, hnb⟩ Q2 ln2 lx2 lr2
  refine c_seq ?_
  refine c_reg ?_; intro K hK
  refine st rfl rfl rfl (yv_lss rfl rfl rfl) ?_
  refine rg_nil (hK _ ?_); clear hK K
  refine c_seq ?_
  refine c_dec rfl ?_ ?_
  · intro h16
    have hklt : k < (cntV s most).toNat := by omega
    have hku : (nums k (cntR s most)).2.1.length ≤ s.1.length := Nat.le_trans (nums_short _ _) hcl
    have hks : k ≤ s.1.length := by
      rcases Nat.eq_zero_or_pos k with h | h
      · omega
      · have := nums_used k _ hs1 (hnb h); omega
    have hlen : (nums k (cntR s most)).1.length = k := nums_len _ _
    refine c_skip ?_
    refine c_seq ?_
    refine c_block ?_; intro Q3 bn3 bx3 br3 bo3
    refine c_seq ?_
    refine c_reg ?_; intro K hK
    refine st rfl rfl rfl (yv_move rfl rfl) ?_
    refine se rfl rfl rfl (yl_call rfl rfl .nil cal31 (numP_c ((upd_ne _ _ n5).trans (upd_same _ _ _)) (by omega))) ?_
    rintro _ _ ⟨rfl, rfl⟩
    refine st rfl rfl rfl (yv_assign rfl rfl) ?_
    refine rg_nil (hK _ ?_); clear hK K
    refine c_seq ?_
    refine c_seq ?_
    refine c_reg ?_; intro K hK
    refine st rfl rfl rfl (yv_move rfl rfl) ?_
    refine se rfl rfl rfl (yl_call rfl rfl .nil cal51 (listok_c (by exact upd_at (Ne.symm n2) (upd_at (Ne.symm n2) (upd_same _ _ _))) (by exact upd_same _ _ _))) ?_
    rintro _ _ ⟨rfl, rfl⟩
    refine st rfl rfl rfl (yv_not (r := (nums (k + 1) (cntR s most)).2.2) rfl rfl (by simp [nums])) ?_
    refine rg_nil (hK _ ?_); clear hK K
    refine c_if rfl ?_ ?_
    · intro h21
      have hbe := nums_bad hs1 h21 (show k + 1 ≤ (cntV s most).toNat by omega)
      have hbk := nums_bad hs1 h21 (Nat.le_refl _)
      have hlv : lstV s most = [] := by unfold lstV; rw [hbe]; rfl
      have hlr : lstR s most = numR (nums k (cntR s most)).2 := hbe.trans hbk.symm
      refine c_seq ?_
      refine c_reg ?_; intro K hK
      refine st rfl rfl rfl (yv_assign rfl rfl) ?_
      refine rg_nil (hK _ ?_); clear hK K
      refine c_cv 4 (ints []) rfl (.nil 1) ?_
      refine c_ret (br3 _ (lr2 _ (br1 _ (hret _ _ (upd H id (some (rdr 87 ver (lstR s most)))) (.tmp rfl .nil) (fun t v h => by
  by_cases h0 : t = id
  · subst h0; rw [upd_same] at h; rw [← h, hlr]; first | exact upd_same _ _ _ | exact upd_at n5 (upd_at n5 (upd_same _ _ _))
  · rw [upd_ne _ _ h0] at h
    have h2 : t ≠ 30002 := fun e => by rw [e, hf2] at h; cases h
    have h5 : t ≠ 30005 := fun e => by rw [e, hf5] at h; cases h
    first
    | exact upd_at h0 (upd_at h5 (upd_at h0 (upd_at h2 h)))
    | exact upd_at h5 (upd_at h5 (upd_at h0 (upd_at h2 h)))) ?_))))
      exact ⟨by rw [hlv]; rfl, rfl⟩
    · intro h21
      refine c_skip ?_
      refine c_reg ?_; intro K hK
      refine st rfl rfl rfl (yv_move rfl rfl) ?_
      refine st rfl rfl rfl (yv_move rfl rfl) ?_
      refine st rfl rfl rfl (yv_buildSlice (ps := [(0, _)]) (rows := [[int (numV (nums k (cntR s most)).2)]]) rfl Try.underlying26 bz3 (.cons rfl .nil) rfl rfl rfl rfl) ?_
      refine se rfl rfl rfl (yl_append .any rfl Try.underlying26 bz3 by3 rfl rfl (by first | exact rfl | exact upd_same _ _ _ | exact (upd_ne _ _ n2).trans hob | exact hbx | exact upd_at (Ne.symm n5) rfl) rfl rfl rfl rfl rfl (by rw [List.length_map]; exact hlen) (.refl _) (by intro r hr; simp at hr; subst hr; rfl) (by simp only [List.length_cons, List.length_nil]; omega) (by simp only [List.length_cons, List.length_nil]; omega)) ?_
      rintro _ _ ⟨v25, -, rfl, rfl⟩
      refine st rfl rfl rfl (yv_assign rfl rfl) ?_
      refine rg_nil (hK _ ?_); clear hK K
      refine c_nil (bn3 _ ?_)
      refine c_reg ?_; intro K hK
      refine st rfl rfl rfl (yv_add rfl rfl rfl (wrap64 (by omega))) ?_
      refine st rfl rfl rfl (yv_move rfl rfl) ?_
      refine rg_nil (hK _ ?_); clear hK K
      refine c_nil (ln2 _ ⟨k + 1, v25, ⟨by omega, fun _ => h21⟩, by omega, le_sub (KN.le ⟨rfl, rfl, rfl, rfl, rfl, trivial⟩) (fun t v h => ?_)⟩)
      by_cases h0 : t = 30005
      · subst h0; rw [upd_same] at h; rw [← h]; refine (upd_same _ _ _).trans ?_; simp [nums]
      · rw [upd_ne _ _ h0] at h; refine (upd_ne _ _ h0).trans ?_
        by_cases h1 : t = id
        · subst h1; rw [upd_same] at h; rw [← h]; exact upd_same _ _ _
        · rw [upd_ne _ _ h1] at h; refine (upd_ne _ _ h1).trans ((upd_ne _ _ h0).trans ((upd_ne _ _ h1).trans h))
  · intro h16
    have hke : k = (cntV s most).toNat := by omega
    subst hke
    have hlv : lstV s most = (nums (cntV s most).toNat (cntR s most)).1 := by
      unfold lstV
      rcases Nat.eq_zero_or_pos (cntV s most).toNat with h0 | h0
      · rw [h0]; show (if (cntR s most).2 = true then [] else []) = []; cases (cntR s most).2 <;> rfl
      · rw [hnb h0]; rfl
    have hlr : lstR s most = (nums (cntV s most).toNat (cntR s most)).2 := rfl
    refine c_exit (lx2 _ _ (bx1 _ ?_))
    refine c_seq ?_
    refine c_freeze 30005 (upd_same _ _ _) ?_
    refine c_cv 5 (ints (lstV s most)) rfl (cv_lst (upd_same _ _ _) rfl rfl rfl (by rw [hlv]) (by rw [hlv, nums_len])) ?_
    refine c_reg ?_; intro K hK
    refine st rfl rfl rfl (yv_move rfl rfl) ?_
    refine st rfl rfl rfl (yv_assign rfl rfl) ?_
    refine rg_nil (hK _ ?_); clear hK K
    refine c_ret (hret _ _ (upd H id (some (rdr 87 ver (lstR s most)))) (.tmp rfl .nil) (fun t v h => by
  by_cases h0 : t = id
  · subst h0; rw [upd_same] at h; rw [← h, hlr]; first | exact upd_same _ _ _ | exact upd_at n5 (upd_at n5 (upd_same _ _ _))
  · rw [upd_ne _ _ h0] at h
    have h2 : t ≠ 30002 := fun e => by rw [e, hf2] at h; cases h
    have h5 : t ≠ 30005 := fun e => by rw [e, hf5] at h; cases h
    first
    | exact upd_at h0 (upd_at h5 (upd_at h0 (upd_at h2 h)))
    | exact upd_at h5 (upd_at h5 (upd_at h0 (upd_at h2 h)))) ?_)
    exact ⟨rfl, rfl⟩
theorem copyN_c {H : AH} {id ver ib : Nat} (hob : H id = some (bldO 72 id ver ib none)) : PC Try.prog 56 [.pt id ver 0 0] H (fun _ H' => H' = upd H id (some ⟨72, 2, true, true, ver, [[.pt id ver 0 0, .sc (.slice none 0 0)]]⟩)) := by
  refine pc_of' (c := _) Try.func56 rfl rfl ?_
  intro Q hret hnorm
  refine c_seq ?_
  refine c_reg ?_; intro K hK
  refine st rfl rfl rfl (yv_move rfl rfl) ?_
  refine st rfl rfl rfl (yv_nilCheck rfl rfl (by first | exact .pp _ | exact .pt (rfl) rfl rfl | exact .pt (hob) rfl rfl | exact .pt (upd_same _ _ _) rfl rfl)) ?_
  refine st rfl rfl rfl (yv_fieldAddr rfl fo72_0 rfl (by first | exact .pp _ | exact .pt (rfl) rfl rfl | exact .pt (hob) rfl rfl | exact .pt (upd_same _ _ _) rfl rfl) (by first | exact .pt _ _ _ _ _ | exact .pp _ _)) ?_
  refine st rfl rfl rfl (yv_load rfl sh69 rfl (by first | exact .pp _ | exact .pt (rfl) rfl rfl | exact .pt (hob) rfl rfl | exact .pt (upd_same _ _ _) rfl rfl) rfl) ?_
  refine st rfl rfl rfl (yv_nilptr rfl Try.underlying69 rfl rfl) ?_
  refine rg_nil (hK _ ?_); clear hK K
  refine c_true rfl ?_
  refine c_reg ?_; intro K hK
  refine st rfl rfl rfl (yv_move rfl rfl) ?_
  refine st rfl rfl rfl (yv_move rfl rfl) ?_
  refine st rfl rfl rfl (yv_toU' rfl Try.underlying69 Try.underlying95 sz79 rfl hob rfl rfl Nat.zero_lt_two) ?_
  refine st rfl rfl rfl (yv_noEscape rfl Try.func62 rfl rfl (by kernel_rfl) (by kernel_rfl) rfl) ?_
  refine st rfl rfl rfl (yv_fromU' rfl Try.underlying95 Try.underlying69 sz79 rfl hob rfl rfl rfl (lies_self c79) c79 Nat.zero_lt_two) ?_
  refine st rfl rfl rfl (yv_nilCheck rfl rfl (by first | exact .pp _ | exact .pt (rfl) rfl rfl | exact .pt (hob) rfl rfl | exact .pt (upd_same _ _ _) rfl rfl)) ?_
  refine st rfl rfl rfl (yv_fieldAddr rfl fo72_0 rfl (by first | exact .pp _ | exact .pt (rfl) rfl rfl | exact .pt (hob) rfl rfl | exact .pt (upd_same _ _ _) rfl rfl) (by first | exact .pt _ _ _ _ _ | exact .pp _ _)) ?_
  refine sstore rfl rfl (yl_store rfl sh69 rfl rfl (by first | exact rfl | exact hob | exact upd_same _ _ _) rfl rfl rfl rfl rfl rfl) ?_
  refine rg_nil (hK _ ?_); clear hK K
  refine c_nil (hnorm _ _ _ .nil (fun _ _ h => h) ?_)
  exact rfl
theorem copyS_c {H : AH} {id ver ib : Nat} {o : Nat × List UInt8} (hob : H id = some (bldO 72 id ver ib (some o))) : PC Try.prog 56 [.pt id ver 0 0] H (fun _ H' => H' = H) := by
  refine pc_of' (c := _) Try.func56 rfl rfl ?_
  intro Q hret hnorm
  refine c_seq ?_
  refine c_reg ?_; intro K hK
  refine st rfl rfl rfl (yv_move rfl rfl) ?_
  refine st rfl rfl rfl (yv_nilCheck rfl rfl (by first | exact .pp _ | exact .pt (rfl) rfl rfl | exact .pt (hob) rfl rfl | exact .pt (upd_same _ _ _) rfl rfl)) ?_
  refine st rfl rfl rfl (yv_fieldAddr rfl fo72_0 rfl (by first | exact .pp _ | exact .pt (rfl) rfl rfl | exact .pt (hob) rfl rfl | exact .pt (upd_same _ _ _) rfl rfl) (by first | exact .pt _ _ _ _ _ | exact .pp _ _)) ?_
  refine st rfl rfl rfl (yv_load rfl sh69 rfl (by first | exact .pp _ | exact .pt (rfl) rfl rfl | exact .pt (hob) rfl rfl | exact .pt (upd_same _ _ _) rfl rfl) rfl) ?_
  refine st rfl rfl rfl (yv_ptnil rfl Try.underlying69 rfl (.pt hob rfl rfl) rfl) ?_
  refine rg_nil (hK _ ?_); clear hK K
  refine c_false rfl ?_
  refine c_seq ?_
  refine c_reg ?_; intro K hK
  refine st rfl rfl rfl (yv_move rfl rfl) ?_
  refine st rfl rfl rfl (yv_nilCheck rfl rfl (by first | exact .pp _ | exact .pt (rfl) rfl rfl | exact .pt (hob) rfl rfl | exact .pt (upd_same _ _ _) rfl rfl)) ?_
  refine st rfl rfl rfl (yv_fieldAddr rfl fo72_0 rfl (by first | exact .pp _ | exact .pt (rfl) rfl rfl | exact .pt (hob) rfl rfl | exact .pt (upd_same _ _ _) rfl rfl) (by first | exact .pt _ _ _ _ _ | exact .pp _ _)) ?_
  refine st rfl rfl rfl (yv_load rfl sh69 rfl (by first | exact .pp _ | exact .pt (rfl) rfl rfl | exact .pt (hob) rfl rfl | exact .pt (upd_same _ _ _) rfl rfl) rfl) ?_
  refine st rfl rfl rfl (yv_move rfl rfl) ?_
  refine st rfl rfl rfl (yv_ptsame' rfl Try.underlying69 sz79 rfl rfl hob rfl (by simp)) ?_
  refine rg_nil (hK _ ?_); clear hK K
  refine c_false rfl ?_
  refine c_skip ?_
  refine c_nil (hnorm _ _ _ .nil (fun _ _ h => h) ?_)
  exact rfl
theorem wbyteN_c {H : AH} {id ver ib : Nat} {c : UInt8} (hd : id ≠ ib) (hob : H id = some (bldO 72 id ver ib none)) (hib : H ib = none) : PC Try.prog 57 [.pt id ver 0 0, .sc (.int .u8 (c.toNat : Nat))] H (fun y H' => y = .sc .nilIface ∧ ∃ vb', H' = upd (upd H ib (some (bufO 5 vb' ([c])))) id (some (bldO 72 id ver ib (some (vb', [c]))))) := by
  refine pc_of' (c := _) Try.func57 rfl rfl ?_
  intro Q hret hnorm
  refine c_seq ?_
  refine c_reg ?_; intro K hK
  refine st rfl rfl rfl (yv_assign rfl rfl) ?_
  refine rg_nil (hK _ ?_); clear hK K
  refine c_seq ?_
  refine c_reg ?_; intro K hK
  refine st rfl rfl rfl (yv_move rfl rfl) ?_
  refine se rfl rfl rfl (yl_call rfl rfl (.cons rfl .nil) cal56 (copyN_c hob)) ?_
  rintro _ _ rfl
  refine rg_nil (hK _ ?_); clear hK K
  refine c_seq ?_
  refine c_reg ?_; intro K hK
  refine st rfl rfl rfl (yv_move rfl rfl) ?_
  refine st rfl rfl rfl (yv_move rfl rfl) ?_
  refine st rfl rfl rfl (yv_nilCheck rfl rfl (by first | exact .pp _ | exact .pt (rfl) rfl rfl | exact .pt (hob) rfl rfl | exact .pt (upd_same _ _ _) rfl rfl | exact .pt (upd_at hd (upd_at hd (upd_same _ _ _))) rfl rfl | exact .pt (upd_at hd hob) rfl rfl | exact .pt (hbuf) rfl rfl)) ?_
  refine st rfl rfl rfl (yv_fieldAddr rfl fo72_1 rfl (by first | exact .pp _ | exact .pt (rfl) rfl rfl | exact .pt (hob) rfl rfl | exact .pt (upd_same _ _ _) rfl rfl | exact .pt (upd_at hd (upd_at hd (upd_same _ _ _))) rfl rfl | exact .pt (upd_at hd hob) rfl rfl | exact .pt (hbuf) rfl rfl) (by first | exact .pt _ _ _ _ _ | exact .pp _ _)) ?_
  refine st rfl rfl rfl (yv_load rfl sh70 rfl (by first | exact .pp _ | exact .pt (rfl) rfl rfl | exact .pt (hob) rfl rfl | exact .pt (upd_same _ _ _) rfl rfl | exact .pt (upd_at hd (upd_at hd (upd_same _ _ _))) rfl rfl | exact .pt (upd_at hd hob) rfl rfl | exact .pt (hbuf) rfl rfl) rfl) ?_
  refine s_nilobj 11 ib 5 1 rfl ((upd_ne _ _ (Ne.symm hd)).trans hib) ?_; intro vn
  refine st rfl rfl rfl (yv_move rfl rfl) ?_
  refine st rfl rfl rfl (yv_buildSlice (ps := [(0, _)]) (rows := [[.sc (.int .u8 (c.toNat : Nat))]]) rfl Try.underlying70 bz5 (.cons rfl .nil) rfl rfl rfl rfl) ?_
  refine se rfl rfl rfl (yl_append .any rfl Try.underlying70 bz5 by5 rfl rfl (by first | exact rfl | exact hob | exact upd_same _ _ _ | exact upd_at hd (upd_at hd (upd_same _ _ _)) | exact upd_at hd hob | exact hbuf) rfl rfl rfl rfl rfl rfl (.refl _) (by intro r hr; simp at hr; subst hr; rfl) (by simp only [List.length_cons, List.length_nil]; omega) (by simp only [List.length_cons, List.length_nil]; omega)) ?_
  rintro _ _ ⟨v14, -, rfl, rfl⟩
  refine st rfl rfl rfl (yv_nilCheck rfl rfl (by first | exact .pp _ | exact .pt (rfl) rfl rfl | exact .pt (hob) rfl rfl | exact .pt (upd_same _ _ _) rfl rfl | exact .pt (upd_at hd (upd_at hd (upd_same _ _ _))) rfl rfl | exact .pt (upd_at hd hob) rfl rfl | exact .pt (hbuf) rfl rfl)) ?_
  refine st rfl rfl rfl (yv_fieldAddr rfl fo72_1 rfl (by first | exact .pp _ | exact .pt (rfl) rfl rfl | exact .pt (hob) rfl rfl | exact .pt (upd_same _ _ _) rfl rfl | exact .pt (upd_at hd (upd_at hd (upd_same _ _ _))) rfl rfl | exact .pt (upd_at hd hob) rfl rfl | exact .pt (hbuf) rfl rfl) (by first | exact .pt _ _ _ _ _ | exact .pp _ _)) ?_
  refine sstore rfl rfl (yl_store rfl sh70 rfl rfl (by first | exact rfl | exact hob | exact upd_same _ _ _ | exact upd_at hd (upd_at hd (upd_same _ _ _)) | exact upd_at hd hob | exact hbuf) rfl rfl rfl rfl rfl rfl) ?_
  refine rg_nil (hK _ ?_); clear hK K
  refine c_seq ?_
  refine c_reg ?_; intro K hK
  refine st rfl rfl rfl (yv_assign rfl rfl) ?_
  refine rg_nil (hK _ ?_); clear hK K
  refine c_ret (hret _ _ (upd (upd H ib (some (bufO 5 v14 ([c])))) id (some (bldO 72 id ver ib (some (v14, [c]))))) (.tmp rfl .nil) (fun t v h => by rw [← h]; simp only [upd_if]; by_cases h0 : t = id <;> by_cases h1 : t = ib <;> simp_all [byteRows] <;> rfl) ?_)
  exact ⟨rfl, _, rfl⟩
theorem wbyteS_c {H : AH} {id ver ib : Nat} {c : UInt8} {vb : Nat} {l : List UInt8} (hd : id ≠ ib) (hob : H id = some (bldO 72 id ver ib (some (vb, l)))) (hbuf : H ib = some (bufO 5 vb l)) (hl : l.length ≤ 1099511627776) : PC Try.prog 57 [.pt id ver 0 0, .sc (.int .u8 (c.toNat : Nat))] H (fun y H' => y = .sc .nilIface ∧ ∃ vb', H' = upd (upd H ib (some (bufO 5 vb' (l ++ [c])))) id (some (bldO 72 id ver ib (some (vb', l ++ [c]))))) := by
  refine pc_of' (c := _) Try.func57 rfl rfl ?_
  intro Q hret hnorm
  refine c_seq ?_
  refine c_reg ?_; intro K hK
  refine st rfl rfl rfl (yv_assign rfl rfl) ?_
  refine rg_nil (hK _ ?_); clear hK K
  refine c_seq ?_
  refine c_reg ?_; intro K hK
  refine st rfl rfl rfl (yv_move rfl rfl) ?_
  refine se rfl rfl rfl (yl_call rfl rfl (.cons rfl .nil) cal56 (copyS_c hob)) ?_
  rintro _ _ he; obtain rfl := he.symm
  refine rg_nil (hK _ ?_); clear hK K
  refine c_seq ?_
  refine c_reg ?_; intro K hK
  refine st rfl rfl rfl (yv_move rfl rfl) ?_
  refine st rfl rfl rfl (yv_move rfl rfl) ?_
  refine st rfl rfl rfl (yv_nilCheck rfl rfl (by first | exact .pp _ | exact .pt (rfl) rfl rfl | exact .pt (hob) rfl rfl | exact .pt (upd_same _ _ _) rfl rfl | exact .pt (upd_at hd (upd_at hd (upd_same _ _ _))) rfl rfl | exact .pt (upd_at hd hob) rfl rfl | exact .pt (hbuf) rfl rfl)) ?_
  refine st rfl rfl rfl (yv_fieldAddr rfl fo72_1 rfl (by first | exact .pp _ | exact .pt (rfl) rfl rfl | exact .pt (hob) rfl rfl | exact .pt (upd_same _ _ _) rfl rfl | exact .pt (upd_at hd (upd_at hd (upd_same _ _ _))) rfl rfl | exact .pt (upd_at hd hob) rfl rfl | exact .pt (hbuf) rfl rfl) (by first | exact .pt _ _ _ _ _ | exact .pp _ _)) ?_
  refine st rfl rfl rfl (yv_load rfl sh70 rfl (by first | exact .pp _ | exact .pt (rfl) rfl rfl | exact .pt (hob) rfl rfl | exact .pt (upd_same _ _ _) rfl rfl | exact .pt (upd_at hd (upd_at hd (upd_same _ _ _))) rfl rfl | exact .pt (upd_at hd hob) rfl rfl | exact .pt (hbuf) rfl rfl) rfl) ?_
  refine st rfl rfl rfl (yv_move rfl rfl) ?_
  refine st rfl rfl rfl (yv_buildSlice (ps := [(0, _)]) (rows := [[.sc (.int .u8 (c.toNat : Nat))]]) rfl Try.underlying70 bz5 (.cons rfl .nil) rfl rfl rfl rfl) ?_
  refine se rfl rfl rfl (yl_append .any rfl Try.underlying70 bz5 by5 rfl rfl (by first | exact rfl | exact hob | exact upd_same _ _ _ | exact upd_at hd (upd_at hd (upd_same _ _ _)) | exact upd_at hd hob | exact hbuf) rfl rfl rfl rfl rfl (byteRows_len l) (.refl _) (by intro r hr; simp at hr; subst hr; rfl) (by simp only [List.length_cons, List.length_nil]; omega) (by simp only [List.length_cons, List.length_nil]; omega)) ?_
  rintro _ _ ⟨v14, -, rfl, rfl⟩
  refine st rfl rfl rfl (yv_nilCheck rfl rfl (by first | exact .pp _ | exact .pt (rfl) rfl rfl | exact .pt (hob) rfl rfl | exact .pt (upd_same _ _ _) rfl rfl | exact .pt (upd_at hd (upd_at hd (upd_same _ _ _))) rfl rfl | exact .pt (upd_at hd hob) rfl rfl | exact .pt (hbuf) rfl rfl)) ?_
  refine st rfl rfl rfl (yv_fieldAddr rfl fo72_1 rfl (by first | exact .pp _ | exact .pt (rfl) rfl rfl | exact .pt (hob) rfl rfl | exact .pt (upd_same _ _ _) rfl rfl | exact .pt (upd_at hd (upd_at hd (upd_same _ _ _))) rfl rfl | exact .pt (upd_at hd hob) rfl rfl | exact .pt (hbuf) rfl rfl) (by first | exact .pt _ _ _ _ _ | exact .pp _ _)) ?_
  refine sstore rfl rfl (yl_store rfl sh70 rfl rfl (by first | exact rfl | exact hob | exact upd_same _ _ _ | exact upd_at hd (upd_at hd (upd_same _ _ _)) | exact upd_at hd hob | exact hbuf) rfl rfl rfl rfl rfl rfl) ?_
  refine rg_nil (hK _ ?_); clear hK K
  refine c_seq ?_
  refine c_reg ?_; intro K hK
  refine st rfl rfl rfl (yv_assign rfl rfl) ?_
  refine rg_nil (hK _ ?_); clear hK K
  refine c_ret (hret _ _ (upd (upd H ib (some (bufO 5 v14 (l ++ [c])))) id (some (bldO 72 id ver ib (some (v14, l ++ [c]))))) (.tmp rfl .nil) (fun t v h => by rw [← h]; simp only [upd_if]; by_cases h0 : t = id <;> by_cases h1 : t = ib <;> simp_all [byteRows] <;> rfl) ?_)
  exact ⟨rfl, _, rfl⟩
theorem wstrN_c {H : AH} {id ver ib : Nat} {t : List UInt8} (hd : id ≠ ib) (hob : H id = some (bldO 72 id ver ib none)) (hib : H ib = none) (ht : t.length ≤ 1099511627776) : PC Try.prog 39 [.pt id ver 0 0, str t] H (fun y H' => y = oneOrTup [int t.length, .sc .nilIface] ∧ ∃ vb', H' = upd (upd H ib (some (bufO 5 vb' (t)))) id (some (bldO 72 id ver ib (some (vb', t))))) := by
  refine pc_of' (c := _) Try.func39 rfl rfl ?_
  intro Q hret hnorm
  refine c_seq ?_
  refine c_reg ?_; intro K hK
  refine st rfl rfl rfl (yv_assign rfl rfl) ?_
  refine st rfl rfl rfl (yv_assign rfl rfl) ?_
  refine rg_nil (hK _ ?_); clear hK K
  refine c_seq ?_
  refine c_reg ?_; intro K hK
  refine st rfl rfl rfl (yv_move rfl rfl) ?_
  refine se rfl rfl rfl (yl_call rfl rfl (.cons rfl .nil) cal56 (copyN_c hob)) ?_
  rintro _ _ rfl
  refine rg_nil (hK _ ?_); clear hK K
  refine c_seq ?_
  refine c_reg ?_; intro K hK
  refine st rfl rfl rfl (yv_move rfl rfl) ?_
  refine st rfl rfl rfl (yv_move rfl rfl) ?_
  refine st rfl rfl rfl (yv_nilCheck rfl rfl (by first | exact .pp _ | exact .pt (rfl) rfl rfl | exact .pt (hob) rfl rfl | exact .pt (upd_same _ _ _) rfl rfl | exact .pt (upd_at hd (upd_at hd (upd_same _ _ _))) rfl rfl | exact .pt (upd_at hd hob) rfl rfl | exact .pt (hbuf) rfl rfl)) ?_
  refine st rfl rfl rfl (yv_fieldAddr rfl fo72_1 rfl (by first | exact .pp _ | exact .pt (rfl) rfl rfl | exact .pt (hob) rfl rfl | exact .pt (upd_same _ _ _) rfl rfl | exact .pt (upd_at hd (upd_at hd (upd_same _ _ _))) rfl rfl | exact .pt (upd_at hd hob) rfl rfl | exact .pt (hbuf) rfl rfl) (by first | exact .pt _ _ _ _ _ | exact .pp _ _)) ?_
  refine st rfl rfl rfl (yv_load rfl sh70 rfl (by first | exact .pp _ | exact .pt (rfl) rfl rfl | exact .pt (hob) rfl rfl | exact .pt (upd_same _ _ _) rfl rfl | exact .pt (upd_at hd (upd_at hd (upd_same _ _ _))) rfl rfl | exact .pt (upd_at hd hob) rfl rfl | exact .pt (hbuf) rfl rfl) rfl) ?_
  refine s_nilobj 12 ib 5 1 rfl ((upd_ne _ _ (Ne.symm hd)).trans hib) ?_; intro vn
  refine st rfl rfl rfl (yv_move rfl rfl) ?_
  refine se rfl rfl rfl (yl_append_str (l := []) .any rfl Try.underlying70 Try.underlying9 bz5 by5 rfl rfl (by first | exact rfl | exact hbuf | exact upd_same _ _ _) rfl rfl rfl rfl rfl rfl rfl (by show 0 + t.length ≤ 140737488355328; omega)) ?_
  rintro _ _ ⟨v14, -, rfl, rfl⟩
  refine st rfl rfl rfl (yv_nilCheck rfl rfl (by first | exact .pp _ | exact .pt (rfl) rfl rfl | exact .pt (hob) rfl rfl | exact .pt (upd_same _ _ _) rfl rfl | exact .pt (upd_at hd (upd_at hd (upd_same _ _ _))) rfl rfl | exact .pt (upd_at hd hob) rfl rfl | exact .pt (hbuf) rfl rfl)) ?_
  refine st rfl rfl rfl (yv_fieldAddr rfl fo72_1 rfl (by first | exact .pp _ | exact .pt (rfl) rfl rfl | exact .pt (hob) rfl rfl | exact .pt (upd_same _ _ _) rfl rfl | exact .pt (upd_at hd (upd_at hd (upd_same _ _ _))) rfl rfl | exact .pt (upd_at hd hob) rfl rfl | exact .pt (hbuf) rfl rfl) (by first | exact .pt _ _ _ _ _ | exact .pp _ _)) ?_
  refine sstore rfl rfl (yl_store rfl sh70 rfl rfl (by first | exact rfl | exact hob | exact upd_same _ _ _ | exact upd_at hd (upd_at hd (upd_same _ _ _)) | exact upd_at hd hob | exact hbuf) rfl rfl rfl rfl rfl rfl) ?_
  refine rg_nil (hK _ ?_); clear hK K
  refine c_seq ?_
  refine c_reg ?_; intro K hK
  refine st rfl rfl rfl (yv_move rfl rfl) ?_
  refine st rfl rfl rfl (yv_len_str rfl Try.underlying9 rfl) ?_
  refine st rfl rfl rfl (yv_assign rfl rfl) ?_
  refine st rfl rfl rfl (yv_assign rfl rfl) ?_
  refine rg_nil (hK _ ?_); clear hK K
  refine c_ret (hret _ _ (upd (upd H ib (some (bufO 5 v14 (t)))) id (some (bldO 72 id ver ib (some (v14, t))))) (.tmp rfl (.tmp rfl .nil)) (fun t v h => by rw [← h]; simp only [upd_if]; by_cases h0 : t = id <;> by_cases h1 : t = ib <;> simp_all [byteRows] <;> rfl) ?_)
  exact ⟨rfl, _, rfl⟩
theorem wstrS_c {H : AH} {id ver ib : Nat} {t : List UInt8} {vb : Nat} {l : List UInt8} (hd : id ≠ ib) (hob : H id = some (bldO 72 id ver ib (some (vb, l)))) (hbuf : H ib = some (bufO 5 vb l)) (hl : l.length ≤ 1099511627776) (ht : t.length ≤ 1099511627776) : PC Try.prog 39 [.pt id ver 0 0, str t] H (fun y H' => y = oneOrTup [int t.length, .sc .nilIface] ∧ ∃ vb', H' = upd (upd H ib (some (bufO 5 vb' (l ++ t)))) id (some (bldO 72 id ver ib (some (vb', l ++ t))))) := by
  refine pc_of' (c := _) Try.func39 rfl rfl ?_
  intro Q hret hnorm
  refine c_seq ?_
  refine c_reg ?_; intro K hK
  refine st rfl rfl rfl (yv_assign rfl rfl) ?_
  refine st rfl rfl rfl (yv_assign rfl rfl) ?_
  refine rg_nil (hK _ ?_); clear hK K
  refine c_seq ?_
  refine c_reg ?_; intro K hK
  refine st rfl rfl rfl (yv_move rfl rfl) ?_
  refine se rfl rfl rfl (yl_call rfl rfl (.cons rfl .nil) cal56 (copyS_c hob)) ?_
  rintro _ _ he; obtain rfl := he.symm
  refine rg_nil (hK _ ?_); clear hK K
  refine c_seq ?_
  refine c_reg ?_; intro K hK
  refine st rfl rfl rfl (yv_move rfl rfl) ?_
  refine st rfl rfl rfl (yv_move rfl rfl) ?_
  refine st rfl rfl rfl (yv_nilCheck rfl rfl (by first | exact .pp _ | exact .pt (rfl) rfl rfl | exact .pt (hob) rfl rfl | exact .pt (upd_same _ _ _) rfl rfl | exact .pt (upd_at hd (upd_at hd (upd_same _ _ _))) rfl rfl | exact .pt (upd_at hd hob) rfl rfl | exact .pt (hbuf) rfl rfl)) ?_
  refine st rfl rfl rfl (yv_fieldAddr rfl fo72_1 rfl (by first | exact .pp _ | exact .pt (rfl) rfl rfl | exact .pt (hob) rfl rfl | exact .pt (upd_same _ _ _) rfl rfl | exact .pt (upd_at hd (upd_at hd (upd_same _ _ _))) rfl rfl | exact .pt (upd_at hd hob) rfl rfl | exact .pt (hbuf) rfl rfl) (by first | exact .pt _ _ _ _ _ | exact .pp _ _)) ?_
  refine st rfl rfl rfl (yv_load rfl sh70 rfl (by first | exact .pp _ | exact .pt (rfl) rfl rfl | exact .pt (hob) rfl rfl | exact .pt (upd_same _ _ _) rfl rfl | exact .pt (upd_at hd (upd_at hd (upd_same _ _ _))) rfl rfl | exact .pt (upd_at hd hob) rfl rfl | exact .pt (hbuf) rfl rfl) rfl) ?_
  refine st rfl rfl rfl (yv_move rfl rfl) ?_
  refine se rfl rfl rfl (yl_append_str (l := l) .any rfl Try.underlying70 Try.underlying9 bz5 by5 rfl rfl (by first | exact rfl | exact hbuf | exact upd_same _ _ _) rfl rfl rfl rfl rfl rfl rfl (by omega)) ?_
  rintro _ _ ⟨v14, -, rfl, rfl⟩
  refine st rfl rfl rfl (yv_nilCheck rfl rfl (by first | exact .pp _ | exact .pt (rfl) rfl rfl | exact .pt (hob) rfl rfl | exact .pt (upd_same _ _ _) rfl rfl | exact .pt (upd_at hd (upd_at hd (upd_same _ _ _))) rfl rfl | exact .pt (upd_at hd hob) rfl rfl | exact .pt (hbuf) rfl rfl)) ?_
  refine st rfl rfl rfl (yv_fieldAddr rfl fo72_1 rfl (by first | exact .pp _ | exact .pt (rfl) rfl rfl | exact .pt (hob) rfl rfl | exact .pt (upd_same _ _ _) rfl rfl | exact .pt (upd_at hd (upd_at hd (upd_same _ _ _))) rfl rfl | exact .pt (upd_at hd hob) rfl rfl | exact .pt (hbuf) rfl rfl) (by first | exact .pt _ _ _ _ _ | exact .pp _ _)) ?_
  refine sstore rfl rfl (yl_store rfl sh70 rfl rfl (by first | exact rfl | exact hob | exact upd_same _ _ _ | exact upd_at hd (upd_at hd (upd_same _ _ _)) | exact upd_at hd hob | exact hbuf) rfl rfl rfl rfl rfl rfl) ?_
  refine rg_nil (hK _ ?_); clear hK K
  refine c_seq ?_
  refine c_reg ?_; intro K hK
  refine st rfl rfl rfl (yv_move rfl rfl) ?_
  refine st rfl rfl rfl (yv_len_str rfl Try.underlying9 rfl) ?_
  refine st rfl rfl rfl (yv_assign rfl rfl) ?_
  refine st rfl rfl rfl (yv_assign rfl rfl) ?_
  refine rg_nil (hK _ ?_); clear hK K
  refine c_ret (hret _ _ (upd (upd H ib (some (bufO 5 v14 (l ++ t)))) id (some (bldO 72 id ver ib (some (v14, l ++ t))))) (.tmp rfl (.tmp rfl .nil)) (fun t v h => by rw [← h]; simp only [upd_if]; by_cases h0 : t = id <;> by_cases h1 : t = ib <;> simp_all [byteRows] <;> rfl) ?_)
  exact ⟨rfl, _, rfl⟩
theorem bstr_c {H : AH} {id ver ib vb : Nat} {l : List UInt8} (hob : H id = some (bldO 72 id ver ib (some (vb, l)))) (hbuf : H ib = some (bufO 5 vb l)) (hne : l ≠ []) (hl : l.length ≤ 1099511627776) : PC Try.prog 42 [.pt id ver 0 0] H (fun y H' => y = str l ∧ H' = upd H ib none) := by
  have hrow : (bufO 5 vb l).rows[0]? = some [.sc (.int .u8 ((l.head hne).toNat : Nat))] := by
    cases l with
    | nil => exact absurd rfl hne
    | cons a r => rfl
  refine pc_of' (c := _) Try.func42 rfl rfl ?_
  intro Q hret hnorm
  refine c_seq ?_
  refine c_reg ?_; intro K hK
  refine st rfl rfl rfl (yv_assign rfl rfl) ?_
  refine rg_nil (hK _ ?_); clear hK K
  refine c_seq ?_
  refine c_draw [0, 1, 3, 7, 15, 0, 32, 96, 224, 480, 1023, 2047] (fun _ _ => true) (fun i => bif Nat.beq i 10 then some ib else none) mixed (by kernel_rfl) ?_; intro C K hK
  refine dg_pure rfl (fun H hH => yv_move rfl rfl) ?_
  refine dg_pure rfl (fun H hH => yv_nilCheck rfl rfl (by first | exact .pp _ | exact .pt ((hH _ rfl).trans (rfl)) rfl rfl | exact .pt ((hH _ rfl).trans (hob)) rfl rfl | exact .pt ((hH _ rfl).trans (hbuf)) rfl rfl)) ?_
  refine dg_pure rfl (fun H hH => yv_fieldAddr rfl fo72_1 rfl (by first | exact .pp _ | exact .pt ((hH _ rfl).trans (rfl)) rfl rfl | exact .pt ((hH _ rfl).trans (hob)) rfl rfl | exact .pt ((hH _ rfl).trans (hbuf)) rfl rfl) (by first | exact .pt _ _ _ _ _ | exact .pp _ _)) ?_
  refine dg_pure rfl (fun H hH => yv_load rfl sh70 rfl (by first | exact .pp _ | exact .pt ((hH _ rfl).trans (rfl)) rfl rfl | exact .pt ((hH _ rfl).trans (hob)) rfl rfl | exact .pt ((hH _ rfl).trans (hbuf)) rfl rfl) rfl) ?_
  refine dg_pure rfl (fun H hH => yv_sliceData rfl rfl ((hH _ rfl).trans hbuf) rfl hrow (by have := List.length_pos_iff.2 hne; omega)) ?_
  refine dg_pure rfl (fun H hH => yv_move rfl rfl) ?_
  refine dg_pure rfl (fun H hH => yv_nilCheck rfl rfl (by first | exact .pp _ | exact .pt ((hH _ rfl).trans (rfl)) rfl rfl | exact .pt ((hH _ rfl).trans (hob)) rfl rfl | exact .pt ((hH _ rfl).trans (hbuf)) rfl rfl)) ?_
  refine dg_pure rfl (fun H hH => yv_fieldAddr rfl fo72_1 rfl (by first | exact .pp _ | exact .pt ((hH _ rfl).trans (rfl)) rfl rfl | exact .pt ((hH _ rfl).trans (hob)) rfl rfl | exact .pt ((hH _ rfl).trans (hbuf)) rfl rfl) (by first | exact .pt _ _ _ _ _ | exact .pp _ _)) ?_
  refine dg_pure rfl (fun H hH => yv_load rfl sh70 rfl (by first | exact .pp _ | exact .pt ((hH _ rfl).trans (rfl)) rfl rfl | exact .pt ((hH _ rfl).trans (hob)) rfl rfl | exact .pt ((hH _ rfl).trans (hbuf)) rfl rfl) rfl) ?_
  refine dg_pure rfl (fun H hH => yv_len_sl rfl Try.underlying70 rfl (.sl ((hH _ rfl).trans hbuf) rfl)) ?_
  refine dg_eff (k := ib) (ob := none) (x := str l) rfl rfl (fun H hH => (yl_unsafeString rfl Try.underlying91 c5 rfl rfl ((hH _ rfl).trans hbuf) rfl rfl rfl rfl rfl rfl hne (by omega)).weak (fun _ h => h.elim) (fun _ h => h.elim)) ?_
  refine dg_pure rfl (fun H hH => yv_assign rfl rfl) ?_
  refine dg_nil (hK _ ?_); clear hK K
  refine c_ret (hret _ _ _ (.tmp rfl .nil) (fun _ _ h => h) ?_)
  exact ⟨rfl, rfl⟩
theorem wbyte_c {H : AH} {id ver ib : Nat} {o : Option (Nat × List UInt8)} {c : UInt8} (hd : id ≠ ib) (hib : H ib = none) (hl : (held o).length ≤ 1099511627776) :
    PC Try.prog 57 [.pt id ver 0 0, .sc (.int .u8 (c.toNat : Nat))] (bH 72 5 H id ver ib o) (fun y H' => y = .sc .nilIface ∧ ∃ vb', H' = bH 72 5 H id ver ib (some (vb', held o ++ [c]))) := by
  cases o with
  | none =>
    exact (wbyteN_c hd (upd_same _ _ _) ((upd_ne _ _ (Ne.symm hd)).trans hib)).mono fun y H' ⟨h1, vb', h2⟩ => ⟨h1, vb', h2.trans (by
      funext t; simp only [bH, upd_if, held, List.nil_append]; by_cases h0 : t = id <;> by_cases h1 : t = ib <;> simp [h0, h1])⟩
  | some p =>
    obtain ⟨vb, l⟩ := p
    exact (wbyteS_c hd (upd_same _ _ _) ((upd_ne _ _ (Ne.symm hd)).trans (upd_same _ _ _)) hl).mono fun y H' ⟨h1, vb', h2⟩ => ⟨h1, vb', h2.trans (by
      funext t; simp only [bH, upd_if, held]; by_cases h0 : t = id <;> by_cases h1 : t = ib <;> simp [h0, h1])⟩
theorem wstr_c {H : AH} {id ver ib : Nat} {o : Option (Nat × List UInt8)} {t : List UInt8} (hd : id ≠ ib) (hib : H ib = none) (hl : (held o).length ≤ 1099511627776) (ht : t.length ≤ 1099511627776) :
    PC Try.prog 39 [.pt id ver 0 0, str t] (bH 72 5 H id ver ib o) (fun y H' => y = oneOrTup [int t.length, .sc .nilIface] ∧ ∃ vb', H' = bH 72 5 H id ver ib (some (vb', held o ++ t))) := by
  cases o with
  | none =>
    exact (wstrN_c hd (upd_same _ _ _) ((upd_ne _ _ (Ne.symm hd)).trans hib) ht).mono fun y H' ⟨h1, vb', h2⟩ => ⟨h1, vb', h2.trans (by
      funext t; simp only [bH, upd_if, held, List.nil_append]; by_cases h0 : t = id <;> by_cases h1 : t = ib <;> simp [h0, h1])⟩
  | some p =>
    obtain ⟨vb, l⟩ := p
    exact (wstrS_c hd (upd_same _ _ _) ((upd_ne _ _ (Ne.symm hd)).trans (upd_same _ _ _)) hl ht).mono fun y H' ⟨h1, vb', h2⟩ => ⟨h1, vb', h2.trans (by
      funext t; simp only [bH, upd_if, held]; by_cases h0 : t = id <;> by_cases h1 : t = ib <;> simp [h0, h1])⟩
theorem num_pc {v : Int} (hv : isI v) : PC Try.prog 40 [int v] H0 (fun y _ => y = str (enc v)) := by
  have hd : 40004 ≠ 40090 := by decide
  refine pc_of' (c := _) Try.func40 rfl rfl ?_
  intro Q hret hnorm
  refine c_seq ?_
  refine c_reg ?_; intro K hK
  refine st rfl rfl rfl (yv_assign rfl rfl) ?_
  refine rg_nil (hK _ ?_); clear hK K
  refine c_seq ?_
  refine c_reg ?_; intro K hK
  refine st rfl rfl rfl (yv_move rfl rfl) ?_
  refine st rfl rfl rfl (yv_convInt (r := (un64 v : Nat)) rfl Try.underlying3 Try.underlying88 rfl (un64_wrap hv)) ?_
  refine st rfl rfl rfl (yv_shl (r := (tw v : Nat)) rfl rfl rfl (by omega) (tw_wrap hv)) ?_
  refine st rfl rfl rfl (yv_move rfl rfl) ?_
  refine st rfl rfl rfl (yv_shr (r := sg v) rfl rfl rfl (by omega) (sg_shr hv)) ?_
  refine st rfl rfl rfl (yv_convInt (r := (sgu v : Nat)) rfl Try.underlying3 Try.underlying88 rfl (sgu_wrap v)) ?_
  refine st rfl rfl rfl (yv_xor (r := (zz v : Nat)) rfl rfl rfl (zz_xor hv)) ?_
  refine st rfl rfl rfl (yv_assign rfl rfl) ?_
  refine rg_nil (hK _ ?_); clear hK K
  refine c_seq ?_
  refine c_reg ?_; intro K hK
  refine se rfl rfl rfl (yl_alloc 40004 .any rfl z72 rfl) ?_
  rintro _ _ ⟨v4, -, rfl, rfl⟩
  refine rg_nil (hK _ ?_); clear hK K
  refine c_seq ?_
  refine c_block ?_; intro Q1 bn1 bx1 br1 bo1
  refine c_loop2 (ι := Nat × Nat) (κ := Option (Nat × List UInt8)) (fun p o => ⟨kn [(3, .sc (.int .u64 (p.2 : Nat))), (4, .pt 40004 v4 0 0)], bH 72 5 H0 40004 v4 40090 o⟩) (fun p o => p.2 < 128 ^ p.1 ∧ held o ++ encF p.1 p.2 = enc v) (fun p o => p.2) ⟨10, zz v⟩ none ⟨Nat.lt_of_lt_of_le (zz_lt hv) (show 18446744073709551616 ≤ 128 ^ 10 by decide), rfl⟩ (by refine le_kn' ?_; exact ⟨rfl, rfl, trivial⟩) ?_
  rintro ⟨f, u⟩ o ⟨huf, hen⟩ Q2 ln2 lx2 lr2
  have hol : (held o).length ≤ 11 := by
    have h1 := congrArg List.length hen
    have h2 := encF_len 10 (zz v)
    rw [List.length_append] at h1; unfold enc at h1; omega
  refine c_seq ?_
  refine c_seq ?_
  refine c_reg ?_; intro K hK
  refine st rfl rfl rfl (yv_move rfl rfl) ?_
  refine st rfl rfl rfl (yv_geq rfl rfl rfl) ?_
  refine rg_nil (hK _ ?_); clear hK K
  refine c_dec rfl ?_ ?_
  · intro h13
    obtain ⟨f, rfl⟩ : ∃ f0, f = f0 + 1 := ⟨f - 1, by
      rcases Nat.eq_zero_or_pos f with h0 | h0
      · subst h0; simp at huf; omega
      · omega⟩
    refine c_skip ?_
    refine c_seq ?_
    refine c_block ?_; intro Q3 bn3 bx3 br3 bo3
    refine c_reg ?_; intro K hK
    refine st rfl rfl rfl (yv_move rfl rfl) ?_
    refine st rfl rfl rfl (yv_rem (r := ((u % 128 : Nat) : Int)) rfl rfl rfl (by decide) rfl) ?_
    refine st rfl rfl rfl (yv_add (r := ((u % 128 + 128 : Nat) : Int)) rfl rfl rfl (wrapu64 (by omega))) ?_
    refine st rfl rfl rfl (yv_convInt (r := ((UInt8.ofNat (u % 128 + 128)).toNat : Nat)) rfl Try.underlying88 Try.underlying5 rfl (u8_wrap _)) ?_
    refine se rfl rfl rfl (yl_call rfl rfl (.cons rfl (.cons rfl .nil)) cal57 (wbyte_c hd rfl (by omega))) ?_
    rintro _ _ ⟨rfl, vb, rfl⟩
    refine rg_nil (hK _ ?_); clear hK K
    refine c_nil (bn3 _ ?_)
    refine c_reg ?_; intro K hK
    refine st rfl rfl rfl (yv_move rfl rfl) ?_
    refine st rfl rfl rfl (yv_shr (r := ((u / 128 : Nat) : Int)) rfl rfl rfl (by omega) shr_seven) ?_
    refine st rfl rfl rfl (yv_assign rfl rfl) ?_
    refine rg_nil (hK _ ?_); clear hK K
    refine c_nil (ln2 _ ⟨⟨f, u / 128⟩, some (vb, held o ++ [UInt8.ofNat (u % 128 + 128)]), ⟨?_, ?_⟩, ?_, le_kn' ⟨rfl, rfl, trivial⟩⟩)
    · show u / 128 < 128 ^ f; rw [Nat.pow_succ] at huf; omega
    · show (held o ++ [_]) ++ encF f (u / 128) = _; rw [List.append_assoc, List.singleton_append, ← encF_ge f (by omega)]; exact hen
    · show u / 128 < u; omega
  · intro h13
    have hlt : u < 128 := by omega
    rw [encF_lt f hlt] at hen
    refine c_exit (lx2 _ _ (bx1 _ ?_))
    refine c_seq ?_
    refine c_reg ?_; intro K hK
    refine st rfl rfl rfl (yv_move rfl rfl) ?_
    refine st rfl rfl rfl (yv_convInt (r := ((UInt8.ofNat u).toNat : Nat)) rfl Try.underlying88 Try.underlying5 rfl (u8_wrap _)) ?_
    refine se rfl rfl rfl (yl_call rfl rfl (.cons rfl (.cons rfl .nil)) cal57 (wbyte_c hd rfl (by omega))) ?_
    rintro _ _ ⟨rfl, vb, rfl⟩
    rw [hen]
    refine rg_nil (hK _ ?_); clear hK K
    refine c_seq ?_
    refine c_reg ?_; intro K hK
    refine se rfl rfl rfl (yl_call rfl rfl (.cons rfl .nil) cal42 (bstr_c rfl rfl (encF_ne _ _) (Nat.le_trans (encF_len _ _) (by decide)))) ?_
    rintro _ _ ⟨rfl, rfl⟩
    refine st rfl rfl rfl (yv_assign rfl rfl) ?_
    refine rg_nil (hK _ ?_); clear hK K
    refine c_ret (hret _ _ H0 (.tmp rfl .nil) (fun _ _ h => by cases h) ?_)
    exact rfl
theorem num_p {v : Int} (hv : isI v) : PP Try.prog 40 [int v] (fun y => y = str (enc v)) := pp_of_pc (num_pc hv) fun y H h => ⟨_, rfl, .sc _, by rw [h]; exact .refl _⟩
theorem encl_pc {l : List Int} (hv : ∀ v ∈ l, isI v) (hl : l.length ≤ 68719476736) : PC Try.prog 41 [ints l] H0 (fun y _ => y = str (encL l)) := by
  have hd : 41003 ≠ 41090 := by decide
  have hlen := encL_len l
  refine pc_of' (c := _) Try.func41 rfl rfl ?_
  intro Q hret hnorm
  refine c_seq ?_
  refine c_reg ?_; intro K hK
  refine st rfl rfl rfl (yv_assign rfl rfl) ?_
  refine rg_nil (hK _ ?_); clear hK K
  refine c_seq ?_
  refine c_reg ?_; intro K hK
  refine se rfl rfl rfl (yl_alloc 41003 .any rfl z72 rfl) ?_
  rintro _ _ ⟨v3, -, rfl, rfl⟩
  refine rg_nil (hK _ ?_); clear hK K
  refine c_seq ?_
  refine c_reg ?_; intro K hK
  refine st rfl rfl rfl (yv_move rfl rfl) ?_
  refine st rfl rfl rfl (yv_len_sl rfl Try.underlying26 rfl (lst_len l)) ?_
  refine st rfl rfl rfl (yv_callP rfl rfl (.cons rfl .nil) cal40 (CvL.refl _) (num_p (isI_len (n := l.length) (by omega)))) ?_
  refine se rfl rfl rfl (yl_call rfl rfl (.cons rfl (.cons rfl .nil)) cal39 (wstr_c (o := none) hd rfl (show 0 ≤ _ by omega) (Nat.le_trans (enc_len _) (by decide)))) ?_
  rintro _ _ ⟨rfl, vb0, rfl⟩
  refine rg_nil (hK _ ?_); clear hK K
  refine c_seq ?_
  refine c_seq ?_
  refine c_reg ?_; intro K hK
  refine st rfl rfl rfl (yv_move rfl rfl) ?_
  refine st rfl rfl rfl (yv_len_sl rfl Try.underlying26 rfl (lst_len l)) ?_
  refine st rfl rfl rfl (yv_move rfl rfl) ?_
  refine rg_nil (hK _ ?_); clear hK K
  refine c_block ?_; intro Q1 bn1 bx1 br1 bo1
  refine c_loop2 (ι := Nat) (κ := Option (Nat × List UInt8)) (fun k o => ⟨kn [(3, .pt 41003 v3 0 0), (10, ints l), (11, int l.length), (12, int k)], bH 72 5 H0 41003 v3 41090 o⟩) (fun k o => k ≤ l.length ∧ held o ++ (l.drop k).flatMap enc = encL l) (fun k o => l.length - k) 0 (some (vb0, enc l.length)) ⟨Nat.zero_le _, rfl⟩ (le_kn' ⟨rfl, rfl, rfl, rfl, trivial⟩) ?_
  rintro k o ⟨hk, hen⟩ Q2 ln2 lx2 lr2
  have hol : (held o).length ≤ 1099511627776 := by
    have h1 := congrArg List.length hen
    rw [List.length_append] at h1; omega
  refine c_seq ?_
  refine c_reg ?_; intro K hK
  refine st rfl rfl rfl (yv_lss rfl rfl rfl) ?_
  refine rg_nil (hK _ ?_); clear hK K
  refine c_seq ?_
  refine c_dec rfl ?_ ?_
  · intro h13
    have hkl : k < l.length := by omega
    refine c_skip ?_
    refine c_seq ?_
    refine c_block ?_; intro Q3 bn3 bx3 br3 bo3
    refine c_seq ?_
    refine c_reg ?_; intro K hK
    refine st rfl rfl rfl (yv_ixl rfl Try.underlying26 sh3 rfl rfl rfl hkl rfl) ?_
    refine st rfl rfl rfl (yv_load rfl sh3 rfl (by first | exact .pp _ | exact .pt (rfl) rfl rfl) rfl) ?_
    refine st rfl rfl rfl (yv_assign rfl rfl) ?_
    refine rg_nil (hK _ ?_); clear hK K
    refine c_reg ?_; intro K hK
    refine st rfl rfl rfl (yv_move rfl rfl) ?_
    refine st rfl rfl rfl (yv_callP rfl rfl (.cons rfl .nil) cal40 (CvL.refl _) (num_p (hv _ (List.getElem_mem hkl)))) ?_
    refine se rfl rfl rfl (yl_call rfl rfl (.cons rfl (.cons rfl .nil)) cal39 (wstr_c hd rfl hol (Nat.le_trans (enc_len _) (by decide)))) ?_
    rintro _ _ ⟨rfl, vb, rfl⟩
    refine rg_nil (hK _ ?_); clear hK K
    refine c_nil (bn3 _ ?_)
    refine c_reg ?_; intro K hK
    refine st rfl rfl rfl (yv_add rfl rfl rfl (wrap64 (by omega))) ?_
    refine st rfl rfl rfl (yv_move rfl rfl) ?_
    refine rg_nil (hK _ ?_); clear hK K
    refine c_nil (ln2 _ ⟨k + 1, some (vb, held o ++ enc l[k]), ⟨by omega, ?_⟩, by omega, le_kn' ⟨rfl, rfl, rfl, rfl, trivial⟩⟩)
    show (held o ++ enc l[k]) ++ _ = _; rw [List.append_assoc, ← flat_drop hkl]; exact hen
  · intro h13
    have hke : k = l.length := by omega
    subst hke
    rw [List.drop_length, List.flatMap_nil, List.append_nil] at hen
    obtain ⟨vb, rfl⟩ : ∃ vb, o = some (vb, encL l) := by
      cases o with
      | none => exact absurd hen.symm (encL_ne l)
      | some p => obtain ⟨vb, m⟩ := p; exact ⟨vb, by rw [← hen]; rfl⟩
    refine c_exit (lx2 _ _ (bx1 _ ?_))
    refine c_seq ?_
    refine c_reg ?_; intro K hK
    refine se rfl rfl rfl (yl_call rfl rfl (.cons rfl .nil) cal42 (bstr_c rfl rfl (encL_ne l) (by omega))) ?_
    rintro _ _ ⟨rfl, rfl⟩
    refine st rfl rfl rfl (yv_assign rfl rfl) ?_
    refine rg_nil (hK _ ?_); clear hK K
    refine c_ret (hret _ _ H0 (.tmp rfl .nil) (fun _ _ h => by cases h) ?_)
    exact rfl
theorem encl_p {l : List Int} (hv : ∀ v ∈ l, isI v) (hl : l.length ≤ 68719476736) : PP Try.prog 41 [ints l] (fun y => y = str (encL l)) := pp_of_pc (encl_pc hv hl) fun y H h => ⟨_, rfl, .sc _, by rw [h]; exact .refl _⟩
end Go.Pv
