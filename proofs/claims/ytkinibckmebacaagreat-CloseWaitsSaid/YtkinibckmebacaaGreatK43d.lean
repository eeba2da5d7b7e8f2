import Derived.Test.YtkinibckmebacaaGreatK43c
set_option linter.unusedVariables false
namespace Go.Pv
open Go.Proofs
set_option maxRecDepth 10000
set_option maxHeartbeats 1000000
def d_ref01_In (a1 : Int) : Option (Bool) :=
(show Option (Bool) from
bnd (decide (a1 ≥ (-288230376151711744))) fun x3 =>
cond x3 (bnd (decide (a1 ≤ 288230376151711744)) fun x4 =>
some (x4 : Bool)) (some (false : Bool))).bind <| fun y0_1 =>
some ((y0_1 : Bool))
theorem d_ref01_In_c {a1 : Int} {r : Bool} (h0 : d_ref01_In a1 = some r) : PP Tryz.prog 101 [int a1] (fun y => y = boo r) := by
  unfold d_ref01_In at h0
  refine pp_of_pc (R0 := fun y H => Cv (frzH H) y (boo r)) ?_ (fun y H hc => ⟨_, rfl, pvB r, hc⟩)
  refine pcw (c := _) Tryz.func101 rfl rfl ?_; intro Q hret hnorm
  refine tc tbk 5 (.mk ?_)
  refine jn h0 [] [] (fun (a : Bool) (k : Unit) => [(2, boo a)]) (fun a k => []) ⟨fun j2 h1 => ?_, ?_⟩
  refine tc tbk 2 (.mk ?_)
  refine nb tbk h1 fun x3 h1 => ?_
  refine tr tbk 1 (.mk ?_)
  cases x3
  replace h1 := cf h1
  refine tr tbk 5 (.mk ?_)
  exact lf h1 () leA
  replace h1 := ct h1
  refine tr tbk 1 (.mk ?_)
  refine nb tbk h1 fun x4 h1 => ?_
  refine tr tbk 3 (.mk ?_)
  exact lf h1 () leA
  rintro y0_1 _ h0
  obtain rfl := nxt_e h0
  refine wR hret (rT .nil) ?_
  exact .refl _
def d_ref01_Add (a1 : Int) (a2 : Int) : Option (Int × Int) :=
(show Option (Bool) from
(d_ref01_In a1).bind fun x4 =>
bnd (!x4) fun x5 =>
cond x5 (some (true : Bool)) ((d_ref01_In a2).bind fun x6 =>
bnd (!x6) fun x7 =>
cond x7 (some (true : Bool)) (bnd (w64 (a1 + a2)) fun x8 =>
(d_ref01_In x8).bind fun x9 =>
bnd (!x9) fun x10 =>
some (x10 : Bool)))).bind <| fun y0_1 =>
asrt (y0_1 = false) <|
bnd (w64 (a1 + a2)) fun x11 =>
some ((x11 : Int), (0 : Int))
theorem d_ref01_Add_c {a1 : Int} {a2 : Int} {r : Int × Int} (h0 : d_ref01_Add a1 a2 = some r) : PP Tryz.prog 56 [int a1, int a2] (fun y => y = .tup [int r.1, int r.2]) := by
  unfold d_ref01_Add at h0
  refine pp_of_pc (R0 := fun y H => Cv (frzH H) y (.tup [int r.1, int r.2])) ?_ (fun y H hc => ⟨_, rfl, .tup (pvl2 (pvI (r.1)) (pvI (r.2))), hc⟩)
  refine pcw (c := _) Tryz.func56 rfl rfl ?_; intro Q hret hnorm
  refine tc tbk 7 (.mk ?_)
  refine jn h0 [0, 1, 4, 5] [] (fun (a : Bool) (k : Unit) => [(20, boo a)]) (fun a k => []) ⟨fun j3 h1 => ?_, ?_⟩
  refine tc tbk 2 (.mk ?_)
  obtain ⟨x4, e4, h1⟩ := bind_e h1
  refine sC cal101 (d_ref01_In_c e4) ?_
  refine nb tbk h1 fun x5 h1 => ?_
  refine tr tbk 1 (.mk ?_)
  cases x5
  replace h1 := cf h1
  refine tr tbk 1 (.mk ?_)
  obtain ⟨x6, e6, h1⟩ := bind_e h1
  refine sC cal101 (d_ref01_In_c e6) ?_
  refine nb tbk h1 fun x7 h1 => ?_
  refine tr tbk 2 (.mk ?_)
  cases x7
  replace h1 := cf h1
  refine tr tbk 2 (.mk ?_)
  refine ni tbk h1 fun x8 h1 => ?_
  obtain ⟨x9, e9, h1⟩ := bind_e h1
  refine sC cal101 (d_ref01_In_c e9) ?_
  refine nb tbk h1 fun x10 h1 => ?_
  refine tr tbk 2 (.mk ?_)
  exact lf h1 () leA
  replace h1 := ct h1
  refine tr tbk 7 (.mk ?_)
  exact lf h1 () leA
  replace h1 := ct h1
  refine tr tbk 12 (.mk ?_)
  exact lf h1 () leA
  rintro y0_1 _ h0
  replace h0 := asrt_e h0
  obtain ⟨rfl, h0⟩ := h0
  refine tc tbk 6 (.mk ?_)
  refine ni tbk h0 fun x11 h0 => ?_
  refine tr tbk 3 (.mk ?_)
  obtain rfl := nxt_e h0
  refine wR hret (rT (rT .nil)) ?_
  exact .refl _
def d_ref01_Sum_L0 (a1 : List Int) : Nat → Int → Int → Option (Int)
  | 0, _, _ => none
  | n + 1, y0_1, y0_2 =>
    bnd (decide (y0_2 < (a1.length : Int))) fun x3 =>
    cond x3 ((ix a1 y0_2).bind fun x4 =>
    (d_ref01_Add y0_1 x4).bind fun x5 =>
    bnd (decide (x5.2 ≠ 0)) fun x6 =>
    asrt (x6 = false) <|
    bnd (w64 (y0_2 + 1)) fun x7 =>
    d_ref01_Sum_L0 a1 n (x5.1 : Int) (x7 : Int)) (some (y0_1 : Int))
def d_ref01_Sum (n : Nat) (a1 : List Int) : Option (Int × Int) :=
(show Option (Int) from
d_ref01_Sum_L0 a1 n (0 : Int) (0 : Int)).bind <| fun y1_1 =>
some ((y1_1 : Int), (0 : Int))
theorem d_ref01_Sum_c {n : Nat} {a1 : List Int} {r : Int × Int} (h0 : d_ref01_Sum n a1 = some r) : PP Tryz.prog 26 [lst 1 fI a1] (fun y => y = .tup [int r.1, int r.2]) := by
  unfold d_ref01_Sum at h0
  refine pp_of_pc (R0 := fun y H => Cv (frzH H) y (.tup [int r.1, int r.2])) ?_ (fun y H hc => ⟨_, rfl, .tup (pvl2 (pvI (r.1)) (pvI (r.2))), hc⟩)
  refine pcw (c := _) Tryz.func26 rfl rfl ?_; intro Q hret hnorm
  refine tc tbk 14 (.mk ?_)
  refine jn h0 [2, 3] [] (fun (a : Int) (k : Unit) => [(4, int a)]) (fun a k => []) ⟨fun j2 h1 => ?_, ?_⟩
  refine tc tbk 1 (.mk ?_)
  refine lp (fun n (a : Int × Int) => d_ref01_Sum_L0 a1 n a.1 a.2) ((0 : Int), (0 : Int)) () h1 [0, 2, 3] [] (fun (a : Int × Int) (k : Unit) => [(4, int a.1), (5, int a.2)]) (fun a k => []) (fun _ => rfl) ⟨leA, ?_⟩
  rintro n ⟨y0_1, y0_2⟩ _ hm h1
  replace h1 : d_ref01_Sum_L0 a1 (n + 1) y0_1 y0_2 = some _ := h1
  rw [d_ref01_Sum_L0] at h1
  refine tc tbk 5 (.mk ?_)
  refine sY (yv_len_sl rfl Tryz.underlying22 rfl (lst_len _)) ?_
  refine nb tbk h1 fun x3 h1 => ?_
  refine tr tbk 1 (.mk ?_)
  cases x3
  replace h1 := cf h1
  refine tc tbk 2 (.mk ?_)
  exact lf h1 () leA
  replace h1 := ct h1
  refine tc tbk 9 (.mk ?_)
  obtain ⟨x4, e4, h1⟩ := bind_e h1
  refine sY (yv_ixT rfl Tryz.underlying22 sh3 rfl rfl e4) ?_
  refine tr tbk 1 (.mk ?_)
  obtain ⟨x5, e5, h1⟩ := bind_e h1
  refine sC cal56 (d_ref01_Add_c e5) ?_
  refine tr tbk 10 (.mk ?_)
  refine nb tbk h1 fun x6 h1 => ?_
  refine tr tbk 1 (.mk ?_)
  replace h1 := asrt_e h1
  obtain ⟨rfl, h1⟩ := h1
  refine tc tbk 9 (.mk ?_)
  refine ni tbk h1 fun x7 h1 => ?_
  refine tr tbk 2 (.mk ?_)
  exact bk (x5.1, x7) () h1 leA
  rintro y1_1 _ h0
  refine tc tbk 6 (.mk ?_)
  obtain rfl := nxt_e h0
  refine wR hret (rT (rT .nil)) ?_
  exact .refl _
def d_ref01_Wide (a1 : Int) (a2 : Int) : Option (Int × Int) :=
bnd (wu64 a1) fun x3 =>
bnd (wu64 a2) fun x4 =>
bnd (wu64 ((BitVec.ofInt IntKind.u64.bits x3 &&& BitVec.ofInt IntKind.u64.bits 4294967295).toNat : Int)) fun x5 =>
bnd (x3.fdiv (2 ^ (min (32 : Int).toNat IntKind.u64.bits))) fun x6 =>
bnd (wu64 ((BitVec.ofInt IntKind.u64.bits x4 &&& BitVec.ofInt IntKind.u64.bits 4294967295).toNat : Int)) fun x7 =>
bnd (x4.fdiv (2 ^ (min (32 : Int).toNat IntKind.u64.bits))) fun x8 =>
bnd (wu64 (x5 * x7)) fun x9 =>
bnd (wu64 (x5 * x8)) fun x10 =>
bnd (wu64 (x6 * x7)) fun x11 =>
bnd (wu64 (x6 * x8)) fun x12 =>
bnd (x9.fdiv (2 ^ (min (32 : Int).toNat IntKind.u64.bits))) fun x13 =>
bnd (wu64 ((BitVec.ofInt IntKind.u64.bits x10 &&& BitVec.ofInt IntKind.u64.bits 4294967295).toNat : Int)) fun x14 =>
bnd (wu64 (x13 + x14)) fun x15 =>
bnd (wu64 ((BitVec.ofInt IntKind.u64.bits x11 &&& BitVec.ofInt IntKind.u64.bits 4294967295).toNat : Int)) fun x16 =>
bnd (wu64 (x15 + x16)) fun x17 =>
bnd (x10.fdiv (2 ^ (min (32 : Int).toNat IntKind.u64.bits))) fun x18 =>
bnd (wu64 (x12 + x18)) fun x19 =>
bnd (x11.fdiv (2 ^ (min (32 : Int).toNat IntKind.u64.bits))) fun x20 =>
bnd (wu64 (x19 + x20)) fun x21 =>
bnd (x17.fdiv (2 ^ (min (32 : Int).toNat IntKind.u64.bits))) fun x22 =>
bnd (wu64 (x21 + x22)) fun x23 =>
bnd (wu64 (x17 * (2 ^ (min (32 : Int).toNat IntKind.u64.bits)))) fun x24 =>
bnd (wu64 ((BitVec.ofInt IntKind.u64.bits x9 &&& BitVec.ofInt IntKind.u64.bits 4294967295).toNat : Int)) fun x25 =>
bnd (wu64 ((BitVec.ofInt IntKind.u64.bits x24 ||| BitVec.ofInt IntKind.u64.bits x25).toNat : Int)) fun x26 =>
some ((x23 : Int), (x26 : Int))
theorem d_ref01_Wide_c {a1 : Int} {a2 : Int} {r : Int × Int} (h0 : d_ref01_Wide a1 a2 = some r) : PP Tryz.prog 57 [int a1, int a2] (fun y => y = .tup [.sc (.int .u64 r.1), .sc (.int .u64 r.2)]) := by
  unfold d_ref01_Wide at h0
  refine pp_of_pc (R0 := fun y H => Cv (frzH H) y (.tup [.sc (.int .u64 r.1), .sc (.int .u64 r.2)])) ?_ (fun y H hc => ⟨_, rfl, .tup (pvl2 ((pvK .u64) (r.1)) ((pvK .u64) (r.2))), hc⟩)
  refine pcw (c := _) Tryz.func57 rfl rfl ?_; intro Q hret hnorm
  refine tc tbk 8 (.mk ?_)
  refine ni tbk h0 fun x3 h0 => ?_
  refine tr tbk 1 (.mk ?_)
  refine ni tbk h0 fun x4 h0 => ?_
  refine tr tbk 6 (.mk ?_)
  obtain ⟨x5, e5, h0⟩ := bnd_e h0
  refine sY (yv_and rfl rfl rfl e5) ?_
  refine tr tbk 1 (.mk ?_)
  refine ni tbk h0 fun x6 h0 => ?_
  refine tr tbk 1 (.mk ?_)
  obtain ⟨x7, e7, h0⟩ := bnd_e h0
  refine sY (yv_and rfl rfl rfl e7) ?_
  refine tr tbk 1 (.mk ?_)
  refine ni tbk h0 fun x8 h0 => ?_
  refine tr tbk 9 (.mk ?_)
  refine ni tbk h0 fun x9 h0 => ?_
  refine tr tbk 2 (.mk ?_)
  refine ni tbk h0 fun x10 h0 => ?_
  refine tr tbk 2 (.mk ?_)
  refine ni tbk h0 fun x11 h0 => ?_
  refine tr tbk 2 (.mk ?_)
  refine ni tbk h0 fun x12 h0 => ?_
  refine tr tbk 8 (.mk ?_)
  refine ni tbk h0 fun x13 h0 => ?_
  refine tr tbk 1 (.mk ?_)
  obtain ⟨x14, e14, h0⟩ := bnd_e h0
  refine sY (yv_and rfl rfl rfl e14) ?_
  refine ni tbk h0 fun x15 h0 => ?_
  refine tr tbk 1 (.mk ?_)
  obtain ⟨x16, e16, h0⟩ := bnd_e h0
  refine sY (yv_and rfl rfl rfl e16) ?_
  refine ni tbk h0 fun x17 h0 => ?_
  refine tr tbk 6 (.mk ?_)
  refine ni tbk h0 fun x18 h0 => ?_
  refine ni tbk h0 fun x19 h0 => ?_
  refine tr tbk 1 (.mk ?_)
  refine ni tbk h0 fun x20 h0 => ?_
  refine ni tbk h0 fun x21 h0 => ?_
  refine tr tbk 1 (.mk ?_)
  refine ni tbk h0 fun x22 h0 => ?_
  refine ni tbk h0 fun x23 h0 => ?_
  refine tr tbk 1 (.mk ?_)
  refine ni tbk h0 fun x24 h0 => ?_
  refine tr tbk 1 (.mk ?_)
  obtain ⟨x25, e25, h0⟩ := bnd_e h0
  refine sY (yv_and rfl rfl rfl e25) ?_
  obtain ⟨x26, e26, h0⟩ := bnd_e h0
  refine sY (yv_or rfl rfl rfl e26) ?_
  refine tr tbk 3 (.mk ?_)
  obtain rfl := nxt_e h0
  refine wR hret (rT (rT .nil)) ?_
  exact .refl _
def d_ref01_MulDiv_L0 (x8 : Int × Int) (x9 : Int) : Nat → Int → Int → Int → Option (Int × Int)
  | 0, _, _, _ => none
  | n + 1, y1_1, y1_2, y1_3 =>
    bnd (decide (y1_3 ≥ 0)) fun x12 =>
    cond x12 ((show Option (Int × Int) from
    bnd (wu64 (y1_1 * (2 ^ (min (1 : Int).toNat IntKind.u64.bits)))) fun x14 =>
    bnd (wu64 y1_3) fun x15 =>
    asrt ((0 : Int) ≤ x15) <|
    bnd (x8.2.fdiv (2 ^ (min x15.toNat IntKind.u64.bits))) fun x17 =>
    bnd (wu64 ((BitVec.ofInt IntKind.u64.bits x17 &&& BitVec.ofInt IntKind.u64.bits 1).toNat : Int)) fun x18 =>
    bnd (wu64 ((BitVec.ofInt IntKind.u64.bits x14 ||| BitVec.ofInt IntKind.u64.bits x18).toNat : Int)) fun x19 =>
    bnd (wu64 (y1_2 * (2 ^ (min (1 : Int).toNat IntKind.u64.bits)))) fun x20 =>
    bnd (decide (x19 ≥ x9)) fun x21 =>
    cond x21 (bnd (wu64 (x19 - x9)) fun x22 =>
    bnd (wu64 ((BitVec.ofInt IntKind.u64.bits x20 ||| BitVec.ofInt IntKind.u64.bits 1).toNat : Int)) fun x23 =>
    some ((x22 : Int), (x23 : Int))) (some ((x19 : Int), (x20 : Int)))).bind <| p2 fun (y2_1 : Int) (y2_2 : Int) =>
    bnd (w64 (y1_3 - 1)) fun x24 =>
    d_ref01_MulDiv_L0 x8 x9 n (y2_1 : Int) (y2_2 : Int) (x24 : Int)) (some ((y1_1 : Int), (y1_2 : Int)))
def d_ref01_MulDiv (n : Nat) (a1 : Int) (a2 : Int) (a3 : Int) : Option (Int × Int × Int) :=
(show Option (Bool) from
bnd (decide (a1 < 0)) fun x5 =>
cond x5 (some (true : Bool)) (bnd (decide (a2 < 0)) fun x6 =>
cond x6 (some (true : Bool)) (bnd (decide (a3 < 1)) fun x7 =>
some (x7 : Bool)))).bind <| fun y0_1 =>
asrt (y0_1 = false) <|
(d_ref01_Wide a1 a2).bind fun x8 =>
bnd (wu64 a3) fun x9 =>
bnd (decide (x8.1 ≥ x9)) fun x10 =>
asrt (x10 = false) <|
(show Option (Int × Int) from
d_ref01_MulDiv_L0 x8 x9 n (x8.1 : Int) (0 : Int) (63 : Int)).bind <| p2 fun (y3_1 : Int) (y3_2 : Int) =>
bnd (decide (y3_2 > 288230376151711744)) fun x25 =>
asrt (x25 = false) <|
bnd (w64 y3_2) fun x26 =>
bnd (w64 y3_1) fun x27 =>
some ((x26 : Int), (x27 : Int), (0 : Int))
theorem d_ref01_MulDiv_c {n : Nat} {a1 : Int} {a2 : Int} {a3 : Int} {r : Int × Int × Int} (h0 : d_ref01_MulDiv n a1 a2 a3 = some r) : PP Tryz.prog 27 [int a1, int a2, int a3] (fun y => y = .tup [int r.1, int r.2.1, int r.2.2]) := by
  unfold d_ref01_MulDiv at h0
  refine pp_of_pc (R0 := fun y H => Cv (frzH H) y (.tup [int r.1, int r.2.1, int r.2.2])) ?_ (fun y H hc => ⟨_, rfl, .tup (pvl3 (pvI (r.1)) (pvI (r.2.1)) (pvI (r.2.2))), hc⟩)
  refine pcw (c := _) Tryz.func27 rfl rfl ?_; intro Q hret hnorm
  refine tc tbk 8 (.mk ?_)
  refine jn h0 [0, 1, 2, 6, 7, 8] [] (fun (a : Bool) (k : Unit) => [(24, boo a)]) (fun a k => []) ⟨fun j4 h1 => ?_, ?_⟩
  refine tc tbk 2 (.mk ?_)
  refine nb tbk h1 fun x5 h1 => ?_
  refine tr tbk 1 (.mk ?_)
  cases x5
  replace h1 := cf h1
  refine tr tbk 1 (.mk ?_)
  refine nb tbk h1 fun x6 h1 => ?_
  refine tr tbk 2 (.mk ?_)
  cases x6
  replace h1 := cf h1
  refine tr tbk 1 (.mk ?_)
  refine nb tbk h1 fun x7 h1 => ?_
  refine tr tbk 2 (.mk ?_)
  exact lf h1 () leA
  replace h1 := ct h1
  refine tr tbk 4 (.mk ?_)
  exact lf h1 () leA
  replace h1 := ct h1
  refine tr tbk 8 (.mk ?_)
  exact lf h1 () leA
  rintro y0_1 _ h0
  replace h0 := asrt_e h0
  obtain ⟨rfl, h0⟩ := h0
  refine tc tbk 6 (.mk ?_)
  obtain ⟨x8, e8, h0⟩ := bind_e h0
  refine sC cal57 (d_ref01_Wide_c e8) ?_
  refine tr tbk 9 (.mk ?_)
  refine ni tbk h0 fun x9 h0 => ?_
  refine tr tbk 9 (.mk ?_)
  refine nb tbk h0 fun x10 h0 => ?_
  refine tr tbk 1 (.mk ?_)
  replace h0 := asrt_e h0
  obtain ⟨rfl, h0⟩ := h0
  refine tc tbk 12 (.mk ?_)
  refine jn h0 [6, 7, 8] [] (fun (a : Int × Int) (k : Unit) => [(12, .sc (.int .u64 a.1)), (13, .sc (.int .u64 a.2))]) (fun a k => []) ⟨fun j11 h1 => ?_, ?_⟩
  refine tc tbk 1 (.mk ?_)
  refine lp (fun n (a : Int × Int × Int) => d_ref01_MulDiv_L0 x8 x9 n a.1 a.2.1 a.2.2) ((x8.1 : Int), (0 : Int), (63 : Int)) () h1 [6, 7, 8, 10, 11] [] (fun (a : Int × Int × Int) (k : Unit) => [(12, .sc (.int .u64 a.1)), (13, .sc (.int .u64 a.2.1)), (14, int a.2.2)]) (fun a k => []) (fun _ => rfl) ⟨leA, ?_⟩
  rintro n ⟨y1_1, y1_2, y1_3⟩ _ hm h1
  replace h1 : d_ref01_MulDiv_L0 x8 x9 (n + 1) y1_1 y1_2 y1_3 = some _ := h1
  rw [d_ref01_MulDiv_L0] at h1
  refine tc tbk 4 (.mk ?_)
  refine nb tbk h1 fun x12 h1 => ?_
  refine tr tbk 1 (.mk ?_)
  cases x12
  replace h1 := cf h1
  refine tc tbk 2 (.mk ?_)
  exact lf h1 () leA
  replace h1 := ct h1
  refine tc tbk 3 (.mk ?_)
  refine jn h1 [6, 7, 8, 10, 11, 14] [] (fun (a : Int × Int) (k : Unit) => [(12, .sc (.int .u64 a.1)), (13, .sc (.int .u64 a.2))]) (fun a k => []) ⟨fun j13 h2 => ?_, ?_⟩
  refine tc tbk 4 (.mk ?_)
  refine ni tbk h2 fun x14 h2 => ?_
  refine tr tbk 2 (.mk ?_)
  refine ni tbk h2 fun x15 h2 => ?_
  obtain ⟨p16, h2⟩ := asrt_e h2
  obtain ⟨x17, e17, h2⟩ := bnd_e h2
  refine sY (yv_shr rfl rfl rfl p16 e17) ?_
  obtain ⟨x18, e18, h2⟩ := bnd_e h2
  refine sY (yv_and rfl rfl rfl e18) ?_
  obtain ⟨x19, e19, h2⟩ := bnd_e h2
  refine sY (yv_or rfl rfl rfl e19) ?_
  refine tr tbk 5 (.mk ?_)
  refine ni tbk h2 fun x20 h2 => ?_
  refine tr tbk 6 (.mk ?_)
  refine nb tbk h2 fun x21 h2 => ?_
  refine tr tbk 1 (.mk ?_)
  cases x21
  replace h2 := cf h2
  refine tc tbk 3 (.mk ?_)
  exact lf h2 () leA
  replace h2 := ct h2
  refine tc tbk 4 (.mk ?_)
  refine ni tbk h2 fun x22 h2 => ?_
  refine tr tbk 1 (.mk ?_)
  obtain ⟨x23, e23, h2⟩ := bnd_e h2
  refine sY (yv_or rfl rfl rfl e23) ?_
  refine tr tbk 4 (.mk ?_)
  exact lf h2 () leA
  rintro ⟨y2_1, y2_2⟩ _ h1
  replace h1 := p2_e h1
  refine tc tbk 2 (.mk ?_)
  refine ni tbk h1 fun x24 h1 => ?_
  refine tr tbk 2 (.mk ?_)
  exact bk (y2_1, y2_2, x24) () h1 leA
  rintro ⟨y3_1, y3_2⟩ _ h0
  replace h0 := p2_e h0
  refine tc tbk 4 (.mk ?_)
  refine nb tbk h0 fun x25 h0 => ?_
  refine tr tbk 1 (.mk ?_)
  replace h0 := asrt_e h0
  obtain ⟨rfl, h0⟩ := h0
  refine tc tbk 5 (.mk ?_)
  refine ni tbk h0 fun x26 h0 => ?_
  refine tr tbk 1 (.mk ?_)
  refine ni tbk h0 fun x27 h0 => ?_
  refine tr tbk 4 (.mk ?_)
  obtain rfl := nxt_e h0
  refine wR hret (rT (rT (rT .nil))) ?_
  exact .refl _
def d_ref14_to (a1 : Int) (a2 : Int) : Option (Bool) :=
(show Option (Bool) from
bnd (decide (a1 ≥ 0)) fun x4 =>
cond x4 (bnd (decide (a1 ≤ a2)) fun x5 =>
some (x5 : Bool)) (some (false : Bool))).bind <| fun y0_1 =>
some ((y0_1 : Bool))
theorem d_ref14_to_c {a1 : Int} {a2 : Int} {r : Bool} (h0 : d_ref14_to a1 a2 = some r) : PP Tryz.prog 104 [int a1, int a2] (fun y => y = boo r) := by
  unfold d_ref14_to at h0
  refine pp_of_pc (R0 := fun y H => Cv (frzH H) y (boo r)) ?_ (fun y H hc => ⟨_, rfl, pvB r, hc⟩)
  refine pcw (c := _) Tryz.func104 rfl rfl ?_; intro Q hret hnorm
  refine tc tbk 5 (.mk ?_)
  refine jn h0 [] [] (fun (a : Bool) (k : Unit) => [(4, boo a)]) (fun a k => []) ⟨fun j3 h1 => ?_, ?_⟩
  refine tc tbk 2 (.mk ?_)
  refine nb tbk h1 fun x4 h1 => ?_
  refine tr tbk 1 (.mk ?_)
  cases x4
  replace h1 := cf h1
  refine tr tbk 6 (.mk ?_)
  exact lf h1 () leA
  replace h1 := ct h1
  refine tr tbk 2 (.mk ?_)
  refine nb tbk h1 fun x5 h1 => ?_
  refine tr tbk 3 (.mk ?_)
  exact lf h1 () leA
  rintro y0_1 _ h0
  obtain rfl := nxt_e h0
  refine wR hret (rT .nil) ?_
  exact .refl _
def d_ref14_there (a1 : GState) (a2 : Int) (a3 : Int) : Option (Bool) :=
(show Option (Bool) from
bnd (w64 ((a1.Ents.length : Int) - 1)) fun x6 =>
(d_ref14_to a2 x6).bind fun x7 =>
cond x7 (bnd (w64 ((a1.Master.Weights.length : Int) - 1)) fun x8 =>
(d_ref14_to a3 x8).bind fun x9 =>
some (x9 : Bool)) (some (false : Bool))).bind <| fun y0_1 =>
some ((y0_1 : Bool))
theorem d_ref14_there_c {a1 : GState} {a2 : Int} {a3 : Int} {r : Bool} (h0 : d_ref14_there a1 a2 a3 = some r) : PP Tryz.prog 103 [.agg (GState.av a1), int a2, int a3] (fun y => y = boo r) := by
  unfold d_ref14_there at h0
  refine pp_of_pc (R0 := fun y H => Cv (frzH H) y (boo r)) ?_ (fun y H hc => ⟨_, rfl, pvB r, hc⟩)
  refine pcw (c := _) Tryz.func103 rfl rfl ?_; intro Q hret hnorm
  refine tc tbk 2 (.mk ?_)
  refine sB 1 fun v4 => ?_
  refine tr tbk 3 (.mk ?_)
  refine jn h0 [] [] (fun (a : Bool) (k : Unit) => [(6, boo a)]) (fun a k => []) ⟨fun j5 h1 => ?_, ?_⟩
  refine tc tbk 4 (.mk ?_)
  refine sY (yv_len_sl rfl Tryz.underlying26 rfl (lst_len _)) ?_
  refine ni tbk h1 fun x6 h1 => ?_
  obtain ⟨x7, e7, h1⟩ := bind_e h1
  refine sC cal104 (d_ref14_to_c e7) ?_
  refine tr tbk 1 (.mk ?_)
  cases x7
  replace h1 := cf h1
  refine tr tbk 10 (.mk ?_)
  exact lf h1 () leA
  replace h1 := ct h1
  refine tr tbk 4 (.mk ?_)
  refine sY (yv_len_sl rfl Tryz.underlying22 rfl (lst_len _)) ?_
  refine ni tbk h1 fun x8 h1 => ?_
  obtain ⟨x9, e9, h1⟩ := bind_e h1
  refine sC cal104 (d_ref14_to_c e9) ?_
  refine tr tbk 3 (.mk ?_)
  exact lf h1 () leA
  rintro y0_1 _ h0
  obtain rfl := nxt_e h0
  refine wR hret (rT .nil) ?_
  exact .refl _
def d_ref14_At (a1 : GState) (a2 : Int) (a3 : Int) (a4 : Int) : Option (GPool) :=
(show Option (Bool) from
(d_ref14_there a1 a2 a3).bind fun x8 =>
bnd (!x8) fun x9 =>
cond x9 (some (true : Bool)) ((d_ref14_to a4 1).bind fun x10 =>
bnd (!x10) fun x11 =>
cond x11 (some (true : Bool)) (bnd (w64 (a3 * 2)) fun x12 =>
bnd (w64 (x12 + a4)) fun x13 =>
(ix a1.Ents a2).bind fun x14 =>
bnd (decide (x13 ≥ (x14.Pools.length : Int))) fun x15 =>
some (x15 : Bool)))).bind <| fun y0_1 =>
asrt (y0_1 = false) <|
(ix a1.Ents a2).bind fun x16 =>
bnd (w64 (a3 * 2)) fun x17 =>
bnd (w64 (x17 + a4)) fun x18 =>
(ix x16.Pools x18).bind fun x19 =>
some ((x19 : GPool))
theorem d_ref14_At_c {a1 : GState} {a2 : Int} {a3 : Int} {a4 : Int} {r : GPool} (h0 : d_ref14_At a1 a2 a3 a4 = some r) : PP Tryz.prog 59 [.agg (GState.av a1), int a2, int a3, int a4] (fun y => y = .agg (GPool.av r)) := by
  unfold d_ref14_At at h0
  refine pp_of_pc (R0 := fun y H => Cv (frzH H) y (.agg (GPool.av r))) ?_ (fun y H hc => ⟨_, rfl, (fun (a : GPool) => PV.agg (GPool.pvc a)) r, hc⟩)
  refine pcw (c := _) Tryz.func59 rfl rfl ?_; intro Q hret hnorm
  refine tc tbk 2 (.mk ?_)
  refine sB 1 fun v5 => ?_
  refine sA 2 z98 fun v6 => ?_
  refine tr tbk 3 (.mk ?_)
  refine jn h0 [1, 2, 3, 4, 8] [1, 2] (fun (a : Bool) (k : Unit) => [(32, boo a)]) (fun a k => []) ⟨fun j7 h1 => ?_, ?_⟩
  refine tc tbk 4 (.mk ?_)
  obtain ⟨x8, e8, h1⟩ := bind_e h1
  refine sC cal103 (d_ref14_there_c e8) ?_
  refine nb tbk h1 fun x9 h1 => ?_
  refine tr tbk 1 (.mk ?_)
  cases x9
  replace h1 := cf h1
  refine tr tbk 1 (.mk ?_)
  obtain ⟨x10, e10, h1⟩ := bind_e h1
  refine sC cal104 (d_ref14_to_c e10) ?_
  refine nb tbk h1 fun x11 h1 => ?_
  refine tr tbk 2 (.mk ?_)
  cases x11
  replace h1 := cf h1
  refine tr tbk 1 (.mk ?_)
  refine ni tbk h1 fun x12 h1 => ?_
  refine tr tbk 1 (.mk ?_)
  refine ni tbk h1 fun x13 h1 => ?_
  refine tr tbk 3 (.mk ?_)
  obtain ⟨x14, e14, h1⟩ := bind_e h1
  refine sY (yv_to (y := .pp [int x14.Now, boo x14.Closed, lst 4 GPool.av x14.Pools, lst 1 fI x14.Bal, lst 11 GRoll.av x14.Rolls, lst 1 fI x14.Prices, lst 1 fI x14.Down, lst 8 GEnt.av x14.Ahead]) (yv_ixT rfl Tryz.underlying26 sh46 rfl rfl e14) (congrArg AV.pp (GEnt.av_eq x14))) ?_
  refine tr tbk 2 (.mk ?_)
  refine sY (yv_len_sl rfl Tryz.underlying43 rfl (lst_len _)) ?_
  refine nb tbk h1 fun x15 h1 => ?_
  refine tr tbk 2 (.mk ?_)
  exact lf h1 () leA
  replace h1 := ct h1
  refine tr tbk 14 (.mk ?_)
  exact lf h1 () leA
  replace h1 := ct h1
  refine tr tbk 19 (.mk ?_)
  exact lf h1 () leA
  rintro y0_1 _ h0
  replace h0 := asrt_e h0
  obtain ⟨rfl, h0⟩ := h0
  refine tc tbk 7 (.mk ?_)
  obtain ⟨x16, e16, h0⟩ := bind_e h0
  refine sY (yv_to (y := .pp [int x16.Now, boo x16.Closed, lst 4 GPool.av x16.Pools, lst 1 fI x16.Bal, lst 11 GRoll.av x16.Rolls, lst 1 fI x16.Prices, lst 1 fI x16.Down, lst 8 GEnt.av x16.Ahead]) (yv_ixT rfl Tryz.underlying26 sh46 rfl rfl e16) (congrArg AV.pp (GEnt.av_eq x16))) ?_
  refine tr tbk 3 (.mk ?_)
  refine ni tbk h0 fun x17 h0 => ?_
  refine tr tbk 1 (.mk ?_)
  refine ni tbk h0 fun x18 h0 => ?_
  obtain ⟨x19, e19, h0⟩ := bind_e h0
  refine sY (yv_ixT rfl Tryz.underlying43 sh98 rfl rfl e19) ?_
  refine tr tbk 1 (.mk ?_)
  refine sS ⟨98, 4, true, true, v6, [[lst 3 GLayer.av x19.Layers, int x19.Pend.a0, int x19.Pend.a1, int x19.Pend.a2]]⟩ sh98 ?_
  refine tr tbk 1 (.mk ?_)
  obtain rfl := nxt_e h0
  refine wR hret (rC sh98 .nil) ?_
  exact .refl _
def d_ref09_Total_L0 (a1 : List GLayer) : Nat → Int → GLayer → Option (GLayer)
  | 0, _, _ => none
  | n + 1, y0_1, y0_2 =>
    bnd (decide (y0_1 < (a1.length : Int))) fun x5 =>
    cond x5 ((ix a1 y0_1).bind fun x6 =>
    (d_ref01_Add y0_2.Qty x6.Qty).bind fun x7 =>
    (ix a1 y0_1).bind fun x8 =>
    (d_ref01_Add y0_2.Value x8.Value).bind fun x9 =>
    (ix a1 y0_1).bind fun x10 =>
    (d_ref01_Add y0_2.Profit x10.Profit).bind fun x11 =>
    (show Option (Bool) from
    bnd (decide (x7.2 ≠ 0)) fun x13 =>
    cond x13 (some (true : Bool)) (bnd (decide (x9.2 ≠ 0)) fun x14 =>
    cond x14 (some (true : Bool)) (bnd (decide (x11.2 ≠ 0)) fun x15 =>
    some (x15 : Bool)))).bind <| fun y1_1 =>
    asrt (y1_1 = false) <|
    bnd (w64 (y0_1 + 1)) fun x16 =>
    d_ref09_Total_L0 a1 n (x16 : Int) ((⟨x7.1, x9.1, x11.1⟩ : GLayer) : GLayer)) (some (y0_2 : GLayer))
def d_ref09_Total (n : Nat) (a1 : List GLayer) : Option (GLayer × Int) :=
(show Option (GLayer) from
d_ref09_Total_L0 a1 n (0 : Int) ((⟨0, 0, 0⟩ : GLayer) : GLayer)).bind <| fun y2_1 =>
some ((y2_1 : GLayer), (0 : Int))
theorem d_ref09_Total_c {n : Nat} {a1 : List GLayer} {r : GLayer × Int} (h0 : d_ref09_Total n a1 = some r) : PP Tryz.prog 102 [lst 3 GLayer.av a1] (fun y => y = .tup [.agg (GLayer.av r.1), int r.2]) := by
  unfold d_ref09_Total at h0
  refine pp_of_pc (R0 := fun y H => Cv (frzH H) y (.tup [.agg (GLayer.av r.1), int r.2])) ?_ (fun y H hc => ⟨_, rfl, .tup (pvl2 ((fun (a : GLayer) => PV.agg (GLayer.pvc a)) (r.1)) (pvI (r.2))), hc⟩)
  refine pcw (c := _) Tryz.func102 rfl rfl ?_; intro Q hret hnorm
  refine tc tbk 2 (.mk ?_)
  refine sA 1 z57 fun v2 => ?_
  refine tr tbk 4 (.mk ?_)
  refine sA 2 z57 fun v3 => ?_
  refine tr tbk 6 (.mk ?_)
  refine jn h0 [2, 3, 4] [1] (fun (a : GLayer) (k : Unit) => []) (fun a k => [(2, ⟨57, 3, true, true, v3, [[int a.Qty, int a.Value, int a.Profit]]⟩)]) ⟨fun j4 h1 => ?_, ?_⟩
  refine tc tbk 1 (.mk ?_)
  refine lp (fun n (a : Int × GLayer) => d_ref09_Total_L0 a1 n a.1 a.2) ((0 : Int), ((⟨0, 0, 0⟩ : GLayer) : GLayer)) () h1 [0, 2, 3, 4] [1] (fun (a : Int × GLayer) (k : Unit) => [(5, int a.1)]) (fun a k => [(2, ⟨57, 3, true, true, v3, [[int a.2.Qty, int a.2.Value, int a.2.Profit]]⟩)]) (fun _ => rfl) ⟨leA, ?_⟩
  rintro n ⟨y0_1, y0_2⟩ _ hm h1
  replace h1 : d_ref09_Total_L0 a1 (n + 1) y0_1 y0_2 = some _ := h1
  rw [d_ref09_Total_L0] at h1
  refine tc tbk 5 (.mk ?_)
  refine sY (yv_len_sl rfl Tryz.underlying95 rfl (lst_len _)) ?_
  refine nb tbk h1 fun x5 h1 => ?_
  refine tr tbk 1 (.mk ?_)
  cases x5
  replace h1 := cf h1
  refine tc tbk 2 (.mk ?_)
  exact lf h1 () leA
  replace h1 := ct h1
  refine tc tbk 5 (.mk ?_)
  refine c_drawE [0, 1, 0, 0, 12, 28, 60, 127, 255, 511, 511, 1023, 4095] (rl [(0, [2]), (1, [2])] []) (fun i => [2]) (fun i => true) [0, 1, 2, 3, 4, 5, 6, 7, 8, 9, 10, 11, 12] mixed (by kernel_rfl) ?_; intro K hK
  refine eF fo57_0 ?_
  refine eL sh3 ?_
  iterate 2 refine eM ?_
  obtain ⟨x6, e6, h1⟩ := bind_e h1
  refine eP (fun H hH => yv_ixT rfl Tryz.underlying95 sh57 rfl rfl e6) ?_
  refine eP (fun H hH => yv_fieldAddr rfl fo57_0 rfl (.pp _) (.pp _ _)) ?_
  refine eP (fun H hH => yv_load rfl sh3 rfl (.pp _) rfl) ?_
  obtain ⟨x7, e7, h1⟩ := bind_e h1
  refine eP (fun H hH => yv_callP rfl rfl (.cons rfl (.cons rfl .nil)) cal56 (CvL.refl _) (d_ref01_Add_c e7)) ?_
  refine eM ?_
  iterate 2 refine eX ?_
  iterate 2 refine eA ?_
  refine de_nil (hK _ ?_)
  refine tc tbk 1 (.mk ?_)
  refine c_drawE [0, 1, 0, 0, 12, 28, 60, 127, 255, 511, 511, 1023, 4095] (rl [(0, [2]), (1, [2])] []) (fun i => [2]) (fun i => true) [0, 1, 2, 3, 4, 5, 6, 7, 8, 9, 10, 11, 12] mixed (by kernel_rfl) ?_; intro K hK
  refine eF fo57_1 ?_
  refine eL sh3 ?_
  iterate 2 refine eM ?_
  obtain ⟨x8, e8, h1⟩ := bind_e h1
  refine eP (fun H hH => yv_ixT rfl Tryz.underlying95 sh57 rfl rfl e8) ?_
  refine eP (fun H hH => yv_fieldAddr rfl fo57_1 rfl (.pp _) (.pp _ _)) ?_
  refine eP (fun H hH => yv_load rfl sh3 rfl (.pp _) rfl) ?_
  obtain ⟨x9, e9, h1⟩ := bind_e h1
  refine eP (fun H hH => yv_callP rfl rfl (.cons rfl (.cons rfl .nil)) cal56 (CvL.refl _) (d_ref01_Add_c e9)) ?_
  refine eM ?_
  iterate 2 refine eX ?_
  iterate 2 refine eA ?_
  refine de_nil (hK _ ?_)
  refine tc tbk 1 (.mk ?_)
  refine c_drawE [0, 1, 0, 0, 12, 28, 60, 127, 255, 511, 511, 1023, 4095] (rl [(0, [2]), (1, [2])] []) (fun i => [2]) (fun i => true) [0, 1, 2, 3, 4, 5, 6, 7, 8, 9, 10, 11, 12] mixed (by kernel_rfl) ?_; intro K hK
  refine eF fo57_2 ?_
  refine eL sh3 ?_
  iterate 2 refine eM ?_
  obtain ⟨x10, e10, h1⟩ := bind_e h1
  refine eP (fun H hH => yv_ixT rfl Tryz.underlying95 sh57 rfl rfl e10) ?_
  refine eP (fun H hH => yv_fieldAddr rfl fo57_2 rfl (.pp _) (.pp _ _)) ?_
  refine eP (fun H hH => yv_load rfl sh3 rfl (.pp _) rfl) ?_
  obtain ⟨x11, e11, h1⟩ := bind_e h1
  refine eP (fun H hH => yv_callP rfl rfl (.cons rfl (.cons rfl .nil)) cal56 (CvL.refl _) (d_ref01_Add_c e11)) ?_
  refine eM ?_
  iterate 2 refine eX ?_
  iterate 2 refine eA ?_
  refine de_nil (hK _ ?_)
  refine tc tbk 2 (.mk ?_)
  refine jn h1 [0, 2, 3, 4, 5, 6, 8, 10] [1, 2] (fun (a : Bool) (k : Unit) => [(60, boo a)]) (fun a k => []) ⟨fun j12 h2 => ?_, ?_⟩
  refine tc tbk 2 (.mk ?_)
  refine nb tbk h2 fun x13 h2 => ?_
  refine tr tbk 1 (.mk ?_)
  cases x13
  replace h2 := cf h2
  refine tr tbk 1 (.mk ?_)
  refine nb tbk h2 fun x14 h2 => ?_
  refine tr tbk 2 (.mk ?_)
  cases x14
  replace h2 := cf h2
  refine tr tbk 1 (.mk ?_)
  refine nb tbk h2 fun x15 h2 => ?_
  refine tr tbk 2 (.mk ?_)
  exact lf h2 () leA
  replace h2 := ct h2
  refine tr tbk 4 (.mk ?_)
  exact lf h2 () leA
  replace h2 := ct h2
  refine tr tbk 8 (.mk ?_)
  exact lf h2 () leA
  rintro y1_1 _ h1
  replace h1 := asrt_e h1
  obtain ⟨rfl, h1⟩ := h1
  refine tc tbk 7 (.mk ?_)
  refine sS ⟨57, 3, true, true, v3, [[int x7.1, int x9.1, int x11.1]]⟩ sh57 ?_
  refine tr tbk 4 (.mk ?_)
  refine ni tbk h1 fun x16 h1 => ?_
  refine tr tbk 2 (.mk ?_)
  exact bk (x16, (⟨x7.1, x9.1, x11.1⟩ : GLayer)) () h1 leA
  rintro y2_1 _ h0
  refine tc tbk 3 (.mk ?_)
  refine sS ⟨57, 3, true, true, v2, [[int y2_1.Qty, int y2_1.Value, int y2_1.Profit]]⟩ sh57 ?_
  refine tr tbk 2 (.mk ?_)
  obtain rfl := nxt_e h0
  refine wR hret (rC sh57 (rT .nil)) ?_
  exact .refl _
def d_ref13_Total (n : Nat) (a1 : GPool) : Option (GLayer) :=
(d_ref09_Total n a1.Layers).bind fun x4 =>
some ((x4.1 : GLayer))
theorem d_ref13_Total_c {n : Nat} {a1 : GPool} {r : GLayer} (h0 : d_ref13_Total n a1 = some r) : PP Tryz.prog 58 [.agg (GPool.av a1)] (fun y => y = .agg (GLayer.av r)) := by
  unfold d_ref13_Total at h0
  refine pp_of_pc (R0 := fun y H => Cv (frzH H) y (.agg (GLayer.av r))) ?_ (fun y H hc => ⟨_, rfl, (fun (a : GLayer) => PV.agg (GLayer.pvc a)) r, hc⟩)
  refine pcw (c := _) Tryz.func58 rfl rfl ?_; intro Q hret hnorm
  refine tc tbk 2 (.mk ?_)
  refine sB 1 fun v2 => ?_
  refine sA 2 z57 fun v3 => ?_
  refine tr tbk 5 (.mk ?_)
  obtain ⟨x4, e4, h0⟩ := bind_e h0
  refine sC cal102 (d_ref09_Total_c e4) ?_
  refine tr tbk 3 (.mk ?_)
  refine sA 3 z57 fun v5 => ?_
  refine sS ⟨57, 3, true, true, v5, [[int x4.1.Qty, int x4.1.Value, int x4.1.Profit]]⟩ sh57 ?_
  refine tr tbk 5 (.mk ?_)
  refine sS ⟨57, 3, true, true, v3, [[int x4.1.Qty, int x4.1.Value, int x4.1.Profit]]⟩ sh57 ?_
  refine tr tbk 1 (.mk ?_)
  obtain rfl := nxt_e h0
  refine wR hret (rC sh57 .nil) ?_
  exact .refl _
def d_ref14_worth_L0 (a1 : GState) (a2 : Int) (a3 : Int) : Nat → Int → (List Int) → (List Int) → (List Int) → Option ((List Int) × (List Int) × (List Int))
  | 0, _, _, _, _ => none
  | n + 1, y0_4, y0_5, y0_6, y0_7 =>
    bnd (decide (y0_4 < 2)) fun x10 =>
    cond x10 ((d_ref14_At a1 a2 a3 y0_4).bind fun x11 =>
    (d_ref13_Total n x11).bind fun x12 =>
    bnd (y0_5 ++ ([x12.Qty] : List Int)) fun x14 =>
    asrt (x14.length ≤ 68719476736) <|
    bnd (y0_6 ++ ([x12.Value] : List Int)) fun x17 =>
    asrt (x17.length ≤ 68719476736) <|
    bnd (y0_7 ++ ([x12.Profit] : List Int)) fun x20 =>
    asrt (x20.length ≤ 68719476736) <|
    bnd (w64 (y0_4 + 1)) fun x23 =>
    d_ref14_worth_L0 a1 a2 a3 n (x23 : Int) (x14 : List Int) (x17 : List Int) (x20 : List Int)) (some ((y0_5 : List Int), (y0_6 : List Int), (y0_7 : List Int)))
def d_ref14_worth (n : Nat) (a1 : GState) (a2 : Int) (a3 : Int) : Option (GLayer × Int) :=
(show Option ((List Int) × (List Int) × (List Int)) from
d_ref14_worth_L0 a1 a2 a3 n (0 : Int) (([] : List Int) : List Int) (([] : List Int) : List Int) (([] : List Int) : List Int)).bind <| p2 fun (y1_4 : List Int) (q0 : (List Int) × (List Int)) => (p2 fun (y1_5 : List Int) (y1_6 : List Int) =>
(d_ref01_Sum n y1_4).bind fun x24 =>
(d_ref01_Sum n y1_5).bind fun x25 =>
(d_ref01_Sum n y1_6).bind fun x26 =>
bnd (if x26.2 > (if x25.2 > x24.2 then x25.2 else x24.2) then x26.2 else (if x25.2 > x24.2 then x25.2 else x24.2)) fun x27 =>
some (((⟨x24.1, x25.1, x26.1⟩ : GLayer) : GLayer), (x27 : Int))) q0
theorem d_ref14_worth_c {n : Nat} {a1 : GState} {a2 : Int} {a3 : Int} {r : GLayer × Int} (h0 : d_ref14_worth n a1 a2 a3 = some r) : PP Tryz.prog 28 [.agg (GState.av a1), int a2, int a3] (fun y => y = .tup [.agg (GLayer.av r.1), int r.2]) := by
  unfold d_ref14_worth at h0
  refine pp_of_pc (R0 := fun y H => Cv (frzH H) y (.tup [.agg (GLayer.av r.1), int r.2])) ?_ (fun y H hc => ⟨_, rfl, .tup (pvl2 ((fun (a : GLayer) => PV.agg (GLayer.pvc a)) (r.1)) (pvI (r.2))), hc⟩)
  refine pcw (c := _) Tryz.func28 rfl rfl ?_; intro Q hret hnorm
  refine tc tbk 2 (.mk ?_)
  refine sB 1 fun v4 => ?_
  refine sA 2 z57 fun v5 => ?_
  refine tr tbk 13 (.mk ?_)
  refine jn h0 [6, 7] [2] (fun (a : (List Int) × (List Int) × (List Int)) (k : Nat × Nat × Nat) => [(8, .sl 7 k.1 0 a.1.length), (9, .sl 8 k.2.1 0 a.2.1.length), (10, .sl 9 k.2.2 0 a.2.2.length)]) (fun a k => [(7, ⟨3, 1, true, true, k.1, a.1.map fI⟩), (8, ⟨3, 1, true, true, k.2.1, a.2.1.map fI⟩), (9, ⟨3, 1, true, true, k.2.2, a.2.2.map fI⟩)]) ⟨fun j6 h1 => ?_, ?_⟩
  refine tc tbk 1 (.mk ?_)
  refine c_nilobj 8 7 3 1 rfl rfl ?_; intro v7
  refine c_nilobj 9 8 3 1 rfl rfl ?_; intro v8
  refine c_nilobj 10 9 3 1 rfl rfl ?_; intro v9
  refine lp (fun n (a : Int × (List Int) × (List Int) × (List Int)) => d_ref14_worth_L0 a1 a2 a3 n a.1 a.2.1 a.2.2.1 a.2.2.2) ((0 : Int), (([] : List Int) : List Int), (([] : List Int) : List Int), (([] : List Int) : List Int)) (v7, v8, v9) h1 [1, 2, 3, 6, 7] [1, 2] (fun (a : Int × (List Int) × (List Int) × (List Int)) (k : Nat × Nat × Nat) => [(8, .sl 7 k.1 0 a.2.1.length), (9, .sl 8 k.2.1 0 a.2.2.1.length), (10, .sl 9 k.2.2 0 a.2.2.2.length), (11, int a.1)]) (fun a k => [(7, ⟨3, 1, true, true, k.1, a.2.1.map fI⟩), (8, ⟨3, 1, true, true, k.2.1, a.2.2.1.map fI⟩), (9, ⟨3, 1, true, true, k.2.2, a.2.2.2.map fI⟩)]) (fun _ => rfl) ⟨leA, ?_⟩
  rintro n ⟨y0_4, y0_5, y0_6, y0_7⟩ ⟨w0_1, w0_2, w0_3⟩ hm h1
  replace h1 : d_ref14_worth_L0 a1 a2 a3 (n + 1) y0_4 y0_5 y0_6 y0_7 = some _ := h1
  rw [d_ref14_worth_L0] at h1
  refine tc tbk 4 (.mk ?_)
  refine nb tbk h1 fun x10 h1 => ?_
  refine tr tbk 1 (.mk ?_)
  cases x10
  replace h1 := cf h1
  refine tc tbk 2 (.mk ?_)
  exact lf h1 (w0_1, w0_2, w0_3) leA
  replace h1 := ct h1
  refine tc tbk 10 (.mk ?_)
  obtain ⟨x11, e11, h1⟩ := bind_e h1
  refine sC cal59 (d_ref14_At_c e11) ?_
  obtain ⟨x12, e12, h1⟩ := bind_e h1
  refine sC cal58 (d_ref13_Total_c e12) ?_
  refine sA 3 z57 fun v13 => ?_
  refine sS ⟨57, 3, true, true, v13, [[int x12.Qty, int x12.Value, int x12.Profit]]⟩ sh57 ?_
  refine tr tbk 1 (.mk ?_)
  refine c_drawE [0, 0, 2, 6, 15, 0, 0, 64, 192, 511, 0, 0, 2048, 6144, 16383, 32767, 65535, 131071] (rl [(1, [3]), (2, [3]), (6, [3]), (7, [3]), (11, [3]), (12, [3])] []) (rl [(14, [])] [3]) (rl [(4, false), (9, false), (14, false)] true) [0, 1, 2, 3, 5, 6, 7, 8, 10, 11, 12, 13, 4, 9, 14, 15, 16, 17] mixed (by kernel_rfl) ?_; intro K hK
  refine eM ?_
  refine eF fo57_0 ?_
  refine eL sh3 ?_
  refine eP (fun H hH => yv_to (y := lst 1 fI ([x12.Qty] : List Int)) (yv_buildSlice (ps := [(0, _)]) (rows := [[int x12.Qty]]) rfl Tryz.underlying22 bz3 (.cons rfl .nil) (by kernel_rfl) rfl rfl rfl) rfl) ?_
  refine eM ?_
  refine eF fo57_1 ?_
  refine eL sh3 ?_
  refine eP (fun H hH => yv_to (y := lst 1 fI ([x12.Value] : List Int)) (yv_buildSlice (ps := [(0, _)]) (rows := [[int x12.Value]]) rfl Tryz.underlying22 bz3 (.cons rfl .nil) (by kernel_rfl) rfl rfl rfl) rfl) ?_
  refine eM ?_
  refine eF fo57_2 ?_
  refine eL sh3 ?_
  refine eP (fun H hH => yv_to (y := lst 1 fI ([x12.Profit] : List Int)) (yv_buildSlice (ps := [(0, _)]) (rows := [[int x12.Profit]]) rfl Tryz.underlying22 bz3 (.cons rfl .nil) (by kernel_rfl) rfl rfl rfl) rfl) ?_
  obtain ⟨x14, e14, h1⟩ := bnd_e h1
  obtain ⟨p15, h1⟩ := asrt_e h1
  refine de_eff rfl rfl rfl rfl (yl_appT (g := fI) (l := y0_5) (m := ([x12.Qty] : List Int)) .any rfl Tryz.underlying22 bz3 by3 rfl rfl rfl rfl rfl rfl rfl rfl rfl rfl (Eq.symm rfl) (.refl _) (fun _ => rfl) e14 p15) (by rintro _ _ ⟨v16, -, rfl, rfl⟩; exact ⟨rfl, trivial⟩) ?_; rintro _ _ ⟨v16, -, rfl, rfl⟩
  obtain ⟨x17, e17, h1⟩ := bnd_e h1
  obtain ⟨p18, h1⟩ := asrt_e h1
  refine de_eff rfl rfl rfl rfl (yl_appT (g := fI) (l := y0_6) (m := ([x12.Value] : List Int)) .any rfl Tryz.underlying22 bz3 by3 rfl rfl rfl rfl rfl rfl rfl rfl rfl rfl (Eq.symm rfl) (.refl _) (fun _ => rfl) e17 p18) (by rintro _ _ ⟨v19, -, rfl, rfl⟩; exact ⟨rfl, trivial⟩) ?_; rintro _ _ ⟨v19, -, rfl, rfl⟩
  obtain ⟨x20, e20, h1⟩ := bnd_e h1
  obtain ⟨p21, h1⟩ := asrt_e h1
  refine de_eff rfl rfl rfl rfl (yl_appT (g := fI) (l := y0_7) (m := ([x12.Profit] : List Int)) .any rfl Tryz.underlying22 bz3 by3 rfl rfl rfl rfl rfl rfl rfl rfl rfl rfl (Eq.symm rfl) (.refl _) (fun _ => rfl) e20 p21) (by rintro _ _ ⟨v22, -, rfl, rfl⟩; exact trivial) ?_; rintro _ _ ⟨v22, -, rfl, rfl⟩
  iterate 3 refine eA ?_
  refine de_nil (hK _ ?_)
  refine tc tbk 3 (.mk ?_)
  refine ni tbk h1 fun x23 h1 => ?_
  refine tr tbk 2 (.mk ?_)
  exact bk (x23, x14, x17, x20) (v16, v19, v22) h1 leA
  rintro ⟨y1_4, y1_5, y1_6⟩ ⟨w1_1, w1_2, w1_3⟩ h0
  replace h0 := p2_e h0
  replace h0 := p2_e h0
  refine tc tbk 3 (.mk ?_)
  obtain ⟨x24, e24, h0⟩ := bind_e h0
  refine sY (yv_callT (v := .tup [int x24.1, int x24.2]) rfl rfl (.cons rfl .nil) cal26 (.cons (cv_lst rfl rfl rfl rfl rfl (Eq.symm rfl)) .nil) (d_ref01_Sum_c e24) rfl) ?_
  refine tr tbk 9 (.mk ?_)
  obtain ⟨x25, e25, h0⟩ := bind_e h0
  refine sY (yv_callT (v := .tup [int x25.1, int x25.2]) rfl rfl (.cons rfl .nil) cal26 (.cons (cv_lst rfl rfl rfl rfl rfl (Eq.symm rfl)) .nil) (d_ref01_Sum_c e25) rfl) ?_
  refine tr tbk 9 (.mk ?_)
  obtain ⟨x26, e26, h0⟩ := bind_e h0
  refine sY (yv_callT (v := .tup [int x26.1, int x26.2]) rfl rfl (.cons rfl .nil) cal26 (.cons (cv_lst rfl rfl rfl rfl rfl (Eq.symm rfl)) .nil) (d_ref01_Sum_c e26) rfl) ?_
  refine tr tbk 15 (.mk ?_)
  obtain ⟨x27, e27, h0⟩ := bnd_e h0
  refine sY (yv_max3 rfl rfl rfl rfl e27) ?_
  refine sS ⟨57, 3, true, true, v5, [[int x24.1, int x25.1, int x26.1]]⟩ sh57 ?_
  refine tr tbk 2 (.mk ?_)
  obtain rfl := nxt_e h0
  refine wR hret (rC sh57 (rT .nil)) ?_
  exact .refl _
def d_ref14_Worth (n : Nat) (a1 : GState) (a2 : Int) (a3 : Int) : Option (GLayer) :=
(d_ref14_worth n a1 a2 a3).bind fun x6 =>
some ((x6.1 : GLayer))
theorem d_ref14_Worth_c {n : Nat} {a1 : GState} {a2 : Int} {a3 : Int} {r : GLayer} (h0 : d_ref14_Worth n a1 a2 a3 = some r) : PP Tryz.prog 14 [.agg (GState.av a1), int a2, int a3] (fun y => y = .agg (GLayer.av r)) := by
  unfold d_ref14_Worth at h0
  refine pp_of_pc (R0 := fun y H => Cv (frzH H) y (.agg (GLayer.av r))) ?_ (fun y H hc => ⟨_, rfl, (fun (a : GLayer) => PV.agg (GLayer.pvc a)) r, hc⟩)
  refine pcw (c := _) Tryz.func14 rfl rfl ?_; intro Q hret hnorm
  refine tc tbk 2 (.mk ?_)
  refine sB 1 fun v4 => ?_
  refine sA 2 z57 fun v5 => ?_
  refine tr tbk 6 (.mk ?_)
  obtain ⟨x6, e6, h0⟩ := bind_e h0
  refine sC cal28 (d_ref14_worth_c e6) ?_
  refine tr tbk 3 (.mk ?_)
  refine sA 3 z57 fun v7 => ?_
  refine sS ⟨57, 3, true, true, v7, [[int x6.1.Qty, int x6.1.Value, int x6.1.Profit]]⟩ sh57 ?_
  refine tr tbk 5 (.mk ?_)
  refine sS ⟨57, 3, true, true, v5, [[int x6.1.Qty, int x6.1.Value, int x6.1.Profit]]⟩ sh57 ?_
  refine tr tbk 1 (.mk ?_)
  obtain rfl := nxt_e h0
  refine wR hret (rC sh57 .nil) ?_
  exact .refl _
def d_law00_Master_L0 (x3 : Int) (x8 : Int) : Nat → Int → (List Int) → Option ((List Int))
  | 0, _, _ => none
  | n + 1, y0_1, y0_3 =>
    bnd (decide (y0_1 < x8)) fun x15 =>
    cond x15 (bnd (w64 (x3.tdiv 24)) fun x16 =>
    bnd (x16.tmod 7) fun x17 =>
    bnd (w64 (x17 + y0_1)) fun x18 =>
    bnd (y0_3 ++ ([x18] : List Int)) fun x19 =>
    asrt (x19.length ≤ 68719476736) <|
    bnd (w64 (y0_1 + 1)) fun x22 =>
    d_law00_Master_L0 x3 x8 n (x22 : Int) (x19 : List Int)) (some (y0_3 : List Int))
def d_law00_Master_L2 (x3 : Int) (x8 : Int) (y2_1 : Int) : Nat → Int → (List Int) → (List Int) → Option ((List Int) × (List Int))
  | 0, _, _, _ => none
  | n + 1, y3_3, y3_4, y3_5 =>
    bnd (decide (y3_3 < x8)) fun x31 =>
    cond x31 (bnd (w64 (x3.tdiv 168)) fun x32 =>
    bnd (w64 (x32 + y3_3)) fun x33 =>
    bnd (w64 (x3.tdiv 672)) fun x34 =>
    bnd (x34.tmod 4) fun x35 =>
    bnd (w64 (y2_1 * x35)) fun x36 =>
    bnd (w64 (x33 + x36)) fun x37 =>
    bnd (x37.tmod 4) fun x38 =>
    bnd (w64 (1 + x38)) fun x39 =>
    bnd (y3_4 ++ ([x39] : List Int)) fun x40 =>
    asrt (x40.length ≤ 68719476736) <|
    bnd (w64 (x3.tdiv 2688)) fun x43 =>
    bnd (w64 (7 * y3_3)) fun x44 =>
    bnd (w64 (x43 + x44)) fun x45 =>
    bnd (w64 (x45 + y2_1)) fun x46 =>
    bnd (x46.tmod 40) fun x47 =>
    bnd (y3_5 ++ ([x47] : List Int)) fun x48 =>
    asrt (x48.length ≤ 68719476736) <|
    bnd (w64 (y3_3 + 1)) fun x51 =>
    d_law00_Master_L2 x3 x8 y2_1 n (x51 : Int) (x40 : List Int) (x48 : List Int)) (some ((y3_4 : List Int), (y3_5 : List Int)))
def d_law00_Master_L1 (x3 : Int) (x5 : Int) (x8 : Int) : Nat → Int → (List (List Int)) → (List (List Int)) → Option ((List (List Int)) × (List (List Int)))
  | 0, _, _, _ => none
  | n + 1, y2_1, y2_4, y2_5 =>
    bnd (decide (y2_1 < x5)) fun x26 =>
    cond x26 ((show Option ((List (List Int)) × (List (List Int))) from
    (show Option ((List Int) × (List Int)) from
    d_law00_Master_L2 x3 x8 y2_1 n (0 : Int) (([] : List Int) : List Int) (([] : List Int) : List Int)).bind <| p2 fun (y4_3 : List Int) (y4_4 : List Int) =>
    bnd (y2_4 ++ [y4_3]) fun x52 =>
    asrt (x52.length ≤ 68719476736) <|
    bnd (y2_5 ++ [y4_4]) fun x55 =>
    asrt (x55.length ≤ 68719476736) <|
    some ((x52 : List (List Int)), (x55 : List (List Int)))).bind <| p2 fun (y5_3 : List (List Int)) (y5_4 : List (List Int)) =>
    bnd (w64 (y2_1 + 1)) fun x58 =>
    d_law00_Master_L1 x3 x5 x8 n (x58 : Int) (y5_3 : List (List Int)) (y5_4 : List (List Int))) (some ((y2_4 : List (List Int)), (y2_5 : List (List Int))))
def d_law00_Master (n : Nat) (a1 : Int) : Option (GMaster) :=
(d_law00_Place a1 1073741824).bind fun x3 =>
bnd (x3.tmod 2) fun x4 =>
bnd (w64 (2 + x4)) fun x5 =>
bnd (w64 (x3.tdiv 2)) fun x6 =>
bnd (x6.tmod 3) fun x7 =>
bnd (w64 (2 + x7)) fun x8 =>
bnd (w64 (x3.tdiv 6)) fun x9 =>
bnd (x9.tmod 4) fun x10 =>
bnd (w64 (1 + x10)) fun x11 =>
(show Option ((List Int)) from
d_law00_Master_L0 x3 x8 n (0 : Int) (([] : List Int) : List Int)).bind <| fun y1_2 =>
(show Option ((List (List Int)) × (List (List Int))) from
d_law00_Master_L1 x3 x5 x8 n (0 : Int) (([] : List (List Int)) : List (List Int)) (([] : List (List Int)) : List (List Int))).bind <| p2 fun (y6_3 : List (List Int)) (y6_4 : List (List Int)) =>
some (((⟨x5, x11, y1_2, y6_3, y6_4⟩ : GMaster) : GMaster))
theorem d_law00_Master_c {n : Nat} {a1 : Int} {r : GMaster} (h0 : d_law00_Master n a1 = some r) : PP Tryz.prog 20 [int a1] (fun y => y = .agg (GMaster.av r)) := by
  unfold d_law00_Master at h0
  refine pp_of_pc (R0 := fun y H => Cv (frzH H) y (.agg (GMaster.av r))) ?_ (fun y H hc => ⟨_, rfl, (fun (a : GMaster) => PV.agg (GMaster.pvc a)) r, hc⟩)
  refine pcw (c := _) Tryz.func20 rfl rfl ?_; intro Q hret hnorm
  refine tc tbk 2 (.mk ?_)
  refine sA 1 z25 fun v2 => ?_
  refine tr tbk 4 (.mk ?_)
  obtain ⟨x3, e3, h0⟩ := bind_e h0
  refine sC cal9 (d_law00_Place_c e3) ?_
  refine tr tbk 5 (.mk ?_)
  refine ni tbk h0 fun x4 h0 => ?_
  refine ni tbk h0 fun x5 h0 => ?_
  refine tr tbk 1 (.mk ?_)
  refine ni tbk h0 fun x6 h0 => ?_
  refine ni tbk h0 fun x7 h0 => ?_
  refine ni tbk h0 fun x8 h0 => ?_
  refine tr tbk 7 (.mk ?_)
  refine ni tbk h0 fun x9 h0 => ?_
  refine ni tbk h0 fun x10 h0 => ?_
  refine ni tbk h0 fun x11 h0 => ?_
  refine tr tbk 1 (.mk ?_)
  refine sA 2 z25 fun v12 => ?_
  refine sS ⟨25, 5, true, true, v12, [[int x5, int x11, .sc (.slice none 0 0), .sc (.slice none 0 0), .sc (.slice none 0 0)]]⟩ sh25 ?_
  refine tr tbk 6 (.mk ?_)
  refine jn h0 [2, 3, 4, 5, 6] [1] (fun (a : (List Int)) (k : Nat) => []) (fun a k => [(2, ⟨25, 5, true, true, v12, [[int x5, int x11, .sl 4 k 0 a.length, .sc (.slice none 0 0), .sc (.slice none 0 0)]]⟩), (4, ⟨3, 1, true, true, k, a.map fI⟩)]) ⟨fun j13 h1 => ?_, ?_⟩
  refine tc tbk 1 (.mk ?_)
  refine c_nilcell 2 0 2 4 3 1 (rows := fun v14 => [[int x5, int x11, .sl 4 v14 0 0, .sc (.slice none 0 0), .sc (.slice none 0 0)]]) rfl rfl rfl rfl (fun _ => rfl) ?_; intro v14
  refine lp (fun n (a : Int × (List Int)) => d_law00_Master_L0 x3 x8 n a.1 a.2) ((0 : Int), (([] : List Int) : List Int)) v14 h1 [2, 3, 4, 5, 6] [1] (fun (a : Int × (List Int)) (k : Nat) => [(7, int a.1)]) (fun a k => [(2, ⟨25, 5, true, true, v12, [[int x5, int x11, .sl 4 k 0 a.2.length, .sc (.slice none 0 0), .sc (.slice none 0 0)]]⟩), (4, ⟨3, 1, true, true, k, a.2.map fI⟩)]) (fun _ => rfl) ⟨leA, ?_⟩
  rintro n ⟨y0_1, y0_3⟩ w0_2 hm h1
  replace h1 : d_law00_Master_L0 x3 x8 (n + 1) y0_1 y0_3 = some _ := h1
  rw [d_law00_Master_L0] at h1
  refine tc tbk 5 (.mk ?_)
  refine nb tbk h1 fun x15 h1 => ?_
  refine tr tbk 1 (.mk ?_)
  cases x15
  replace h1 := cf h1
  refine tc tbk 2 (.mk ?_)
  exact lf h1 w0_2 leA
  replace h1 := ct h1
  refine tc tbk 8 (.mk ?_)
  refine ni tbk h1 fun x16 h1 => ?_
  refine ni tbk h1 fun x17 h1 => ?_
  refine tr tbk 1 (.mk ?_)
  refine ni tbk h1 fun x18 h1 => ?_
  refine sY (yv_to (y := lst 1 fI ([x18] : List Int)) (yv_buildSlice (ps := [(0, _)]) (rows := [[int x18]]) rfl Tryz.underlying22 bz3 (.cons rfl .nil) (by kernel_rfl) rfl rfl rfl) rfl) ?_
  obtain ⟨x19, e19, h1⟩ := bnd_e h1
  obtain ⟨p20, h1⟩ := asrt_e h1
  refine rse rfl rfl rfl (yl_appT (g := fI) (l := y0_3) (m := ([x18] : List Int)) .any rfl Tryz.underlying22 bz3 by3 rfl rfl rfl rfl rfl rfl rfl rfl rfl rfl (Eq.symm rfl) (.refl _) (fun _ => rfl) e19 p20) ?_; rintro _ _ ⟨v21, -, rfl, rfl⟩
  refine tr tbk 1 (.mk ?_)
  refine sS ⟨25, 5, true, true, v12, [[int x5, int x11, .sl 4 v21 0 x19.length, .sc (.slice none 0 0), .sc (.slice none 0 0)]]⟩ sh22 ?_
  refine tr tbk 4 (.mk ?_)
  refine ni tbk h1 fun x22 h1 => ?_
  refine tr tbk 2 (.mk ?_)
  exact bk (x22, x19) v21 h1 leA
  rintro y1_2 w1_1 h0
  refine tc tbk 5 (.mk ?_)
  refine jn h0 [2, 6] [1, 4] (fun (a : (List (List Int)) × (List (List Int))) (k : Nat × Nat) => []) (fun a k => [(2, ⟨25, 5, true, true, v12, [[int x5, int x11, .sl 4 w1_1 0 y1_2.length, .sl 11 k.1 0 a.1.length, .sl 12 k.2 0 a.2.length]]⟩), (11, ⟨22, 1, true, true, k.1, a.1.map (fL 1 fI)⟩), (12, ⟨22, 1, true, true, k.2, a.2.map (fL 1 fI)⟩)]) ⟨fun j23 h1 => ?_, ?_⟩
  refine tc tbk 1 (.mk ?_)
  refine c_nilcell 2 0 3 11 22 1 (rows := fun v24 => [[int x5, int x11, .sl 4 w1_1 0 y1_2.length, .sl 11 v24 0 0, .sc (.slice none 0 0)]]) rfl rfl rfl rfl (fun _ => rfl) ?_; intro v24
  refine c_nilcell 2 0 4 12 22 1 (rows := fun v25 => [[int x5, int x11, .sl 4 w1_1 0 y1_2.length, .sl 11 v24 0 0, .sl 12 v25 0 0]]) rfl rfl rfl rfl (fun _ => rfl) ?_; intro v25
  refine lp (fun n (a : Int × (List (List Int)) × (List (List Int))) => d_law00_Master_L1 x3 x5 x8 n a.1 a.2.1 a.2.2) ((0 : Int), (([] : List (List Int)) : List (List Int)), (([] : List (List Int)) : List (List Int))) (v24, v25) h1 [2, 3, 4, 5, 6] [1, 4] (fun (a : Int × (List (List Int)) × (List (List Int))) (k : Nat × Nat) => [(8, int a.1)]) (fun a k => [(2, ⟨25, 5, true, true, v12, [[int x5, int x11, .sl 4 w1_1 0 y1_2.length, .sl 11 k.1 0 a.2.1.length, .sl 12 k.2 0 a.2.2.length]]⟩), (11, ⟨22, 1, true, true, k.1, a.2.1.map (fL 1 fI)⟩), (12, ⟨22, 1, true, true, k.2, a.2.2.map (fL 1 fI)⟩)]) (fun _ => rfl) ⟨leA, ?_⟩
  rintro n ⟨y2_1, y2_4, y2_5⟩ ⟨w2_2, w2_3⟩ hm h1
  replace h1 : d_law00_Master_L1 x3 x5 x8 (n + 1) y2_1 y2_4 y2_5 = some _ := h1
  rw [d_law00_Master_L1] at h1
  refine tc tbk 5 (.mk ?_)
  refine nb tbk h1 fun x26 h1 => ?_
  refine tr tbk 1 (.mk ?_)
  cases x26
  replace h1 := cf h1
  refine tc tbk 2 (.mk ?_)
  exact lf h1 (w2_2, w2_3) leA
  replace h1 := ct h1
  refine tc tbk 3 (.mk ?_)
  refine jn h1 [2, 3, 4, 5, 6, 8] [1, 4] (fun (a : (List (List Int)) × (List (List Int))) (k : Nat × Nat) => []) (fun a k => [(2, ⟨25, 5, true, true, v12, [[int x5, int x11, .sl 4 w1_1 0 y1_2.length, .sl 11 k.1 0 a.1.length, .sl 12 k.2 0 a.2.length]]⟩), (11, ⟨22, 1, true, true, k.1, a.1.map (fL 1 fI)⟩), (12, ⟨22, 1, true, true, k.2, a.2.map (fL 1 fI)⟩)]) ⟨fun j27 h2 => ?_, ?_⟩
  refine tc tbk 11 (.mk ?_)
  refine jn h2 [2, 3, 4, 5, 6, 8] [1, 2, 4, 11, 12] (fun (a : (List Int) × (List Int)) (k : Nat × Nat) => [(9, .sl 7 k.1 0 a.1.length), (10, .sl 8 k.2 0 a.2.length)]) (fun a k => [(7, ⟨3, 1, true, true, k.1, a.1.map fI⟩), (8, ⟨3, 1, true, true, k.2, a.2.map fI⟩)]) ⟨fun j28 h3 => ?_, ?_⟩
  refine tc tbk 1 (.mk ?_)
  refine c_nilobj 9 7 3 1 rfl rfl ?_; intro v29
  refine c_nilobj 10 8 3 1 rfl rfl ?_; intro v30
  refine lp (fun n (a : Int × (List Int) × (List Int)) => d_law00_Master_L2 x3 x8 y2_1 n a.1 a.2.1 a.2.2) ((0 : Int), (([] : List Int) : List Int), (([] : List Int) : List Int)) (v29, v30) h3 [2, 3, 4, 5, 6, 8] [1, 2, 4, 11, 12] (fun (a : Int × (List Int) × (List Int)) (k : Nat × Nat) => [(9, .sl 7 k.1 0 a.2.1.length), (10, .sl 8 k.2 0 a.2.2.length), (11, int a.1)]) (fun a k => [(7, ⟨3, 1, true, true, k.1, a.2.1.map fI⟩), (8, ⟨3, 1, true, true, k.2, a.2.2.map fI⟩)]) (fun _ => rfl) ⟨leA, ?_⟩
  rintro n ⟨y3_3, y3_4, y3_5⟩ ⟨w3_1, w3_2⟩ hm h3
  replace h3 : d_law00_Master_L2 x3 x8 y2_1 (n + 1) y3_3 y3_4 y3_5 = some _ := h3
  rw [d_law00_Master_L2] at h3
  refine tc tbk 5 (.mk ?_)
  refine nb tbk h3 fun x31 h3 => ?_
  refine tr tbk 1 (.mk ?_)
  cases x31
  replace h3 := cf h3
  refine tc tbk 2 (.mk ?_)
  exact lf h3 (w3_1, w3_2) leA
  replace h3 := ct h3
  refine tc tbk 7 (.mk ?_)
  refine ni tbk h3 fun x32 h3 => ?_
  refine tr tbk 1 (.mk ?_)
  refine ni tbk h3 fun x33 h3 => ?_
  refine tr tbk 2 (.mk ?_)
  refine ni tbk h3 fun x34 h3 => ?_
  refine ni tbk h3 fun x35 h3 => ?_
  refine ni tbk h3 fun x36 h3 => ?_
  refine ni tbk h3 fun x37 h3 => ?_
  refine ni tbk h3 fun x38 h3 => ?_
  refine ni tbk h3 fun x39 h3 => ?_
  refine sY (yv_to (y := lst 1 fI ([x39] : List Int)) (yv_buildSlice (ps := [(0, _)]) (rows := [[int x39]]) rfl Tryz.underlying22 bz3 (.cons rfl .nil) (by kernel_rfl) rfl rfl rfl) rfl) ?_
  obtain ⟨x40, e40, h3⟩ := bnd_e h3
  obtain ⟨p41, h3⟩ := asrt_e h3
  refine rse rfl rfl rfl (yl_appT (g := fI) (l := y3_4) (m := ([x39] : List Int)) .any rfl Tryz.underlying22 bz3 by3 rfl rfl rfl rfl rfl rfl rfl rfl rfl rfl (Eq.symm rfl) (.refl _) (fun _ => rfl) e40 p41) ?_; rintro _ _ ⟨v42, -, rfl, rfl⟩
  refine tr tbk 2 (.mk ?_)
  refine ni tbk h3 fun x43 h3 => ?_
  refine tr tbk 1 (.mk ?_)
  refine ni tbk h3 fun x44 h3 => ?_
  refine ni tbk h3 fun x45 h3 => ?_
  refine tr tbk 1 (.mk ?_)
  refine ni tbk h3 fun x46 h3 => ?_
  refine ni tbk h3 fun x47 h3 => ?_
  refine sY (yv_to (y := lst 1 fI ([x47] : List Int)) (yv_buildSlice (ps := [(0, _)]) (rows := [[int x47]]) rfl Tryz.underlying22 bz3 (.cons rfl .nil) (by kernel_rfl) rfl rfl rfl) rfl) ?_
  obtain ⟨x48, e48, h3⟩ := bnd_e h3
  obtain ⟨p49, h3⟩ := asrt_e h3
  refine rse rfl rfl rfl (yl_appT (g := fI) (l := y3_5) (m := ([x47] : List Int)) .any rfl Tryz.underlying22 bz3 by3 rfl rfl rfl rfl rfl rfl rfl rfl rfl rfl (Eq.symm rfl) (.refl _) (fun _ => rfl) e48 p49) ?_; rintro _ _ ⟨v50, -, rfl, rfl⟩
  refine tr tbk 6 (.mk ?_)
  refine ni tbk h3 fun x51 h3 => ?_
  refine tr tbk 2 (.mk ?_)
  exact bk (x51, x40, x48) (v42, v50) h3 leA
  rintro ⟨y4_3, y4_4⟩ ⟨w4_1, w4_2⟩ h2
  replace h2 := p2_e h2
  refine c_drawE [0, 1, 0, 4, 15, 0, 32, 0, 128, 511, 127, 2047, 4095, 8191] (rl [(0, [2]), (1, [2]), (5, [2]), (6, [2]), (10, [2]), (12, [2])] []) (rl [(11, []), (13, [])] [2]) (rl [(4, false), (9, false), (11, false), (13, false)] true) [0, 1, 2, 3, 5, 6, 7, 8, 4, 10, 9, 11, 12, 13] mixed (by kernel_rfl) ?_; intro K hK
  refine eF fo25_3 ?_
  refine eL sh23 ?_
  refine eM ?_
  refine eP (fun H hH => yv_buildSlice (ps := [(0, _)]) (rows := [[.sl 7 w4_1 0 y4_3.length]]) rfl Tryz.underlying23 bz22 (.cons rfl .nil) (by kernel_rfl) rfl rfl rfl) ?_
  refine eF fo25_4 ?_
  refine eL sh23 ?_
  refine eM ?_
  refine eP (fun H hH => yv_buildSlice (ps := [(0, _)]) (rows := [[.sl 8 w4_2 0 y4_4.length]]) rfl Tryz.underlying23 bz22 (.cons rfl .nil) (by kernel_rfl) rfl rfl rfl) ?_
  obtain ⟨x52, e52, h2⟩ := bnd_e h2
  obtain ⟨p53, h2⟩ := asrt_e h2
  refine de_eff rfl rfl rfl rfl (Yield.frz 7 rfl (yl_appT (g := (fL 1 fI)) (l := y2_4) (m := [y4_3]) .any rfl Tryz.underlying23 bz22 by22 rfl rfl rfl rfl rfl rfl rfl rfl rfl rfl (Eq.symm rfl) (CvLL.list (.cons (.cons (cv_lst rfl rfl rfl rfl rfl (Eq.symm rfl)) .nil) .nil)) (fun _ => rfl) e52 p53)) (by rintro _ _ ⟨v54, -, rfl, rfl⟩; exact ⟨rfl, trivial⟩) ?_; rintro _ _ ⟨v54, -, rfl, rfl⟩
  refine eF fo25_3 ?_
  obtain ⟨x55, e55, h2⟩ := bnd_e h2
  obtain ⟨p56, h2⟩ := asrt_e h2
  refine de_eff rfl rfl rfl rfl (Yield.frz 8 rfl (yl_appT (g := (fL 1 fI)) (l := y2_5) (m := [y4_4]) .any rfl Tryz.underlying23 bz22 by22 rfl rfl rfl rfl rfl rfl rfl rfl rfl rfl (Eq.symm rfl) (CvLL.list (.cons (.cons (cv_lst rfl rfl rfl rfl rfl (Eq.symm rfl)) .nil) .nil)) (fun _ => rfl) e55 p56)) (by rintro _ _ ⟨v57, -, rfl, rfl⟩; exact ⟨rfl, trivial⟩) ?_; rintro _ _ ⟨v57, -, rfl, rfl⟩
  refine de_eff0 rfl rfl rfl rfl (Yield.weak (yl_ob (ob' := (⟨25, 5, true, true, v12, [[int x5, int x11, .sl 4 w1_1 0 y1_2.length, .sl 11 v54 0 x52.length, .sl 12 w2_3 0 y2_5.length]]⟩ : AObj)) (yl_store rfl sh23 rfl rfl rfl rfl rfl rfl rfl rfl rfl) rfl) (fun _ h => h) (fun _ _ => trivial)) (by rintro _ _ ⟨rfl, rfl⟩; exact trivial) ?_; rintro _ _ ⟨rfl, rfl⟩
  refine eF fo25_4 ?_
  refine de_eff0 rfl rfl rfl rfl (Yield.weak (yl_ob (ob' := (⟨25, 5, true, true, v12, [[int x5, int x11, .sl 4 w1_1 0 y1_2.length, .sl 11 v54 0 x52.length, .sl 12 v57 0 x55.length]]⟩ : AObj)) (yl_store rfl sh23 rfl rfl rfl rfl rfl rfl rfl rfl rfl) rfl) (fun _ h => h) (fun _ _ => trivial)) (by rintro _ _ ⟨rfl, rfl⟩; exact trivial) ?_; rintro _ _ ⟨rfl, rfl⟩
  refine de_nil (hK _ ?_)
  refine tc tbk 1 (.mk ?_)
  exact lf h2 (v54, v57) leA
  rintro ⟨y5_3, y5_4⟩ ⟨w5_1, w5_2⟩ h1
  replace h1 := p2_e h1
  refine tc tbk 2 (.mk ?_)
  refine ni tbk h1 fun x58 h1 => ?_
  refine tr tbk 2 (.mk ?_)
  exact bk (x58, y5_3, y5_4) (w5_1, w5_2) h1 leA
  rintro ⟨y6_3, y6_4⟩ ⟨w6_1, w6_2⟩ h0
  replace h0 := p2_e h0
  refine tc tbk 3 (.mk ?_)
  refine sS ⟨25, 5, true, true, v2, [[int x5, int x11, .sl 4 w1_1 0 y1_2.length, .sl 11 w6_1 0 y6_3.length, .sl 12 w6_2 0 y6_4.length]]⟩ sh25 ?_
  refine tr tbk 1 (.mk ?_)
  obtain rfl := nxt_e h0
  refine wR hret (rC sh25 .nil) ?_
  exact (CvL.agg (.cons (.refl _) (.cons (.refl _) (.cons (cv_lst rfl rfl rfl rfl rfl (Eq.symm rfl)) (.cons (cv_lst rfl rfl rfl rfl rfl (Eq.symm rfl)) (.cons (cv_lst rfl rfl rfl rfl rfl (Eq.symm rfl)) .nil))))))
def d_law00_Ops_L0 (a2 : List Int) : Nat → Option (Unit)
  | 0 => none
  | n + 1 =>
    (show Option (Bool) from
    bnd (decide (0 < (a2.length : Int))) fun x6 =>
    cond x6 (some (true : Bool)) (some (false : Bool))).bind <| fun y1_1 =>
    asrt (y1_1 = false) <|
    some ()
def d_law00_Ops (n : Nat) (a1 : GMaster) (a2 : List Int) : Option ((List GOp)) :=
(show Option (Unit) from
d_law00_Ops_L0 a2 n).bind <| fun _ =>
some (([] : List GOp))
theorem d_law00_Ops_c {n : Nat} {a1 : GMaster} {a2 : List Int} {r : (List GOp)} (h0 : d_law00_Ops n a1 a2 = some r) : PP Tryz.prog 16 [.agg (GMaster.av a1), lst 1 fI a2] (fun y => y = lst 9 GOp.av r) := by
  unfold d_law00_Ops at h0
  refine pp_of_pc (R0 := fun y H => Cv (frzH H) y (lst 9 GOp.av r)) ?_ (fun y H hc => ⟨_, rfl, (pvLs GOp.pvc) r, hc⟩)
  refine pcw (c := _) Tryz.func16 rfl rfl ?_; intro Q hret hnorm
  refine tc tbk 2 (.mk ?_)
  refine sB 1 fun v3 => ?_
  refine tr tbk 11 (.mk ?_)
  refine jn h0 [4, 5] [] (fun (a : Unit) (k : Unit) => []) (fun a k => []) ⟨fun j4 h1 => ?_, ?_⟩
  refine tc tbk 1 (.mk ?_)
  refine lp (fun n (a : Unit) => d_law00_Ops_L0 a2 n) () () h1 [1, 2, 4, 5, 6] [1] (fun (a : Unit) (k : Unit) => []) (fun a k => []) (fun _ => rfl) ⟨leA, ?_⟩
  rintro n _ _ hm h1
  replace h1 : d_law00_Ops_L0 a2 (n + 1) = some _ := h1
  rw [d_law00_Ops_L0] at h1
  refine tc tbk 2 (.mk ?_)
  refine jn h1 [1, 2, 4, 5, 6] [1] (fun (a : Bool) (k : Unit) => [(14, boo a)]) (fun a k => []) ⟨fun j5 h2 => ?_, ?_⟩
  refine tc tbk 3 (.mk ?_)
  refine sY (yv_len_sl rfl Tryz.underlying22 rfl (lst_len _)) ?_
  refine nb tbk h2 fun x6 h2 => ?_
  refine tr tbk 1 (.mk ?_)
  cases x6
  replace h2 := cf h2
  refine tr tbk 4 (.mk ?_)
  exact lf h2 () leA
  replace h2 := ct h2
  refine tr tbk 1 (.mk ?_)
  refine sY (yv_to (y := boo true) (yv_lss rfl rfl rfl) (congrArg boo (by decide))) ?_
  refine tr tbk 2 (.mk ?_)
  exact lf h2 () leA
  rintro y1_1 _ h1
  replace h1 := asrt_e h1
  obtain ⟨rfl, h1⟩ := h1
  refine tc tbk 2 (.mk ?_)
  exact lf h1 () leA
  rintro _ _ h0
  refine tc tbk 5 (.mk ?_)
  obtain rfl := nxt_e h0
  refine wR hret (rT .nil) ?_
  exact (.nil _)
def d_law00_State_L0 (x7 : (List GOp)) : Nat → Option (Unit)
  | 0 => none
  | n + 1 =>
    bnd (decide (0 < (x7.length : Int))) fun x9 =>
    asrt (x9 = false) <|
    some ()
def d_law00_State (n : Nat) (a1 : GMaster) (a2 : List Int) : Option (GState) :=
(d_ref04_Start n a1).bind fun x5 =>
(d_law00_Ops n a1 a2).bind fun x7 =>
(show Option (Unit) from
d_law00_State_L0 x7 n).bind <| fun _ =>
some ((x5.1 : GState))
theorem d_law00_State_c {n : Nat} {a1 : GMaster} {a2 : List Int} {r : GState} (h0 : d_law00_State n a1 a2 = some r) : PP Tryz.prog 7 [.agg (GMaster.av a1), lst 1 fI a2] (fun y => y = .agg (GState.av r)) := by
  unfold d_law00_State at h0
  refine pp_of_pc (R0 := fun y H => Cv (frzH H) y (.agg (GState.av r))) ?_ (fun y H hc => ⟨_, rfl, (fun (a : GState) => PV.agg (GState.pvc a)) r, hc⟩)
  refine pcw (c := _) Tryz.func7 rfl rfl ?_; intro Q hret hnorm
  refine tc tbk 2 (.mk ?_)
  refine sB 1 fun v3 => ?_
  refine sA 2 z31 fun v4 => ?_
  refine tr tbk 4 (.mk ?_)
  obtain ⟨x5, e5, h0⟩ := bind_e h0
  refine sC cal11 (d_ref04_Start_c e5) ?_
  refine tr tbk 3 (.mk ?_)
  refine sA 3 z31 fun v6 => ?_
  refine sS ⟨31, 10, true, true, v6, [(GState.av x5.1)]⟩ sh31 ?_
  refine tr tbk 6 (.mk ?_)
  obtain ⟨x7, e7, h0⟩ := bind_e h0
  refine sC cal16 (d_law00_Ops_c e7) ?_
  refine tr tbk 7 (.mk ?_)
  refine jn h0 [4, 5] [2, 3] (fun (a : Unit) (k : Unit) => []) (fun a k => []) ⟨fun j8 h1 => ?_, ?_⟩
  refine tc tbk 1 (.mk ?_)
  refine lp (fun n (a : Unit) => d_law00_State_L0 x7 n) () () h1 [4, 5, 7, 8] [2, 3] (fun (a : Unit) (k : Unit) => []) (fun a k => []) (fun _ => rfl) ⟨leA, ?_⟩
  rintro n _ _ hm h1
  replace h1 : d_law00_State_L0 x7 (n + 1) = some _ := h1
  rw [d_law00_State_L0] at h1
  refine tc tbk 5 (.mk ?_)
  refine sY (yv_len_sl rfl Tryz.underlying62 rfl (lst_len _)) ?_
  refine nb tbk h1 fun x9 h1 => ?_
  refine tr tbk 1 (.mk ?_)
  replace h1 := asrt_e h1
  obtain ⟨rfl, h1⟩ := h1
  refine tc tbk 2 (.mk ?_)
  exact lf h1 () leA
  rintro _ _ h0
  refine tc tbk 3 (.mk ?_)
  refine sS ⟨31, 10, true, true, v4, [(GState.av x5.1)]⟩ sh31 ?_
  refine tr tbk 1 (.mk ?_)
  obtain rfl := nxt_e h0
  refine wR hret (rC sh31 .nil) ?_
  exact .refl _
def d_close_Reopen_L0 (a1 : GState) (a2 : Int) (x17 : GEnt) : Nat → Int → Option (Unit)
  | 0, _ => none
  | n + 1, y1_1 =>
    bnd (decide (y1_1 < (a1.Sales.length : Int))) fun x20 =>
    cond x20 ((ix a1.Sales y1_1).bind fun x21 =>
    (d_close_waits x21 a2 ((x17 : GEnt).Now)).bind fun x23 =>
    asrt (x23 = false) <|
    bnd (w64 (y1_1 + 1)) fun x24 =>
    d_close_Reopen_L0 a1 a2 x17 n (x24 : Int)) (some ())
def d_close_Reopen (n : Nat) (a1 : GState) (a2 : Int) : Option (GState × Int) :=
(d_close_is a1 a2).bind fun x5 =>
bnd (!x5) fun x6 =>
asrt (x6 = false) <|
(show Option (Bool) from
(ix a1.Ents a2).bind fun x8 =>
bnd (!x8.Closed) fun x9 =>
cond x9 (some (true : Bool)) ((ix a1.Ents a2).bind fun x10 =>
bnd (decide ((x10.Ahead.length : Int) ≠ 1)) fun x11 =>
some (x11 : Bool))).bind <| fun y0_1 =>
asrt (y0_1 = false) <|
asrt (a1.Ents.length ≤ 68719476736) <|
asrt (a1.Sales.length ≤ 68719476736) <|
(ix a1.Ents a2).bind fun x16 =>
(ix x16.Ahead 0).bind fun x17 =>
bnd (a1.Ents.set (Int.toNat a2) (x17 : GEnt)) fun x18 =>
(show Option (Unit) from
d_close_Reopen_L0 a1 a2 x17 n (0 : Int)).bind <| fun _ =>
some (((⟨a1.Master, x18, a1.Receipts, a1.Sales, a1.Transits, a1.Done⟩ : GState) : GState), (0 : Int))
theorem d_close_Reopen_c {n : Nat} {a1 : GState} {a2 : Int} {r : GState × Int} (h0 : d_close_Reopen n a1 a2 = some r) : PP Tryz.prog 24 [.agg (GState.av a1), int a2] (fun y => y = .tup [.agg (GState.av r.1), int r.2]) := by
  unfold d_close_Reopen at h0
  refine pp_of_pc (R0 := fun y H => Cv (frzH H) y (.tup [.agg (GState.av r.1), int r.2])) ?_ (fun y H hc => ⟨_, rfl, .tup (pvl2 ((fun (a : GState) => PV.agg (GState.pvc a)) (r.1)) (pvI (r.2))), hc⟩)
  refine pcw (c := _) Tryz.func24 rfl rfl ?_; intro Q hret hnorm
  refine tc tbk 2 (.mk ?_)
  refine sB 1 fun v3 => ?_
  refine sA 2 z31 fun v4 => ?_
  refine tr tbk 8 (.mk ?_)
  obtain ⟨x5, e5, h0⟩ := bind_e h0
  refine sC cal49 (d_close_is_c e5) ?_
  refine nb tbk h0 fun x6 h0 => ?_
  refine tr tbk 2 (.mk ?_)
  replace h0 := asrt_e h0
  obtain ⟨rfl, h0⟩ := h0
  refine tc tbk 2 (.mk ?_)
  refine jn h0 [1, 2, 4, 5] [1, 2] (fun (a : Bool) (k : Unit) => [(14, boo a)]) (fun a k => []) ⟨fun j7 h1 => ?_, ?_⟩
  refine tc tbk 4 (.mk ?_)
  obtain ⟨x8, e8, h1⟩ := bind_e h1
  refine sY (yv_to (y := .pp [int x8.Now, boo x8.Closed, lst 4 GPool.av x8.Pools, lst 1 fI x8.Bal, lst 11 GRoll.av x8.Rolls, lst 1 fI x8.Prices, lst 1 fI x8.Down, lst 8 GEnt.av x8.Ahead]) (yv_ixT rfl Tryz.underlying26 sh46 rfl rfl e8) (congrArg AV.pp (GEnt.av_eq x8))) ?_
  refine tr tbk 2 (.mk ?_)
  refine nb tbk h1 fun x9 h1 => ?_
  refine tr tbk 1 (.mk ?_)
  cases x9
  replace h1 := cf h1
  refine tr tbk 3 (.mk ?_)
  obtain ⟨x10, e10, h1⟩ := bind_e h1
  refine sY (yv_to (y := .pp [int x10.Now, boo x10.Closed, lst 4 GPool.av x10.Pools, lst 1 fI x10.Bal, lst 11 GRoll.av x10.Rolls, lst 1 fI x10.Prices, lst 1 fI x10.Down, lst 8 GEnt.av x10.Ahead]) (yv_ixT rfl Tryz.underlying26 sh46 rfl rfl e10) (congrArg AV.pp (GEnt.av_eq x10))) ?_
  refine tr tbk 2 (.mk ?_)
  refine sY (yv_len_sl rfl Tryz.underlying26 rfl (lst_len _)) ?_
  refine nb tbk h1 fun x11 h1 => ?_
  refine tr tbk 3 (.mk ?_)
  exact lf h1 () leA
  replace h1 := ct h1
  refine tr tbk 11 (.mk ?_)
  exact lf h1 () leA
  rintro y0_1 _ h0
  replace h0 := asrt_e h0
  obtain ⟨rfl, h0⟩ := h0
  refine tc tbk 4 (.mk ?_)
  refine c_drawE [0, 1, 3, 0, 8, 31, 31, 127, 255, 511] (rl [(0, [1]), (1, [1]), (3, [1]), (4, [1]), (6, [1]), (8, [1])] []) (rl [(7, []), (9, [])] [1]) (rl [(2, false), (5, false), (7, false), (9, false)] true) [0, 1, 3, 4, 2, 6, 5, 7, 8, 9] mixed (by kernel_rfl) ?_; intro K hK
  refine eF fo31_1 ?_
  refine eL sh26 ?_
  refine eF fo31_3 ?_
  refine eL sh28 ?_
  obtain ⟨p12, h0⟩ := asrt_e h0
  refine de_eff rfl rfl rfl rfl (yl_call rfl rfl (.cons rfl .nil) cal52 (pc_cv (clone52_c (id := 3) (l := a1.Ents) rfl p12) (.cons (.refl _) .nil))) (by rintro _ _ ⟨v13, rfl, rfl⟩; exact ⟨rfl, trivial⟩) ?_; rintro _ _ ⟨v13, rfl, rfl⟩
  refine eF fo31_1 ?_
  obtain ⟨p14, h0⟩ := asrt_e h0
  refine de_eff rfl rfl rfl rfl (yl_call rfl rfl (.cons rfl .nil) cal53 (pc_cv (clone53_c (id := 4) (l := a1.Sales) rfl p14) (.cons (.refl _) .nil))) (by rintro _ _ ⟨v15, rfl, rfl⟩; exact ⟨rfl, trivial⟩) ?_; rintro _ _ ⟨v15, rfl, rfl⟩
  refine de_eff0 rfl rfl rfl rfl (Yield.weak (yl_ob (ob' := (⟨31, 10, true, true, v3, [[int a1.Master.Entities, int a1.Master.Periods, lst 1 fI a1.Master.Weights, lst 1 (fL 1 fI) a1.Master.Methods, lst 1 (fL 1 fI) a1.Master.Costs, .sl 3 v13 0 a1.Ents.length, lst 8 GReceipt.av a1.Receipts, lst 9 GSale.av a1.Sales, lst 6 GTransit.av a1.Transits, int a1.Done]]⟩ : AObj)) (yl_store rfl sh26 rfl rfl rfl rfl rfl rfl rfl rfl rfl) rfl) (fun _ h => h) (fun _ _ => trivial)) (by rintro _ _ ⟨rfl, rfl⟩; exact trivial) ?_; rintro _ _ ⟨rfl, rfl⟩
  refine eF fo31_3 ?_
  refine de_eff0 rfl rfl rfl rfl (Yield.weak (yl_ob (ob' := (⟨31, 10, true, true, v3, [[int a1.Master.Entities, int a1.Master.Periods, lst 1 fI a1.Master.Weights, lst 1 (fL 1 fI) a1.Master.Methods, lst 1 (fL 1 fI) a1.Master.Costs, .sl 3 v13 0 a1.Ents.length, lst 8 GReceipt.av a1.Receipts, .sl 4 v15 0 a1.Sales.length, lst 6 GTransit.av a1.Transits, int a1.Done]]⟩ : AObj)) (yl_store rfl sh28 rfl rfl rfl rfl rfl rfl rfl rfl rfl) rfl) (fun _ h => h) (fun _ _ => trivial)) (by rintro _ _ ⟨rfl, rfl⟩; exact trivial) ?_; rintro _ _ ⟨rfl, rfl⟩
  refine de_nil (hK _ ?_)
  refine tc tbk 1 (.mk ?_)
  refine c_drawE [0, 1, 0, 0, 8, 0, 56, 120, 248, 504, 1016, 2047, 4095] (rl [(0, [1]), (1, [1]), (3, [1]), (4, [1]), (6, [3]), (7, [3]), (8, [3]), (11, [3])] []) (rl [(12, [])] [1, 3]) (rl [(12, false)] true) [0, 1, 2, 3, 4, 5, 6, 7, 8, 9, 10, 11, 12] mixed (by kernel_rfl) ?_; intro K hK
  refine eF fo31_1 ?_
  refine eL sh26 ?_
  refine eM ?_
  refine eF fo31_1 ?_
  refine eL sh26 ?_
  refine eM ?_
  obtain ⟨x16, e16, h0⟩ := bind_e h0
  refine de_pure rfl rfl rfl rfl (fun H hH => yv_ixO rfl Tryz.underlying26 sh46 rfl rfl ((hH _ (by decide)).trans rfl) rfl rfl (Eq.symm rfl) (List.length_map _) e16) ?_
  refine eF fo46_7 (hr := ix_get' e16 (GEnt.av_eq _)) ?_
  refine eL sh26 (hr := ix_get' e16 (GEnt.av_eq _)) ?_
  obtain ⟨x17, e17, h0⟩ := bind_e h0
  refine eP (fun H hH => yv_to (y := .pp [int x17.Now, boo x17.Closed, lst 4 GPool.av x17.Pools, lst 1 fI x17.Bal, lst 11 GRoll.av x17.Rolls, lst 1 fI x17.Prices, lst 1 fI x17.Down, lst 8 GEnt.av x17.Ahead]) (yv_ixT rfl Tryz.underlying26 sh46 rfl rfl e17) (congrArg AV.pp (GEnt.av_eq x17))) ?_
  refine eP (fun H hH => yv_load rfl sh46 rfl (.pp _) rfl) ?_
  refine de_pure rfl rfl rfl rfl (fun H hH => yv_ixO rfl Tryz.underlying26 sh46 rfl rfl ((hH _ (by decide)).trans rfl) rfl rfl (Eq.symm rfl) (List.length_map _) e16) ?_
  obtain ⟨x18, e18, h0⟩ := bnd_e h0
  have fx18 := ix_set e16 e18; have lx18 := len_setV e18 (rfl : a1.Ents.length = a1.Ents.length)
  refine de_eff0 rfl rfl rfl rfl (Yield.weak (yl_ob (ob' := (⟨46, 8, true, true, v13, x18.map GEnt.av⟩ : AObj)) (yl_store rfl sh46 rfl rfl rfl rfl rfl (ix_get' e16 (GEnt.av_eq _)) rfl rfl rfl) (ob_eq (map_setR e18 (GEnt.av_eq _)))) (fun _ h => h) (fun _ _ => trivial)) (by rintro _ _ ⟨rfl, rfl⟩; exact trivial) ?_; rintro _ _ ⟨rfl, rfl⟩
  refine de_nil (hK _ ?_)
  refine tc tbk 5 (.mk ?_)
  refine sY (yv_len_sl rfl Tryz.underlying28 rfl (.sl rfl rfl)) ?_
  refine tr tbk 2 (.mk ?_)
  refine jn h0 [2, 4, 5] [1, 2, 3, 4] (fun (a : Unit) (k : Unit) => []) (fun a k => []) ⟨fun j19 h1 => ?_, ?_⟩
  refine tc tbk 1 (.mk ?_)
  refine lp (fun n (a : Int) => d_close_Reopen_L0 a1 a2 x17 n a) (0 : Int) () h1 [1, 2, 4, 5, 54, 55] [1, 2, 3, 4] (fun (a : Int) (k : Unit) => [(56, int a)]) (fun a k => []) (fun _ => rfl) ⟨leA, ?_⟩
  rintro n y1_1 _ hm h1
  replace h1 : d_close_Reopen_L0 a1 a2 x17 (n + 1) y1_1 = some _ := h1
  rw [d_close_Reopen_L0] at h1
  refine tc tbk 2 (.mk ?_)
  refine nb tbk h1 fun x20 h1 => ?_
  refine tr tbk 2 (.mk ?_)
  cases x20
  replace h1 := cf h1
  refine tc tbk 2 (.mk ?_)
  exact lf h1 () leA
  replace h1 := ct h1
  refine tc tbk 7 (.mk ?_)
  obtain ⟨x21, e21, h1⟩ := bind_e h1
  refine sY (yv_ixO rfl Tryz.underlying28 sh53 rfl rfl rfl rfl rfl (Eq.symm rfl) (List.length_map _) e21) ?_
  refine sY (yv_load rfl sh53 rfl (.pt rfl rfl (ix_get e21)) rfl) ?_
  refine sA 5 z53 fun v22 => ?_
  refine tr tbk 1 (.mk ?_)
  refine sS ⟨53, 9, true, true, v22, [[int x21.Entity, int x21.Item, int x21.Loc, int x21.Qty, int x21.Back, int x21.Cost, int x21.Profit, int x21.Period, boo x21.Waits]]⟩ sh53 ?_
  refine tr tbk 2 (.mk ?_)
  refine c_drawE [0, 0, 0, 4, 0, 28, 60, 124, 255] (rl [(0, [5]), (2, [1]), (3, [1]), (5, [3]), (6, [3]), (7, [3])] []) (fun i => [1, 3, 5]) (fun i => true) [0, 1, 2, 3, 4, 5, 6, 7, 8] mixed (by kernel_rfl) ?_; intro K hK
  refine eL sh53 ?_
  refine eM ?_
  refine eF fo31_1 ?_
  refine eL sh26 ?_
  refine eM ?_
  refine de_pure rfl rfl rfl rfl (fun H hH => yv_ixO rfl Tryz.underlying26 sh46 rfl rfl ((hH _ (by decide)).trans rfl) rfl rfl (Eq.symm lx18) (List.length_map _) fx18) ?_
  refine eF fo46_0 (hr := ix_get' fx18 (GEnt.av_eq _)) ?_
  refine eL sh3 (hr := ix_get' fx18 (GEnt.av_eq _)) ?_
  obtain ⟨x23, e23, h1⟩ := bind_e h1
  refine eP (fun H hH => yv_callP rfl rfl (.cons rfl (.cons rfl (.cons rfl .nil))) cal54 (CvL.refl _) (d_close_waits_c e23)) ?_
  refine de_nil (hK _ ?_)
  replace h1 := asrt_e h1
  obtain ⟨rfl, h1⟩ := h1
  refine tc tbk 4 (.mk ?_)
  refine ni tbk h1 fun x24 h1 => ?_
  refine tr tbk 2 (.mk ?_)
  exact bk x24 () h1 leA
  rintro _ _ h0
  refine tc tbk 3 (.mk ?_)
  refine sS ⟨31, 10, true, true, v4, [[int a1.Master.Entities, int a1.Master.Periods, lst 1 fI a1.Master.Weights, lst 1 (fL 1 fI) a1.Master.Methods, lst 1 (fL 1 fI) a1.Master.Costs, .sl 3 v13 0 a1.Ents.length, lst 8 GReceipt.av a1.Receipts, .sl 4 v15 0 a1.Sales.length, lst 6 GTransit.av a1.Transits, int a1.Done]]⟩ sh31 ?_
  refine tr tbk 2 (.mk ?_)
  obtain rfl := nxt_e h0
  refine wR hret (rC sh31 (rT .nil)) ?_
  exact CvL.tup (.cons (CvL.agg (.cons (.refl _) (.cons (.refl _) (.cons (.refl _) (.cons (.refl _) (.cons (.refl _) (.cons (cv_lst rfl rfl rfl rfl rfl (Eq.symm lx18)) (.cons (.refl _) (.cons (cv_lst rfl rfl rfl rfl rfl (Eq.symm rfl)) (.cons (.refl _) (.cons (.refl _) .nil))))))))))) (.cons (.refl _) .nil))
def d_stock_Worth (n : Nat) (a1 : GState) (a2 : Int) (a3 : Int) : Option (GLayer) :=
(d_stock_worth n a1 a2 a3).bind fun x6 =>
some ((x6.1 : GLayer))
theorem d_stock_Worth_c {n : Nat} {a1 : GState} {a2 : Int} {a3 : Int} {r : GLayer} (h0 : d_stock_Worth n a1 a2 a3 = some r) : PP Tryz.prog 55 [.agg (GState.av a1), int a2, int a3] (fun y => y = .agg (GLayer.av r)) := by
  unfold d_stock_Worth at h0
  refine pp_of_pc (R0 := fun y H => Cv (frzH H) y (.agg (GLayer.av r))) ?_ (fun y H hc => ⟨_, rfl, (fun (a : GLayer) => PV.agg (GLayer.pvc a)) r, hc⟩)
  refine pcw (c := _) Tryz.func55 rfl rfl ?_; intro Q hret hnorm
  refine tc tbk 2 (.mk ?_)
  refine sB 1 fun v4 => ?_
  refine sA 2 z57 fun v5 => ?_
  refine tr tbk 6 (.mk ?_)
  obtain ⟨x6, e6, h0⟩ := bind_e h0
  refine sC cal100 (d_stock_worth_c e6) ?_
  refine tr tbk 3 (.mk ?_)
  refine sA 3 z57 fun v7 => ?_
  refine sS ⟨57, 3, true, true, v7, [[int x6.1.Qty, int x6.1.Value, int x6.1.Profit]]⟩ sh57 ?_
  refine tr tbk 5 (.mk ?_)
  refine sS ⟨57, 3, true, true, v5, [[int x6.1.Qty, int x6.1.Value, int x6.1.Profit]]⟩ sh57 ?_
  refine tr tbk 1 (.mk ?_)
  obtain rfl := nxt_e h0
  refine wR hret (rC sh57 .nil) ?_
  exact .refl _
def d_close_Next_L0 (a1 : GState) (a2 : Int) (x13 : GEnt) (x14 : Int) (x16 : List GEnt) : Nat → Int → (List GRoll) → Option ((List GRoll))
  | 0, _, _ => none
  | n + 1, y0_1, y0_2 =>
    bnd (decide (y0_1 < ((Int.toNat (x13.Rolls.length : Int)) : Int))) fun x21 =>
    cond x21 ((d_stock_Worth n (⟨a1.Master, (x16.set (Int.toNat a2) (⟨x14, false, x13.Pools, x13.Bal, y0_2, x13.Prices, x13.Down, []⟩ : GEnt)), a1.Receipts, a1.Sales, a1.Transits, a1.Done⟩ : GState) a2 y0_1).bind fun x22 =>
    (ix y0_2 y0_1).bind fun x23 =>
    bnd (y0_2.set (Int.toNat y0_1) ((⟨x22.Value, x23.Bought, x23.Landed, x23.Arrived, x23.Returned, x23.Sold, x23.Shipped, x23.SentBack, x23.Scrapped, x23.Lost, x23.Revalued⟩ : GRoll) : GRoll)) fun x24 =>
    bnd (w64 (y0_1 + 1)) fun x25 =>
    d_close_Next_L0 a1 a2 x13 x14 x16 n (x25 : Int) (x24 : List GRoll)) (some (y0_2 : List GRoll))
def d_close_Next (n : Nat) (a1 : GState) (a2 : Int) : Option (GState × Int) :=
(d_close_is a1 a2).bind fun x5 =>
bnd (!x5) fun x6 =>
asrt (x6 = false) <|
(ix a1.Ents a2).bind fun x7 =>
bnd (!x7.Closed) fun x8 =>
cond x8 (some ((a1 : GState), (8 : Int))) ((ix a1.Ents a2).bind fun x9 =>
bnd (decide (x9.Now ≥ a1.Master.Periods)) fun x10 =>
asrt (x10 = false) <|
asrt (a1.Ents.length ≤ 68719476736) <|
(ix a1.Ents a2).bind fun x13 =>
bnd (w64 (x13.Now + 1)) fun x14 =>
bnd (a1.Ents.set (Int.toNat a2) ((⟨x14, x13.Closed, x13.Pools, x13.Bal, x13.Rolls, x13.Prices, x13.Down, x13.Ahead⟩ : GEnt) : GEnt)) fun x15 =>
bnd (x15.set (Int.toNat a2) ((⟨x14, false, x13.Pools, x13.Bal, x13.Rolls, x13.Prices, x13.Down, x13.Ahead⟩ : GEnt) : GEnt)) fun x16 =>
asrt ((0 : Int) ≤ (x13.Rolls.length : Int) ∧ ((x13.Rolls.length : Int) : Int) ≤ 1048576) <|
bnd (List.replicate (Int.toNat (x13.Rolls.length : Int)) ((⟨0, 0, 0, 0, 0, 0, 0, 0, 0, 0, 0⟩ : GRoll) : GRoll)) fun x18 =>
(show Option ((List GRoll)) from
d_close_Next_L0 a1 a2 x13 x14 x16 n (0 : Int) (x18 : List GRoll)).bind <| fun y1_1 =>
some (((⟨a1.Master, (x16.set (Int.toNat a2) (⟨x14, false, x13.Pools, x13.Bal, y1_1, x13.Prices, x13.Down, []⟩ : GEnt)), a1.Receipts, a1.Sales, a1.Transits, a1.Done⟩ : GState) : GState), (0 : Int)))
theorem d_close_Next_c {n : Nat} {a1 : GState} {a2 : Int} {r : GState × Int} (h0 : d_close_Next n a1 a2 = some r) : PP Tryz.prog 25 [.agg (GState.av a1), int a2] (fun y => y = .tup [.agg (GState.av r.1), int r.2]) := by
  unfold d_close_Next at h0
  refine pp_of_pc (R0 := fun y H => Cv (frzH H) y (.tup [.agg (GState.av r.1), int r.2])) ?_ (fun y H hc => ⟨_, rfl, .tup (pvl2 ((fun (a : GState) => PV.agg (GState.pvc a)) (r.1)) (pvI (r.2))), hc⟩)
  refine pcw (c := _) Tryz.func25 rfl rfl ?_; intro Q hret hnorm
  refine tc tbk 2 (.mk ?_)
  refine sB 1 fun v3 => ?_
  refine sA 2 z31 fun v4 => ?_
  refine tr tbk 8 (.mk ?_)
  obtain ⟨x5, e5, h0⟩ := bind_e h0
  refine sC cal49 (d_close_is_c e5) ?_
  refine nb tbk h0 fun x6 h0 => ?_
  refine tr tbk 2 (.mk ?_)
  replace h0 := asrt_e h0
  obtain ⟨rfl, h0⟩ := h0
  refine tc tbk 6 (.mk ?_)
  obtain ⟨x7, e7, h0⟩ := bind_e h0
  refine sY (yv_to (y := .pp [int x7.Now, boo x7.Closed, lst 4 GPool.av x7.Pools, lst 1 fI x7.Bal, lst 11 GRoll.av x7.Rolls, lst 1 fI x7.Prices, lst 1 fI x7.Down, lst 8 GEnt.av x7.Ahead]) (yv_ixT rfl Tryz.underlying26 sh46 rfl rfl e7) (congrArg AV.pp (GEnt.av_eq x7))) ?_
  refine tr tbk 2 (.mk ?_)
  refine nb tbk h0 fun x8 h0 => ?_
  refine tr tbk 2 (.mk ?_)
  cases x8
  replace h0 := cf h0
  refine tc tbk 2 (.mk ?_)
  refine c_drawE [0, 1, 0, 7, 15, 31, 0, 64, 192, 511, 1023] (rl [(0, [1]), (1, [1]), (6, [1]), (7, [1]), (8, [1])] []) (fun i => [1]) (fun i => true) [0, 1, 2, 3, 4, 5, 6, 7, 8, 9, 10] mixed (by kernel_rfl) ?_; intro K hK
  refine eF fo31_1 ?_
  refine eL sh26 ?_
  refine eM ?_
  obtain ⟨x9, e9, h0⟩ := bind_e h0
  refine eP (fun H hH => yv_to (y := .pp [int x9.Now, boo x9.Closed, lst 4 GPool.av x9.Pools, lst 1 fI x9.Bal, lst 11 GRoll.av x9.Rolls, lst 1 fI x9.Prices, lst 1 fI x9.Down, lst 8 GEnt.av x9.Ahead]) (yv_ixT rfl Tryz.underlying26 sh46 rfl rfl e9) (congrArg AV.pp (GEnt.av_eq x9))) ?_
  refine eP (fun H hH => yv_fieldAddr rfl fo46_0 rfl (.pp _) (.pp _ _)) ?_
  refine eP (fun H hH => yv_load rfl sh3 rfl (.pp _) rfl) ?_
  refine eF fo31_0 ?_
  refine eF fo25_1 ?_
  refine eL sh3 ?_
  obtain ⟨x10, e10, h0⟩ := bnd_e h0
  refine eP (fun H hH => yv_to (y := boo x10) (yv_geq rfl rfl rfl) (congrArg boo e10)) ?_
  refine eA ?_
  refine de_nil (hK _ ?_)
  replace h0 := asrt_e h0
  obtain ⟨rfl, h0⟩ := h0
  refine tc tbk 7 (.mk ?_)
  obtain ⟨p11, h0⟩ := asrt_e h0
  refine rse rfl rfl rfl (yl_call rfl rfl (.cons rfl .nil) cal52 (pc_cv (clone52_c (id := 3) (l := a1.Ents) rfl p11) (.cons (.refl _) .nil))) ?_; rintro _ _ ⟨v12, rfl, rfl⟩
  refine tr tbk 1 (.mk ?_)
  refine sS ⟨31, 10, true, true, v3, [[int a1.Master.Entities, int a1.Master.Periods, lst 1 fI a1.Master.Weights, lst 1 (fL 1 fI) a1.Master.Methods, lst 1 (fL 1 fI) a1.Master.Costs, .sl 3 v12 0 a1.Ents.length, lst 8 GReceipt.av a1.Receipts, lst 9 GSale.av a1.Sales, lst 6 GTransit.av a1.Transits, int a1.Done]]⟩ sh26 ?_
  refine tr tbk 6 (.mk ?_)
  obtain ⟨x13, e13, h0⟩ := bind_e h0
  refine sY (yv_ixO rfl Tryz.underlying26 sh46 rfl rfl rfl rfl rfl (Eq.symm rfl) (List.length_map _) e13) ?_
  refine tr tbk 8 (.mk ?_)
  refine sY (yv_nilCheck rfl rfl (.pt rfl rfl (ix_get' e13 (GEnt.av_eq _)))) ?_
  refine sY (yv_fieldAddr rfl fo46_0 rfl (.pt rfl rfl (ix_get' e13 (GEnt.av_eq _))) (.pt _ _ _ _ _)) ?_
  refine sY (yv_load rfl sh3 rfl (.pt rfl rfl (ix_get' e13 (GEnt.av_eq _))) rfl) ?_
  refine ni tbk h0 fun x14 h0 => ?_
  refine sY (yv_nilCheck rfl rfl (.pt rfl rfl (ix_get' e13 (GEnt.av_eq _)))) ?_
  refine sY (yv_fieldAddr rfl fo46_0 rfl (.pt rfl rfl (ix_get' e13 (GEnt.av_eq _))) (.pt _ _ _ _ _)) ?_
  obtain ⟨x15, e15, h0⟩ := bnd_e h0
  have fx15 := ix_set e13 e15; have lx15 := len_setV e15 (rfl : a1.Ents.length = a1.Ents.length)
  refine rsstore rfl rfl (yl_ob (ob' := (⟨46, 8, true, true, v12, x15.map GEnt.av⟩ : AObj)) (yl_store rfl sh3 rfl rfl rfl rfl rfl (ix_get' e13 (GEnt.av_eq _)) rfl rfl rfl) (ob_eq (map_setR e15 (GEnt.av_eq _)))) ?_
  refine sY (yv_nilCheck rfl rfl (.pt rfl rfl (ix_get' fx15 (GEnt.av_eq _)))) ?_
  refine sY (yv_fieldAddr rfl fo46_1 rfl (.pt rfl rfl (ix_get' fx15 (GEnt.av_eq _))) (.pt _ _ _ _ _)) ?_
  obtain ⟨x16, e16, h0⟩ := bnd_e h0
  have fx16 := ix_set fx15 e16; have lx16 := len_setV e16 lx15
  refine rsstore rfl rfl (yl_ob (ob' := (⟨46, 8, true, true, v12, x16.map GEnt.av⟩ : AObj)) (yl_store rfl sh4 rfl rfl rfl rfl rfl (ix_get' fx15 (GEnt.av_eq _)) rfl rfl rfl) (ob_eq (map_setR e16 (GEnt.av_eq _)))) ?_
  refine sY (yv_nilCheck rfl rfl (.pt rfl rfl (ix_get' fx16 (GEnt.av_eq _)))) ?_
  refine sY (yv_fieldAddr rfl fo46_7 rfl (.pt rfl rfl (ix_get' fx16 (GEnt.av_eq _))) (.pt _ _ _ _ _)) ?_
  refine rsstore rfl rfl (yl_ob (ob' := (⟨46, 8, true, true, v12, (x16.map GEnt.av).set (Int.toNat a2) [int x14, boo false, lst 4 GPool.av x13.Pools, lst 1 fI x13.Bal, lst 11 GRoll.av x13.Rolls, lst 1 fI x13.Prices, lst 1 fI x13.Down, .sc (.slice none 0 0)]⟩ : AObj)) (yl_store rfl sh26 rfl rfl rfl rfl rfl (ix_get' fx16 (GEnt.av_eq _)) rfl rfl rfl) (ob_eq rfl)) ?_
  refine tr tbk 5 (.mk ?_)
  refine sY (yv_nilCheck rfl rfl (.pt rfl rfl (set_get fx16))) ?_
  refine sY (yv_fieldAddr rfl fo46_4 rfl (.pt rfl rfl (set_get fx16)) (.pt _ _ _ _ _)) ?_
  refine sY (yv_load rfl sh44 rfl (.pt rfl rfl (set_get fx16)) rfl) ?_
  refine sY (yv_len_sl rfl Tryz.underlying44 rfl (lst_len _)) ?_
  obtain ⟨p17, h0⟩ := asrt_e h0
  obtain ⟨x18, e18, h0⟩ := bnd_e h0
  have lx18 : x18.length = (Int.toNat (x13.Rolls.length : Int)) := by rw [← e18]; exact List.length_replicate
  refine rse rfl rfl rfl (yl_make 4 (g := GRoll.av) (z0 := ((⟨0, 0, 0, 0, 0, 0, 0, 0, 0, 0, 0⟩ : GRoll) : GRoll)) .any rfl Tryz.underlying44 bz55 by55 rfl rfl rfl p17 (.cons (.sc _) (.cons (.sc _) (.cons (.sc _) (.cons (.sc _) (.cons (.sc _) (.cons (.sc _) (.cons (.sc _) (.cons (.sc _) (.cons (.sc _) (.cons (.sc _) (.cons (.sc _) .nil))))))))))) e18) ?_; rintro _ _ ⟨v19, -, rfl, rfl⟩
  refine sY (yv_nilCheck rfl rfl (.pt rfl rfl (set_get fx16))) ?_
  refine sY (yv_fieldAddr rfl fo46_4 rfl (.pt rfl rfl (set_get fx16)) (.pt _ _ _ _ _)) ?_
  refine rsstore rfl rfl (yl_ob (ob' := (⟨46, 8, true, true, v12, (x16.map GEnt.av).set (Int.toNat a2) [int x14, boo false, lst 4 GPool.av x13.Pools, lst 1 fI x13.Bal, .sl 4 v19 0 (Int.toNat (x13.Rolls.length : Int)), lst 1 fI x13.Prices, lst 1 fI x13.Down, .sc (.slice none 0 0)]⟩ : AObj)) (yl_store rfl sh44 rfl rfl rfl rfl rfl (set_get fx16) rfl rfl rfl) (ob_eq set_setV)) ?_
  refine tr tbk 5 (.mk ?_)
  refine sY (yv_nilCheck rfl rfl (.pt rfl rfl (set_get fx16))) ?_
  refine sY (yv_fieldAddr rfl fo46_4 rfl (.pt rfl rfl (set_get fx16)) (.pt _ _ _ _ _)) ?_
  refine sY (yv_load rfl sh44 rfl (.pt rfl rfl (set_get fx16)) rfl) ?_
  refine sY (yv_len_sl rfl Tryz.underlying44 rfl (.sl rfl rfl)) ?_
  refine tr tbk 2 (.mk ?_)
  refine jn h0 [2, 4, 5] [1, 2] (fun (a : (List GRoll)) (k : Unit) => []) (fun a k => [(3, ⟨46, 8, true, true, v12, (x16.map GEnt.av).set (Int.toNat a2) [int x14, boo false, lst 4 GPool.av x13.Pools, lst 1 fI x13.Bal, .sl 4 v19 0 a.length, lst 1 fI x13.Prices, lst 1 fI x13.Down, .sc (.slice none 0 0)]⟩), (4, ⟨55, 11, true, true, v19, a.map GRoll.av⟩)]) ⟨fun j20 h1 => ?_, ?_⟩
  refine tc tbk 1 (.mk ?_)
  refine lp (fun n (a : Int × (List GRoll)) => d_close_Next_L0 a1 a2 x13 x14 x16 n a.1 a.2) ((0 : Int), (x18 : List GRoll)) () h1 [1, 2, 4, 5, 6, 70] [1, 2] (fun (a : Int × (List GRoll)) (k : Unit) => [(71, int a.1)]) (fun a k => [(3, ⟨46, 8, true, true, v12, (x16.map GEnt.av).set (Int.toNat a2) [int x14, boo false, lst 4 GPool.av x13.Pools, lst 1 fI x13.Bal, .sl 4 v19 0 a.2.length, lst 1 fI x13.Prices, lst 1 fI x13.Down, .sc (.slice none 0 0)]⟩), (4, ⟨55, 11, true, true, v19, a.2.map GRoll.av⟩)]) (fun _ => rfl) ⟨leH_kn ⟨⟨_, rfl, (.refl _)⟩, ⟨_, rfl, (.refl _)⟩, ⟨_, rfl, (.refl _)⟩, ⟨_, rfl, (.refl _)⟩, ⟨_, rfl, (.refl _)⟩, ⟨_, rfl, (.refl _)⟩, ⟨_, rfl, (.refl _)⟩, trivial⟩ ⟨⟨_, rfl, ⟨rfl, cvll_set (.cons (.refl _) (.cons (.refl _) (.cons (.refl _) (.cons (.refl _) (.cons (cv_slen (Eq.symm lx18)) (.cons (.refl _) (.cons (.refl _) (.cons (.refl _) .nil))))))))⟩⟩, ⟨_, rfl, (.refl _)⟩, ⟨_, rfl, (.refl _)⟩, ⟨_, rfl, (.refl _)⟩, trivial⟩, ?_⟩
  rintro n ⟨y0_1, y0_2⟩ _ hm h1
  replace h1 : d_close_Next_L0 a1 a2 x13 x14 x16 (n + 1) y0_1 y0_2 = some _ := h1
  rw [d_close_Next_L0] at h1
  refine tc tbk 2 (.mk ?_)
  refine nb tbk h1 fun x21 h1 => ?_
  refine tr tbk 2 (.mk ?_)
  cases x21
  replace h1 := cf h1
  refine tc tbk 2 (.mk ?_)
  exact lf h1 () leA
  replace h1 := ct h1
  refine tc tbk 9 (.mk ?_)
  refine c_drawE [0, 1, 3, 7, 0, 0, 0, 0, 224, 480, 1023, 2047, 4095] (rl [(1, [3]), (2, [3]), (3, [3]), (5, [1]), (8, [3, 4]), (10, [4]), (11, [4])] []) (rl [(12, [])] [1, 3, 4]) (rl [(12, false)] true) [0, 1, 2, 3, 4, 5, 6, 7, 8, 9, 10, 11, 12] mixed (by kernel_rfl) ?_; intro K hK
  refine eM ?_
  refine eN (hr := set_get fx16) ?_
  refine eF fo46_4 (hr := set_get fx16) ?_
  refine eL sh44 (hr := set_get fx16) ?_
  refine eM ?_
  refine eL sh31 ?_
  iterate 2 refine eM ?_
  obtain ⟨x22, e22, h1⟩ := bind_e h1
  refine de_pure rfl rfl rfl rfl (fun H hH => yv_callT (v := .agg [int x22.Qty, int x22.Value, int x22.Profit]) rfl rfl (.cons rfl (.cons rfl (.cons rfl .nil))) cal55 (.cons (CvL.agg (.cons (.refl _) (.cons (.refl _) (.cons (.refl _) (.cons (.refl _) (.cons (.refl _) (.cons (cv_ov (ob := (⟨46, 8, false, true, v12, (x16.map GEnt.av).set (Int.toNat a2) [int x14, boo false, lst 4 GPool.av x13.Pools, lst 1 fI x13.Bal, .sl 4 v19 0 y0_2.length, lst 1 fI x13.Prices, lst 1 fI x13.Down, .sc (.slice none 0 0)]⟩ : AObj)) (frz_at ((hH 3 (by decide)).trans rfl)) rfl rfl rfl rfl (Eq.symm lx16) fx16 (cvl_to (.cons (.refl _) (.cons (.refl _) (.cons (.refl _) (.cons (.refl _) (.cons (cv_lst (ob := (⟨55, 11, false, true, v19, y0_2.map GRoll.av⟩ : AObj)) (frz_at ((hH 4 (by decide)).trans rfl)) rfl rfl rfl rfl (Eq.symm rfl)) (.cons (.refl _) (.cons (.refl _) (.cons (.nil _) .nil)))))))) (GEnt.av_eq _))) (.cons (.refl _) (.cons (.refl _) (.cons (.refl _) (.cons (.refl _) .nil))))))))))) (.cons (.refl _) (.cons (.refl _) .nil))) (d_stock_Worth_c e22) rfl) ?_
  refine eP (fun H hH => yv_field rfl fp57_1 sh3 rfl rfl) ?_
  obtain ⟨x23, e23, h1⟩ := bind_e h1
  refine de_pure rfl rfl rfl rfl (fun H hH => yv_ixO rfl Tryz.underlying44 sh55 rfl rfl ((hH _ (by decide)).trans rfl) rfl rfl (Eq.symm rfl) (List.length_map _) e23) ?_
  refine eF fo55_0 (hr := ix_get e23) ?_
  obtain ⟨x24, e24, h1⟩ := bnd_e h1
  have fx24 := ix_set e23 e24; have lx24 := len_setV e24 (rfl : y0_2.length = y0_2.length)
  refine de_eff0 rfl rfl rfl rfl (Yield.weak (yl_ob (ob' := (⟨55, 11, true, true, v19, x24.map GRoll.av⟩ : AObj)) (yl_store rfl sh3 rfl rfl rfl rfl rfl (ix_get e23) rfl rfl rfl) (ob_eq (map_setV e24))) (fun _ h => h) (fun _ _ => trivial)) (by rintro _ _ ⟨rfl, rfl⟩; exact trivial) ?_; rintro _ _ ⟨rfl, rfl⟩
  refine de_nil (hK _ ?_)
  refine tc tbk 2 (.mk ?_)
  refine ni tbk h1 fun x25 h1 => ?_
  refine tr tbk 2 (.mk ?_)
  exact bk (x25, x24) () h1 (leH_kn ⟨⟨_, rfl, (.refl _)⟩, ⟨_, rfl, (.refl _)⟩, ⟨_, rfl, (.refl _)⟩, ⟨_, rfl, (.refl _)⟩, ⟨_, rfl, (.refl _)⟩, ⟨_, rfl, (.refl _)⟩, ⟨_, rfl, (.refl _)⟩, trivial⟩ ⟨⟨_, rfl, ⟨rfl, cvll_set (.cons (.refl _) (.cons (.refl _) (.cons (.refl _) (.cons (.refl _) (.cons (cv_slen (Eq.symm lx24)) (.cons (.refl _) (.cons (.refl _) (.cons (.refl _) .nil))))))))⟩⟩, ⟨_, rfl, (.refl _)⟩, ⟨_, rfl, (.refl _)⟩, ⟨_, rfl, (.refl _)⟩, trivial⟩)
  rintro y1_1 _ h0
  refine tc tbk 3 (.mk ?_)
  refine sS ⟨31, 10, true, true, v4, [[int a1.Master.Entities, int a1.Master.Periods, lst 1 fI a1.Master.Weights, lst 1 (fL 1 fI) a1.Master.Methods, lst 1 (fL 1 fI) a1.Master.Costs, .sl 3 v12 0 a1.Ents.length, lst 8 GReceipt.av a1.Receipts, lst 9 GSale.av a1.Sales, lst 6 GTransit.av a1.Transits, int a1.Done]]⟩ sh31 ?_
  refine tr tbk 2 (.mk ?_)
  obtain rfl := nxt_e h0
  refine wR hret (rC sh31 (rT .nil)) ?_
  exact CvL.tup (.cons (CvL.agg (.cons (.refl _) (.cons (.refl _) (.cons (.refl _) (.cons (.refl _) (.cons (.refl _) (.cons (cv_ov rfl rfl rfl rfl rfl (Eq.symm lx16) fx16 (cvl_to (.cons (.refl _) (.cons (.refl _) (.cons (.refl _) (.cons (.refl _) (.cons (cv_lst rfl rfl rfl rfl rfl (Eq.symm rfl)) (.cons (.refl _) (.cons (.refl _) (.cons (.nil _) .nil)))))))) (GEnt.av_eq _))) (.cons (.refl _) (.cons (.refl _) (.cons (.refl _) (.cons (.refl _) .nil))))))))))) (.cons (.refl _) .nil))
  replace h0 := ct h0
  refine tc tbk 4 (.mk ?_)
  refine sS ⟨31, 10, true, true, v4, [(GState.av a1)]⟩ sh31 ?_
  refine tr tbk 2 (.mk ?_)
  obtain rfl := nxt_e h0
  refine wR hret (rC sh31 (rT .nil)) ?_
  exact .refl _
def d_ref04_SameInts_L0 (a1 : List Int) (a2 : List Int) : Nat → Int → Option (Unit)
  | 0, _ => none
  | n + 1, y0_1 =>
    bnd (decide (y0_1 < (a1.length : Int))) fun x5 =>
    cond x5 ((ix a1 y0_1).bind fun x6 =>
    (ix a2 y0_1).bind fun x7 =>
    bnd (decide (x6 ≠ x7)) fun x8 =>
    asrt (x8 = false) <|
    bnd (w64 (y0_1 + 1)) fun x9 =>
    d_ref04_SameInts_L0 a1 a2 n (x9 : Int)) (some ())
def d_ref04_SameInts (n : Nat) (a1 : List Int) (a2 : List Int) : Option (Bool) :=
bnd (decide ((a1.length : Int) ≠ (a2.length : Int))) fun x3 =>
asrt (x3 = false) <|
(show Option (Unit) from
d_ref04_SameInts_L0 a1 a2 n (0 : Int)).bind <| fun _ =>
some ((true : Bool))
theorem d_ref04_SameInts_c {n : Nat} {a1 : List Int} {a2 : List Int} {r : Bool} (h0 : d_ref04_SameInts n a1 a2 = some r) : PP Tryz.prog 105 [lst 1 fI a1, lst 1 fI a2] (fun y => y = boo r) := by
  unfold d_ref04_SameInts at h0
  refine pp_of_pc (R0 := fun y H => Cv (frzH H) y (boo r)) ?_ (fun y H hc => ⟨_, rfl, pvB r, hc⟩)
  refine pcw (c := _) Tryz.func105 rfl rfl ?_; intro Q hret hnorm
  refine tc tbk 8 (.mk ?_)
  refine sY (yv_len_sl rfl Tryz.underlying22 rfl (lst_len _)) ?_
  refine tr tbk 1 (.mk ?_)
  refine sY (yv_len_sl rfl Tryz.underlying22 rfl (lst_len _)) ?_
  refine nb tbk h0 fun x3 h0 => ?_
  refine tr tbk 1 (.mk ?_)
  replace h0 := asrt_e h0
  obtain ⟨rfl, h0⟩ := h0
  refine tc tbk 7 (.mk ?_)
  refine jn h0 [4] [] (fun (a : Unit) (k : Unit) => []) (fun a k => []) ⟨fun j4 h1 => ?_, ?_⟩
  refine tc tbk 1 (.mk ?_)
  refine lp (fun n (a : Int) => d_ref04_SameInts_L0 a1 a2 n a) (0 : Int) () h1 [0, 1, 4] [] (fun (a : Int) (k : Unit) => [(5, int a)]) (fun a k => []) (fun _ => rfl) ⟨leA, ?_⟩
  rintro n y0_1 _ hm h1
  replace h1 : d_ref04_SameInts_L0 a1 a2 (n + 1) y0_1 = some _ := h1
  rw [d_ref04_SameInts_L0] at h1
  refine tc tbk 5 (.mk ?_)
  refine sY (yv_len_sl rfl Tryz.underlying22 rfl (lst_len _)) ?_
  refine nb tbk h1 fun x5 h1 => ?_
  refine tr tbk 1 (.mk ?_)
  cases x5
  replace h1 := cf h1
  refine tc tbk 2 (.mk ?_)
  exact lf h1 () leA
  replace h1 := ct h1
  refine tc tbk 5 (.mk ?_)
  refine c_drawE [0, 0, 3, 7, 0, 0, 48, 112, 255] (fun i => []) (fun i => []) (fun i => true) [0, 1, 2, 3, 4, 5, 6, 7, 8] mixed (by kernel_rfl) ?_; intro K hK
  iterate 2 refine eM ?_
  obtain ⟨x6, e6, h1⟩ := bind_e h1
  refine eP (fun H hH => yv_ixT rfl Tryz.underlying22 sh3 rfl rfl e6) ?_
  refine eP (fun H hH => yv_load rfl sh3 rfl (.pp _) rfl) ?_
  iterate 2 refine eM ?_
  obtain ⟨x7, e7, h1⟩ := bind_e h1
  refine eP (fun H hH => yv_ixT rfl Tryz.underlying22 sh3 rfl rfl e7) ?_
  refine eP (fun H hH => yv_load rfl sh3 rfl (.pp _) rfl) ?_
  obtain ⟨x8, e8, h1⟩ := bnd_e h1
  refine eP (fun H hH => yv_to (y := boo x8) (yv_neq rfl rfl rfl) (congrArg boo e8)) ?_
  refine de_nil (hK _ ?_)
  replace h1 := asrt_e h1
  obtain ⟨rfl, h1⟩ := h1
  refine tc tbk 5 (.mk ?_)
  refine ni tbk h1 fun x9 h1 => ?_
  refine tr tbk 2 (.mk ?_)
  exact bk x9 () h1 leA
  rintro _ _ h0
  refine tc tbk 4 (.mk ?_)
  obtain rfl := nxt_e h0
  refine wR hret (rT .nil) ?_
  exact .refl _
def d_ref04_sameLists_L0 (a1 : List (List Int)) (a2 : List (List Int)) : Nat → Int → Option (Unit)
  | 0, _ => none
  | n + 1, y0_1 =>
    bnd (decide (y0_1 < (a1.length : Int))) fun x5 =>
    cond x5 ((ix a1 y0_1).bind fun x6 =>
    (ix a2 y0_1).bind fun x7 =>
    (d_ref04_SameInts n x6 x7).bind fun x8 =>
    bnd (!x8) fun x9 =>
    asrt (x9 = false) <|
    bnd (w64 (y0_1 + 1)) fun x10 =>
    d_ref04_sameLists_L0 a1 a2 n (x10 : Int)) (some ())
def d_ref04_sameLists (n : Nat) (a1 : List (List Int)) (a2 : List (List Int)) : Option (Bool) :=
bnd (decide ((a1.length : Int) ≠ (a2.length : Int))) fun x3 =>
asrt (x3 = false) <|
(show Option (Unit) from
d_ref04_sameLists_L0 a1 a2 n (0 : Int)).bind <| fun _ =>
some ((true : Bool))
theorem d_ref04_sameLists_c {n : Nat} {a1 : List (List Int)} {a2 : List (List Int)} {r : Bool} (h0 : d_ref04_sameLists n a1 a2 = some r) : PP Tryz.prog 106 [lst 1 (fL 1 fI) a1, lst 1 (fL 1 fI) a2] (fun y => y = boo r) := by
  unfold d_ref04_sameLists at h0
  refine pp_of_pc (R0 := fun y H => Cv (frzH H) y (boo r)) ?_ (fun y H hc => ⟨_, rfl, pvB r, hc⟩)
  refine pcw (c := _) Tryz.func106 rfl rfl ?_; intro Q hret hnorm
  refine tc tbk 8 (.mk ?_)
  refine sY (yv_len_sl rfl Tryz.underlying23 rfl (lst_len _)) ?_
  refine tr tbk 1 (.mk ?_)
  refine sY (yv_len_sl rfl Tryz.underlying23 rfl (lst_len _)) ?_
  refine nb tbk h0 fun x3 h0 => ?_
  refine tr tbk 1 (.mk ?_)
  replace h0 := asrt_e h0
  obtain ⟨rfl, h0⟩ := h0
  refine tc tbk 7 (.mk ?_)
  refine jn h0 [4] [] (fun (a : Unit) (k : Unit) => []) (fun a k => []) ⟨fun j4 h1 => ?_, ?_⟩
  refine tc tbk 1 (.mk ?_)
  refine lp (fun n (a : Int) => d_ref04_sameLists_L0 a1 a2 n a) (0 : Int) () h1 [0, 1, 4] [] (fun (a : Int) (k : Unit) => [(5, int a)]) (fun a k => []) (fun _ => rfl) ⟨leA, ?_⟩
  rintro n y0_1 _ hm h1
  replace h1 : d_ref04_sameLists_L0 a1 a2 (n + 1) y0_1 = some _ := h1
  rw [d_ref04_sameLists_L0] at h1
  refine tc tbk 5 (.mk ?_)
  refine sY (yv_len_sl rfl Tryz.underlying23 rfl (lst_len _)) ?_
  refine nb tbk h1 fun x5 h1 => ?_
  refine tr tbk 1 (.mk ?_)
  cases x5
  replace h1 := cf h1
  refine tc tbk 2 (.mk ?_)
  exact lf h1 () leA
  replace h1 := ct h1
  refine tc tbk 5 (.mk ?_)
  refine c_drawE [0, 0, 3, 7, 0, 0, 48, 112, 255, 511] (fun i => []) (fun i => []) (fun i => true) [0, 1, 2, 3, 4, 5, 6, 7, 8, 9] mixed (by kernel_rfl) ?_; intro K hK
  iterate 2 refine eM ?_
  obtain ⟨x6, e6, h1⟩ := bind_e h1
  refine eP (fun H hH => yv_ixT rfl Tryz.underlying23 sh22 rfl rfl e6) ?_
  refine eP (fun H hH => yv_load rfl sh22 rfl (.pp _) rfl) ?_
  iterate 2 refine eM ?_
  obtain ⟨x7, e7, h1⟩ := bind_e h1
  refine eP (fun H hH => yv_ixT rfl Tryz.underlying23 sh22 rfl rfl e7) ?_
  refine eP (fun H hH => yv_load rfl sh22 rfl (.pp _) rfl) ?_
  obtain ⟨x8, e8, h1⟩ := bind_e h1
  refine eP (fun H hH => yv_callP rfl rfl (.cons rfl (.cons rfl .nil)) cal105 (CvL.refl _) (d_ref04_SameInts_c e8)) ?_
  obtain ⟨x9, e9, h1⟩ := bnd_e h1
  refine eP (fun H hH => yv_not rfl rfl e9) ?_
  refine de_nil (hK _ ?_)
  replace h1 := asrt_e h1
  obtain ⟨rfl, h1⟩ := h1
  refine tc tbk 5 (.mk ?_)
  refine ni tbk h1 fun x10 h1 => ?_
  refine tr tbk 2 (.mk ?_)
  exact bk x10 () h1 leA
  rintro _ _ h0
  refine tc tbk 4 (.mk ?_)
  obtain rfl := nxt_e h0
  refine wR hret (rT .nil) ?_
  exact .refl _
def d_ref04_Same (n : Nat) (a1 : GMaster) (a2 : GMaster) : Option (Bool) :=
(show Option (Bool) from
bnd (decide (a1.Entities = a2.Entities)) fun x6 =>
cond x6 (bnd (decide (a1.Periods = a2.Periods)) fun x7 =>
cond x7 ((d_ref04_SameInts n a1.Weights a2.Weights).bind fun x8 =>
cond x8 ((d_ref04_sameLists n a1.Methods a2.Methods).bind fun x9 =>
cond x9 ((d_ref04_sameLists n a1.Costs a2.Costs).bind fun x10 =>
some (x10 : Bool)) (some (false : Bool))) (some (false : Bool))) (some (false : Bool))) (some (false : Bool))).bind <| fun y0_1 =>
some ((y0_1 : Bool))
theorem d_ref04_Same_c {n : Nat} {a1 : GMaster} {a2 : GMaster} {r : Bool} (h0 : d_ref04_Same n a1 a2 = some r) : PP Tryz.prog 60 [.agg (GMaster.av a1), .agg (GMaster.av a2)] (fun y => y = boo r) := by
  unfold d_ref04_Same at h0
  refine pp_of_pc (R0 := fun y H => Cv (frzH H) y (boo r)) ?_ (fun y H hc => ⟨_, rfl, pvB r, hc⟩)
  refine pcw (c := _) Tryz.func60 rfl rfl ?_; intro Q hret hnorm
  refine tc tbk 2 (.mk ?_)
  refine sB 1 fun v3 => ?_
  refine sB 2 fun v4 => ?_
  refine tr tbk 3 (.mk ?_)
  refine jn h0 [] [] (fun (a : Bool) (k : Unit) => [(4, boo a)]) (fun a k => []) ⟨fun j5 h1 => ?_, ?_⟩
  refine tc tbk 5 (.mk ?_)
  refine nb tbk h1 fun x6 h1 => ?_
  refine tr tbk 1 (.mk ?_)
  cases x6
  replace h1 := cf h1
  refine tr tbk 29 (.mk ?_)
  exact lf h1 () leA
  replace h1 := ct h1
  refine tr tbk 4 (.mk ?_)
  refine nb tbk h1 fun x7 h1 => ?_
  refine tr tbk 2 (.mk ?_)
  cases x7
  replace h1 := cf h1
  refine tr tbk 22 (.mk ?_)
  exact lf h1 () leA
  replace h1 := ct h1
  refine tr tbk 4 (.mk ?_)
  obtain ⟨x8, e8, h1⟩ := bind_e h1
  refine sC cal105 (d_ref04_SameInts_c e8) ?_
  refine tr tbk 2 (.mk ?_)
  cases x8
  replace h1 := cf h1
  refine tr tbk 15 (.mk ?_)
  exact lf h1 () leA
  replace h1 := ct h1
  refine tr tbk 4 (.mk ?_)
  obtain ⟨x9, e9, h1⟩ := bind_e h1
  refine sC cal106 (d_ref04_sameLists_c e9) ?_
  refine tr tbk 2 (.mk ?_)
  cases x9
  replace h1 := cf h1
  refine tr tbk 8 (.mk ?_)
  exact lf h1 () leA
  replace h1 := ct h1
  refine tr tbk 4 (.mk ?_)
  obtain ⟨x10, e10, h1⟩ := bind_e h1
  refine sC cal106 (d_ref04_sameLists_c e10) ?_
  refine tr tbk 3 (.mk ?_)
  exact lf h1 () leA
  rintro y0_1 _ h0
  obtain rfl := nxt_e h0
  refine wR hret (rT .nil) ?_
  exact .refl _
def d_ref14_samePapers_L0 (a1 : GState) : Nat → Option (Unit)
  | 0 => none
  | n + 1 =>
    bnd (decide (0 < (a1.Receipts.length : Int))) fun x10 =>
    asrt (x10 = false) <|
    some ()
def d_ref14_samePapers_L1 (a1 : GState) : Nat → Option (Unit)
  | 0 => none
  | n + 1 =>
    bnd (decide (0 < (a1.Sales.length : Int))) fun x12 =>
    asrt (x12 = false) <|
    some ()
def d_ref14_samePapers_L2 (a1 : GState) : Nat → Option (Unit)
  | 0 => none
  | n + 1 =>
    bnd (decide (0 < (a1.Transits.length : Int))) fun x14 =>
    asrt (x14 = false) <|
    some ()
def d_ref14_samePapers (n : Nat) (a1 : GState) (a2 : GState) : Option (Bool) :=
(show Option (Bool) from
bnd (decide ((a1.Receipts.length : Int) ≠ (a2.Receipts.length : Int))) fun x6 =>
cond x6 (some (true : Bool)) (bnd (decide ((a1.Sales.length : Int) ≠ (a2.Sales.length : Int))) fun x7 =>
cond x7 (some (true : Bool)) (bnd (decide ((a1.Transits.length : Int) ≠ (a2.Transits.length : Int))) fun x8 =>
some (x8 : Bool)))).bind <| fun y0_1 =>
asrt (y0_1 = false) <|
(show Option (Unit) from
d_ref14_samePapers_L0 a1 n).bind <| fun _ =>
(show Option (Unit) from
d_ref14_samePapers_L1 a1 n).bind <| fun _ =>
(show Option (Unit) from
d_ref14_samePapers_L2 a1 n).bind <| fun _ =>
some ((true : Bool))
theorem d_ref14_samePapers_c {n : Nat} {a1 : GState} {a2 : GState} {r : Bool} (h0 : d_ref14_samePapers n a1 a2 = some r) : PP Tryz.prog 61 [.agg (GState.av a1), .agg (GState.av a2)] (fun y => y = boo r) := by
  unfold d_ref14_samePapers at h0
  refine pp_of_pc (R0 := fun y H => Cv (frzH H) y (boo r)) ?_ (fun y H hc => ⟨_, rfl, pvB r, hc⟩)
  refine pcw (c := _) Tryz.func61 rfl rfl ?_; intro Q hret hnorm
  refine tc tbk 2 (.mk ?_)
  refine sB 1 fun v3 => ?_
  refine sB 2 fun v4 => ?_
  refine tr tbk 4 (.mk ?_)
  refine jn h0 [2, 3, 4] [1, 2] (fun (a : Bool) (k : Unit) => [(32, boo a)]) (fun a k => []) ⟨fun j5 h1 => ?_, ?_⟩
  refine tc tbk 3 (.mk ?_)
  refine sY (yv_len_sl rfl Tryz.underlying27 rfl (lst_len _)) ?_
  refine tr tbk 2 (.mk ?_)
  refine sY (yv_len_sl rfl Tryz.underlying27 rfl (lst_len _)) ?_
  refine nb tbk h1 fun x6 h1 => ?_
  refine tr tbk 1 (.mk ?_)
  cases x6
  replace h1 := cf h1
  refine tr tbk 2 (.mk ?_)
  refine sY (yv_len_sl rfl Tryz.underlying28 rfl (lst_len _)) ?_
  refine tr tbk 2 (.mk ?_)
  refine sY (yv_len_sl rfl Tryz.underlying28 rfl (lst_len _)) ?_
  refine nb tbk h1 fun x7 h1 => ?_
  refine tr tbk 2 (.mk ?_)
  cases x7
  replace h1 := cf h1
  refine tr tbk 2 (.mk ?_)
  refine sY (yv_len_sl rfl Tryz.underlying29 rfl (lst_len _)) ?_
  refine tr tbk 2 (.mk ?_)
  refine sY (yv_len_sl rfl Tryz.underlying29 rfl (lst_len _)) ?_
  refine nb tbk h1 fun x8 h1 => ?_
  refine tr tbk 2 (.mk ?_)
  exact lf h1 () leA
  replace h1 := ct h1
  refine tr tbk 9 (.mk ?_)
  exact lf h1 () leA
  replace h1 := ct h1
  refine tr tbk 18 (.mk ?_)
  exact lf h1 () leA
  rintro y0_1 _ h0
  replace h0 := asrt_e h0
  obtain ⟨rfl, h0⟩ := h0
  refine tc tbk 7 (.mk ?_)
  refine jn h0 [2, 3, 4] [1, 2] (fun (a : Unit) (k : Unit) => []) (fun a k => []) ⟨fun j9 h1 => ?_, ?_⟩
  refine tc tbk 1 (.mk ?_)
  refine lp (fun n (a : Unit) => d_ref14_samePapers_L0 a1 n) () () h1 [2, 3, 4, 5] [1, 2] (fun (a : Unit) (k : Unit) => []) (fun a k => []) (fun _ => rfl) ⟨leA, ?_⟩
  rintro n _ _ hm h1
  replace h1 : d_ref14_samePapers_L0 a1 (n + 1) = some _ := h1
  rw [d_ref14_samePapers_L0] at h1
  refine tc tbk 6 (.mk ?_)
  refine sY (yv_len_sl rfl Tryz.underlying27 rfl (lst_len _)) ?_
  refine nb tbk h1 fun x10 h1 => ?_
  refine tr tbk 1 (.mk ?_)
  replace h1 := asrt_e h1
  obtain ⟨rfl, h1⟩ := h1
  refine tc tbk 2 (.mk ?_)
  exact lf h1 () leA
  rintro _ _ h0
  refine tc tbk 5 (.mk ?_)
  refine jn h0 [2, 3, 4] [1, 2] (fun (a : Unit) (k : Unit) => []) (fun a k => []) ⟨fun j11 h1 => ?_, ?_⟩
  refine tc tbk 1 (.mk ?_)
  refine lp (fun n (a : Unit) => d_ref14_samePapers_L1 a1 n) () () h1 [2, 3, 4, 6] [1, 2] (fun (a : Unit) (k : Unit) => []) (fun a k => []) (fun _ => rfl) ⟨leA, ?_⟩
  rintro n _ _ hm h1
  replace h1 : d_ref14_samePapers_L1 a1 (n + 1) = some _ := h1
  rw [d_ref14_samePapers_L1] at h1
  refine tc tbk 6 (.mk ?_)
  refine sY (yv_len_sl rfl Tryz.underlying28 rfl (lst_len _)) ?_
  refine nb tbk h1 fun x12 h1 => ?_
  refine tr tbk 1 (.mk ?_)
  replace h1 := asrt_e h1
  obtain ⟨rfl, h1⟩ := h1
  refine tc tbk 2 (.mk ?_)
  exact lf h1 () leA
  rintro _ _ h0
  refine tc tbk 5 (.mk ?_)
  refine jn h0 [4] [] (fun (a : Unit) (k : Unit) => []) (fun a k => []) ⟨fun j13 h1 => ?_, ?_⟩
  refine tc tbk 1 (.mk ?_)
  refine lp (fun n (a : Unit) => d_ref14_samePapers_L2 a1 n) () () h1 [2, 3, 4, 7] [1, 2] (fun (a : Unit) (k : Unit) => []) (fun a k => []) (fun _ => rfl) ⟨leA, ?_⟩
  rintro n _ _ hm h1
  replace h1 : d_ref14_samePapers_L2 a1 (n + 1) = some _ := h1
  rw [d_ref14_samePapers_L2] at h1
  refine tc tbk 6 (.mk ?_)
  refine sY (yv_len_sl rfl Tryz.underlying29 rfl (lst_len _)) ?_
  refine nb tbk h1 fun x14 h1 => ?_
  refine tr tbk 1 (.mk ?_)
  replace h1 := asrt_e h1
  obtain ⟨rfl, h1⟩ := h1
  refine tc tbk 2 (.mk ?_)
  exact lf h1 () leA
  rintro _ _ h0
  refine tc tbk 4 (.mk ?_)
  obtain rfl := nxt_e h0
  refine wR hret (rT .nil) ?_
  exact .refl _
def d_ref09_Same_L0 (a1 : List GLayer) : Nat → Option (Unit)
  | 0 => none
  | n + 1 =>
    bnd (decide (0 < (a1.length : Int))) fun x5 =>
    asrt (x5 = false) <|
    some ()
def d_ref09_Same (n : Nat) (a1 : List GLayer) (a2 : List GLayer) : Option (Bool) :=
bnd (decide ((a1.length : Int) ≠ (a2.length : Int))) fun x3 =>
asrt (x3 = false) <|
(show Option (Unit) from
d_ref09_Same_L0 a1 n).bind <| fun _ =>
some ((true : Bool))
theorem d_ref09_Same_c {n : Nat} {a1 : List GLayer} {a2 : List GLayer} {r : Bool} (h0 : d_ref09_Same n a1 a2 = some r) : PP Tryz.prog 172 [lst 3 GLayer.av a1, lst 3 GLayer.av a2] (fun y => y = boo r) := by
  unfold d_ref09_Same at h0
  refine pp_of_pc (R0 := fun y H => Cv (frzH H) y (boo r)) ?_ (fun y H hc => ⟨_, rfl, pvB r, hc⟩)
  refine pcw (c := _) Tryz.func172 rfl rfl ?_; intro Q hret hnorm
  refine tc tbk 8 (.mk ?_)
  refine sY (yv_len_sl rfl Tryz.underlying95 rfl (lst_len _)) ?_
  refine tr tbk 1 (.mk ?_)
  refine sY (yv_len_sl rfl Tryz.underlying95 rfl (lst_len _)) ?_
  refine nb tbk h0 fun x3 h0 => ?_
  refine tr tbk 1 (.mk ?_)
  replace h0 := asrt_e h0
  obtain ⟨rfl, h0⟩ := h0
  refine tc tbk 7 (.mk ?_)
  refine jn h0 [4] [] (fun (a : Unit) (k : Unit) => []) (fun a k => []) ⟨fun j4 h1 => ?_, ?_⟩
  refine tc tbk 1 (.mk ?_)
  refine lp (fun n (a : Unit) => d_ref09_Same_L0 a1 n) () () h1 [0, 1, 4, 5] [] (fun (a : Unit) (k : Unit) => []) (fun a k => []) (fun _ => rfl) ⟨leA, ?_⟩
  rintro n _ _ hm h1
  replace h1 : d_ref09_Same_L0 a1 (n + 1) = some _ := h1
  rw [d_ref09_Same_L0] at h1
  refine tc tbk 5 (.mk ?_)
  refine sY (yv_len_sl rfl Tryz.underlying95 rfl (lst_len _)) ?_
  refine nb tbk h1 fun x5 h1 => ?_
  refine tr tbk 1 (.mk ?_)
  replace h1 := asrt_e h1
  obtain ⟨rfl, h1⟩ := h1
  refine tc tbk 2 (.mk ?_)
  exact lf h1 () leA
  rintro _ _ h0
  refine tc tbk 4 (.mk ?_)
  obtain rfl := nxt_e h0
  refine wR hret (rT .nil) ?_
  exact .refl _
def d_ref11_Same (n : Nat) (a1 : GPool) (a2 : GPool) : Option (Bool) :=
(show Option (Bool) from
(d_ref09_Same n a1.Layers a2.Layers).bind fun x6 =>
cond x6 (bnd (decide (a1.Pend.a0 = a2.Pend.a0)) fun x7 =>
cond x7 (bnd (decide (a1.Pend.a1 = a2.Pend.a1)) fun x8 =>
cond x8 (bnd (decide (a1.Pend.a2 = a2.Pend.a2)) fun x9 =>
some (x9 : Bool)) (some (false : Bool))) (some (false : Bool))) (some (false : Bool))).bind <| fun y0_1 =>
some ((y0_1 : Bool))
theorem d_ref11_Same_c {n : Nat} {a1 : GPool} {a2 : GPool} {r : Bool} (h0 : d_ref11_Same n a1 a2 = some r) : PP Tryz.prog 107 [.agg (GPool.av a1), .agg (GPool.av a2)] (fun y => y = boo r) := by
  unfold d_ref11_Same at h0
  refine pp_of_pc (R0 := fun y H => Cv (frzH H) y (boo r)) ?_ (fun y H hc => ⟨_, rfl, pvB r, hc⟩)
  refine pcw (c := _) Tryz.func107 rfl rfl ?_; intro Q hret hnorm
  refine tc tbk 2 (.mk ?_)
  refine sB 1 fun v3 => ?_
  refine sB 2 fun v4 => ?_
  refine tr tbk 3 (.mk ?_)
  refine jn h0 [] [] (fun (a : Bool) (k : Unit) => [(4, boo a)]) (fun a k => []) ⟨fun j5 h1 => ?_, ?_⟩
  refine tc tbk 5 (.mk ?_)
  obtain ⟨x6, e6, h1⟩ := bind_e h1
  refine sC cal172 (d_ref09_Same_c e6) ?_
  refine tr tbk 1 (.mk ?_)
  cases x6
  replace h1 := cf h1
  refine tr tbk 28 (.mk ?_)
  exact lf h1 () leA
  replace h1 := ct h1
  refine tr tbk 1 (.mk ?_)
  refine sY (yv_to (y := .pt 1 v3 0 1) (yv_indexAddrA rfl Tryz.underlying96 sh3 rfl rfl rfl rfl rfl (by decide)) rfl) ?_
  refine tr tbk 2 (.mk ?_)
  refine sY (yv_to (y := .pt 2 v4 0 1) (yv_indexAddrA rfl Tryz.underlying96 sh3 rfl rfl rfl rfl rfl (by decide)) rfl) ?_
  refine tr tbk 1 (.mk ?_)
  refine nb tbk h1 fun x7 h1 => ?_
  refine tr tbk 2 (.mk ?_)
  cases x7
  replace h1 := cf h1
  refine tr tbk 19 (.mk ?_)
  exact lf h1 () leA
  replace h1 := ct h1
  refine tr tbk 1 (.mk ?_)
  refine sY (yv_to (y := .pt 1 v3 0 2) (yv_indexAddrA rfl Tryz.underlying96 sh3 rfl rfl rfl rfl rfl (by decide)) rfl) ?_
  refine tr tbk 2 (.mk ?_)
  refine sY (yv_to (y := .pt 2 v4 0 2) (yv_indexAddrA rfl Tryz.underlying96 sh3 rfl rfl rfl rfl rfl (by decide)) rfl) ?_
  refine tr tbk 1 (.mk ?_)
  refine nb tbk h1 fun x8 h1 => ?_
  refine tr tbk 2 (.mk ?_)
  cases x8
  replace h1 := cf h1
  refine tr tbk 10 (.mk ?_)
  exact lf h1 () leA
  replace h1 := ct h1
  refine tr tbk 1 (.mk ?_)
  refine sY (yv_to (y := .pt 1 v3 0 3) (yv_indexAddrA rfl Tryz.underlying96 sh3 rfl rfl rfl rfl rfl (by decide)) rfl) ?_
  refine tr tbk 2 (.mk ?_)
  refine sY (yv_to (y := .pt 2 v4 0 3) (yv_indexAddrA rfl Tryz.underlying96 sh3 rfl rfl rfl rfl rfl (by decide)) rfl) ?_
  refine tr tbk 1 (.mk ?_)
  refine nb tbk h1 fun x9 h1 => ?_
  refine tr tbk 3 (.mk ?_)
  exact lf h1 () leA
  rintro y0_1 _ h0
  obtain rfl := nxt_e h0
  refine wR hret (rT .nil) ?_
  exact .refl _
def d_ref14_Numbers (a1 : GRoll) : Option (A11_Int) :=
some (((⟨a1.Open, a1.Bought, a1.Landed, a1.Arrived, a1.Returned, a1.Sold, a1.Shipped, a1.SentBack, a1.Scrapped, a1.Lost, a1.Revalued⟩ : A11_Int) : A11_Int))
theorem d_ref14_Numbers_c {a1 : GRoll} {r : A11_Int} (h0 : d_ref14_Numbers a1 = some r) : PP Tryz.prog 108 [.agg (GRoll.av a1)] (fun y => y = .agg (A11_Int.av r)) := by
  unfold d_ref14_Numbers at h0
  refine pp_of_pc (R0 := fun y H => Cv (frzH H) y (.agg (A11_Int.av r))) ?_ (fun y H hc => ⟨_, rfl, (fun (a : A11_Int) => PV.agg (A11_Int.pvc a)) r, hc⟩)
  refine pcw (c := _) Tryz.func108 rfl rfl ?_; intro Q hret hnorm
  refine tc tbk 2 (.mk ?_)
  refine sB 1 fun v2 => ?_
  refine sA 2 z166 fun v3 => ?_
  refine tr tbk 25 (.mk ?_)
  refine sY (yv_buildA (cs := [int a1.Open, int a1.Bought, int a1.Landed, int a1.Arrived, int a1.Returned, int a1.Sold, int a1.Shipped, int a1.SentBack, int a1.Scrapped, int a1.Lost, int a1.Revalued]) (ps := [(0, _), (1, _), (2, _), (3, _), (4, _), (5, _), (6, _), (7, _), (8, _), (9, _), (10, _)]) rfl Tryz.underlying166 sh3 z166 rfl (.cons rfl (.cons rfl (.cons rfl (.cons rfl (.cons rfl (.cons rfl (.cons rfl (.cons rfl (.cons rfl (.cons rfl (.cons rfl .nil))))))))))) (by kernel_rfl)) ?_
  refine sS ⟨166, 11, true, true, v3, [[int a1.Open, int a1.Bought, int a1.Landed, int a1.Arrived, int a1.Returned, int a1.Sold, int a1.Shipped, int a1.SentBack, int a1.Scrapped, int a1.Lost, int a1.Revalued]]⟩ sh166 ?_
  refine tr tbk 1 (.mk ?_)
  obtain rfl := nxt_e h0
  refine wR hret (rC sh166 .nil) ?_
  exact .refl _
mutual
def d_ref14_sameEnt_L0 (a1 : GEnt) (a2 : GEnt) : Nat → Int → Option (Unit)
  | 0, _ => none
  | n + 1, y1_1 =>
    bnd (decide (y1_1 < (a1.Pools.length : Int))) fun x12 =>
    cond x12 ((ix a1.Pools y1_1).bind fun x13 =>
    (ix a2.Pools y1_1).bind fun x14 =>
    (d_ref11_Same n x13 x14).bind fun x15 =>
    bnd (!x15) fun x16 =>
    asrt (x16 = false) <|
    bnd (w64 (y1_1 + 1)) fun x17 =>
    d_ref14_sameEnt_L0 a1 a2 n (x17 : Int)) (some ())
def d_ref14_sameEnt_L1 (a1 : GEnt) (a2 : GEnt) : Nat → Int → Option (Unit)
  | 0, _ => none
  | n + 1, y3_1 =>
    bnd (decide (y3_1 < (a1.Rolls.length : Int))) fun x19 =>
    cond x19 ((ix a1.Rolls y3_1).bind fun x20 =>
    (d_ref14_Numbers x20).bind fun x21 =>
    (ix a2.Rolls y3_1).bind fun x22 =>
    (d_ref14_Numbers x22).bind fun x23 =>
    bnd (!decide ((x21 : A11_Int) = (x23 : A11_Int))) fun x24 =>
    asrt (x24 = false) <|
    bnd (w64 (y3_1 + 1)) fun x25 =>
    d_ref14_sameEnt_L1 a1 a2 n (x25 : Int)) (some ())
def d_ref14_sameEnt_L2 (a1 : GEnt) : Nat → Option (Unit)
  | 0 => none
  | n + 1 =>
    bnd (decide (0 < (a1.Ahead.length : Int))) fun x27 =>
    asrt (x27 = false) <|
    some ()
def d_ref14_sameEnt : Nat → GEnt → GEnt → Option (Bool)
  | 0, _, _ => none
  | n + 1, a1, a2 =>
    (show Option (Bool) from
    bnd (decide (a1.Now ≠ a2.Now)) fun x6 =>
    cond x6 (some (true : Bool)) (bnd (decide (a1.Closed ≠ a2.Closed)) fun x7 =>
    cond x7 (some (true : Bool)) (bnd (decide ((a1.Pools.length : Int) ≠ (a2.Pools.length : Int))) fun x8 =>
    cond x8 (some (true : Bool)) (bnd (decide ((a1.Rolls.length : Int) ≠ (a2.Rolls.length : Int))) fun x9 =>
    cond x9 (some (true : Bool)) (bnd (decide ((a1.Ahead.length : Int) ≠ (a2.Ahead.length : Int))) fun x10 =>
    some (x10 : Bool)))))).bind <| fun y0_1 =>
    asrt (y0_1 = false) <|
    (show Option (Unit) from
    d_ref14_sameEnt_L0 a1 a2 n (0 : Int)).bind <| fun _ =>
    (show Option (Unit) from
    d_ref14_sameEnt_L1 a1 a2 n (0 : Int)).bind <| fun _ =>
    (show Option (Unit) from
    d_ref14_sameEnt_L2 a1 n).bind <| fun _ =>
    (show Option (Bool) from
    (d_ref04_SameInts n a1.Bal a2.Bal).bind fun x29 =>
    cond x29 ((d_ref04_SameInts n a1.Prices a2.Prices).bind fun x30 =>
    cond x30 ((d_ref04_SameInts n a1.Down a2.Down).bind fun x31 =>
    some (x31 : Bool)) (some (false : Bool))) (some (false : Bool))).bind <| fun y7_1 =>
    some ((y7_1 : Bool))
end
theorem d_ref14_sameEnt_c {n : Nat} {a1 : GEnt} {a2 : GEnt} {r : Bool} (h0 : d_ref14_sameEnt n a1 a2 = some r) : PP Tryz.prog 62 [.agg [int a1.Now, boo a1.Closed, lst 4 GPool.av a1.Pools, lst 1 fI a1.Bal, lst 11 GRoll.av a1.Rolls, lst 1 fI a1.Prices, lst 1 fI a1.Down, lst 8 GEnt.av a1.Ahead], .agg [int a2.Now, boo a2.Closed, lst 4 GPool.av a2.Pools, lst 1 fI a2.Bal, lst 11 GRoll.av a2.Rolls, lst 1 fI a2.Prices, lst 1 fI a2.Down, lst 8 GEnt.av a2.Ahead]] (fun y => y = boo r) := by
  induction n using Nat.strongRecOn generalizing a1 a2 r with
  | ind n ih =>
    cases n with
    | zero => rw [d_ref14_sameEnt] at h0; cases h0
    | succ n =>
    have hN : n < n + 1 := Nat.lt_succ_self n
    rw [d_ref14_sameEnt] at h0
    refine pp_of_pc (R0 := fun y H => Cv (frzH H) y (boo r)) ?_ (fun y H hc => ⟨_, rfl, pvB r, hc⟩)
    refine pcw (c := _) Tryz.func62 rfl rfl ?_; intro Q hret hnorm
    refine tc tbk 2 (.mk ?_)
    refine sB 1 fun v3 => ?_
    refine sB 2 fun v4 => ?_
    refine tr tbk 4 (.mk ?_)
    refine jn h0 [2, 3, 4] [1, 2] (fun (a : Bool) (k : Unit) => [(46, boo a)]) (fun a k => []) ⟨fun j5 h1 => ?_, ?_⟩
    refine tc tbk 5 (.mk ?_)
    refine nb tbk h1 fun x6 h1 => ?_
    refine tr tbk 1 (.mk ?_)
    cases x6
    replace h1 := cf h1
    refine tr tbk 4 (.mk ?_)
    obtain ⟨x7, e7, h1⟩ := bnd_e h1
    refine sY (yv_to (y := boo x7) (yv_bneq rfl Tryz.underlying4 rfl rfl) (congrArg boo e7)) ?_
    refine tr tbk 2 (.mk ?_)
    cases x7
    replace h1 := cf h1
    refine tr tbk 2 (.mk ?_)
    refine sY (yv_len_sl rfl Tryz.underlying43 rfl (lst_len _)) ?_
    refine tr tbk 2 (.mk ?_)
    refine sY (yv_len_sl rfl Tryz.underlying43 rfl (lst_len _)) ?_
    refine nb tbk h1 fun x8 h1 => ?_
    refine tr tbk 2 (.mk ?_)
    cases x8
    replace h1 := cf h1
    refine tr tbk 2 (.mk ?_)
    refine sY (yv_len_sl rfl Tryz.underlying44 rfl (lst_len _)) ?_
    refine tr tbk 2 (.mk ?_)
    refine sY (yv_len_sl rfl Tryz.underlying44 rfl (lst_len _)) ?_
    refine nb tbk h1 fun x9 h1 => ?_
    refine tr tbk 2 (.mk ?_)
    cases x9
    replace h1 := cf h1
    refine tr tbk 2 (.mk ?_)
    refine sY (yv_len_sl rfl Tryz.underlying26 rfl (lst_len _)) ?_
    refine tr tbk 2 (.mk ?_)
    refine sY (yv_len_sl rfl Tryz.underlying26 rfl (lst_len _)) ?_
    refine nb tbk h1 fun x10 h1 => ?_
    refine tr tbk 2 (.mk ?_)
    exact lf h1 () leA
    replace h1 := ct h1
    refine tr tbk 9 (.mk ?_)
    exact lf h1 () leA
    replace h1 := ct h1
    refine tr tbk 18 (.mk ?_)
    exact lf h1 () leA
    replace h1 := ct h1
    refine tr tbk 27 (.mk ?_)
    exact lf h1 () leA
    replace h1 := ct h1
    refine tr tbk 34 (.mk ?_)
    exact lf h1 () leA
    rintro y0_1 _ h0
    replace h0 := asrt_e h0
    obtain ⟨rfl, h0⟩ := h0
    refine tc tbk 7 (.mk ?_)
    refine jn h0 [2, 3, 4] [1, 2] (fun (a : Unit) (k : Unit) => []) (fun a k => []) ⟨fun j11 h1 => ?_, ?_⟩
    refine tc tbk 1 (.mk ?_)
    refine lp (fun n (a : Int) => d_ref14_sameEnt_L0 a1 a2 n a) (0 : Int) () h1 [2, 3, 4] [1, 2] (fun (a : Int) (k : Unit) => [(5, int a)]) (fun a k => []) (fun _ => rfl) ⟨leA, ?_⟩
    rintro n y1_1 _ hm h1
    replace h1 : d_ref14_sameEnt_L0 a1 a2 (n + 1) y1_1 = some _ := h1
    replace hN := Nat.lt_trans (Nat.lt_of_succ_le hm) hN
    rw [d_ref14_sameEnt_L0] at h1
    refine tc tbk 6 (.mk ?_)
    refine sY (yv_len_sl rfl Tryz.underlying43 rfl (lst_len _)) ?_
    refine nb tbk h1 fun x12 h1 => ?_
    refine tr tbk 1 (.mk ?_)
    cases x12
    replace h1 := cf h1
    refine tc tbk 2 (.mk ?_)
    exact lf h1 () leA
    replace h1 := ct h1
    refine tc tbk 5 (.mk ?_)
    refine c_drawE [0, 1, 0, 7, 15, 0, 32, 0, 224, 480, 1023, 2047] (fun i => bif Nat.beq i 0 then ([1]) else bif Nat.beq i 1 then ([1]) else bif Nat.beq i 5 then ([2]) else bif Nat.beq i 6 then ([2]) else []) (fun i => [1, 2]) (fun i => true) [0, 1, 2, 3, 4, 5, 6, 7, 8, 9, 10, 11] mixed (by kernel_rfl) ?_; intro K hK
    refine de_pure rfl rfl rfl rfl (fun H hH => yv_fieldAddr rfl fo46_2 rfl (.pt ((hH _ (by decide)).trans rfl) rfl rfl) (.pt _ _ _ _ _)) ?_
    refine de_pure rfl rfl rfl rfl (fun H hH => yv_load rfl sh43 rfl (.pt ((hH _ (by decide)).trans rfl) rfl rfl) rfl) ?_
    refine de_pure rfl rfl rfl rfl (fun H hH => yv_move rfl rfl) ?_
    obtain ⟨x13, e13, h1⟩ := bind_e h1
    refine de_pure rfl rfl rfl rfl (fun H hH => yv_ixT rfl Tryz.underlying43 sh98 rfl rfl e13) ?_
    refine de_pure rfl rfl rfl rfl (fun H hH => yv_load rfl sh98 rfl (.pp _) rfl) ?_
    refine de_pure rfl rfl rfl rfl (fun H hH => yv_fieldAddr rfl fo46_2 rfl (.pt ((hH _ (by decide)).trans rfl) rfl rfl) (.pt _ _ _ _ _)) ?_
    refine de_pure rfl rfl rfl rfl (fun H hH => yv_load rfl sh43 rfl (.pt ((hH _ (by decide)).trans rfl) rfl rfl) rfl) ?_
    refine de_pure rfl rfl rfl rfl (fun H hH => yv_move rfl rfl) ?_
    obtain ⟨x14, e14, h1⟩ := bind_e h1
    refine de_pure rfl rfl rfl rfl (fun H hH => yv_ixT rfl Tryz.underlying43 sh98 rfl rfl e14) ?_
    refine de_pure rfl rfl rfl rfl (fun H hH => yv_load rfl sh98 rfl (.pp _) rfl) ?_
    obtain ⟨x15, e15, h1⟩ := bind_e h1
    refine de_pure rfl rfl rfl rfl (fun H hH => yv_callP rfl rfl (.cons rfl (.cons rfl .nil)) cal107 (CvL.refl _) (d_ref11_Same_c e15)) ?_
    obtain ⟨x16, e16, h1⟩ := bnd_e h1
    refine de_pure rfl rfl rfl rfl (fun H hH => yv_not rfl rfl e16) ?_
    refine de_nil (hK _ ?_)
    replace h1 := asrt_e h1
    obtain ⟨rfl, h1⟩ := h1
    refine tc tbk 5 (.mk ?_)
    refine ni tbk h1 fun x17 h1 => ?_
    refine tr tbk 2 (.mk ?_)
    exact bk x17 () h1 leA
    rintro _ _ h0
    refine tc tbk 5 (.mk ?_)
    refine jn h0 [2, 3, 4] [1, 2] (fun (a : Unit) (k : Unit) => []) (fun a k => []) ⟨fun j18 h1 => ?_, ?_⟩
    refine tc tbk 1 (.mk ?_)
    refine lp (fun n (a : Int) => d_ref14_sameEnt_L1 a1 a2 n a) (0 : Int) () h1 [2, 3, 4] [1, 2] (fun (a : Int) (k : Unit) => [(6, int a)]) (fun a k => []) (fun _ => rfl) ⟨leA, ?_⟩
    rintro n y3_1 _ hm h1
    replace h1 : d_ref14_sameEnt_L1 a1 a2 (n + 1) y3_1 = some _ := h1
    replace hN := Nat.lt_trans (Nat.lt_of_succ_le hm) hN
    rw [d_ref14_sameEnt_L1] at h1
    refine tc tbk 6 (.mk ?_)
    refine sY (yv_len_sl rfl Tryz.underlying44 rfl (lst_len _)) ?_
    refine nb tbk h1 fun x19 h1 => ?_
    refine tr tbk 1 (.mk ?_)
    cases x19
    replace h1 := cf h1
    refine tc tbk 2 (.mk ?_)
    exact lf h1 () leA
    replace h1 := ct h1
    refine tc tbk 5 (.mk ?_)
    refine c_drawE [0, 1, 0, 7, 15, 31, 0, 64, 0, 448, 960, 2047, 4095] (fun i => bif Nat.beq i 0 then ([1]) else bif Nat.beq i 1 then ([1]) else bif Nat.beq i 6 then ([2]) else bif Nat.beq i 7 then ([2]) else []) (fun i => [1, 2]) (fun i => true) [0, 1, 2, 3, 4, 5, 6, 7, 8, 9, 10, 11, 12] mixed (by kernel_rfl) ?_; intro K hK
    refine de_pure rfl rfl rfl rfl (fun H hH => yv_fieldAddr rfl fo46_4 rfl (.pt ((hH _ (by decide)).trans rfl) rfl rfl) (.pt _ _ _ _ _)) ?_
    refine de_pure rfl rfl rfl rfl (fun H hH => yv_load rfl sh44 rfl (.pt ((hH _ (by decide)).trans rfl) rfl rfl) rfl) ?_
    refine de_pure rfl rfl rfl rfl (fun H hH => yv_move rfl rfl) ?_
    obtain ⟨x20, e20, h1⟩ := bind_e h1
    refine de_pure rfl rfl rfl rfl (fun H hH => yv_ixT rfl Tryz.underlying44 sh55 rfl rfl e20) ?_
    refine de_pure rfl rfl rfl rfl (fun H hH => yv_load rfl sh55 rfl (.pp _) rfl) ?_
    obtain ⟨x21, e21, h1⟩ := bind_e h1
    refine de_pure rfl rfl rfl rfl (fun H hH => yv_callP rfl rfl (.cons rfl .nil) cal108 (CvL.refl _) (d_ref14_Numbers_c e21)) ?_
    refine de_pure rfl rfl rfl rfl (fun H hH => yv_fieldAddr rfl fo46_4 rfl (.pt ((hH _ (by decide)).trans rfl) rfl rfl) (.pt _ _ _ _ _)) ?_
    refine de_pure rfl rfl rfl rfl (fun H hH => yv_load rfl sh44 rfl (.pt ((hH _ (by decide)).trans rfl) rfl rfl) rfl) ?_
    refine de_pure rfl rfl rfl rfl (fun H hH => yv_move rfl rfl) ?_
    obtain ⟨x22, e22, h1⟩ := bind_e h1
    refine de_pure rfl rfl rfl rfl (fun H hH => yv_ixT rfl Tryz.underlying44 sh55 rfl rfl e22) ?_
    refine de_pure rfl rfl rfl rfl (fun H hH => yv_load rfl sh55 rfl (.pp _) rfl) ?_
    obtain ⟨x23, e23, h1⟩ := bind_e h1
    refine de_pure rfl rfl rfl rfl (fun H hH => yv_callP rfl rfl (.cons rfl .nil) cal108 (CvL.refl _) (d_ref14_Numbers_c e23)) ?_
    obtain ⟨x24, e24, h1⟩ := bnd_e h1
    refine de_pure rfl rfl rfl rfl (fun H hH => yv_arneq (r' := x24) rfl Tryz.underlying166 sz3 c3 (by decide) rfl rfl (.cons (.int Tryz.underlying3) sh3 (.cons (.int Tryz.underlying3) sh3 (.cons (.int Tryz.underlying3) sh3 (.cons (.int Tryz.underlying3) sh3 (.cons (.int Tryz.underlying3) sh3 (.cons (.int Tryz.underlying3) sh3 (.cons (.int Tryz.underlying3) sh3 (.cons (.int Tryz.underlying3) sh3 (.cons (.int Tryz.underlying3) sh3 (.cons (.int Tryz.underlying3) sh3 (.cons (.int Tryz.underlying3) sh3 (.nil _)))))))))))) ((congrArg Bool.not (A11_Int.eqv (x21 : A11_Int) (x23 : A11_Int))).trans e24)) ?_
    refine de_nil (hK _ ?_)
    replace h1 := asrt_e h1
    obtain ⟨rfl, h1⟩ := h1
    refine tc tbk 5 (.mk ?_)
    refine ni tbk h1 fun x25 h1 => ?_
    refine tr tbk 2 (.mk ?_)
    exact bk x25 () h1 leA
    rintro _ _ h0
    refine tc tbk 5 (.mk ?_)
    refine jn h0 [2, 3, 4] [1, 2] (fun (a : Unit) (k : Unit) => []) (fun a k => []) ⟨fun j26 h1 => ?_, ?_⟩
    refine tc tbk 1 (.mk ?_)
    refine lp (fun n (a : Unit) => d_ref14_sameEnt_L2 a1 n) () () h1 [2, 3, 4, 7] [1, 2] (fun (a : Unit) (k : Unit) => []) (fun a k => []) (fun _ => rfl) ⟨leA, ?_⟩
    rintro n _ _ hm h1
    replace h1 : d_ref14_sameEnt_L2 a1 (n + 1) = some _ := h1
    replace hN := Nat.lt_trans (Nat.lt_of_succ_le hm) hN
    rw [d_ref14_sameEnt_L2] at h1
    refine tc tbk 6 (.mk ?_)
    refine sY (yv_len_sl rfl Tryz.underlying26 rfl (lst_len _)) ?_
    refine nb tbk h1 fun x27 h1 => ?_
    refine tr tbk 1 (.mk ?_)
    replace h1 := asrt_e h1
    obtain ⟨rfl, h1⟩ := h1
    refine tc tbk 2 (.mk ?_)
    exact lf h1 () leA
    rintro _ _ h0
    refine tc tbk 1 (.mk ?_)
    refine jn h0 [] [] (fun (a : Bool) (k : Unit) => [(4, boo a)]) (fun a k => []) ⟨fun j28 h1 => ?_, ?_⟩
    refine tc tbk 5 (.mk ?_)
    obtain ⟨x29, e29, h1⟩ := bind_e h1
    refine sC cal105 (d_ref04_SameInts_c e29) ?_
    refine tr tbk 1 (.mk ?_)
    cases x29
    replace h1 := cf h1
    refine tr tbk 15 (.mk ?_)
    exact lf h1 () leA
    replace h1 := ct h1
    refine tr tbk 4 (.mk ?_)
    obtain ⟨x30, e30, h1⟩ := bind_e h1
    refine sC cal105 (d_ref04_SameInts_c e30) ?_
    refine tr tbk 2 (.mk ?_)
    cases x30
    replace h1 := cf h1
    refine tr tbk 8 (.mk ?_)
    exact lf h1 () leA
    replace h1 := ct h1
    refine tr tbk 4 (.mk ?_)
    obtain ⟨x31, e31, h1⟩ := bind_e h1
    refine sC cal105 (d_ref04_SameInts_c e31) ?_
    refine tr tbk 3 (.mk ?_)
    exact lf h1 () leA
    rintro y7_1 _ h0
    obtain rfl := nxt_e h0
    refine wR hret (rT .nil) ?_
    exact .refl _
def d_ref14_Same_L0 (a1 : GState) (a2 : GState) : Nat → Int → Option (Unit)
  | 0, _ => none
  | n + 1, y1_1 =>
    bnd (decide (y1_1 < (a1.Ents.length : Int))) fun x13 =>
    cond x13 ((ix a1.Ents y1_1).bind fun x14 =>
    (ix a2.Ents y1_1).bind fun x15 =>
    (d_ref14_sameEnt n x14 x15).bind fun x16 =>
    bnd (!x16) fun x17 =>
    asrt (x17 = false) <|
    bnd (w64 (y1_1 + 1)) fun x18 =>
    d_ref14_Same_L0 a1 a2 n (x18 : Int)) (some ())
def d_ref14_Same (n : Nat) (a1 : GState) (a2 : GState) : Option (Bool) :=
(show Option (Bool) from
(d_ref04_Same n a1.Master a2.Master).bind fun x6 =>
bnd (!x6) fun x7 =>
cond x7 (some (true : Bool)) (bnd (decide ((a1.Ents.length : Int) ≠ (a2.Ents.length : Int))) fun x8 =>
cond x8 (some (true : Bool)) (bnd (decide (a1.Done ≠ a2.Done)) fun x9 =>
cond x9 (some (true : Bool)) ((d_ref14_samePapers n a1 a2).bind fun x10 =>
bnd (!x10) fun x11 =>
some (x11 : Bool))))).bind <| fun y0_1 =>
asrt (y0_1 = false) <|
(show Option (Unit) from
d_ref14_Same_L0 a1 a2 n (0 : Int)).bind <| fun _ =>
some ((true : Bool))
theorem d_ref14_Same_c {n : Nat} {a1 : GState} {a2 : GState} {r : Bool} (h0 : d_ref14_Same n a1 a2 = some r) : PP Tryz.prog 29 [.agg (GState.av a1), .agg (GState.av a2)] (fun y => y = boo r) := by
  unfold d_ref14_Same at h0
  refine pp_of_pc (R0 := fun y H => Cv (frzH H) y (boo r)) ?_ (fun y H hc => ⟨_, rfl, pvB r, hc⟩)
  refine pcw (c := _) Tryz.func29 rfl rfl ?_; intro Q hret hnorm
  refine tc tbk 2 (.mk ?_)
  refine sB 1 fun v3 => ?_
  refine sB 2 fun v4 => ?_
  refine tr tbk 4 (.mk ?_)
  refine jn h0 [2, 3, 4] [1, 2] (fun (a : Bool) (k : Unit) => [(33, boo a)]) (fun a k => []) ⟨fun j5 h1 => ?_, ?_⟩
  refine tc tbk 5 (.mk ?_)
  obtain ⟨x6, e6, h1⟩ := bind_e h1
  refine sC cal60 (d_ref04_Same_c e6) ?_
  refine nb tbk h1 fun x7 h1 => ?_
  refine tr tbk 1 (.mk ?_)
  cases x7
  replace h1 := cf h1
  refine tr tbk 2 (.mk ?_)
  refine sY (yv_len_sl rfl Tryz.underlying26 rfl (lst_len _)) ?_
  refine tr tbk 2 (.mk ?_)
  refine sY (yv_len_sl rfl Tryz.underlying26 rfl (lst_len _)) ?_
  refine nb tbk h1 fun x8 h1 => ?_
  refine tr tbk 2 (.mk ?_)
  cases x8
  replace h1 := cf h1
  refine tr tbk 4 (.mk ?_)
  refine nb tbk h1 fun x9 h1 => ?_
  refine tr tbk 2 (.mk ?_)
  cases x9
  replace h1 := cf h1
  refine tr tbk 2 (.mk ?_)
  obtain ⟨x10, e10, h1⟩ := bind_e h1
  refine sC cal61 (d_ref14_samePapers_c e10) ?_
  refine nb tbk h1 fun x11 h1 => ?_
  refine tr tbk 2 (.mk ?_)
  exact lf h1 () leA
  replace h1 := ct h1
  refine tr tbk 6 (.mk ?_)
  exact lf h1 () leA
  replace h1 := ct h1
  refine tr tbk 13 (.mk ?_)
  exact lf h1 () leA
  replace h1 := ct h1
  refine tr tbk 22 (.mk ?_)
  exact lf h1 () leA
  rintro y0_1 _ h0
  replace h0 := asrt_e h0
  obtain ⟨rfl, h0⟩ := h0
  refine tc tbk 7 (.mk ?_)
  refine jn h0 [4] [] (fun (a : Unit) (k : Unit) => []) (fun a k => []) ⟨fun j12 h1 => ?_, ?_⟩
  refine tc tbk 1 (.mk ?_)
  refine lp (fun n (a : Int) => d_ref14_Same_L0 a1 a2 n a) (0 : Int) () h1 [2, 3, 4] [1, 2] (fun (a : Int) (k : Unit) => [(5, int a)]) (fun a k => []) (fun _ => rfl) ⟨leA, ?_⟩
  rintro n y1_1 _ hm h1
  replace h1 : d_ref14_Same_L0 a1 a2 (n + 1) y1_1 = some _ := h1
  rw [d_ref14_Same_L0] at h1
  refine tc tbk 6 (.mk ?_)
  refine sY (yv_len_sl rfl Tryz.underlying26 rfl (lst_len _)) ?_
  refine nb tbk h1 fun x13 h1 => ?_
  refine tr tbk 1 (.mk ?_)
  cases x13
  replace h1 := cf h1
  refine tc tbk 2 (.mk ?_)
  exact lf h1 () leA
  replace h1 := ct h1
  refine tc tbk 5 (.mk ?_)
  refine c_drawE [0, 1, 0, 7, 15, 0, 32, 0, 224, 480, 1023, 2047] (rl [(0, [1]), (1, [1]), (5, [2]), (6, [2])] []) (fun i => [1, 2]) (fun i => true) [0, 1, 2, 3, 4, 5, 6, 7, 8, 9, 10, 11] mixed (by kernel_rfl) ?_; intro K hK
  refine eF fo31_1 ?_
  refine eL sh26 ?_
  refine eM ?_
  obtain ⟨x14, e14, h1⟩ := bind_e h1
  refine eP (fun H hH => yv_to (y := .pp [int x14.Now, boo x14.Closed, lst 4 GPool.av x14.Pools, lst 1 fI x14.Bal, lst 11 GRoll.av x14.Rolls, lst 1 fI x14.Prices, lst 1 fI x14.Down, lst 8 GEnt.av x14.Ahead]) (yv_ixT rfl Tryz.underlying26 sh46 rfl rfl e14) (congrArg AV.pp (GEnt.av_eq x14))) ?_
  refine eP (fun H hH => yv_load rfl sh46 rfl (.pp _) rfl) ?_
  refine eF fo31_1 ?_
  refine eL sh26 ?_
  refine eM ?_
  obtain ⟨x15, e15, h1⟩ := bind_e h1
  refine eP (fun H hH => yv_to (y := .pp [int x15.Now, boo x15.Closed, lst 4 GPool.av x15.Pools, lst 1 fI x15.Bal, lst 11 GRoll.av x15.Rolls, lst 1 fI x15.Prices, lst 1 fI x15.Down, lst 8 GEnt.av x15.Ahead]) (yv_ixT rfl Tryz.underlying26 sh46 rfl rfl e15) (congrArg AV.pp (GEnt.av_eq x15))) ?_
  refine eP (fun H hH => yv_load rfl sh46 rfl (.pp _) rfl) ?_
  obtain ⟨x16, e16, h1⟩ := bind_e h1
  refine eP (fun H hH => yv_callP rfl rfl (.cons rfl (.cons rfl .nil)) cal62 (CvL.refl _) (d_ref14_sameEnt_c e16)) ?_
  obtain ⟨x17, e17, h1⟩ := bnd_e h1
  refine eP (fun H hH => yv_not rfl rfl e17) ?_
  refine de_nil (hK _ ?_)
  replace h1 := asrt_e h1
  obtain ⟨rfl, h1⟩ := h1
  refine tc tbk 5 (.mk ?_)
  refine ni tbk h1 fun x18 h1 => ?_
  refine tr tbk 2 (.mk ?_)
  exact bk x18 () h1 leA
  rintro _ _ h0
  refine tc tbk 4 (.mk ?_)
  obtain rfl := nxt_e h0
  refine wR hret (rT .nil) ?_
  exact .refl _
def d_law23_awake (n : Nat)  : Option (Bool) :=
(d_law00_Master n 6).bind fun x1 =>
(d_law00_State n x1 []).bind fun x2 =>
(d_close_Close n x2 0).bind fun x4 =>
(d_close_Close n x4.1 0).bind fun x6 =>
(d_close_Reopen n x4.1 0).bind fun x8 =>
(d_close_Next n x4.1 0).bind fun x10 =>
(d_close_Next n x8.1 0).bind fun x12 =>
(show Option (Bool) from
bnd (decide (x4.2 = 0)) fun x15 =>
cond x15 (bnd (decide (x6.2 = 7)) fun x16 =>
cond x16 (bnd (decide (x8.2 = 0)) fun x17 =>
cond x17 ((d_ref14_Same n x8.1 x2).bind fun x18 =>
cond x18 (bnd (decide (x10.2 = 0)) fun x19 =>
cond x19 (bnd (decide ((x10.1.Ents.length : Int) = 2)) fun x20 =>
cond x20 ((ix x10.1.Ents 0).bind fun x21 =>
bnd (decide (x21.Now = 2)) fun x22 =>
cond x22 ((ix x10.1.Ents 0).bind fun x23 =>
bnd (!x23.Closed) fun x24 =>
cond x24 (bnd (decide (x12.2 = 8)) fun x25 =>
some (x25 : Bool)) (some (false : Bool))) (some (false : Bool))) (some (false : Bool))) (some (false : Bool))) (some (false : Bool))) (some (false : Bool))) (some (false : Bool))) (some (false : Bool))).bind <| fun y0_1 =>
some ((y0_1 : Bool))
theorem d_law23_awake_c {n : Nat}  {r : Bool} (h0 : d_law23_awake n  = some r) : PP Tryz.prog 15 [] (fun y => y = boo r) := by
  unfold d_law23_awake at h0
  refine pp_of_pc (R0 := fun y H => Cv (frzH H) y (boo r)) ?_ (fun y H hc => ⟨_, rfl, pvB r, hc⟩)
  refine pcw (c := _) Tryz.func15 rfl rfl ?_; intro Q hret hnorm
  refine tc tbk 6 (.mk ?_)
  obtain ⟨x1, e1, h0⟩ := bind_e h0
  refine sC cal20 (d_law00_Master_c e1) ?_
  obtain ⟨x2, e2, h0⟩ := bind_e h0
  refine sY (yv_callP rfl rfl (.cons rfl (.cons rfl .nil)) cal7 (.cons (.refl _) (.cons (.nil _) .nil)) (d_law00_State_c e2)) ?_
  refine sA 1 z31 fun v3 => ?_
  refine sS ⟨31, 10, true, true, v3, [(GState.av x2)]⟩ sh31 ?_
  refine tr tbk 4 (.mk ?_)
  obtain ⟨x4, e4, h0⟩ := bind_e h0
  refine sC cal23 (d_close_Close_c e4) ?_
  refine tr tbk 3 (.mk ?_)
  refine sA 2 z31 fun v5 => ?_
  refine sS ⟨31, 10, true, true, v5, [(GState.av x4.1)]⟩ sh31 ?_
  refine tr tbk 5 (.mk ?_)
  obtain ⟨x6, e6, h0⟩ := bind_e h0
  refine sC cal23 (d_close_Close_c e6) ?_
  refine tr tbk 3 (.mk ?_)
  refine sA 3 z31 fun v7 => ?_
  refine sS ⟨31, 10, true, true, v7, [(GState.av x6.1)]⟩ sh31 ?_
  refine tr tbk 5 (.mk ?_)
  obtain ⟨x8, e8, h0⟩ := bind_e h0
  refine sC cal24 (d_close_Reopen_c e8) ?_
  refine tr tbk 3 (.mk ?_)
  refine sA 4 z31 fun v9 => ?_
  refine sS ⟨31, 10, true, true, v9, [(GState.av x8.1)]⟩ sh31 ?_
  refine tr tbk 5 (.mk ?_)
  obtain ⟨x10, e10, h0⟩ := bind_e h0
  refine sC cal25 (d_close_Next_c e10) ?_
  refine tr tbk 3 (.mk ?_)
  refine sA 5 z31 fun v11 => ?_
  refine sS ⟨31, 10, true, true, v11, [(GState.av x10.1)]⟩ sh31 ?_
  refine tr tbk 5 (.mk ?_)
  obtain ⟨x12, e12, h0⟩ := bind_e h0
  refine sC cal25 (d_close_Next_c e12) ?_
  refine tr tbk 3 (.mk ?_)
  refine sA 6 z31 fun v13 => ?_
  refine sS ⟨31, 10, true, true, v13, [(GState.av x12.1)]⟩ sh31 ?_
  refine tr tbk 3 (.mk ?_)
  refine jn h0 [] [] (fun (a : Bool) (k : Unit) => [(0, boo a)]) (fun a k => []) ⟨fun j14 h1 => ?_, ?_⟩
  refine tc tbk 2 (.mk ?_)
  refine nb tbk h1 fun x15 h1 => ?_
  refine tr tbk 1 (.mk ?_)
  cases x15
  replace h1 := cf h1
  refine tr tbk 44 (.mk ?_)
  exact lf h1 () leA
  replace h1 := ct h1
  refine tr tbk 1 (.mk ?_)
  refine nb tbk h1 fun x16 h1 => ?_
  refine tr tbk 2 (.mk ?_)
  cases x16
  replace h1 := cf h1
  refine tr tbk 40 (.mk ?_)
  exact lf h1 () leA
  replace h1 := ct h1
  refine tr tbk 1 (.mk ?_)
  refine nb tbk h1 fun x17 h1 => ?_
  refine tr tbk 2 (.mk ?_)
  cases x17
  replace h1 := cf h1
  refine tr tbk 36 (.mk ?_)
  exact lf h1 () leA
  replace h1 := ct h1
  refine tr tbk 2 (.mk ?_)
  obtain ⟨x18, e18, h1⟩ := bind_e h1
  refine sC cal29 (d_ref14_Same_c e18) ?_
  refine tr tbk 2 (.mk ?_)
  cases x18
  replace h1 := cf h1
  refine tr tbk 31 (.mk ?_)
  exact lf h1 () leA
  replace h1 := ct h1
  refine tr tbk 1 (.mk ?_)
  refine nb tbk h1 fun x19 h1 => ?_
  refine tr tbk 2 (.mk ?_)
  cases x19
  replace h1 := cf h1
  refine tr tbk 27 (.mk ?_)
  exact lf h1 () leA
  replace h1 := ct h1
  refine tr tbk 2 (.mk ?_)
  refine sY (yv_len_sl rfl Tryz.underlying26 rfl (lst_len _)) ?_
  refine nb tbk h1 fun x20 h1 => ?_
  refine tr tbk 2 (.mk ?_)
  cases x20
  replace h1 := cf h1
  refine tr tbk 21 (.mk ?_)
  exact lf h1 () leA
  replace h1 := ct h1
  refine tr tbk 2 (.mk ?_)
  obtain ⟨x21, e21, h1⟩ := bind_e h1
  refine sY (yv_to (y := .pp [int x21.Now, boo x21.Closed, lst 4 GPool.av x21.Pools, lst 1 fI x21.Bal, lst 11 GRoll.av x21.Rolls, lst 1 fI x21.Prices, lst 1 fI x21.Down, lst 8 GEnt.av x21.Ahead]) (yv_ixT rfl Tryz.underlying26 sh46 rfl rfl e21) (congrArg AV.pp (GEnt.av_eq x21))) ?_
  refine tr tbk 2 (.mk ?_)
  refine nb tbk h1 fun x22 h1 => ?_
  refine tr tbk 2 (.mk ?_)
  cases x22
  replace h1 := cf h1
  refine tr tbk 13 (.mk ?_)
  exact lf h1 () leA
  replace h1 := ct h1
  refine tr tbk 2 (.mk ?_)
  obtain ⟨x23, e23, h1⟩ := bind_e h1
  refine sY (yv_to (y := .pp [int x23.Now, boo x23.Closed, lst 4 GPool.av x23.Pools, lst 1 fI x23.Bal, lst 11 GRoll.av x23.Rolls, lst 1 fI x23.Prices, lst 1 fI x23.Down, lst 8 GEnt.av x23.Ahead]) (yv_ixT rfl Tryz.underlying26 sh46 rfl rfl e23) (congrArg AV.pp (GEnt.av_eq x23))) ?_
  refine tr tbk 2 (.mk ?_)
  refine nb tbk h1 fun x24 h1 => ?_
  refine tr tbk 2 (.mk ?_)
  cases x24
  replace h1 := cf h1
  refine tr tbk 5 (.mk ?_)
  exact lf h1 () leA
  replace h1 := ct h1
  refine tr tbk 1 (.mk ?_)
  refine nb tbk h1 fun x25 h1 => ?_
  refine tr tbk 3 (.mk ?_)
  exact lf h1 () leA
  rintro y0_1 _ h0
  obtain rfl := nxt_e h0
  refine wR hret (rT .nil) ?_
  exact .refl _
def d_law23_CloseWaits_L0 (a1 : List Int) (a2 : List Int) : Nat → Int → Int → Int → Int → GState → (List Int) → Option (Int × Int × Int × GState × (List Int))
  | 0, _, _, _, _, _, _ => none
  | n + 1, y0_1, y0_2, y0_3, y0_5, y0_6, y0_7 =>
    (show Option (Bool) from
    bnd (decide (y0_5 < (a1.length : Int))) fun x9 =>
    cond x9 (bnd (decide (y0_5 < 12)) fun x10 =>
    some (x10 : Bool)) (some (false : Bool))).bind <| fun y1_1 =>
    cond y1_1 ((show Option (Int × Int × Int × GState × (List Int)) from
    (ix a1 y0_5).bind fun x12 =>
    (d_law00_Place x12 20000).bind fun x13 =>
    bnd (x13.tmod 20) fun x14 =>
    bnd (w64 (1 + x14)) fun x15 =>
    bnd (w64 (x13.tdiv 20)) fun x16 =>
    (d_close_Step n y0_6 (⟨1, 0, 0, 0, 0, x15, x16, 0, []⟩ : GOp)).bind fun x17 =>
    bnd (decide (x17.2 ≠ 0)) fun x19 =>
    asrt (x19 = false) <|
    bnd (w64 (y0_1 + 1)) fun x20 =>
    bnd (x13.tmod 20) fun x21 =>
    bnd (w64 (x20 + x21)) fun x22 =>
    bnd (w64 (x13.tdiv 20)) fun x23 =>
    bnd (w64 (y0_2 + x23)) fun x24 =>
    bnd (decide (y0_5 < (a2.length : Int))) fun x25 =>
    cond x25 ((ix a2 y0_5).bind fun x26 =>
    (d_law00_Place x26 15).bind fun x27 =>
    bnd (w64 (1 + x27)) fun x28 =>
    (d_close_Step n x17.1 (⟨4, 0, 0, 0, 0, x28, 1, 0, []⟩ : GOp)).bind fun x29 =>
    bnd (decide (x29.2 = 0)) fun x31 =>
    bnd (w64 (x22 - y0_3)) fun x32 =>
    bnd (decide (x28 ≤ x32)) fun x33 =>
    bnd (decide (x31 ≠ x33)) fun x34 =>
    asrt (x34 = false) <|
    bnd (decide (x29.2 = 0)) fun x35 =>
    cond x35 (bnd (w64 (y0_3 + x28)) fun x36 =>
    bnd (y0_7 ++ ([x28] : List Int)) fun x37 =>
    asrt (x37.length ≤ 68719476736) <|
    some ((x22 : Int), (x24 : Int), (x36 : Int), (x29.1 : GState), (x37 : List Int))) (some ((x22 : Int), (x24 : Int), (y0_3 : Int), (x17.1 : GState), (y0_7 : List Int)))) (some ((x22 : Int), (x24 : Int), (y0_3 : Int), (x17.1 : GState), (y0_7 : List Int)))).bind <| p2 fun (y2_1 : Int) (q0 : Int × Int × GState × (List Int)) => (p2 fun (y2_2 : Int) (q1 : Int × GState × (List Int)) => (p2 fun (y2_3 : Int) (q2 : GState × (List Int)) => (p2 fun (y2_5 : GState) (y2_6 : List Int) =>
    bnd (w64 (y0_5 + 1)) fun x40 =>
    d_law23_CloseWaits_L0 a1 a2 n (y2_1 : Int) (y2_2 : Int) (y2_3 : Int) (x40 : Int) (y2_5 : GState) (y2_6 : List Int)) q2) q1) q0) (some ((y0_1 : Int), (y0_2 : Int), (y0_3 : Int), (y0_6 : GState), (y0_7 : List Int)))
def d_law23_CloseWaits_L1 (y3_6 : List Int) : Nat → Bool → Int → Option (Bool)
  | 0, _, _ => none
  | n + 1, y6_1, y6_2 =>
    bnd (decide (y6_2 < (y3_6.length : Int))) fun x54 =>
    cond x54 ((show Option (Bool) from
    (ix y3_6 y6_2).bind fun x56 =>
    bnd (decide (x56 < 0)) fun x57 =>
    cond x57 (some (true : Bool)) (bnd (decide (x56 > 288230376151711744)) fun x58 =>
    some (x58 : Bool))).bind <| fun y7_1 =>
    asrt (y7_1 = false) <|
    (show Option (Bool) from
    cond y6_1 (some (true : Bool)) ((ix y3_6 y6_2).bind fun x60 =>
    bnd (decide (x60 > 0)) fun x61 =>
    some (x61 : Bool))).bind <| fun y8_1 =>
    bnd (w64 (y6_2 + 1)) fun x62 =>
    d_law23_CloseWaits_L1 y3_6 n (y8_1 : Bool) (x62 : Int)) (some (y6_1 : Bool))
def d_law23_CloseWaits_L2 (y3_6 : List Int) (y5_1 : Int) (x67 : Int × Int) : Nat → Int → Int → (List Int) → (List Int) → Option (Int × (List Int) × (List Int))
  | 0, _, _, _, _ => none
  | n + 1, y11_3, y11_4, y11_5, y11_6 =>
    bnd (decide (y11_4 < (y3_6.length : Int))) fun x72 =>
    cond x72 ((ix y3_6 y11_4).bind fun x73 =>
    (d_ref01_MulDiv n y5_1 x73 x67.1).bind fun x74 =>
    bnd (y11_5 ++ ([x74.1] : List Int)) fun x75 =>
    asrt (x75.length ≤ 68719476736) <|
    bnd (y11_6 ++ ([x74.2.1] : List Int)) fun x78 =>
    asrt (x78.length ≤ 68719476736) <|
    bnd (w64 (y11_3 - x74.1)) fun x81 =>
    bnd (w64 (y11_4 + 1)) fun x82 =>
    d_law23_CloseWaits_L2 y3_6 y5_1 x67 n (x81 : Int) (x82 : Int) (x75 : List Int) (x78 : List Int)) (some ((y11_3 : Int), (y11_5 : List Int), (y11_6 : List Int)))
def d_law23_CloseWaits_L4 (y13_3 : List Int) : Nat → Int → Int → Option (Int)
  | 0, _, _ => none
  | n + 1, y14_1, y14_2 =>
    bnd (decide (y14_2 < (y13_3.length : Int))) fun x87 =>
    cond x87 ((show Option (Int) from
    (ix y13_3 y14_2).bind fun x89 =>
    (ix y13_3 y14_1).bind fun x90 =>
    bnd (decide (x89 > x90)) fun x91 =>
    cond x91 (some (y14_2 : Int)) (some (y14_1 : Int))).bind <| fun y15_1 =>
    bnd (w64 (y14_2 + 1)) fun x92 =>
    d_law23_CloseWaits_L4 y13_3 n (y15_1 : Int) (x92 : Int)) (some (y14_1 : Int))
def d_law23_CloseWaits_L3 : Nat → Int → (List Int) → (List Int) → Option ((List Int))
  | 0, _, _, _ => none
  | n + 1, y13_1, y13_2, y13_3 =>
    bnd (decide (y13_1 > 0)) fun x84 =>
    cond x84 ((show Option ((List Int) × (List Int)) from
    (show Option (Int) from
    d_law23_CloseWaits_L4 y13_3 n (0 : Int) (1 : Int)).bind <| fun y16_1 =>
    (ix y13_2 y16_1).bind fun x93 =>
    bnd (w64 (x93 + 1)) fun x94 =>
    bnd (y13_2.set (Int.toNat y16_1) (x94 : Int)) fun x95 =>
    (ix y13_3 y16_1).bind fun x96 =>
    bnd (y13_3.set (Int.toNat y16_1) ((-1) : Int)) fun x97 =>
    some ((x95 : List Int), (x97 : List Int))).bind <| p2 fun (y17_1 : List Int) (y17_2 : List Int) =>
    bnd (w64 (y13_1 - 1)) fun x98 =>
    d_law23_CloseWaits_L3 n (x98 : Int) (y17_1 : List Int) (y17_2 : List Int)) (some (y13_2 : List Int))
def d_law23_CloseWaits_L5 (y3_6 : List Int) (x41 : GState × Int) (y19_2 : List Int) : Nat → Int → Option (Unit)
  | 0, _ => none
  | n + 1, y21_1 =>
    bnd (decide (y21_1 < (y3_6.length : Int))) fun x100 =>
    cond x100 ((ix x41.1.Sales y21_1).bind fun x101 =>
    (ix y19_2 y21_1).bind fun x102 =>
    bnd (decide (x101.Cost ≠ x102)) fun x103 =>
    asrt (x103 = false) <|
    bnd (w64 (y21_1 + 1)) fun x104 =>
    d_law23_CloseWaits_L5 y3_6 x41 y19_2 n (x104 : Int)) (some ())
def d_law23_CloseWaits_L6 (y3_6 : List Int) : Nat → Option ((Unit) ⊕ (Bool))
  | 0 => none
  | n + 1 =>
    bnd (decide (0 < (y3_6.length : Int))) fun x121 =>
    cond x121 (esc (some ((false : Bool)))) (brk ())
def d_law23_CloseWaits (n : Nat) (a1 : List Int) (a2 : List Int) : Option (Bool) :=
(d_ref04_Start n (⟨1, 2, ([1] : List Int), ([([3] : List Int)] : List (List Int)), ([([0] : List Int)] : List (List Int))⟩ : GMaster)).bind fun x4 =>
(show Option (Int × Int × Int × GState × (List Int)) from
d_law23_CloseWaits_L0 a1 a2 n (0 : Int) (0 : Int) (0 : Int) (0 : Int) (x4.1 : GState) (([] : List Int) : List Int)).bind <| p2 fun (y3_1 : Int) (q0 : Int × Int × GState × (List Int)) => (p2 fun (y3_2 : Int) (q1 : Int × GState × (List Int)) => (p2 fun (y3_3 : Int) (q2 : GState × (List Int)) => (p2 fun (y3_5 : GState) (y3_6 : List Int) =>
(d_close_Step n y3_5 (⟨14, 0, 0, 0, 0, 0, 0, 0, []⟩ : GOp)).bind fun x41 =>
(show Option (Bool) from
bnd (decide (x41.2 ≠ 0)) fun x44 =>
cond x44 (some (true : Bool)) (bnd (decide ((x41.1.Ents.length : Int) ≠ 1)) fun x45 =>
cond x45 (some (true : Bool)) (bnd (decide ((x41.1.Sales.length : Int) ≠ (y3_6.length : Int))) fun x46 =>
some (x46 : Bool)))).bind <| fun y4_1 =>
asrt (y4_1 = false) <|
bnd (decide (y3_1 > 0)) fun x47 =>
(show Option (Int) from
cond x47 (bnd (w64 (y3_2 * y3_3)) fun x49 =>
asrt (y3_1 ≠ 0) <|
bnd (w64 (x49.tdiv y3_1)) fun x51 =>
some (x51 : Int)) (some (0 : Int))).bind <| fun y5_1 =>
(show Option (((List Int)) ⊕ (Unit)) from
(show Option (Bool) from
d_law23_CloseWaits_L1 y3_6 n (false : Bool) (0 : Int)).bind <| fun y9_1 =>
(show Option (Bool) from
bnd (decide (y5_1 < 0)) fun x64 =>
cond x64 (some (true : Bool)) (bnd (decide (y5_1 > 288230376151711744)) fun x65 =>
cond x65 (some (true : Bool)) (bnd (!y9_1) fun x66 =>
some (x66 : Bool)))).bind <| fun y10_1 =>
cond y10_1 (some (.inr ())) ((d_ref01_Sum n y3_6).bind fun x67 =>
bnd (decide (x67.2 ≠ 0)) fun x68 =>
asrt (x68 = false) <|
(show Option (Int × (List Int) × (List Int)) from
d_law23_CloseWaits_L2 y3_6 y5_1 x67 n (y5_1 : Int) (0 : Int) (([] : List Int) : List Int) (([] : List Int) : List Int)).bind <| p2 fun (y12_3 : Int) (q0 : (List Int) × (List Int)) => (p2 fun (y12_4 : List Int) (y12_5 : List Int) =>
(show Option ((List Int)) from
d_law23_CloseWaits_L3 n (y12_3 : Int) (y12_4 : List Int) (y12_5 : List Int)).bind <| fun y18_1 =>
some (.inl (y18_1 : List Int))) q0)).bind <| selr (fun y19_2 =>
(show Option (Unit) from
d_law23_CloseWaits_L5 y3_6 x41 y19_2 n (0 : Int)).bind <| fun _ =>
(show Option (Bool) from
(ix x41.1.Ents 0).bind fun x106 =>
(ix x106.Bal 5).bind fun x107 =>
bnd (decide (x107 = y5_1)) fun x108 =>
cond x108 ((ix x41.1.Ents 0).bind fun x109 =>
(ix x109.Bal 0).bind fun x110 =>
bnd (w64 (y3_2 - y5_1)) fun x111 =>
bnd (decide (x110 = x111)) fun x112 =>
cond x112 ((ix x41.1.Ents 0).bind fun x113 =>
(ix x113.Rolls 0).bind fun x114 =>
bnd (decide (x114.Sold = y5_1)) fun x115 =>
cond x115 ((d_ref14_Worth n x41.1 0 0).bind fun x116 =>
bnd (w64 (y3_1 - y3_3)) fun x117 =>
bnd (decide (x116.Qty = x117)) fun x118 =>
cond x118 ((d_law23_awake n).bind fun x119 =>
some (x119 : Bool)) (some (false : Bool))) (some (false : Bool))) (some (false : Bool))) (some (false : Bool))).bind <| fun y23_1 =>
some ((y23_1 : Bool))) <| fun _ =>
(show Option ((Unit) ⊕ (Bool)) from
d_law23_CloseWaits_L6 y3_6 n).bind <| sel <| fun _ =>
(show Option (Bool) from
(ix x41.1.Ents 0).bind fun x124 =>
(ix x124.Bal 5).bind fun x125 =>
bnd (decide (x125 = y5_1)) fun x126 =>
cond x126 ((ix x41.1.Ents 0).bind fun x127 =>
(ix x127.Bal 0).bind fun x128 =>
bnd (w64 (y3_2 - y5_1)) fun x129 =>
bnd (decide (x128 = x129)) fun x130 =>
cond x130 ((ix x41.1.Ents 0).bind fun x131 =>
(ix x131.Rolls 0).bind fun x132 =>
bnd (decide (x132.Sold = y5_1)) fun x133 =>
cond x133 ((d_ref14_Worth n x41.1 0 0).bind fun x134 =>
bnd (w64 (y3_1 - y3_3)) fun x135 =>
bnd (decide (x134.Qty = x135)) fun x136 =>
cond x136 ((d_law23_awake n).bind fun x137 =>
some (x137 : Bool)) (some (false : Bool))) (some (false : Bool))) (some (false : Bool))) (some (false : Bool))).bind <| fun y23_1 =>
some ((y23_1 : Bool))) q2) q1) q0
theorem d_law23_CloseWaits_c {n : Nat} {a1 : List Int} {a2 : List Int} {r : Bool} (h0 : d_law23_CloseWaits n a1 a2 = some r) : PP Tryz.prog 5 [lst 1 fI a1, lst 1 fI a2] (fun y => y = boo r) := by
  unfold d_law23_CloseWaits at h0
  refine pp_of_pc (R0 := fun y H => Cv (frzH H) y (boo r)) ?_ (fun y H hc => ⟨_, rfl, pvB r, hc⟩)
  refine pcw (c := _) Tryz.func5 rfl rfl ?_; intro Q hret hnorm
  refine tc tbk 6 (.mk ?_)
  refine sY (yv_to (y := lst 1 fI ([1] : List Int)) (yv_buildSlice (ps := [(0, _)]) (rows := [[int 1]]) rfl Tryz.underlying22 bz3 (.cons rfl .nil) (by kernel_rfl) rfl rfl rfl) rfl) ?_
  refine sY (yv_to (y := lst 1 fI ([3] : List Int)) (yv_buildSlice (ps := [(0, _)]) (rows := [[int 3]]) rfl Tryz.underlying22 bz3 (.cons rfl .nil) (by kernel_rfl) rfl rfl rfl) rfl) ?_
  refine sY (yv_to (y := lst 1 (fL 1 fI) ([([3] : List Int)] : List (List Int))) (yv_buildSlice (ps := [(0, _)]) (rows := [[lst 1 fI ([3] : List Int)]]) rfl Tryz.underlying23 bz22 (.cons rfl .nil) (by kernel_rfl) rfl rfl rfl) rfl) ?_
  refine sY (yv_to (y := lst 1 fI ([0] : List Int)) (yv_buildSlice (ps := [(0, _)]) (rows := [[int 0]]) rfl Tryz.underlying22 bz3 (.cons rfl .nil) (by kernel_rfl) rfl rfl rfl) rfl) ?_
  refine sY (yv_to (y := lst 1 (fL 1 fI) ([([0] : List Int)] : List (List Int))) (yv_buildSlice (ps := [(0, _)]) (rows := [[lst 1 fI ([0] : List Int)]]) rfl Tryz.underlying23 bz22 (.cons rfl .nil) (by kernel_rfl) rfl rfl rfl) rfl) ?_
  refine sY (yv_build (cs := [int 1, int 2, lst 1 fI ([1] : List Int), lst 1 (fL 1 fI) ([([3] : List Int)] : List (List Int)), lst 1 (fL 1 fI) ([([0] : List Int)] : List (List Int))]) (ps := [(0, _), (1, _), (2, _), (3, _), (4, _)]) rfl pl25 z25 rfl (.cons rfl (.cons rfl (.cons rfl (.cons rfl (.cons rfl .nil))))) (by kernel_rfl)) ?_
  refine sA 1 z25 fun v3 => ?_
  refine sS ⟨25, 5, true, true, v3, [[int 1, int 2, lst 1 fI ([1] : List Int), lst 1 (fL 1 fI) ([([3] : List Int)] : List (List Int)), lst 1 (fL 1 fI) ([([0] : List Int)] : List (List Int))]]⟩ sh25 ?_
  refine tr tbk 4 (.mk ?_)
  obtain ⟨x4, e4, h0⟩ := bind_e h0
  refine sC cal11 (d_ref04_Start_c e4) ?_
  refine tr tbk 3 (.mk ?_)
  refine sA 2 z31 fun v5 => ?_
  refine sS ⟨31, 10, true, true, v5, [(GState.av x4.1)]⟩ sh31 ?_
  refine tr tbk 17 (.mk ?_)
  refine jn h0 [4, 6] [] (fun (a : Int × Int × Int × GState × (List Int)) (k : Nat) => [(8, int a.1), (9, int a.2.1), (10, int a.2.2.1), (11, .sl 6 k 0 a.2.2.2.2.length)]) (fun a k => [(2, ⟨31, 10, true, true, v5, [(GState.av a.2.2.2.1)]⟩), (6, ⟨3, 1, true, true, k, a.2.2.2.2.map fI⟩)]) ⟨fun j6 h1 => ?_, ?_⟩
  refine tc tbk 1 (.mk ?_)
  refine c_nilobj 11 6 3 1 rfl rfl ?_; intro v7
  refine lp (fun n (a : Int × Int × Int × Int × GState × (List Int)) => d_law23_CloseWaits_L0 a1 a2 n a.1 a.2.1 a.2.2.1 a.2.2.2.1 a.2.2.2.2.1 a.2.2.2.2.2) ((0 : Int), (0 : Int), (0 : Int), (0 : Int), (x4.1 : GState), (([] : List Int) : List Int)) v7 h1 [0, 1, 4, 6] [] (fun (a : Int × Int × Int × Int × GState × (List Int)) (k : Nat) => [(8, int a.1), (9, int a.2.1), (10, int a.2.2.1), (11, .sl 6 k 0 a.2.2.2.2.2.length), (12, int a.2.2.2.1)]) (fun a k => [(2, ⟨31, 10, true, true, v5, [(GState.av a.2.2.2.2.1)]⟩), (6, ⟨3, 1, true, true, k, a.2.2.2.2.2.map fI⟩)]) (fun _ => rfl) ⟨leA, ?_⟩
  rintro n ⟨y0_1, y0_2, y0_3, y0_5, y0_6, y0_7⟩ w0_4 hm h1
  replace h1 : d_law23_CloseWaits_L0 a1 a2 (n + 1) y0_1 y0_2 y0_3 y0_5 y0_6 y0_7 = some _ := h1
  rw [d_law23_CloseWaits_L0] at h1
  refine tc tbk 2 (.mk ?_)
  refine jn h1 [0, 1, 4, 6, 8, 9, 10, 11, 12] [2, 6] (fun (a : Bool) (k : Unit) => [(43, boo a)]) (fun a k => []) ⟨fun j8 h2 => ?_, ?_⟩
  refine tc tbk 3 (.mk ?_)
  refine sY (yv_len_sl rfl Tryz.underlying22 rfl (lst_len _)) ?_
  refine nb tbk h2 fun x9 h2 => ?_
  refine tr tbk 1 (.mk ?_)
  cases x9
  replace h2 := cf h2
  refine tr tbk 4 (.mk ?_)
  exact lf h2 () leA
  replace h2 := ct h2
  refine tr tbk 1 (.mk ?_)
  refine nb tbk h2 fun x10 h2 => ?_
  refine tr tbk 2 (.mk ?_)
  exact lf h2 () leA
  rintro y1_1 _ h1
  cases y1_1
  replace h1 := cf h1
  refine tc tbk 2 (.mk ?_)
  exact lf h1 w0_4 leA
  replace h1 := ct h1
  refine tc tbk 3 (.mk ?_)
  refine jn h1 [0, 1, 4, 6, 12] [] (fun (a : Int × Int × Int × GState × (List Int)) (k : Nat) => [(8, int a.1), (9, int a.2.1), (10, int a.2.2.1), (11, .sl 6 k 0 a.2.2.2.2.length)]) (fun a k => [(2, ⟨31, 10, true, true, v5, [(GState.av a.2.2.2.1)]⟩), (6, ⟨3, 1, true, true, k, a.2.2.2.2.map fI⟩)]) ⟨fun j11 h2 => ?_, ?_⟩
  refine tc tbk 5 (.mk ?_)
  obtain ⟨x12, e12, h2⟩ := bind_e h2
  refine sY (yv_ixT rfl Tryz.underlying22 sh3 rfl rfl e12) ?_
  refine tr tbk 1 (.mk ?_)
  obtain ⟨x13, e13, h2⟩ := bind_e h2
  refine sC cal9 (d_law00_Place_c e13) ?_
  refine tr tbk 6 (.mk ?_)
  refine ni tbk h2 fun x14 h2 => ?_
  refine ni tbk h2 fun x15 h2 => ?_
  refine tr tbk 1 (.mk ?_)
  refine ni tbk h2 fun x16 h2 => ?_
  refine sY (yv_build (cs := [int 1, int 0, int 0, int 0, int 0, int x15, int x16, int 0, .sc (.slice none 0 0)]) (ps := [(0, _), (5, _), (6, _)]) rfl pl37 z37 rfl (.cons rfl (.cons rfl (.cons rfl .nil))) (by kernel_rfl)) ?_
  obtain ⟨x17, e17, h2⟩ := bind_e h2
  refine sY (yv_callP rfl rfl (.cons rfl (.cons rfl .nil)) cal12 (.cons (.refl _) (.cons (CvL.agg (.cons (.refl _) (.cons (.refl _) (.cons (.refl _) (.cons (.refl _) (.cons (.refl _) (.cons (.refl _) (.cons (.refl _) (.cons (.refl _) (.cons (.nil _) .nil)))))))))) .nil)) (d_close_Step_c e17)) ?_
  refine tr tbk 3 (.mk ?_)
  refine sA 3 z31 fun v18 => ?_
  refine sS ⟨31, 10, true, true, v18, [(GState.av x17.1)]⟩ sh31 ?_
  refine tr tbk 6 (.mk ?_)
  refine nb tbk h2 fun x19 h2 => ?_
  refine tr tbk 1 (.mk ?_)
  replace h2 := asrt_e h2
  obtain ⟨rfl, h2⟩ := h2
  refine tc tbk 6 (.mk ?_)
  refine ni tbk h2 fun x20 h2 => ?_
  refine tr tbk 1 (.mk ?_)
  refine ni tbk h2 fun x21 h2 => ?_
  refine ni tbk h2 fun x22 h2 => ?_
  refine tr tbk 2 (.mk ?_)
  refine ni tbk h2 fun x23 h2 => ?_
  refine ni tbk h2 fun x24 h2 => ?_
  refine sS ⟨31, 10, true, true, v5, [(GState.av x17.1)]⟩ sh31 ?_
  refine tr tbk 7 (.mk ?_)
  refine sY (yv_len_sl rfl Tryz.underlying22 rfl (lst_len _)) ?_
  refine nb tbk h2 fun x25 h2 => ?_
  refine tr tbk 1 (.mk ?_)
  cases x25
  replace h2 := cf h2
  refine tc tbk 3 (.mk ?_)
  exact lf h2 w0_4 leA
  replace h2 := ct h2
  refine tc tbk 5 (.mk ?_)
  obtain ⟨x26, e26, h2⟩ := bind_e h2
  refine sY (yv_ixT rfl Tryz.underlying22 sh3 rfl rfl e26) ?_
  refine tr tbk 1 (.mk ?_)
  obtain ⟨x27, e27, h2⟩ := bind_e h2
  refine sC cal9 (d_law00_Place_c e27) ?_
  refine ni tbk h2 fun x28 h2 => ?_
  refine tr tbk 6 (.mk ?_)
  refine sY (yv_build (cs := [int 4, int 0, int 0, int 0, int 0, int x28, int 1, int 0, .sc (.slice none 0 0)]) (ps := [(0, _), (5, _), (6, _)]) rfl pl37 z37 rfl (.cons rfl (.cons rfl (.cons rfl .nil))) (by kernel_rfl)) ?_
  obtain ⟨x29, e29, h2⟩ := bind_e h2
  refine sY (yv_callP rfl rfl (.cons rfl (.cons rfl .nil)) cal12 (.cons (.refl _) (.cons (CvL.agg (.cons (.refl _) (.cons (.refl _) (.cons (.refl _) (.cons (.refl _) (.cons (.refl _) (.cons (.refl _) (.cons (.refl _) (.cons (.refl _) (.cons (.nil _) .nil)))))))))) .nil)) (d_close_Step_c e29)) ?_
  refine tr tbk 3 (.mk ?_)
  refine sA 4 z31 fun v30 => ?_
  refine sS ⟨31, 10, true, true, v30, [(GState.av x29.1)]⟩ sh31 ?_
  refine tr tbk 6 (.mk ?_)
  refine nb tbk h2 fun x31 h2 => ?_
  refine tr tbk 3 (.mk ?_)
  refine ni tbk h2 fun x32 h2 => ?_
  refine nb tbk h2 fun x33 h2 => ?_
  obtain ⟨x34, e34, h2⟩ := bnd_e h2
  refine sY (yv_to (y := boo x34) (yv_bneq rfl Tryz.underlying4 rfl rfl) (congrArg boo e34)) ?_
  refine tr tbk 1 (.mk ?_)
  replace h2 := asrt_e h2
  obtain ⟨rfl, h2⟩ := h2
  refine tc tbk 5 (.mk ?_)
  refine nb tbk h2 fun x35 h2 => ?_
  refine tr tbk 1 (.mk ?_)
  cases x35
  replace h2 := cf h2
  refine tc tbk 3 (.mk ?_)
  exact lf h2 w0_4 leA
  replace h2 := ct h2
  refine tc tbk 1 (.mk ?_)
  refine c_drawE [0, 0, 0, 6, 0, 0, 32, 112, 241, 511, 1023] (rl [(0, [4])] []) (rl [(8, [])] [4]) (rl [(7, false), (8, false)] true) [0, 1, 2, 3, 4, 5, 6, 7, 8, 9, 10] mixed (by kernel_rfl) ?_; intro K hK
  refine eL sh31 ?_
  iterate 2 refine eM ?_
  obtain ⟨x36, e36, h2⟩ := bnd_e h2
  refine eP (fun H hH => yv_add rfl rfl rfl e36) ?_
  iterate 2 refine eM ?_
  refine eP (fun H hH => yv_to (y := lst 1 fI ([x28] : List Int)) (yv_buildSlice (ps := [(0, _)]) (rows := [[int x28]]) rfl Tryz.underlying22 bz3 (.cons rfl .nil) (by kernel_rfl) rfl rfl rfl) rfl) ?_
  obtain ⟨x37, e37, h2⟩ := bnd_e h2
  obtain ⟨p38, h2⟩ := asrt_e h2
  refine de_eff rfl rfl rfl rfl (yl_appT (g := fI) (l := y0_7) (m := ([x28] : List Int)) .any rfl Tryz.underlying22 bz3 by3 rfl rfl rfl rfl rfl rfl rfl rfl rfl rfl (Eq.symm rfl) (.refl _) (fun _ => rfl) e37 p38) (by rintro _ _ ⟨v39, -, rfl, rfl⟩; exact ⟨rfl, trivial⟩) ?_; rintro _ _ ⟨v39, -, rfl, rfl⟩
  refine de_eff0 rfl rfl rfl rfl (Yield.weak (yl_ob (ob' := (⟨31, 10, true, true, v5, [(GState.av x29.1)]⟩ : AObj)) (yl_store rfl sh31 rfl rfl rfl rfl rfl rfl rfl rfl rfl) rfl) (fun _ h => h) (fun _ _ => trivial)) (by rintro _ _ ⟨rfl, rfl⟩; exact trivial) ?_; rintro _ _ ⟨rfl, rfl⟩
  iterate 2 refine eA ?_
  refine de_nil (hK _ ?_)
  refine tc tbk 1 (.mk ?_)
  exact lf h2 v39 leA
  rintro ⟨y2_1, y2_2, y2_3, y2_5, y2_6⟩ w2_4 h1
  replace h1 := p2_e h1
  replace h1 := p2_e h1
  replace h1 := p2_e h1
  replace h1 := p2_e h1
  refine tc tbk 2 (.mk ?_)
  refine ni tbk h1 fun x40 h1 => ?_
  refine tr tbk 2 (.mk ?_)
  exact bk (y2_1, y2_2, y2_3, x40, y2_5, y2_6) w2_4 h1 leA
  rintro ⟨y3_1, y3_2, y3_3, y3_5, y3_6⟩ w3_4 h0
  replace h0 := p2_e h0
  replace h0 := p2_e h0
  replace h0 := p2_e h0
  replace h0 := p2_e h0
  refine tc tbk 3 (.mk ?_)
  refine sY (yv_build (cs := [int 14, int 0, int 0, int 0, int 0, int 0, int 0, int 0, .sc (.slice none 0 0)]) (ps := [(0, _)]) rfl pl37 z37 rfl (.cons rfl .nil) (by kernel_rfl)) ?_
  obtain ⟨x41, e41, h0⟩ := bind_e h0
  refine sY (yv_callP rfl rfl (.cons rfl (.cons rfl .nil)) cal12 (.cons (.refl _) (.cons (CvL.agg (.cons (.refl _) (.cons (.refl _) (.cons (.refl _) (.cons (.refl _) (.cons (.refl _) (.cons (.refl _) (.cons (.refl _) (.cons (.refl _) (.cons (.nil _) .nil)))))))))) .nil)) (d_close_Step_c e41)) ?_
  refine tr tbk 3 (.mk ?_)
  refine sA 7 z31 fun v42 => ?_
  refine sS ⟨31, 10, true, true, v42, [(GState.av x41.1)]⟩ sh31 ?_
  refine tr tbk 4 (.mk ?_)
  refine jn h0 [4, 8, 9, 10, 11, 19] [6, 7] (fun (a : Bool) (k : Unit) => [(130, boo a)]) (fun a k => []) ⟨fun j43 h1 => ?_, ?_⟩
  refine tc tbk 2 (.mk ?_)
  refine nb tbk h1 fun x44 h1 => ?_
  refine tr tbk 1 (.mk ?_)
  cases x44
  replace h1 := cf h1
  refine tr tbk 2 (.mk ?_)
  refine sY (yv_len_sl rfl Tryz.underlying26 rfl (lst_len _)) ?_
  refine nb tbk h1 fun x45 h1 => ?_
  refine tr tbk 2 (.mk ?_)
  cases x45
  replace h1 := cf h1
  refine tr tbk 2 (.mk ?_)
  refine sY (yv_len_sl rfl Tryz.underlying28 rfl (lst_len _)) ?_
  refine tr tbk 1 (.mk ?_)
  refine sY (yv_len_sl rfl Tryz.underlying22 rfl (.sl rfl rfl)) ?_
  refine nb tbk h1 fun x46 h1 => ?_
  refine tr tbk 2 (.mk ?_)
  exact lf h1 () leA
  replace h1 := ct h1
  refine tr tbk 8 (.mk ?_)
  exact lf h1 () leA
  replace h1 := ct h1
  refine tr tbk 14 (.mk ?_)
  exact lf h1 () leA
  rintro y4_1 _ h0
  replace h0 := asrt_e h0
  obtain ⟨rfl, h0⟩ := h0
  refine tc tbk 10 (.mk ?_)
  refine nb tbk h0 fun x47 h0 => ?_
  refine tr tbk 1 (.mk ?_)
  refine jn h0 [4, 8, 9, 10, 11, 19] [6, 7] (fun (a : Int) (k : Unit) => [(21, int a)]) (fun a k => []) ⟨fun j48 h1 => ?_, ?_⟩
  cases x47
  replace h1 := cf h1
  refine tc tbk 2 (.mk ?_)
  exact lf h1 () leA
  replace h1 := ct h1
  refine tc tbk 4 (.mk ?_)
  refine ni tbk h1 fun x49 h1 => ?_
  refine tr tbk 1 (.mk ?_)
  obtain ⟨p50, h1⟩ := asrt_e h1
  obtain ⟨x51, e51, h1⟩ := bnd_e h1
  refine sY (yv_quo rfl rfl rfl p50 e51) ?_
  refine tr tbk 2 (.mk ?_)
  exact lf h1 () leA
  rintro y5_1 _ h0
  refine tc tbk 4 (.mk ?_)
  obtain ⟨j52, h1, h0⟩ := bind_e h0
  refine rse (Out := fun y H' => (∃ (a : (List Int)) (k : Nat), (.inl a) = j52 ∧ y = .tup [.sl 10 k 0 a.length, int 0] ∧ H' = hk [(6, ⟨3, 1, true, true, w3_4, y3_6.map fI⟩), (7, ⟨31, 10, true, true, v42, [(GState.av x41.1)]⟩), (10, ⟨3, 1, true, true, k, a.map fI⟩)]) ∨ (∃ (a : Unit) (k : Unit), (.inr a) = j52 ∧ y = .tup [.sc (.slice none 0 0), int 1] ∧ H' = hk [(6, ⟨3, 1, true, true, w3_4, y3_6.map fI⟩), (7, ⟨31, 10, true, true, v42, [(GState.av x41.1)]⟩)])) rfl rfl rfl (yl_call rfl rfl (.cons rfl (.cons rfl .nil)) cal13 ?_) ?_
  refine pcw (c := _) Tryz.func13 rfl rfl ?_; intro Q hret hnorm
  refine tc tbk 14 (.mk ?_)
  refine jn h1 [0, 1, 4, 5] [6, 7] (fun (a : Bool) (k : Unit) => [(6, boo a)]) (fun a k => []) ⟨fun j53 h2 => ?_, ?_⟩
  refine tc tbk 1 (.mk ?_)
  refine lp (fun n (a : Bool × Int) => d_law23_CloseWaits_L1 y3_6 n a.1 a.2) ((false : Bool), (0 : Int)) () h2 [0, 1, 4, 5] [6, 7] (fun (a : Bool × Int) (k : Unit) => [(6, boo a.1), (7, int a.2)]) (fun a k => []) (fun _ => rfl) ⟨leA, ?_⟩
  rintro n ⟨y6_1, y6_2⟩ _ hm h2
  replace h2 : d_law23_CloseWaits_L1 y3_6 (n + 1) y6_1 y6_2 = some _ := h2
  rw [d_law23_CloseWaits_L1] at h2
  refine tc tbk 5 (.mk ?_)
  refine sY (yv_len_sl rfl Tryz.underlying22 rfl (.sl rfl rfl)) ?_
  refine nb tbk h2 fun x54 h2 => ?_
  refine tr tbk 1 (.mk ?_)
  cases x54
  replace h2 := cf h2
  refine tc tbk 2 (.mk ?_)
  exact lf h2 () leA
  replace h2 := ct h2
  refine tc tbk 6 (.mk ?_)
  refine jn h2 [0, 1, 4, 5, 6, 7] [6, 7] (fun (a : Bool) (k : Unit) => [(36, boo a)]) (fun a k => []) ⟨fun j55 h3 => ?_, ?_⟩
  refine tc tbk 3 (.mk ?_)
  obtain ⟨x56, e56, h3⟩ := bind_e h3
  refine sY (yv_ixO rfl Tryz.underlying22 sh3 rfl rfl rfl rfl rfl (Eq.symm rfl) (List.length_map _) e56) ?_
  refine sY (yv_load rfl sh3 rfl (.pt rfl rfl (ix_get e56)) rfl) ?_
  refine nb tbk h3 fun x57 h3 => ?_
  refine tr tbk 1 (.mk ?_)
  cases x57
  replace h3 := cf h3
  refine tr tbk 2 (.mk ?_)
  refine sY (yv_ixO rfl Tryz.underlying22 sh3 rfl rfl rfl rfl rfl (Eq.symm rfl) (List.length_map _) e56) ?_
  refine sY (yv_load rfl sh3 rfl (.pt rfl rfl (ix_get e56)) rfl) ?_
  refine nb tbk h3 fun x58 h3 => ?_
  refine tr tbk 2 (.mk ?_)
  exact lf h3 () leA
  replace h3 := ct h3
  refine tr tbk 7 (.mk ?_)
  exact lf h3 () leA
  rintro y7_1 _ h2
  replace h2 := asrt_e h2
  obtain ⟨rfl, h2⟩ := h2
  refine tc tbk 2 (.mk ?_)
  refine jn h2 [0, 1, 4, 5, 7] [6, 7] (fun (a : Bool) (k : Unit) => [(6, boo a)]) (fun a k => []) ⟨fun j59 h3 => ?_, ?_⟩
  refine tc tbk 3 (.mk ?_)
  cases y6_1
  replace h3 := cf h3
  refine tr tbk 2 (.mk ?_)
  obtain ⟨x60, e60, h3⟩ := bind_e h3
  refine sY (yv_ixO rfl Tryz.underlying22 sh3 rfl rfl rfl rfl rfl (Eq.symm rfl) (List.length_map _) e60) ?_
  refine sY (yv_load rfl sh3 rfl (.pt rfl rfl (ix_get e60)) rfl) ?_
  refine nb tbk h3 fun x61 h3 => ?_
  refine tr tbk 3 (.mk ?_)
  exact lf h3 () leA
  replace h3 := ct h3
  refine tr tbk 8 (.mk ?_)
  exact lf h3 () leA
  rintro y8_1 _ h2
  refine tc tbk 3 (.mk ?_)
  refine ni tbk h2 fun x62 h2 => ?_
  refine tr tbk 2 (.mk ?_)
  exact bk (y8_1, x62) () h2 leA
  rintro y9_1 _ h1
  refine tc tbk 2 (.mk ?_)
  refine jn h1 [0, 1, 4, 5] [6, 7] (fun (a : Bool) (k : Unit) => [(54, boo a)]) (fun a k => []) ⟨fun j63 h2 => ?_, ?_⟩
  refine tc tbk 2 (.mk ?_)
  refine nb tbk h2 fun x64 h2 => ?_
  refine tr tbk 1 (.mk ?_)
  cases x64
  replace h2 := cf h2
  refine tr tbk 1 (.mk ?_)
  refine nb tbk h2 fun x65 h2 => ?_
  refine tr tbk 2 (.mk ?_)
  cases x65
  replace h2 := cf h2
  refine tr tbk 1 (.mk ?_)
  refine nb tbk h2 fun x66 h2 => ?_
  refine tr tbk 2 (.mk ?_)
  exact lf h2 () leA
  replace h2 := ct h2
  refine tr tbk 4 (.mk ?_)
  exact lf h2 () leA
  replace h2 := ct h2
  refine tr tbk 8 (.mk ?_)
  exact lf h2 () leA
  rintro y10_1 _ h1
  cases y10_1
  replace h1 := cf h1
  refine tc tbk 5 (.mk ?_)
  obtain ⟨x67, e67, h1⟩ := bind_e h1
  refine sY (yv_callT (v := .tup [int x67.1, int x67.2]) rfl rfl (.cons rfl .nil) cal26 (.cons (cv_lst rfl rfl rfl rfl rfl (Eq.symm rfl)) .nil) (d_ref01_Sum_c e67) rfl) ?_
  refine tr tbk 10 (.mk ?_)
  refine nb tbk h1 fun x68 h1 => ?_
  refine tr tbk 1 (.mk ?_)
  replace h1 := asrt_e h1
  obtain ⟨rfl, h1⟩ := h1
  refine tc tbk 17 (.mk ?_)
  refine jn h1 [4, 5] [6, 7] (fun (a : Int × (List Int) × (List Int)) (k : Nat × Nat) => [(10, .sl 10 k.1 0 a.2.1.length), (11, .sl 11 k.2 0 a.2.2.length), (12, int a.1)]) (fun a k => [(10, ⟨3, 1, true, true, k.1, a.2.1.map fI⟩), (11, ⟨3, 1, true, true, k.2, a.2.2.map fI⟩)]) ⟨fun j69 h2 => ?_, ?_⟩
  refine tc tbk 1 (.mk ?_)
  refine c_nilobj 10 10 3 1 rfl rfl ?_; intro v70
  refine c_nilobj 11 11 3 1 rfl rfl ?_; intro v71
  refine lp (fun n (a : Int × Int × (List Int) × (List Int)) => d_law23_CloseWaits_L2 y3_6 y5_1 x67 n a.1 a.2.1 a.2.2.1 a.2.2.2) ((y5_1 : Int), (0 : Int), (([] : List Int) : List Int), (([] : List Int) : List Int)) (v70, v71) h2 [0, 1, 4, 5, 8] [6, 7] (fun (a : Int × Int × (List Int) × (List Int)) (k : Nat × Nat) => [(10, .sl 10 k.1 0 a.2.2.1.length), (11, .sl 11 k.2 0 a.2.2.2.length), (12, int a.1), (13, int a.2.1)]) (fun a k => [(10, ⟨3, 1, true, true, k.1, a.2.2.1.map fI⟩), (11, ⟨3, 1, true, true, k.2, a.2.2.2.map fI⟩)]) (fun _ => rfl) ⟨leA, ?_⟩
  rintro n ⟨y11_3, y11_4, y11_5, y11_6⟩ ⟨w11_1, w11_2⟩ hm h2
  replace h2 : d_law23_CloseWaits_L2 y3_6 y5_1 x67 (n + 1) y11_3 y11_4 y11_5 y11_6 = some _ := h2
  rw [d_law23_CloseWaits_L2] at h2
  refine tc tbk 5 (.mk ?_)
  refine sY (yv_len_sl rfl Tryz.underlying22 rfl (.sl rfl rfl)) ?_
  refine nb tbk h2 fun x72 h2 => ?_
  refine tr tbk 1 (.mk ?_)
  cases x72
  replace h2 := cf h2
  refine tc tbk 2 (.mk ?_)
  exact lf h2 (w11_1, w11_2) leA
  replace h2 := ct h2
  refine tc tbk 9 (.mk ?_)
  obtain ⟨x73, e73, h2⟩ := bind_e h2
  refine sY (yv_ixO rfl Tryz.underlying22 sh3 rfl rfl rfl rfl rfl (Eq.symm rfl) (List.length_map _) e73) ?_
  refine sY (yv_load rfl sh3 rfl (.pt rfl rfl (ix_get e73)) rfl) ?_
  refine tr tbk 1 (.mk ?_)
  obtain ⟨x74, e74, h2⟩ := bind_e h2
  refine sC cal27 (d_ref01_MulDiv_c e74) ?_
  refine tr tbk 11 (.mk ?_)
  refine sY (yv_to (y := lst 1 fI ([x74.1] : List Int)) (yv_buildSlice (ps := [(0, _)]) (rows := [[int x74.1]]) rfl Tryz.underlying22 bz3 (.cons rfl .nil) (by kernel_rfl) rfl rfl rfl) rfl) ?_
  obtain ⟨x75, e75, h2⟩ := bnd_e h2
  obtain ⟨p76, h2⟩ := asrt_e h2
  refine rse rfl rfl rfl (yl_appT (g := fI) (l := y11_5) (m := ([x74.1] : List Int)) .any rfl Tryz.underlying22 bz3 by3 rfl rfl rfl rfl rfl rfl rfl rfl rfl rfl (Eq.symm rfl) (.refl _) (fun _ => rfl) e75 p76) ?_; rintro _ _ ⟨v77, -, rfl, rfl⟩
  refine tr tbk 2 (.mk ?_)
  refine sY (yv_to (y := lst 1 fI ([x74.2.1] : List Int)) (yv_buildSlice (ps := [(0, _)]) (rows := [[int x74.2.1]]) rfl Tryz.underlying22 bz3 (.cons rfl .nil) (by kernel_rfl) rfl rfl rfl) rfl) ?_
  obtain ⟨x78, e78, h2⟩ := bnd_e h2
  obtain ⟨p79, h2⟩ := asrt_e h2
  refine rse rfl rfl rfl (yl_appT (g := fI) (l := y11_6) (m := ([x74.2.1] : List Int)) .any rfl Tryz.underlying22 bz3 by3 rfl rfl rfl rfl rfl rfl rfl rfl rfl rfl (Eq.symm rfl) (.refl _) (fun _ => rfl) e78 p79) ?_; rintro _ _ ⟨v80, -, rfl, rfl⟩
  refine tr tbk 2 (.mk ?_)
  refine ni tbk h2 fun x81 h2 => ?_
  refine tr tbk 7 (.mk ?_)
  refine ni tbk h2 fun x82 h2 => ?_
  refine tr tbk 2 (.mk ?_)
  exact bk (x81, x82, x75, x78) (v77, v80) h2 leA
  rintro ⟨y12_3, y12_4, y12_5⟩ ⟨w12_1, w12_2⟩ h1
  replace h1 := p2_e h1
  replace h1 := p2_e h1
  refine tc tbk 1 (.mk ?_)
  refine jn h1 [4, 5] [6, 7] (fun (a : (List Int)) (k : Unit) => [(10, .sl 10 w12_1 0 a.length)]) (fun a k => [(10, ⟨3, 1, true, true, w12_1, a.map fI⟩)]) ⟨fun j83 h2 => ?_, ?_⟩
  refine tc tbk 1 (.mk ?_)
  refine lp (fun n (a : Int × (List Int) × (List Int)) => d_law23_CloseWaits_L3 n a.1 a.2.1 a.2.2) ((y12_3 : Int), (y12_4 : List Int), (y12_5 : List Int)) () h2 [4, 5] [6, 7] (fun (a : Int × (List Int) × (List Int)) (k : Unit) => [(10, .sl 10 w12_1 0 a.2.1.length), (11, .sl 11 w12_2 0 a.2.2.length), (12, int a.1)]) (fun a k => [(10, ⟨3, 1, true, true, w12_1, a.2.1.map fI⟩), (11, ⟨3, 1, true, true, w12_2, a.2.2.map fI⟩)]) (fun _ => rfl) ⟨leA, ?_⟩
  rintro n ⟨y13_1, y13_2, y13_3⟩ _ hm h2
  replace h2 : d_law23_CloseWaits_L3 (n + 1) y13_1 y13_2 y13_3 = some _ := h2
  rw [d_law23_CloseWaits_L3] at h2
  refine tc tbk 4 (.mk ?_)
  refine nb tbk h2 fun x84 h2 => ?_
  refine tr tbk 1 (.mk ?_)
  cases x84
  replace h2 := cf h2
  refine tc tbk 2 (.mk ?_)
  exact lf h2 () leA
  replace h2 := ct h2
  refine tc tbk 3 (.mk ?_)
  refine jn h2 [4, 5, 12] [6, 7] (fun (a : (List Int) × (List Int)) (k : Unit) => [(10, .sl 10 w12_1 0 a.1.length), (11, .sl 11 w12_2 0 a.2.length)]) (fun a k => [(10, ⟨3, 1, true, true, w12_1, a.1.map fI⟩), (11, ⟨3, 1, true, true, w12_2, a.2.map fI⟩)]) ⟨fun j85 h3 => ?_, ?_⟩
  refine tc tbk 10 (.mk ?_)
  refine jn h3 [4, 5, 10, 11, 12] [6, 7, 10, 11] (fun (a : Int) (k : Unit) => [(17, int a)]) (fun a k => []) ⟨fun j86 h4 => ?_, ?_⟩
  refine tc tbk 1 (.mk ?_)
  refine lp (fun n (a : Int × Int) => d_law23_CloseWaits_L4 y13_3 n a.1 a.2) ((0 : Int), (1 : Int)) () h4 [4, 5, 10, 11, 12] [6, 7, 10, 11] (fun (a : Int × Int) (k : Unit) => [(17, int a.1), (18, int a.2)]) (fun a k => []) (fun _ => rfl) ⟨leA, ?_⟩
  rintro n ⟨y14_1, y14_2⟩ _ hm h4
  replace h4 : d_law23_CloseWaits_L4 y13_3 (n + 1) y14_1 y14_2 = some _ := h4
  rw [d_law23_CloseWaits_L4] at h4
  refine tc tbk 5 (.mk ?_)
  refine sY (yv_len_sl rfl Tryz.underlying22 rfl (.sl rfl rfl)) ?_
  refine nb tbk h4 fun x87 h4 => ?_
  refine tr tbk 1 (.mk ?_)
  cases x87
  replace h4 := cf h4
  refine tc tbk 2 (.mk ?_)
  exact lf h4 () leA
  replace h4 := ct h4
  refine tc tbk 3 (.mk ?_)
  refine jn h4 [4, 5, 10, 11, 12, 18] [6, 7, 10, 11] (fun (a : Int) (k : Unit) => [(17, int a)]) (fun a k => []) ⟨fun j88 h5 => ?_, ?_⟩
  refine tc tbk 2 (.mk ?_)
  refine c_drawE [0, 0, 3, 7, 0, 0, 48, 112, 255] (rl [(2, [11]), (3, [11]), (6, [11]), (7, [11])] []) (fun i => [11]) (fun i => true) [0, 1, 2, 3, 4, 5, 6, 7, 8] mixed (by kernel_rfl) ?_; intro K hK
  iterate 2 refine eM ?_
  obtain ⟨x89, e89, h5⟩ := bind_e h5
  refine de_pure rfl rfl rfl rfl (fun H hH => yv_ixO rfl Tryz.underlying22 sh3 rfl rfl ((hH _ (by decide)).trans rfl) rfl rfl (Eq.symm rfl) (List.length_map _) e89) ?_
  refine eL sh3 (hr := ix_get e89) ?_
  iterate 2 refine eM ?_
  obtain ⟨x90, e90, h5⟩ := bind_e h5
  refine de_pure rfl rfl rfl rfl (fun H hH => yv_ixO rfl Tryz.underlying22 sh3 rfl rfl ((hH _ (by decide)).trans rfl) rfl rfl (Eq.symm rfl) (List.length_map _) e90) ?_
  refine eL sh3 (hr := ix_get e90) ?_
  obtain ⟨x91, e91, h5⟩ := bnd_e h5
  refine eP (fun H hH => yv_to (y := boo x91) (yv_gtr rfl rfl rfl) (congrArg boo e91)) ?_
  refine de_nil (hK _ ?_)
  cases x91
  replace h5 := cf h5
  refine tc tbk 3 (.mk ?_)
  exact lf h5 () leA
  replace h5 := ct h5
  refine tc tbk 6 (.mk ?_)
  exact lf h5 () leA
  rintro y15_1 _ h4
  refine tc tbk 2 (.mk ?_)
  refine ni tbk h4 fun x92 h4 => ?_
  refine tr tbk 2 (.mk ?_)
  exact bk (y15_1, x92) () h4 leA
  rintro y16_1 _ h3
  refine tc tbk 4 (.mk ?_)
  obtain ⟨x93, e93, h3⟩ := bind_e h3
  refine sY (yv_ixO rfl Tryz.underlying22 sh3 rfl rfl rfl rfl rfl (Eq.symm rfl) (List.length_map _) e93) ?_
  refine sY (yv_load rfl sh3 rfl (.pt rfl rfl (ix_get e93)) rfl) ?_
  refine ni tbk h3 fun x94 h3 => ?_
  refine sY (yv_ixO rfl Tryz.underlying22 sh3 rfl rfl rfl rfl rfl (Eq.symm rfl) (List.length_map _) e93) ?_
  obtain ⟨x95, e95, h3⟩ := bnd_e h3
  have fx95 := ix_set e93 e95; have lx95 := len_setV e95 (rfl : y13_2.length = y13_2.length)
  refine rsstore rfl rfl (yl_ob (ob' := (⟨3, 1, true, true, w12_1, x95.map fI⟩ : AObj)) (yl_store rfl sh3 rfl rfl rfl rfl rfl (ix_get e93) rfl rfl rfl) (ob_eq (map_setV e95))) ?_
  refine tr tbk 4 (.mk ?_)
  obtain ⟨x96, e96, h3⟩ := bind_e h3
  refine sY (yv_ixO rfl Tryz.underlying22 sh3 rfl rfl rfl rfl rfl (Eq.symm rfl) (List.length_map _) e96) ?_
  obtain ⟨x97, e97, h3⟩ := bnd_e h3
  have fx97 := ix_set e96 e97; have lx97 := len_setV e97 (rfl : y13_3.length = y13_3.length)
  refine rsstore rfl rfl (yl_ob (ob' := (⟨3, 1, true, true, w12_2, x97.map fI⟩ : AObj)) (yl_store rfl sh3 rfl rfl rfl rfl rfl (ix_get e96) rfl rfl rfl) (ob_eq (map_setV e97))) ?_
  refine tr tbk 2 (.mk ?_)
  exact lf h3 () (leH_kn ⟨⟨_, rfl, (cv_slen (Eq.symm lx95))⟩, ⟨_, rfl, (cv_slen (Eq.symm lx97))⟩, ⟨_, rfl, (.refl _)⟩, ⟨_, rfl, (.refl _)⟩, ⟨_, rfl, (.refl _)⟩, trivial⟩ ⟨⟨_, rfl, (.refl _)⟩, ⟨_, rfl, (.refl _)⟩, ⟨_, rfl, (.refl _)⟩, ⟨_, rfl, (.refl _)⟩, trivial⟩)
  rintro ⟨y17_1, y17_2⟩ _ h2
  replace h2 := p2_e h2
  refine tc tbk 2 (.mk ?_)
  refine ni tbk h2 fun x98 h2 => ?_
  refine tr tbk 2 (.mk ?_)
  exact bk (x98, y17_1, y17_2) () h2 leA
  rintro y18_1 _ h1
  refine tc tbk 6 (.mk ?_)
  obtain rfl := nxt_e h1
  refine w_ret (hret _ _ (hk [(6, ⟨3, 1, true, true, w3_4, y3_6.map fI⟩), (7, ⟨31, 10, true, true, v42, [(GState.av x41.1)]⟩), (10, ⟨3, 1, true, true, w12_1, y18_1.map fI⟩)]) (.tmp rfl (.tmp rfl .nil)) (HK.le ⟨rfl, rfl, rfl, trivial⟩) ?_)
  exact (.inl ⟨y18_1, w12_1, rfl, rfl, rfl⟩)
  replace h1 := ct h1
  refine tc tbk 6 (.mk ?_)
  obtain rfl := nxt_e h1
  refine w_ret (hret _ _ (hk [(6, ⟨3, 1, true, true, w3_4, y3_6.map fI⟩), (7, ⟨31, 10, true, true, v42, [(GState.av x41.1)]⟩)]) (.tmp rfl (.tmp rfl .nil)) (HK.le ⟨rfl, rfl, trivial⟩) ?_)
  exact (.inr ⟨(), (), rfl, rfl, rfl⟩)
  rintro y _ (⟨y19_2, w19_1, rfl, hc, rfl⟩ | ⟨_, _, rfl, hc, rfl⟩)
  replace h0 := selr_l h0
  subst hc
  refine tr tbk 11 (.mk ?_)
  refine jn h0 [4, 8, 9, 10, 19, 21] [7] (fun (a : Unit) (k : Unit) => []) (fun a k => []) ⟨fun j99 h1 => ?_, ?_⟩
  refine tc tbk 1 (.mk ?_)
  refine lp (fun n (a : Int) => d_law23_CloseWaits_L5 y3_6 x41 y19_2 n a) (0 : Int) () h1 [4, 8, 9, 10, 11, 19, 21, 22, 23] [6, 7, 10] (fun (a : Int) (k : Unit) => [(24, int a)]) (fun a k => []) (fun _ => rfl) ⟨leA, ?_⟩
  rintro n y21_1 _ hm h1
  replace h1 : d_law23_CloseWaits_L5 y3_6 x41 y19_2 (n + 1) y21_1 = some _ := h1
  rw [d_law23_CloseWaits_L5] at h1
  refine tc tbk 5 (.mk ?_)
  refine sY (yv_len_sl rfl Tryz.underlying22 rfl (.sl rfl rfl)) ?_
  refine nb tbk h1 fun x100 h1 => ?_
  refine tr tbk 1 (.mk ?_)
  cases x100
  replace h1 := cf h1
  refine tc tbk 2 (.mk ?_)
  exact lf h1 () leA
  replace h1 := ct h1
  refine tc tbk 5 (.mk ?_)
  refine c_drawE [0, 1, 3, 7, 15, 7, 63, 127, 255, 7, 7, 1543, 3591, 8191, 16383] (rl [(3, [7]), (4, [7]), (11, [10]), (12, [10])] []) (fun i => [7, 10]) (fun i => true) [0, 1, 2, 3, 4, 5, 6, 7, 8, 9, 10, 11, 12, 13, 14] mixed (by kernel_rfl) ?_; intro K hK
  refine eM ?_
  refine de_pure rfl rfl rfl rfl (fun H hH => yv_to (y := boo false) (yv_neq rfl rfl rfl) (congrArg boo (by decide))) ?_
  refine eM ?_
  refine eF fo31_3 ?_
  refine eL sh28 ?_
  refine eM ?_
  obtain ⟨x101, e101, h1⟩ := bind_e h1
  refine eP (fun H hH => yv_ixT rfl Tryz.underlying28 sh53 rfl rfl e101) ?_
  refine eP (fun H hH => yv_fieldAddr rfl fo53_5 rfl (.pp _) (.pp _ _)) ?_
  refine eP (fun H hH => yv_load rfl sh3 rfl (.pp _) rfl) ?_
  iterate 2 refine eM ?_
  obtain ⟨x102, e102, h1⟩ := bind_e h1
  refine de_pure rfl rfl rfl rfl (fun H hH => yv_ixO rfl Tryz.underlying22 sh3 rfl rfl ((hH _ (by decide)).trans rfl) rfl rfl (Eq.symm rfl) (List.length_map _) e102) ?_
  refine eL sh3 (hr := ix_get e102) ?_
  obtain ⟨x103, e103, h1⟩ := bnd_e h1
  refine eP (fun H hH => yv_to (y := boo x103) (yv_neq rfl rfl rfl) (congrArg boo e103)) ?_
  refine eP (fun H hH => yv_pick rfl rfl (fun _ => rfl) (fun _ => rfl) rfl) ?_
  refine de_nil (hK _ ?_)
  replace h1 := asrt_e h1
  obtain ⟨rfl, h1⟩ := h1
  refine tc tbk 5 (.mk ?_)
  refine ni tbk h1 fun x104 h1 => ?_
  refine tr tbk 2 (.mk ?_)
  exact bk x104 () h1 leA
  rintro _ _ h0
  refine tc tbk 1 (.mk ?_)
  refine jn h0 [] [] (fun (a : Bool) (k : Unit) => [(4, boo a)]) (fun a k => []) ⟨fun j105 h1 => ?_, ?_⟩
  refine tc tbk 3 (.mk ?_)
  obtain ⟨x106, e106, h1⟩ := bind_e h1
  refine sY (yv_to (y := .pp [int x106.Now, boo x106.Closed, lst 4 GPool.av x106.Pools, lst 1 fI x106.Bal, lst 11 GRoll.av x106.Rolls, lst 1 fI x106.Prices, lst 1 fI x106.Down, lst 8 GEnt.av x106.Ahead]) (yv_ixT rfl Tryz.underlying26 sh46 rfl rfl e106) (congrArg AV.pp (GEnt.av_eq x106))) ?_
  refine tr tbk 2 (.mk ?_)
  obtain ⟨x107, e107, h1⟩ := bind_e h1
  refine sY (yv_ixT rfl Tryz.underlying22 sh3 rfl rfl e107) ?_
  refine tr tbk 2 (.mk ?_)
  refine nb tbk h1 fun x108 h1 => ?_
  refine tr tbk 1 (.mk ?_)
  cases x108
  replace h1 := cf h1
  refine tr tbk 38 (.mk ?_)
  exact lf h1 () leA
  replace h1 := ct h1
  refine tr tbk 2 (.mk ?_)
  obtain ⟨x109, e109, h1⟩ := bind_e h1
  refine sY (yv_to (y := .pp [int x109.Now, boo x109.Closed, lst 4 GPool.av x109.Pools, lst 1 fI x109.Bal, lst 11 GRoll.av x109.Rolls, lst 1 fI x109.Prices, lst 1 fI x109.Down, lst 8 GEnt.av x109.Ahead]) (yv_ixT rfl Tryz.underlying26 sh46 rfl rfl e109) (congrArg AV.pp (GEnt.av_eq x109))) ?_
  refine tr tbk 2 (.mk ?_)
  obtain ⟨x110, e110, h1⟩ := bind_e h1
  refine sY (yv_ixT rfl Tryz.underlying22 sh3 rfl rfl e110) ?_
  refine tr tbk 3 (.mk ?_)
  refine ni tbk h1 fun x111 h1 => ?_
  refine nb tbk h1 fun x112 h1 => ?_
  refine tr tbk 2 (.mk ?_)
  cases x112
  replace h1 := cf h1
  refine tr tbk 25 (.mk ?_)
  exact lf h1 () leA
  replace h1 := ct h1
  refine tr tbk 2 (.mk ?_)
  obtain ⟨x113, e113, h1⟩ := bind_e h1
  refine sY (yv_to (y := .pp [int x113.Now, boo x113.Closed, lst 4 GPool.av x113.Pools, lst 1 fI x113.Bal, lst 11 GRoll.av x113.Rolls, lst 1 fI x113.Prices, lst 1 fI x113.Down, lst 8 GEnt.av x113.Ahead]) (yv_ixT rfl Tryz.underlying26 sh46 rfl rfl e113) (congrArg AV.pp (GEnt.av_eq x113))) ?_
  refine tr tbk 2 (.mk ?_)
  obtain ⟨x114, e114, h1⟩ := bind_e h1
  refine sY (yv_ixT rfl Tryz.underlying44 sh55 rfl rfl e114) ?_
  refine tr tbk 3 (.mk ?_)
  refine nb tbk h1 fun x115 h1 => ?_
  refine tr tbk 2 (.mk ?_)
  cases x115
  replace h1 := cf h1
  refine tr tbk 13 (.mk ?_)
  exact lf h1 () leA
  replace h1 := ct h1
  refine tr tbk 1 (.mk ?_)
  obtain ⟨x116, e116, h1⟩ := bind_e h1
  refine sC cal14 (d_ref14_Worth_c e116) ?_
  refine tr tbk 3 (.mk ?_)
  refine ni tbk h1 fun x117 h1 => ?_
  refine nb tbk h1 fun x118 h1 => ?_
  refine tr tbk 2 (.mk ?_)
  cases x118
  replace h1 := cf h1
  refine tr tbk 4 (.mk ?_)
  exact lf h1 () leA
  replace h1 := ct h1
  obtain ⟨x119, e119, h1⟩ := bind_e h1
  refine sC cal15 (d_law23_awake_c e119) ?_
  refine tr tbk 3 (.mk ?_)
  exact lf h1 () leA
  rintro y23_1 _ h0
  obtain rfl := nxt_e h0
  refine wR hret (rT .nil) ?_
  exact .refl _
  replace h0 := selr_r h0
  subst hc
  refine tr tbk 11 (.mk ?_)
  refine jnE h0 [4, 8, 9, 10, 19, 21] [7] (fun (a : Unit) (k : Unit) => []) (fun a k => []) ⟨fun j120 h1 h0 => ?_, ?_⟩
  refine tc tbk 1 (.mk ?_)
  refine lp (fun n (a : Unit) => d_law23_CloseWaits_L6 y3_6 n) () () h1 [4, 8, 9, 10, 11, 19, 21, 22, 23, 24] [6, 7] (fun (a : Unit) (k : Unit) => []) (fun a k => []) (fun _ => rfl) ⟨leA, ?_⟩
  rintro n _ _ hm h1
  replace h1 : d_law23_CloseWaits_L6 y3_6 (n + 1) = some _ := h1
  rw [d_law23_CloseWaits_L6] at h1
  refine tc tbk 5 (.mk ?_)
  refine sY (yv_len_sl rfl Tryz.underlying22 rfl (.sl rfl rfl)) ?_
  refine nb tbk h1 fun x121 h1 => ?_
  refine tr tbk 1 (.mk ?_)
  cases x121
  replace h1 := cf h1
  refine tc tbk 2 (.mk ?_)
  exact lfE h1 () leA
  replace h1 := ct h1
  refine tc tbk 5 (.mk ?_)
  refine c_drawE [0, 1, 3, 7, 15, 7, 63, 127, 255, 7, 7, 1543, 3591, 8191, 16383] (fun i => []) (fun i => []) (fun i => true) [0, 1, 2, 3, 4, 5, 6, 7, 8, 9, 10, 11, 12, 13, 14] mixed (by kernel_rfl) ?_; intro K hK
  refine eM ?_
  refine de_pure rfl rfl rfl rfl (fun H hH => yv_to (y := boo true) (yv_neq rfl rfl rfl) (congrArg boo (by decide))) ?_
  refine eM ?_
  refine de_skip rfl rfl rfl ?_
  refine de_skip rfl rfl rfl ?_
  refine de_skip rfl rfl rfl ?_
  refine de_skip rfl rfl rfl ?_
  refine de_skip rfl rfl rfl ?_
  refine de_skip rfl rfl rfl ?_
  refine de_skip rfl rfl rfl ?_
  refine de_skip rfl rfl rfl ?_
  refine de_skip rfl rfl rfl ?_
  refine de_skip rfl rfl rfl ?_
  refine de_skip rfl rfl rfl ?_
  refine eP (fun H hH => yv_pick rfl rfl (fun _ => rfl) (fun _ => rfl) rfl) ?_
  refine de_nil (hK _ ?_)
  refine tc tbk 5 (.mk ?_)
  obtain ⟨c122, hX, hj⟩ := esc_e h1; subst hj; replace h0 := hX.trans (sel_r h0)
  obtain rfl := nxt_e h0
  refine wR hret (rT .nil) ?_
  exact .refl _
  rintro _ _ h0
  refine tc tbk 1 (.mk ?_)
  refine jn h0 [] [] (fun (a : Bool) (k : Unit) => [(4, boo a)]) (fun a k => []) ⟨fun j123 h1 => ?_, ?_⟩
  refine tc tbk 3 (.mk ?_)
  obtain ⟨x124, e124, h1⟩ := bind_e h1
  refine sY (yv_to (y := .pp [int x124.Now, boo x124.Closed, lst 4 GPool.av x124.Pools, lst 1 fI x124.Bal, lst 11 GRoll.av x124.Rolls, lst 1 fI x124.Prices, lst 1 fI x124.Down, lst 8 GEnt.av x124.Ahead]) (yv_ixT rfl Tryz.underlying26 sh46 rfl rfl e124) (congrArg AV.pp (GEnt.av_eq x124))) ?_
  refine tr tbk 2 (.mk ?_)
  obtain ⟨x125, e125, h1⟩ := bind_e h1
  refine sY (yv_ixT rfl Tryz.underlying22 sh3 rfl rfl e125) ?_
  refine tr tbk 2 (.mk ?_)
  refine nb tbk h1 fun x126 h1 => ?_
  refine tr tbk 1 (.mk ?_)
  cases x126
  replace h1 := cf h1
  refine tr tbk 38 (.mk ?_)
  exact lf h1 () leA
  replace h1 := ct h1
  refine tr tbk 2 (.mk ?_)
  obtain ⟨x127, e127, h1⟩ := bind_e h1
  refine sY (yv_to (y := .pp [int x127.Now, boo x127.Closed, lst 4 GPool.av x127.Pools, lst 1 fI x127.Bal, lst 11 GRoll.av x127.Rolls, lst 1 fI x127.Prices, lst 1 fI x127.Down, lst 8 GEnt.av x127.Ahead]) (yv_ixT rfl Tryz.underlying26 sh46 rfl rfl e127) (congrArg AV.pp (GEnt.av_eq x127))) ?_
  refine tr tbk 2 (.mk ?_)
  obtain ⟨x128, e128, h1⟩ := bind_e h1
  refine sY (yv_ixT rfl Tryz.underlying22 sh3 rfl rfl e128) ?_
  refine tr tbk 3 (.mk ?_)
  refine ni tbk h1 fun x129 h1 => ?_
  refine nb tbk h1 fun x130 h1 => ?_
  refine tr tbk 2 (.mk ?_)
  cases x130
  replace h1 := cf h1
  refine tr tbk 25 (.mk ?_)
  exact lf h1 () leA
  replace h1 := ct h1
  refine tr tbk 2 (.mk ?_)
  obtain ⟨x131, e131, h1⟩ := bind_e h1
  refine sY (yv_to (y := .pp [int x131.Now, boo x131.Closed, lst 4 GPool.av x131.Pools, lst 1 fI x131.Bal, lst 11 GRoll.av x131.Rolls, lst 1 fI x131.Prices, lst 1 fI x131.Down, lst 8 GEnt.av x131.Ahead]) (yv_ixT rfl Tryz.underlying26 sh46 rfl rfl e131) (congrArg AV.pp (GEnt.av_eq x131))) ?_
  refine tr tbk 2 (.mk ?_)
  obtain ⟨x132, e132, h1⟩ := bind_e h1
  refine sY (yv_ixT rfl Tryz.underlying44 sh55 rfl rfl e132) ?_
  refine tr tbk 3 (.mk ?_)
  refine nb tbk h1 fun x133 h1 => ?_
  refine tr tbk 2 (.mk ?_)
  cases x133
  replace h1 := cf h1
  refine tr tbk 13 (.mk ?_)
  exact lf h1 () leA
  replace h1 := ct h1
  refine tr tbk 1 (.mk ?_)
  obtain ⟨x134, e134, h1⟩ := bind_e h1
  refine sC cal14 (d_ref14_Worth_c e134) ?_
  refine tr tbk 3 (.mk ?_)
  refine ni tbk h1 fun x135 h1 => ?_
  refine nb tbk h1 fun x136 h1 => ?_
  refine tr tbk 2 (.mk ?_)
  cases x136
  replace h1 := cf h1
  refine tr tbk 4 (.mk ?_)
  exact lf h1 () leA
  replace h1 := ct h1
  obtain ⟨x137, e137, h1⟩ := bind_e h1
  refine sC cal15 (d_law23_awake_c e137) ?_
  refine tr tbk 3 (.mk ?_)
  exact lf h1 () leA
  rintro y23_1 _ h0
  obtain rfl := nxt_e h0
  refine wR hret (rT .nil) ?_
  exact .refl _
end Go.Pv
