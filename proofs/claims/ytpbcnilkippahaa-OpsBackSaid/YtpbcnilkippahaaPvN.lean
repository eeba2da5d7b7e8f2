import Derived.Test.YtpbcnilkippahaaPvL
set_option linter.unusedSimpArgs false
set_option linter.unusedVariables false
namespace Go.Pv
@[reducible] def lst {α : Type} (sz : Nat) (f : α → List AV) (l : List α) : AV := .list sz (l.map f)
theorem lst_ix {α : Type} {S : AS} {sz : Nat} {f : α → List AV} {l : List α} {j : Nat} (h : j < l.length) : IAd S sz (lst sz f l) j (.pp (f l[j])) :=
  .list (by rw [List.getElem?_map, List.getElem?_eq_getElem h]; rfl)
theorem lst_len {α : Type} {S : AS} {sz : Nat} {f : α → List AV} (l : List α) : SlLen S (lst sz f l) l.length := by
  have := SlLen.list (S := S) sz (l.map f)
  rwa [List.length_map] at this
theorem yv_ixl {α : Type} {P : Program} {S : AS} {o : Oper} {T e : TypeId} {x y : Operand} {sz : Nat} {b : Bool} {f : α → List AV} {l : List α} {k : IntKind} {i : Int} {j : Nat} (ho : o.op = .indexAddr T x y) (hT : P.underlying T = some (.slice e)) (he : tySh P e = some (sz, b))
    (hx : S.ev x = some (lst sz f l)) (hy : S.ev y = some (.sc (.int k i))) (hi : i = (j : Int)) (h : j < l.length) {cs : List AV} (hc : f l[j] = cs) : YieldV P o S (.pp cs) := by subst hc; exact yv_indexAddr ho hT he hx hy hi (lst_ix h)
theorem cv_lst {α : Type} {H : AH} {id ver len sz : Nat} {ob : AObj} {f : α → List AV} {l : List α} (ho : H id = some ob) (hver : ob.ver = ver) (hmt : ob.mt = false) (hsz : ob.sz = sz) (hr : ob.rows = l.map f) (hl : len = l.length) : Cv H (.sl id ver 0 len) (lst sz f l) := by
  have := Cv.sl (rows := l.map f) (off := 0) (len := len) ho hver hmt (by rw [hr]; exact CvLL.refl _) (by rw [List.length_map]; omega)
  rw [hsz] at this
  have e : ((l.map f).drop 0).take len = l.map f := by rw [List.drop_zero, hl, List.take_of_length_le (by rw [List.length_map]; exact Nat.le_refl _)]
  rw [e] at this; exact this
theorem pv_lst {α : Type} {sz : Nat} {f : α → List AV} (l : List α) (h : ∀ a ∈ l, ∀ x ∈ f a, PV x) : PV (lst sz f l) := .list fun r hr x hx => by
  obtain ⟨a, ha, rfl⟩ := List.mem_map.1 hr
  exact h a ha x hx
theorem upd_at {α : Type} {f : Nat → Option α} {i j : Nat} {v x : Option α} (h : j ≠ i) (e : f j = x) : upd f i v j = x := (upd_ne _ _ h).trans e
@[reducible] def int (n : Int) : AV := .sc (.int .i64 n)
@[reducible] def boo (b : Bool) : AV := .sc (.bool b)
@[reducible] def str (l : List UInt8) : AV := .sc (.string (bs l))
@[reducible] def ints (l : List Int) : AV := lst 1 (fun n => [int n]) l
theorem wrapu64 {a : Int} (h : 0 ≤ a ∧ a ≤ 18446744073709551615) : IntKind.u64.wrap a = a := by
  simp only [IntKind.wrap, IntKind.bits, IntKind.signed]; simp; omega
theorem wrapu8 {a : Int} (h : 0 ≤ a ∧ a ≤ 255) : IntKind.u8.wrap a = a := IntWalk.u8_in a h
end Go.Pv
set_option linter.unusedSimpArgs false
set_option linter.unusedVariables false
namespace Go.Pv
def rd : List UInt8 → Nat → Nat → Option (Nat × List UInt8)
  | [], _, _ => none
  | c :: r, i, u =>
    if 9 < i ∨ (i = 9 ∧ 1 < c.toNat) then none
    else if 128 ≤ c.toNat then rd r (i + 1) (u + c.toNat % 128 * 2 ^ (7 * i))
    else if c.toNat = 0 ∧ 0 < i then none
    else some (u + c.toNat % 128 * 2 ^ (7 * i), r)
def unzz (u : Nat) : Int := if u % 2 = 0 then ((u / 2 : Nat) : Int) else -((u / 2 : Nat) : Int) - 1
def zz (v : Int) : Nat := if v < 0 then (-(2 * v) - 1).toNat else (2 * v).toNat
abbrev RS := List UInt8 × Bool
def numV (s : RS) : Int := match rd s.1 0 0 with | some (u, _) => unzz u | none => 0
def numR (s : RS) : RS := match rd s.1 0 0 with | some (_, r) => (r, s.2) | none => ([], true)
def okS (s : RS) : Prop := s.2 = true → s.1 = []
theorem okS_num {s : RS} (h : okS s) : okS (numR s) := by
  unfold numR
  split
  · rename_i u r hr
    intro hb
    have := h hb
    rw [this] at hr
    simp [rd] at hr
  · intro _; rfl
theorem rd_short : ∀ (l : List UInt8) (i u : Nat) (v : Nat) (r : List UInt8), rd l i u = some (v, r) → r.length < l.length
  | [], _, _, _, _, h => by simp [rd] at h
  | c :: l, i, u, v, r, h => by
    simp only [rd] at h
    split at h
    · cases h
    · split at h
      · have := rd_short l _ _ v r h; simp; omega
      · split at h
        · cases h
        · cases h; simp
theorem numR_len (s : RS) : (numR s).1.length ≤ s.1.length := by
  unfold numR
  split
  · rename_i u r hr; have := rd_short _ _ _ _ _ hr; simp; omega
  · simp
def cntV (s : RS) (most : Int) : Int := if numV s < 0 ∨ most < numV s then 0 else numV s
def cntR (s : RS) (most : Int) : RS := if numV s < 0 ∨ most < numV s then ([], true) else numR s
theorem okS_cnt {s : RS} (h : okS s) (most : Int) : okS (cntR s most) := by
  unfold cntR; split
  · intro _; rfl
  · exact okS_num h
theorem cntR_len (s : RS) (most : Int) : (cntR s most).1.length ≤ s.1.length := by
  unfold cntR; split
  · simp
  · exact numR_len s
theorem cntV_nonneg (s : RS) (most : Int) : 0 ≤ cntV s most := by unfold cntV; split <;> omega
theorem cntV_le (s : RS) (most : Int) (h : 0 ≤ most) : cntV s most ≤ most := by unfold cntV; split <;> omega
def nums : Nat → RS → List Int × RS
  | 0, s => ([], s)
  | n + 1, s => let (l, t) := nums n s; (l ++ [numV t], numR t)
theorem nums_len : ∀ (n : Nat) (s : RS), (nums n s).1.length = n
  | 0, _ => rfl
  | n + 1, s => by simp only [nums, List.length_append, nums_len n s]; rfl
theorem okS_nums {s : RS} (h : okS s) : ∀ n, okS (nums n s).2
  | 0 => h
  | n + 1 => okS_num (okS_nums h n)
theorem numR_stays {s : RS} (h : okS s) (hb : s.2 = true) : numR s = ([], true) ∧ numV s = 0 := by
  have := h hb
  unfold numR numV
  rw [this]; simp [rd]
theorem nums_stays {s : RS} (h : okS s) {k : Nat} (hb : (nums k s).2.2 = true) : ∀ n, k ≤ n → (nums n s).2.2 = true := by
  intro n hn
  induction n with
  | zero => have : k = 0 := by omega
            subst this; exact hb
  | succ n ih =>
    by_cases hk : k = n + 1
    · subst hk; exact hb
    · have := ih (by omega)
      show (numR (nums n s).2).2 = true
      rw [(numR_stays (okS_nums h n) this).1]
theorem nums_used : ∀ (k : Nat) (s : RS), okS s → (nums k s).2.2 = false → (nums k s).2.1.length + k ≤ s.1.length
  | 0, s, _, _ => Nat.le_refl _
  | k + 1, s, hs, hb => by
    have hk : (nums k s).2.2 = false := by
      cases h : (nums k s).2.2 with
      | false => rfl
      | true => rw [nums_stays hs h (k + 1) (by omega)] at hb; cases hb
    have ih := nums_used k s hs hk
    have hd : (numR (nums k s).2).1.length + 1 ≤ (nums k s).2.1.length := by
      have hb' : (numR (nums k s).2).2 = false := hb
      unfold numR at hb' ⊢
      cases hr : rd (nums k s).2.1 0 0 with
      | none => rw [hr] at hb'; cases hb'
      | some p => have := rd_short _ _ _ _ _ hr; simp only; omega
    show (numR (nums k s).2).1.length + (k + 1) ≤ _
    omega
theorem nums_bad {s : RS} (h : okS s) {k n : Nat} (hb : (nums k s).2.2 = true) (hn : k ≤ n) : (nums n s).2 = ([], true) := by
  have h1 := nums_stays h hb n hn
  have h2 := okS_nums h n h1
  cases hx : (nums n s).2 with
  | mk a b => rw [hx] at h1 h2; simp at h1 h2; rw [h1, h2]
def lstV (s : RS) (most : Int) : List Int := if (nums (cntV s most).toNat (cntR s most)).2.2 then [] else (nums (cntV s most).toNat (cntR s most)).1
def lstR (s : RS) (most : Int) : RS := (nums (cntV s most).toNat (cntR s most)).2
theorem okS_lst {s : RS} (h : okS s) (most : Int) : okS (lstR s most) := okS_nums (okS_cnt h most) _
theorem nums_short : ∀ (n : Nat) (s : RS), (nums n s).2.1.length ≤ s.1.length
  | 0, _ => Nat.le_refl _
  | n + 1, s => Nat.le_trans (numR_len _) (nums_short n s)
theorem lstR_len (s : RS) (most : Int) : (lstR s most).1.length ≤ s.1.length := Nat.le_trans (nums_short _ _) (cntR_len _ _)
theorem or_u64 {a b : Nat} (ha : a < 2 ^ 64) (hb : b < 2 ^ 64) : IntKind.u64.wrap ((BitVec.ofInt IntKind.u64.bits (a : Int) ||| BitVec.ofInt IntKind.u64.bits (b : Int)).toNat : Int) = ((a ||| b : Nat) : Int) := by
  have e : (BitVec.ofInt IntKind.u64.bits (a : Int) ||| BitVec.ofInt IntKind.u64.bits (b : Int)).toNat = a ||| b := by
    show (BitVec.ofInt 64 (a : Int) ||| BitVec.ofInt 64 (b : Int)).toNat = _
    rw [BitVec.toNat_or, BitVec.toNat_ofInt, BitVec.toNat_ofInt]
    congr 1 <;> omega
  rw [e]
  have := Nat.or_lt_two_pow ha hb
  exact wrapu64 (by omega)
theorem or_shift {u a k : Nat} (h : u < 2 ^ k) : u ||| (a * 2 ^ k) = u + a * 2 ^ k := by
  have := Nat.shiftLeft_add_eq_or_of_lt h a
  rw [Nat.shiftLeft_eq] at this
  rw [Nat.or_comm, ← this]; omega
theorem and_u64 {a b : Nat} (ha : a < 2 ^ 64) (hb : b < 2 ^ 64) : IntKind.u64.wrap ((BitVec.ofInt IntKind.u64.bits (a : Int) &&& BitVec.ofInt IntKind.u64.bits (b : Int)).toNat : Int) = ((a &&& b : Nat) : Int) := by
  have e : (BitVec.ofInt IntKind.u64.bits (a : Int) &&& BitVec.ofInt IntKind.u64.bits (b : Int)).toNat = a &&& b := by
    show (BitVec.ofInt 64 (a : Int) &&& BitVec.ofInt 64 (b : Int)).toNat = _
    rw [BitVec.toNat_and, BitVec.toNat_ofInt, BitVec.toNat_ofInt]
    congr 1 <;> omega
  rw [e]
  have : a &&& b ≤ a := Nat.and_le_left
  exact wrapu64 (by omega)
theorem and_one_u64' {u : Nat} (h : u < 2 ^ 64) : IntKind.u64.wrap ((BitVec.ofInt IntKind.u64.bits (u : Int) &&& BitVec.ofInt IntKind.u64.bits 1).toNat : Int) = ((u % 2 : Nat) : Int) := by
  have := and_u64 h (show 1 < 2 ^ 64 by omega)
  rw [Nat.and_one_is_mod] at this
  exact this
theorem xor_neg {a b : Nat} (ha : a < 2 ^ 63) (hb : b = 0 ∨ b = 1) : IntKind.i64.wrap ((BitVec.ofInt IntKind.i64.bits (a : Int) ^^^ BitVec.ofInt IntKind.i64.bits (-(b : Int))).toNat : Int) = if b = 0 then (a : Int) else -(a : Int) - 1 := by
  rcases hb with rfl | rfl
  · have e : (BitVec.ofInt IntKind.i64.bits (a : Int) ^^^ BitVec.ofInt IntKind.i64.bits (-((0 : Nat) : Int))).toNat = a := by
      show (BitVec.ofInt 64 (a : Int) ^^^ BitVec.ofInt 64 (-((0 : Nat) : Int))).toNat = _
      rw [BitVec.toNat_xor, BitVec.toNat_ofInt, BitVec.toNat_ofInt]
      have h1 : ((a : Int) % ((2 ^ 64 : Nat) : Int)).toNat = a := by omega
      have h2 : ((-((0 : Nat) : Int)) % ((2 ^ 64 : Nat) : Int)).toNat = 0 := by decide
      rw [h1, h2, Nat.xor_zero]
    rw [e]; simp; exact wrap64 (by omega)
  · have e : (BitVec.ofInt IntKind.i64.bits (a : Int) ^^^ BitVec.ofInt IntKind.i64.bits (-((1 : Nat) : Int))).toNat = 2 ^ 64 - 1 - a := by
      show (BitVec.ofInt 64 (a : Int) ^^^ BitVec.ofInt 64 (-((1 : Nat) : Int))).toNat = _
      have h1 : BitVec.ofInt 64 (-((1 : Nat) : Int)) = BitVec.allOnes 64 := by rfl
      rw [h1, BitVec.xor_allOnes, BitVec.toNat_not, BitVec.toNat_ofInt]
      have h1 : ((a : Int) % ((2 ^ 64 : Nat) : Int)).toNat = a := by omega
      rw [h1]
    rw [e, IntKind.wrap_i64]
    simp; omega
@[reducible] def rdr (T ver : Nat) (s : RS) : AObj := ⟨T, 2, true, true, ver, [[str s.1, boo s.2]]⟩
theorem upd_upd {α : Type} (f : Nat → Option α) (i : Nat) (a b : Option α) : upd (upd f i a) i b = upd f i b := by
  funext k
  by_cases h : k = i
  · subst h; rw [upd_same, upd_same]
  · rw [upd_ne _ _ h, upd_ne _ _ h, upd_ne _ _ h]
def pre (l : List UInt8) : Nat → Nat
  | 0 => 0
  | k + 1 => pre l k + (l.getD k 0).toNat % 128 * 2 ^ (7 * k)
theorem pre_lt (l : List UInt8) {k : Nat} (h : pre l k < 2 ^ (7 * k)) : pre l (k + 1) < 2 ^ (7 * (k + 1)) := by
  simp only [pre]
  have h1 : (l.getD k 0).toNat % 128 ≤ 127 := by omega
  have h2 : (l.getD k 0).toNat % 128 * 2 ^ (7 * k) ≤ 127 * 2 ^ (7 * k) := Nat.mul_le_mul_right _ h1
  have h3 : 2 ^ (7 * (k + 1)) = 128 * 2 ^ (7 * k) := by rw [Nat.mul_add, Nat.pow_add, Nat.mul_comm]
  omega
theorem rd_drop {l : List UInt8} {k : Nat} {c : UInt8} (h : l[k]? = some c) : l.drop k = c :: l.drop (k + 1) := by
  have hk := (List.getElem?_eq_some_iff.1 h).1
  rw [List.drop_eq_getElem_cons hk]
  have := (List.getElem?_eq_some_iff.1 h).2
  rw [this]
theorem rd_more {l : List UInt8} {k u : Nat} {c : UInt8} (h : l[k]? = some c) (h1 : ¬ (9 < k ∨ (k = 9 ∧ 1 < c.toNat))) (h2 : 128 ≤ c.toNat) : rd (l.drop k) k u = rd (l.drop (k + 1)) (k + 1) (u + c.toNat % 128 * 2 ^ (7 * k)) := by
  rw [rd_drop h]; simp only [rd]; rw [if_neg h1, if_pos h2]
theorem rd_stop {l : List UInt8} {k u : Nat} {c : UInt8} (h : l[k]? = some c) (h1 : 9 < k ∨ (k = 9 ∧ 1 < c.toNat)) : rd (l.drop k) k u = none := by
  rw [rd_drop h]; simp only [rd]; rw [if_pos h1]
theorem rd_zero {l : List UInt8} {k u : Nat} {c : UInt8} (h : l[k]? = some c) (h2 : c.toNat = 0) (h3 : 0 < k) : rd (l.drop k) k u = none := by
  rw [rd_drop h]; simp only [rd]
  split
  · rfl
  · rw [if_neg (by omega), if_pos ⟨h2, h3⟩]
theorem rd_last {l : List UInt8} {k u : Nat} {c : UInt8} (h : l[k]? = some c) (h1 : ¬ (9 < k ∨ (k = 9 ∧ 1 < c.toNat))) (h2 : ¬ 128 ≤ c.toNat) (h3 : ¬ (c.toNat = 0 ∧ 0 < k)) : rd (l.drop k) k u = some (u + c.toNat % 128 * 2 ^ (7 * k), l.drop (k + 1)) := by
  rw [rd_drop h]; simp only [rd]; rw [if_neg h1, if_neg h2, if_neg h3]
theorem rd_nil {l : List UInt8} {k u : Nat} (h : l.length ≤ k) : rd (l.drop k) k u = none := by
  rw [List.drop_of_length_le h]; rfl
theorem num_none {s : RS} (h : rd s.1 0 0 = none) : numV s = 0 ∧ numR s = ([], true) := by unfold numV numR; rw [h]; exact ⟨rfl, rfl⟩
theorem num_some {s : RS} {u : Nat} {r : List UInt8} (h : rd s.1 0 0 = some (u, r)) : numV s = unzz u ∧ numR s = (r, s.2) := by unfold numV numR; rw [h]; exact ⟨rfl, rfl⟩
theorem getD_of {l : List UInt8} {k : Nat} {c : UInt8} (h : l[k]? = some c) : l.getD k 0 = c := by simp [h]
theorem pow_le9 {k : Nat} (h : k ≤ 9) : 2 ^ (7 * k) ≤ 2 ^ 63 := Nat.pow_le_pow_right (by omega) (by omega)
theorem shl_ok {c k : Nat} (hk : k ≤ 9) (hc : k = 9 → c ≤ 1) (hc' : c ≤ 127) : c * 2 ^ (7 * k) < 2 ^ 64 := by
  by_cases h9 : k = 9
  · subst h9; have := hc rfl
    have : c * 2 ^ (7 * 9) ≤ 1 * 2 ^ (7 * 9) := Nat.mul_le_mul_right _ this
    omega
  · have h1 : 2 ^ (7 * k) ≤ 2 ^ 56 := Nat.pow_le_pow_right (by omega) (by omega)
    have h2 : c * 2 ^ (7 * k) ≤ 127 * 2 ^ 56 := Nat.mul_le_mul hc' h1
    omega
theorem shl_u64 {c k : Nat} (hk : k ≤ 9) (h : c * 2 ^ (7 * k) < 2 ^ 64) : IntKind.u64.wrap ((c : Int) * 2 ^ (min ((7 * (k : Int)).toNat) IntKind.u64.bits)) = ((c * 2 ^ (7 * k) : Nat) : Int) := by
  have h1 : min ((7 * (k : Int)).toNat) IntKind.u64.bits = 7 * k := by simp only [IntKind.bits]; omega
  rw [h1]
  have h2 : ((c : Int) * 2 ^ (7 * k)) = ((c * 2 ^ (7 * k) : Nat) : Int) := by simp
  rw [h2]
  exact wrapu64 (by omega)
theorem shr_one {u : Nat} : ((u : Int)).fdiv (2 ^ (min (1 : Int).toNat IntKind.u64.bits)) = ((u / 2 : Nat) : Int) := by
  show ((u : Int)).fdiv 2 = _
  rw [Int.fdiv_eq_ediv_of_nonneg _ (by omega)]; rfl
theorem unzz_eq (u : Nat) : unzz u = if u % 2 = 0 then ((u / 2 : Nat) : Int) else -((u / 2 : Nat) : Int) - 1 := rfl
end Go.Pv
