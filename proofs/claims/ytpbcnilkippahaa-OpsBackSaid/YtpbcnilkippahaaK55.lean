import Derived.Test.YtpbcnilkippahaaPvAF
import Derived.Test.YtpbcnilkippahaaT53
import Derived.Test.YtpbcnilkippahaaPvAG
import Derived.Test.YtpbcnilkippahaaPvAH
import Derived.Test.YtpbcnilkippahaaPvAI
import Derived.Test.YtpbcnilkippahaaPvAK
import Derived.Test.YtpbcnilkippahaaProg
set_option linter.unusedVariables false
set_option linter.unusedSimpArgs false
namespace Go.Pv
open Go.Proofs
set_option maxRecDepth 10000
set_option maxHeartbeats 1000000
structure GOp where
  Kind : Int
  E : Int
  Item : Int
  Loc : Int
  To : Int
  Qty : Int
  Amount : Int
  Ref : Int
  Refs : List Int
  deriving DecidableEq, Inhabited
@[reducible] def GOp.av (x : GOp) : List AV := [int x.Kind, int x.E, int x.Item, int x.Loc, int x.To, int x.Qty, int x.Amount, int x.Ref, lst 1 fI x.Refs]
theorem GOp.pvc (x : GOp) : ∀ a ∈ x.av, PV a := by
  intro a ha; simp only [GOp.av, List.mem_cons, List.not_mem_nil, or_false] at ha
  rcases ha with rfl | rfl | rfl | rfl | rfl | rfl | rfl | rfl | rfl
  · exact pvI x.Kind
  · exact pvI x.E
  · exact pvI x.Item
  · exact pvI x.Loc
  · exact pvI x.To
  · exact pvI x.Qty
  · exact pvI x.Amount
  · exact pvI x.Ref
  · exact (pvLs pvcI) x.Refs
structure A17_List_UInt8 where
  a0 : List UInt8
  a1 : List UInt8
  a2 : List UInt8
  a3 : List UInt8
  a4 : List UInt8
  a5 : List UInt8
  a6 : List UInt8
  a7 : List UInt8
  a8 : List UInt8
  a9 : List UInt8
  a10 : List UInt8
  a11 : List UInt8
  a12 : List UInt8
  a13 : List UInt8
  a14 : List UInt8
  a15 : List UInt8
  a16 : List UInt8
  deriving DecidableEq, Inhabited
@[reducible] def A17_List_UInt8.av (x : A17_List_UInt8) : List AV := [str x.a0, str x.a1, str x.a2, str x.a3, str x.a4, str x.a5, str x.a6, str x.a7, str x.a8, str x.a9, str x.a10, str x.a11, str x.a12, str x.a13, str x.a14, str x.a15, str x.a16]
theorem A17_List_UInt8.pvc (x : A17_List_UInt8) : ∀ a ∈ x.av, PV a := by
  intro a ha; simp only [A17_List_UInt8.av, List.mem_cons, List.not_mem_nil, or_false] at ha
  rcases ha with rfl | rfl | rfl | rfl | rfl | rfl | rfl | rfl | rfl | rfl | rfl | rfl | rfl | rfl | rfl | rfl | rfl
  · exact pvS x.a0
  · exact pvS x.a1
  · exact pvS x.a2
  · exact pvS x.a3
  · exact pvS x.a4
  · exact pvS x.a5
  · exact pvS x.a6
  · exact pvS x.a7
  · exact pvS x.a8
  · exact pvS x.a9
  · exact pvS x.a10
  · exact pvS x.a11
  · exact pvS x.a12
  · exact pvS x.a13
  · exact pvS x.a14
  · exact pvS x.a15
  · exact pvS x.a16
structure GReader where
  s : List UInt8
  bad : Bool
  deriving DecidableEq, Inhabited
@[reducible] def GReader.av (x : GReader) : List AV := [str x.s, boo x.bad]
theorem GReader.pvc (x : GReader) : ∀ a ∈ x.av, PV a := by
  intro a ha; simp only [GReader.av, List.mem_cons, List.not_mem_nil, or_false] at ha
  rcases ha with rfl | rfl
  · exact pvS x.s
  · exact pvB x.bad
structure GR where
  S : List UInt8
  Bad : Bool
  deriving DecidableEq, Inhabited
@[reducible] def GR.av (x : GR) : List AV := [str x.S, boo x.Bad]
theorem GR.pvc (x : GR) : ∀ a ∈ x.av, PV a := by
  intro a ha; simp only [GR.av, List.mem_cons, List.not_mem_nil, or_false] at ha
  rcases ha with rfl | rfl
  · exact pvS x.S
  · exact pvB x.Bad
structure GMaster where
  Entities : Int
  Periods : Int
  Weights : List Int
  Methods : List (List Int)
  Costs : List (List Int)
  deriving DecidableEq, Inhabited
@[reducible] def GMaster.av (x : GMaster) : List AV := [int x.Entities, int x.Periods, lst 1 fI x.Weights, lst 1 (fL 1 fI) x.Methods, lst 1 (fL 1 fI) x.Costs]
theorem GMaster.pvc (x : GMaster) : ∀ a ∈ x.av, PV a := by
  intro a ha; simp only [GMaster.av, List.mem_cons, List.not_mem_nil, or_false] at ha
  rcases ha with rfl | rfl | rfl | rfl | rfl
  · exact pvI x.Entities
  · exact pvI x.Periods
  · exact (pvLs pvcI) x.Weights
  · exact (pvLs (pvcLs pvcI)) x.Methods
  · exact (pvLs (pvcLs pvcI)) x.Costs
theorem sh26 : tySh Try.prog 26 = some (1, false) := by kernel_rfl
theorem sh28 : tySh Try.prog 28 = some (9, true) := by kernel_rfl
theorem sh35 : tySh Try.prog 35 = some (1, false) := by kernel_rfl
theorem sh37 : tySh Try.prog 37 = some (5, true) := by kernel_rfl
theorem sh45 : tySh Try.prog 45 = some (1, false) := by kernel_rfl
theorem sh46 : tySh Try.prog 46 = some (17, true) := by kernel_rfl
theorem sh84 : tySh Try.prog 84 = some (40, true) := by kernel_rfl
theorem by26 : bby Try.prog 26 = some 24 := by kernel_rfl
theorem by28 : bby Try.prog 28 = some 88 := by kernel_rfl
theorem bz26 : bsz Try.prog 26 = some (1, [.slice none 0 0]) := by kernel_rfl
theorem bz28 : bsz Try.prog 28 = some (9, [.int .i64 0, .int .i64 0, .int .i64 0, .int .i64 0, .int .i64 0, .int .i64 0, .int .i64 0, .int .i64 0, .slice none 0 0]) := by kernel_rfl
theorem cal10 : cal Try.prog 10 = true := by kernel_rfl
theorem cal12 : cal Try.prog 12 = true := by kernel_rfl
theorem cal13 : cal Try.prog 13 = true := by kernel_rfl
theorem cal14 : cal Try.prog 14 = true := by kernel_rfl
theorem cal15 : cal Try.prog 15 = true := by kernel_rfl
theorem cal16 : cal Try.prog 16 = true := by kernel_rfl
theorem cal17 : cal Try.prog 17 = true := by kernel_rfl
theorem cal18 : cal Try.prog 18 = true := by kernel_rfl
theorem cal19 : cal Try.prog 19 = true := by kernel_rfl
theorem cal20 : cal Try.prog 20 = true := by kernel_rfl
theorem cal21 : cal Try.prog 21 = true := by kernel_rfl
theorem cal22 : cal Try.prog 22 = true := by kernel_rfl
theorem cal23 : cal Try.prog 23 = true := by kernel_rfl
theorem cal24 : cal Try.prog 24 = true := by kernel_rfl
theorem cal25 : cal Try.prog 25 = true := by kernel_rfl
theorem cal26 : cal Try.prog 26 = true := by kernel_rfl
theorem cal27 : cal Try.prog 27 = true := by kernel_rfl
theorem cal28 : cal Try.prog 28 = true := by kernel_rfl
theorem cal30 : cal Try.prog 30 = true := by kernel_rfl
theorem cal32 : cal Try.prog 32 = true := by kernel_rfl
theorem cal33 : cal Try.prog 33 = true := by kernel_rfl
theorem cal37 : cal Try.prog 37 = true := by kernel_rfl
theorem cal38 : cal Try.prog 38 = true := by kernel_rfl
theorem cal41 : cal Try.prog 41 = true := by kernel_rfl
theorem cal43 : cal Try.prog 43 = true := by kernel_rfl
theorem cal44 : cal Try.prog 44 = true := by kernel_rfl
theorem cal45 : cal Try.prog 45 = true := by kernel_rfl
theorem cal46 : cal Try.prog 46 = true := by kernel_rfl
theorem cal47 : cal Try.prog 47 = true := by kernel_rfl
theorem cal48 : cal Try.prog 48 = true := by kernel_rfl
theorem cal49 : cal Try.prog 49 = true := by kernel_rfl
theorem cal55 : cal Try.prog 55 = true := by kernel_rfl
theorem cal58 : cal Try.prog 58 = true := by kernel_rfl
theorem cal63 : cal Try.prog 63 = true := by kernel_rfl
theorem cal7 : cal Try.prog 7 = true := by kernel_rfl
theorem cal8 : cal Try.prog 8 = true := by kernel_rfl
theorem cal9 : cal Try.prog 9 = true := by kernel_rfl
theorem fo28_0 : fOff Try.prog 28 0 = some 0 := by kernel_rfl
theorem fo28_1 : fOff Try.prog 28 1 = some 1 := by kernel_rfl
theorem fo28_2 : fOff Try.prog 28 2 = some 2 := by kernel_rfl
theorem fo28_3 : fOff Try.prog 28 3 = some 3 := by kernel_rfl
theorem fo28_5 : fOff Try.prog 28 5 = some 5 := by kernel_rfl
theorem fo28_6 : fOff Try.prog 28 6 = some 6 := by kernel_rfl
theorem fo28_7 : fOff Try.prog 28 7 = some 7 := by kernel_rfl
theorem fo28_8 : fOff Try.prog 28 8 = some 8 := by kernel_rfl
theorem fo37_0 : fOff Try.prog 37 0 = some 0 := by kernel_rfl
theorem fo37_2 : fOff Try.prog 37 2 = some 2 := by kernel_rfl
theorem fo37_3 : fOff Try.prog 37 3 = some 3 := by kernel_rfl
theorem fo37_4 : fOff Try.prog 37 4 = some 4 := by kernel_rfl
theorem ibx : Extern.findNext Try.f64 = none := by kernel_rfl
theorem iby : Extern.find Try.f64 = some Extern.BytealgIndexByte.indexByte := by kernel_rfl
theorem pl28 : plc Try.prog 28 = some [(0, 1), (1, 1), (2, 1), (3, 1), (4, 1), (5, 1), (6, 1), (7, 1), (8, 1)] := by kernel_rfl
theorem z28 : zeroOf Try.prog 28 = some [.int .i64 0, .int .i64 0, .int .i64 0, .int .i64 0, .int .i64 0, .int .i64 0, .int .i64 0, .int .i64 0, .slice none 0 0] := by kernel_rfl
theorem z37 : zeroOf Try.prog 37 = some [.int .i64 0, .int .i64 0, .slice none 0 0, .slice none 0 0, .slice none 0 0] := by kernel_rfl
theorem z46 : zeroOf Try.prog 46 = some [.string ⟨#[]⟩, .string ⟨#[]⟩, .string ⟨#[]⟩, .string ⟨#[]⟩, .string ⟨#[]⟩, .string ⟨#[]⟩, .string ⟨#[]⟩, .string ⟨#[]⟩, .string ⟨#[]⟩, .string ⟨#[]⟩, .string ⟨#[]⟩, .string ⟨#[]⟩, .string ⟨#[]⟩, .string ⟨#[]⟩, .string ⟨#[]⟩, .string ⟨#[]⟩, .string ⟨#[]⟩] := by kernel_rfl
theorem z66 : zeroOf Try.prog 66 = some [.string ⟨#[]⟩, .bool false] := by kernel_rfl
theorem z80 : zeroOf Try.prog 80 = some [.slice none 0 0, .slice none 0 0, .slice none 0 0] := by kernel_rfl
theorem z81 : zeroOf Try.prog 81 = some [.int .i64 0, .int .i64 0, .int .i64 0, .int .i64 0, .int .i64 0, .int .i64 0, .int .i64 0, .int .i64 0, .int .i64 0, .int .i64 0, .int .i64 0, .int .i64 0] := by kernel_rfl
theorem z84 : zeroOf Try.prog 84 = some [.bool false, .bool false, .bool false, .bool false, .bool false, .bool false, .bool false, .bool false, .bool false, .bool false, .bool false, .bool false, .bool false, .bool false, .bool false, .bool false, .bool false, .bool false, .bool false, .bool false, .bool false, .bool false, .bool false, .bool false, .bool false, .bool false, .bool false, .bool false, .bool false, .bool false, .bool false, .bool false, .bool false, .bool false, .bool false, .bool false, .bool false, .bool false, .bool false, .bool false] := by kernel_rfl
theorem zi3 : (Try.prog.info? 3).bind (·.zero) = some (.int .i64 0) := by kernel_rfl
def tb : Tab2 := { sh := [(3, (1, false)), (4, (1, false)), (9, (1, false)), (26, (1, false)), (28, (9, true)), (37, (5, true))], fo := [((28, 0), 0), ((28, 1), 1), ((28, 2), 2), ((28, 3), 3), ((28, 4), 4), ((28, 5), 5), ((28, 6), 6), ((28, 7), 7), ((28, 8), 8), ((37, 2), 2), ((66, 0), 0), ((66, 1), 1)], fp := [], ki := [], se := [], bl := [(37, [(0, 1), (1, 1), (2, 1), (3, 1), (4, 1)]), (66, [(0, 1), (1, 1)]), (87, [(0, 1), (1, 1)])], zs := [(37, [.int .i64 0, .int .i64 0, .slice none 0 0, .slice none 0 0, .slice none 0 0]), (66, [.string ⟨#[]⟩, .bool false]), (87, [.string ⟨#[]⟩, .bool false])] }
theorem tbk : Tab2Ok Try.prog tb := ⟨⟨by kernel_rfl, by kernel_rfl, by kernel_rfl⟩, by kernel_rfl, by kernel_rfl, by kernel_rfl, ⟨z37, z66, z87, trivial⟩⟩
def numD (v : Int) : Option (List UInt8) := asrt (-9223372036854775808 ≤ v ∧ v ≤ 9223372036854775807) <| some (enc v)
theorem numD_c {v : Int} {r : List UInt8} (h : numD v = some r) : PP Try.prog 40 [int v] (fun y => y = str r) := by
  unfold numD at h; obtain ⟨p, h⟩ := asrt_e h; obtain rfl := nxt_e h; exact num_p p
def numRD (v : Int) : Option (List UInt8) := asrt (-9223372036854775808 ≤ v ∧ v ≤ 9223372036854775807) <| some (enc v)
theorem numRD_c {v : Int} {r : List UInt8} (h : numRD v = some r) : PP Try.prog 43 [int v] (fun y => y = str r) := by
  unfold numRD at h; obtain ⟨p, h⟩ := asrt_e h; obtain rfl := nxt_e h; exact numref_p p
def listD (v : List Int) : Option (List UInt8) := asrt ((∀ x ∈ v, -9223372036854775808 ≤ x ∧ x ≤ 9223372036854775807) ∧ v.length ≤ 68719476736) <| some (encL v)
theorem listD_c {v : List Int} {r : List UInt8} (h : listD v = some r) : PP Try.prog 41 [ints v] (fun y => y = str r) := by
  unfold listD at h; obtain ⟨p, h⟩ := asrt_e h; obtain rfl := nxt_e h; exact encl_p p.1 p.2
def d_law00_FewOps_L0 (a1 : List GOp) : Nat → Int → Option ((Unit) ⊕ (Bool))
  | 0, _ => none
  | n + 1, y0_1 =>
    (show Option (Bool) from
    bnd (decide (y0_1 < (a1.length : Int))) fun x4 =>
    cond x4 (bnd (decide (y0_1 < 60)) fun x5 =>
    some (x5 : Bool)) (some (false : Bool))).bind <| fun y1_1 =>
    cond y1_1 ((ix a1 y0_1).bind fun x6 =>
    bnd (decide ((x6.Refs.length : Int) > 60)) fun x7 =>
    cond x7 (esc (some ((false : Bool)))) (bnd (w64 (y0_1 + 1)) fun x8 =>
    d_law00_FewOps_L0 a1 n (x8 : Int))) (brk ())
def d_law00_FewOps (n : Nat) (a1 : List GOp) : Option (Bool) :=
(show Option ((Unit) ⊕ (Bool)) from
d_law00_FewOps_L0 a1 n (0 : Int)).bind <| sel <| fun _ =>
bnd (decide ((a1.length : Int) ≤ 60)) fun x10 =>
some ((x10 : Bool))
def d_ops_forms  : Option (A17_List_UInt8) :=
some (((⟨([] : List UInt8), ([69, 73, 76, 81, 65] : List UInt8), ([81, 65, 82] : List UInt8), ([81, 82] : List UInt8), ([69, 73, 76, 81, 65] : List UInt8), ([81, 65, 82] : List UInt8), ([69, 73, 76, 81] : List UInt8), ([69, 73, 76, 81] : List UInt8), ([69, 73, 76, 84, 81] : List UInt8), ([69, 73, 65] : List UInt8), ([69, 73, 65] : List UInt8), ([84, 65, 83] : List UInt8), ([69, 73, 76, 84, 81, 65] : List UInt8), ([76, 81, 82] : List UInt8), ([69] : List UInt8), ([69] : List UInt8), ([69] : List UInt8)⟩ : A17_List_UInt8) : A17_List_UInt8))
theorem d_ops_forms_c  {r : A17_List_UInt8} (h0 : d_ops_forms  = some r) : PP Try.prog 20 [] (fun y => y = .agg (A17_List_UInt8.av r)) := by
  unfold d_ops_forms at h0
  refine pp_of_pc (R0 := fun y H => Cv (frzH H) y (.agg (A17_List_UInt8.av r))) ?_ (fun y H hc => ⟨_, rfl, (fun (a : A17_List_UInt8) => PV.agg (A17_List_UInt8.pvc a)) r, hc⟩)
  refine pcw (c := _) Try.func20 rfl rfl ?_; intro Q hret hnorm
  refine tc tbk 2 (.mk ?_)
  refine sA 1 z46 fun v1 => ?_
  refine tr tbk 3 (.mk ?_)
  refine sY (yv_buildA (cs := [str ([] : List UInt8), str ([69, 73, 76, 81, 65] : List UInt8), str ([81, 65, 82] : List UInt8), str ([81, 82] : List UInt8), str ([69, 73, 76, 81, 65] : List UInt8), str ([81, 65, 82] : List UInt8), str ([69, 73, 76, 81] : List UInt8), str ([69, 73, 76, 81] : List UInt8), str ([69, 73, 76, 84, 81] : List UInt8), str ([69, 73, 65] : List UInt8), str ([69, 73, 65] : List UInt8), str ([84, 65, 83] : List UInt8), str ([69, 73, 76, 84, 81, 65] : List UInt8), str ([76, 81, 82] : List UInt8), str ([69] : List UInt8), str ([69] : List UInt8), str ([69] : List UInt8)]) (ps := [(1, _), (2, _), (3, _), (4, _), (5, _), (6, _), (7, _), (8, _), (9, _), (10, _), (11, _), (12, _), (13, _), (14, _), (15, _), (16, _)]) rfl Try.underlying46 sh45 z46 rfl (.cons rfl (.cons rfl (.cons rfl (.cons rfl (.cons rfl (.cons rfl (.cons rfl (.cons rfl (.cons rfl (.cons rfl (.cons rfl (.cons rfl (.cons rfl (.cons rfl (.cons rfl (.cons rfl .nil)))))))))))))))) (by kernel_rfl)) ?_
  refine sS ⟨46, 17, true, true, v1, [[str ([] : List UInt8), str ([69, 73, 76, 81, 65] : List UInt8), str ([81, 65, 82] : List UInt8), str ([81, 82] : List UInt8), str ([69, 73, 76, 81, 65] : List UInt8), str ([81, 65, 82] : List UInt8), str ([69, 73, 76, 81] : List UInt8), str ([69, 73, 76, 81] : List UInt8), str ([69, 73, 76, 84, 81] : List UInt8), str ([69, 73, 65] : List UInt8), str ([69, 73, 65] : List UInt8), str ([84, 65, 83] : List UInt8), str ([69, 73, 76, 84, 81, 65] : List UInt8), str ([76, 81, 82] : List UInt8), str ([69] : List UInt8), str ([69] : List UInt8), str ([69] : List UInt8)]]⟩ sh46 ?_
  refine tr tbk 1 (.mk ?_)
  obtain rfl := nxt_e h0
  refine wR hret (rC sh46 .nil) ?_
  exact .refl _
def d_internal_stringslite_IndexByte (a1 : List UInt8) (a2 : Int) : Option (Int) :=
bnd (ixB a1 a2) fun x3 =>
some ((x3 : Int))
theorem d_internal_stringslite_IndexByte_c {a1 : List UInt8} {a2 : Int} {r : Int} (h0 : d_internal_stringslite_IndexByte a1 a2 = some r) : PP Try.prog 63 [str a1, .sc (.int .u8 a2)] (fun y => y = int r) := by
  unfold d_internal_stringslite_IndexByte at h0
  refine pp_of_pc (R0 := fun y H => Cv (frzH H) y (int r)) ?_ (fun y H hc => ⟨_, rfl, pvI r, hc⟩)
  refine pcw (c := _) Try.func63 rfl rfl ?_; intro Q hret hnorm
  refine tc tbk 8 (.mk ?_)
  obtain ⟨x3, e3, h0⟩ := bnd_e h0
  refine sY (yv_to (y := int x3) (yv_indexByte rfl Try.func64 rfl rfl ibx iby rfl rfl) (congrArg int e3)) ?_
  refine tr tbk 2 (.mk ?_)
  obtain rfl := nxt_e h0
  refine wR hret (rT .nil) ?_
  exact .refl _
def d_strings_IndexByte (a1 : List UInt8) (a2 : Int) : Option (Int) :=
(d_internal_stringslite_IndexByte a1 a2).bind fun x3 =>
some ((x3 : Int))
theorem d_strings_IndexByte_c {a1 : List UInt8} {a2 : Int} {r : Int} (h0 : d_strings_IndexByte a1 a2 = some r) : PP Try.prog 58 [str a1, .sc (.int .u8 a2)] (fun y => y = int r) := by
  unfold d_strings_IndexByte at h0
  refine pp_of_pc (R0 := fun y H => Cv (frzH H) y (int r)) ?_ (fun y H hc => ⟨_, rfl, pvI r, hc⟩)
  refine pcw (c := _) Try.func58 rfl rfl ?_; intro Q hret hnorm
  refine tc tbk 8 (.mk ?_)
  obtain ⟨x3, e3, h0⟩ := bind_e h0
  refine sC cal63 (d_internal_stringslite_IndexByte_c e3) ?_
  refine tr tbk 2 (.mk ?_)
  obtain rfl := nxt_e h0
  refine wR hret (rT .nil) ?_
  exact .refl _
def d_ops_bounds (a1 : Int) (a2 : Int) : Option (Int × Int) :=
bnd (decide (a2 = 69)) fun x3 =>
cond x3 (some ((0 : Int), (3 : Int))) (bnd (decide (a2 = 73)) fun x4 =>
cond x4 (some ((0 : Int), (4 : Int))) (bnd (decide (a2 = 76)) fun x5 =>
cond x5 (some ((0 : Int), (1 : Int))) (bnd (decide (a2 = 84)) fun x6 =>
cond x6 (some ((0 : Int), ((lkI [(8, 1), (12, 3), (11, 2)] a1) : Int))) (bnd (decide (a2 = 81)) fun x7 =>
cond x7 (bnd (decide (a1 = 7)) fun x12 =>
cond x12 (some ((0 : Int), (1073741824 : Int))) (some ((1 : Int), (1073741824 : Int)))) (bnd (decide (a2 = 65)) fun x8 =>
cond x8 ((show Option (Bool) from
bnd (decide (a1 = 9)) fun x10 =>
cond x10 (some (true : Bool)) (bnd (decide (a1 = 10)) fun x11 =>
some (x11 : Bool))).bind <| fun y0_1 =>
cond y0_1 (some ((0 : Int), (1073741824 : Int))) (some ((0 : Int), (1125899906842624 : Int)))) (some ((0 : Int), (39 : Int))))))))
theorem d_ops_bounds_c {a1 : Int} {a2 : Int} {r : Int × Int} (h0 : d_ops_bounds a1 a2 = some r) : PP Try.prog 22 [int a1, .sc (.int .i32 a2)] (fun y => y = .tup [int r.1, int r.2]) := by
  unfold d_ops_bounds at h0
  refine pp_of_pc (R0 := fun y H => Cv (frzH H) y (.tup [int r.1, int r.2])) ?_ (fun y H hc => ⟨_, rfl, .tup (pvl2 (pvI (r.1)) (pvI (r.2))), hc⟩)
  refine pcw (c := _) Try.func22 rfl rfl ?_; intro Q hret hnorm
  refine tc tbk 13 (.mk ?_)
  refine nb tbk h0 fun x3 h0 => ?_
  refine tr tbk 2 (.mk ?_)
  cases x3
  replace h0 := cf h0
  refine tc tbk 3 (.mk ?_)
  refine nb tbk h0 fun x4 h0 => ?_
  refine tr tbk 2 (.mk ?_)
  cases x4
  replace h0 := cf h0
  refine tc tbk 3 (.mk ?_)
  refine nb tbk h0 fun x5 h0 => ?_
  refine tr tbk 2 (.mk ?_)
  cases x5
  replace h0 := cf h0
  refine tc tbk 3 (.mk ?_)
  refine nb tbk h0 fun x6 h0 => ?_
  refine tr tbk 2 (.mk ?_)
  cases x6
  replace h0 := cf h0
  refine tc tbk 3 (.mk ?_)
  refine nb tbk h0 fun x7 h0 => ?_
  refine tr tbk 2 (.mk ?_)
  cases x7
  replace h0 := cf h0
  refine tc tbk 3 (.mk ?_)
  refine nb tbk h0 fun x8 h0 => ?_
  refine tr tbk 2 (.mk ?_)
  cases x8
  replace h0 := cf h0
  refine tc tbk 8 (.mk ?_)
  obtain rfl := nxt_e h0
  refine wR hret (rT (rT .nil)) ?_
  exact .refl _
  replace h0 := ct h0
  refine tc tbk 3 (.mk ?_)
  refine jn h0 [4, 5] [] (fun (a : Bool) (k : Unit) => [(30, boo a)]) (fun a k => []) ⟨fun j9 h1 => ?_, ?_⟩
  refine tc tbk 2 (.mk ?_)
  refine nb tbk h1 fun x10 h1 => ?_
  refine tr tbk 1 (.mk ?_)
  cases x10
  replace h1 := cf h1
  refine tr tbk 1 (.mk ?_)
  refine nb tbk h1 fun x11 h1 => ?_
  refine tr tbk 2 (.mk ?_)
  exact lf h1 () leA
  replace h1 := ct h1
  refine tr tbk 4 (.mk ?_)
  exact lf h1 () leA
  rintro y0_1 _ h0
  cases y0_1
  replace h0 := cf h0
  refine tc tbk 7 (.mk ?_)
  obtain rfl := nxt_e h0
  refine wR hret (rT (rT .nil)) ?_
  exact .refl _
  replace h0 := ct h0
  refine tc tbk 6 (.mk ?_)
  obtain rfl := nxt_e h0
  refine wR hret (rT (rT .nil)) ?_
  exact .refl _
  replace h0 := ct h0
  refine tc tbk 5 (.mk ?_)
  refine nb tbk h0 fun x12 h0 => ?_
  refine tr tbk 1 (.mk ?_)
  cases x12
  replace h0 := cf h0
  refine tc tbk 7 (.mk ?_)
  obtain rfl := nxt_e h0
  refine wR hret (rT (rT .nil)) ?_
  exact .refl _
  replace h0 := ct h0
  refine tc tbk 6 (.mk ?_)
  obtain rfl := nxt_e h0
  refine wR hret (rT (rT .nil)) ?_
  exact .refl _
  replace h0 := ct h0
  refine tc tbk 2 (.mk ?_)
  refine c_drawM [some (15, none), none, none, none, some (16, none), some (17, some (int a1)), some (18, some (int (lkI [(8, 1), (12, 3), (11, 2)] a1))), some (4, some (int 0)), some (5, some (int (lkI [(8, 1), (12, 3), (11, 2)] a1)))] [(1, 8, 1), (2, 12, 3), (3, 11, 2)] 0 15 [.mk, .ins 8 1, .ins 12 3, .ins 11 2, .pu, .pu, .lk a1, .pu, .pu] mixed Try.underlying83 Try.underlying3 zi3 (by kernel_rfl) rfl ⟨⟨rfl, rfl, rfl, rfl⟩, ⟨rfl, rfl, rfl, .head _⟩, ⟨rfl, rfl, rfl, .tail _ (.head _)⟩, ⟨rfl, rfl, rfl, .tail _ (.tail _ (.head _))⟩, ⟨_, _, rfl, rfl, fun _ => yv_move rfl rfl⟩, ⟨_, _, rfl, rfl, fun _ => yv_move rfl rfl⟩, ⟨16, _, 18, rfl, rfl, rfl, fun _ => rfl, fun _ => rfl⟩, ⟨_, _, rfl, rfl, fun _ => yv_assign rfl rfl⟩, ⟨_, _, rfl, rfl, fun _ => yv_assign rfl rfl⟩, trivial⟩ fun _ => ?_
  obtain rfl := nxt_e h0
  refine wR hret (rT (rT .nil)) ?_
  exact .refl _
  replace h0 := ct h0
  refine tc tbk 6 (.mk ?_)
  obtain rfl := nxt_e h0
  refine wR hret (rT (rT .nil)) ?_
  exact .refl _
  replace h0 := ct h0
  refine tc tbk 6 (.mk ?_)
  obtain rfl := nxt_e h0
  refine wR hret (rT (rT .nil)) ?_
  exact .refl _
  replace h0 := ct h0
  refine tc tbk 6 (.mk ?_)
  obtain rfl := nxt_e h0
  refine wR hret (rT (rT .nil)) ?_
  exact .refl _
def d_ops_refs_L0 (a1 : List Int) : Nat → Int → (List Bool) → Option ((Unit) ⊕ (Bool))
  | 0, _, _ => none
  | n + 1, y0_1, y0_2 =>
    bnd (decide (y0_1 < (a1.length : Int))) fun x4 =>
    cond x4 ((ix a1 y0_1).bind fun x5 =>
    (show Option (Bool) from
    bnd (decide (x5 < 0)) fun x7 =>
    cond x7 (some (true : Bool)) (bnd (decide (x5 ≥ 40)) fun x8 =>
    cond x8 (some (true : Bool)) (asrt ((0 : Int) ≤ x5 ∧ x5 < (40 : Int)) <|
    (ix y0_2 x5).bind fun x10 =>
    some (x10 : Bool)))).bind <| fun y1_1 =>
    cond y1_1 (esc (some ((false : Bool)))) (asrt ((0 : Int) ≤ x5 ∧ x5 < (40 : Int)) <|
    (ix y0_2 x5).bind fun x12 =>
    bnd (y0_2.set (Int.toNat x5) true) fun x13 =>
    bnd (w64 (y0_1 + 1)) fun x14 =>
    d_ops_refs_L0 a1 n (x14 : Int) (x13 : List Bool))) (brk ())
def d_ops_refs (n : Nat) (a1 : List Int) : Option (Bool) :=
(show Option ((Unit) ⊕ (Bool)) from
d_ops_refs_L0 a1 n (0 : Int) ((List.replicate 40 false) : List Bool)).bind <| sel <| fun _ =>
bnd (decide ((a1.length : Int) > 0)) fun x16 =>
some ((x16 : Bool))
theorem d_ops_refs_c {n : Nat} {a1 : List Int} {r : Bool} (h0 : d_ops_refs n a1 = some r) : PP Try.prog 24 [lst 1 fI a1] (fun y => y = boo r) := by
  unfold d_ops_refs at h0
  refine pp_of_pc (R0 := fun y H => Cv (frzH H) y (boo r)) ?_ (fun y H hc => ⟨_, rfl, pvB r, hc⟩)
  refine pcw (c := _) Try.func24 rfl rfl ?_; intro Q hret hnorm
  refine tc tbk 6 (.mk ?_)
  refine sY (yv_buildA (cs := [boo false, boo false, boo false, boo false, boo false, boo false, boo false, boo false, boo false, boo false, boo false, boo false, boo false, boo false, boo false, boo false, boo false, boo false, boo false, boo false, boo false, boo false, boo false, boo false, boo false, boo false, boo false, boo false, boo false, boo false, boo false, boo false, boo false, boo false, boo false, boo false, boo false, boo false, boo false, boo false]) (ps := []) rfl Try.underlying84 sh4 z84 rfl .nil (by kernel_rfl)) ?_
  refine sA 1 z84 fun v2 => ?_
  refine sS ⟨84, 40, true, true, v2, [[boo false, boo false, boo false, boo false, boo false, boo false, boo false, boo false, boo false, boo false, boo false, boo false, boo false, boo false, boo false, boo false, boo false, boo false, boo false, boo false, boo false, boo false, boo false, boo false, boo false, boo false, boo false, boo false, boo false, boo false, boo false, boo false, boo false, boo false, boo false, boo false, boo false, boo false, boo false, boo false]]⟩ sh84 ?_
  refine tr tbk 5 (.mk ?_)
  refine sY (yv_len_sl rfl Try.underlying26 rfl (lst_len _)) ?_
  refine tr tbk 2 (.mk ?_)
  refine jnE h0 [0, 2] [] (fun (a : Unit) (k : Unit) => []) (fun a k => []) ⟨fun j3 h1 h0 => ?_, ?_⟩
  refine tc tbk 1 (.mk ?_)
  refine lp (fun n (a : Int × (List Bool)) => d_ops_refs_L0 a1 n a.1 a.2) ((0 : Int), ((List.replicate 40 false) : List Bool)) () h1 [0, 2, 3, 7, 8] [] (fun (a : Int × (List Bool)) (k : Unit) => [(9, int a.1)]) (fun a k => [(1, ⟨84, 40, true, true, v2, [a.2.map boo]⟩)]) (fun _ => rfl) ⟨leA, ?_⟩
  rintro n ⟨y0_1, y0_2⟩ _ hm h1
  replace h1 : d_ops_refs_L0 a1 (n + 1) y0_1 y0_2 = some _ := h1
  rw [d_ops_refs_L0] at h1
  refine tc tbk 2 (.mk ?_)
  refine nb tbk h1 fun x4 h1 => ?_
  refine tr tbk 2 (.mk ?_)
  cases x4
  replace h1 := cf h1
  refine tc tbk 2 (.mk ?_)
  exact lfE h1 () leA
  replace h1 := ct h1
  refine tc tbk 6 (.mk ?_)
  obtain ⟨x5, e5, h1⟩ := bind_e h1
  refine sY (yv_ixT rfl Try.underlying26 sh3 rfl rfl e5) ?_
  refine tr tbk 5 (.mk ?_)
  refine jn h1 [0, 2, 3, 5, 7, 8, 9] [1] (fun (a : Bool) (k : Unit) => [(23, boo a)]) (fun a k => []) ⟨fun j6 h2 => ?_, ?_⟩
  refine tc tbk 2 (.mk ?_)
  refine nb tbk h2 fun x7 h2 => ?_
  refine tr tbk 1 (.mk ?_)
  cases x7
  replace h2 := cf h2
  refine tr tbk 1 (.mk ?_)
  refine nb tbk h2 fun x8 h2 => ?_
  refine tr tbk 2 (.mk ?_)
  cases x8
  replace h2 := cf h2
  refine tr tbk 1 (.mk ?_)
  obtain ⟨p9, h2⟩ := asrt_e h2
  obtain ⟨x10, e10, h2⟩ := bind_e h2
  refine sY (yv_ixAR rfl Try.underlying84 sh4 rfl rfl rfl rfl rfl p9) ?_
  refine sY (yv_ldARg (g := boo) rfl sh4 rfl rfl rfl rfl e10) ?_
  refine tr tbk 2 (.mk ?_)
  exact lf h2 () leA
  replace h2 := ct h2
  refine tr tbk 5 (.mk ?_)
  exact lf h2 () leA
  replace h2 := ct h2
  refine tr tbk 9 (.mk ?_)
  exact lf h2 () leA
  rintro y1_1 _ h1
  cases y1_1
  replace h1 := cf h1
  refine tc tbk 4 (.mk ?_)
  obtain ⟨p11, h1⟩ := asrt_e h1
  obtain ⟨x12, e12, h1⟩ := bind_e h1
  refine sY (yv_ixAR rfl Try.underlying84 sh4 rfl rfl rfl rfl rfl p11) ?_
  obtain ⟨x13, e13, h1⟩ := bnd_e h1
  refine rsstore rfl rfl (yl_ob (ob' := (⟨84, 40, true, true, v2, [x13.map boo]⟩ : AObj)) (yl_stARb rfl sh4 rfl rfl rfl rfl rfl rfl e12 e13) rfl) ?_
  refine tr tbk 3 (.mk ?_)
  refine ni tbk h1 fun x14 h1 => ?_
  refine tr tbk 2 (.mk ?_)
  exact bk (x14, x13) () h1 leA
  replace h1 := ct h1
  refine tc tbk 5 (.mk ?_)
  obtain ⟨c15, hX, hj⟩ := esc_e h1; subst hj; replace h0 := hX.trans (sel_r h0)
  obtain rfl := nxt_e h0
  refine wR hret (rT .nil) ?_
  exact .refl _
  rintro _ _ h0
  refine tc tbk 3 (.mk ?_)
  refine sY (yv_len_sl rfl Try.underlying26 rfl (lst_len _)) ?_
  refine nb tbk h0 fun x16 h0 => ?_
  refine tr tbk 2 (.mk ?_)
  obtain rfl := nxt_e h0
  refine wR hret (rT .nil) ?_
  exact .refl _
def d_ops_Check (n : Nat) (a1 : GOp) : Option (Bool) :=
(show Option (Bool) from
bnd (decide (a1.Kind < 1)) fun x4 =>
cond x4 (some (true : Bool)) (bnd (decide (a1.Kind > 16)) fun x5 =>
some (x5 : Bool))).bind <| fun y0_1 =>
cond y0_1 (some ((false : Bool))) (d_ops_forms.bind fun x6 =>
(ix ([x6.a0, x6.a1, x6.a2, x6.a3, x6.a4, x6.a5, x6.a6, x6.a7, x6.a8, x6.a9, x6.a10, x6.a11, x6.a12, x6.a13, x6.a14, x6.a15, x6.a16] : List (List UInt8)) a1.Kind).bind fun x7 =>
(show Option ((Bool)) from
(show Option ((Int)) from
(d_strings_IndexByte x7 69).bind fun x11 =>
some (x11 : Int)).bind <| fun y1_1 =>
bnd (decide (y1_1 ≥ 0)) fun x12 =>
some (x12 : Bool)).bind <| fun y2_1 =>
(show Option (Int × Int) from
cond y2_1 ((d_ops_bounds a1.Kind 69).bind fun x14 =>
some ((x14.1 : Int), (x14.2 : Int))) (some ((0 : Int), (0 : Int)))).bind <| p2 fun (y3_1 : Int) (y3_2 : Int) =>
(show Option ((Unit)) from
some ()).bind <| fun _ =>
(show Option (Bool) from
bnd (decide (a1.E < y3_1)) fun x17 =>
cond x17 (some (true : Bool)) (bnd (decide (a1.E > y3_2)) fun x18 =>
some (x18 : Bool))).bind <| fun y5_1 =>
cond y5_1 (some ((false : Bool))) ((show Option ((Bool)) from
(show Option ((Int)) from
(d_strings_IndexByte x7 73).bind fun x21 =>
some (x21 : Int)).bind <| fun y1_1 =>
bnd (decide (y1_1 ≥ 0)) fun x22 =>
some (x22 : Bool)).bind <| fun y2_1_1 =>
(show Option (Int × Int) from
cond y2_1_1 ((d_ops_bounds a1.Kind 73).bind fun x24 =>
some ((x24.1 : Int), (x24.2 : Int))) (some ((0 : Int), (0 : Int)))).bind <| p2 fun (y3_1_1 : Int) (y3_2_1 : Int) =>
(show Option ((Unit)) from
some ()).bind <| fun _ =>
(show Option (Bool) from
bnd (decide (a1.Item < y3_1_1)) fun x27 =>
cond x27 (some (true : Bool)) (bnd (decide (a1.Item > y3_2_1)) fun x28 =>
some (x28 : Bool))).bind <| fun y5_1_1 =>
cond y5_1_1 (some ((false : Bool))) ((show Option ((Bool)) from
(show Option ((Int)) from
(d_strings_IndexByte x7 76).bind fun x31 =>
some (x31 : Int)).bind <| fun y1_1 =>
bnd (decide (y1_1 ≥ 0)) fun x32 =>
some (x32 : Bool)).bind <| fun y2_1_2 =>
(show Option (Int × Int) from
cond y2_1_2 ((d_ops_bounds a1.Kind 76).bind fun x34 =>
some ((x34.1 : Int), (x34.2 : Int))) (some ((0 : Int), (0 : Int)))).bind <| p2 fun (y3_1_2 : Int) (y3_2_2 : Int) =>
(show Option ((Unit)) from
some ()).bind <| fun _ =>
(show Option (Bool) from
bnd (decide (a1.Loc < y3_1_2)) fun x37 =>
cond x37 (some (true : Bool)) (bnd (decide (a1.Loc > y3_2_2)) fun x38 =>
some (x38 : Bool))).bind <| fun y5_1_2 =>
cond y5_1_2 (some ((false : Bool))) ((show Option ((Bool)) from
(show Option ((Int)) from
(d_strings_IndexByte x7 84).bind fun x41 =>
some (x41 : Int)).bind <| fun y1_1 =>
bnd (decide (y1_1 ≥ 0)) fun x42 =>
some (x42 : Bool)).bind <| fun y2_1_3 =>
(show Option (Int × Int) from
cond y2_1_3 ((d_ops_bounds a1.Kind 84).bind fun x44 =>
some ((x44.1 : Int), (x44.2 : Int))) (some ((0 : Int), (0 : Int)))).bind <| p2 fun (y3_1_3 : Int) (y3_2_3 : Int) =>
(show Option ((Unit)) from
some ()).bind <| fun _ =>
(show Option (Bool) from
bnd (decide (a1.To < y3_1_3)) fun x47 =>
cond x47 (some (true : Bool)) (bnd (decide (a1.To > y3_2_3)) fun x48 =>
some (x48 : Bool))).bind <| fun y5_1_3 =>
cond y5_1_3 (some ((false : Bool))) ((show Option ((Bool)) from
(show Option ((Int)) from
(d_strings_IndexByte x7 81).bind fun x51 =>
some (x51 : Int)).bind <| fun y1_1 =>
bnd (decide (y1_1 ≥ 0)) fun x52 =>
some (x52 : Bool)).bind <| fun y2_1_4 =>
(show Option (Int × Int) from
cond y2_1_4 ((d_ops_bounds a1.Kind 81).bind fun x54 =>
some ((x54.1 : Int), (x54.2 : Int))) (some ((0 : Int), (0 : Int)))).bind <| p2 fun (y3_1_4 : Int) (y3_2_4 : Int) =>
(show Option ((Unit)) from
some ()).bind <| fun _ =>
(show Option (Bool) from
bnd (decide (a1.Qty < y3_1_4)) fun x57 =>
cond x57 (some (true : Bool)) (bnd (decide (a1.Qty > y3_2_4)) fun x58 =>
some (x58 : Bool))).bind <| fun y5_1_4 =>
cond y5_1_4 (some ((false : Bool))) ((show Option ((Bool)) from
(show Option ((Int)) from
(d_strings_IndexByte x7 65).bind fun x61 =>
some (x61 : Int)).bind <| fun y1_1 =>
bnd (decide (y1_1 ≥ 0)) fun x62 =>
some (x62 : Bool)).bind <| fun y2_1_5 =>
(show Option (Int × Int) from
cond y2_1_5 ((d_ops_bounds a1.Kind 65).bind fun x64 =>
some ((x64.1 : Int), (x64.2 : Int))) (some ((0 : Int), (0 : Int)))).bind <| p2 fun (y3_1_5 : Int) (y3_2_5 : Int) =>
(show Option ((Unit)) from
some ()).bind <| fun _ =>
(show Option (Bool) from
bnd (decide (a1.Amount < y3_1_5)) fun x67 =>
cond x67 (some (true : Bool)) (bnd (decide (a1.Amount > y3_2_5)) fun x68 =>
some (x68 : Bool))).bind <| fun y5_1_5 =>
cond y5_1_5 (some ((false : Bool))) ((show Option ((Bool)) from
(show Option ((Int)) from
(d_strings_IndexByte x7 82).bind fun x71 =>
some (x71 : Int)).bind <| fun y1_1 =>
bnd (decide (y1_1 ≥ 0)) fun x72 =>
some (x72 : Bool)).bind <| fun y2_1_6 =>
(show Option (Int × Int) from
cond y2_1_6 ((d_ops_bounds a1.Kind 82).bind fun x74 =>
some ((x74.1 : Int), (x74.2 : Int))) (some ((0 : Int), (0 : Int)))).bind <| p2 fun (y3_1_6 : Int) (y3_2_6 : Int) =>
(show Option ((Unit)) from
some ()).bind <| fun _ =>
(show Option (Bool) from
bnd (decide (a1.Ref < y3_1_6)) fun x77 =>
cond x77 (some (true : Bool)) (bnd (decide (a1.Ref > y3_2_6)) fun x78 =>
some (x78 : Bool))).bind <| fun y5_1_6 =>
cond y5_1_6 (some ((false : Bool))) (bnd (decide (a1.Kind = 11)) fun x79 =>
cond x79 ((d_ops_refs n a1.Refs).bind fun x91 =>
some ((x91 : Bool))) ((show Option (Bool) from
bnd (decide ((a1.Refs.length : Int) = 0)) fun x81 =>
cond x81 (bnd (decide (a1.Kind = 8)) fun x82 =>
cond x82 (bnd (decide (a1.To = a1.Loc)) fun x86 =>
bnd (!x86) fun x87 =>
cond x87 (bnd (decide (a1.Kind = 12)) fun x88 =>
cond x88 (bnd (decide (a1.To = a1.E)) fun x89 =>
bnd (!x89) fun x90 =>
some (x90 : Bool)) (some (true : Bool))) (some (false : Bool))) (bnd (decide (a1.Kind = 12)) fun x83 =>
cond x83 (bnd (decide (a1.To = a1.E)) fun x84 =>
bnd (!x84) fun x85 =>
some (x85 : Bool)) (some (true : Bool)))) (some (false : Bool))).bind <| fun y6_1 =>
some ((y6_1 : Bool)))))))))))
theorem d_ops_Check_c {n : Nat} {a1 : GOp} {r : Bool} (h0 : d_ops_Check n a1 = some r) : PP Try.prog 8 [.agg (GOp.av a1)] (fun y => y = boo r) := by
  unfold d_ops_Check at h0
  refine pp_of_pc (R0 := fun y H => Cv (frzH H) y (boo r)) ?_ (fun y H hc => ⟨_, rfl, pvB r, hc⟩)
  refine pcw (c := _) Try.func8 rfl rfl ?_; intro Q hret hnorm
  refine tc tbk 2 (.mk ?_)
  refine sB 1 fun v2 => ?_
  refine tr tbk 4 (.mk ?_)
  refine jn h0 [1, 2] [1] (fun (a : Bool) (k : Unit) => [(16, boo a)]) (fun a k => []) ⟨fun j3 h1 => ?_, ?_⟩
  refine tc tbk 3 (.mk ?_)
  refine nb tbk h1 fun x4 h1 => ?_
  refine tr tbk 1 (.mk ?_)
  cases x4
  replace h1 := cf h1
  refine tr tbk 2 (.mk ?_)
  refine nb tbk h1 fun x5 h1 => ?_
  refine tr tbk 2 (.mk ?_)
  exact lf h1 () leA
  replace h1 := ct h1
  refine tr tbk 5 (.mk ?_)
  exact lf h1 () leA
  rintro y0_1 _ h0
  cases y0_1
  replace h0 := cf h0
  refine tc tbk 3 (.mk ?_)
  refine c_drawE [0, 0, 2, 7, 15] (rl [(1, [1]), (2, [1])] []) (fun i => [1]) (fun i => true) [0, 1, 2, 3, 4] mixed (by kernel_rfl) ?_; intro K hK
  obtain ⟨x6, e6, h0⟩ := bind_e h0
  refine eP (fun H hH => yv_callP rfl rfl .nil cal20 (CvL.refl _) (d_ops_forms_c e6)) ?_
  refine eF fo28_0 ?_
  refine eL sh3 ?_
  obtain ⟨x7, e7, h0⟩ := bind_e h0
  refine eP (fun H hH => yv_indexAT (g := fS) (l := ([x6.a0, x6.a1, x6.a2, x6.a3, x6.a4, x6.a5, x6.a6, x6.a7, x6.a8, x6.a9, x6.a10, x6.a11, x6.a12, x6.a13, x6.a14, x6.a15, x6.a16] : List (List UInt8))) (v := x7) (w := str x7) rfl Try.underlying46 sh45 rfl rfl rfl e7 (fun _ => rfl) hw1) ?_
  refine eA ?_
  refine de_nil (hK _ ?_)
  refine tc tbk 1 (.mk ?_)
  refine w_range rfl rfl rfl rfl rfl rfl rfl rfl ?_
  refine rgi_end rfl rfl rfl rfl Try.underlying9 rfl fun b8 => ⟨rfl, ?_⟩
  refine tc tbk 20 (.mk ?_)
  obtain ⟨j9, h1, h0⟩ := bind_e h0
  refine rse (Out := fun y H' => (∃ (a : Bool) (k : Unit), a = j9 ∧ y = boo a ∧ H' = hk [(1, ⟨28, 9, true, true, v2, [[int a1.Kind, int a1.E, int a1.Item, int a1.Loc, int a1.To, int a1.Qty, int a1.Amount, int a1.Ref, lst 1 fI a1.Refs]]⟩)])) rfl rfl rfl (yl_call rfl rfl (.cons rfl (.cons rfl .nil)) cal21 ?_) ?_
  refine pcw (c := _) Try.func21 rfl rfl ?_; intro Q hret hnorm
  refine tc tbk 8 (.mk ?_)
  obtain ⟨j10, h2, h1⟩ := bind_e h1
  refine rse (Out := fun y H' => (∃ (a : Int) (k : Unit), a = j10 ∧ y = int a ∧ H' = hk [(1, ⟨28, 9, true, true, v2, [[int a1.Kind, int a1.E, int a1.Item, int a1.Loc, int a1.To, int a1.Qty, int a1.Amount, int a1.Ref, lst 1 fI a1.Refs]]⟩)])) rfl rfl rfl (yl_call rfl rfl (.cons rfl (.cons rfl .nil)) cal46 ?_) ?_
  refine pcw (c := _) Try.func46 rfl rfl ?_; intro Q hret hnorm
  refine tc tbk 8 (.mk ?_)
  refine sY (yv_to (y := boo true) (yv_leq rfl rfl rfl) (congrArg boo (by decide))) ?_
  refine tr tbk 2 (.mk ?_)
  refine sY (yv_to (y := boo true) (yv_lss rfl rfl rfl) (congrArg boo (by decide))) ?_
  refine tr tbk 8 (.mk ?_)
  refine sY (yv_convInt (r := 69) rfl Try.underlying21 Try.underlying5 rfl (by decide)) ?_
  obtain ⟨x11, e11, h2⟩ := bind_e h2
  refine sC cal58 (d_strings_IndexByte_c e11) ?_
  refine tr tbk 2 (.mk ?_)
  obtain rfl := nxt_e h2
  refine w_ret (hret _ _ (hk [(1, ⟨28, 9, true, true, v2, [[int a1.Kind, int a1.E, int a1.Item, int a1.Loc, int a1.To, int a1.Qty, int a1.Amount, int a1.Ref, lst 1 fI a1.Refs]]⟩)]) (.tmp rfl .nil) (HK.le ⟨rfl, trivial⟩) ?_)
  exact ⟨x11, (), rfl, rfl, rfl⟩
  rintro y _ ⟨y1_1, _, rfl, hc, rfl⟩
  subst hc
  refine nb tbk h1 fun x12 h1 => ?_
  refine tr tbk 2 (.mk ?_)
  obtain rfl := nxt_e h1
  refine w_ret (hret _ _ (hk [(1, ⟨28, 9, true, true, v2, [[int a1.Kind, int a1.E, int a1.Item, int a1.Loc, int a1.To, int a1.Qty, int a1.Amount, int a1.Ref, lst 1 fI a1.Refs]]⟩)]) (.tmp rfl .nil) (HK.le ⟨rfl, trivial⟩) ?_)
  exact ⟨x12, (), rfl, rfl, rfl⟩
  rintro y _ ⟨y2_1, _, rfl, hc, rfl⟩
  subst hc
  refine tr tbk 1 (.mk ?_)
  refine jn h0 [1, 2, 3, 5, 21, 22, 23] [1] (fun (a : Int × Int) (k : Unit) => [(6, int a.1), (7, int a.2)]) (fun a k => []) ⟨fun j13 h1 => ?_, ?_⟩
  cases y2_1
  replace h1 := cf h1
  refine tc tbk 2 (.mk ?_)
  exact lf h1 () leA
  replace h1 := ct h1
  refine tc tbk 5 (.mk ?_)
  obtain ⟨x14, e14, h1⟩ := bind_e h1
  refine sC cal22 (d_ops_bounds_c e14) ?_
  refine tr tbk 6 (.mk ?_)
  exact lf h1 () leA
  rintro ⟨y3_1, y3_2⟩ _ h0
  replace h0 := p2_e h0
  refine tc tbk 3 (.mk ?_)
  obtain ⟨j15, h1, h0⟩ := bind_e h0
  refine rse (Out := fun y H' => (∃ (a : Unit) (k : Unit), a = j15 ∧ y = .pt 1 v2 0 1 ∧ H' = hk [(1, ⟨28, 9, true, true, v2, [[int a1.Kind, int a1.E, int a1.Item, int a1.Loc, int a1.To, int a1.Qty, int a1.Amount, int a1.Ref, lst 1 fI a1.Refs]]⟩)])) rfl rfl rfl (yl_call rfl rfl (.cons rfl (.cons rfl .nil)) cal23 ?_) ?_
  refine pcw (c := _) Try.func23 rfl rfl ?_; intro Q hret hnorm
  refine tc tbk 12 (.mk ?_)
  refine sY (yv_to (y := boo true) (yv_eql rfl rfl rfl) (congrArg boo (by decide))) ?_
  refine tr tbk 10 (.mk ?_)
  obtain rfl := nxt_e h1
  refine w_ret (hret _ _ (hk [(1, ⟨28, 9, true, true, v2, [[int a1.Kind, int a1.E, int a1.Item, int a1.Loc, int a1.To, int a1.Qty, int a1.Amount, int a1.Ref, lst 1 fI a1.Refs]]⟩)]) (.tmp rfl .nil) (HK.le ⟨rfl, trivial⟩) ?_)
  exact ⟨(), (), rfl, rfl, rfl⟩
  rintro y _ ⟨_, _, rfl, hc, rfl⟩
  subst hc
  refine tr tbk 5 (.mk ?_)
  refine jn h0 [1, 2, 3, 21, 22, 23] [1] (fun (a : Bool) (k : Unit) => [(46, boo a)]) (fun a k => []) ⟨fun j16 h1 => ?_, ?_⟩
  refine tc tbk 3 (.mk ?_)
  refine nb tbk h1 fun x17 h1 => ?_
  refine tr tbk 1 (.mk ?_)
  cases x17
  replace h1 := cf h1
  refine tr tbk 2 (.mk ?_)
  refine nb tbk h1 fun x18 h1 => ?_
  refine tr tbk 2 (.mk ?_)
  exact lf h1 () leA
  replace h1 := ct h1
  refine tr tbk 5 (.mk ?_)
  exact lf h1 () leA
  rintro y5_1 _ h0
  cases y5_1
  replace h0 := cf h0
  refine tc tbk 23 (.mk ?_)
  obtain ⟨j19, h1, h0⟩ := bind_e h0
  refine rse (Out := fun y H' => (∃ (a : Bool) (k : Unit), a = j19 ∧ y = boo a ∧ H' = hk [(1, ⟨28, 9, true, true, v2, [[int a1.Kind, int a1.E, int a1.Item, int a1.Loc, int a1.To, int a1.Qty, int a1.Amount, int a1.Ref, lst 1 fI a1.Refs]]⟩)])) rfl rfl rfl (yl_call rfl rfl (.cons rfl (.cons rfl .nil)) cal21 ?_) ?_
  refine pcw (c := _) Try.func21 rfl rfl ?_; intro Q hret hnorm
  refine tc tbk 8 (.mk ?_)
  obtain ⟨j20, h2, h1⟩ := bind_e h1
  refine rse (Out := fun y H' => (∃ (a : Int) (k : Unit), a = j20 ∧ y = int a ∧ H' = hk [(1, ⟨28, 9, true, true, v2, [[int a1.Kind, int a1.E, int a1.Item, int a1.Loc, int a1.To, int a1.Qty, int a1.Amount, int a1.Ref, lst 1 fI a1.Refs]]⟩)])) rfl rfl rfl (yl_call rfl rfl (.cons rfl (.cons rfl .nil)) cal46 ?_) ?_
  refine pcw (c := _) Try.func46 rfl rfl ?_; intro Q hret hnorm
  refine tc tbk 8 (.mk ?_)
  refine sY (yv_to (y := boo true) (yv_leq rfl rfl rfl) (congrArg boo (by decide))) ?_
  refine tr tbk 2 (.mk ?_)
  refine sY (yv_to (y := boo true) (yv_lss rfl rfl rfl) (congrArg boo (by decide))) ?_
  refine tr tbk 8 (.mk ?_)
  refine sY (yv_convInt (r := 73) rfl Try.underlying21 Try.underlying5 rfl (by decide)) ?_
  obtain ⟨x21, e21, h2⟩ := bind_e h2
  refine sC cal58 (d_strings_IndexByte_c e21) ?_
  refine tr tbk 2 (.mk ?_)
  obtain rfl := nxt_e h2
  refine w_ret (hret _ _ (hk [(1, ⟨28, 9, true, true, v2, [[int a1.Kind, int a1.E, int a1.Item, int a1.Loc, int a1.To, int a1.Qty, int a1.Amount, int a1.Ref, lst 1 fI a1.Refs]]⟩)]) (.tmp rfl .nil) (HK.le ⟨rfl, trivial⟩) ?_)
  exact ⟨x21, (), rfl, rfl, rfl⟩
  rintro y _ ⟨y1_1, _, rfl, hc, rfl⟩
  subst hc
  refine nb tbk h1 fun x22 h1 => ?_
  refine tr tbk 2 (.mk ?_)
  obtain rfl := nxt_e h1
  refine w_ret (hret _ _ (hk [(1, ⟨28, 9, true, true, v2, [[int a1.Kind, int a1.E, int a1.Item, int a1.Loc, int a1.To, int a1.Qty, int a1.Amount, int a1.Ref, lst 1 fI a1.Refs]]⟩)]) (.tmp rfl .nil) (HK.le ⟨rfl, trivial⟩) ?_)
  exact ⟨x22, (), rfl, rfl, rfl⟩
  rintro y _ ⟨y2_1_1, _, rfl, hc, rfl⟩
  subst hc
  refine tr tbk 1 (.mk ?_)
  refine jn h0 [1, 2, 3, 5, 21, 22, 23] [1] (fun (a : Int × Int) (k : Unit) => [(6, int a.1), (7, int a.2)]) (fun a k => []) ⟨fun j23 h1 => ?_, ?_⟩
  cases y2_1_1
  replace h1 := cf h1
  refine tc tbk 2 (.mk ?_)
  exact lf h1 () leA
  replace h1 := ct h1
  refine tc tbk 5 (.mk ?_)
  obtain ⟨x24, e24, h1⟩ := bind_e h1
  refine sC cal22 (d_ops_bounds_c e24) ?_
  refine tr tbk 6 (.mk ?_)
  exact lf h1 () leA
  rintro ⟨y3_1_1, y3_2_1⟩ _ h0
  replace h0 := p2_e h0
  refine tc tbk 3 (.mk ?_)
  obtain ⟨j25, h1, h0⟩ := bind_e h0
  refine rse (Out := fun y H' => (∃ (a : Unit) (k : Unit), a = j25 ∧ y = .pt 1 v2 0 2 ∧ H' = hk [(1, ⟨28, 9, true, true, v2, [[int a1.Kind, int a1.E, int a1.Item, int a1.Loc, int a1.To, int a1.Qty, int a1.Amount, int a1.Ref, lst 1 fI a1.Refs]]⟩)])) rfl rfl rfl (yl_call rfl rfl (.cons rfl (.cons rfl .nil)) cal23 ?_) ?_
  refine pcw (c := _) Try.func23 rfl rfl ?_; intro Q hret hnorm
  refine tc tbk 12 (.mk ?_)
  refine sY (yv_to (y := boo false) (yv_eql rfl rfl rfl) (congrArg boo (by decide))) ?_
  refine tr tbk 5 (.mk ?_)
  refine sY (yv_to (y := boo true) (yv_eql rfl rfl rfl) (congrArg boo (by decide))) ?_
  refine tr tbk 10 (.mk ?_)
  obtain rfl := nxt_e h1
  refine w_ret (hret _ _ (hk [(1, ⟨28, 9, true, true, v2, [[int a1.Kind, int a1.E, int a1.Item, int a1.Loc, int a1.To, int a1.Qty, int a1.Amount, int a1.Ref, lst 1 fI a1.Refs]]⟩)]) (.tmp rfl .nil) (HK.le ⟨rfl, trivial⟩) ?_)
  exact ⟨(), (), rfl, rfl, rfl⟩
  rintro y _ ⟨_, _, rfl, hc, rfl⟩
  subst hc
  refine tr tbk 5 (.mk ?_)
  refine jn h0 [1, 2, 3, 21, 22, 23] [1] (fun (a : Bool) (k : Unit) => [(46, boo a)]) (fun a k => []) ⟨fun j26 h1 => ?_, ?_⟩
  refine tc tbk 3 (.mk ?_)
  refine nb tbk h1 fun x27 h1 => ?_
  refine tr tbk 1 (.mk ?_)
  cases x27
  replace h1 := cf h1
  refine tr tbk 2 (.mk ?_)
  refine nb tbk h1 fun x28 h1 => ?_
  refine tr tbk 2 (.mk ?_)
  exact lf h1 () leA
  replace h1 := ct h1
  refine tr tbk 5 (.mk ?_)
  exact lf h1 () leA
  rintro y5_1_1 _ h0
  cases y5_1_1
  replace h0 := cf h0
  refine tc tbk 23 (.mk ?_)
  obtain ⟨j29, h1, h0⟩ := bind_e h0
  refine rse (Out := fun y H' => (∃ (a : Bool) (k : Unit), a = j29 ∧ y = boo a ∧ H' = hk [(1, ⟨28, 9, true, true, v2, [[int a1.Kind, int a1.E, int a1.Item, int a1.Loc, int a1.To, int a1.Qty, int a1.Amount, int a1.Ref, lst 1 fI a1.Refs]]⟩)])) rfl rfl rfl (yl_call rfl rfl (.cons rfl (.cons rfl .nil)) cal21 ?_) ?_
  refine pcw (c := _) Try.func21 rfl rfl ?_; intro Q hret hnorm
  refine tc tbk 8 (.mk ?_)
  obtain ⟨j30, h2, h1⟩ := bind_e h1
  refine rse (Out := fun y H' => (∃ (a : Int) (k : Unit), a = j30 ∧ y = int a ∧ H' = hk [(1, ⟨28, 9, true, true, v2, [[int a1.Kind, int a1.E, int a1.Item, int a1.Loc, int a1.To, int a1.Qty, int a1.Amount, int a1.Ref, lst 1 fI a1.Refs]]⟩)])) rfl rfl rfl (yl_call rfl rfl (.cons rfl (.cons rfl .nil)) cal46 ?_) ?_
  refine pcw (c := _) Try.func46 rfl rfl ?_; intro Q hret hnorm
  refine tc tbk 8 (.mk ?_)
  refine sY (yv_to (y := boo true) (yv_leq rfl rfl rfl) (congrArg boo (by decide))) ?_
  refine tr tbk 2 (.mk ?_)
  refine sY (yv_to (y := boo true) (yv_lss rfl rfl rfl) (congrArg boo (by decide))) ?_
  refine tr tbk 8 (.mk ?_)
  refine sY (yv_convInt (r := 76) rfl Try.underlying21 Try.underlying5 rfl (by decide)) ?_
  obtain ⟨x31, e31, h2⟩ := bind_e h2
  refine sC cal58 (d_strings_IndexByte_c e31) ?_
  refine tr tbk 2 (.mk ?_)
  obtain rfl := nxt_e h2
  refine w_ret (hret _ _ (hk [(1, ⟨28, 9, true, true, v2, [[int a1.Kind, int a1.E, int a1.Item, int a1.Loc, int a1.To, int a1.Qty, int a1.Amount, int a1.Ref, lst 1 fI a1.Refs]]⟩)]) (.tmp rfl .nil) (HK.le ⟨rfl, trivial⟩) ?_)
  exact ⟨x31, (), rfl, rfl, rfl⟩
  rintro y _ ⟨y1_1, _, rfl, hc, rfl⟩
  subst hc
  refine nb tbk h1 fun x32 h1 => ?_
  refine tr tbk 2 (.mk ?_)
  obtain rfl := nxt_e h1
  refine w_ret (hret _ _ (hk [(1, ⟨28, 9, true, true, v2, [[int a1.Kind, int a1.E, int a1.Item, int a1.Loc, int a1.To, int a1.Qty, int a1.Amount, int a1.Ref, lst 1 fI a1.Refs]]⟩)]) (.tmp rfl .nil) (HK.le ⟨rfl, trivial⟩) ?_)
  exact ⟨x32, (), rfl, rfl, rfl⟩
  rintro y _ ⟨y2_1_2, _, rfl, hc, rfl⟩
  subst hc
  refine tr tbk 1 (.mk ?_)
  refine jn h0 [1, 2, 3, 5, 21, 22, 23] [1] (fun (a : Int × Int) (k : Unit) => [(6, int a.1), (7, int a.2)]) (fun a k => []) ⟨fun j33 h1 => ?_, ?_⟩
  cases y2_1_2
  replace h1 := cf h1
  refine tc tbk 2 (.mk ?_)
  exact lf h1 () leA
  replace h1 := ct h1
  refine tc tbk 5 (.mk ?_)
  obtain ⟨x34, e34, h1⟩ := bind_e h1
  refine sC cal22 (d_ops_bounds_c e34) ?_
  refine tr tbk 6 (.mk ?_)
  exact lf h1 () leA
  rintro ⟨y3_1_2, y3_2_2⟩ _ h0
  replace h0 := p2_e h0
  refine tc tbk 3 (.mk ?_)
  obtain ⟨j35, h1, h0⟩ := bind_e h0
  refine rse (Out := fun y H' => (∃ (a : Unit) (k : Unit), a = j35 ∧ y = .pt 1 v2 0 3 ∧ H' = hk [(1, ⟨28, 9, true, true, v2, [[int a1.Kind, int a1.E, int a1.Item, int a1.Loc, int a1.To, int a1.Qty, int a1.Amount, int a1.Ref, lst 1 fI a1.Refs]]⟩)])) rfl rfl rfl (yl_call rfl rfl (.cons rfl (.cons rfl .nil)) cal23 ?_) ?_
  refine pcw (c := _) Try.func23 rfl rfl ?_; intro Q hret hnorm
  refine tc tbk 12 (.mk ?_)
  refine sY (yv_to (y := boo false) (yv_eql rfl rfl rfl) (congrArg boo (by decide))) ?_
  refine tr tbk 5 (.mk ?_)
  refine sY (yv_to (y := boo false) (yv_eql rfl rfl rfl) (congrArg boo (by decide))) ?_
  refine tr tbk 5 (.mk ?_)
  refine sY (yv_to (y := boo true) (yv_eql rfl rfl rfl) (congrArg boo (by decide))) ?_
  refine tr tbk 10 (.mk ?_)
  obtain rfl := nxt_e h1
  refine w_ret (hret _ _ (hk [(1, ⟨28, 9, true, true, v2, [[int a1.Kind, int a1.E, int a1.Item, int a1.Loc, int a1.To, int a1.Qty, int a1.Amount, int a1.Ref, lst 1 fI a1.Refs]]⟩)]) (.tmp rfl .nil) (HK.le ⟨rfl, trivial⟩) ?_)
  exact ⟨(), (), rfl, rfl, rfl⟩
  rintro y _ ⟨_, _, rfl, hc, rfl⟩
  subst hc
  refine tr tbk 5 (.mk ?_)
  refine jn h0 [1, 2, 3, 21, 22, 23] [1] (fun (a : Bool) (k : Unit) => [(46, boo a)]) (fun a k => []) ⟨fun j36 h1 => ?_, ?_⟩
  refine tc tbk 3 (.mk ?_)
  refine nb tbk h1 fun x37 h1 => ?_
  refine tr tbk 1 (.mk ?_)
  cases x37
  replace h1 := cf h1
  refine tr tbk 2 (.mk ?_)
  refine nb tbk h1 fun x38 h1 => ?_
  refine tr tbk 2 (.mk ?_)
  exact lf h1 () leA
  replace h1 := ct h1
  refine tr tbk 5 (.mk ?_)
  exact lf h1 () leA
  rintro y5_1_2 _ h0
  cases y5_1_2
  replace h0 := cf h0
  refine tc tbk 23 (.mk ?_)
  obtain ⟨j39, h1, h0⟩ := bind_e h0
  refine rse (Out := fun y H' => (∃ (a : Bool) (k : Unit), a = j39 ∧ y = boo a ∧ H' = hk [(1, ⟨28, 9, true, true, v2, [[int a1.Kind, int a1.E, int a1.Item, int a1.Loc, int a1.To, int a1.Qty, int a1.Amount, int a1.Ref, lst 1 fI a1.Refs]]⟩)])) rfl rfl rfl (yl_call rfl rfl (.cons rfl (.cons rfl .nil)) cal21 ?_) ?_
  refine pcw (c := _) Try.func21 rfl rfl ?_; intro Q hret hnorm
  refine tc tbk 8 (.mk ?_)
  obtain ⟨j40, h2, h1⟩ := bind_e h1
  refine rse (Out := fun y H' => (∃ (a : Int) (k : Unit), a = j40 ∧ y = int a ∧ H' = hk [(1, ⟨28, 9, true, true, v2, [[int a1.Kind, int a1.E, int a1.Item, int a1.Loc, int a1.To, int a1.Qty, int a1.Amount, int a1.Ref, lst 1 fI a1.Refs]]⟩)])) rfl rfl rfl (yl_call rfl rfl (.cons rfl (.cons rfl .nil)) cal46 ?_) ?_
  refine pcw (c := _) Try.func46 rfl rfl ?_; intro Q hret hnorm
  refine tc tbk 8 (.mk ?_)
  refine sY (yv_to (y := boo true) (yv_leq rfl rfl rfl) (congrArg boo (by decide))) ?_
  refine tr tbk 2 (.mk ?_)
  refine sY (yv_to (y := boo true) (yv_lss rfl rfl rfl) (congrArg boo (by decide))) ?_
  refine tr tbk 8 (.mk ?_)
  refine sY (yv_convInt (r := 84) rfl Try.underlying21 Try.underlying5 rfl (by decide)) ?_
  obtain ⟨x41, e41, h2⟩ := bind_e h2
  refine sC cal58 (d_strings_IndexByte_c e41) ?_
  refine tr tbk 2 (.mk ?_)
  obtain rfl := nxt_e h2
  refine w_ret (hret _ _ (hk [(1, ⟨28, 9, true, true, v2, [[int a1.Kind, int a1.E, int a1.Item, int a1.Loc, int a1.To, int a1.Qty, int a1.Amount, int a1.Ref, lst 1 fI a1.Refs]]⟩)]) (.tmp rfl .nil) (HK.le ⟨rfl, trivial⟩) ?_)
  exact ⟨x41, (), rfl, rfl, rfl⟩
  rintro y _ ⟨y1_1, _, rfl, hc, rfl⟩
  subst hc
  refine nb tbk h1 fun x42 h1 => ?_
  refine tr tbk 2 (.mk ?_)
  obtain rfl := nxt_e h1
  refine w_ret (hret _ _ (hk [(1, ⟨28, 9, true, true, v2, [[int a1.Kind, int a1.E, int a1.Item, int a1.Loc, int a1.To, int a1.Qty, int a1.Amount, int a1.Ref, lst 1 fI a1.Refs]]⟩)]) (.tmp rfl .nil) (HK.le ⟨rfl, trivial⟩) ?_)
  exact ⟨x42, (), rfl, rfl, rfl⟩
  rintro y _ ⟨y2_1_3, _, rfl, hc, rfl⟩
  subst hc
  refine tr tbk 1 (.mk ?_)
  refine jn h0 [1, 2, 3, 5, 21, 22, 23] [1] (fun (a : Int × Int) (k : Unit) => [(6, int a.1), (7, int a.2)]) (fun a k => []) ⟨fun j43 h1 => ?_, ?_⟩
  cases y2_1_3
  replace h1 := cf h1
  refine tc tbk 2 (.mk ?_)
  exact lf h1 () leA
  replace h1 := ct h1
  refine tc tbk 5 (.mk ?_)
  obtain ⟨x44, e44, h1⟩ := bind_e h1
  refine sC cal22 (d_ops_bounds_c e44) ?_
  refine tr tbk 6 (.mk ?_)
  exact lf h1 () leA
  rintro ⟨y3_1_3, y3_2_3⟩ _ h0
  replace h0 := p2_e h0
  refine tc tbk 3 (.mk ?_)
  obtain ⟨j45, h1, h0⟩ := bind_e h0
  refine rse (Out := fun y H' => (∃ (a : Unit) (k : Unit), a = j45 ∧ y = .pt 1 v2 0 4 ∧ H' = hk [(1, ⟨28, 9, true, true, v2, [[int a1.Kind, int a1.E, int a1.Item, int a1.Loc, int a1.To, int a1.Qty, int a1.Amount, int a1.Ref, lst 1 fI a1.Refs]]⟩)])) rfl rfl rfl (yl_call rfl rfl (.cons rfl (.cons rfl .nil)) cal23 ?_) ?_
  refine pcw (c := _) Try.func23 rfl rfl ?_; intro Q hret hnorm
  refine tc tbk 12 (.mk ?_)
  refine sY (yv_to (y := boo false) (yv_eql rfl rfl rfl) (congrArg boo (by decide))) ?_
  refine tr tbk 5 (.mk ?_)
  refine sY (yv_to (y := boo false) (yv_eql rfl rfl rfl) (congrArg boo (by decide))) ?_
  refine tr tbk 5 (.mk ?_)
  refine sY (yv_to (y := boo false) (yv_eql rfl rfl rfl) (congrArg boo (by decide))) ?_
  refine tr tbk 5 (.mk ?_)
  refine sY (yv_to (y := boo true) (yv_eql rfl rfl rfl) (congrArg boo (by decide))) ?_
  refine tr tbk 10 (.mk ?_)
  obtain rfl := nxt_e h1
  refine w_ret (hret _ _ (hk [(1, ⟨28, 9, true, true, v2, [[int a1.Kind, int a1.E, int a1.Item, int a1.Loc, int a1.To, int a1.Qty, int a1.Amount, int a1.Ref, lst 1 fI a1.Refs]]⟩)]) (.tmp rfl .nil) (HK.le ⟨rfl, trivial⟩) ?_)
  exact ⟨(), (), rfl, rfl, rfl⟩
  rintro y _ ⟨_, _, rfl, hc, rfl⟩
  subst hc
  refine tr tbk 5 (.mk ?_)
  refine jn h0 [1, 2, 3, 21, 22, 23] [1] (fun (a : Bool) (k : Unit) => [(46, boo a)]) (fun a k => []) ⟨fun j46 h1 => ?_, ?_⟩
  refine tc tbk 3 (.mk ?_)
  refine nb tbk h1 fun x47 h1 => ?_
  refine tr tbk 1 (.mk ?_)
  cases x47
  replace h1 := cf h1
  refine tr tbk 2 (.mk ?_)
  refine nb tbk h1 fun x48 h1 => ?_
  refine tr tbk 2 (.mk ?_)
  exact lf h1 () leA
  replace h1 := ct h1
  refine tr tbk 5 (.mk ?_)
  exact lf h1 () leA
  rintro y5_1_3 _ h0
  cases y5_1_3
  replace h0 := cf h0
  refine tc tbk 23 (.mk ?_)
  obtain ⟨j49, h1, h0⟩ := bind_e h0
  refine rse (Out := fun y H' => (∃ (a : Bool) (k : Unit), a = j49 ∧ y = boo a ∧ H' = hk [(1, ⟨28, 9, true, true, v2, [[int a1.Kind, int a1.E, int a1.Item, int a1.Loc, int a1.To, int a1.Qty, int a1.Amount, int a1.Ref, lst 1 fI a1.Refs]]⟩)])) rfl rfl rfl (yl_call rfl rfl (.cons rfl (.cons rfl .nil)) cal21 ?_) ?_
  refine pcw (c := _) Try.func21 rfl rfl ?_; intro Q hret hnorm
  refine tc tbk 8 (.mk ?_)
  obtain ⟨j50, h2, h1⟩ := bind_e h1
  refine rse (Out := fun y H' => (∃ (a : Int) (k : Unit), a = j50 ∧ y = int a ∧ H' = hk [(1, ⟨28, 9, true, true, v2, [[int a1.Kind, int a1.E, int a1.Item, int a1.Loc, int a1.To, int a1.Qty, int a1.Amount, int a1.Ref, lst 1 fI a1.Refs]]⟩)])) rfl rfl rfl (yl_call rfl rfl (.cons rfl (.cons rfl .nil)) cal46 ?_) ?_
  refine pcw (c := _) Try.func46 rfl rfl ?_; intro Q hret hnorm
  refine tc tbk 8 (.mk ?_)
  refine sY (yv_to (y := boo true) (yv_leq rfl rfl rfl) (congrArg boo (by decide))) ?_
  refine tr tbk 2 (.mk ?_)
  refine sY (yv_to (y := boo true) (yv_lss rfl rfl rfl) (congrArg boo (by decide))) ?_
  refine tr tbk 8 (.mk ?_)
  refine sY (yv_convInt (r := 81) rfl Try.underlying21 Try.underlying5 rfl (by decide)) ?_
  obtain ⟨x51, e51, h2⟩ := bind_e h2
  refine sC cal58 (d_strings_IndexByte_c e51) ?_
  refine tr tbk 2 (.mk ?_)
  obtain rfl := nxt_e h2
  refine w_ret (hret _ _ (hk [(1, ⟨28, 9, true, true, v2, [[int a1.Kind, int a1.E, int a1.Item, int a1.Loc, int a1.To, int a1.Qty, int a1.Amount, int a1.Ref, lst 1 fI a1.Refs]]⟩)]) (.tmp rfl .nil) (HK.le ⟨rfl, trivial⟩) ?_)
  exact ⟨x51, (), rfl, rfl, rfl⟩
  rintro y _ ⟨y1_1, _, rfl, hc, rfl⟩
  subst hc
  refine nb tbk h1 fun x52 h1 => ?_
  refine tr tbk 2 (.mk ?_)
  obtain rfl := nxt_e h1
  refine w_ret (hret _ _ (hk [(1, ⟨28, 9, true, true, v2, [[int a1.Kind, int a1.E, int a1.Item, int a1.Loc, int a1.To, int a1.Qty, int a1.Amount, int a1.Ref, lst 1 fI a1.Refs]]⟩)]) (.tmp rfl .nil) (HK.le ⟨rfl, trivial⟩) ?_)
  exact ⟨x52, (), rfl, rfl, rfl⟩
  rintro y _ ⟨y2_1_4, _, rfl, hc, rfl⟩
  subst hc
  refine tr tbk 1 (.mk ?_)
  refine jn h0 [1, 2, 3, 5, 21, 22, 23] [1] (fun (a : Int × Int) (k : Unit) => [(6, int a.1), (7, int a.2)]) (fun a k => []) ⟨fun j53 h1 => ?_, ?_⟩
  cases y2_1_4
  replace h1 := cf h1
  refine tc tbk 2 (.mk ?_)
  exact lf h1 () leA
  replace h1 := ct h1
  refine tc tbk 5 (.mk ?_)
  obtain ⟨x54, e54, h1⟩ := bind_e h1
  refine sC cal22 (d_ops_bounds_c e54) ?_
  refine tr tbk 6 (.mk ?_)
  exact lf h1 () leA
  rintro ⟨y3_1_4, y3_2_4⟩ _ h0
  replace h0 := p2_e h0
  refine tc tbk 3 (.mk ?_)
  obtain ⟨j55, h1, h0⟩ := bind_e h0
  refine rse (Out := fun y H' => (∃ (a : Unit) (k : Unit), a = j55 ∧ y = .pt 1 v2 0 5 ∧ H' = hk [(1, ⟨28, 9, true, true, v2, [[int a1.Kind, int a1.E, int a1.Item, int a1.Loc, int a1.To, int a1.Qty, int a1.Amount, int a1.Ref, lst 1 fI a1.Refs]]⟩)])) rfl rfl rfl (yl_call rfl rfl (.cons rfl (.cons rfl .nil)) cal23 ?_) ?_
  refine pcw (c := _) Try.func23 rfl rfl ?_; intro Q hret hnorm
  refine tc tbk 12 (.mk ?_)
  refine sY (yv_to (y := boo false) (yv_eql rfl rfl rfl) (congrArg boo (by decide))) ?_
  refine tr tbk 5 (.mk ?_)
  refine sY (yv_to (y := boo false) (yv_eql rfl rfl rfl) (congrArg boo (by decide))) ?_
  refine tr tbk 5 (.mk ?_)
  refine sY (yv_to (y := boo false) (yv_eql rfl rfl rfl) (congrArg boo (by decide))) ?_
  refine tr tbk 5 (.mk ?_)
  refine sY (yv_to (y := boo false) (yv_eql rfl rfl rfl) (congrArg boo (by decide))) ?_
  refine tr tbk 5 (.mk ?_)
  refine sY (yv_to (y := boo true) (yv_eql rfl rfl rfl) (congrArg boo (by decide))) ?_
  refine tr tbk 10 (.mk ?_)
  obtain rfl := nxt_e h1
  refine w_ret (hret _ _ (hk [(1, ⟨28, 9, true, true, v2, [[int a1.Kind, int a1.E, int a1.Item, int a1.Loc, int a1.To, int a1.Qty, int a1.Amount, int a1.Ref, lst 1 fI a1.Refs]]⟩)]) (.tmp rfl .nil) (HK.le ⟨rfl, trivial⟩) ?_)
  exact ⟨(), (), rfl, rfl, rfl⟩
  rintro y _ ⟨_, _, rfl, hc, rfl⟩
  subst hc
  refine tr tbk 5 (.mk ?_)
  refine jn h0 [1, 2, 3, 21, 22, 23] [1] (fun (a : Bool) (k : Unit) => [(46, boo a)]) (fun a k => []) ⟨fun j56 h1 => ?_, ?_⟩
  refine tc tbk 3 (.mk ?_)
  refine nb tbk h1 fun x57 h1 => ?_
  refine tr tbk 1 (.mk ?_)
  cases x57
  replace h1 := cf h1
  refine tr tbk 2 (.mk ?_)
  refine nb tbk h1 fun x58 h1 => ?_
  refine tr tbk 2 (.mk ?_)
  exact lf h1 () leA
  replace h1 := ct h1
  refine tr tbk 5 (.mk ?_)
  exact lf h1 () leA
  rintro y5_1_4 _ h0
  cases y5_1_4
  replace h0 := cf h0
  refine tc tbk 23 (.mk ?_)
  obtain ⟨j59, h1, h0⟩ := bind_e h0
  refine rse (Out := fun y H' => (∃ (a : Bool) (k : Unit), a = j59 ∧ y = boo a ∧ H' = hk [(1, ⟨28, 9, true, true, v2, [[int a1.Kind, int a1.E, int a1.Item, int a1.Loc, int a1.To, int a1.Qty, int a1.Amount, int a1.Ref, lst 1 fI a1.Refs]]⟩)])) rfl rfl rfl (yl_call rfl rfl (.cons rfl (.cons rfl .nil)) cal21 ?_) ?_
  refine pcw (c := _) Try.func21 rfl rfl ?_; intro Q hret hnorm
  refine tc tbk 8 (.mk ?_)
  obtain ⟨j60, h2, h1⟩ := bind_e h1
  refine rse (Out := fun y H' => (∃ (a : Int) (k : Unit), a = j60 ∧ y = int a ∧ H' = hk [(1, ⟨28, 9, true, true, v2, [[int a1.Kind, int a1.E, int a1.Item, int a1.Loc, int a1.To, int a1.Qty, int a1.Amount, int a1.Ref, lst 1 fI a1.Refs]]⟩)])) rfl rfl rfl (yl_call rfl rfl (.cons rfl (.cons rfl .nil)) cal46 ?_) ?_
  refine pcw (c := _) Try.func46 rfl rfl ?_; intro Q hret hnorm
  refine tc tbk 8 (.mk ?_)
  refine sY (yv_to (y := boo true) (yv_leq rfl rfl rfl) (congrArg boo (by decide))) ?_
  refine tr tbk 2 (.mk ?_)
  refine sY (yv_to (y := boo true) (yv_lss rfl rfl rfl) (congrArg boo (by decide))) ?_
  refine tr tbk 8 (.mk ?_)
  refine sY (yv_convInt (r := 65) rfl Try.underlying21 Try.underlying5 rfl (by decide)) ?_
  obtain ⟨x61, e61, h2⟩ := bind_e h2
  refine sC cal58 (d_strings_IndexByte_c e61) ?_
  refine tr tbk 2 (.mk ?_)
  obtain rfl := nxt_e h2
  refine w_ret (hret _ _ (hk [(1, ⟨28, 9, true, true, v2, [[int a1.Kind, int a1.E, int a1.Item, int a1.Loc, int a1.To, int a1.Qty, int a1.Amount, int a1.Ref, lst 1 fI a1.Refs]]⟩)]) (.tmp rfl .nil) (HK.le ⟨rfl, trivial⟩) ?_)
  exact ⟨x61, (), rfl, rfl, rfl⟩
  rintro y _ ⟨y1_1, _, rfl, hc, rfl⟩
  subst hc
  refine nb tbk h1 fun x62 h1 => ?_
  refine tr tbk 2 (.mk ?_)
  obtain rfl := nxt_e h1
  refine w_ret (hret _ _ (hk [(1, ⟨28, 9, true, true, v2, [[int a1.Kind, int a1.E, int a1.Item, int a1.Loc, int a1.To, int a1.Qty, int a1.Amount, int a1.Ref, lst 1 fI a1.Refs]]⟩)]) (.tmp rfl .nil) (HK.le ⟨rfl, trivial⟩) ?_)
  exact ⟨x62, (), rfl, rfl, rfl⟩
  rintro y _ ⟨y2_1_5, _, rfl, hc, rfl⟩
  subst hc
  refine tr tbk 1 (.mk ?_)
  refine jn h0 [1, 2, 3, 5, 21, 22, 23] [1] (fun (a : Int × Int) (k : Unit) => [(6, int a.1), (7, int a.2)]) (fun a k => []) ⟨fun j63 h1 => ?_, ?_⟩
  cases y2_1_5
  replace h1 := cf h1
  refine tc tbk 2 (.mk ?_)
  exact lf h1 () leA
  replace h1 := ct h1
  refine tc tbk 5 (.mk ?_)
  obtain ⟨x64, e64, h1⟩ := bind_e h1
  refine sC cal22 (d_ops_bounds_c e64) ?_
  refine tr tbk 6 (.mk ?_)
  exact lf h1 () leA
  rintro ⟨y3_1_5, y3_2_5⟩ _ h0
  replace h0 := p2_e h0
  refine tc tbk 3 (.mk ?_)
  obtain ⟨j65, h1, h0⟩ := bind_e h0
  refine rse (Out := fun y H' => (∃ (a : Unit) (k : Unit), a = j65 ∧ y = .pt 1 v2 0 6 ∧ H' = hk [(1, ⟨28, 9, true, true, v2, [[int a1.Kind, int a1.E, int a1.Item, int a1.Loc, int a1.To, int a1.Qty, int a1.Amount, int a1.Ref, lst 1 fI a1.Refs]]⟩)])) rfl rfl rfl (yl_call rfl rfl (.cons rfl (.cons rfl .nil)) cal23 ?_) ?_
  refine pcw (c := _) Try.func23 rfl rfl ?_; intro Q hret hnorm
  refine tc tbk 12 (.mk ?_)
  refine sY (yv_to (y := boo false) (yv_eql rfl rfl rfl) (congrArg boo (by decide))) ?_
  refine tr tbk 5 (.mk ?_)
  refine sY (yv_to (y := boo false) (yv_eql rfl rfl rfl) (congrArg boo (by decide))) ?_
  refine tr tbk 5 (.mk ?_)
  refine sY (yv_to (y := boo false) (yv_eql rfl rfl rfl) (congrArg boo (by decide))) ?_
  refine tr tbk 5 (.mk ?_)
  refine sY (yv_to (y := boo false) (yv_eql rfl rfl rfl) (congrArg boo (by decide))) ?_
  refine tr tbk 5 (.mk ?_)
  refine sY (yv_to (y := boo false) (yv_eql rfl rfl rfl) (congrArg boo (by decide))) ?_
  refine tr tbk 5 (.mk ?_)
  refine sY (yv_to (y := boo true) (yv_eql rfl rfl rfl) (congrArg boo (by decide))) ?_
  refine tr tbk 10 (.mk ?_)
  obtain rfl := nxt_e h1
  refine w_ret (hret _ _ (hk [(1, ⟨28, 9, true, true, v2, [[int a1.Kind, int a1.E, int a1.Item, int a1.Loc, int a1.To, int a1.Qty, int a1.Amount, int a1.Ref, lst 1 fI a1.Refs]]⟩)]) (.tmp rfl .nil) (HK.le ⟨rfl, trivial⟩) ?_)
  exact ⟨(), (), rfl, rfl, rfl⟩
  rintro y _ ⟨_, _, rfl, hc, rfl⟩
  subst hc
  refine tr tbk 5 (.mk ?_)
  refine jn h0 [1, 2, 3, 21, 22, 23] [1] (fun (a : Bool) (k : Unit) => [(46, boo a)]) (fun a k => []) ⟨fun j66 h1 => ?_, ?_⟩
  refine tc tbk 3 (.mk ?_)
  refine nb tbk h1 fun x67 h1 => ?_
  refine tr tbk 1 (.mk ?_)
  cases x67
  replace h1 := cf h1
  refine tr tbk 2 (.mk ?_)
  refine nb tbk h1 fun x68 h1 => ?_
  refine tr tbk 2 (.mk ?_)
  exact lf h1 () leA
  replace h1 := ct h1
  refine tr tbk 5 (.mk ?_)
  exact lf h1 () leA
  rintro y5_1_5 _ h0
  cases y5_1_5
  replace h0 := cf h0
  refine tc tbk 23 (.mk ?_)
  obtain ⟨j69, h1, h0⟩ := bind_e h0
  refine rse (Out := fun y H' => (∃ (a : Bool) (k : Unit), a = j69 ∧ y = boo a ∧ H' = hk [(1, ⟨28, 9, true, true, v2, [[int a1.Kind, int a1.E, int a1.Item, int a1.Loc, int a1.To, int a1.Qty, int a1.Amount, int a1.Ref, lst 1 fI a1.Refs]]⟩)])) rfl rfl rfl (yl_call rfl rfl (.cons rfl (.cons rfl .nil)) cal21 ?_) ?_
  refine pcw (c := _) Try.func21 rfl rfl ?_; intro Q hret hnorm
  refine tc tbk 8 (.mk ?_)
  obtain ⟨j70, h2, h1⟩ := bind_e h1
  refine rse (Out := fun y H' => (∃ (a : Int) (k : Unit), a = j70 ∧ y = int a ∧ H' = hk [(1, ⟨28, 9, true, true, v2, [[int a1.Kind, int a1.E, int a1.Item, int a1.Loc, int a1.To, int a1.Qty, int a1.Amount, int a1.Ref, lst 1 fI a1.Refs]]⟩)])) rfl rfl rfl (yl_call rfl rfl (.cons rfl (.cons rfl .nil)) cal46 ?_) ?_
  refine pcw (c := _) Try.func46 rfl rfl ?_; intro Q hret hnorm
  refine tc tbk 8 (.mk ?_)
  refine sY (yv_to (y := boo true) (yv_leq rfl rfl rfl) (congrArg boo (by decide))) ?_
  refine tr tbk 2 (.mk ?_)
  refine sY (yv_to (y := boo true) (yv_lss rfl rfl rfl) (congrArg boo (by decide))) ?_
  refine tr tbk 8 (.mk ?_)
  refine sY (yv_convInt (r := 82) rfl Try.underlying21 Try.underlying5 rfl (by decide)) ?_
  obtain ⟨x71, e71, h2⟩ := bind_e h2
  refine sC cal58 (d_strings_IndexByte_c e71) ?_
  refine tr tbk 2 (.mk ?_)
  obtain rfl := nxt_e h2
  refine w_ret (hret _ _ (hk [(1, ⟨28, 9, true, true, v2, [[int a1.Kind, int a1.E, int a1.Item, int a1.Loc, int a1.To, int a1.Qty, int a1.Amount, int a1.Ref, lst 1 fI a1.Refs]]⟩)]) (.tmp rfl .nil) (HK.le ⟨rfl, trivial⟩) ?_)
  exact ⟨x71, (), rfl, rfl, rfl⟩
  rintro y _ ⟨y1_1, _, rfl, hc, rfl⟩
  subst hc
  refine nb tbk h1 fun x72 h1 => ?_
  refine tr tbk 2 (.mk ?_)
  obtain rfl := nxt_e h1
  refine w_ret (hret _ _ (hk [(1, ⟨28, 9, true, true, v2, [[int a1.Kind, int a1.E, int a1.Item, int a1.Loc, int a1.To, int a1.Qty, int a1.Amount, int a1.Ref, lst 1 fI a1.Refs]]⟩)]) (.tmp rfl .nil) (HK.le ⟨rfl, trivial⟩) ?_)
  exact ⟨x72, (), rfl, rfl, rfl⟩
  rintro y _ ⟨y2_1_6, _, rfl, hc, rfl⟩
  subst hc
  refine tr tbk 1 (.mk ?_)
  refine jn h0 [1, 2, 3, 5, 21, 22, 23] [1] (fun (a : Int × Int) (k : Unit) => [(6, int a.1), (7, int a.2)]) (fun a k => []) ⟨fun j73 h1 => ?_, ?_⟩
  cases y2_1_6
  replace h1 := cf h1
  refine tc tbk 2 (.mk ?_)
  exact lf h1 () leA
  replace h1 := ct h1
  refine tc tbk 5 (.mk ?_)
  obtain ⟨x74, e74, h1⟩ := bind_e h1
  refine sC cal22 (d_ops_bounds_c e74) ?_
  refine tr tbk 6 (.mk ?_)
  exact lf h1 () leA
  rintro ⟨y3_1_6, y3_2_6⟩ _ h0
  replace h0 := p2_e h0
  refine tc tbk 3 (.mk ?_)
  obtain ⟨j75, h1, h0⟩ := bind_e h0
  refine rse (Out := fun y H' => (∃ (a : Unit) (k : Unit), a = j75 ∧ y = .pt 1 v2 0 7 ∧ H' = hk [(1, ⟨28, 9, true, true, v2, [[int a1.Kind, int a1.E, int a1.Item, int a1.Loc, int a1.To, int a1.Qty, int a1.Amount, int a1.Ref, lst 1 fI a1.Refs]]⟩)])) rfl rfl rfl (yl_call rfl rfl (.cons rfl (.cons rfl .nil)) cal23 ?_) ?_
  refine pcw (c := _) Try.func23 rfl rfl ?_; intro Q hret hnorm
  refine tc tbk 12 (.mk ?_)
  refine sY (yv_to (y := boo false) (yv_eql rfl rfl rfl) (congrArg boo (by decide))) ?_
  refine tr tbk 5 (.mk ?_)
  refine sY (yv_to (y := boo false) (yv_eql rfl rfl rfl) (congrArg boo (by decide))) ?_
  refine tr tbk 5 (.mk ?_)
  refine sY (yv_to (y := boo false) (yv_eql rfl rfl rfl) (congrArg boo (by decide))) ?_
  refine tr tbk 5 (.mk ?_)
  refine sY (yv_to (y := boo false) (yv_eql rfl rfl rfl) (congrArg boo (by decide))) ?_
  refine tr tbk 5 (.mk ?_)
  refine sY (yv_to (y := boo false) (yv_eql rfl rfl rfl) (congrArg boo (by decide))) ?_
  refine tr tbk 5 (.mk ?_)
  refine sY (yv_to (y := boo false) (yv_eql rfl rfl rfl) (congrArg boo (by decide))) ?_
  refine tr tbk 12 (.mk ?_)
  obtain rfl := nxt_e h1
  refine w_ret (hret _ _ (hk [(1, ⟨28, 9, true, true, v2, [[int a1.Kind, int a1.E, int a1.Item, int a1.Loc, int a1.To, int a1.Qty, int a1.Amount, int a1.Ref, lst 1 fI a1.Refs]]⟩)]) (.tmp rfl .nil) (HK.le ⟨rfl, trivial⟩) ?_)
  exact ⟨(), (), rfl, rfl, rfl⟩
  rintro y _ ⟨_, _, rfl, hc, rfl⟩
  subst hc
  refine tr tbk 5 (.mk ?_)
  refine jn h0 [1, 2, 3, 21, 22, 23] [1] (fun (a : Bool) (k : Unit) => [(46, boo a)]) (fun a k => []) ⟨fun j76 h1 => ?_, ?_⟩
  refine tc tbk 3 (.mk ?_)
  refine nb tbk h1 fun x77 h1 => ?_
  refine tr tbk 1 (.mk ?_)
  cases x77
  replace h1 := cf h1
  refine tr tbk 2 (.mk ?_)
  refine nb tbk h1 fun x78 h1 => ?_
  refine tr tbk 2 (.mk ?_)
  exact lf h1 () leA
  replace h1 := ct h1
  refine tr tbk 5 (.mk ?_)
  exact lf h1 () leA
  rintro y5_1_6 _ h0
  cases y5_1_6
  replace h0 := cf h0
  refine tc tbk 12 (.mk ?_)
  refine nb tbk h0 fun x79 h0 => ?_
  refine tr tbk 1 (.mk ?_)
  cases x79
  replace h0 := cf h0
  refine tc tbk 3 (.mk ?_)
  refine jn h0 [] [] (fun (a : Bool) (k : Unit) => [(2, boo a)]) (fun a k => []) ⟨fun j80 h1 => ?_, ?_⟩
  refine tc tbk 3 (.mk ?_)
  refine sY (yv_len_sl rfl Try.underlying26 rfl (lst_len _)) ?_
  refine nb tbk h1 fun x81 h1 => ?_
  refine tr tbk 1 (.mk ?_)
  cases x81
  replace h1 := cf h1
  refine tr tbk 27 (.mk ?_)
  exact lf h1 () leA
  replace h1 := ct h1
  refine tr tbk 2 (.mk ?_)
  refine nb tbk h1 fun x82 h1 => ?_
  refine tr tbk 1 (.mk ?_)
  cases x82
  replace h1 := cf h1
  refine tr tbk 11 (.mk ?_)
  refine nb tbk h1 fun x83 h1 => ?_
  refine tr tbk 1 (.mk ?_)
  cases x83
  replace h1 := cf h1
  refine tr tbk 10 (.mk ?_)
  exact lf h1 () leA
  replace h1 := ct h1
  refine tr tbk 4 (.mk ?_)
  refine nb tbk h1 fun x84 h1 => ?_
  refine tr tbk 1 (.mk ?_)
  refine nb tbk h1 fun x85 h1 => ?_
  refine tr tbk 3 (.mk ?_)
  exact lf h1 () leA
  replace h1 := ct h1
  refine tr tbk 4 (.mk ?_)
  refine nb tbk h1 fun x86 h1 => ?_
  refine tr tbk 1 (.mk ?_)
  refine nb tbk h1 fun x87 h1 => ?_
  refine tr tbk 2 (.mk ?_)
  cases x87
  replace h1 := cf h1
  refine tr tbk 14 (.mk ?_)
  exact lf h1 () leA
  replace h1 := ct h1
  refine tr tbk 2 (.mk ?_)
  refine nb tbk h1 fun x88 h1 => ?_
  refine tr tbk 1 (.mk ?_)
  cases x88
  replace h1 := cf h1
  refine tr tbk 10 (.mk ?_)
  exact lf h1 () leA
  replace h1 := ct h1
  refine tr tbk 4 (.mk ?_)
  refine nb tbk h1 fun x89 h1 => ?_
  refine tr tbk 1 (.mk ?_)
  refine nb tbk h1 fun x90 h1 => ?_
  refine tr tbk 3 (.mk ?_)
  exact lf h1 () leA
  rintro y6_1 _ h0
  obtain rfl := nxt_e h0
  refine wR hret (rT .nil) ?_
  exact .refl _
  replace h0 := ct h0
  refine tc tbk 5 (.mk ?_)
  obtain ⟨x91, e91, h0⟩ := bind_e h0
  refine sC cal24 (d_ops_refs_c e91) ?_
  refine tr tbk 2 (.mk ?_)
  obtain rfl := nxt_e h0
  refine wR hret (rT .nil) ?_
  exact .refl _
  replace h0 := ct h0
  refine tc tbk 5 (.mk ?_)
  obtain rfl := nxt_e h0
  refine wR hret (rT .nil) ?_
  exact .refl _
  replace h0 := ct h0
  refine tc tbk 5 (.mk ?_)
  obtain rfl := nxt_e h0
  refine wR hret (rT .nil) ?_
  exact .refl _
  replace h0 := ct h0
  refine tc tbk 5 (.mk ?_)
  obtain rfl := nxt_e h0
  refine wR hret (rT .nil) ?_
  exact .refl _
  replace h0 := ct h0
  refine tc tbk 5 (.mk ?_)
  obtain rfl := nxt_e h0
  refine wR hret (rT .nil) ?_
  exact .refl _
  replace h0 := ct h0
  refine tc tbk 5 (.mk ?_)
  obtain rfl := nxt_e h0
  refine wR hret (rT .nil) ?_
  exact .refl _
  replace h0 := ct h0
  refine tc tbk 5 (.mk ?_)
  obtain rfl := nxt_e h0
  refine wR hret (rT .nil) ?_
  exact .refl _
  replace h0 := ct h0
  refine tc tbk 5 (.mk ?_)
  obtain rfl := nxt_e h0
  refine wR hret (rT .nil) ?_
  exact .refl _
  replace h0 := ct h0
  refine tc tbk 5 (.mk ?_)
  obtain rfl := nxt_e h0
  refine wR hret (rT .nil) ?_
  exact .refl _
theorem forms20_c : PP Try.prog 20 [] (fun y => y = .agg [str ([] : List UInt8), str ([69, 73, 76, 81, 65] : List UInt8), str ([81, 65, 82] : List UInt8), str ([81, 82] : List UInt8), str ([69, 73, 76, 81, 65] : List UInt8), str ([81, 65, 82] : List UInt8), str ([69, 73, 76, 81] : List UInt8), str ([69, 73, 76, 81] : List UInt8), str ([69, 73, 76, 84, 81] : List UInt8), str ([69, 73, 65] : List UInt8), str ([69, 73, 65] : List UInt8), str ([84, 65, 83] : List UInt8), str ([69, 73, 76, 84, 81, 65] : List UInt8), str ([76, 81, 82] : List UInt8), str ([69] : List UInt8), str ([69] : List UInt8), str ([69] : List UInt8)]) := d_ops_forms_c (r := (⟨([] : List UInt8), ([69, 73, 76, 81, 65] : List UInt8), ([81, 65, 82] : List UInt8), ([81, 82] : List UInt8), ([69, 73, 76, 81, 65] : List UInt8), ([81, 65, 82] : List UInt8), ([69, 73, 76, 81] : List UInt8), ([69, 73, 76, 81] : List UInt8), ([69, 73, 76, 84, 81] : List UInt8), ([69, 73, 65] : List UInt8), ([69, 73, 65] : List UInt8), ([84, 65, 83] : List UInt8), ([69, 73, 76, 84, 81, 65] : List UInt8), ([76, 81, 82] : List UInt8), ([69] : List UInt8), ([69] : List UInt8), ([69] : List UInt8)⟩ : A17_List_UInt8)) rfl
def d_ops_Bytes_L0 (a1 : List GOp) : Nat → Int → (List UInt8) → Option (((List UInt8)) ⊕ ((List UInt8)))
  | 0, _, _ => none
  | n + 1, y0_1, y0_3 =>
    bnd (decide (y0_1 < (a1.length : Int))) fun x8 =>
    cond x8 ((show Option (((List UInt8)) ⊕ (((List UInt8)) ⊕ ((List UInt8)))) from
    (ix a1 y0_1).bind fun x10 =>
    (d_ops_Check n x10).bind fun x12 =>
    bnd (!x12) fun x13 =>
    cond x13 (esc (esc (some ((([] : List UInt8) : List UInt8))))) ((numD x10.Kind).bind fun x14 =>
    asrt (x14.length ≤ 1099511627776) <|
    asrt (y0_3.length ≤ 1099511627776) <|
    bnd (y0_3 ++ x14) fun x18 =>
    bnd (decide (x10.Kind = 0)) fun x19 =>
    cond x19 (brk (x18 : List UInt8)) (bnd (decide (x10.Kind = 1)) fun x20 =>
    cond x20 ((show Option ((Unit)) from
    some ()).bind <| fun _ =>
    (numD x10.E).bind fun x334 =>
    asrt (x334.length ≤ 1099511627776) <|
    asrt (x18.length ≤ 1099511627776) <|
    bnd (x18 ++ x334) fun x338 =>
    (show Option ((Unit)) from
    some ()).bind <| fun _ =>
    (numD x10.Item).bind fun x340 =>
    asrt (x340.length ≤ 1099511627776) <|
    asrt (x338.length ≤ 1099511627776) <|
    bnd (x338 ++ x340) fun x344 =>
    (show Option ((Unit)) from
    some ()).bind <| fun _ =>
    (numD x10.Loc).bind fun x346 =>
    asrt (x346.length ≤ 1099511627776) <|
    asrt (x344.length ≤ 1099511627776) <|
    bnd (x344 ++ x346) fun x350 =>
    (show Option ((Unit)) from
    some ()).bind <| fun _ =>
    (numD x10.Qty).bind fun x352 =>
    asrt (x352.length ≤ 1099511627776) <|
    asrt (x350.length ≤ 1099511627776) <|
    bnd (x350 ++ x352) fun x356 =>
    (show Option ((Unit)) from
    some ()).bind <| fun _ =>
    (numD x10.Amount).bind fun x358 =>
    asrt (x358.length ≤ 1099511627776) <|
    asrt (x356.length ≤ 1099511627776) <|
    bnd (x356 ++ x358) fun x362 =>
    brk (x362 : List UInt8)) (bnd (decide (x10.Kind = 2)) fun x21 =>
    cond x21 ((show Option ((Unit)) from
    some ()).bind <| fun _ =>
    (numD x10.Qty).bind fun x315 =>
    asrt (x315.length ≤ 1099511627776) <|
    asrt (x18.length ≤ 1099511627776) <|
    bnd (x18 ++ x315) fun x319 =>
    (show Option ((Unit)) from
    some ()).bind <| fun _ =>
    (numD x10.Amount).bind fun x321 =>
    asrt (x321.length ≤ 1099511627776) <|
    asrt (x319.length ≤ 1099511627776) <|
    bnd (x319 ++ x321) fun x325 =>
    (show Option ((Unit)) from
    some ()).bind <| fun _ =>
    (numD x10.Ref).bind fun x327 =>
    asrt (x327.length ≤ 1099511627776) <|
    asrt (x325.length ≤ 1099511627776) <|
    bnd (x325 ++ x327) fun x331 =>
    brk (x331 : List UInt8)) (bnd (decide (x10.Kind = 3)) fun x22 =>
    cond x22 ((show Option ((Unit)) from
    some ()).bind <| fun _ =>
    (numD x10.Qty).bind fun x302 =>
    asrt (x302.length ≤ 1099511627776) <|
    asrt (x18.length ≤ 1099511627776) <|
    bnd (x18 ++ x302) fun x306 =>
    (show Option ((Unit)) from
    some ()).bind <| fun _ =>
    (numD x10.Ref).bind fun x308 =>
    asrt (x308.length ≤ 1099511627776) <|
    asrt (x306.length ≤ 1099511627776) <|
    bnd (x306 ++ x308) fun x312 =>
    brk (x312 : List UInt8)) (bnd (decide (x10.Kind = 4)) fun x23 =>
    cond x23 ((show Option ((Unit)) from
    some ()).bind <| fun _ =>
    (numD x10.E).bind fun x271 =>
    asrt (x271.length ≤ 1099511627776) <|
    asrt (x18.length ≤ 1099511627776) <|
    bnd (x18 ++ x271) fun x275 =>
    (show Option ((Unit)) from
    some ()).bind <| fun _ =>
    (numD x10.Item).bind fun x277 =>
    asrt (x277.length ≤ 1099511627776) <|
    asrt (x275.length ≤ 1099511627776) <|
    bnd (x275 ++ x277) fun x281 =>
    (show Option ((Unit)) from
    some ()).bind <| fun _ =>
    (numD x10.Loc).bind fun x283 =>
    asrt (x283.length ≤ 1099511627776) <|
    asrt (x281.length ≤ 1099511627776) <|
    bnd (x281 ++ x283) fun x287 =>
    (show Option ((Unit)) from
    some ()).bind <| fun _ =>
    (numD x10.Qty).bind fun x289 =>
    asrt (x289.length ≤ 1099511627776) <|
    asrt (x287.length ≤ 1099511627776) <|
    bnd (x287 ++ x289) fun x293 =>
    (show Option ((Unit)) from
    some ()).bind <| fun _ =>
    (numD x10.Amount).bind fun x295 =>
    asrt (x295.length ≤ 1099511627776) <|
    asrt (x293.length ≤ 1099511627776) <|
    bnd (x293 ++ x295) fun x299 =>
    brk (x299 : List UInt8)) (bnd (decide (x10.Kind = 5)) fun x24 =>
    cond x24 ((show Option ((Unit)) from
    some ()).bind <| fun _ =>
    (numD x10.Qty).bind fun x252 =>
    asrt (x252.length ≤ 1099511627776) <|
    asrt (x18.length ≤ 1099511627776) <|
    bnd (x18 ++ x252) fun x256 =>
    (show Option ((Unit)) from
    some ()).bind <| fun _ =>
    (numD x10.Amount).bind fun x258 =>
    asrt (x258.length ≤ 1099511627776) <|
    asrt (x256.length ≤ 1099511627776) <|
    bnd (x256 ++ x258) fun x262 =>
    (show Option ((Unit)) from
    some ()).bind <| fun _ =>
    (numD x10.Ref).bind fun x264 =>
    asrt (x264.length ≤ 1099511627776) <|
    asrt (x262.length ≤ 1099511627776) <|
    bnd (x262 ++ x264) fun x268 =>
    brk (x268 : List UInt8)) (bnd (decide (x10.Kind = 6)) fun x25 =>
    cond x25 ((show Option ((Unit)) from
    some ()).bind <| fun _ =>
    (numD x10.E).bind fun x227 =>
    asrt (x227.length ≤ 1099511627776) <|
    asrt (x18.length ≤ 1099511627776) <|
    bnd (x18 ++ x227) fun x231 =>
    (show Option ((Unit)) from
    some ()).bind <| fun _ =>
    (numD x10.Item).bind fun x233 =>
    asrt (x233.length ≤ 1099511627776) <|
    asrt (x231.length ≤ 1099511627776) <|
    bnd (x231 ++ x233) fun x237 =>
    (show Option ((Unit)) from
    some ()).bind <| fun _ =>
    (numD x10.Loc).bind fun x239 =>
    asrt (x239.length ≤ 1099511627776) <|
    asrt (x237.length ≤ 1099511627776) <|
    bnd (x237 ++ x239) fun x243 =>
    (show Option ((Unit)) from
    some ()).bind <| fun _ =>
    (numD x10.Qty).bind fun x245 =>
    asrt (x245.length ≤ 1099511627776) <|
    asrt (x243.length ≤ 1099511627776) <|
    bnd (x243 ++ x245) fun x249 =>
    brk (x249 : List UInt8)) (bnd (decide (x10.Kind = 7)) fun x26 =>
    cond x26 ((show Option ((Unit)) from
    some ()).bind <| fun _ =>
    (numD x10.E).bind fun x202 =>
    asrt (x202.length ≤ 1099511627776) <|
    asrt (x18.length ≤ 1099511627776) <|
    bnd (x18 ++ x202) fun x206 =>
    (show Option ((Unit)) from
    some ()).bind <| fun _ =>
    (numD x10.Item).bind fun x208 =>
    asrt (x208.length ≤ 1099511627776) <|
    asrt (x206.length ≤ 1099511627776) <|
    bnd (x206 ++ x208) fun x212 =>
    (show Option ((Unit)) from
    some ()).bind <| fun _ =>
    (numD x10.Loc).bind fun x214 =>
    asrt (x214.length ≤ 1099511627776) <|
    asrt (x212.length ≤ 1099511627776) <|
    bnd (x212 ++ x214) fun x218 =>
    (show Option ((Unit)) from
    some ()).bind <| fun _ =>
    (numD x10.Qty).bind fun x220 =>
    asrt (x220.length ≤ 1099511627776) <|
    asrt (x218.length ≤ 1099511627776) <|
    bnd (x218 ++ x220) fun x224 =>
    brk (x224 : List UInt8)) (bnd (decide (x10.Kind = 8)) fun x27 =>
    cond x27 ((show Option ((Unit)) from
    some ()).bind <| fun _ =>
    (numD x10.E).bind fun x171 =>
    asrt (x171.length ≤ 1099511627776) <|
    asrt (x18.length ≤ 1099511627776) <|
    bnd (x18 ++ x171) fun x175 =>
    (show Option ((Unit)) from
    some ()).bind <| fun _ =>
    (numD x10.Item).bind fun x177 =>
    asrt (x177.length ≤ 1099511627776) <|
    asrt (x175.length ≤ 1099511627776) <|
    bnd (x175 ++ x177) fun x181 =>
    (show Option ((Unit)) from
    some ()).bind <| fun _ =>
    (numD x10.Loc).bind fun x183 =>
    asrt (x183.length ≤ 1099511627776) <|
    asrt (x181.length ≤ 1099511627776) <|
    bnd (x181 ++ x183) fun x187 =>
    (show Option ((Unit)) from
    some ()).bind <| fun _ =>
    (numD x10.To).bind fun x189 =>
    asrt (x189.length ≤ 1099511627776) <|
    asrt (x187.length ≤ 1099511627776) <|
    bnd (x187 ++ x189) fun x193 =>
    (show Option ((Unit)) from
    some ()).bind <| fun _ =>
    (numD x10.Qty).bind fun x195 =>
    asrt (x195.length ≤ 1099511627776) <|
    asrt (x193.length ≤ 1099511627776) <|
    bnd (x193 ++ x195) fun x199 =>
    brk (x199 : List UInt8)) (bnd (decide (x10.Kind = 9)) fun x28 =>
    cond x28 ((show Option ((Unit)) from
    some ()).bind <| fun _ =>
    (numD x10.E).bind fun x152 =>
    asrt (x152.length ≤ 1099511627776) <|
    asrt (x18.length ≤ 1099511627776) <|
    bnd (x18 ++ x152) fun x156 =>
    (show Option ((Unit)) from
    some ()).bind <| fun _ =>
    (numD x10.Item).bind fun x158 =>
    asrt (x158.length ≤ 1099511627776) <|
    asrt (x156.length ≤ 1099511627776) <|
    bnd (x156 ++ x158) fun x162 =>
    (show Option ((Unit)) from
    some ()).bind <| fun _ =>
    (numD x10.Amount).bind fun x164 =>
    asrt (x164.length ≤ 1099511627776) <|
    asrt (x162.length ≤ 1099511627776) <|
    bnd (x162 ++ x164) fun x168 =>
    brk (x168 : List UInt8)) (bnd (decide (x10.Kind = 10)) fun x29 =>
    cond x29 ((show Option ((Unit)) from
    some ()).bind <| fun _ =>
    (numD x10.E).bind fun x133 =>
    asrt (x133.length ≤ 1099511627776) <|
    asrt (x18.length ≤ 1099511627776) <|
    bnd (x18 ++ x133) fun x137 =>
    (show Option ((Unit)) from
    some ()).bind <| fun _ =>
    (numD x10.Item).bind fun x139 =>
    asrt (x139.length ≤ 1099511627776) <|
    asrt (x137.length ≤ 1099511627776) <|
    bnd (x137 ++ x139) fun x143 =>
    (show Option ((Unit)) from
    some ()).bind <| fun _ =>
    (numD x10.Amount).bind fun x145 =>
    asrt (x145.length ≤ 1099511627776) <|
    asrt (x143.length ≤ 1099511627776) <|
    bnd (x143 ++ x145) fun x149 =>
    brk (x149 : List UInt8)) (bnd (decide (x10.Kind = 11)) fun x30 =>
    cond x30 ((show Option ((Unit)) from
    some ()).bind <| fun _ =>
    (numD x10.To).bind fun x115 =>
    asrt (x115.length ≤ 1099511627776) <|
    asrt (x18.length ≤ 1099511627776) <|
    bnd (x18 ++ x115) fun x119 =>
    (show Option ((Unit)) from
    some ()).bind <| fun _ =>
    (numD x10.Amount).bind fun x121 =>
    asrt (x121.length ≤ 1099511627776) <|
    asrt (x119.length ≤ 1099511627776) <|
    bnd (x119 ++ x121) fun x125 =>
    (listD x10.Refs).bind fun x126 =>
    asrt (x126.length ≤ 1099511627776) <|
    asrt (x125.length ≤ 1099511627776) <|
    bnd (x125 ++ x126) fun x130 =>
    brk (x130 : List UInt8)) (bnd (decide (x10.Kind = 12)) fun x31 =>
    cond x31 ((show Option ((Unit)) from
    some ()).bind <| fun _ =>
    (numD x10.E).bind fun x78 =>
    asrt (x78.length ≤ 1099511627776) <|
    asrt (x18.length ≤ 1099511627776) <|
    bnd (x18 ++ x78) fun x82 =>
    (show Option ((Unit)) from
    some ()).bind <| fun _ =>
    (numD x10.Item).bind fun x84 =>
    asrt (x84.length ≤ 1099511627776) <|
    asrt (x82.length ≤ 1099511627776) <|
    bnd (x82 ++ x84) fun x88 =>
    (show Option ((Unit)) from
    some ()).bind <| fun _ =>
    (numD x10.Loc).bind fun x90 =>
    asrt (x90.length ≤ 1099511627776) <|
    asrt (x88.length ≤ 1099511627776) <|
    bnd (x88 ++ x90) fun x94 =>
    (show Option ((Unit)) from
    some ()).bind <| fun _ =>
    (numD x10.To).bind fun x96 =>
    asrt (x96.length ≤ 1099511627776) <|
    asrt (x94.length ≤ 1099511627776) <|
    bnd (x94 ++ x96) fun x100 =>
    (show Option ((Unit)) from
    some ()).bind <| fun _ =>
    (numD x10.Qty).bind fun x102 =>
    asrt (x102.length ≤ 1099511627776) <|
    asrt (x100.length ≤ 1099511627776) <|
    bnd (x100 ++ x102) fun x106 =>
    (show Option ((Unit)) from
    some ()).bind <| fun _ =>
    (numD x10.Amount).bind fun x108 =>
    asrt (x108.length ≤ 1099511627776) <|
    asrt (x106.length ≤ 1099511627776) <|
    bnd (x106 ++ x108) fun x112 =>
    brk (x112 : List UInt8)) (bnd (decide (x10.Kind = 13)) fun x32 =>
    cond x32 ((show Option ((Unit)) from
    some ()).bind <| fun _ =>
    (numD x10.Loc).bind fun x59 =>
    asrt (x59.length ≤ 1099511627776) <|
    asrt (x18.length ≤ 1099511627776) <|
    bnd (x18 ++ x59) fun x63 =>
    (show Option ((Unit)) from
    some ()).bind <| fun _ =>
    (numD x10.Qty).bind fun x65 =>
    asrt (x65.length ≤ 1099511627776) <|
    asrt (x63.length ≤ 1099511627776) <|
    bnd (x63 ++ x65) fun x69 =>
    (show Option ((Unit)) from
    some ()).bind <| fun _ =>
    (numD x10.Ref).bind fun x71 =>
    asrt (x71.length ≤ 1099511627776) <|
    asrt (x69.length ≤ 1099511627776) <|
    bnd (x69 ++ x71) fun x75 =>
    brk (x75 : List UInt8)) (bnd (decide (x10.Kind = 14)) fun x33 =>
    cond x33 ((show Option ((Unit)) from
    some ()).bind <| fun _ =>
    (numD x10.E).bind fun x52 =>
    asrt (x52.length ≤ 1099511627776) <|
    asrt (x18.length ≤ 1099511627776) <|
    bnd (x18 ++ x52) fun x56 =>
    brk (x56 : List UInt8)) (bnd (decide (x10.Kind = 15)) fun x34 =>
    cond x34 ((show Option ((Unit)) from
    some ()).bind <| fun _ =>
    (numD x10.E).bind fun x45 =>
    asrt (x45.length ≤ 1099511627776) <|
    asrt (x18.length ≤ 1099511627776) <|
    bnd (x18 ++ x45) fun x49 =>
    brk (x49 : List UInt8)) (asrt (x10.Kind = 16) <|
    (show Option ((Unit)) from
    some ()).bind <| fun _ =>
    (numD x10.E).bind fun x38 =>
    asrt (x38.length ≤ 1099511627776) <|
    asrt (x18.length ≤ 1099511627776) <|
    bnd (x18 ++ x38) fun x42 =>
    brk (x42 : List UInt8))))))))))))))))))).bind <| sel <| fun y2_2 =>
    bnd (w64 (y0_1 + 1)) fun x366 =>
    d_ops_Bytes_L0 a1 n (x366 : Int) (y2_2 : List UInt8)) (brk (y0_3 : List UInt8))
def d_ops_Bytes (n : Nat) (a1 : List GOp) : Option ((List UInt8)) :=
bnd (decide ((a1.length : Int) > 400)) fun x2 =>
asrt (x2 = false) <|
(numD (a1.length : Int)).bind fun x4 =>
asrt (x4.length ≤ 1099511627776) <|
(show Option (((List UInt8)) ⊕ ((List UInt8))) from
d_ops_Bytes_L0 a1 n (0 : Int) (x4 : List UInt8)).bind <| sel <| fun y4_2 =>
asrt (y4_2 ≠ []) <|
asrt (y4_2.length ≤ 1099511627776) <|
some ((y4_2 : List UInt8))
theorem d_ops_Bytes_c {n : Nat} {a1 : List GOp} {r : (List UInt8)} (h0 : d_ops_Bytes n a1 = some r) : PP Try.prog 14 [lst 9 GOp.av a1] (fun y => y = str r) := by
  unfold d_ops_Bytes at h0
  refine pp_of_pc (R0 := fun y H => Cv (frzH H) y (str r)) ?_ (fun y H hc => ⟨_, rfl, pvS r, hc⟩)
  refine pcw (c := _) Try.func14 rfl rfl ?_; intro Q hret hnorm
  refine tc tbk 8 (.mk ?_)
  refine sY (yv_len_sl rfl Try.underlying22 rfl (lst_len _)) ?_
  refine nb tbk h0 fun x2 h0 => ?_
  refine tr tbk 1 (.mk ?_)
  replace h0 := asrt_e h0
  obtain ⟨rfl, h0⟩ := h0
  refine tc tbk 4 (.mk ?_)
  refine sA 1 z72 fun v3 => ?_
  refine tr tbk 4 (.mk ?_)
  refine sY (yv_len_sl rfl Try.underlying22 rfl (lst_len _)) ?_
  obtain ⟨x4, e4, h0⟩ := bind_e h0
  refine sC cal40 (numD_c e4) ?_
  obtain ⟨p5, h0⟩ := asrt_e h0
  refine rse rfl rfl rfl (yl_call rfl rfl (.cons rfl (.cons rfl .nil)) cal39 (wstrN_c (id := 1) (ver := v3) (ib := 2) (t := x4) (by decide) rfl rfl p5)) ?_; rintro _ _ ⟨rfl, v6, rfl⟩
  refine tr tbk 5 (.mk ?_)
  refine sY (yv_len_sl rfl Try.underlying22 rfl (lst_len _)) ?_
  refine tr tbk 2 (.mk ?_)
  refine jnE h0 [2, 3] [] (fun (a : (List UInt8)) (k : Nat) => []) (fun a k => [(1, ⟨72, 2, true, true, v3, [[.pt 1 v3 0 0, .sl 2 k 0 a.length]]⟩), (2, ⟨5, 1, true, true, k, byteRows a⟩)]) ⟨fun j7 h1 h0 => ?_, ?_⟩
  refine tc tbk 1 (.mk ?_)
  refine lp (fun n (a : Int × (List UInt8)) => d_ops_Bytes_L0 a1 n a.1 a.2) ((0 : Int), (x4 : List UInt8)) v6 h1 [2, 3, 15, 16] [] (fun (a : Int × (List UInt8)) (k : Nat) => [(17, int a.1)]) (fun a k => [(1, ⟨72, 2, true, true, v3, [[.pt 1 v3 0 0, .sl 2 k 0 a.2.length]]⟩), (2, ⟨5, 1, true, true, k, byteRows a.2⟩)]) (fun _ => rfl) ⟨leA, ?_⟩
  rintro n ⟨y0_1, y0_3⟩ w0_2 hm h1
  replace h1 : d_ops_Bytes_L0 a1 (n + 1) y0_1 y0_3 = some _ := h1
  rw [d_ops_Bytes_L0] at h1
  refine tc tbk 2 (.mk ?_)
  refine nb tbk h1 fun x8 h1 => ?_
  refine tr tbk 2 (.mk ?_)
  cases x8
  replace h1 := cf h1
  refine tc tbk 2 (.mk ?_)
  exact lfE h1 w0_2 leA
  replace h1 := ct h1
  refine tc tbk 3 (.mk ?_)
  refine jnE h1 [2, 3, 15, 16, 17] [] (fun (a : (List UInt8)) (k : Nat) => []) (fun a k => [(1, ⟨72, 2, true, true, v3, [[.pt 1 v3 0 0, .sl 2 k 0 a.length]]⟩), (2, ⟨5, 1, true, true, k, byteRows a⟩)]) ⟨fun j9 h2 h1 => ?_, ?_⟩
  refine tc tbk 3 (.mk ?_)
  obtain ⟨x10, e10, h2⟩ := bind_e h2
  refine sY (yv_ixT rfl Try.underlying22 sh28 rfl rfl e10) ?_
  refine tr tbk 1 (.mk ?_)
  refine sA 3 z28 fun v11 => ?_
  refine sS ⟨28, 9, true, true, v11, [[int x10.Kind, int x10.E, int x10.Item, int x10.Loc, int x10.To, int x10.Qty, int x10.Amount, int x10.Ref, lst 1 fI x10.Refs]]⟩ sh28 ?_
  refine tr tbk 5 (.mk ?_)
  obtain ⟨x12, e12, h2⟩ := bind_e h2
  refine sC cal8 (d_ops_Check_c e12) ?_
  refine nb tbk h2 fun x13 h2 => ?_
  refine tr tbk 1 (.mk ?_)
  cases x13
  replace h2 := cf h2
  refine tc tbk 6 (.mk ?_)
  obtain ⟨x14, e14, h2⟩ := bind_e h2
  refine sC cal40 (numD_c e14) ?_
  obtain ⟨p15, h2⟩ := asrt_e h2
  obtain ⟨p17, h2⟩ := asrt_e h2
  obtain ⟨x18, e18, h2⟩ := bnd_e h2
  refine rse rfl rfl rfl (yl_call rfl rfl (.cons rfl (.cons rfl .nil)) cal39 (PC.mono (wstrS_c (id := 1) (ver := v3) (ib := 2) (vb := w0_2) (l := y0_3) (t := x14) (by decide) rfl rfl p17 p15) (R' := fun y H' => y = .tup [int (x14.length : Int), .sc .nilIface] ∧ ∃ vb', H' = upd (upd _ 2 (some (bufO 5 vb' x18))) 1 (some (bldO 72 1 v3 2 (some (vb', x18))))) (fun y H' h => by subst e18; exact h))) ?_; rintro _ _ ⟨rfl, v16, rfl⟩
  refine tr tbk 1 (.mk ?_)
  obtain ⟨x19, e19, h2⟩ := bnd_e h2
  cases x19
  replace h2 := cf h2
  obtain ⟨x20, e20, h2⟩ := bnd_e h2
  cases x20
  replace h2 := cf h2
  obtain ⟨x21, e21, h2⟩ := bnd_e h2
  cases x21
  replace h2 := cf h2
  obtain ⟨x22, e22, h2⟩ := bnd_e h2
  cases x22
  replace h2 := cf h2
  obtain ⟨x23, e23, h2⟩ := bnd_e h2
  cases x23
  replace h2 := cf h2
  obtain ⟨x24, e24, h2⟩ := bnd_e h2
  cases x24
  replace h2 := cf h2
  obtain ⟨x25, e25, h2⟩ := bnd_e h2
  cases x25
  replace h2 := cf h2
  obtain ⟨x26, e26, h2⟩ := bnd_e h2
  cases x26
  replace h2 := cf h2
  obtain ⟨x27, e27, h2⟩ := bnd_e h2
  cases x27
  replace h2 := cf h2
  obtain ⟨x28, e28, h2⟩ := bnd_e h2
  cases x28
  replace h2 := cf h2
  obtain ⟨x29, e29, h2⟩ := bnd_e h2
  cases x29
  replace h2 := cf h2
  obtain ⟨x30, e30, h2⟩ := bnd_e h2
  cases x30
  replace h2 := cf h2
  obtain ⟨x31, e31, h2⟩ := bnd_e h2
  cases x31
  replace h2 := cf h2
  obtain ⟨x32, e32, h2⟩ := bnd_e h2
  cases x32
  replace h2 := cf h2
  obtain ⟨x33, e33, h2⟩ := bnd_e h2
  cases x33
  replace h2 := cf h2
  obtain ⟨x34, e34, h2⟩ := bnd_e h2
  cases x34
  replace h2 := cf h2
  obtain ⟨p35, h2⟩ := asrt_e h2
  refine w_rangeD [0, 0, 2, 7, 15] (fun i => bif Nat.beq i 1 then ([3]) else bif Nat.beq i 2 then ([3]) else []) (fun i => [3]) 4 [0, 1, 2, 3] mixed (by kernel_rfl) rfl rfl rfl rfl rfl rfl rfl rfl rfl rfl rfl rfl rfl Try.underlying9 ?_
  refine eP (fun H hH => yv_callP rfl rfl .nil cal20 (CvL.refl _) forms20_c) ?_
  refine eF fo28_0 ?_
  refine eL sh3 ?_
  refine de_as 30 (int 16) rfl (congrArg int p35) ?_
  refine de_pure rfl rfl rfl rfl (fun H hH => yv_indexA rfl Try.underlying46 sh45 rfl rfl (by decide) rfl) ?_
  refine ⟨_, rfl, rfl, fun b36 => ?_⟩
  refine tc tbk 13 (.mk ?_)
  refine sY (yv_to (y := boo false) (yv_eql rfl rfl rfl) (congrArg boo (by decide))) ?_
  refine tr tbk 4 (.mk ?_)
  obtain ⟨j37, h3, h2⟩ := bind_e h2
  refine rse (Out := fun y H' => (∃ (a : Unit) (k : Unit), a = j37 ∧ y = .pt 3 v11 0 1 ∧ H' = hk [(1, ⟨72, 2, true, true, v3, [[.pt 1 v3 0 0, .sl 2 v16 0 x18.length]]⟩), (2, ⟨5, 1, true, true, v16, byteRows x18⟩), (3, ⟨28, 9, true, true, v11, [[int x10.Kind, int x10.E, int x10.Item, int x10.Loc, int x10.To, int x10.Qty, int x10.Amount, int x10.Ref, lst 1 fI x10.Refs]]⟩)])) rfl rfl rfl (yl_call rfl rfl (.cons rfl (.cons rfl .nil)) cal23 ?_) ?_
  refine pcw (c := _) Try.func23 rfl rfl ?_; intro Q hret hnorm
  refine tc tbk 12 (.mk ?_)
  refine sY (yv_to (y := boo true) (yv_eql rfl rfl rfl) (congrArg boo (by decide))) ?_
  refine tr tbk 10 (.mk ?_)
  obtain rfl := nxt_e h3
  refine w_ret (hret _ _ (hk [(1, ⟨72, 2, true, true, v3, [[.pt 1 v3 0 0, .sl 2 v16 0 x18.length]]⟩), (2, ⟨5, 1, true, true, v16, byteRows x18⟩), (3, ⟨28, 9, true, true, v11, [[int x10.Kind, int x10.E, int x10.Item, int x10.Loc, int x10.To, int x10.Qty, int x10.Amount, int x10.Ref, lst 1 fI x10.Refs]]⟩)]) (.tmp rfl .nil) (HK.le ⟨rfl, rfl, rfl, trivial⟩) ?_)
  exact ⟨(), (), rfl, rfl, rfl⟩
  rintro y _ ⟨_, _, rfl, hc, rfl⟩
  subst hc
  refine tr tbk 2 (.mk ?_)
  obtain ⟨x38, e38, h2⟩ := bind_e h2
  refine sC cal40 (numD_c e38) ?_
  obtain ⟨p39, h2⟩ := asrt_e h2
  obtain ⟨p41, h2⟩ := asrt_e h2
  obtain ⟨x42, e42, h2⟩ := bnd_e h2
  refine rse rfl rfl rfl (yl_call rfl rfl (.cons rfl (.cons rfl .nil)) cal39 (PC.mono (wstrS_c (id := 1) (ver := v3) (ib := 2) (vb := v16) (l := x18) (t := x38) (by decide) rfl rfl p41 p39) (R' := fun y H' => y = .tup [int (x38.length : Int), .sc .nilIface] ∧ ∃ vb', H' = upd (upd _ 2 (some (bufO 5 vb' x42))) 1 (some (bldO 72 1 v3 2 (some (vb', x42))))) (fun y H' h => by subst e42; exact h))) ?_; rintro _ _ ⟨rfl, v40, rfl⟩
  refine tr tbk 7 (.mk ?_)
  exact lfE h2 v40 leA
  replace h2 := ct h2
  refine w_rangeD [0, 0, 2, 7, 15] (fun i => bif Nat.beq i 1 then ([3]) else bif Nat.beq i 2 then ([3]) else []) (fun i => [3]) 4 [0, 1, 2, 3] mixed (by kernel_rfl) rfl rfl rfl rfl rfl rfl rfl rfl rfl rfl rfl rfl rfl Try.underlying9 ?_
  refine eP (fun H hH => yv_callP rfl rfl .nil cal20 (CvL.refl _) forms20_c) ?_
  refine eF fo28_0 ?_
  refine eL sh3 ?_
  refine de_as 30 (int 15) rfl (congrArg int (of_decide_eq_true e34)) ?_
  refine de_pure rfl rfl rfl rfl (fun H hH => yv_indexA rfl Try.underlying46 sh45 rfl rfl (by decide) rfl) ?_
  refine ⟨_, rfl, rfl, fun b43 => ?_⟩
  refine tc tbk 13 (.mk ?_)
  refine sY (yv_to (y := boo false) (yv_eql rfl rfl rfl) (congrArg boo (by decide))) ?_
  refine tr tbk 4 (.mk ?_)
  obtain ⟨j44, h3, h2⟩ := bind_e h2
  refine rse (Out := fun y H' => (∃ (a : Unit) (k : Unit), a = j44 ∧ y = .pt 3 v11 0 1 ∧ H' = hk [(1, ⟨72, 2, true, true, v3, [[.pt 1 v3 0 0, .sl 2 v16 0 x18.length]]⟩), (2, ⟨5, 1, true, true, v16, byteRows x18⟩), (3, ⟨28, 9, true, true, v11, [[int x10.Kind, int x10.E, int x10.Item, int x10.Loc, int x10.To, int x10.Qty, int x10.Amount, int x10.Ref, lst 1 fI x10.Refs]]⟩)])) rfl rfl rfl (yl_call rfl rfl (.cons rfl (.cons rfl .nil)) cal23 ?_) ?_
  refine pcw (c := _) Try.func23 rfl rfl ?_; intro Q hret hnorm
  refine tc tbk 12 (.mk ?_)
  refine sY (yv_to (y := boo true) (yv_eql rfl rfl rfl) (congrArg boo (by decide))) ?_
  refine tr tbk 10 (.mk ?_)
  obtain rfl := nxt_e h3
  refine w_ret (hret _ _ (hk [(1, ⟨72, 2, true, true, v3, [[.pt 1 v3 0 0, .sl 2 v16 0 x18.length]]⟩), (2, ⟨5, 1, true, true, v16, byteRows x18⟩), (3, ⟨28, 9, true, true, v11, [[int x10.Kind, int x10.E, int x10.Item, int x10.Loc, int x10.To, int x10.Qty, int x10.Amount, int x10.Ref, lst 1 fI x10.Refs]]⟩)]) (.tmp rfl .nil) (HK.le ⟨rfl, rfl, rfl, trivial⟩) ?_)
  exact ⟨(), (), rfl, rfl, rfl⟩
  rintro y _ ⟨_, _, rfl, hc, rfl⟩
  subst hc
  refine tr tbk 2 (.mk ?_)
  obtain ⟨x45, e45, h2⟩ := bind_e h2
  refine sC cal40 (numD_c e45) ?_
  obtain ⟨p46, h2⟩ := asrt_e h2
  obtain ⟨p48, h2⟩ := asrt_e h2
  obtain ⟨x49, e49, h2⟩ := bnd_e h2
  refine rse rfl rfl rfl (yl_call rfl rfl (.cons rfl (.cons rfl .nil)) cal39 (PC.mono (wstrS_c (id := 1) (ver := v3) (ib := 2) (vb := v16) (l := x18) (t := x45) (by decide) rfl rfl p48 p46) (R' := fun y H' => y = .tup [int (x45.length : Int), .sc .nilIface] ∧ ∃ vb', H' = upd (upd _ 2 (some (bufO 5 vb' x49))) 1 (some (bldO 72 1 v3 2 (some (vb', x49))))) (fun y H' h => by subst e49; exact h))) ?_; rintro _ _ ⟨rfl, v47, rfl⟩
  refine tr tbk 7 (.mk ?_)
  exact lfE h2 v47 leA
  replace h2 := ct h2
  refine w_rangeD [0, 0, 2, 7, 15] (fun i => bif Nat.beq i 1 then ([3]) else bif Nat.beq i 2 then ([3]) else []) (fun i => [3]) 4 [0, 1, 2, 3] mixed (by kernel_rfl) rfl rfl rfl rfl rfl rfl rfl rfl rfl rfl rfl rfl rfl Try.underlying9 ?_
  refine eP (fun H hH => yv_callP rfl rfl .nil cal20 (CvL.refl _) forms20_c) ?_
  refine eF fo28_0 ?_
  refine eL sh3 ?_
  refine de_as 30 (int 14) rfl (congrArg int (of_decide_eq_true e33)) ?_
  refine de_pure rfl rfl rfl rfl (fun H hH => yv_indexA rfl Try.underlying46 sh45 rfl rfl (by decide) rfl) ?_
  refine ⟨_, rfl, rfl, fun b50 => ?_⟩
  refine tc tbk 13 (.mk ?_)
  refine sY (yv_to (y := boo false) (yv_eql rfl rfl rfl) (congrArg boo (by decide))) ?_
  refine tr tbk 4 (.mk ?_)
  obtain ⟨j51, h3, h2⟩ := bind_e h2
  refine rse (Out := fun y H' => (∃ (a : Unit) (k : Unit), a = j51 ∧ y = .pt 3 v11 0 1 ∧ H' = hk [(1, ⟨72, 2, true, true, v3, [[.pt 1 v3 0 0, .sl 2 v16 0 x18.length]]⟩), (2, ⟨5, 1, true, true, v16, byteRows x18⟩), (3, ⟨28, 9, true, true, v11, [[int x10.Kind, int x10.E, int x10.Item, int x10.Loc, int x10.To, int x10.Qty, int x10.Amount, int x10.Ref, lst 1 fI x10.Refs]]⟩)])) rfl rfl rfl (yl_call rfl rfl (.cons rfl (.cons rfl .nil)) cal23 ?_) ?_
  refine pcw (c := _) Try.func23 rfl rfl ?_; intro Q hret hnorm
  refine tc tbk 12 (.mk ?_)
  refine sY (yv_to (y := boo true) (yv_eql rfl rfl rfl) (congrArg boo (by decide))) ?_
  refine tr tbk 10 (.mk ?_)
  obtain rfl := nxt_e h3
  refine w_ret (hret _ _ (hk [(1, ⟨72, 2, true, true, v3, [[.pt 1 v3 0 0, .sl 2 v16 0 x18.length]]⟩), (2, ⟨5, 1, true, true, v16, byteRows x18⟩), (3, ⟨28, 9, true, true, v11, [[int x10.Kind, int x10.E, int x10.Item, int x10.Loc, int x10.To, int x10.Qty, int x10.Amount, int x10.Ref, lst 1 fI x10.Refs]]⟩)]) (.tmp rfl .nil) (HK.le ⟨rfl, rfl, rfl, trivial⟩) ?_)
  exact ⟨(), (), rfl, rfl, rfl⟩
  rintro y _ ⟨_, _, rfl, hc, rfl⟩
  subst hc
  refine tr tbk 2 (.mk ?_)
  obtain ⟨x52, e52, h2⟩ := bind_e h2
  refine sC cal40 (numD_c e52) ?_
  obtain ⟨p53, h2⟩ := asrt_e h2
  obtain ⟨p55, h2⟩ := asrt_e h2
  obtain ⟨x56, e56, h2⟩ := bnd_e h2
  refine rse rfl rfl rfl (yl_call rfl rfl (.cons rfl (.cons rfl .nil)) cal39 (PC.mono (wstrS_c (id := 1) (ver := v3) (ib := 2) (vb := v16) (l := x18) (t := x52) (by decide) rfl rfl p55 p53) (R' := fun y H' => y = .tup [int (x52.length : Int), .sc .nilIface] ∧ ∃ vb', H' = upd (upd _ 2 (some (bufO 5 vb' x56))) 1 (some (bldO 72 1 v3 2 (some (vb', x56))))) (fun y H' h => by subst e56; exact h))) ?_; rintro _ _ ⟨rfl, v54, rfl⟩
  refine tr tbk 7 (.mk ?_)
  exact lfE h2 v54 leA
  replace h2 := ct h2
  refine w_rangeD [0, 0, 2, 7, 15] (fun i => bif Nat.beq i 1 then ([3]) else bif Nat.beq i 2 then ([3]) else []) (fun i => [3]) 4 [0, 1, 2, 3] mixed (by kernel_rfl) rfl rfl rfl rfl rfl rfl rfl rfl rfl rfl rfl rfl rfl Try.underlying9 ?_
  refine eP (fun H hH => yv_callP rfl rfl .nil cal20 (CvL.refl _) forms20_c) ?_
  refine eF fo28_0 ?_
  refine eL sh3 ?_
  refine de_as 30 (int 13) rfl (congrArg int (of_decide_eq_true e32)) ?_
  refine de_pure rfl rfl rfl rfl (fun H hH => yv_indexA rfl Try.underlying46 sh45 rfl rfl (by decide) rfl) ?_
  refine ⟨_, rfl, rfl, fun b57 => ?_⟩
  refine tc tbk 13 (.mk ?_)
  refine sY (yv_to (y := boo false) (yv_eql rfl rfl rfl) (congrArg boo (by decide))) ?_
  refine tr tbk 4 (.mk ?_)
  obtain ⟨j58, h3, h2⟩ := bind_e h2
  refine rse (Out := fun y H' => (∃ (a : Unit) (k : Unit), a = j58 ∧ y = .pt 3 v11 0 3 ∧ H' = hk [(1, ⟨72, 2, true, true, v3, [[.pt 1 v3 0 0, .sl 2 v16 0 x18.length]]⟩), (2, ⟨5, 1, true, true, v16, byteRows x18⟩), (3, ⟨28, 9, true, true, v11, [[int x10.Kind, int x10.E, int x10.Item, int x10.Loc, int x10.To, int x10.Qty, int x10.Amount, int x10.Ref, lst 1 fI x10.Refs]]⟩)])) rfl rfl rfl (yl_call rfl rfl (.cons rfl (.cons rfl .nil)) cal23 ?_) ?_
  refine pcw (c := _) Try.func23 rfl rfl ?_; intro Q hret hnorm
  refine tc tbk 12 (.mk ?_)
  refine sY (yv_to (y := boo false) (yv_eql rfl rfl rfl) (congrArg boo (by decide))) ?_
  refine tr tbk 5 (.mk ?_)
  refine sY (yv_to (y := boo false) (yv_eql rfl rfl rfl) (congrArg boo (by decide))) ?_
  refine tr tbk 5 (.mk ?_)
  refine sY (yv_to (y := boo true) (yv_eql rfl rfl rfl) (congrArg boo (by decide))) ?_
  refine tr tbk 10 (.mk ?_)
  obtain rfl := nxt_e h3
  refine w_ret (hret _ _ (hk [(1, ⟨72, 2, true, true, v3, [[.pt 1 v3 0 0, .sl 2 v16 0 x18.length]]⟩), (2, ⟨5, 1, true, true, v16, byteRows x18⟩), (3, ⟨28, 9, true, true, v11, [[int x10.Kind, int x10.E, int x10.Item, int x10.Loc, int x10.To, int x10.Qty, int x10.Amount, int x10.Ref, lst 1 fI x10.Refs]]⟩)]) (.tmp rfl .nil) (HK.le ⟨rfl, rfl, rfl, trivial⟩) ?_)
  exact ⟨(), (), rfl, rfl, rfl⟩
  rintro y _ ⟨_, _, rfl, hc, rfl⟩
  subst hc
  refine tr tbk 2 (.mk ?_)
  obtain ⟨x59, e59, h2⟩ := bind_e h2
  refine sC cal40 (numD_c e59) ?_
  obtain ⟨p60, h2⟩ := asrt_e h2
  obtain ⟨p62, h2⟩ := asrt_e h2
  obtain ⟨x63, e63, h2⟩ := bnd_e h2
  refine rse rfl rfl rfl (yl_call rfl rfl (.cons rfl (.cons rfl .nil)) cal39 (PC.mono (wstrS_c (id := 1) (ver := v3) (ib := 2) (vb := v16) (l := x18) (t := x59) (by decide) rfl rfl p62 p60) (R' := fun y H' => y = .tup [int (x59.length : Int), .sc .nilIface] ∧ ∃ vb', H' = upd (upd _ 2 (some (bufO 5 vb' x63))) 1 (some (bldO 72 1 v3 2 (some (vb', x63))))) (fun y H' h => by subst e63; exact h))) ?_; rintro _ _ ⟨rfl, v61, rfl⟩
  refine tr tbk 15 (.mk ?_)
  refine sY (yv_to (y := boo false) (yv_eql rfl rfl rfl) (congrArg boo (by decide))) ?_
  refine tr tbk 4 (.mk ?_)
  obtain ⟨j64, h3, h2⟩ := bind_e h2
  refine rse (Out := fun y H' => (∃ (a : Unit) (k : Unit), a = j64 ∧ y = .pt 3 v11 0 5 ∧ H' = hk [(1, ⟨72, 2, true, true, v3, [[.pt 1 v3 0 0, .sl 2 v61 0 x63.length]]⟩), (2, ⟨5, 1, true, true, v61, byteRows x63⟩), (3, ⟨28, 9, true, true, v11, [[int x10.Kind, int x10.E, int x10.Item, int x10.Loc, int x10.To, int x10.Qty, int x10.Amount, int x10.Ref, lst 1 fI x10.Refs]]⟩)])) rfl rfl rfl (yl_call rfl rfl (.cons rfl (.cons rfl .nil)) cal23 ?_) ?_
  refine pcw (c := _) Try.func23 rfl rfl ?_; intro Q hret hnorm
  refine tc tbk 12 (.mk ?_)
  refine sY (yv_to (y := boo false) (yv_eql rfl rfl rfl) (congrArg boo (by decide))) ?_
  refine tr tbk 5 (.mk ?_)
  refine sY (yv_to (y := boo false) (yv_eql rfl rfl rfl) (congrArg boo (by decide))) ?_
  refine tr tbk 5 (.mk ?_)
  refine sY (yv_to (y := boo false) (yv_eql rfl rfl rfl) (congrArg boo (by decide))) ?_
  refine tr tbk 5 (.mk ?_)
  refine sY (yv_to (y := boo false) (yv_eql rfl rfl rfl) (congrArg boo (by decide))) ?_
  refine tr tbk 5 (.mk ?_)
  refine sY (yv_to (y := boo true) (yv_eql rfl rfl rfl) (congrArg boo (by decide))) ?_
  refine tr tbk 10 (.mk ?_)
  obtain rfl := nxt_e h3
  refine w_ret (hret _ _ (hk [(1, ⟨72, 2, true, true, v3, [[.pt 1 v3 0 0, .sl 2 v61 0 x63.length]]⟩), (2, ⟨5, 1, true, true, v61, byteRows x63⟩), (3, ⟨28, 9, true, true, v11, [[int x10.Kind, int x10.E, int x10.Item, int x10.Loc, int x10.To, int x10.Qty, int x10.Amount, int x10.Ref, lst 1 fI x10.Refs]]⟩)]) (.tmp rfl .nil) (HK.le ⟨rfl, rfl, rfl, trivial⟩) ?_)
  exact ⟨(), (), rfl, rfl, rfl⟩
  rintro y _ ⟨_, _, rfl, hc, rfl⟩
  subst hc
  refine tr tbk 2 (.mk ?_)
  obtain ⟨x65, e65, h2⟩ := bind_e h2
  refine sC cal40 (numD_c e65) ?_
  obtain ⟨p66, h2⟩ := asrt_e h2
  obtain ⟨p68, h2⟩ := asrt_e h2
  obtain ⟨x69, e69, h2⟩ := bnd_e h2
  refine rse rfl rfl rfl (yl_call rfl rfl (.cons rfl (.cons rfl .nil)) cal39 (PC.mono (wstrS_c (id := 1) (ver := v3) (ib := 2) (vb := v61) (l := x63) (t := x65) (by decide) rfl rfl p68 p66) (R' := fun y H' => y = .tup [int (x65.length : Int), .sc .nilIface] ∧ ∃ vb', H' = upd (upd _ 2 (some (bufO 5 vb' x69))) 1 (some (bldO 72 1 v3 2 (some (vb', x69))))) (fun y H' h => by subst e69; exact h))) ?_; rintro _ _ ⟨rfl, v67, rfl⟩
  refine tr tbk 15 (.mk ?_)
  refine sY (yv_to (y := boo false) (yv_eql rfl rfl rfl) (congrArg boo (by decide))) ?_
  refine tr tbk 4 (.mk ?_)
  obtain ⟨j70, h3, h2⟩ := bind_e h2
  refine rse (Out := fun y H' => (∃ (a : Unit) (k : Unit), a = j70 ∧ y = .pt 3 v11 0 7 ∧ H' = hk [(1, ⟨72, 2, true, true, v3, [[.pt 1 v3 0 0, .sl 2 v67 0 x69.length]]⟩), (2, ⟨5, 1, true, true, v67, byteRows x69⟩), (3, ⟨28, 9, true, true, v11, [[int x10.Kind, int x10.E, int x10.Item, int x10.Loc, int x10.To, int x10.Qty, int x10.Amount, int x10.Ref, lst 1 fI x10.Refs]]⟩)])) rfl rfl rfl (yl_call rfl rfl (.cons rfl (.cons rfl .nil)) cal23 ?_) ?_
  refine pcw (c := _) Try.func23 rfl rfl ?_; intro Q hret hnorm
  refine tc tbk 12 (.mk ?_)
  refine sY (yv_to (y := boo false) (yv_eql rfl rfl rfl) (congrArg boo (by decide))) ?_
  refine tr tbk 5 (.mk ?_)
  refine sY (yv_to (y := boo false) (yv_eql rfl rfl rfl) (congrArg boo (by decide))) ?_
  refine tr tbk 5 (.mk ?_)
  refine sY (yv_to (y := boo false) (yv_eql rfl rfl rfl) (congrArg boo (by decide))) ?_
  refine tr tbk 5 (.mk ?_)
  refine sY (yv_to (y := boo false) (yv_eql rfl rfl rfl) (congrArg boo (by decide))) ?_
  refine tr tbk 5 (.mk ?_)
  refine sY (yv_to (y := boo false) (yv_eql rfl rfl rfl) (congrArg boo (by decide))) ?_
  refine tr tbk 5 (.mk ?_)
  refine sY (yv_to (y := boo false) (yv_eql rfl rfl rfl) (congrArg boo (by decide))) ?_
  refine tr tbk 12 (.mk ?_)
  obtain rfl := nxt_e h3
  refine w_ret (hret _ _ (hk [(1, ⟨72, 2, true, true, v3, [[.pt 1 v3 0 0, .sl 2 v67 0 x69.length]]⟩), (2, ⟨5, 1, true, true, v67, byteRows x69⟩), (3, ⟨28, 9, true, true, v11, [[int x10.Kind, int x10.E, int x10.Item, int x10.Loc, int x10.To, int x10.Qty, int x10.Amount, int x10.Ref, lst 1 fI x10.Refs]]⟩)]) (.tmp rfl .nil) (HK.le ⟨rfl, rfl, rfl, trivial⟩) ?_)
  exact ⟨(), (), rfl, rfl, rfl⟩
  rintro y _ ⟨_, _, rfl, hc, rfl⟩
  subst hc
  refine tr tbk 2 (.mk ?_)
  obtain ⟨x71, e71, h2⟩ := bind_e h2
  refine sC cal40 (numD_c e71) ?_
  obtain ⟨p72, h2⟩ := asrt_e h2
  obtain ⟨p74, h2⟩ := asrt_e h2
  obtain ⟨x75, e75, h2⟩ := bnd_e h2
  refine rse rfl rfl rfl (yl_call rfl rfl (.cons rfl (.cons rfl .nil)) cal39 (PC.mono (wstrS_c (id := 1) (ver := v3) (ib := 2) (vb := v67) (l := x69) (t := x71) (by decide) rfl rfl p74 p72) (R' := fun y H' => y = .tup [int (x71.length : Int), .sc .nilIface] ∧ ∃ vb', H' = upd (upd _ 2 (some (bufO 5 vb' x75))) 1 (some (bldO 72 1 v3 2 (some (vb', x75))))) (fun y H' h => by subst e75; exact h))) ?_; rintro _ _ ⟨rfl, v73, rfl⟩
  refine tr tbk 7 (.mk ?_)
  exact lfE h2 v73 leA
  replace h2 := ct h2
  refine w_rangeD [0, 0, 2, 7, 15] (fun i => bif Nat.beq i 1 then ([3]) else bif Nat.beq i 2 then ([3]) else []) (fun i => [3]) 4 [0, 1, 2, 3] mixed (by kernel_rfl) rfl rfl rfl rfl rfl rfl rfl rfl rfl rfl rfl rfl rfl Try.underlying9 ?_
  refine eP (fun H hH => yv_callP rfl rfl .nil cal20 (CvL.refl _) forms20_c) ?_
  refine eF fo28_0 ?_
  refine eL sh3 ?_
  refine de_as 30 (int 12) rfl (congrArg int (of_decide_eq_true e31)) ?_
  refine de_pure rfl rfl rfl rfl (fun H hH => yv_indexA rfl Try.underlying46 sh45 rfl rfl (by decide) rfl) ?_
  refine ⟨_, rfl, rfl, fun b76 => ?_⟩
  refine tc tbk 13 (.mk ?_)
  refine sY (yv_to (y := boo false) (yv_eql rfl rfl rfl) (congrArg boo (by decide))) ?_
  refine tr tbk 4 (.mk ?_)
  obtain ⟨j77, h3, h2⟩ := bind_e h2
  refine rse (Out := fun y H' => (∃ (a : Unit) (k : Unit), a = j77 ∧ y = .pt 3 v11 0 1 ∧ H' = hk [(1, ⟨72, 2, true, true, v3, [[.pt 1 v3 0 0, .sl 2 v16 0 x18.length]]⟩), (2, ⟨5, 1, true, true, v16, byteRows x18⟩), (3, ⟨28, 9, true, true, v11, [[int x10.Kind, int x10.E, int x10.Item, int x10.Loc, int x10.To, int x10.Qty, int x10.Amount, int x10.Ref, lst 1 fI x10.Refs]]⟩)])) rfl rfl rfl (yl_call rfl rfl (.cons rfl (.cons rfl .nil)) cal23 ?_) ?_
  refine pcw (c := _) Try.func23 rfl rfl ?_; intro Q hret hnorm
  refine tc tbk 12 (.mk ?_)
  refine sY (yv_to (y := boo true) (yv_eql rfl rfl rfl) (congrArg boo (by decide))) ?_
  refine tr tbk 10 (.mk ?_)
  obtain rfl := nxt_e h3
  refine w_ret (hret _ _ (hk [(1, ⟨72, 2, true, true, v3, [[.pt 1 v3 0 0, .sl 2 v16 0 x18.length]]⟩), (2, ⟨5, 1, true, true, v16, byteRows x18⟩), (3, ⟨28, 9, true, true, v11, [[int x10.Kind, int x10.E, int x10.Item, int x10.Loc, int x10.To, int x10.Qty, int x10.Amount, int x10.Ref, lst 1 fI x10.Refs]]⟩)]) (.tmp rfl .nil) (HK.le ⟨rfl, rfl, rfl, trivial⟩) ?_)
  exact ⟨(), (), rfl, rfl, rfl⟩
  rintro y _ ⟨_, _, rfl, hc, rfl⟩
  subst hc
  refine tr tbk 2 (.mk ?_)
  obtain ⟨x78, e78, h2⟩ := bind_e h2
  refine sC cal40 (numD_c e78) ?_
  obtain ⟨p79, h2⟩ := asrt_e h2
  obtain ⟨p81, h2⟩ := asrt_e h2
  obtain ⟨x82, e82, h2⟩ := bnd_e h2
  refine rse rfl rfl rfl (yl_call rfl rfl (.cons rfl (.cons rfl .nil)) cal39 (PC.mono (wstrS_c (id := 1) (ver := v3) (ib := 2) (vb := v16) (l := x18) (t := x78) (by decide) rfl rfl p81 p79) (R' := fun y H' => y = .tup [int (x78.length : Int), .sc .nilIface] ∧ ∃ vb', H' = upd (upd _ 2 (some (bufO 5 vb' x82))) 1 (some (bldO 72 1 v3 2 (some (vb', x82))))) (fun y H' h => by subst e82; exact h))) ?_; rintro _ _ ⟨rfl, v80, rfl⟩
  refine tr tbk 15 (.mk ?_)
  refine sY (yv_to (y := boo false) (yv_eql rfl rfl rfl) (congrArg boo (by decide))) ?_
  refine tr tbk 4 (.mk ?_)
  obtain ⟨j83, h3, h2⟩ := bind_e h2
  refine rse (Out := fun y H' => (∃ (a : Unit) (k : Unit), a = j83 ∧ y = .pt 3 v11 0 2 ∧ H' = hk [(1, ⟨72, 2, true, true, v3, [[.pt 1 v3 0 0, .sl 2 v80 0 x82.length]]⟩), (2, ⟨5, 1, true, true, v80, byteRows x82⟩), (3, ⟨28, 9, true, true, v11, [[int x10.Kind, int x10.E, int x10.Item, int x10.Loc, int x10.To, int x10.Qty, int x10.Amount, int x10.Ref, lst 1 fI x10.Refs]]⟩)])) rfl rfl rfl (yl_call rfl rfl (.cons rfl (.cons rfl .nil)) cal23 ?_) ?_
  refine pcw (c := _) Try.func23 rfl rfl ?_; intro Q hret hnorm
  refine tc tbk 12 (.mk ?_)
  refine sY (yv_to (y := boo false) (yv_eql rfl rfl rfl) (congrArg boo (by decide))) ?_
  refine tr tbk 5 (.mk ?_)
  refine sY (yv_to (y := boo true) (yv_eql rfl rfl rfl) (congrArg boo (by decide))) ?_
  refine tr tbk 10 (.mk ?_)
  obtain rfl := nxt_e h3
  refine w_ret (hret _ _ (hk [(1, ⟨72, 2, true, true, v3, [[.pt 1 v3 0 0, .sl 2 v80 0 x82.length]]⟩), (2, ⟨5, 1, true, true, v80, byteRows x82⟩), (3, ⟨28, 9, true, true, v11, [[int x10.Kind, int x10.E, int x10.Item, int x10.Loc, int x10.To, int x10.Qty, int x10.Amount, int x10.Ref, lst 1 fI x10.Refs]]⟩)]) (.tmp rfl .nil) (HK.le ⟨rfl, rfl, rfl, trivial⟩) ?_)
  exact ⟨(), (), rfl, rfl, rfl⟩
  rintro y _ ⟨_, _, rfl, hc, rfl⟩
  subst hc
  refine tr tbk 2 (.mk ?_)
  obtain ⟨x84, e84, h2⟩ := bind_e h2
  refine sC cal40 (numD_c e84) ?_
  obtain ⟨p85, h2⟩ := asrt_e h2
  obtain ⟨p87, h2⟩ := asrt_e h2
  obtain ⟨x88, e88, h2⟩ := bnd_e h2
  refine rse rfl rfl rfl (yl_call rfl rfl (.cons rfl (.cons rfl .nil)) cal39 (PC.mono (wstrS_c (id := 1) (ver := v3) (ib := 2) (vb := v80) (l := x82) (t := x84) (by decide) rfl rfl p87 p85) (R' := fun y H' => y = .tup [int (x84.length : Int), .sc .nilIface] ∧ ∃ vb', H' = upd (upd _ 2 (some (bufO 5 vb' x88))) 1 (some (bldO 72 1 v3 2 (some (vb', x88))))) (fun y H' h => by subst e88; exact h))) ?_; rintro _ _ ⟨rfl, v86, rfl⟩
  refine tr tbk 15 (.mk ?_)
  refine sY (yv_to (y := boo false) (yv_eql rfl rfl rfl) (congrArg boo (by decide))) ?_
  refine tr tbk 4 (.mk ?_)
  obtain ⟨j89, h3, h2⟩ := bind_e h2
  refine rse (Out := fun y H' => (∃ (a : Unit) (k : Unit), a = j89 ∧ y = .pt 3 v11 0 3 ∧ H' = hk [(1, ⟨72, 2, true, true, v3, [[.pt 1 v3 0 0, .sl 2 v86 0 x88.length]]⟩), (2, ⟨5, 1, true, true, v86, byteRows x88⟩), (3, ⟨28, 9, true, true, v11, [[int x10.Kind, int x10.E, int x10.Item, int x10.Loc, int x10.To, int x10.Qty, int x10.Amount, int x10.Ref, lst 1 fI x10.Refs]]⟩)])) rfl rfl rfl (yl_call rfl rfl (.cons rfl (.cons rfl .nil)) cal23 ?_) ?_
  refine pcw (c := _) Try.func23 rfl rfl ?_; intro Q hret hnorm
  refine tc tbk 12 (.mk ?_)
  refine sY (yv_to (y := boo false) (yv_eql rfl rfl rfl) (congrArg boo (by decide))) ?_
  refine tr tbk 5 (.mk ?_)
  refine sY (yv_to (y := boo false) (yv_eql rfl rfl rfl) (congrArg boo (by decide))) ?_
  refine tr tbk 5 (.mk ?_)
  refine sY (yv_to (y := boo true) (yv_eql rfl rfl rfl) (congrArg boo (by decide))) ?_
  refine tr tbk 10 (.mk ?_)
  obtain rfl := nxt_e h3
  refine w_ret (hret _ _ (hk [(1, ⟨72, 2, true, true, v3, [[.pt 1 v3 0 0, .sl 2 v86 0 x88.length]]⟩), (2, ⟨5, 1, true, true, v86, byteRows x88⟩), (3, ⟨28, 9, true, true, v11, [[int x10.Kind, int x10.E, int x10.Item, int x10.Loc, int x10.To, int x10.Qty, int x10.Amount, int x10.Ref, lst 1 fI x10.Refs]]⟩)]) (.tmp rfl .nil) (HK.le ⟨rfl, rfl, rfl, trivial⟩) ?_)
  exact ⟨(), (), rfl, rfl, rfl⟩
  rintro y _ ⟨_, _, rfl, hc, rfl⟩
  subst hc
  refine tr tbk 2 (.mk ?_)
  obtain ⟨x90, e90, h2⟩ := bind_e h2
  refine sC cal40 (numD_c e90) ?_
  obtain ⟨p91, h2⟩ := asrt_e h2
  obtain ⟨p93, h2⟩ := asrt_e h2
  obtain ⟨x94, e94, h2⟩ := bnd_e h2
  refine rse rfl rfl rfl (yl_call rfl rfl (.cons rfl (.cons rfl .nil)) cal39 (PC.mono (wstrS_c (id := 1) (ver := v3) (ib := 2) (vb := v86) (l := x88) (t := x90) (by decide) rfl rfl p93 p91) (R' := fun y H' => y = .tup [int (x90.length : Int), .sc .nilIface] ∧ ∃ vb', H' = upd (upd _ 2 (some (bufO 5 vb' x94))) 1 (some (bldO 72 1 v3 2 (some (vb', x94))))) (fun y H' h => by subst e94; exact h))) ?_; rintro _ _ ⟨rfl, v92, rfl⟩
  refine tr tbk 15 (.mk ?_)
  refine sY (yv_to (y := boo false) (yv_eql rfl rfl rfl) (congrArg boo (by decide))) ?_
  refine tr tbk 4 (.mk ?_)
  obtain ⟨j95, h3, h2⟩ := bind_e h2
  refine rse (Out := fun y H' => (∃ (a : Unit) (k : Unit), a = j95 ∧ y = .pt 3 v11 0 4 ∧ H' = hk [(1, ⟨72, 2, true, true, v3, [[.pt 1 v3 0 0, .sl 2 v92 0 x94.length]]⟩), (2, ⟨5, 1, true, true, v92, byteRows x94⟩), (3, ⟨28, 9, true, true, v11, [[int x10.Kind, int x10.E, int x10.Item, int x10.Loc, int x10.To, int x10.Qty, int x10.Amount, int x10.Ref, lst 1 fI x10.Refs]]⟩)])) rfl rfl rfl (yl_call rfl rfl (.cons rfl (.cons rfl .nil)) cal23 ?_) ?_
  refine pcw (c := _) Try.func23 rfl rfl ?_; intro Q hret hnorm
  refine tc tbk 12 (.mk ?_)
  refine sY (yv_to (y := boo false) (yv_eql rfl rfl rfl) (congrArg boo (by decide))) ?_
  refine tr tbk 5 (.mk ?_)
  refine sY (yv_to (y := boo false) (yv_eql rfl rfl rfl) (congrArg boo (by decide))) ?_
  refine tr tbk 5 (.mk ?_)
  refine sY (yv_to (y := boo false) (yv_eql rfl rfl rfl) (congrArg boo (by decide))) ?_
  refine tr tbk 5 (.mk ?_)
  refine sY (yv_to (y := boo true) (yv_eql rfl rfl rfl) (congrArg boo (by decide))) ?_
  refine tr tbk 10 (.mk ?_)
  obtain rfl := nxt_e h3
  refine w_ret (hret _ _ (hk [(1, ⟨72, 2, true, true, v3, [[.pt 1 v3 0 0, .sl 2 v92 0 x94.length]]⟩), (2, ⟨5, 1, true, true, v92, byteRows x94⟩), (3, ⟨28, 9, true, true, v11, [[int x10.Kind, int x10.E, int x10.Item, int x10.Loc, int x10.To, int x10.Qty, int x10.Amount, int x10.Ref, lst 1 fI x10.Refs]]⟩)]) (.tmp rfl .nil) (HK.le ⟨rfl, rfl, rfl, trivial⟩) ?_)
  exact ⟨(), (), rfl, rfl, rfl⟩
  rintro y _ ⟨_, _, rfl, hc, rfl⟩
  subst hc
  refine tr tbk 2 (.mk ?_)
  obtain ⟨x96, e96, h2⟩ := bind_e h2
  refine sC cal40 (numD_c e96) ?_
  obtain ⟨p97, h2⟩ := asrt_e h2
  obtain ⟨p99, h2⟩ := asrt_e h2
  obtain ⟨x100, e100, h2⟩ := bnd_e h2
  refine rse rfl rfl rfl (yl_call rfl rfl (.cons rfl (.cons rfl .nil)) cal39 (PC.mono (wstrS_c (id := 1) (ver := v3) (ib := 2) (vb := v92) (l := x94) (t := x96) (by decide) rfl rfl p99 p97) (R' := fun y H' => y = .tup [int (x96.length : Int), .sc .nilIface] ∧ ∃ vb', H' = upd (upd _ 2 (some (bufO 5 vb' x100))) 1 (some (bldO 72 1 v3 2 (some (vb', x100))))) (fun y H' h => by subst e100; exact h))) ?_; rintro _ _ ⟨rfl, v98, rfl⟩
  refine tr tbk 15 (.mk ?_)
  refine sY (yv_to (y := boo false) (yv_eql rfl rfl rfl) (congrArg boo (by decide))) ?_
  refine tr tbk 4 (.mk ?_)
  obtain ⟨j101, h3, h2⟩ := bind_e h2
  refine rse (Out := fun y H' => (∃ (a : Unit) (k : Unit), a = j101 ∧ y = .pt 3 v11 0 5 ∧ H' = hk [(1, ⟨72, 2, true, true, v3, [[.pt 1 v3 0 0, .sl 2 v98 0 x100.length]]⟩), (2, ⟨5, 1, true, true, v98, byteRows x100⟩), (3, ⟨28, 9, true, true, v11, [[int x10.Kind, int x10.E, int x10.Item, int x10.Loc, int x10.To, int x10.Qty, int x10.Amount, int x10.Ref, lst 1 fI x10.Refs]]⟩)])) rfl rfl rfl (yl_call rfl rfl (.cons rfl (.cons rfl .nil)) cal23 ?_) ?_
  refine pcw (c := _) Try.func23 rfl rfl ?_; intro Q hret hnorm
  refine tc tbk 12 (.mk ?_)
  refine sY (yv_to (y := boo false) (yv_eql rfl rfl rfl) (congrArg boo (by decide))) ?_
  refine tr tbk 5 (.mk ?_)
  refine sY (yv_to (y := boo false) (yv_eql rfl rfl rfl) (congrArg boo (by decide))) ?_
  refine tr tbk 5 (.mk ?_)
  refine sY (yv_to (y := boo false) (yv_eql rfl rfl rfl) (congrArg boo (by decide))) ?_
  refine tr tbk 5 (.mk ?_)
  refine sY (yv_to (y := boo false) (yv_eql rfl rfl rfl) (congrArg boo (by decide))) ?_
  refine tr tbk 5 (.mk ?_)
  refine sY (yv_to (y := boo true) (yv_eql rfl rfl rfl) (congrArg boo (by decide))) ?_
  refine tr tbk 10 (.mk ?_)
  obtain rfl := nxt_e h3
  refine w_ret (hret _ _ (hk [(1, ⟨72, 2, true, true, v3, [[.pt 1 v3 0 0, .sl 2 v98 0 x100.length]]⟩), (2, ⟨5, 1, true, true, v98, byteRows x100⟩), (3, ⟨28, 9, true, true, v11, [[int x10.Kind, int x10.E, int x10.Item, int x10.Loc, int x10.To, int x10.Qty, int x10.Amount, int x10.Ref, lst 1 fI x10.Refs]]⟩)]) (.tmp rfl .nil) (HK.le ⟨rfl, rfl, rfl, trivial⟩) ?_)
  exact ⟨(), (), rfl, rfl, rfl⟩
  rintro y _ ⟨_, _, rfl, hc, rfl⟩
  subst hc
  refine tr tbk 2 (.mk ?_)
  obtain ⟨x102, e102, h2⟩ := bind_e h2
  refine sC cal40 (numD_c e102) ?_
  obtain ⟨p103, h2⟩ := asrt_e h2
  obtain ⟨p105, h2⟩ := asrt_e h2
  obtain ⟨x106, e106, h2⟩ := bnd_e h2
  refine rse rfl rfl rfl (yl_call rfl rfl (.cons rfl (.cons rfl .nil)) cal39 (PC.mono (wstrS_c (id := 1) (ver := v3) (ib := 2) (vb := v98) (l := x100) (t := x102) (by decide) rfl rfl p105 p103) (R' := fun y H' => y = .tup [int (x102.length : Int), .sc .nilIface] ∧ ∃ vb', H' = upd (upd _ 2 (some (bufO 5 vb' x106))) 1 (some (bldO 72 1 v3 2 (some (vb', x106))))) (fun y H' h => by subst e106; exact h))) ?_; rintro _ _ ⟨rfl, v104, rfl⟩
  refine tr tbk 15 (.mk ?_)
  refine sY (yv_to (y := boo false) (yv_eql rfl rfl rfl) (congrArg boo (by decide))) ?_
  refine tr tbk 4 (.mk ?_)
  obtain ⟨j107, h3, h2⟩ := bind_e h2
  refine rse (Out := fun y H' => (∃ (a : Unit) (k : Unit), a = j107 ∧ y = .pt 3 v11 0 6 ∧ H' = hk [(1, ⟨72, 2, true, true, v3, [[.pt 1 v3 0 0, .sl 2 v104 0 x106.length]]⟩), (2, ⟨5, 1, true, true, v104, byteRows x106⟩), (3, ⟨28, 9, true, true, v11, [[int x10.Kind, int x10.E, int x10.Item, int x10.Loc, int x10.To, int x10.Qty, int x10.Amount, int x10.Ref, lst 1 fI x10.Refs]]⟩)])) rfl rfl rfl (yl_call rfl rfl (.cons rfl (.cons rfl .nil)) cal23 ?_) ?_
  refine pcw (c := _) Try.func23 rfl rfl ?_; intro Q hret hnorm
  refine tc tbk 12 (.mk ?_)
  refine sY (yv_to (y := boo false) (yv_eql rfl rfl rfl) (congrArg boo (by decide))) ?_
  refine tr tbk 5 (.mk ?_)
  refine sY (yv_to (y := boo false) (yv_eql rfl rfl rfl) (congrArg boo (by decide))) ?_
  refine tr tbk 5 (.mk ?_)
  refine sY (yv_to (y := boo false) (yv_eql rfl rfl rfl) (congrArg boo (by decide))) ?_
  refine tr tbk 5 (.mk ?_)
  refine sY (yv_to (y := boo false) (yv_eql rfl rfl rfl) (congrArg boo (by decide))) ?_
  refine tr tbk 5 (.mk ?_)
  refine sY (yv_to (y := boo false) (yv_eql rfl rfl rfl) (congrArg boo (by decide))) ?_
  refine tr tbk 5 (.mk ?_)
  refine sY (yv_to (y := boo true) (yv_eql rfl rfl rfl) (congrArg boo (by decide))) ?_
  refine tr tbk 10 (.mk ?_)
  obtain rfl := nxt_e h3
  refine w_ret (hret _ _ (hk [(1, ⟨72, 2, true, true, v3, [[.pt 1 v3 0 0, .sl 2 v104 0 x106.length]]⟩), (2, ⟨5, 1, true, true, v104, byteRows x106⟩), (3, ⟨28, 9, true, true, v11, [[int x10.Kind, int x10.E, int x10.Item, int x10.Loc, int x10.To, int x10.Qty, int x10.Amount, int x10.Ref, lst 1 fI x10.Refs]]⟩)]) (.tmp rfl .nil) (HK.le ⟨rfl, rfl, rfl, trivial⟩) ?_)
  exact ⟨(), (), rfl, rfl, rfl⟩
  rintro y _ ⟨_, _, rfl, hc, rfl⟩
  subst hc
  refine tr tbk 2 (.mk ?_)
  obtain ⟨x108, e108, h2⟩ := bind_e h2
  refine sC cal40 (numD_c e108) ?_
  obtain ⟨p109, h2⟩ := asrt_e h2
  obtain ⟨p111, h2⟩ := asrt_e h2
  obtain ⟨x112, e112, h2⟩ := bnd_e h2
  refine rse rfl rfl rfl (yl_call rfl rfl (.cons rfl (.cons rfl .nil)) cal39 (PC.mono (wstrS_c (id := 1) (ver := v3) (ib := 2) (vb := v104) (l := x106) (t := x108) (by decide) rfl rfl p111 p109) (R' := fun y H' => y = .tup [int (x108.length : Int), .sc .nilIface] ∧ ∃ vb', H' = upd (upd _ 2 (some (bufO 5 vb' x112))) 1 (some (bldO 72 1 v3 2 (some (vb', x112))))) (fun y H' h => by subst e112; exact h))) ?_; rintro _ _ ⟨rfl, v110, rfl⟩
  refine tr tbk 7 (.mk ?_)
  exact lfE h2 v110 leA
  replace h2 := ct h2
  refine w_rangeD [0, 0, 2, 7, 15] (fun i => bif Nat.beq i 1 then ([3]) else bif Nat.beq i 2 then ([3]) else []) (fun i => [3]) 4 [0, 1, 2, 3] mixed (by kernel_rfl) rfl rfl rfl rfl rfl rfl rfl rfl rfl rfl rfl rfl rfl Try.underlying9 ?_
  refine eP (fun H hH => yv_callP rfl rfl .nil cal20 (CvL.refl _) forms20_c) ?_
  refine eF fo28_0 ?_
  refine eL sh3 ?_
  refine de_as 30 (int 11) rfl (congrArg int (of_decide_eq_true e30)) ?_
  refine de_pure rfl rfl rfl rfl (fun H hH => yv_indexA rfl Try.underlying46 sh45 rfl rfl (by decide) rfl) ?_
  refine ⟨_, rfl, rfl, fun b113 => ?_⟩
  refine tc tbk 13 (.mk ?_)
  refine sY (yv_to (y := boo false) (yv_eql rfl rfl rfl) (congrArg boo (by decide))) ?_
  refine tr tbk 4 (.mk ?_)
  obtain ⟨j114, h3, h2⟩ := bind_e h2
  refine rse (Out := fun y H' => (∃ (a : Unit) (k : Unit), a = j114 ∧ y = .pt 3 v11 0 4 ∧ H' = hk [(1, ⟨72, 2, true, true, v3, [[.pt 1 v3 0 0, .sl 2 v16 0 x18.length]]⟩), (2, ⟨5, 1, true, true, v16, byteRows x18⟩), (3, ⟨28, 9, true, true, v11, [[int x10.Kind, int x10.E, int x10.Item, int x10.Loc, int x10.To, int x10.Qty, int x10.Amount, int x10.Ref, lst 1 fI x10.Refs]]⟩)])) rfl rfl rfl (yl_call rfl rfl (.cons rfl (.cons rfl .nil)) cal23 ?_) ?_
  refine pcw (c := _) Try.func23 rfl rfl ?_; intro Q hret hnorm
  refine tc tbk 12 (.mk ?_)
  refine sY (yv_to (y := boo false) (yv_eql rfl rfl rfl) (congrArg boo (by decide))) ?_
  refine tr tbk 5 (.mk ?_)
  refine sY (yv_to (y := boo false) (yv_eql rfl rfl rfl) (congrArg boo (by decide))) ?_
  refine tr tbk 5 (.mk ?_)
  refine sY (yv_to (y := boo false) (yv_eql rfl rfl rfl) (congrArg boo (by decide))) ?_
  refine tr tbk 5 (.mk ?_)
  refine sY (yv_to (y := boo true) (yv_eql rfl rfl rfl) (congrArg boo (by decide))) ?_
  refine tr tbk 10 (.mk ?_)
  obtain rfl := nxt_e h3
  refine w_ret (hret _ _ (hk [(1, ⟨72, 2, true, true, v3, [[.pt 1 v3 0 0, .sl 2 v16 0 x18.length]]⟩), (2, ⟨5, 1, true, true, v16, byteRows x18⟩), (3, ⟨28, 9, true, true, v11, [[int x10.Kind, int x10.E, int x10.Item, int x10.Loc, int x10.To, int x10.Qty, int x10.Amount, int x10.Ref, lst 1 fI x10.Refs]]⟩)]) (.tmp rfl .nil) (HK.le ⟨rfl, rfl, rfl, trivial⟩) ?_)
  exact ⟨(), (), rfl, rfl, rfl⟩
  rintro y _ ⟨_, _, rfl, hc, rfl⟩
  subst hc
  refine tr tbk 2 (.mk ?_)
  obtain ⟨x115, e115, h2⟩ := bind_e h2
  refine sC cal40 (numD_c e115) ?_
  obtain ⟨p116, h2⟩ := asrt_e h2
  obtain ⟨p118, h2⟩ := asrt_e h2
  obtain ⟨x119, e119, h2⟩ := bnd_e h2
  refine rse rfl rfl rfl (yl_call rfl rfl (.cons rfl (.cons rfl .nil)) cal39 (PC.mono (wstrS_c (id := 1) (ver := v3) (ib := 2) (vb := v16) (l := x18) (t := x115) (by decide) rfl rfl p118 p116) (R' := fun y H' => y = .tup [int (x115.length : Int), .sc .nilIface] ∧ ∃ vb', H' = upd (upd _ 2 (some (bufO 5 vb' x119))) 1 (some (bldO 72 1 v3 2 (some (vb', x119))))) (fun y H' h => by subst e119; exact h))) ?_; rintro _ _ ⟨rfl, v117, rfl⟩
  refine tr tbk 15 (.mk ?_)
  refine sY (yv_to (y := boo false) (yv_eql rfl rfl rfl) (congrArg boo (by decide))) ?_
  refine tr tbk 4 (.mk ?_)
  obtain ⟨j120, h3, h2⟩ := bind_e h2
  refine rse (Out := fun y H' => (∃ (a : Unit) (k : Unit), a = j120 ∧ y = .pt 3 v11 0 6 ∧ H' = hk [(1, ⟨72, 2, true, true, v3, [[.pt 1 v3 0 0, .sl 2 v117 0 x119.length]]⟩), (2, ⟨5, 1, true, true, v117, byteRows x119⟩), (3, ⟨28, 9, true, true, v11, [[int x10.Kind, int x10.E, int x10.Item, int x10.Loc, int x10.To, int x10.Qty, int x10.Amount, int x10.Ref, lst 1 fI x10.Refs]]⟩)])) rfl rfl rfl (yl_call rfl rfl (.cons rfl (.cons rfl .nil)) cal23 ?_) ?_
  refine pcw (c := _) Try.func23 rfl rfl ?_; intro Q hret hnorm
  refine tc tbk 12 (.mk ?_)
  refine sY (yv_to (y := boo false) (yv_eql rfl rfl rfl) (congrArg boo (by decide))) ?_
  refine tr tbk 5 (.mk ?_)
  refine sY (yv_to (y := boo false) (yv_eql rfl rfl rfl) (congrArg boo (by decide))) ?_
  refine tr tbk 5 (.mk ?_)
  refine sY (yv_to (y := boo false) (yv_eql rfl rfl rfl) (congrArg boo (by decide))) ?_
  refine tr tbk 5 (.mk ?_)
  refine sY (yv_to (y := boo false) (yv_eql rfl rfl rfl) (congrArg boo (by decide))) ?_
  refine tr tbk 5 (.mk ?_)
  refine sY (yv_to (y := boo false) (yv_eql rfl rfl rfl) (congrArg boo (by decide))) ?_
  refine tr tbk 5 (.mk ?_)
  refine sY (yv_to (y := boo true) (yv_eql rfl rfl rfl) (congrArg boo (by decide))) ?_
  refine tr tbk 10 (.mk ?_)
  obtain rfl := nxt_e h3
  refine w_ret (hret _ _ (hk [(1, ⟨72, 2, true, true, v3, [[.pt 1 v3 0 0, .sl 2 v117 0 x119.length]]⟩), (2, ⟨5, 1, true, true, v117, byteRows x119⟩), (3, ⟨28, 9, true, true, v11, [[int x10.Kind, int x10.E, int x10.Item, int x10.Loc, int x10.To, int x10.Qty, int x10.Amount, int x10.Ref, lst 1 fI x10.Refs]]⟩)]) (.tmp rfl .nil) (HK.le ⟨rfl, rfl, rfl, trivial⟩) ?_)
  exact ⟨(), (), rfl, rfl, rfl⟩
  rintro y _ ⟨_, _, rfl, hc, rfl⟩
  subst hc
  refine tr tbk 2 (.mk ?_)
  obtain ⟨x121, e121, h2⟩ := bind_e h2
  refine sC cal40 (numD_c e121) ?_
  obtain ⟨p122, h2⟩ := asrt_e h2
  obtain ⟨p124, h2⟩ := asrt_e h2
  obtain ⟨x125, e125, h2⟩ := bnd_e h2
  refine rse rfl rfl rfl (yl_call rfl rfl (.cons rfl (.cons rfl .nil)) cal39 (PC.mono (wstrS_c (id := 1) (ver := v3) (ib := 2) (vb := v117) (l := x119) (t := x121) (by decide) rfl rfl p124 p122) (R' := fun y H' => y = .tup [int (x121.length : Int), .sc .nilIface] ∧ ∃ vb', H' = upd (upd _ 2 (some (bufO 5 vb' x125))) 1 (some (bldO 72 1 v3 2 (some (vb', x125))))) (fun y H' h => by subst e125; exact h))) ?_; rintro _ _ ⟨rfl, v123, rfl⟩
  refine tr tbk 15 (.mk ?_)
  refine sY (yv_to (y := boo true) (yv_eql rfl rfl rfl) (congrArg boo (by decide))) ?_
  refine tr tbk 5 (.mk ?_)
  obtain ⟨x126, e126, h2⟩ := bind_e h2
  refine sC cal41 (listD_c e126) ?_
  obtain ⟨p127, h2⟩ := asrt_e h2
  obtain ⟨p129, h2⟩ := asrt_e h2
  obtain ⟨x130, e130, h2⟩ := bnd_e h2
  refine rse rfl rfl rfl (yl_call rfl rfl (.cons rfl (.cons rfl .nil)) cal39 (PC.mono (wstrS_c (id := 1) (ver := v3) (ib := 2) (vb := v123) (l := x125) (t := x126) (by decide) rfl rfl p129 p127) (R' := fun y H' => y = .tup [int (x126.length : Int), .sc .nilIface] ∧ ∃ vb', H' = upd (upd _ 2 (some (bufO 5 vb' x130))) 1 (some (bldO 72 1 v3 2 (some (vb', x130))))) (fun y H' h => by subst e130; exact h))) ?_; rintro _ _ ⟨rfl, v128, rfl⟩
  refine tr tbk 7 (.mk ?_)
  exact lfE h2 v128 leA
  replace h2 := ct h2
  refine w_rangeD [0, 0, 2, 7, 15] (fun i => bif Nat.beq i 1 then ([3]) else bif Nat.beq i 2 then ([3]) else []) (fun i => [3]) 4 [0, 1, 2, 3] mixed (by kernel_rfl) rfl rfl rfl rfl rfl rfl rfl rfl rfl rfl rfl rfl rfl Try.underlying9 ?_
  refine eP (fun H hH => yv_callP rfl rfl .nil cal20 (CvL.refl _) forms20_c) ?_
  refine eF fo28_0 ?_
  refine eL sh3 ?_
  refine de_as 30 (int 10) rfl (congrArg int (of_decide_eq_true e29)) ?_
  refine de_pure rfl rfl rfl rfl (fun H hH => yv_indexA rfl Try.underlying46 sh45 rfl rfl (by decide) rfl) ?_
  refine ⟨_, rfl, rfl, fun b131 => ?_⟩
  refine tc tbk 13 (.mk ?_)
  refine sY (yv_to (y := boo false) (yv_eql rfl rfl rfl) (congrArg boo (by decide))) ?_
  refine tr tbk 4 (.mk ?_)
  obtain ⟨j132, h3, h2⟩ := bind_e h2
  refine rse (Out := fun y H' => (∃ (a : Unit) (k : Unit), a = j132 ∧ y = .pt 3 v11 0 1 ∧ H' = hk [(1, ⟨72, 2, true, true, v3, [[.pt 1 v3 0 0, .sl 2 v16 0 x18.length]]⟩), (2, ⟨5, 1, true, true, v16, byteRows x18⟩), (3, ⟨28, 9, true, true, v11, [[int x10.Kind, int x10.E, int x10.Item, int x10.Loc, int x10.To, int x10.Qty, int x10.Amount, int x10.Ref, lst 1 fI x10.Refs]]⟩)])) rfl rfl rfl (yl_call rfl rfl (.cons rfl (.cons rfl .nil)) cal23 ?_) ?_
  refine pcw (c := _) Try.func23 rfl rfl ?_; intro Q hret hnorm
  refine tc tbk 12 (.mk ?_)
  refine sY (yv_to (y := boo true) (yv_eql rfl rfl rfl) (congrArg boo (by decide))) ?_
  refine tr tbk 10 (.mk ?_)
  obtain rfl := nxt_e h3
  refine w_ret (hret _ _ (hk [(1, ⟨72, 2, true, true, v3, [[.pt 1 v3 0 0, .sl 2 v16 0 x18.length]]⟩), (2, ⟨5, 1, true, true, v16, byteRows x18⟩), (3, ⟨28, 9, true, true, v11, [[int x10.Kind, int x10.E, int x10.Item, int x10.Loc, int x10.To, int x10.Qty, int x10.Amount, int x10.Ref, lst 1 fI x10.Refs]]⟩)]) (.tmp rfl .nil) (HK.le ⟨rfl, rfl, rfl, trivial⟩) ?_)
  exact ⟨(), (), rfl, rfl, rfl⟩
  rintro y _ ⟨_, _, rfl, hc, rfl⟩
  subst hc
  refine tr tbk 2 (.mk ?_)
  obtain ⟨x133, e133, h2⟩ := bind_e h2
  refine sC cal40 (numD_c e133) ?_
  obtain ⟨p134, h2⟩ := asrt_e h2
  obtain ⟨p136, h2⟩ := asrt_e h2
  obtain ⟨x137, e137, h2⟩ := bnd_e h2
  refine rse rfl rfl rfl (yl_call rfl rfl (.cons rfl (.cons rfl .nil)) cal39 (PC.mono (wstrS_c (id := 1) (ver := v3) (ib := 2) (vb := v16) (l := x18) (t := x133) (by decide) rfl rfl p136 p134) (R' := fun y H' => y = .tup [int (x133.length : Int), .sc .nilIface] ∧ ∃ vb', H' = upd (upd _ 2 (some (bufO 5 vb' x137))) 1 (some (bldO 72 1 v3 2 (some (vb', x137))))) (fun y H' h => by subst e137; exact h))) ?_; rintro _ _ ⟨rfl, v135, rfl⟩
  refine tr tbk 15 (.mk ?_)
  refine sY (yv_to (y := boo false) (yv_eql rfl rfl rfl) (congrArg boo (by decide))) ?_
  refine tr tbk 4 (.mk ?_)
  obtain ⟨j138, h3, h2⟩ := bind_e h2
  refine rse (Out := fun y H' => (∃ (a : Unit) (k : Unit), a = j138 ∧ y = .pt 3 v11 0 2 ∧ H' = hk [(1, ⟨72, 2, true, true, v3, [[.pt 1 v3 0 0, .sl 2 v135 0 x137.length]]⟩), (2, ⟨5, 1, true, true, v135, byteRows x137⟩), (3, ⟨28, 9, true, true, v11, [[int x10.Kind, int x10.E, int x10.Item, int x10.Loc, int x10.To, int x10.Qty, int x10.Amount, int x10.Ref, lst 1 fI x10.Refs]]⟩)])) rfl rfl rfl (yl_call rfl rfl (.cons rfl (.cons rfl .nil)) cal23 ?_) ?_
  refine pcw (c := _) Try.func23 rfl rfl ?_; intro Q hret hnorm
  refine tc tbk 12 (.mk ?_)
  refine sY (yv_to (y := boo false) (yv_eql rfl rfl rfl) (congrArg boo (by decide))) ?_
  refine tr tbk 5 (.mk ?_)
  refine sY (yv_to (y := boo true) (yv_eql rfl rfl rfl) (congrArg boo (by decide))) ?_
  refine tr tbk 10 (.mk ?_)
  obtain rfl := nxt_e h3
  refine w_ret (hret _ _ (hk [(1, ⟨72, 2, true, true, v3, [[.pt 1 v3 0 0, .sl 2 v135 0 x137.length]]⟩), (2, ⟨5, 1, true, true, v135, byteRows x137⟩), (3, ⟨28, 9, true, true, v11, [[int x10.Kind, int x10.E, int x10.Item, int x10.Loc, int x10.To, int x10.Qty, int x10.Amount, int x10.Ref, lst 1 fI x10.Refs]]⟩)]) (.tmp rfl .nil) (HK.le ⟨rfl, rfl, rfl, trivial⟩) ?_)
  exact ⟨(), (), rfl, rfl, rfl⟩
  rintro y _ ⟨_, _, rfl, hc, rfl⟩
  subst hc
  refine tr tbk 2 (.mk ?_)
  obtain ⟨x139, e139, h2⟩ := bind_e h2
  refine sC cal40 (numD_c e139) ?_
  obtain ⟨p140, h2⟩ := asrt_e h2
  obtain ⟨p142, h2⟩ := asrt_e h2
  obtain ⟨x143, e143, h2⟩ := bnd_e h2
  refine rse rfl rfl rfl (yl_call rfl rfl (.cons rfl (.cons rfl .nil)) cal39 (PC.mono (wstrS_c (id := 1) (ver := v3) (ib := 2) (vb := v135) (l := x137) (t := x139) (by decide) rfl rfl p142 p140) (R' := fun y H' => y = .tup [int (x139.length : Int), .sc .nilIface] ∧ ∃ vb', H' = upd (upd _ 2 (some (bufO 5 vb' x143))) 1 (some (bldO 72 1 v3 2 (some (vb', x143))))) (fun y H' h => by subst e143; exact h))) ?_; rintro _ _ ⟨rfl, v141, rfl⟩
  refine tr tbk 15 (.mk ?_)
  refine sY (yv_to (y := boo false) (yv_eql rfl rfl rfl) (congrArg boo (by decide))) ?_
  refine tr tbk 4 (.mk ?_)
  obtain ⟨j144, h3, h2⟩ := bind_e h2
  refine rse (Out := fun y H' => (∃ (a : Unit) (k : Unit), a = j144 ∧ y = .pt 3 v11 0 6 ∧ H' = hk [(1, ⟨72, 2, true, true, v3, [[.pt 1 v3 0 0, .sl 2 v141 0 x143.length]]⟩), (2, ⟨5, 1, true, true, v141, byteRows x143⟩), (3, ⟨28, 9, true, true, v11, [[int x10.Kind, int x10.E, int x10.Item, int x10.Loc, int x10.To, int x10.Qty, int x10.Amount, int x10.Ref, lst 1 fI x10.Refs]]⟩)])) rfl rfl rfl (yl_call rfl rfl (.cons rfl (.cons rfl .nil)) cal23 ?_) ?_
  refine pcw (c := _) Try.func23 rfl rfl ?_; intro Q hret hnorm
  refine tc tbk 12 (.mk ?_)
  refine sY (yv_to (y := boo false) (yv_eql rfl rfl rfl) (congrArg boo (by decide))) ?_
  refine tr tbk 5 (.mk ?_)
  refine sY (yv_to (y := boo false) (yv_eql rfl rfl rfl) (congrArg boo (by decide))) ?_
  refine tr tbk 5 (.mk ?_)
  refine sY (yv_to (y := boo false) (yv_eql rfl rfl rfl) (congrArg boo (by decide))) ?_
  refine tr tbk 5 (.mk ?_)
  refine sY (yv_to (y := boo false) (yv_eql rfl rfl rfl) (congrArg boo (by decide))) ?_
  refine tr tbk 5 (.mk ?_)
  refine sY (yv_to (y := boo false) (yv_eql rfl rfl rfl) (congrArg boo (by decide))) ?_
  refine tr tbk 5 (.mk ?_)
  refine sY (yv_to (y := boo true) (yv_eql rfl rfl rfl) (congrArg boo (by decide))) ?_
  refine tr tbk 10 (.mk ?_)
  obtain rfl := nxt_e h3
  refine w_ret (hret _ _ (hk [(1, ⟨72, 2, true, true, v3, [[.pt 1 v3 0 0, .sl 2 v141 0 x143.length]]⟩), (2, ⟨5, 1, true, true, v141, byteRows x143⟩), (3, ⟨28, 9, true, true, v11, [[int x10.Kind, int x10.E, int x10.Item, int x10.Loc, int x10.To, int x10.Qty, int x10.Amount, int x10.Ref, lst 1 fI x10.Refs]]⟩)]) (.tmp rfl .nil) (HK.le ⟨rfl, rfl, rfl, trivial⟩) ?_)
  exact ⟨(), (), rfl, rfl, rfl⟩
  rintro y _ ⟨_, _, rfl, hc, rfl⟩
  subst hc
  refine tr tbk 2 (.mk ?_)
  obtain ⟨x145, e145, h2⟩ := bind_e h2
  refine sC cal40 (numD_c e145) ?_
  obtain ⟨p146, h2⟩ := asrt_e h2
  obtain ⟨p148, h2⟩ := asrt_e h2
  obtain ⟨x149, e149, h2⟩ := bnd_e h2
  refine rse rfl rfl rfl (yl_call rfl rfl (.cons rfl (.cons rfl .nil)) cal39 (PC.mono (wstrS_c (id := 1) (ver := v3) (ib := 2) (vb := v141) (l := x143) (t := x145) (by decide) rfl rfl p148 p146) (R' := fun y H' => y = .tup [int (x145.length : Int), .sc .nilIface] ∧ ∃ vb', H' = upd (upd _ 2 (some (bufO 5 vb' x149))) 1 (some (bldO 72 1 v3 2 (some (vb', x149))))) (fun y H' h => by subst e149; exact h))) ?_; rintro _ _ ⟨rfl, v147, rfl⟩
  refine tr tbk 7 (.mk ?_)
  exact lfE h2 v147 leA
  replace h2 := ct h2
  refine w_rangeD [0, 0, 2, 7, 15] (fun i => bif Nat.beq i 1 then ([3]) else bif Nat.beq i 2 then ([3]) else []) (fun i => [3]) 4 [0, 1, 2, 3] mixed (by kernel_rfl) rfl rfl rfl rfl rfl rfl rfl rfl rfl rfl rfl rfl rfl Try.underlying9 ?_
  refine eP (fun H hH => yv_callP rfl rfl .nil cal20 (CvL.refl _) forms20_c) ?_
  refine eF fo28_0 ?_
  refine eL sh3 ?_
  refine de_as 30 (int 9) rfl (congrArg int (of_decide_eq_true e28)) ?_
  refine de_pure rfl rfl rfl rfl (fun H hH => yv_indexA rfl Try.underlying46 sh45 rfl rfl (by decide) rfl) ?_
  refine ⟨_, rfl, rfl, fun b150 => ?_⟩
  refine tc tbk 13 (.mk ?_)
  refine sY (yv_to (y := boo false) (yv_eql rfl rfl rfl) (congrArg boo (by decide))) ?_
  refine tr tbk 4 (.mk ?_)
  obtain ⟨j151, h3, h2⟩ := bind_e h2
  refine rse (Out := fun y H' => (∃ (a : Unit) (k : Unit), a = j151 ∧ y = .pt 3 v11 0 1 ∧ H' = hk [(1, ⟨72, 2, true, true, v3, [[.pt 1 v3 0 0, .sl 2 v16 0 x18.length]]⟩), (2, ⟨5, 1, true, true, v16, byteRows x18⟩), (3, ⟨28, 9, true, true, v11, [[int x10.Kind, int x10.E, int x10.Item, int x10.Loc, int x10.To, int x10.Qty, int x10.Amount, int x10.Ref, lst 1 fI x10.Refs]]⟩)])) rfl rfl rfl (yl_call rfl rfl (.cons rfl (.cons rfl .nil)) cal23 ?_) ?_
  refine pcw (c := _) Try.func23 rfl rfl ?_; intro Q hret hnorm
  refine tc tbk 12 (.mk ?_)
  refine sY (yv_to (y := boo true) (yv_eql rfl rfl rfl) (congrArg boo (by decide))) ?_
  refine tr tbk 10 (.mk ?_)
  obtain rfl := nxt_e h3
  refine w_ret (hret _ _ (hk [(1, ⟨72, 2, true, true, v3, [[.pt 1 v3 0 0, .sl 2 v16 0 x18.length]]⟩), (2, ⟨5, 1, true, true, v16, byteRows x18⟩), (3, ⟨28, 9, true, true, v11, [[int x10.Kind, int x10.E, int x10.Item, int x10.Loc, int x10.To, int x10.Qty, int x10.Amount, int x10.Ref, lst 1 fI x10.Refs]]⟩)]) (.tmp rfl .nil) (HK.le ⟨rfl, rfl, rfl, trivial⟩) ?_)
  exact ⟨(), (), rfl, rfl, rfl⟩
  rintro y _ ⟨_, _, rfl, hc, rfl⟩
  subst hc
  refine tr tbk 2 (.mk ?_)
  obtain ⟨x152, e152, h2⟩ := bind_e h2
  refine sC cal40 (numD_c e152) ?_
  obtain ⟨p153, h2⟩ := asrt_e h2
  obtain ⟨p155, h2⟩ := asrt_e h2
  obtain ⟨x156, e156, h2⟩ := bnd_e h2
  refine rse rfl rfl rfl (yl_call rfl rfl (.cons rfl (.cons rfl .nil)) cal39 (PC.mono (wstrS_c (id := 1) (ver := v3) (ib := 2) (vb := v16) (l := x18) (t := x152) (by decide) rfl rfl p155 p153) (R' := fun y H' => y = .tup [int (x152.length : Int), .sc .nilIface] ∧ ∃ vb', H' = upd (upd _ 2 (some (bufO 5 vb' x156))) 1 (some (bldO 72 1 v3 2 (some (vb', x156))))) (fun y H' h => by subst e156; exact h))) ?_; rintro _ _ ⟨rfl, v154, rfl⟩
  refine tr tbk 15 (.mk ?_)
  refine sY (yv_to (y := boo false) (yv_eql rfl rfl rfl) (congrArg boo (by decide))) ?_
  refine tr tbk 4 (.mk ?_)
  obtain ⟨j157, h3, h2⟩ := bind_e h2
  refine rse (Out := fun y H' => (∃ (a : Unit) (k : Unit), a = j157 ∧ y = .pt 3 v11 0 2 ∧ H' = hk [(1, ⟨72, 2, true, true, v3, [[.pt 1 v3 0 0, .sl 2 v154 0 x156.length]]⟩), (2, ⟨5, 1, true, true, v154, byteRows x156⟩), (3, ⟨28, 9, true, true, v11, [[int x10.Kind, int x10.E, int x10.Item, int x10.Loc, int x10.To, int x10.Qty, int x10.Amount, int x10.Ref, lst 1 fI x10.Refs]]⟩)])) rfl rfl rfl (yl_call rfl rfl (.cons rfl (.cons rfl .nil)) cal23 ?_) ?_
  refine pcw (c := _) Try.func23 rfl rfl ?_; intro Q hret hnorm
  refine tc tbk 12 (.mk ?_)
  refine sY (yv_to (y := boo false) (yv_eql rfl rfl rfl) (congrArg boo (by decide))) ?_
  refine tr tbk 5 (.mk ?_)
  refine sY (yv_to (y := boo true) (yv_eql rfl rfl rfl) (congrArg boo (by decide))) ?_
  refine tr tbk 10 (.mk ?_)
  obtain rfl := nxt_e h3
  refine w_ret (hret _ _ (hk [(1, ⟨72, 2, true, true, v3, [[.pt 1 v3 0 0, .sl 2 v154 0 x156.length]]⟩), (2, ⟨5, 1, true, true, v154, byteRows x156⟩), (3, ⟨28, 9, true, true, v11, [[int x10.Kind, int x10.E, int x10.Item, int x10.Loc, int x10.To, int x10.Qty, int x10.Amount, int x10.Ref, lst 1 fI x10.Refs]]⟩)]) (.tmp rfl .nil) (HK.le ⟨rfl, rfl, rfl, trivial⟩) ?_)
  exact ⟨(), (), rfl, rfl, rfl⟩
  rintro y _ ⟨_, _, rfl, hc, rfl⟩
  subst hc
  refine tr tbk 2 (.mk ?_)
  obtain ⟨x158, e158, h2⟩ := bind_e h2
  refine sC cal40 (numD_c e158) ?_
  obtain ⟨p159, h2⟩ := asrt_e h2
  obtain ⟨p161, h2⟩ := asrt_e h2
  obtain ⟨x162, e162, h2⟩ := bnd_e h2
  refine rse rfl rfl rfl (yl_call rfl rfl (.cons rfl (.cons rfl .nil)) cal39 (PC.mono (wstrS_c (id := 1) (ver := v3) (ib := 2) (vb := v154) (l := x156) (t := x158) (by decide) rfl rfl p161 p159) (R' := fun y H' => y = .tup [int (x158.length : Int), .sc .nilIface] ∧ ∃ vb', H' = upd (upd _ 2 (some (bufO 5 vb' x162))) 1 (some (bldO 72 1 v3 2 (some (vb', x162))))) (fun y H' h => by subst e162; exact h))) ?_; rintro _ _ ⟨rfl, v160, rfl⟩
  refine tr tbk 15 (.mk ?_)
  refine sY (yv_to (y := boo false) (yv_eql rfl rfl rfl) (congrArg boo (by decide))) ?_
  refine tr tbk 4 (.mk ?_)
  obtain ⟨j163, h3, h2⟩ := bind_e h2
  refine rse (Out := fun y H' => (∃ (a : Unit) (k : Unit), a = j163 ∧ y = .pt 3 v11 0 6 ∧ H' = hk [(1, ⟨72, 2, true, true, v3, [[.pt 1 v3 0 0, .sl 2 v160 0 x162.length]]⟩), (2, ⟨5, 1, true, true, v160, byteRows x162⟩), (3, ⟨28, 9, true, true, v11, [[int x10.Kind, int x10.E, int x10.Item, int x10.Loc, int x10.To, int x10.Qty, int x10.Amount, int x10.Ref, lst 1 fI x10.Refs]]⟩)])) rfl rfl rfl (yl_call rfl rfl (.cons rfl (.cons rfl .nil)) cal23 ?_) ?_
  refine pcw (c := _) Try.func23 rfl rfl ?_; intro Q hret hnorm
  refine tc tbk 12 (.mk ?_)
  refine sY (yv_to (y := boo false) (yv_eql rfl rfl rfl) (congrArg boo (by decide))) ?_
  refine tr tbk 5 (.mk ?_)
  refine sY (yv_to (y := boo false) (yv_eql rfl rfl rfl) (congrArg boo (by decide))) ?_
  refine tr tbk 5 (.mk ?_)
  refine sY (yv_to (y := boo false) (yv_eql rfl rfl rfl) (congrArg boo (by decide))) ?_
  refine tr tbk 5 (.mk ?_)
  refine sY (yv_to (y := boo false) (yv_eql rfl rfl rfl) (congrArg boo (by decide))) ?_
  refine tr tbk 5 (.mk ?_)
  refine sY (yv_to (y := boo false) (yv_eql rfl rfl rfl) (congrArg boo (by decide))) ?_
  refine tr tbk 5 (.mk ?_)
  refine sY (yv_to (y := boo true) (yv_eql rfl rfl rfl) (congrArg boo (by decide))) ?_
  refine tr tbk 10 (.mk ?_)
  obtain rfl := nxt_e h3
  refine w_ret (hret _ _ (hk [(1, ⟨72, 2, true, true, v3, [[.pt 1 v3 0 0, .sl 2 v160 0 x162.length]]⟩), (2, ⟨5, 1, true, true, v160, byteRows x162⟩), (3, ⟨28, 9, true, true, v11, [[int x10.Kind, int x10.E, int x10.Item, int x10.Loc, int x10.To, int x10.Qty, int x10.Amount, int x10.Ref, lst 1 fI x10.Refs]]⟩)]) (.tmp rfl .nil) (HK.le ⟨rfl, rfl, rfl, trivial⟩) ?_)
  exact ⟨(), (), rfl, rfl, rfl⟩
  rintro y _ ⟨_, _, rfl, hc, rfl⟩
  subst hc
  refine tr tbk 2 (.mk ?_)
  obtain ⟨x164, e164, h2⟩ := bind_e h2
  refine sC cal40 (numD_c e164) ?_
  obtain ⟨p165, h2⟩ := asrt_e h2
  obtain ⟨p167, h2⟩ := asrt_e h2
  obtain ⟨x168, e168, h2⟩ := bnd_e h2
  refine rse rfl rfl rfl (yl_call rfl rfl (.cons rfl (.cons rfl .nil)) cal39 (PC.mono (wstrS_c (id := 1) (ver := v3) (ib := 2) (vb := v160) (l := x162) (t := x164) (by decide) rfl rfl p167 p165) (R' := fun y H' => y = .tup [int (x164.length : Int), .sc .nilIface] ∧ ∃ vb', H' = upd (upd _ 2 (some (bufO 5 vb' x168))) 1 (some (bldO 72 1 v3 2 (some (vb', x168))))) (fun y H' h => by subst e168; exact h))) ?_; rintro _ _ ⟨rfl, v166, rfl⟩
  refine tr tbk 7 (.mk ?_)
  exact lfE h2 v166 leA
  replace h2 := ct h2
  refine w_rangeD [0, 0, 2, 7, 15] (fun i => bif Nat.beq i 1 then ([3]) else bif Nat.beq i 2 then ([3]) else []) (fun i => [3]) 4 [0, 1, 2, 3] mixed (by kernel_rfl) rfl rfl rfl rfl rfl rfl rfl rfl rfl rfl rfl rfl rfl Try.underlying9 ?_
  refine eP (fun H hH => yv_callP rfl rfl .nil cal20 (CvL.refl _) forms20_c) ?_
  refine eF fo28_0 ?_
  refine eL sh3 ?_
  refine de_as 30 (int 8) rfl (congrArg int (of_decide_eq_true e27)) ?_
  refine de_pure rfl rfl rfl rfl (fun H hH => yv_indexA rfl Try.underlying46 sh45 rfl rfl (by decide) rfl) ?_
  refine ⟨_, rfl, rfl, fun b169 => ?_⟩
  refine tc tbk 13 (.mk ?_)
  refine sY (yv_to (y := boo false) (yv_eql rfl rfl rfl) (congrArg boo (by decide))) ?_
  refine tr tbk 4 (.mk ?_)
  obtain ⟨j170, h3, h2⟩ := bind_e h2
  refine rse (Out := fun y H' => (∃ (a : Unit) (k : Unit), a = j170 ∧ y = .pt 3 v11 0 1 ∧ H' = hk [(1, ⟨72, 2, true, true, v3, [[.pt 1 v3 0 0, .sl 2 v16 0 x18.length]]⟩), (2, ⟨5, 1, true, true, v16, byteRows x18⟩), (3, ⟨28, 9, true, true, v11, [[int x10.Kind, int x10.E, int x10.Item, int x10.Loc, int x10.To, int x10.Qty, int x10.Amount, int x10.Ref, lst 1 fI x10.Refs]]⟩)])) rfl rfl rfl (yl_call rfl rfl (.cons rfl (.cons rfl .nil)) cal23 ?_) ?_
  refine pcw (c := _) Try.func23 rfl rfl ?_; intro Q hret hnorm
  refine tc tbk 12 (.mk ?_)
  refine sY (yv_to (y := boo true) (yv_eql rfl rfl rfl) (congrArg boo (by decide))) ?_
  refine tr tbk 10 (.mk ?_)
  obtain rfl := nxt_e h3
  refine w_ret (hret _ _ (hk [(1, ⟨72, 2, true, true, v3, [[.pt 1 v3 0 0, .sl 2 v16 0 x18.length]]⟩), (2, ⟨5, 1, true, true, v16, byteRows x18⟩), (3, ⟨28, 9, true, true, v11, [[int x10.Kind, int x10.E, int x10.Item, int x10.Loc, int x10.To, int x10.Qty, int x10.Amount, int x10.Ref, lst 1 fI x10.Refs]]⟩)]) (.tmp rfl .nil) (HK.le ⟨rfl, rfl, rfl, trivial⟩) ?_)
  exact ⟨(), (), rfl, rfl, rfl⟩
  rintro y _ ⟨_, _, rfl, hc, rfl⟩
  subst hc
  refine tr tbk 2 (.mk ?_)
  obtain ⟨x171, e171, h2⟩ := bind_e h2
  refine sC cal40 (numD_c e171) ?_
  obtain ⟨p172, h2⟩ := asrt_e h2
  obtain ⟨p174, h2⟩ := asrt_e h2
  obtain ⟨x175, e175, h2⟩ := bnd_e h2
  refine rse rfl rfl rfl (yl_call rfl rfl (.cons rfl (.cons rfl .nil)) cal39 (PC.mono (wstrS_c (id := 1) (ver := v3) (ib := 2) (vb := v16) (l := x18) (t := x171) (by decide) rfl rfl p174 p172) (R' := fun y H' => y = .tup [int (x171.length : Int), .sc .nilIface] ∧ ∃ vb', H' = upd (upd _ 2 (some (bufO 5 vb' x175))) 1 (some (bldO 72 1 v3 2 (some (vb', x175))))) (fun y H' h => by subst e175; exact h))) ?_; rintro _ _ ⟨rfl, v173, rfl⟩
  refine tr tbk 15 (.mk ?_)
  refine sY (yv_to (y := boo false) (yv_eql rfl rfl rfl) (congrArg boo (by decide))) ?_
  refine tr tbk 4 (.mk ?_)
  obtain ⟨j176, h3, h2⟩ := bind_e h2
  refine rse (Out := fun y H' => (∃ (a : Unit) (k : Unit), a = j176 ∧ y = .pt 3 v11 0 2 ∧ H' = hk [(1, ⟨72, 2, true, true, v3, [[.pt 1 v3 0 0, .sl 2 v173 0 x175.length]]⟩), (2, ⟨5, 1, true, true, v173, byteRows x175⟩), (3, ⟨28, 9, true, true, v11, [[int x10.Kind, int x10.E, int x10.Item, int x10.Loc, int x10.To, int x10.Qty, int x10.Amount, int x10.Ref, lst 1 fI x10.Refs]]⟩)])) rfl rfl rfl (yl_call rfl rfl (.cons rfl (.cons rfl .nil)) cal23 ?_) ?_
  refine pcw (c := _) Try.func23 rfl rfl ?_; intro Q hret hnorm
  refine tc tbk 12 (.mk ?_)
  refine sY (yv_to (y := boo false) (yv_eql rfl rfl rfl) (congrArg boo (by decide))) ?_
  refine tr tbk 5 (.mk ?_)
  refine sY (yv_to (y := boo true) (yv_eql rfl rfl rfl) (congrArg boo (by decide))) ?_
  refine tr tbk 10 (.mk ?_)
  obtain rfl := nxt_e h3
  refine w_ret (hret _ _ (hk [(1, ⟨72, 2, true, true, v3, [[.pt 1 v3 0 0, .sl 2 v173 0 x175.length]]⟩), (2, ⟨5, 1, true, true, v173, byteRows x175⟩), (3, ⟨28, 9, true, true, v11, [[int x10.Kind, int x10.E, int x10.Item, int x10.Loc, int x10.To, int x10.Qty, int x10.Amount, int x10.Ref, lst 1 fI x10.Refs]]⟩)]) (.tmp rfl .nil) (HK.le ⟨rfl, rfl, rfl, trivial⟩) ?_)
  exact ⟨(), (), rfl, rfl, rfl⟩
  rintro y _ ⟨_, _, rfl, hc, rfl⟩
  subst hc
  refine tr tbk 2 (.mk ?_)
  obtain ⟨x177, e177, h2⟩ := bind_e h2
  refine sC cal40 (numD_c e177) ?_
  obtain ⟨p178, h2⟩ := asrt_e h2
  obtain ⟨p180, h2⟩ := asrt_e h2
  obtain ⟨x181, e181, h2⟩ := bnd_e h2
  refine rse rfl rfl rfl (yl_call rfl rfl (.cons rfl (.cons rfl .nil)) cal39 (PC.mono (wstrS_c (id := 1) (ver := v3) (ib := 2) (vb := v173) (l := x175) (t := x177) (by decide) rfl rfl p180 p178) (R' := fun y H' => y = .tup [int (x177.length : Int), .sc .nilIface] ∧ ∃ vb', H' = upd (upd _ 2 (some (bufO 5 vb' x181))) 1 (some (bldO 72 1 v3 2 (some (vb', x181))))) (fun y H' h => by subst e181; exact h))) ?_; rintro _ _ ⟨rfl, v179, rfl⟩
  refine tr tbk 15 (.mk ?_)
  refine sY (yv_to (y := boo false) (yv_eql rfl rfl rfl) (congrArg boo (by decide))) ?_
  refine tr tbk 4 (.mk ?_)
  obtain ⟨j182, h3, h2⟩ := bind_e h2
  refine rse (Out := fun y H' => (∃ (a : Unit) (k : Unit), a = j182 ∧ y = .pt 3 v11 0 3 ∧ H' = hk [(1, ⟨72, 2, true, true, v3, [[.pt 1 v3 0 0, .sl 2 v179 0 x181.length]]⟩), (2, ⟨5, 1, true, true, v179, byteRows x181⟩), (3, ⟨28, 9, true, true, v11, [[int x10.Kind, int x10.E, int x10.Item, int x10.Loc, int x10.To, int x10.Qty, int x10.Amount, int x10.Ref, lst 1 fI x10.Refs]]⟩)])) rfl rfl rfl (yl_call rfl rfl (.cons rfl (.cons rfl .nil)) cal23 ?_) ?_
  refine pcw (c := _) Try.func23 rfl rfl ?_; intro Q hret hnorm
  refine tc tbk 12 (.mk ?_)
  refine sY (yv_to (y := boo false) (yv_eql rfl rfl rfl) (congrArg boo (by decide))) ?_
  refine tr tbk 5 (.mk ?_)
  refine sY (yv_to (y := boo false) (yv_eql rfl rfl rfl) (congrArg boo (by decide))) ?_
  refine tr tbk 5 (.mk ?_)
  refine sY (yv_to (y := boo true) (yv_eql rfl rfl rfl) (congrArg boo (by decide))) ?_
  refine tr tbk 10 (.mk ?_)
  obtain rfl := nxt_e h3
  refine w_ret (hret _ _ (hk [(1, ⟨72, 2, true, true, v3, [[.pt 1 v3 0 0, .sl 2 v179 0 x181.length]]⟩), (2, ⟨5, 1, true, true, v179, byteRows x181⟩), (3, ⟨28, 9, true, true, v11, [[int x10.Kind, int x10.E, int x10.Item, int x10.Loc, int x10.To, int x10.Qty, int x10.Amount, int x10.Ref, lst 1 fI x10.Refs]]⟩)]) (.tmp rfl .nil) (HK.le ⟨rfl, rfl, rfl, trivial⟩) ?_)
  exact ⟨(), (), rfl, rfl, rfl⟩
  rintro y _ ⟨_, _, rfl, hc, rfl⟩
  subst hc
  refine tr tbk 2 (.mk ?_)
  obtain ⟨x183, e183, h2⟩ := bind_e h2
  refine sC cal40 (numD_c e183) ?_
  obtain ⟨p184, h2⟩ := asrt_e h2
  obtain ⟨p186, h2⟩ := asrt_e h2
  obtain ⟨x187, e187, h2⟩ := bnd_e h2
  refine rse rfl rfl rfl (yl_call rfl rfl (.cons rfl (.cons rfl .nil)) cal39 (PC.mono (wstrS_c (id := 1) (ver := v3) (ib := 2) (vb := v179) (l := x181) (t := x183) (by decide) rfl rfl p186 p184) (R' := fun y H' => y = .tup [int (x183.length : Int), .sc .nilIface] ∧ ∃ vb', H' = upd (upd _ 2 (some (bufO 5 vb' x187))) 1 (some (bldO 72 1 v3 2 (some (vb', x187))))) (fun y H' h => by subst e187; exact h))) ?_; rintro _ _ ⟨rfl, v185, rfl⟩
  refine tr tbk 15 (.mk ?_)
  refine sY (yv_to (y := boo false) (yv_eql rfl rfl rfl) (congrArg boo (by decide))) ?_
  refine tr tbk 4 (.mk ?_)
  obtain ⟨j188, h3, h2⟩ := bind_e h2
  refine rse (Out := fun y H' => (∃ (a : Unit) (k : Unit), a = j188 ∧ y = .pt 3 v11 0 4 ∧ H' = hk [(1, ⟨72, 2, true, true, v3, [[.pt 1 v3 0 0, .sl 2 v185 0 x187.length]]⟩), (2, ⟨5, 1, true, true, v185, byteRows x187⟩), (3, ⟨28, 9, true, true, v11, [[int x10.Kind, int x10.E, int x10.Item, int x10.Loc, int x10.To, int x10.Qty, int x10.Amount, int x10.Ref, lst 1 fI x10.Refs]]⟩)])) rfl rfl rfl (yl_call rfl rfl (.cons rfl (.cons rfl .nil)) cal23 ?_) ?_
  refine pcw (c := _) Try.func23 rfl rfl ?_; intro Q hret hnorm
  refine tc tbk 12 (.mk ?_)
  refine sY (yv_to (y := boo false) (yv_eql rfl rfl rfl) (congrArg boo (by decide))) ?_
  refine tr tbk 5 (.mk ?_)
  refine sY (yv_to (y := boo false) (yv_eql rfl rfl rfl) (congrArg boo (by decide))) ?_
  refine tr tbk 5 (.mk ?_)
  refine sY (yv_to (y := boo false) (yv_eql rfl rfl rfl) (congrArg boo (by decide))) ?_
  refine tr tbk 5 (.mk ?_)
  refine sY (yv_to (y := boo true) (yv_eql rfl rfl rfl) (congrArg boo (by decide))) ?_
  refine tr tbk 10 (.mk ?_)
  obtain rfl := nxt_e h3
  refine w_ret (hret _ _ (hk [(1, ⟨72, 2, true, true, v3, [[.pt 1 v3 0 0, .sl 2 v185 0 x187.length]]⟩), (2, ⟨5, 1, true, true, v185, byteRows x187⟩), (3, ⟨28, 9, true, true, v11, [[int x10.Kind, int x10.E, int x10.Item, int x10.Loc, int x10.To, int x10.Qty, int x10.Amount, int x10.Ref, lst 1 fI x10.Refs]]⟩)]) (.tmp rfl .nil) (HK.le ⟨rfl, rfl, rfl, trivial⟩) ?_)
  exact ⟨(), (), rfl, rfl, rfl⟩
  rintro y _ ⟨_, _, rfl, hc, rfl⟩
  subst hc
  refine tr tbk 2 (.mk ?_)
  obtain ⟨x189, e189, h2⟩ := bind_e h2
  refine sC cal40 (numD_c e189) ?_
  obtain ⟨p190, h2⟩ := asrt_e h2
  obtain ⟨p192, h2⟩ := asrt_e h2
  obtain ⟨x193, e193, h2⟩ := bnd_e h2
  refine rse rfl rfl rfl (yl_call rfl rfl (.cons rfl (.cons rfl .nil)) cal39 (PC.mono (wstrS_c (id := 1) (ver := v3) (ib := 2) (vb := v185) (l := x187) (t := x189) (by decide) rfl rfl p192 p190) (R' := fun y H' => y = .tup [int (x189.length : Int), .sc .nilIface] ∧ ∃ vb', H' = upd (upd _ 2 (some (bufO 5 vb' x193))) 1 (some (bldO 72 1 v3 2 (some (vb', x193))))) (fun y H' h => by subst e193; exact h))) ?_; rintro _ _ ⟨rfl, v191, rfl⟩
  refine tr tbk 15 (.mk ?_)
  refine sY (yv_to (y := boo false) (yv_eql rfl rfl rfl) (congrArg boo (by decide))) ?_
  refine tr tbk 4 (.mk ?_)
  obtain ⟨j194, h3, h2⟩ := bind_e h2
  refine rse (Out := fun y H' => (∃ (a : Unit) (k : Unit), a = j194 ∧ y = .pt 3 v11 0 5 ∧ H' = hk [(1, ⟨72, 2, true, true, v3, [[.pt 1 v3 0 0, .sl 2 v191 0 x193.length]]⟩), (2, ⟨5, 1, true, true, v191, byteRows x193⟩), (3, ⟨28, 9, true, true, v11, [[int x10.Kind, int x10.E, int x10.Item, int x10.Loc, int x10.To, int x10.Qty, int x10.Amount, int x10.Ref, lst 1 fI x10.Refs]]⟩)])) rfl rfl rfl (yl_call rfl rfl (.cons rfl (.cons rfl .nil)) cal23 ?_) ?_
  refine pcw (c := _) Try.func23 rfl rfl ?_; intro Q hret hnorm
  refine tc tbk 12 (.mk ?_)
  refine sY (yv_to (y := boo false) (yv_eql rfl rfl rfl) (congrArg boo (by decide))) ?_
  refine tr tbk 5 (.mk ?_)
  refine sY (yv_to (y := boo false) (yv_eql rfl rfl rfl) (congrArg boo (by decide))) ?_
  refine tr tbk 5 (.mk ?_)
  refine sY (yv_to (y := boo false) (yv_eql rfl rfl rfl) (congrArg boo (by decide))) ?_
  refine tr tbk 5 (.mk ?_)
  refine sY (yv_to (y := boo false) (yv_eql rfl rfl rfl) (congrArg boo (by decide))) ?_
  refine tr tbk 5 (.mk ?_)
  refine sY (yv_to (y := boo true) (yv_eql rfl rfl rfl) (congrArg boo (by decide))) ?_
  refine tr tbk 10 (.mk ?_)
  obtain rfl := nxt_e h3
  refine w_ret (hret _ _ (hk [(1, ⟨72, 2, true, true, v3, [[.pt 1 v3 0 0, .sl 2 v191 0 x193.length]]⟩), (2, ⟨5, 1, true, true, v191, byteRows x193⟩), (3, ⟨28, 9, true, true, v11, [[int x10.Kind, int x10.E, int x10.Item, int x10.Loc, int x10.To, int x10.Qty, int x10.Amount, int x10.Ref, lst 1 fI x10.Refs]]⟩)]) (.tmp rfl .nil) (HK.le ⟨rfl, rfl, rfl, trivial⟩) ?_)
  exact ⟨(), (), rfl, rfl, rfl⟩
  rintro y _ ⟨_, _, rfl, hc, rfl⟩
  subst hc
  refine tr tbk 2 (.mk ?_)
  obtain ⟨x195, e195, h2⟩ := bind_e h2
  refine sC cal40 (numD_c e195) ?_
  obtain ⟨p196, h2⟩ := asrt_e h2
  obtain ⟨p198, h2⟩ := asrt_e h2
  obtain ⟨x199, e199, h2⟩ := bnd_e h2
  refine rse rfl rfl rfl (yl_call rfl rfl (.cons rfl (.cons rfl .nil)) cal39 (PC.mono (wstrS_c (id := 1) (ver := v3) (ib := 2) (vb := v191) (l := x193) (t := x195) (by decide) rfl rfl p198 p196) (R' := fun y H' => y = .tup [int (x195.length : Int), .sc .nilIface] ∧ ∃ vb', H' = upd (upd _ 2 (some (bufO 5 vb' x199))) 1 (some (bldO 72 1 v3 2 (some (vb', x199))))) (fun y H' h => by subst e199; exact h))) ?_; rintro _ _ ⟨rfl, v197, rfl⟩
  refine tr tbk 7 (.mk ?_)
  exact lfE h2 v197 leA
  replace h2 := ct h2
  refine w_rangeD [0, 0, 2, 7, 15] (fun i => bif Nat.beq i 1 then ([3]) else bif Nat.beq i 2 then ([3]) else []) (fun i => [3]) 4 [0, 1, 2, 3] mixed (by kernel_rfl) rfl rfl rfl rfl rfl rfl rfl rfl rfl rfl rfl rfl rfl Try.underlying9 ?_
  refine eP (fun H hH => yv_callP rfl rfl .nil cal20 (CvL.refl _) forms20_c) ?_
  refine eF fo28_0 ?_
  refine eL sh3 ?_
  refine de_as 30 (int 7) rfl (congrArg int (of_decide_eq_true e26)) ?_
  refine de_pure rfl rfl rfl rfl (fun H hH => yv_indexA rfl Try.underlying46 sh45 rfl rfl (by decide) rfl) ?_
  refine ⟨_, rfl, rfl, fun b200 => ?_⟩
  refine tc tbk 13 (.mk ?_)
  refine sY (yv_to (y := boo false) (yv_eql rfl rfl rfl) (congrArg boo (by decide))) ?_
  refine tr tbk 4 (.mk ?_)
  obtain ⟨j201, h3, h2⟩ := bind_e h2
  refine rse (Out := fun y H' => (∃ (a : Unit) (k : Unit), a = j201 ∧ y = .pt 3 v11 0 1 ∧ H' = hk [(1, ⟨72, 2, true, true, v3, [[.pt 1 v3 0 0, .sl 2 v16 0 x18.length]]⟩), (2, ⟨5, 1, true, true, v16, byteRows x18⟩), (3, ⟨28, 9, true, true, v11, [[int x10.Kind, int x10.E, int x10.Item, int x10.Loc, int x10.To, int x10.Qty, int x10.Amount, int x10.Ref, lst 1 fI x10.Refs]]⟩)])) rfl rfl rfl (yl_call rfl rfl (.cons rfl (.cons rfl .nil)) cal23 ?_) ?_
  refine pcw (c := _) Try.func23 rfl rfl ?_; intro Q hret hnorm
  refine tc tbk 12 (.mk ?_)
  refine sY (yv_to (y := boo true) (yv_eql rfl rfl rfl) (congrArg boo (by decide))) ?_
  refine tr tbk 10 (.mk ?_)
  obtain rfl := nxt_e h3
  refine w_ret (hret _ _ (hk [(1, ⟨72, 2, true, true, v3, [[.pt 1 v3 0 0, .sl 2 v16 0 x18.length]]⟩), (2, ⟨5, 1, true, true, v16, byteRows x18⟩), (3, ⟨28, 9, true, true, v11, [[int x10.Kind, int x10.E, int x10.Item, int x10.Loc, int x10.To, int x10.Qty, int x10.Amount, int x10.Ref, lst 1 fI x10.Refs]]⟩)]) (.tmp rfl .nil) (HK.le ⟨rfl, rfl, rfl, trivial⟩) ?_)
  exact ⟨(), (), rfl, rfl, rfl⟩
  rintro y _ ⟨_, _, rfl, hc, rfl⟩
  subst hc
  refine tr tbk 2 (.mk ?_)
  obtain ⟨x202, e202, h2⟩ := bind_e h2
  refine sC cal40 (numD_c e202) ?_
  obtain ⟨p203, h2⟩ := asrt_e h2
  obtain ⟨p205, h2⟩ := asrt_e h2
  obtain ⟨x206, e206, h2⟩ := bnd_e h2
  refine rse rfl rfl rfl (yl_call rfl rfl (.cons rfl (.cons rfl .nil)) cal39 (PC.mono (wstrS_c (id := 1) (ver := v3) (ib := 2) (vb := v16) (l := x18) (t := x202) (by decide) rfl rfl p205 p203) (R' := fun y H' => y = .tup [int (x202.length : Int), .sc .nilIface] ∧ ∃ vb', H' = upd (upd _ 2 (some (bufO 5 vb' x206))) 1 (some (bldO 72 1 v3 2 (some (vb', x206))))) (fun y H' h => by subst e206; exact h))) ?_; rintro _ _ ⟨rfl, v204, rfl⟩
  refine tr tbk 15 (.mk ?_)
  refine sY (yv_to (y := boo false) (yv_eql rfl rfl rfl) (congrArg boo (by decide))) ?_
  refine tr tbk 4 (.mk ?_)
  obtain ⟨j207, h3, h2⟩ := bind_e h2
  refine rse (Out := fun y H' => (∃ (a : Unit) (k : Unit), a = j207 ∧ y = .pt 3 v11 0 2 ∧ H' = hk [(1, ⟨72, 2, true, true, v3, [[.pt 1 v3 0 0, .sl 2 v204 0 x206.length]]⟩), (2, ⟨5, 1, true, true, v204, byteRows x206⟩), (3, ⟨28, 9, true, true, v11, [[int x10.Kind, int x10.E, int x10.Item, int x10.Loc, int x10.To, int x10.Qty, int x10.Amount, int x10.Ref, lst 1 fI x10.Refs]]⟩)])) rfl rfl rfl (yl_call rfl rfl (.cons rfl (.cons rfl .nil)) cal23 ?_) ?_
  refine pcw (c := _) Try.func23 rfl rfl ?_; intro Q hret hnorm
  refine tc tbk 12 (.mk ?_)
  refine sY (yv_to (y := boo false) (yv_eql rfl rfl rfl) (congrArg boo (by decide))) ?_
  refine tr tbk 5 (.mk ?_)
  refine sY (yv_to (y := boo true) (yv_eql rfl rfl rfl) (congrArg boo (by decide))) ?_
  refine tr tbk 10 (.mk ?_)
  obtain rfl := nxt_e h3
  refine w_ret (hret _ _ (hk [(1, ⟨72, 2, true, true, v3, [[.pt 1 v3 0 0, .sl 2 v204 0 x206.length]]⟩), (2, ⟨5, 1, true, true, v204, byteRows x206⟩), (3, ⟨28, 9, true, true, v11, [[int x10.Kind, int x10.E, int x10.Item, int x10.Loc, int x10.To, int x10.Qty, int x10.Amount, int x10.Ref, lst 1 fI x10.Refs]]⟩)]) (.tmp rfl .nil) (HK.le ⟨rfl, rfl, rfl, trivial⟩) ?_)
  exact ⟨(), (), rfl, rfl, rfl⟩
  rintro y _ ⟨_, _, rfl, hc, rfl⟩
  subst hc
  refine tr tbk 2 (.mk ?_)
  obtain ⟨x208, e208, h2⟩ := bind_e h2
  refine sC cal40 (numD_c e208) ?_
  obtain ⟨p209, h2⟩ := asrt_e h2
  obtain ⟨p211, h2⟩ := asrt_e h2
  obtain ⟨x212, e212, h2⟩ := bnd_e h2
  refine rse rfl rfl rfl (yl_call rfl rfl (.cons rfl (.cons rfl .nil)) cal39 (PC.mono (wstrS_c (id := 1) (ver := v3) (ib := 2) (vb := v204) (l := x206) (t := x208) (by decide) rfl rfl p211 p209) (R' := fun y H' => y = .tup [int (x208.length : Int), .sc .nilIface] ∧ ∃ vb', H' = upd (upd _ 2 (some (bufO 5 vb' x212))) 1 (some (bldO 72 1 v3 2 (some (vb', x212))))) (fun y H' h => by subst e212; exact h))) ?_; rintro _ _ ⟨rfl, v210, rfl⟩
  refine tr tbk 15 (.mk ?_)
  refine sY (yv_to (y := boo false) (yv_eql rfl rfl rfl) (congrArg boo (by decide))) ?_
  refine tr tbk 4 (.mk ?_)
  obtain ⟨j213, h3, h2⟩ := bind_e h2
  refine rse (Out := fun y H' => (∃ (a : Unit) (k : Unit), a = j213 ∧ y = .pt 3 v11 0 3 ∧ H' = hk [(1, ⟨72, 2, true, true, v3, [[.pt 1 v3 0 0, .sl 2 v210 0 x212.length]]⟩), (2, ⟨5, 1, true, true, v210, byteRows x212⟩), (3, ⟨28, 9, true, true, v11, [[int x10.Kind, int x10.E, int x10.Item, int x10.Loc, int x10.To, int x10.Qty, int x10.Amount, int x10.Ref, lst 1 fI x10.Refs]]⟩)])) rfl rfl rfl (yl_call rfl rfl (.cons rfl (.cons rfl .nil)) cal23 ?_) ?_
  refine pcw (c := _) Try.func23 rfl rfl ?_; intro Q hret hnorm
  refine tc tbk 12 (.mk ?_)
  refine sY (yv_to (y := boo false) (yv_eql rfl rfl rfl) (congrArg boo (by decide))) ?_
  refine tr tbk 5 (.mk ?_)
  refine sY (yv_to (y := boo false) (yv_eql rfl rfl rfl) (congrArg boo (by decide))) ?_
  refine tr tbk 5 (.mk ?_)
  refine sY (yv_to (y := boo true) (yv_eql rfl rfl rfl) (congrArg boo (by decide))) ?_
  refine tr tbk 10 (.mk ?_)
  obtain rfl := nxt_e h3
  refine w_ret (hret _ _ (hk [(1, ⟨72, 2, true, true, v3, [[.pt 1 v3 0 0, .sl 2 v210 0 x212.length]]⟩), (2, ⟨5, 1, true, true, v210, byteRows x212⟩), (3, ⟨28, 9, true, true, v11, [[int x10.Kind, int x10.E, int x10.Item, int x10.Loc, int x10.To, int x10.Qty, int x10.Amount, int x10.Ref, lst 1 fI x10.Refs]]⟩)]) (.tmp rfl .nil) (HK.le ⟨rfl, rfl, rfl, trivial⟩) ?_)
  exact ⟨(), (), rfl, rfl, rfl⟩
  rintro y _ ⟨_, _, rfl, hc, rfl⟩
  subst hc
  refine tr tbk 2 (.mk ?_)
  obtain ⟨x214, e214, h2⟩ := bind_e h2
  refine sC cal40 (numD_c e214) ?_
  obtain ⟨p215, h2⟩ := asrt_e h2
  obtain ⟨p217, h2⟩ := asrt_e h2
  obtain ⟨x218, e218, h2⟩ := bnd_e h2
  refine rse rfl rfl rfl (yl_call rfl rfl (.cons rfl (.cons rfl .nil)) cal39 (PC.mono (wstrS_c (id := 1) (ver := v3) (ib := 2) (vb := v210) (l := x212) (t := x214) (by decide) rfl rfl p217 p215) (R' := fun y H' => y = .tup [int (x214.length : Int), .sc .nilIface] ∧ ∃ vb', H' = upd (upd _ 2 (some (bufO 5 vb' x218))) 1 (some (bldO 72 1 v3 2 (some (vb', x218))))) (fun y H' h => by subst e218; exact h))) ?_; rintro _ _ ⟨rfl, v216, rfl⟩
  refine tr tbk 15 (.mk ?_)
  refine sY (yv_to (y := boo false) (yv_eql rfl rfl rfl) (congrArg boo (by decide))) ?_
  refine tr tbk 4 (.mk ?_)
  obtain ⟨j219, h3, h2⟩ := bind_e h2
  refine rse (Out := fun y H' => (∃ (a : Unit) (k : Unit), a = j219 ∧ y = .pt 3 v11 0 5 ∧ H' = hk [(1, ⟨72, 2, true, true, v3, [[.pt 1 v3 0 0, .sl 2 v216 0 x218.length]]⟩), (2, ⟨5, 1, true, true, v216, byteRows x218⟩), (3, ⟨28, 9, true, true, v11, [[int x10.Kind, int x10.E, int x10.Item, int x10.Loc, int x10.To, int x10.Qty, int x10.Amount, int x10.Ref, lst 1 fI x10.Refs]]⟩)])) rfl rfl rfl (yl_call rfl rfl (.cons rfl (.cons rfl .nil)) cal23 ?_) ?_
  refine pcw (c := _) Try.func23 rfl rfl ?_; intro Q hret hnorm
  refine tc tbk 12 (.mk ?_)
  refine sY (yv_to (y := boo false) (yv_eql rfl rfl rfl) (congrArg boo (by decide))) ?_
  refine tr tbk 5 (.mk ?_)
  refine sY (yv_to (y := boo false) (yv_eql rfl rfl rfl) (congrArg boo (by decide))) ?_
  refine tr tbk 5 (.mk ?_)
  refine sY (yv_to (y := boo false) (yv_eql rfl rfl rfl) (congrArg boo (by decide))) ?_
  refine tr tbk 5 (.mk ?_)
  refine sY (yv_to (y := boo false) (yv_eql rfl rfl rfl) (congrArg boo (by decide))) ?_
  refine tr tbk 5 (.mk ?_)
  refine sY (yv_to (y := boo true) (yv_eql rfl rfl rfl) (congrArg boo (by decide))) ?_
  refine tr tbk 10 (.mk ?_)
  obtain rfl := nxt_e h3
  refine w_ret (hret _ _ (hk [(1, ⟨72, 2, true, true, v3, [[.pt 1 v3 0 0, .sl 2 v216 0 x218.length]]⟩), (2, ⟨5, 1, true, true, v216, byteRows x218⟩), (3, ⟨28, 9, true, true, v11, [[int x10.Kind, int x10.E, int x10.Item, int x10.Loc, int x10.To, int x10.Qty, int x10.Amount, int x10.Ref, lst 1 fI x10.Refs]]⟩)]) (.tmp rfl .nil) (HK.le ⟨rfl, rfl, rfl, trivial⟩) ?_)
  exact ⟨(), (), rfl, rfl, rfl⟩
  rintro y _ ⟨_, _, rfl, hc, rfl⟩
  subst hc
  refine tr tbk 2 (.mk ?_)
  obtain ⟨x220, e220, h2⟩ := bind_e h2
  refine sC cal40 (numD_c e220) ?_
  obtain ⟨p221, h2⟩ := asrt_e h2
  obtain ⟨p223, h2⟩ := asrt_e h2
  obtain ⟨x224, e224, h2⟩ := bnd_e h2
  refine rse rfl rfl rfl (yl_call rfl rfl (.cons rfl (.cons rfl .nil)) cal39 (PC.mono (wstrS_c (id := 1) (ver := v3) (ib := 2) (vb := v216) (l := x218) (t := x220) (by decide) rfl rfl p223 p221) (R' := fun y H' => y = .tup [int (x220.length : Int), .sc .nilIface] ∧ ∃ vb', H' = upd (upd _ 2 (some (bufO 5 vb' x224))) 1 (some (bldO 72 1 v3 2 (some (vb', x224))))) (fun y H' h => by subst e224; exact h))) ?_; rintro _ _ ⟨rfl, v222, rfl⟩
  refine tr tbk 7 (.mk ?_)
  exact lfE h2 v222 leA
  replace h2 := ct h2
  refine w_rangeD [0, 0, 2, 7, 15] (fun i => bif Nat.beq i 1 then ([3]) else bif Nat.beq i 2 then ([3]) else []) (fun i => [3]) 4 [0, 1, 2, 3] mixed (by kernel_rfl) rfl rfl rfl rfl rfl rfl rfl rfl rfl rfl rfl rfl rfl Try.underlying9 ?_
  refine eP (fun H hH => yv_callP rfl rfl .nil cal20 (CvL.refl _) forms20_c) ?_
  refine eF fo28_0 ?_
  refine eL sh3 ?_
  refine de_as 30 (int 6) rfl (congrArg int (of_decide_eq_true e25)) ?_
  refine de_pure rfl rfl rfl rfl (fun H hH => yv_indexA rfl Try.underlying46 sh45 rfl rfl (by decide) rfl) ?_
  refine ⟨_, rfl, rfl, fun b225 => ?_⟩
  refine tc tbk 13 (.mk ?_)
  refine sY (yv_to (y := boo false) (yv_eql rfl rfl rfl) (congrArg boo (by decide))) ?_
  refine tr tbk 4 (.mk ?_)
  obtain ⟨j226, h3, h2⟩ := bind_e h2
  refine rse (Out := fun y H' => (∃ (a : Unit) (k : Unit), a = j226 ∧ y = .pt 3 v11 0 1 ∧ H' = hk [(1, ⟨72, 2, true, true, v3, [[.pt 1 v3 0 0, .sl 2 v16 0 x18.length]]⟩), (2, ⟨5, 1, true, true, v16, byteRows x18⟩), (3, ⟨28, 9, true, true, v11, [[int x10.Kind, int x10.E, int x10.Item, int x10.Loc, int x10.To, int x10.Qty, int x10.Amount, int x10.Ref, lst 1 fI x10.Refs]]⟩)])) rfl rfl rfl (yl_call rfl rfl (.cons rfl (.cons rfl .nil)) cal23 ?_) ?_
  refine pcw (c := _) Try.func23 rfl rfl ?_; intro Q hret hnorm
  refine tc tbk 12 (.mk ?_)
  refine sY (yv_to (y := boo true) (yv_eql rfl rfl rfl) (congrArg boo (by decide))) ?_
  refine tr tbk 10 (.mk ?_)
  obtain rfl := nxt_e h3
  refine w_ret (hret _ _ (hk [(1, ⟨72, 2, true, true, v3, [[.pt 1 v3 0 0, .sl 2 v16 0 x18.length]]⟩), (2, ⟨5, 1, true, true, v16, byteRows x18⟩), (3, ⟨28, 9, true, true, v11, [[int x10.Kind, int x10.E, int x10.Item, int x10.Loc, int x10.To, int x10.Qty, int x10.Amount, int x10.Ref, lst 1 fI x10.Refs]]⟩)]) (.tmp rfl .nil) (HK.le ⟨rfl, rfl, rfl, trivial⟩) ?_)
  exact ⟨(), (), rfl, rfl, rfl⟩
  rintro y _ ⟨_, _, rfl, hc, rfl⟩
  subst hc
  refine tr tbk 2 (.mk ?_)
  obtain ⟨x227, e227, h2⟩ := bind_e h2
  refine sC cal40 (numD_c e227) ?_
  obtain ⟨p228, h2⟩ := asrt_e h2
  obtain ⟨p230, h2⟩ := asrt_e h2
  obtain ⟨x231, e231, h2⟩ := bnd_e h2
  refine rse rfl rfl rfl (yl_call rfl rfl (.cons rfl (.cons rfl .nil)) cal39 (PC.mono (wstrS_c (id := 1) (ver := v3) (ib := 2) (vb := v16) (l := x18) (t := x227) (by decide) rfl rfl p230 p228) (R' := fun y H' => y = .tup [int (x227.length : Int), .sc .nilIface] ∧ ∃ vb', H' = upd (upd _ 2 (some (bufO 5 vb' x231))) 1 (some (bldO 72 1 v3 2 (some (vb', x231))))) (fun y H' h => by subst e231; exact h))) ?_; rintro _ _ ⟨rfl, v229, rfl⟩
  refine tr tbk 15 (.mk ?_)
  refine sY (yv_to (y := boo false) (yv_eql rfl rfl rfl) (congrArg boo (by decide))) ?_
  refine tr tbk 4 (.mk ?_)
  obtain ⟨j232, h3, h2⟩ := bind_e h2
  refine rse (Out := fun y H' => (∃ (a : Unit) (k : Unit), a = j232 ∧ y = .pt 3 v11 0 2 ∧ H' = hk [(1, ⟨72, 2, true, true, v3, [[.pt 1 v3 0 0, .sl 2 v229 0 x231.length]]⟩), (2, ⟨5, 1, true, true, v229, byteRows x231⟩), (3, ⟨28, 9, true, true, v11, [[int x10.Kind, int x10.E, int x10.Item, int x10.Loc, int x10.To, int x10.Qty, int x10.Amount, int x10.Ref, lst 1 fI x10.Refs]]⟩)])) rfl rfl rfl (yl_call rfl rfl (.cons rfl (.cons rfl .nil)) cal23 ?_) ?_
  refine pcw (c := _) Try.func23 rfl rfl ?_; intro Q hret hnorm
  refine tc tbk 12 (.mk ?_)
  refine sY (yv_to (y := boo false) (yv_eql rfl rfl rfl) (congrArg boo (by decide))) ?_
  refine tr tbk 5 (.mk ?_)
  refine sY (yv_to (y := boo true) (yv_eql rfl rfl rfl) (congrArg boo (by decide))) ?_
  refine tr tbk 10 (.mk ?_)
  obtain rfl := nxt_e h3
  refine w_ret (hret _ _ (hk [(1, ⟨72, 2, true, true, v3, [[.pt 1 v3 0 0, .sl 2 v229 0 x231.length]]⟩), (2, ⟨5, 1, true, true, v229, byteRows x231⟩), (3, ⟨28, 9, true, true, v11, [[int x10.Kind, int x10.E, int x10.Item, int x10.Loc, int x10.To, int x10.Qty, int x10.Amount, int x10.Ref, lst 1 fI x10.Refs]]⟩)]) (.tmp rfl .nil) (HK.le ⟨rfl, rfl, rfl, trivial⟩) ?_)
  exact ⟨(), (), rfl, rfl, rfl⟩
  rintro y _ ⟨_, _, rfl, hc, rfl⟩
  subst hc
  refine tr tbk 2 (.mk ?_)
  obtain ⟨x233, e233, h2⟩ := bind_e h2
  refine sC cal40 (numD_c e233) ?_
  obtain ⟨p234, h2⟩ := asrt_e h2
  obtain ⟨p236, h2⟩ := asrt_e h2
  obtain ⟨x237, e237, h2⟩ := bnd_e h2
  refine rse rfl rfl rfl (yl_call rfl rfl (.cons rfl (.cons rfl .nil)) cal39 (PC.mono (wstrS_c (id := 1) (ver := v3) (ib := 2) (vb := v229) (l := x231) (t := x233) (by decide) rfl rfl p236 p234) (R' := fun y H' => y = .tup [int (x233.length : Int), .sc .nilIface] ∧ ∃ vb', H' = upd (upd _ 2 (some (bufO 5 vb' x237))) 1 (some (bldO 72 1 v3 2 (some (vb', x237))))) (fun y H' h => by subst e237; exact h))) ?_; rintro _ _ ⟨rfl, v235, rfl⟩
  refine tr tbk 15 (.mk ?_)
  refine sY (yv_to (y := boo false) (yv_eql rfl rfl rfl) (congrArg boo (by decide))) ?_
  refine tr tbk 4 (.mk ?_)
  obtain ⟨j238, h3, h2⟩ := bind_e h2
  refine rse (Out := fun y H' => (∃ (a : Unit) (k : Unit), a = j238 ∧ y = .pt 3 v11 0 3 ∧ H' = hk [(1, ⟨72, 2, true, true, v3, [[.pt 1 v3 0 0, .sl 2 v235 0 x237.length]]⟩), (2, ⟨5, 1, true, true, v235, byteRows x237⟩), (3, ⟨28, 9, true, true, v11, [[int x10.Kind, int x10.E, int x10.Item, int x10.Loc, int x10.To, int x10.Qty, int x10.Amount, int x10.Ref, lst 1 fI x10.Refs]]⟩)])) rfl rfl rfl (yl_call rfl rfl (.cons rfl (.cons rfl .nil)) cal23 ?_) ?_
  refine pcw (c := _) Try.func23 rfl rfl ?_; intro Q hret hnorm
  refine tc tbk 12 (.mk ?_)
  refine sY (yv_to (y := boo false) (yv_eql rfl rfl rfl) (congrArg boo (by decide))) ?_
  refine tr tbk 5 (.mk ?_)
  refine sY (yv_to (y := boo false) (yv_eql rfl rfl rfl) (congrArg boo (by decide))) ?_
  refine tr tbk 5 (.mk ?_)
  refine sY (yv_to (y := boo true) (yv_eql rfl rfl rfl) (congrArg boo (by decide))) ?_
  refine tr tbk 10 (.mk ?_)
  obtain rfl := nxt_e h3
  refine w_ret (hret _ _ (hk [(1, ⟨72, 2, true, true, v3, [[.pt 1 v3 0 0, .sl 2 v235 0 x237.length]]⟩), (2, ⟨5, 1, true, true, v235, byteRows x237⟩), (3, ⟨28, 9, true, true, v11, [[int x10.Kind, int x10.E, int x10.Item, int x10.Loc, int x10.To, int x10.Qty, int x10.Amount, int x10.Ref, lst 1 fI x10.Refs]]⟩)]) (.tmp rfl .nil) (HK.le ⟨rfl, rfl, rfl, trivial⟩) ?_)
  exact ⟨(), (), rfl, rfl, rfl⟩
  rintro y _ ⟨_, _, rfl, hc, rfl⟩
  subst hc
  refine tr tbk 2 (.mk ?_)
  obtain ⟨x239, e239, h2⟩ := bind_e h2
  refine sC cal40 (numD_c e239) ?_
  obtain ⟨p240, h2⟩ := asrt_e h2
  obtain ⟨p242, h2⟩ := asrt_e h2
  obtain ⟨x243, e243, h2⟩ := bnd_e h2
  refine rse rfl rfl rfl (yl_call rfl rfl (.cons rfl (.cons rfl .nil)) cal39 (PC.mono (wstrS_c (id := 1) (ver := v3) (ib := 2) (vb := v235) (l := x237) (t := x239) (by decide) rfl rfl p242 p240) (R' := fun y H' => y = .tup [int (x239.length : Int), .sc .nilIface] ∧ ∃ vb', H' = upd (upd _ 2 (some (bufO 5 vb' x243))) 1 (some (bldO 72 1 v3 2 (some (vb', x243))))) (fun y H' h => by subst e243; exact h))) ?_; rintro _ _ ⟨rfl, v241, rfl⟩
  refine tr tbk 15 (.mk ?_)
  refine sY (yv_to (y := boo false) (yv_eql rfl rfl rfl) (congrArg boo (by decide))) ?_
  refine tr tbk 4 (.mk ?_)
  obtain ⟨j244, h3, h2⟩ := bind_e h2
  refine rse (Out := fun y H' => (∃ (a : Unit) (k : Unit), a = j244 ∧ y = .pt 3 v11 0 5 ∧ H' = hk [(1, ⟨72, 2, true, true, v3, [[.pt 1 v3 0 0, .sl 2 v241 0 x243.length]]⟩), (2, ⟨5, 1, true, true, v241, byteRows x243⟩), (3, ⟨28, 9, true, true, v11, [[int x10.Kind, int x10.E, int x10.Item, int x10.Loc, int x10.To, int x10.Qty, int x10.Amount, int x10.Ref, lst 1 fI x10.Refs]]⟩)])) rfl rfl rfl (yl_call rfl rfl (.cons rfl (.cons rfl .nil)) cal23 ?_) ?_
  refine pcw (c := _) Try.func23 rfl rfl ?_; intro Q hret hnorm
  refine tc tbk 12 (.mk ?_)
  refine sY (yv_to (y := boo false) (yv_eql rfl rfl rfl) (congrArg boo (by decide))) ?_
  refine tr tbk 5 (.mk ?_)
  refine sY (yv_to (y := boo false) (yv_eql rfl rfl rfl) (congrArg boo (by decide))) ?_
  refine tr tbk 5 (.mk ?_)
  refine sY (yv_to (y := boo false) (yv_eql rfl rfl rfl) (congrArg boo (by decide))) ?_
  refine tr tbk 5 (.mk ?_)
  refine sY (yv_to (y := boo false) (yv_eql rfl rfl rfl) (congrArg boo (by decide))) ?_
  refine tr tbk 5 (.mk ?_)
  refine sY (yv_to (y := boo true) (yv_eql rfl rfl rfl) (congrArg boo (by decide))) ?_
  refine tr tbk 10 (.mk ?_)
  obtain rfl := nxt_e h3
  refine w_ret (hret _ _ (hk [(1, ⟨72, 2, true, true, v3, [[.pt 1 v3 0 0, .sl 2 v241 0 x243.length]]⟩), (2, ⟨5, 1, true, true, v241, byteRows x243⟩), (3, ⟨28, 9, true, true, v11, [[int x10.Kind, int x10.E, int x10.Item, int x10.Loc, int x10.To, int x10.Qty, int x10.Amount, int x10.Ref, lst 1 fI x10.Refs]]⟩)]) (.tmp rfl .nil) (HK.le ⟨rfl, rfl, rfl, trivial⟩) ?_)
  exact ⟨(), (), rfl, rfl, rfl⟩
  rintro y _ ⟨_, _, rfl, hc, rfl⟩
  subst hc
  refine tr tbk 2 (.mk ?_)
  obtain ⟨x245, e245, h2⟩ := bind_e h2
  refine sC cal40 (numD_c e245) ?_
  obtain ⟨p246, h2⟩ := asrt_e h2
  obtain ⟨p248, h2⟩ := asrt_e h2
  obtain ⟨x249, e249, h2⟩ := bnd_e h2
  refine rse rfl rfl rfl (yl_call rfl rfl (.cons rfl (.cons rfl .nil)) cal39 (PC.mono (wstrS_c (id := 1) (ver := v3) (ib := 2) (vb := v241) (l := x243) (t := x245) (by decide) rfl rfl p248 p246) (R' := fun y H' => y = .tup [int (x245.length : Int), .sc .nilIface] ∧ ∃ vb', H' = upd (upd _ 2 (some (bufO 5 vb' x249))) 1 (some (bldO 72 1 v3 2 (some (vb', x249))))) (fun y H' h => by subst e249; exact h))) ?_; rintro _ _ ⟨rfl, v247, rfl⟩
  refine tr tbk 7 (.mk ?_)
  exact lfE h2 v247 leA
  replace h2 := ct h2
  refine w_rangeD [0, 0, 2, 7, 15] (fun i => bif Nat.beq i 1 then ([3]) else bif Nat.beq i 2 then ([3]) else []) (fun i => [3]) 4 [0, 1, 2, 3] mixed (by kernel_rfl) rfl rfl rfl rfl rfl rfl rfl rfl rfl rfl rfl rfl rfl Try.underlying9 ?_
  refine eP (fun H hH => yv_callP rfl rfl .nil cal20 (CvL.refl _) forms20_c) ?_
  refine eF fo28_0 ?_
  refine eL sh3 ?_
  refine de_as 30 (int 5) rfl (congrArg int (of_decide_eq_true e24)) ?_
  refine de_pure rfl rfl rfl rfl (fun H hH => yv_indexA rfl Try.underlying46 sh45 rfl rfl (by decide) rfl) ?_
  refine ⟨_, rfl, rfl, fun b250 => ?_⟩
  refine tc tbk 13 (.mk ?_)
  refine sY (yv_to (y := boo false) (yv_eql rfl rfl rfl) (congrArg boo (by decide))) ?_
  refine tr tbk 4 (.mk ?_)
  obtain ⟨j251, h3, h2⟩ := bind_e h2
  refine rse (Out := fun y H' => (∃ (a : Unit) (k : Unit), a = j251 ∧ y = .pt 3 v11 0 5 ∧ H' = hk [(1, ⟨72, 2, true, true, v3, [[.pt 1 v3 0 0, .sl 2 v16 0 x18.length]]⟩), (2, ⟨5, 1, true, true, v16, byteRows x18⟩), (3, ⟨28, 9, true, true, v11, [[int x10.Kind, int x10.E, int x10.Item, int x10.Loc, int x10.To, int x10.Qty, int x10.Amount, int x10.Ref, lst 1 fI x10.Refs]]⟩)])) rfl rfl rfl (yl_call rfl rfl (.cons rfl (.cons rfl .nil)) cal23 ?_) ?_
  refine pcw (c := _) Try.func23 rfl rfl ?_; intro Q hret hnorm
  refine tc tbk 12 (.mk ?_)
  refine sY (yv_to (y := boo false) (yv_eql rfl rfl rfl) (congrArg boo (by decide))) ?_
  refine tr tbk 5 (.mk ?_)
  refine sY (yv_to (y := boo false) (yv_eql rfl rfl rfl) (congrArg boo (by decide))) ?_
  refine tr tbk 5 (.mk ?_)
  refine sY (yv_to (y := boo false) (yv_eql rfl rfl rfl) (congrArg boo (by decide))) ?_
  refine tr tbk 5 (.mk ?_)
  refine sY (yv_to (y := boo false) (yv_eql rfl rfl rfl) (congrArg boo (by decide))) ?_
  refine tr tbk 5 (.mk ?_)
  refine sY (yv_to (y := boo true) (yv_eql rfl rfl rfl) (congrArg boo (by decide))) ?_
  refine tr tbk 10 (.mk ?_)
  obtain rfl := nxt_e h3
  refine w_ret (hret _ _ (hk [(1, ⟨72, 2, true, true, v3, [[.pt 1 v3 0 0, .sl 2 v16 0 x18.length]]⟩), (2, ⟨5, 1, true, true, v16, byteRows x18⟩), (3, ⟨28, 9, true, true, v11, [[int x10.Kind, int x10.E, int x10.Item, int x10.Loc, int x10.To, int x10.Qty, int x10.Amount, int x10.Ref, lst 1 fI x10.Refs]]⟩)]) (.tmp rfl .nil) (HK.le ⟨rfl, rfl, rfl, trivial⟩) ?_)
  exact ⟨(), (), rfl, rfl, rfl⟩
  rintro y _ ⟨_, _, rfl, hc, rfl⟩
  subst hc
  refine tr tbk 2 (.mk ?_)
  obtain ⟨x252, e252, h2⟩ := bind_e h2
  refine sC cal40 (numD_c e252) ?_
  obtain ⟨p253, h2⟩ := asrt_e h2
  obtain ⟨p255, h2⟩ := asrt_e h2
  obtain ⟨x256, e256, h2⟩ := bnd_e h2
  refine rse rfl rfl rfl (yl_call rfl rfl (.cons rfl (.cons rfl .nil)) cal39 (PC.mono (wstrS_c (id := 1) (ver := v3) (ib := 2) (vb := v16) (l := x18) (t := x252) (by decide) rfl rfl p255 p253) (R' := fun y H' => y = .tup [int (x252.length : Int), .sc .nilIface] ∧ ∃ vb', H' = upd (upd _ 2 (some (bufO 5 vb' x256))) 1 (some (bldO 72 1 v3 2 (some (vb', x256))))) (fun y H' h => by subst e256; exact h))) ?_; rintro _ _ ⟨rfl, v254, rfl⟩
  refine tr tbk 15 (.mk ?_)
  refine sY (yv_to (y := boo false) (yv_eql rfl rfl rfl) (congrArg boo (by decide))) ?_
  refine tr tbk 4 (.mk ?_)
  obtain ⟨j257, h3, h2⟩ := bind_e h2
  refine rse (Out := fun y H' => (∃ (a : Unit) (k : Unit), a = j257 ∧ y = .pt 3 v11 0 6 ∧ H' = hk [(1, ⟨72, 2, true, true, v3, [[.pt 1 v3 0 0, .sl 2 v254 0 x256.length]]⟩), (2, ⟨5, 1, true, true, v254, byteRows x256⟩), (3, ⟨28, 9, true, true, v11, [[int x10.Kind, int x10.E, int x10.Item, int x10.Loc, int x10.To, int x10.Qty, int x10.Amount, int x10.Ref, lst 1 fI x10.Refs]]⟩)])) rfl rfl rfl (yl_call rfl rfl (.cons rfl (.cons rfl .nil)) cal23 ?_) ?_
  refine pcw (c := _) Try.func23 rfl rfl ?_; intro Q hret hnorm
  refine tc tbk 12 (.mk ?_)
  refine sY (yv_to (y := boo false) (yv_eql rfl rfl rfl) (congrArg boo (by decide))) ?_
  refine tr tbk 5 (.mk ?_)
  refine sY (yv_to (y := boo false) (yv_eql rfl rfl rfl) (congrArg boo (by decide))) ?_
  refine tr tbk 5 (.mk ?_)
  refine sY (yv_to (y := boo false) (yv_eql rfl rfl rfl) (congrArg boo (by decide))) ?_
  refine tr tbk 5 (.mk ?_)
  refine sY (yv_to (y := boo false) (yv_eql rfl rfl rfl) (congrArg boo (by decide))) ?_
  refine tr tbk 5 (.mk ?_)
  refine sY (yv_to (y := boo false) (yv_eql rfl rfl rfl) (congrArg boo (by decide))) ?_
  refine tr tbk 5 (.mk ?_)
  refine sY (yv_to (y := boo true) (yv_eql rfl rfl rfl) (congrArg boo (by decide))) ?_
  refine tr tbk 10 (.mk ?_)
  obtain rfl := nxt_e h3
  refine w_ret (hret _ _ (hk [(1, ⟨72, 2, true, true, v3, [[.pt 1 v3 0 0, .sl 2 v254 0 x256.length]]⟩), (2, ⟨5, 1, true, true, v254, byteRows x256⟩), (3, ⟨28, 9, true, true, v11, [[int x10.Kind, int x10.E, int x10.Item, int x10.Loc, int x10.To, int x10.Qty, int x10.Amount, int x10.Ref, lst 1 fI x10.Refs]]⟩)]) (.tmp rfl .nil) (HK.le ⟨rfl, rfl, rfl, trivial⟩) ?_)
  exact ⟨(), (), rfl, rfl, rfl⟩
  rintro y _ ⟨_, _, rfl, hc, rfl⟩
  subst hc
  refine tr tbk 2 (.mk ?_)
  obtain ⟨x258, e258, h2⟩ := bind_e h2
  refine sC cal40 (numD_c e258) ?_
  obtain ⟨p259, h2⟩ := asrt_e h2
  obtain ⟨p261, h2⟩ := asrt_e h2
  obtain ⟨x262, e262, h2⟩ := bnd_e h2
  refine rse rfl rfl rfl (yl_call rfl rfl (.cons rfl (.cons rfl .nil)) cal39 (PC.mono (wstrS_c (id := 1) (ver := v3) (ib := 2) (vb := v254) (l := x256) (t := x258) (by decide) rfl rfl p261 p259) (R' := fun y H' => y = .tup [int (x258.length : Int), .sc .nilIface] ∧ ∃ vb', H' = upd (upd _ 2 (some (bufO 5 vb' x262))) 1 (some (bldO 72 1 v3 2 (some (vb', x262))))) (fun y H' h => by subst e262; exact h))) ?_; rintro _ _ ⟨rfl, v260, rfl⟩
  refine tr tbk 15 (.mk ?_)
  refine sY (yv_to (y := boo false) (yv_eql rfl rfl rfl) (congrArg boo (by decide))) ?_
  refine tr tbk 4 (.mk ?_)
  obtain ⟨j263, h3, h2⟩ := bind_e h2
  refine rse (Out := fun y H' => (∃ (a : Unit) (k : Unit), a = j263 ∧ y = .pt 3 v11 0 7 ∧ H' = hk [(1, ⟨72, 2, true, true, v3, [[.pt 1 v3 0 0, .sl 2 v260 0 x262.length]]⟩), (2, ⟨5, 1, true, true, v260, byteRows x262⟩), (3, ⟨28, 9, true, true, v11, [[int x10.Kind, int x10.E, int x10.Item, int x10.Loc, int x10.To, int x10.Qty, int x10.Amount, int x10.Ref, lst 1 fI x10.Refs]]⟩)])) rfl rfl rfl (yl_call rfl rfl (.cons rfl (.cons rfl .nil)) cal23 ?_) ?_
  refine pcw (c := _) Try.func23 rfl rfl ?_; intro Q hret hnorm
  refine tc tbk 12 (.mk ?_)
  refine sY (yv_to (y := boo false) (yv_eql rfl rfl rfl) (congrArg boo (by decide))) ?_
  refine tr tbk 5 (.mk ?_)
  refine sY (yv_to (y := boo false) (yv_eql rfl rfl rfl) (congrArg boo (by decide))) ?_
  refine tr tbk 5 (.mk ?_)
  refine sY (yv_to (y := boo false) (yv_eql rfl rfl rfl) (congrArg boo (by decide))) ?_
  refine tr tbk 5 (.mk ?_)
  refine sY (yv_to (y := boo false) (yv_eql rfl rfl rfl) (congrArg boo (by decide))) ?_
  refine tr tbk 5 (.mk ?_)
  refine sY (yv_to (y := boo false) (yv_eql rfl rfl rfl) (congrArg boo (by decide))) ?_
  refine tr tbk 5 (.mk ?_)
  refine sY (yv_to (y := boo false) (yv_eql rfl rfl rfl) (congrArg boo (by decide))) ?_
  refine tr tbk 12 (.mk ?_)
  obtain rfl := nxt_e h3
  refine w_ret (hret _ _ (hk [(1, ⟨72, 2, true, true, v3, [[.pt 1 v3 0 0, .sl 2 v260 0 x262.length]]⟩), (2, ⟨5, 1, true, true, v260, byteRows x262⟩), (3, ⟨28, 9, true, true, v11, [[int x10.Kind, int x10.E, int x10.Item, int x10.Loc, int x10.To, int x10.Qty, int x10.Amount, int x10.Ref, lst 1 fI x10.Refs]]⟩)]) (.tmp rfl .nil) (HK.le ⟨rfl, rfl, rfl, trivial⟩) ?_)
  exact ⟨(), (), rfl, rfl, rfl⟩
  rintro y _ ⟨_, _, rfl, hc, rfl⟩
  subst hc
  refine tr tbk 2 (.mk ?_)
  obtain ⟨x264, e264, h2⟩ := bind_e h2
  refine sC cal40 (numD_c e264) ?_
  obtain ⟨p265, h2⟩ := asrt_e h2
  obtain ⟨p267, h2⟩ := asrt_e h2
  obtain ⟨x268, e268, h2⟩ := bnd_e h2
  refine rse rfl rfl rfl (yl_call rfl rfl (.cons rfl (.cons rfl .nil)) cal39 (PC.mono (wstrS_c (id := 1) (ver := v3) (ib := 2) (vb := v260) (l := x262) (t := x264) (by decide) rfl rfl p267 p265) (R' := fun y H' => y = .tup [int (x264.length : Int), .sc .nilIface] ∧ ∃ vb', H' = upd (upd _ 2 (some (bufO 5 vb' x268))) 1 (some (bldO 72 1 v3 2 (some (vb', x268))))) (fun y H' h => by subst e268; exact h))) ?_; rintro _ _ ⟨rfl, v266, rfl⟩
  refine tr tbk 7 (.mk ?_)
  exact lfE h2 v266 leA
  replace h2 := ct h2
  refine w_rangeD [0, 0, 2, 7, 15] (fun i => bif Nat.beq i 1 then ([3]) else bif Nat.beq i 2 then ([3]) else []) (fun i => [3]) 4 [0, 1, 2, 3] mixed (by kernel_rfl) rfl rfl rfl rfl rfl rfl rfl rfl rfl rfl rfl rfl rfl Try.underlying9 ?_
  refine eP (fun H hH => yv_callP rfl rfl .nil cal20 (CvL.refl _) forms20_c) ?_
  refine eF fo28_0 ?_
  refine eL sh3 ?_
  refine de_as 30 (int 4) rfl (congrArg int (of_decide_eq_true e23)) ?_
  refine de_pure rfl rfl rfl rfl (fun H hH => yv_indexA rfl Try.underlying46 sh45 rfl rfl (by decide) rfl) ?_
  refine ⟨_, rfl, rfl, fun b269 => ?_⟩
  refine tc tbk 13 (.mk ?_)
  refine sY (yv_to (y := boo false) (yv_eql rfl rfl rfl) (congrArg boo (by decide))) ?_
  refine tr tbk 4 (.mk ?_)
  obtain ⟨j270, h3, h2⟩ := bind_e h2
  refine rse (Out := fun y H' => (∃ (a : Unit) (k : Unit), a = j270 ∧ y = .pt 3 v11 0 1 ∧ H' = hk [(1, ⟨72, 2, true, true, v3, [[.pt 1 v3 0 0, .sl 2 v16 0 x18.length]]⟩), (2, ⟨5, 1, true, true, v16, byteRows x18⟩), (3, ⟨28, 9, true, true, v11, [[int x10.Kind, int x10.E, int x10.Item, int x10.Loc, int x10.To, int x10.Qty, int x10.Amount, int x10.Ref, lst 1 fI x10.Refs]]⟩)])) rfl rfl rfl (yl_call rfl rfl (.cons rfl (.cons rfl .nil)) cal23 ?_) ?_
  refine pcw (c := _) Try.func23 rfl rfl ?_; intro Q hret hnorm
  refine tc tbk 12 (.mk ?_)
  refine sY (yv_to (y := boo true) (yv_eql rfl rfl rfl) (congrArg boo (by decide))) ?_
  refine tr tbk 10 (.mk ?_)
  obtain rfl := nxt_e h3
  refine w_ret (hret _ _ (hk [(1, ⟨72, 2, true, true, v3, [[.pt 1 v3 0 0, .sl 2 v16 0 x18.length]]⟩), (2, ⟨5, 1, true, true, v16, byteRows x18⟩), (3, ⟨28, 9, true, true, v11, [[int x10.Kind, int x10.E, int x10.Item, int x10.Loc, int x10.To, int x10.Qty, int x10.Amount, int x10.Ref, lst 1 fI x10.Refs]]⟩)]) (.tmp rfl .nil) (HK.le ⟨rfl, rfl, rfl, trivial⟩) ?_)
  exact ⟨(), (), rfl, rfl, rfl⟩
  rintro y _ ⟨_, _, rfl, hc, rfl⟩
  subst hc
  refine tr tbk 2 (.mk ?_)
  obtain ⟨x271, e271, h2⟩ := bind_e h2
  refine sC cal40 (numD_c e271) ?_
  obtain ⟨p272, h2⟩ := asrt_e h2
  obtain ⟨p274, h2⟩ := asrt_e h2
  obtain ⟨x275, e275, h2⟩ := bnd_e h2
  refine rse rfl rfl rfl (yl_call rfl rfl (.cons rfl (.cons rfl .nil)) cal39 (PC.mono (wstrS_c (id := 1) (ver := v3) (ib := 2) (vb := v16) (l := x18) (t := x271) (by decide) rfl rfl p274 p272) (R' := fun y H' => y = .tup [int (x271.length : Int), .sc .nilIface] ∧ ∃ vb', H' = upd (upd _ 2 (some (bufO 5 vb' x275))) 1 (some (bldO 72 1 v3 2 (some (vb', x275))))) (fun y H' h => by subst e275; exact h))) ?_; rintro _ _ ⟨rfl, v273, rfl⟩
  refine tr tbk 15 (.mk ?_)
  refine sY (yv_to (y := boo false) (yv_eql rfl rfl rfl) (congrArg boo (by decide))) ?_
  refine tr tbk 4 (.mk ?_)
  obtain ⟨j276, h3, h2⟩ := bind_e h2
  refine rse (Out := fun y H' => (∃ (a : Unit) (k : Unit), a = j276 ∧ y = .pt 3 v11 0 2 ∧ H' = hk [(1, ⟨72, 2, true, true, v3, [[.pt 1 v3 0 0, .sl 2 v273 0 x275.length]]⟩), (2, ⟨5, 1, true, true, v273, byteRows x275⟩), (3, ⟨28, 9, true, true, v11, [[int x10.Kind, int x10.E, int x10.Item, int x10.Loc, int x10.To, int x10.Qty, int x10.Amount, int x10.Ref, lst 1 fI x10.Refs]]⟩)])) rfl rfl rfl (yl_call rfl rfl (.cons rfl (.cons rfl .nil)) cal23 ?_) ?_
  refine pcw (c := _) Try.func23 rfl rfl ?_; intro Q hret hnorm
  refine tc tbk 12 (.mk ?_)
  refine sY (yv_to (y := boo false) (yv_eql rfl rfl rfl) (congrArg boo (by decide))) ?_
  refine tr tbk 5 (.mk ?_)
  refine sY (yv_to (y := boo true) (yv_eql rfl rfl rfl) (congrArg boo (by decide))) ?_
  refine tr tbk 10 (.mk ?_)
  obtain rfl := nxt_e h3
  refine w_ret (hret _ _ (hk [(1, ⟨72, 2, true, true, v3, [[.pt 1 v3 0 0, .sl 2 v273 0 x275.length]]⟩), (2, ⟨5, 1, true, true, v273, byteRows x275⟩), (3, ⟨28, 9, true, true, v11, [[int x10.Kind, int x10.E, int x10.Item, int x10.Loc, int x10.To, int x10.Qty, int x10.Amount, int x10.Ref, lst 1 fI x10.Refs]]⟩)]) (.tmp rfl .nil) (HK.le ⟨rfl, rfl, rfl, trivial⟩) ?_)
  exact ⟨(), (), rfl, rfl, rfl⟩
  rintro y _ ⟨_, _, rfl, hc, rfl⟩
  subst hc
  refine tr tbk 2 (.mk ?_)
  obtain ⟨x277, e277, h2⟩ := bind_e h2
  refine sC cal40 (numD_c e277) ?_
  obtain ⟨p278, h2⟩ := asrt_e h2
  obtain ⟨p280, h2⟩ := asrt_e h2
  obtain ⟨x281, e281, h2⟩ := bnd_e h2
  refine rse rfl rfl rfl (yl_call rfl rfl (.cons rfl (.cons rfl .nil)) cal39 (PC.mono (wstrS_c (id := 1) (ver := v3) (ib := 2) (vb := v273) (l := x275) (t := x277) (by decide) rfl rfl p280 p278) (R' := fun y H' => y = .tup [int (x277.length : Int), .sc .nilIface] ∧ ∃ vb', H' = upd (upd _ 2 (some (bufO 5 vb' x281))) 1 (some (bldO 72 1 v3 2 (some (vb', x281))))) (fun y H' h => by subst e281; exact h))) ?_; rintro _ _ ⟨rfl, v279, rfl⟩
  refine tr tbk 15 (.mk ?_)
  refine sY (yv_to (y := boo false) (yv_eql rfl rfl rfl) (congrArg boo (by decide))) ?_
  refine tr tbk 4 (.mk ?_)
  obtain ⟨j282, h3, h2⟩ := bind_e h2
  refine rse (Out := fun y H' => (∃ (a : Unit) (k : Unit), a = j282 ∧ y = .pt 3 v11 0 3 ∧ H' = hk [(1, ⟨72, 2, true, true, v3, [[.pt 1 v3 0 0, .sl 2 v279 0 x281.length]]⟩), (2, ⟨5, 1, true, true, v279, byteRows x281⟩), (3, ⟨28, 9, true, true, v11, [[int x10.Kind, int x10.E, int x10.Item, int x10.Loc, int x10.To, int x10.Qty, int x10.Amount, int x10.Ref, lst 1 fI x10.Refs]]⟩)])) rfl rfl rfl (yl_call rfl rfl (.cons rfl (.cons rfl .nil)) cal23 ?_) ?_
  refine pcw (c := _) Try.func23 rfl rfl ?_; intro Q hret hnorm
  refine tc tbk 12 (.mk ?_)
  refine sY (yv_to (y := boo false) (yv_eql rfl rfl rfl) (congrArg boo (by decide))) ?_
  refine tr tbk 5 (.mk ?_)
  refine sY (yv_to (y := boo false) (yv_eql rfl rfl rfl) (congrArg boo (by decide))) ?_
  refine tr tbk 5 (.mk ?_)
  refine sY (yv_to (y := boo true) (yv_eql rfl rfl rfl) (congrArg boo (by decide))) ?_
  refine tr tbk 10 (.mk ?_)
  obtain rfl := nxt_e h3
  refine w_ret (hret _ _ (hk [(1, ⟨72, 2, true, true, v3, [[.pt 1 v3 0 0, .sl 2 v279 0 x281.length]]⟩), (2, ⟨5, 1, true, true, v279, byteRows x281⟩), (3, ⟨28, 9, true, true, v11, [[int x10.Kind, int x10.E, int x10.Item, int x10.Loc, int x10.To, int x10.Qty, int x10.Amount, int x10.Ref, lst 1 fI x10.Refs]]⟩)]) (.tmp rfl .nil) (HK.le ⟨rfl, rfl, rfl, trivial⟩) ?_)
  exact ⟨(), (), rfl, rfl, rfl⟩
  rintro y _ ⟨_, _, rfl, hc, rfl⟩
  subst hc
  refine tr tbk 2 (.mk ?_)
  obtain ⟨x283, e283, h2⟩ := bind_e h2
  refine sC cal40 (numD_c e283) ?_
  obtain ⟨p284, h2⟩ := asrt_e h2
  obtain ⟨p286, h2⟩ := asrt_e h2
  obtain ⟨x287, e287, h2⟩ := bnd_e h2
  refine rse rfl rfl rfl (yl_call rfl rfl (.cons rfl (.cons rfl .nil)) cal39 (PC.mono (wstrS_c (id := 1) (ver := v3) (ib := 2) (vb := v279) (l := x281) (t := x283) (by decide) rfl rfl p286 p284) (R' := fun y H' => y = .tup [int (x283.length : Int), .sc .nilIface] ∧ ∃ vb', H' = upd (upd _ 2 (some (bufO 5 vb' x287))) 1 (some (bldO 72 1 v3 2 (some (vb', x287))))) (fun y H' h => by subst e287; exact h))) ?_; rintro _ _ ⟨rfl, v285, rfl⟩
  refine tr tbk 15 (.mk ?_)
  refine sY (yv_to (y := boo false) (yv_eql rfl rfl rfl) (congrArg boo (by decide))) ?_
  refine tr tbk 4 (.mk ?_)
  obtain ⟨j288, h3, h2⟩ := bind_e h2
  refine rse (Out := fun y H' => (∃ (a : Unit) (k : Unit), a = j288 ∧ y = .pt 3 v11 0 5 ∧ H' = hk [(1, ⟨72, 2, true, true, v3, [[.pt 1 v3 0 0, .sl 2 v285 0 x287.length]]⟩), (2, ⟨5, 1, true, true, v285, byteRows x287⟩), (3, ⟨28, 9, true, true, v11, [[int x10.Kind, int x10.E, int x10.Item, int x10.Loc, int x10.To, int x10.Qty, int x10.Amount, int x10.Ref, lst 1 fI x10.Refs]]⟩)])) rfl rfl rfl (yl_call rfl rfl (.cons rfl (.cons rfl .nil)) cal23 ?_) ?_
  refine pcw (c := _) Try.func23 rfl rfl ?_; intro Q hret hnorm
  refine tc tbk 12 (.mk ?_)
  refine sY (yv_to (y := boo false) (yv_eql rfl rfl rfl) (congrArg boo (by decide))) ?_
  refine tr tbk 5 (.mk ?_)
  refine sY (yv_to (y := boo false) (yv_eql rfl rfl rfl) (congrArg boo (by decide))) ?_
  refine tr tbk 5 (.mk ?_)
  refine sY (yv_to (y := boo false) (yv_eql rfl rfl rfl) (congrArg boo (by decide))) ?_
  refine tr tbk 5 (.mk ?_)
  refine sY (yv_to (y := boo false) (yv_eql rfl rfl rfl) (congrArg boo (by decide))) ?_
  refine tr tbk 5 (.mk ?_)
  refine sY (yv_to (y := boo true) (yv_eql rfl rfl rfl) (congrArg boo (by decide))) ?_
  refine tr tbk 10 (.mk ?_)
  obtain rfl := nxt_e h3
  refine w_ret (hret _ _ (hk [(1, ⟨72, 2, true, true, v3, [[.pt 1 v3 0 0, .sl 2 v285 0 x287.length]]⟩), (2, ⟨5, 1, true, true, v285, byteRows x287⟩), (3, ⟨28, 9, true, true, v11, [[int x10.Kind, int x10.E, int x10.Item, int x10.Loc, int x10.To, int x10.Qty, int x10.Amount, int x10.Ref, lst 1 fI x10.Refs]]⟩)]) (.tmp rfl .nil) (HK.le ⟨rfl, rfl, rfl, trivial⟩) ?_)
  exact ⟨(), (), rfl, rfl, rfl⟩
  rintro y _ ⟨_, _, rfl, hc, rfl⟩
  subst hc
  refine tr tbk 2 (.mk ?_)
  obtain ⟨x289, e289, h2⟩ := bind_e h2
  refine sC cal40 (numD_c e289) ?_
  obtain ⟨p290, h2⟩ := asrt_e h2
  obtain ⟨p292, h2⟩ := asrt_e h2
  obtain ⟨x293, e293, h2⟩ := bnd_e h2
  refine rse rfl rfl rfl (yl_call rfl rfl (.cons rfl (.cons rfl .nil)) cal39 (PC.mono (wstrS_c (id := 1) (ver := v3) (ib := 2) (vb := v285) (l := x287) (t := x289) (by decide) rfl rfl p292 p290) (R' := fun y H' => y = .tup [int (x289.length : Int), .sc .nilIface] ∧ ∃ vb', H' = upd (upd _ 2 (some (bufO 5 vb' x293))) 1 (some (bldO 72 1 v3 2 (some (vb', x293))))) (fun y H' h => by subst e293; exact h))) ?_; rintro _ _ ⟨rfl, v291, rfl⟩
  refine tr tbk 15 (.mk ?_)
  refine sY (yv_to (y := boo false) (yv_eql rfl rfl rfl) (congrArg boo (by decide))) ?_
  refine tr tbk 4 (.mk ?_)
  obtain ⟨j294, h3, h2⟩ := bind_e h2
  refine rse (Out := fun y H' => (∃ (a : Unit) (k : Unit), a = j294 ∧ y = .pt 3 v11 0 6 ∧ H' = hk [(1, ⟨72, 2, true, true, v3, [[.pt 1 v3 0 0, .sl 2 v291 0 x293.length]]⟩), (2, ⟨5, 1, true, true, v291, byteRows x293⟩), (3, ⟨28, 9, true, true, v11, [[int x10.Kind, int x10.E, int x10.Item, int x10.Loc, int x10.To, int x10.Qty, int x10.Amount, int x10.Ref, lst 1 fI x10.Refs]]⟩)])) rfl rfl rfl (yl_call rfl rfl (.cons rfl (.cons rfl .nil)) cal23 ?_) ?_
  refine pcw (c := _) Try.func23 rfl rfl ?_; intro Q hret hnorm
  refine tc tbk 12 (.mk ?_)
  refine sY (yv_to (y := boo false) (yv_eql rfl rfl rfl) (congrArg boo (by decide))) ?_
  refine tr tbk 5 (.mk ?_)
  refine sY (yv_to (y := boo false) (yv_eql rfl rfl rfl) (congrArg boo (by decide))) ?_
  refine tr tbk 5 (.mk ?_)
  refine sY (yv_to (y := boo false) (yv_eql rfl rfl rfl) (congrArg boo (by decide))) ?_
  refine tr tbk 5 (.mk ?_)
  refine sY (yv_to (y := boo false) (yv_eql rfl rfl rfl) (congrArg boo (by decide))) ?_
  refine tr tbk 5 (.mk ?_)
  refine sY (yv_to (y := boo false) (yv_eql rfl rfl rfl) (congrArg boo (by decide))) ?_
  refine tr tbk 5 (.mk ?_)
  refine sY (yv_to (y := boo true) (yv_eql rfl rfl rfl) (congrArg boo (by decide))) ?_
  refine tr tbk 10 (.mk ?_)
  obtain rfl := nxt_e h3
  refine w_ret (hret _ _ (hk [(1, ⟨72, 2, true, true, v3, [[.pt 1 v3 0 0, .sl 2 v291 0 x293.length]]⟩), (2, ⟨5, 1, true, true, v291, byteRows x293⟩), (3, ⟨28, 9, true, true, v11, [[int x10.Kind, int x10.E, int x10.Item, int x10.Loc, int x10.To, int x10.Qty, int x10.Amount, int x10.Ref, lst 1 fI x10.Refs]]⟩)]) (.tmp rfl .nil) (HK.le ⟨rfl, rfl, rfl, trivial⟩) ?_)
  exact ⟨(), (), rfl, rfl, rfl⟩
  rintro y _ ⟨_, _, rfl, hc, rfl⟩
  subst hc
  refine tr tbk 2 (.mk ?_)
  obtain ⟨x295, e295, h2⟩ := bind_e h2
  refine sC cal40 (numD_c e295) ?_
  obtain ⟨p296, h2⟩ := asrt_e h2
  obtain ⟨p298, h2⟩ := asrt_e h2
  obtain ⟨x299, e299, h2⟩ := bnd_e h2
  refine rse rfl rfl rfl (yl_call rfl rfl (.cons rfl (.cons rfl .nil)) cal39 (PC.mono (wstrS_c (id := 1) (ver := v3) (ib := 2) (vb := v291) (l := x293) (t := x295) (by decide) rfl rfl p298 p296) (R' := fun y H' => y = .tup [int (x295.length : Int), .sc .nilIface] ∧ ∃ vb', H' = upd (upd _ 2 (some (bufO 5 vb' x299))) 1 (some (bldO 72 1 v3 2 (some (vb', x299))))) (fun y H' h => by subst e299; exact h))) ?_; rintro _ _ ⟨rfl, v297, rfl⟩
  refine tr tbk 7 (.mk ?_)
  exact lfE h2 v297 leA
  replace h2 := ct h2
  refine w_rangeD [0, 0, 2, 7, 15] (fun i => bif Nat.beq i 1 then ([3]) else bif Nat.beq i 2 then ([3]) else []) (fun i => [3]) 4 [0, 1, 2, 3] mixed (by kernel_rfl) rfl rfl rfl rfl rfl rfl rfl rfl rfl rfl rfl rfl rfl Try.underlying9 ?_
  refine eP (fun H hH => yv_callP rfl rfl .nil cal20 (CvL.refl _) forms20_c) ?_
  refine eF fo28_0 ?_
  refine eL sh3 ?_
  refine de_as 30 (int 3) rfl (congrArg int (of_decide_eq_true e22)) ?_
  refine de_pure rfl rfl rfl rfl (fun H hH => yv_indexA rfl Try.underlying46 sh45 rfl rfl (by decide) rfl) ?_
  refine ⟨_, rfl, rfl, fun b300 => ?_⟩
  refine tc tbk 13 (.mk ?_)
  refine sY (yv_to (y := boo false) (yv_eql rfl rfl rfl) (congrArg boo (by decide))) ?_
  refine tr tbk 4 (.mk ?_)
  obtain ⟨j301, h3, h2⟩ := bind_e h2
  refine rse (Out := fun y H' => (∃ (a : Unit) (k : Unit), a = j301 ∧ y = .pt 3 v11 0 5 ∧ H' = hk [(1, ⟨72, 2, true, true, v3, [[.pt 1 v3 0 0, .sl 2 v16 0 x18.length]]⟩), (2, ⟨5, 1, true, true, v16, byteRows x18⟩), (3, ⟨28, 9, true, true, v11, [[int x10.Kind, int x10.E, int x10.Item, int x10.Loc, int x10.To, int x10.Qty, int x10.Amount, int x10.Ref, lst 1 fI x10.Refs]]⟩)])) rfl rfl rfl (yl_call rfl rfl (.cons rfl (.cons rfl .nil)) cal23 ?_) ?_
  refine pcw (c := _) Try.func23 rfl rfl ?_; intro Q hret hnorm
  refine tc tbk 12 (.mk ?_)
  refine sY (yv_to (y := boo false) (yv_eql rfl rfl rfl) (congrArg boo (by decide))) ?_
  refine tr tbk 5 (.mk ?_)
  refine sY (yv_to (y := boo false) (yv_eql rfl rfl rfl) (congrArg boo (by decide))) ?_
  refine tr tbk 5 (.mk ?_)
  refine sY (yv_to (y := boo false) (yv_eql rfl rfl rfl) (congrArg boo (by decide))) ?_
  refine tr tbk 5 (.mk ?_)
  refine sY (yv_to (y := boo false) (yv_eql rfl rfl rfl) (congrArg boo (by decide))) ?_
  refine tr tbk 5 (.mk ?_)
  refine sY (yv_to (y := boo true) (yv_eql rfl rfl rfl) (congrArg boo (by decide))) ?_
  refine tr tbk 10 (.mk ?_)
  obtain rfl := nxt_e h3
  refine w_ret (hret _ _ (hk [(1, ⟨72, 2, true, true, v3, [[.pt 1 v3 0 0, .sl 2 v16 0 x18.length]]⟩), (2, ⟨5, 1, true, true, v16, byteRows x18⟩), (3, ⟨28, 9, true, true, v11, [[int x10.Kind, int x10.E, int x10.Item, int x10.Loc, int x10.To, int x10.Qty, int x10.Amount, int x10.Ref, lst 1 fI x10.Refs]]⟩)]) (.tmp rfl .nil) (HK.le ⟨rfl, rfl, rfl, trivial⟩) ?_)
  exact ⟨(), (), rfl, rfl, rfl⟩
  rintro y _ ⟨_, _, rfl, hc, rfl⟩
  subst hc
  refine tr tbk 2 (.mk ?_)
  obtain ⟨x302, e302, h2⟩ := bind_e h2
  refine sC cal40 (numD_c e302) ?_
  obtain ⟨p303, h2⟩ := asrt_e h2
  obtain ⟨p305, h2⟩ := asrt_e h2
  obtain ⟨x306, e306, h2⟩ := bnd_e h2
  refine rse rfl rfl rfl (yl_call rfl rfl (.cons rfl (.cons rfl .nil)) cal39 (PC.mono (wstrS_c (id := 1) (ver := v3) (ib := 2) (vb := v16) (l := x18) (t := x302) (by decide) rfl rfl p305 p303) (R' := fun y H' => y = .tup [int (x302.length : Int), .sc .nilIface] ∧ ∃ vb', H' = upd (upd _ 2 (some (bufO 5 vb' x306))) 1 (some (bldO 72 1 v3 2 (some (vb', x306))))) (fun y H' h => by subst e306; exact h))) ?_; rintro _ _ ⟨rfl, v304, rfl⟩
  refine tr tbk 15 (.mk ?_)
  refine sY (yv_to (y := boo false) (yv_eql rfl rfl rfl) (congrArg boo (by decide))) ?_
  refine tr tbk 4 (.mk ?_)
  obtain ⟨j307, h3, h2⟩ := bind_e h2
  refine rse (Out := fun y H' => (∃ (a : Unit) (k : Unit), a = j307 ∧ y = .pt 3 v11 0 7 ∧ H' = hk [(1, ⟨72, 2, true, true, v3, [[.pt 1 v3 0 0, .sl 2 v304 0 x306.length]]⟩), (2, ⟨5, 1, true, true, v304, byteRows x306⟩), (3, ⟨28, 9, true, true, v11, [[int x10.Kind, int x10.E, int x10.Item, int x10.Loc, int x10.To, int x10.Qty, int x10.Amount, int x10.Ref, lst 1 fI x10.Refs]]⟩)])) rfl rfl rfl (yl_call rfl rfl (.cons rfl (.cons rfl .nil)) cal23 ?_) ?_
  refine pcw (c := _) Try.func23 rfl rfl ?_; intro Q hret hnorm
  refine tc tbk 12 (.mk ?_)
  refine sY (yv_to (y := boo false) (yv_eql rfl rfl rfl) (congrArg boo (by decide))) ?_
  refine tr tbk 5 (.mk ?_)
  refine sY (yv_to (y := boo false) (yv_eql rfl rfl rfl) (congrArg boo (by decide))) ?_
  refine tr tbk 5 (.mk ?_)
  refine sY (yv_to (y := boo false) (yv_eql rfl rfl rfl) (congrArg boo (by decide))) ?_
  refine tr tbk 5 (.mk ?_)
  refine sY (yv_to (y := boo false) (yv_eql rfl rfl rfl) (congrArg boo (by decide))) ?_
  refine tr tbk 5 (.mk ?_)
  refine sY (yv_to (y := boo false) (yv_eql rfl rfl rfl) (congrArg boo (by decide))) ?_
  refine tr tbk 5 (.mk ?_)
  refine sY (yv_to (y := boo false) (yv_eql rfl rfl rfl) (congrArg boo (by decide))) ?_
  refine tr tbk 12 (.mk ?_)
  obtain rfl := nxt_e h3
  refine w_ret (hret _ _ (hk [(1, ⟨72, 2, true, true, v3, [[.pt 1 v3 0 0, .sl 2 v304 0 x306.length]]⟩), (2, ⟨5, 1, true, true, v304, byteRows x306⟩), (3, ⟨28, 9, true, true, v11, [[int x10.Kind, int x10.E, int x10.Item, int x10.Loc, int x10.To, int x10.Qty, int x10.Amount, int x10.Ref, lst 1 fI x10.Refs]]⟩)]) (.tmp rfl .nil) (HK.le ⟨rfl, rfl, rfl, trivial⟩) ?_)
  exact ⟨(), (), rfl, rfl, rfl⟩
  rintro y _ ⟨_, _, rfl, hc, rfl⟩
  subst hc
  refine tr tbk 2 (.mk ?_)
  obtain ⟨x308, e308, h2⟩ := bind_e h2
  refine sC cal40 (numD_c e308) ?_
  obtain ⟨p309, h2⟩ := asrt_e h2
  obtain ⟨p311, h2⟩ := asrt_e h2
  obtain ⟨x312, e312, h2⟩ := bnd_e h2
  refine rse rfl rfl rfl (yl_call rfl rfl (.cons rfl (.cons rfl .nil)) cal39 (PC.mono (wstrS_c (id := 1) (ver := v3) (ib := 2) (vb := v304) (l := x306) (t := x308) (by decide) rfl rfl p311 p309) (R' := fun y H' => y = .tup [int (x308.length : Int), .sc .nilIface] ∧ ∃ vb', H' = upd (upd _ 2 (some (bufO 5 vb' x312))) 1 (some (bldO 72 1 v3 2 (some (vb', x312))))) (fun y H' h => by subst e312; exact h))) ?_; rintro _ _ ⟨rfl, v310, rfl⟩
  refine tr tbk 7 (.mk ?_)
  exact lfE h2 v310 leA
  replace h2 := ct h2
  refine w_rangeD [0, 0, 2, 7, 15] (fun i => bif Nat.beq i 1 then ([3]) else bif Nat.beq i 2 then ([3]) else []) (fun i => [3]) 4 [0, 1, 2, 3] mixed (by kernel_rfl) rfl rfl rfl rfl rfl rfl rfl rfl rfl rfl rfl rfl rfl Try.underlying9 ?_
  refine eP (fun H hH => yv_callP rfl rfl .nil cal20 (CvL.refl _) forms20_c) ?_
  refine eF fo28_0 ?_
  refine eL sh3 ?_
  refine de_as 30 (int 2) rfl (congrArg int (of_decide_eq_true e21)) ?_
  refine de_pure rfl rfl rfl rfl (fun H hH => yv_indexA rfl Try.underlying46 sh45 rfl rfl (by decide) rfl) ?_
  refine ⟨_, rfl, rfl, fun b313 => ?_⟩
  refine tc tbk 13 (.mk ?_)
  refine sY (yv_to (y := boo false) (yv_eql rfl rfl rfl) (congrArg boo (by decide))) ?_
  refine tr tbk 4 (.mk ?_)
  obtain ⟨j314, h3, h2⟩ := bind_e h2
  refine rse (Out := fun y H' => (∃ (a : Unit) (k : Unit), a = j314 ∧ y = .pt 3 v11 0 5 ∧ H' = hk [(1, ⟨72, 2, true, true, v3, [[.pt 1 v3 0 0, .sl 2 v16 0 x18.length]]⟩), (2, ⟨5, 1, true, true, v16, byteRows x18⟩), (3, ⟨28, 9, true, true, v11, [[int x10.Kind, int x10.E, int x10.Item, int x10.Loc, int x10.To, int x10.Qty, int x10.Amount, int x10.Ref, lst 1 fI x10.Refs]]⟩)])) rfl rfl rfl (yl_call rfl rfl (.cons rfl (.cons rfl .nil)) cal23 ?_) ?_
  refine pcw (c := _) Try.func23 rfl rfl ?_; intro Q hret hnorm
  refine tc tbk 12 (.mk ?_)
  refine sY (yv_to (y := boo false) (yv_eql rfl rfl rfl) (congrArg boo (by decide))) ?_
  refine tr tbk 5 (.mk ?_)
  refine sY (yv_to (y := boo false) (yv_eql rfl rfl rfl) (congrArg boo (by decide))) ?_
  refine tr tbk 5 (.mk ?_)
  refine sY (yv_to (y := boo false) (yv_eql rfl rfl rfl) (congrArg boo (by decide))) ?_
  refine tr tbk 5 (.mk ?_)
  refine sY (yv_to (y := boo false) (yv_eql rfl rfl rfl) (congrArg boo (by decide))) ?_
  refine tr tbk 5 (.mk ?_)
  refine sY (yv_to (y := boo true) (yv_eql rfl rfl rfl) (congrArg boo (by decide))) ?_
  refine tr tbk 10 (.mk ?_)
  obtain rfl := nxt_e h3
  refine w_ret (hret _ _ (hk [(1, ⟨72, 2, true, true, v3, [[.pt 1 v3 0 0, .sl 2 v16 0 x18.length]]⟩), (2, ⟨5, 1, true, true, v16, byteRows x18⟩), (3, ⟨28, 9, true, true, v11, [[int x10.Kind, int x10.E, int x10.Item, int x10.Loc, int x10.To, int x10.Qty, int x10.Amount, int x10.Ref, lst 1 fI x10.Refs]]⟩)]) (.tmp rfl .nil) (HK.le ⟨rfl, rfl, rfl, trivial⟩) ?_)
  exact ⟨(), (), rfl, rfl, rfl⟩
  rintro y _ ⟨_, _, rfl, hc, rfl⟩
  subst hc
  refine tr tbk 2 (.mk ?_)
  obtain ⟨x315, e315, h2⟩ := bind_e h2
  refine sC cal40 (numD_c e315) ?_
  obtain ⟨p316, h2⟩ := asrt_e h2
  obtain ⟨p318, h2⟩ := asrt_e h2
  obtain ⟨x319, e319, h2⟩ := bnd_e h2
  refine rse rfl rfl rfl (yl_call rfl rfl (.cons rfl (.cons rfl .nil)) cal39 (PC.mono (wstrS_c (id := 1) (ver := v3) (ib := 2) (vb := v16) (l := x18) (t := x315) (by decide) rfl rfl p318 p316) (R' := fun y H' => y = .tup [int (x315.length : Int), .sc .nilIface] ∧ ∃ vb', H' = upd (upd _ 2 (some (bufO 5 vb' x319))) 1 (some (bldO 72 1 v3 2 (some (vb', x319))))) (fun y H' h => by subst e319; exact h))) ?_; rintro _ _ ⟨rfl, v317, rfl⟩
  refine tr tbk 15 (.mk ?_)
  refine sY (yv_to (y := boo false) (yv_eql rfl rfl rfl) (congrArg boo (by decide))) ?_
  refine tr tbk 4 (.mk ?_)
  obtain ⟨j320, h3, h2⟩ := bind_e h2
  refine rse (Out := fun y H' => (∃ (a : Unit) (k : Unit), a = j320 ∧ y = .pt 3 v11 0 6 ∧ H' = hk [(1, ⟨72, 2, true, true, v3, [[.pt 1 v3 0 0, .sl 2 v317 0 x319.length]]⟩), (2, ⟨5, 1, true, true, v317, byteRows x319⟩), (3, ⟨28, 9, true, true, v11, [[int x10.Kind, int x10.E, int x10.Item, int x10.Loc, int x10.To, int x10.Qty, int x10.Amount, int x10.Ref, lst 1 fI x10.Refs]]⟩)])) rfl rfl rfl (yl_call rfl rfl (.cons rfl (.cons rfl .nil)) cal23 ?_) ?_
  refine pcw (c := _) Try.func23 rfl rfl ?_; intro Q hret hnorm
  refine tc tbk 12 (.mk ?_)
  refine sY (yv_to (y := boo false) (yv_eql rfl rfl rfl) (congrArg boo (by decide))) ?_
  refine tr tbk 5 (.mk ?_)
  refine sY (yv_to (y := boo false) (yv_eql rfl rfl rfl) (congrArg boo (by decide))) ?_
  refine tr tbk 5 (.mk ?_)
  refine sY (yv_to (y := boo false) (yv_eql rfl rfl rfl) (congrArg boo (by decide))) ?_
  refine tr tbk 5 (.mk ?_)
  refine sY (yv_to (y := boo false) (yv_eql rfl rfl rfl) (congrArg boo (by decide))) ?_
  refine tr tbk 5 (.mk ?_)
  refine sY (yv_to (y := boo false) (yv_eql rfl rfl rfl) (congrArg boo (by decide))) ?_
  refine tr tbk 5 (.mk ?_)
  refine sY (yv_to (y := boo true) (yv_eql rfl rfl rfl) (congrArg boo (by decide))) ?_
  refine tr tbk 10 (.mk ?_)
  obtain rfl := nxt_e h3
  refine w_ret (hret _ _ (hk [(1, ⟨72, 2, true, true, v3, [[.pt 1 v3 0 0, .sl 2 v317 0 x319.length]]⟩), (2, ⟨5, 1, true, true, v317, byteRows x319⟩), (3, ⟨28, 9, true, true, v11, [[int x10.Kind, int x10.E, int x10.Item, int x10.Loc, int x10.To, int x10.Qty, int x10.Amount, int x10.Ref, lst 1 fI x10.Refs]]⟩)]) (.tmp rfl .nil) (HK.le ⟨rfl, rfl, rfl, trivial⟩) ?_)
  exact ⟨(), (), rfl, rfl, rfl⟩
  rintro y _ ⟨_, _, rfl, hc, rfl⟩
  subst hc
  refine tr tbk 2 (.mk ?_)
  obtain ⟨x321, e321, h2⟩ := bind_e h2
  refine sC cal40 (numD_c e321) ?_
  obtain ⟨p322, h2⟩ := asrt_e h2
  obtain ⟨p324, h2⟩ := asrt_e h2
  obtain ⟨x325, e325, h2⟩ := bnd_e h2
  refine rse rfl rfl rfl (yl_call rfl rfl (.cons rfl (.cons rfl .nil)) cal39 (PC.mono (wstrS_c (id := 1) (ver := v3) (ib := 2) (vb := v317) (l := x319) (t := x321) (by decide) rfl rfl p324 p322) (R' := fun y H' => y = .tup [int (x321.length : Int), .sc .nilIface] ∧ ∃ vb', H' = upd (upd _ 2 (some (bufO 5 vb' x325))) 1 (some (bldO 72 1 v3 2 (some (vb', x325))))) (fun y H' h => by subst e325; exact h))) ?_; rintro _ _ ⟨rfl, v323, rfl⟩
  refine tr tbk 15 (.mk ?_)
  refine sY (yv_to (y := boo false) (yv_eql rfl rfl rfl) (congrArg boo (by decide))) ?_
  refine tr tbk 4 (.mk ?_)
  obtain ⟨j326, h3, h2⟩ := bind_e h2
  refine rse (Out := fun y H' => (∃ (a : Unit) (k : Unit), a = j326 ∧ y = .pt 3 v11 0 7 ∧ H' = hk [(1, ⟨72, 2, true, true, v3, [[.pt 1 v3 0 0, .sl 2 v323 0 x325.length]]⟩), (2, ⟨5, 1, true, true, v323, byteRows x325⟩), (3, ⟨28, 9, true, true, v11, [[int x10.Kind, int x10.E, int x10.Item, int x10.Loc, int x10.To, int x10.Qty, int x10.Amount, int x10.Ref, lst 1 fI x10.Refs]]⟩)])) rfl rfl rfl (yl_call rfl rfl (.cons rfl (.cons rfl .nil)) cal23 ?_) ?_
  refine pcw (c := _) Try.func23 rfl rfl ?_; intro Q hret hnorm
  refine tc tbk 12 (.mk ?_)
  refine sY (yv_to (y := boo false) (yv_eql rfl rfl rfl) (congrArg boo (by decide))) ?_
  refine tr tbk 5 (.mk ?_)
  refine sY (yv_to (y := boo false) (yv_eql rfl rfl rfl) (congrArg boo (by decide))) ?_
  refine tr tbk 5 (.mk ?_)
  refine sY (yv_to (y := boo false) (yv_eql rfl rfl rfl) (congrArg boo (by decide))) ?_
  refine tr tbk 5 (.mk ?_)
  refine sY (yv_to (y := boo false) (yv_eql rfl rfl rfl) (congrArg boo (by decide))) ?_
  refine tr tbk 5 (.mk ?_)
  refine sY (yv_to (y := boo false) (yv_eql rfl rfl rfl) (congrArg boo (by decide))) ?_
  refine tr tbk 5 (.mk ?_)
  refine sY (yv_to (y := boo false) (yv_eql rfl rfl rfl) (congrArg boo (by decide))) ?_
  refine tr tbk 12 (.mk ?_)
  obtain rfl := nxt_e h3
  refine w_ret (hret _ _ (hk [(1, ⟨72, 2, true, true, v3, [[.pt 1 v3 0 0, .sl 2 v323 0 x325.length]]⟩), (2, ⟨5, 1, true, true, v323, byteRows x325⟩), (3, ⟨28, 9, true, true, v11, [[int x10.Kind, int x10.E, int x10.Item, int x10.Loc, int x10.To, int x10.Qty, int x10.Amount, int x10.Ref, lst 1 fI x10.Refs]]⟩)]) (.tmp rfl .nil) (HK.le ⟨rfl, rfl, rfl, trivial⟩) ?_)
  exact ⟨(), (), rfl, rfl, rfl⟩
  rintro y _ ⟨_, _, rfl, hc, rfl⟩
  subst hc
  refine tr tbk 2 (.mk ?_)
  obtain ⟨x327, e327, h2⟩ := bind_e h2
  refine sC cal40 (numD_c e327) ?_
  obtain ⟨p328, h2⟩ := asrt_e h2
  obtain ⟨p330, h2⟩ := asrt_e h2
  obtain ⟨x331, e331, h2⟩ := bnd_e h2
  refine rse rfl rfl rfl (yl_call rfl rfl (.cons rfl (.cons rfl .nil)) cal39 (PC.mono (wstrS_c (id := 1) (ver := v3) (ib := 2) (vb := v323) (l := x325) (t := x327) (by decide) rfl rfl p330 p328) (R' := fun y H' => y = .tup [int (x327.length : Int), .sc .nilIface] ∧ ∃ vb', H' = upd (upd _ 2 (some (bufO 5 vb' x331))) 1 (some (bldO 72 1 v3 2 (some (vb', x331))))) (fun y H' h => by subst e331; exact h))) ?_; rintro _ _ ⟨rfl, v329, rfl⟩
  refine tr tbk 7 (.mk ?_)
  exact lfE h2 v329 leA
  replace h2 := ct h2
  refine w_rangeD [0, 0, 2, 7, 15] (fun i => bif Nat.beq i 1 then ([3]) else bif Nat.beq i 2 then ([3]) else []) (fun i => [3]) 4 [0, 1, 2, 3] mixed (by kernel_rfl) rfl rfl rfl rfl rfl rfl rfl rfl rfl rfl rfl rfl rfl Try.underlying9 ?_
  refine eP (fun H hH => yv_callP rfl rfl .nil cal20 (CvL.refl _) forms20_c) ?_
  refine eF fo28_0 ?_
  refine eL sh3 ?_
  refine de_as 30 (int 1) rfl (congrArg int (of_decide_eq_true e20)) ?_
  refine de_pure rfl rfl rfl rfl (fun H hH => yv_indexA rfl Try.underlying46 sh45 rfl rfl (by decide) rfl) ?_
  refine ⟨_, rfl, rfl, fun b332 => ?_⟩
  refine tc tbk 13 (.mk ?_)
  refine sY (yv_to (y := boo false) (yv_eql rfl rfl rfl) (congrArg boo (by decide))) ?_
  refine tr tbk 4 (.mk ?_)
  obtain ⟨j333, h3, h2⟩ := bind_e h2
  refine rse (Out := fun y H' => (∃ (a : Unit) (k : Unit), a = j333 ∧ y = .pt 3 v11 0 1 ∧ H' = hk [(1, ⟨72, 2, true, true, v3, [[.pt 1 v3 0 0, .sl 2 v16 0 x18.length]]⟩), (2, ⟨5, 1, true, true, v16, byteRows x18⟩), (3, ⟨28, 9, true, true, v11, [[int x10.Kind, int x10.E, int x10.Item, int x10.Loc, int x10.To, int x10.Qty, int x10.Amount, int x10.Ref, lst 1 fI x10.Refs]]⟩)])) rfl rfl rfl (yl_call rfl rfl (.cons rfl (.cons rfl .nil)) cal23 ?_) ?_
  refine pcw (c := _) Try.func23 rfl rfl ?_; intro Q hret hnorm
  refine tc tbk 12 (.mk ?_)
  refine sY (yv_to (y := boo true) (yv_eql rfl rfl rfl) (congrArg boo (by decide))) ?_
  refine tr tbk 10 (.mk ?_)
  obtain rfl := nxt_e h3
  refine w_ret (hret _ _ (hk [(1, ⟨72, 2, true, true, v3, [[.pt 1 v3 0 0, .sl 2 v16 0 x18.length]]⟩), (2, ⟨5, 1, true, true, v16, byteRows x18⟩), (3, ⟨28, 9, true, true, v11, [[int x10.Kind, int x10.E, int x10.Item, int x10.Loc, int x10.To, int x10.Qty, int x10.Amount, int x10.Ref, lst 1 fI x10.Refs]]⟩)]) (.tmp rfl .nil) (HK.le ⟨rfl, rfl, rfl, trivial⟩) ?_)
  exact ⟨(), (), rfl, rfl, rfl⟩
  rintro y _ ⟨_, _, rfl, hc, rfl⟩
  subst hc
  refine tr tbk 2 (.mk ?_)
  obtain ⟨x334, e334, h2⟩ := bind_e h2
  refine sC cal40 (numD_c e334) ?_
  obtain ⟨p335, h2⟩ := asrt_e h2
  obtain ⟨p337, h2⟩ := asrt_e h2
  obtain ⟨x338, e338, h2⟩ := bnd_e h2
  refine rse rfl rfl rfl (yl_call rfl rfl (.cons rfl (.cons rfl .nil)) cal39 (PC.mono (wstrS_c (id := 1) (ver := v3) (ib := 2) (vb := v16) (l := x18) (t := x334) (by decide) rfl rfl p337 p335) (R' := fun y H' => y = .tup [int (x334.length : Int), .sc .nilIface] ∧ ∃ vb', H' = upd (upd _ 2 (some (bufO 5 vb' x338))) 1 (some (bldO 72 1 v3 2 (some (vb', x338))))) (fun y H' h => by subst e338; exact h))) ?_; rintro _ _ ⟨rfl, v336, rfl⟩
  refine tr tbk 15 (.mk ?_)
  refine sY (yv_to (y := boo false) (yv_eql rfl rfl rfl) (congrArg boo (by decide))) ?_
  refine tr tbk 4 (.mk ?_)
  obtain ⟨j339, h3, h2⟩ := bind_e h2
  refine rse (Out := fun y H' => (∃ (a : Unit) (k : Unit), a = j339 ∧ y = .pt 3 v11 0 2 ∧ H' = hk [(1, ⟨72, 2, true, true, v3, [[.pt 1 v3 0 0, .sl 2 v336 0 x338.length]]⟩), (2, ⟨5, 1, true, true, v336, byteRows x338⟩), (3, ⟨28, 9, true, true, v11, [[int x10.Kind, int x10.E, int x10.Item, int x10.Loc, int x10.To, int x10.Qty, int x10.Amount, int x10.Ref, lst 1 fI x10.Refs]]⟩)])) rfl rfl rfl (yl_call rfl rfl (.cons rfl (.cons rfl .nil)) cal23 ?_) ?_
  refine pcw (c := _) Try.func23 rfl rfl ?_; intro Q hret hnorm
  refine tc tbk 12 (.mk ?_)
  refine sY (yv_to (y := boo false) (yv_eql rfl rfl rfl) (congrArg boo (by decide))) ?_
  refine tr tbk 5 (.mk ?_)
  refine sY (yv_to (y := boo true) (yv_eql rfl rfl rfl) (congrArg boo (by decide))) ?_
  refine tr tbk 10 (.mk ?_)
  obtain rfl := nxt_e h3
  refine w_ret (hret _ _ (hk [(1, ⟨72, 2, true, true, v3, [[.pt 1 v3 0 0, .sl 2 v336 0 x338.length]]⟩), (2, ⟨5, 1, true, true, v336, byteRows x338⟩), (3, ⟨28, 9, true, true, v11, [[int x10.Kind, int x10.E, int x10.Item, int x10.Loc, int x10.To, int x10.Qty, int x10.Amount, int x10.Ref, lst 1 fI x10.Refs]]⟩)]) (.tmp rfl .nil) (HK.le ⟨rfl, rfl, rfl, trivial⟩) ?_)
  exact ⟨(), (), rfl, rfl, rfl⟩
  rintro y _ ⟨_, _, rfl, hc, rfl⟩
  subst hc
  refine tr tbk 2 (.mk ?_)
  obtain ⟨x340, e340, h2⟩ := bind_e h2
  refine sC cal40 (numD_c e340) ?_
  obtain ⟨p341, h2⟩ := asrt_e h2
  obtain ⟨p343, h2⟩ := asrt_e h2
  obtain ⟨x344, e344, h2⟩ := bnd_e h2
  refine rse rfl rfl rfl (yl_call rfl rfl (.cons rfl (.cons rfl .nil)) cal39 (PC.mono (wstrS_c (id := 1) (ver := v3) (ib := 2) (vb := v336) (l := x338) (t := x340) (by decide) rfl rfl p343 p341) (R' := fun y H' => y = .tup [int (x340.length : Int), .sc .nilIface] ∧ ∃ vb', H' = upd (upd _ 2 (some (bufO 5 vb' x344))) 1 (some (bldO 72 1 v3 2 (some (vb', x344))))) (fun y H' h => by subst e344; exact h))) ?_; rintro _ _ ⟨rfl, v342, rfl⟩
  refine tr tbk 15 (.mk ?_)
  refine sY (yv_to (y := boo false) (yv_eql rfl rfl rfl) (congrArg boo (by decide))) ?_
  refine tr tbk 4 (.mk ?_)
  obtain ⟨j345, h3, h2⟩ := bind_e h2
  refine rse (Out := fun y H' => (∃ (a : Unit) (k : Unit), a = j345 ∧ y = .pt 3 v11 0 3 ∧ H' = hk [(1, ⟨72, 2, true, true, v3, [[.pt 1 v3 0 0, .sl 2 v342 0 x344.length]]⟩), (2, ⟨5, 1, true, true, v342, byteRows x344⟩), (3, ⟨28, 9, true, true, v11, [[int x10.Kind, int x10.E, int x10.Item, int x10.Loc, int x10.To, int x10.Qty, int x10.Amount, int x10.Ref, lst 1 fI x10.Refs]]⟩)])) rfl rfl rfl (yl_call rfl rfl (.cons rfl (.cons rfl .nil)) cal23 ?_) ?_
  refine pcw (c := _) Try.func23 rfl rfl ?_; intro Q hret hnorm
  refine tc tbk 12 (.mk ?_)
  refine sY (yv_to (y := boo false) (yv_eql rfl rfl rfl) (congrArg boo (by decide))) ?_
  refine tr tbk 5 (.mk ?_)
  refine sY (yv_to (y := boo false) (yv_eql rfl rfl rfl) (congrArg boo (by decide))) ?_
  refine tr tbk 5 (.mk ?_)
  refine sY (yv_to (y := boo true) (yv_eql rfl rfl rfl) (congrArg boo (by decide))) ?_
  refine tr tbk 10 (.mk ?_)
  obtain rfl := nxt_e h3
  refine w_ret (hret _ _ (hk [(1, ⟨72, 2, true, true, v3, [[.pt 1 v3 0 0, .sl 2 v342 0 x344.length]]⟩), (2, ⟨5, 1, true, true, v342, byteRows x344⟩), (3, ⟨28, 9, true, true, v11, [[int x10.Kind, int x10.E, int x10.Item, int x10.Loc, int x10.To, int x10.Qty, int x10.Amount, int x10.Ref, lst 1 fI x10.Refs]]⟩)]) (.tmp rfl .nil) (HK.le ⟨rfl, rfl, rfl, trivial⟩) ?_)
  exact ⟨(), (), rfl, rfl, rfl⟩
  rintro y _ ⟨_, _, rfl, hc, rfl⟩
  subst hc
  refine tr tbk 2 (.mk ?_)
  obtain ⟨x346, e346, h2⟩ := bind_e h2
  refine sC cal40 (numD_c e346) ?_
  obtain ⟨p347, h2⟩ := asrt_e h2
  obtain ⟨p349, h2⟩ := asrt_e h2
  obtain ⟨x350, e350, h2⟩ := bnd_e h2
  refine rse rfl rfl rfl (yl_call rfl rfl (.cons rfl (.cons rfl .nil)) cal39 (PC.mono (wstrS_c (id := 1) (ver := v3) (ib := 2) (vb := v342) (l := x344) (t := x346) (by decide) rfl rfl p349 p347) (R' := fun y H' => y = .tup [int (x346.length : Int), .sc .nilIface] ∧ ∃ vb', H' = upd (upd _ 2 (some (bufO 5 vb' x350))) 1 (some (bldO 72 1 v3 2 (some (vb', x350))))) (fun y H' h => by subst e350; exact h))) ?_; rintro _ _ ⟨rfl, v348, rfl⟩
  refine tr tbk 15 (.mk ?_)
  refine sY (yv_to (y := boo false) (yv_eql rfl rfl rfl) (congrArg boo (by decide))) ?_
  refine tr tbk 4 (.mk ?_)
  obtain ⟨j351, h3, h2⟩ := bind_e h2
  refine rse (Out := fun y H' => (∃ (a : Unit) (k : Unit), a = j351 ∧ y = .pt 3 v11 0 5 ∧ H' = hk [(1, ⟨72, 2, true, true, v3, [[.pt 1 v3 0 0, .sl 2 v348 0 x350.length]]⟩), (2, ⟨5, 1, true, true, v348, byteRows x350⟩), (3, ⟨28, 9, true, true, v11, [[int x10.Kind, int x10.E, int x10.Item, int x10.Loc, int x10.To, int x10.Qty, int x10.Amount, int x10.Ref, lst 1 fI x10.Refs]]⟩)])) rfl rfl rfl (yl_call rfl rfl (.cons rfl (.cons rfl .nil)) cal23 ?_) ?_
  refine pcw (c := _) Try.func23 rfl rfl ?_; intro Q hret hnorm
  refine tc tbk 12 (.mk ?_)
  refine sY (yv_to (y := boo false) (yv_eql rfl rfl rfl) (congrArg boo (by decide))) ?_
  refine tr tbk 5 (.mk ?_)
  refine sY (yv_to (y := boo false) (yv_eql rfl rfl rfl) (congrArg boo (by decide))) ?_
  refine tr tbk 5 (.mk ?_)
  refine sY (yv_to (y := boo false) (yv_eql rfl rfl rfl) (congrArg boo (by decide))) ?_
  refine tr tbk 5 (.mk ?_)
  refine sY (yv_to (y := boo false) (yv_eql rfl rfl rfl) (congrArg boo (by decide))) ?_
  refine tr tbk 5 (.mk ?_)
  refine sY (yv_to (y := boo true) (yv_eql rfl rfl rfl) (congrArg boo (by decide))) ?_
  refine tr tbk 10 (.mk ?_)
  obtain rfl := nxt_e h3
  refine w_ret (hret _ _ (hk [(1, ⟨72, 2, true, true, v3, [[.pt 1 v3 0 0, .sl 2 v348 0 x350.length]]⟩), (2, ⟨5, 1, true, true, v348, byteRows x350⟩), (3, ⟨28, 9, true, true, v11, [[int x10.Kind, int x10.E, int x10.Item, int x10.Loc, int x10.To, int x10.Qty, int x10.Amount, int x10.Ref, lst 1 fI x10.Refs]]⟩)]) (.tmp rfl .nil) (HK.le ⟨rfl, rfl, rfl, trivial⟩) ?_)
  exact ⟨(), (), rfl, rfl, rfl⟩
  rintro y _ ⟨_, _, rfl, hc, rfl⟩
  subst hc
  refine tr tbk 2 (.mk ?_)
  obtain ⟨x352, e352, h2⟩ := bind_e h2
  refine sC cal40 (numD_c e352) ?_
  obtain ⟨p353, h2⟩ := asrt_e h2
  obtain ⟨p355, h2⟩ := asrt_e h2
  obtain ⟨x356, e356, h2⟩ := bnd_e h2
  refine rse rfl rfl rfl (yl_call rfl rfl (.cons rfl (.cons rfl .nil)) cal39 (PC.mono (wstrS_c (id := 1) (ver := v3) (ib := 2) (vb := v348) (l := x350) (t := x352) (by decide) rfl rfl p355 p353) (R' := fun y H' => y = .tup [int (x352.length : Int), .sc .nilIface] ∧ ∃ vb', H' = upd (upd _ 2 (some (bufO 5 vb' x356))) 1 (some (bldO 72 1 v3 2 (some (vb', x356))))) (fun y H' h => by subst e356; exact h))) ?_; rintro _ _ ⟨rfl, v354, rfl⟩
  refine tr tbk 15 (.mk ?_)
  refine sY (yv_to (y := boo false) (yv_eql rfl rfl rfl) (congrArg boo (by decide))) ?_
  refine tr tbk 4 (.mk ?_)
  obtain ⟨j357, h3, h2⟩ := bind_e h2
  refine rse (Out := fun y H' => (∃ (a : Unit) (k : Unit), a = j357 ∧ y = .pt 3 v11 0 6 ∧ H' = hk [(1, ⟨72, 2, true, true, v3, [[.pt 1 v3 0 0, .sl 2 v354 0 x356.length]]⟩), (2, ⟨5, 1, true, true, v354, byteRows x356⟩), (3, ⟨28, 9, true, true, v11, [[int x10.Kind, int x10.E, int x10.Item, int x10.Loc, int x10.To, int x10.Qty, int x10.Amount, int x10.Ref, lst 1 fI x10.Refs]]⟩)])) rfl rfl rfl (yl_call rfl rfl (.cons rfl (.cons rfl .nil)) cal23 ?_) ?_
  refine pcw (c := _) Try.func23 rfl rfl ?_; intro Q hret hnorm
  refine tc tbk 12 (.mk ?_)
  refine sY (yv_to (y := boo false) (yv_eql rfl rfl rfl) (congrArg boo (by decide))) ?_
  refine tr tbk 5 (.mk ?_)
  refine sY (yv_to (y := boo false) (yv_eql rfl rfl rfl) (congrArg boo (by decide))) ?_
  refine tr tbk 5 (.mk ?_)
  refine sY (yv_to (y := boo false) (yv_eql rfl rfl rfl) (congrArg boo (by decide))) ?_
  refine tr tbk 5 (.mk ?_)
  refine sY (yv_to (y := boo false) (yv_eql rfl rfl rfl) (congrArg boo (by decide))) ?_
  refine tr tbk 5 (.mk ?_)
  refine sY (yv_to (y := boo false) (yv_eql rfl rfl rfl) (congrArg boo (by decide))) ?_
  refine tr tbk 5 (.mk ?_)
  refine sY (yv_to (y := boo true) (yv_eql rfl rfl rfl) (congrArg boo (by decide))) ?_
  refine tr tbk 10 (.mk ?_)
  obtain rfl := nxt_e h3
  refine w_ret (hret _ _ (hk [(1, ⟨72, 2, true, true, v3, [[.pt 1 v3 0 0, .sl 2 v354 0 x356.length]]⟩), (2, ⟨5, 1, true, true, v354, byteRows x356⟩), (3, ⟨28, 9, true, true, v11, [[int x10.Kind, int x10.E, int x10.Item, int x10.Loc, int x10.To, int x10.Qty, int x10.Amount, int x10.Ref, lst 1 fI x10.Refs]]⟩)]) (.tmp rfl .nil) (HK.le ⟨rfl, rfl, rfl, trivial⟩) ?_)
  exact ⟨(), (), rfl, rfl, rfl⟩
  rintro y _ ⟨_, _, rfl, hc, rfl⟩
  subst hc
  refine tr tbk 2 (.mk ?_)
  obtain ⟨x358, e358, h2⟩ := bind_e h2
  refine sC cal40 (numD_c e358) ?_
  obtain ⟨p359, h2⟩ := asrt_e h2
  obtain ⟨p361, h2⟩ := asrt_e h2
  obtain ⟨x362, e362, h2⟩ := bnd_e h2
  refine rse rfl rfl rfl (yl_call rfl rfl (.cons rfl (.cons rfl .nil)) cal39 (PC.mono (wstrS_c (id := 1) (ver := v3) (ib := 2) (vb := v354) (l := x356) (t := x358) (by decide) rfl rfl p361 p359) (R' := fun y H' => y = .tup [int (x358.length : Int), .sc .nilIface] ∧ ∃ vb', H' = upd (upd _ 2 (some (bufO 5 vb' x362))) 1 (some (bldO 72 1 v3 2 (some (vb', x362))))) (fun y H' h => by subst e362; exact h))) ?_; rintro _ _ ⟨rfl, v360, rfl⟩
  refine tr tbk 7 (.mk ?_)
  exact lfE h2 v360 leA
  replace h2 := ct h2
  refine w_rangeD [0, 0, 2, 7, 15] (fun i => bif Nat.beq i 1 then ([3]) else bif Nat.beq i 2 then ([3]) else []) (fun i => [3]) 4 [0, 1, 2, 3] mixed (by kernel_rfl) rfl rfl rfl rfl rfl rfl rfl rfl rfl rfl rfl rfl rfl Try.underlying9 ?_
  refine eP (fun H hH => yv_callP rfl rfl .nil cal20 (CvL.refl _) forms20_c) ?_
  refine eF fo28_0 ?_
  refine eL sh3 ?_
  refine de_as 30 (int 0) rfl (congrArg int (of_decide_eq_true e19)) ?_
  refine de_pure rfl rfl rfl rfl (fun H hH => yv_indexA rfl Try.underlying46 sh45 rfl rfl (by decide) rfl) ?_
  refine ⟨_, rfl, rfl, fun b363 => ?_⟩
  refine tc tbk 5 (.mk ?_)
  exact lfE h2 v16 leA
  replace h2 := ct h2
  refine tc tbk 5 (.mk ?_)
  obtain ⟨c364, hX, hj⟩ := esc_e h2; subst hj; replace h1 := hX.trans (sel_r h1)
  obtain ⟨c365, hX, hj⟩ := esc_e h1; subst hj; replace h0 := hX.trans (sel_r h0)
  obtain rfl := nxt_e h0
  refine wR hret (rT .nil) ?_
  exact .refl _
  rintro y2_2 w2_1 h1
  refine tc tbk 1 (.mk ?_)
  refine ni tbk h1 fun x366 h1 => ?_
  refine tr tbk 2 (.mk ?_)
  exact bk (x366, y2_2) w2_1 h1 leA
  rintro y4_2 w4_1 h0
  refine tc tbk 2 (.mk ?_)
  obtain ⟨p367, h0⟩ := asrt_e h0
  obtain ⟨p368, h0⟩ := asrt_e h0
  refine rse rfl rfl rfl (yl_call rfl rfl (.cons rfl .nil) cal42 (bstr_c (id := 1) (ver := v3) (ib := 2) (vb := w4_1) (l := y4_2) rfl rfl p367 p368)) ?_; rintro _ _ ⟨rfl, rfl⟩
  refine tr tbk 2 (.mk ?_)
  obtain rfl := nxt_e h0
  refine wR hret (rT .nil) ?_
  exact .refl _
end Go.Pv
