/-
  PRINTED BY PROGRAM: for each function its condition (vc), and that this suffices (ok).
-/
import Derived.Test.YteacalmdpoblpaaQCodecAllGT
namespace Go.Proofs.Yteacalmdpoblpaa
open Go.RowKit
set_option linter.unusedVariables false

/-- The condition of topiary/bits.Bytes. -/
def bits_Bytes.vc (v_1 : Int) (R : Value → World → Prop) (w : World) : Prop :=
∀ (w12 : World) (B_2 : Nat) (B_11 : Nat), New w B_2 w12 → New w B_11 w12 → B_2 ≠ B_11 → Chg [] w w12 →
∃ (J_75 : Int → Int → Int → Int → Int → Int → Int → Int → Int → World → Prop) (mu_76 : Int → Int → Int → Int → Int → Int → Int → Int → Int → World → Nat),
J_75 0 0 0 0 0 0 0 0 0 w12 ∧
(∀ (x_65 : Int) (c_66 : Int) (c_67 : Int) (c_68 : Int) (c_69 : Int) (c_70 : Int) (c_71 : Int) (c_72 : Int) (c_73 : Int) (w74 : World), J_75 x_65 c_66 c_67 c_68 c_69 c_70 c_71 c_72 c_73 w74 →
((x_65 < 8) →
(I64 (8 * x_65)) ∧
((0 : Int) ≤ (8 * x_65) ∧ (8 * x_65) ≤ 64) ∧
((0 : Int) ≤ x_65 ∧ x_65 < 8) ∧
(I64 (x_65 + 1)) ∧
∀ (w141 : World), Chg [B_11] w74 w141 →
J_75 (x_65 + 1) ((([c_66, c_67, c_68, c_69, c_70, c_71, c_72, c_73] : List Int).set x_65.toNat (IntKind.u8.wrap (v_1 / 2 ^ (8 * x_65).toNat))).getD 0 0) ((([c_66, c_67, c_68, c_69, c_70, c_71, c_72, c_73] : List Int).set x_65.toNat (IntKind.u8.wrap (v_1 / 2 ^ (8 * x_65).toNat))).getD 1 0) ((([c_66, c_67, c_68, c_69, c_70, c_71, c_72, c_73] : List Int).set x_65.toNat (IntKind.u8.wrap (v_1 / 2 ^ (8 * x_65).toNat))).getD 2 0) ((([c_66, c_67, c_68, c_69, c_70, c_71, c_72, c_73] : List Int).set x_65.toNat (IntKind.u8.wrap (v_1 / 2 ^ (8 * x_65).toNat))).getD 3 0) ((([c_66, c_67, c_68, c_69, c_70, c_71, c_72, c_73] : List Int).set x_65.toNat (IntKind.u8.wrap (v_1 / 2 ^ (8 * x_65).toNat))).getD 4 0) ((([c_66, c_67, c_68, c_69, c_70, c_71, c_72, c_73] : List Int).set x_65.toNat (IntKind.u8.wrap (v_1 / 2 ^ (8 * x_65).toNat))).getD 5 0) ((([c_66, c_67, c_68, c_69, c_70, c_71, c_72, c_73] : List Int).set x_65.toNat (IntKind.u8.wrap (v_1 / 2 ^ (8 * x_65).toNat))).getD 6 0) ((([c_66, c_67, c_68, c_69, c_70, c_71, c_72, c_73] : List Int).set x_65.toNat (IntKind.u8.wrap (v_1 / 2 ^ (8 * x_65).toNat))).getD 7 0) w141 ∧ mu_76 (x_65 + 1) ((([c_66, c_67, c_68, c_69, c_70, c_71, c_72, c_73] : List Int).set x_65.toNat (IntKind.u8.wrap (v_1 / 2 ^ (8 * x_65).toNat))).getD 0 0) ((([c_66, c_67, c_68, c_69, c_70, c_71, c_72, c_73] : List Int).set x_65.toNat (IntKind.u8.wrap (v_1 / 2 ^ (8 * x_65).toNat))).getD 1 0) ((([c_66, c_67, c_68, c_69, c_70, c_71, c_72, c_73] : List Int).set x_65.toNat (IntKind.u8.wrap (v_1 / 2 ^ (8 * x_65).toNat))).getD 2 0) ((([c_66, c_67, c_68, c_69, c_70, c_71, c_72, c_73] : List Int).set x_65.toNat (IntKind.u8.wrap (v_1 / 2 ^ (8 * x_65).toNat))).getD 3 0) ((([c_66, c_67, c_68, c_69, c_70, c_71, c_72, c_73] : List Int).set x_65.toNat (IntKind.u8.wrap (v_1 / 2 ^ (8 * x_65).toNat))).getD 4 0) ((([c_66, c_67, c_68, c_69, c_70, c_71, c_72, c_73] : List Int).set x_65.toNat (IntKind.u8.wrap (v_1 / 2 ^ (8 * x_65).toNat))).getD 5 0) ((([c_66, c_67, c_68, c_69, c_70, c_71, c_72, c_73] : List Int).set x_65.toNat (IntKind.u8.wrap (v_1 / 2 ^ (8 * x_65).toNat))).getD 6 0) ((([c_66, c_67, c_68, c_69, c_70, c_71, c_72, c_73] : List Int).set x_65.toNat (IntKind.u8.wrap (v_1 / 2 ^ (8 * x_65).toNat))).getD 7 0) w141 < mu_76 x_65 c_66 c_67 c_68 c_69 c_70 c_71 c_72 c_73 w74) ∧
((¬ (x_65 < 8)) →
∀ (w158 : World), Chg [B_2] w74 w158 →
R (.agg #[.int .u8 c_66, .int .u8 c_67, .int .u8 c_68, .int .u8 c_69, .int .u8 c_70, .int .u8 c_71, .int .u8 c_72, .int .u8 c_73]) w158))
set_option maxHeartbeats 1000000 in
set_option maxRecDepth 10000 in
theorem bits_Bytes.ok (v_1 : Int) {R : Value → World → Prop} {w : World} (ht0 : bits_Bytes.vc v_1 R w) : Calls Try.prog 22 #[.int .u64 v_1] w (Ret R) := by
  refine enter [.int .u64 v_1] Try.func22 rfl Try.ntmps22 rfl ?_
  intro a0 hA0
  unfold bits_Bytes.vc at ht0
  refine wp_seq ?_
  refine wp_region_lit ?_
  refine sq (opk_new (fun B => .pointer (some ⟨B, 0, none⟩)) hA0 rfl (r_alloc (cs := [.int .u8 0, .int .u8 0, .int .u8 0, .int .u8 0, .int .u8 0, .int .u8 0, .int .u8 0, .int .u8 0]) ti_51 rfl) fun a4 w3 B_2 hE5 hN6 hB7 hA4 _ => ?_)
  have hN8 : New w B_2 w3 := hN6
  have hC9 : Chg [] w w3 := hE5
  refine sq_end ?_
  have hA10 := hA4.keep [(0, .int .u64 v_1), (2, .pointer (some (⟨B_2, 0, none⟩ : Addr)))] ⟨rfl, rfl, trivial⟩
  refine then_normal ?_
  refine wp_seq ?_
  refine wp_region_lit ?_
  refine sq (opk_new (fun B => .pointer (some ⟨B, 0, none⟩)) hA10 rfl (r_alloc (cs := [.int .u8 0, .int .u8 0, .int .u8 0, .int .u8 0, .int .u8 0, .int .u8 0, .int .u8 0, .int .u8 0]) ti_51 rfl) fun a13 w12 B_11 hE14 hN15 hB16 hA13 _ => ?_)
  have hne17 : B_2 ≠ B_11 := Nat.ne_of_lt (Nat.lt_of_lt_of_le hB7.lt hN15.ge)
  have hN18 := New.of hC9 hN15
  have hB19 := hB7.ext hE14
  have hC20 := hC9.more hE14
  have hN21 := hN8.up hE14.size
  refine sq_end ?_
  have hA22 := hA13.keep [(0, .int .u64 v_1), (2, .pointer (some (⟨B_2, 0, none⟩ : Addr))), (3, .pointer (some (⟨B_11, 0, none⟩ : Addr)))] ⟨rfl, rfl, rfl, trivial⟩
  refine then_normal ?_
  refine wp_seq ?_
  refine wp_seq ?_
  refine wp_region_lit ?_
  refine sq (opk_val hA22 rfl (r_move rfl) fun a23 hA23 _ => ?_)
  refine sq_end ?_
  have hA24 := hA23.keep [(0, .int .u64 v_1), (2, .pointer (some (⟨B_2, 0, none⟩ : Addr))), (3, .pointer (some (⟨B_11, 0, none⟩ : Addr))), (5, .int .i64 0)] ⟨rfl, rfl, rfl, rfl, trivial⟩
  refine then_normal ?_
  refine wp_block ?_
  have ht113 := ht0 w12 B_2 B_11 hN21 hN18 hne17 hC20
  obtain ⟨J_75, mu_76, h0118, ht117⟩ := ht113
  refine wp_loop_st (σ := Int × Int × Int × Int × Int × Int × Int × Int × Int × World) (fun s a w => Ag 17 a [(0, .int .u64 v_1), (2, .pointer (some (⟨B_2, 0, none⟩ : Addr))), (3, .pointer (some (⟨B_11, 0, none⟩ : Addr))), (5, .int .i64 s.1)] ∧ Box w B_2 51 [.int .u8 0, .int .u8 0, .int .u8 0, .int .u8 0, .int .u8 0, .int .u8 0, .int .u8 0, .int .u8 0] ∧ Box w B_11 51 [.int .u8 s.2.1, .int .u8 s.2.2.1, .int .u8 s.2.2.2.1, .int .u8 s.2.2.2.2.1, .int .u8 s.2.2.2.2.2.1, .int .u8 s.2.2.2.2.2.2.1, .int .u8 s.2.2.2.2.2.2.2.1, .int .u8 s.2.2.2.2.2.2.2.2.1] ∧ w = s.2.2.2.2.2.2.2.2.2 ∧ J_75 s.1 s.2.1 s.2.2.1 s.2.2.2.1 s.2.2.2.2.1 s.2.2.2.2.2.1 s.2.2.2.2.2.2.1 s.2.2.2.2.2.2.2.1 s.2.2.2.2.2.2.2.2.1 s.2.2.2.2.2.2.2.2.2) (fun s => mu_76 s.1 s.2.1 s.2.2.1 s.2.2.2.1 s.2.2.2.2.1 s.2.2.2.2.2.1 s.2.2.2.2.2.2.1 s.2.2.2.2.2.2.2.1 s.2.2.2.2.2.2.2.2.1 s.2.2.2.2.2.2.2.2.2) (0, 0, 0, 0, 0, 0, 0, 0, 0, w12) ⟨hA24.keep [(0, .int .u64 v_1), (2, .pointer (some (⟨B_2, 0, none⟩ : Addr))), (3, .pointer (some (⟨B_11, 0, none⟩ : Addr))), (5, .int .i64 0)] ⟨rfl, rfl, rfl, rfl, trivial⟩, hB19, hB16, rfl, h0118⟩ ?_
  rintro ⟨x_65, c_66, c_67, c_68, c_69, c_70, c_71, c_72, c_73, w74⟩ a114 w_ ⟨hA114, hB115, hB116, hw_, hJ120⟩
  have hw_ : w74 = w_ := hw_.symm
  subst hw_
  have ht119 := ht117 x_65 c_66 c_67 c_68 c_69 c_70 c_71 c_72 c_73 _ hJ120
  refine wp_seq ?_
  refine wp_region_lit ?_
  refine sq (opk_val hA114 rfl (r_lss (hA114.get rfl) rfl) fun a121 hA121 _ => ?_)
  refine sq_end ?_
  have hA122 := hA121.keep [(0, .int .u64 v_1), (2, .pointer (some (⟨B_2, 0, none⟩ : Addr))), (3, .pointer (some (⟨B_11, 0, none⟩ : Addr))), (5, .int .i64 x_65), (6, .bool (decide (x_65 < 8)))] ⟨rfl, rfl, rfl, rfl, rfl, trivial⟩
  refine then_normal ?_
  refine wp_seq ?_
  refine wp_cond_split (hA122.get rfl) (fun hc => ?_) (fun hc => ?_)
  · have ht123 := ht119.1 (of_decide_eq_true hc)
    clear hc
    refine wp_skip ?_
    refine then_normal ?_
    refine wp_seq ?_
    refine wp_block ?_
    refine wp_seq ?_
    refine wp_region_lit ?_
    refine sq (opk_val hA122 rfl (r_move (hA122.get rfl)) fun a125 hA125 _ => ?_)
    refine sq (opk_val hA125 rfl (r_assign (hA125.get rfl)) fun a126 hA126 _ => ?_)
    refine sq_end ?_
    have hA127 := hA126.keep [(0, .int .u64 v_1), (2, .pointer (some (⟨B_2, 0, none⟩ : Addr))), (3, .pointer (some (⟨B_11, 0, none⟩ : Addr))), (4, .int .i64 x_65), (5, .int .i64 x_65)] ⟨rfl, rfl, rfl, rfl, rfl, trivial⟩
    refine then_normal ?_
    refine wp_region_lit ?_
    refine sq (opk_val hA127 rfl (r_move (hA127.get rfl)) fun a128 hA128 _ => ?_)
    refine sq (opk_val hA128 rfl (r_move (hA128.get rfl)) fun a129 hA129 _ => ?_)
    refine sq (opk_val hA129 rfl (r_move (hA129.get rfl)) fun a130 hA130 _ => ?_)
    obtain ⟨hS132, ht133⟩ := ht123
    refine sq (opk_val hA130 rfl (r_mulI rfl (hA130.get rfl) hS132) fun a131 hA131 _ => ?_)
    obtain ⟨hS135, ht136⟩ := ht133
    refine sq (opk_val hA131 rfl (r_shr (hA131.get rfl) (hA131.get rfl) hS135.1 hS135.2) fun a134 hA134 _ => ?_)
    refine sq (opk_val hA134 rfl (r_conv (hA134.get rfl) rfl Try.underlying5) fun a137 hA137 _ => ?_)
    obtain ⟨hS139, ht140⟩ := ht136
    refine sq (opk_val hA137 rfl (r_indexAddrA (hA137.get rfl) (hA137.get rfl) Try.underlying51 ti_5 hS139) fun a138 hA138 _ => ?_)
    refine sq (opk_store hA138 hB116 (r_store (vs := [.int .u8 (IntKind.u8.wrap (v_1 / 2 ^ (8 * x_65).toNat))]) (((hA138.get rfl)).trans (congrArg (fun a => Value.pointer (some a)) (Addr.addA _ _))) (hA138.get rfl) rfl ti_5 hB116 (Nat.ble_eq_true_of_le (show x_65.toNat + 1 ≤ 8 by have hs_ := hS139; omega)) (ones_all [.int .u8 (IntKind.u8.wrap (v_1 / 2 ^ (8 * x_65).toNat))] rfl)) fun a142 w141 hS143 hB144 hA142 => ?_)
    have hB145 : Box w141 B_11 51 [.int .u8 ((([c_66, c_67, c_68, c_69, c_70, c_71, c_72, c_73] : List Int).set x_65.toNat (IntKind.u8.wrap (v_1 / 2 ^ (8 * x_65).toNat))).getD 0 0), .int .u8 ((([c_66, c_67, c_68, c_69, c_70, c_71, c_72, c_73] : List Int).set x_65.toNat (IntKind.u8.wrap (v_1 / 2 ^ (8 * x_65).toNat))).getD 1 0), .int .u8 ((([c_66, c_67, c_68, c_69, c_70, c_71, c_72, c_73] : List Int).set x_65.toNat (IntKind.u8.wrap (v_1 / 2 ^ (8 * x_65).toNat))).getD 2 0), .int .u8 ((([c_66, c_67, c_68, c_69, c_70, c_71, c_72, c_73] : List Int).set x_65.toNat (IntKind.u8.wrap (v_1 / 2 ^ (8 * x_65).toNat))).getD 3 0), .int .u8 ((([c_66, c_67, c_68, c_69, c_70, c_71, c_72, c_73] : List Int).set x_65.toNat (IntKind.u8.wrap (v_1 / 2 ^ (8 * x_65).toNat))).getD 4 0), .int .u8 ((([c_66, c_67, c_68, c_69, c_70, c_71, c_72, c_73] : List Int).set x_65.toNat (IntKind.u8.wrap (v_1 / 2 ^ (8 * x_65).toNat))).getD 5 0), .int .u8 ((([c_66, c_67, c_68, c_69, c_70, c_71, c_72, c_73] : List Int).set x_65.toNat (IntKind.u8.wrap (v_1 / 2 ^ (8 * x_65).toNat))).getD 6 0), .int .u8 ((([c_66, c_67, c_68, c_69, c_70, c_71, c_72, c_73] : List Int).set x_65.toNat (IntKind.u8.wrap (v_1 / 2 ^ (8 * x_65).toNat))).getD 7 0)] := Box.setA (l := ([c_66, c_67, c_68, c_69, c_70, c_71, c_72, c_73] : List Int)) (f := (fun z => Value.int .u8 z)) (d := 0) hB144 rfl rfl hS139
    have hB146 := hB115.keep hS143 (by simpa using hne17)
    have hC147 : Chg [B_11] w74 w141 := hS143
    refine sq_end ?_
    have hA148 := hA142.keep [(0, .int .u64 v_1), (2, .pointer (some (⟨B_2, 0, none⟩ : Addr))), (3, .pointer (some (⟨B_11, 0, none⟩ : Addr))), (5, .int .i64 x_65)] ⟨rfl, rfl, rfl, rfl, trivial⟩
    refine block_normal ?_
    refine then_normal ?_
    refine wp_region_lit ?_
    obtain ⟨hS150, ht151⟩ := ht140
    refine sq (opk_val hA148 rfl (r_addI (hA148.get rfl) rfl hS150) fun a149 hA149 _ => ?_)
    refine sq (opk_val hA149 rfl (r_move (hA149.get rfl)) fun a152 hA152 _ => ?_)
    refine sq_end ?_
    have hA153 := hA152.keep [(0, .int .u64 v_1), (2, .pointer (some (⟨B_2, 0, none⟩ : Addr))), (3, .pointer (some (⟨B_11, 0, none⟩ : Addr))), (5, .int .i64 (x_65 + 1))] ⟨rfl, rfl, rfl, rfl, trivial⟩
    have ht154 := ht151 w141    hC147
    have hA155 := hA153.keep [(0, .int .u64 v_1), (2, .pointer (some (⟨B_2, 0, none⟩ : Addr))), (3, .pointer (some (⟨B_11, 0, none⟩ : Addr))), (5, .int .i64 (x_65 + 1))] ⟨rfl, rfl, rfl, rfl, trivial⟩
    exact then_normal ⟨(x_65 + 1, ((([c_66, c_67, c_68, c_69, c_70, c_71, c_72, c_73] : List Int).set x_65.toNat (IntKind.u8.wrap (v_1 / 2 ^ (8 * x_65).toNat))).getD 0 0), ((([c_66, c_67, c_68, c_69, c_70, c_71, c_72, c_73] : List Int).set x_65.toNat (IntKind.u8.wrap (v_1 / 2 ^ (8 * x_65).toNat))).getD 1 0), ((([c_66, c_67, c_68, c_69, c_70, c_71, c_72, c_73] : List Int).set x_65.toNat (IntKind.u8.wrap (v_1 / 2 ^ (8 * x_65).toNat))).getD 2 0), ((([c_66, c_67, c_68, c_69, c_70, c_71, c_72, c_73] : List Int).set x_65.toNat (IntKind.u8.wrap (v_1 / 2 ^ (8 * x_65).toNat))).getD 3 0), ((([c_66, c_67, c_68, c_69, c_70, c_71, c_72, c_73] : List Int).set x_65.toNat (IntKind.u8.wrap (v_1 / 2 ^ (8 * x_65).toNat))).getD 4 0), ((([c_66, c_67, c_68, c_69, c_70, c_71, c_72, c_73] : List Int).set x_65.toNat (IntKind.u8.wrap (v_1 / 2 ^ (8 * x_65).toNat))).getD 5 0), ((([c_66, c_67, c_68, c_69, c_70, c_71, c_72, c_73] : List Int).set x_65.toNat (IntKind.u8.wrap (v_1 / 2 ^ (8 * x_65).toNat))).getD 6 0), ((([c_66, c_67, c_68, c_69, c_70, c_71, c_72, c_73] : List Int).set x_65.toNat (IntKind.u8.wrap (v_1 / 2 ^ (8 * x_65).toNat))).getD 7 0), w141), ⟨hA155, hB146, hB145, rfl, ht154.1⟩, ht154.2⟩
  · have ht124 := ht119.2 (of_decide_eq_false hc)
    clear hc
    refine wp_exit ?_
    refine then_exit ?_
    refine then_exit ?_
    refine block_hit ?_
    have hA156 := hA122.keep [(2, .pointer (some (⟨B_2, 0, none⟩ : Addr))), (3, .pointer (some (⟨B_11, 0, none⟩ : Addr)))] ⟨rfl, rfl, trivial⟩
    refine then_normal ?_
    refine wp_seq ?_
    refine wp_region_lit ?_
    refine sq (opk_val hA156 rfl (r_loadN (cs := [.int .u8 c_66, .int .u8 c_67, .int .u8 c_68, .int .u8 c_69, .int .u8 c_70, .int .u8 c_71, .int .u8 c_72, .int .u8 c_73]) Try.underlying51 rfl ti_51 (hA156.get rfl) (hB116.part 0 _ rfl)) fun a157 hA157 _ => ?_)
    refine sq (opk_store hA157 hB115 (r_store (vs := [.int .u8 c_66, .int .u8 c_67, .int .u8 c_68, .int .u8 c_69, .int .u8 c_70, .int .u8 c_71, .int .u8 c_72, .int .u8 c_73]) (hA157.get rfl) (hA157.get rfl) rfl ti_51 hB115 rfl (ones_all [.int .u8 c_66, .int .u8 c_67, .int .u8 c_68, .int .u8 c_69, .int .u8 c_70, .int .u8 c_71, .int .u8 c_72, .int .u8 c_73] rfl)) fun a159 w158 hS160 hB161 hA159 => ?_)
    have hB162 : Box w158 B_2 51 [.int .u8 c_66, .int .u8 c_67, .int .u8 c_68, .int .u8 c_69, .int .u8 c_70, .int .u8 c_71, .int .u8 c_72, .int .u8 c_73] := hB161
    have hB163 := hB116.keep hS160 (by simpa using hne17.symm)
    have hC164 : Chg [B_2] w74 w158 := hS160
    refine sq_end ?_
    have hA165 := hA159.keep [(2, .pointer (some (⟨B_2, 0, none⟩ : Addr)))] ⟨rfl, trivial⟩
    refine then_normal ?_
    refine wp_ret ?_
    have ht166 := ht124 w158    hC164
    exact res_all (vs := [.agg #[.int .u8 c_66, .int .u8 c_67, .int .u8 c_68, .int .u8 c_69, .int .u8 c_70, .int .u8 c_71, .int .u8 c_72, .int .u8 c_73]]) rfl hA165 ⟨res_of_cell hA165 rfl hB162 Try.underlying51 rfl ti_51, trivial⟩ ht166

/-- The condition of topiary/bits.Of. -/
def bits_Of.vc (b_1_0 : Int) (b_1_1 : Int) (b_1_2 : Int) (b_1_3 : Int) (b_1_4 : Int) (b_1_5 : Int) (b_1_6 : Int) (b_1_7 : Int) (R : Value → World → Prop) (w : World) : Prop :=
∀ (w3 : World) (B_2 : Nat), New w B_2 w3 → Chg [] w w3 →
∃ (J_19 : Int → Int → World → Prop) (mu_20 : Int → Int → World → Nat),
J_19 0 0 w3 ∧
(∀ (v_16 : Int) (x_17 : Int) (w18 : World), J_19 v_16 x_17 w18 →
((x_17 < 8) →
((0 : Int) ≤ x_17 ∧ x_17 < 8) ∧
(I64 (8 * x_17)) ∧
((0 : Int) ≤ (8 * x_17) ∧ (8 * x_17) ≤ 64) ∧
(I64 (x_17 + 1)) ∧
J_19 (bits .or .u64 v_16 (IntKind.u64.wrap ((IntKind.u64.wrap (([b_1_0, b_1_1, b_1_2, b_1_3, b_1_4, b_1_5, b_1_6, b_1_7] : List Int).getD x_17.toNat 0)) * 2 ^ (8 * x_17).toNat))) (x_17 + 1) w18 ∧ mu_20 (bits .or .u64 v_16 (IntKind.u64.wrap ((IntKind.u64.wrap (([b_1_0, b_1_1, b_1_2, b_1_3, b_1_4, b_1_5, b_1_6, b_1_7] : List Int).getD x_17.toNat 0)) * 2 ^ (8 * x_17).toNat))) (x_17 + 1) w18 < mu_20 v_16 x_17 w18) ∧
((¬ (x_17 < 8)) →
R (.int .u64 v_16) w18))
set_option maxHeartbeats 1000000 in
set_option maxRecDepth 10000 in
theorem bits_Of.ok (b_1_0 : Int) (b_1_1 : Int) (b_1_2 : Int) (b_1_3 : Int) (b_1_4 : Int) (b_1_5 : Int) (b_1_6 : Int) (b_1_7 : Int) {R : Value → World → Prop} {w : World} (ht0 : bits_Of.vc b_1_0 b_1_1 b_1_2 b_1_3 b_1_4 b_1_5 b_1_6 b_1_7 R w) : Calls Try.prog 45 #[.agg #[.int .u8 b_1_0, .int .u8 b_1_1, .int .u8 b_1_2, .int .u8 b_1_3, .int .u8 b_1_4, .int .u8 b_1_5, .int .u8 b_1_6, .int .u8 b_1_7]] w (Ret R) := by
  refine enter [.agg #[.int .u8 b_1_0, .int .u8 b_1_1, .int .u8 b_1_2, .int .u8 b_1_3, .int .u8 b_1_4, .int .u8 b_1_5, .int .u8 b_1_6, .int .u8 b_1_7]] Try.func45 rfl Try.ntmps45 rfl ?_
  intro a0 hA0
  unfold bits_Of.vc at ht0
  refine wp_seq ?_
  refine wp_region_lit ?_
  refine sq (opk_new (fun B => .pointer (some ⟨B, 0, none⟩)) hA0 rfl (r_box (cs := [.int .u8 b_1_0, .int .u8 b_1_1, .int .u8 b_1_2, .int .u8 b_1_3, .int .u8 b_1_4, .int .u8 b_1_5, .int .u8 b_1_6, .int .u8 b_1_7]) (hA0.get rfl) rfl) fun a4 w3 B_2 hE5 hN6 hB7 hA4 _ => ?_)
  have hN8 : New w B_2 w3 := hN6
  have hC9 : Chg [] w w3 := hE5
  refine sq (opk_val hA4 rfl (r_assign rfl) fun a10 hA10 _ => ?_)
  refine sq_end ?_
  have hA11 := hA10.keep [(1, .pointer (some (⟨B_2, 0, none⟩ : Addr)))] ⟨rfl, trivial⟩
  refine then_normal ?_
  refine wp_seq ?_
  refine wp_region_lit ?_
  refine sq (opk_val hA11 rfl (r_assign rfl) fun a12 hA12 _ => ?_)
  refine sq_end ?_
  have hA13 := hA12.keep [(1, .pointer (some (⟨B_2, 0, none⟩ : Addr))), (3, .int .u64 0)] ⟨rfl, rfl, trivial⟩
  refine then_normal ?_
  refine wp_seq ?_
  refine wp_seq ?_
  refine wp_region_lit ?_
  refine sq (opk_val hA13 rfl (r_move rfl) fun a14 hA14 _ => ?_)
  refine sq_end ?_
  have hA15 := hA14.keep [(1, .pointer (some (⟨B_2, 0, none⟩ : Addr))), (3, .int .u64 0), (5, .int .i64 0)] ⟨rfl, rfl, rfl, trivial⟩
  refine then_normal ?_
  refine wp_block ?_
  have ht52 := ht0 w3 B_2 hN8  hC9
  obtain ⟨J_19, mu_20, h056, ht55⟩ := ht52
  refine wp_loop_st (σ := Int × Int × World) (fun s a w => Ag 19 a [(1, .pointer (some (⟨B_2, 0, none⟩ : Addr))), (3, .int .u64 s.1), (5, .int .i64 s.2.1)] ∧ Box w B_2 51 [.int .u8 b_1_0, .int .u8 b_1_1, .int .u8 b_1_2, .int .u8 b_1_3, .int .u8 b_1_4, .int .u8 b_1_5, .int .u8 b_1_6, .int .u8 b_1_7] ∧ w = s.2.2 ∧ J_19 s.1 s.2.1 s.2.2) (fun s => mu_20 s.1 s.2.1 s.2.2) (0, 0, w3) ⟨hA15.keep [(1, .pointer (some (⟨B_2, 0, none⟩ : Addr))), (3, .int .u64 0), (5, .int .i64 0)] ⟨rfl, rfl, rfl, trivial⟩, hB7, rfl, h056⟩ ?_
  rintro ⟨v_16, x_17, w18⟩ a53 w_ ⟨hA53, hB54, hw_, hJ58⟩
  have hw_ : w18 = w_ := hw_.symm
  subst hw_
  have ht57 := ht55 v_16 x_17 _ hJ58
  refine wp_seq ?_
  refine wp_region_lit ?_
  refine sq (opk_val hA53 rfl (r_lss (hA53.get rfl) rfl) fun a59 hA59 _ => ?_)
  refine sq_end ?_
  have hA60 := hA59.keep [(1, .pointer (some (⟨B_2, 0, none⟩ : Addr))), (3, .int .u64 v_16), (5, .int .i64 x_17), (6, .bool (decide (x_17 < 8)))] ⟨rfl, rfl, rfl, rfl, trivial⟩
  refine then_normal ?_
  refine wp_seq ?_
  refine wp_cond_split (hA60.get rfl) (fun hc => ?_) (fun hc => ?_)
  · have ht61 := ht57.1 (of_decide_eq_true hc)
    clear hc
    refine wp_skip ?_
    refine then_normal ?_
    refine wp_seq ?_
    refine wp_block ?_
    refine wp_seq ?_
    refine wp_region_lit ?_
    refine sq (opk_val hA60 rfl (r_move (hA60.get rfl)) fun a63 hA63 _ => ?_)
    refine sq (opk_val hA63 rfl (r_assign (hA63.get rfl)) fun a64 hA64 _ => ?_)
    refine sq_end ?_
    have hA65 := hA64.keep [(1, .pointer (some (⟨B_2, 0, none⟩ : Addr))), (3, .int .u64 v_16), (4, .int .i64 x_17), (5, .int .i64 x_17)] ⟨rfl, rfl, rfl, rfl, trivial⟩
    refine then_normal ?_
    refine wp_region_lit ?_
    refine sq (opk_val hA65 rfl (r_move (hA65.get rfl)) fun a66 hA66 _ => ?_)
    refine sq (opk_val hA66 rfl (r_move (hA66.get rfl)) fun a67 hA67 _ => ?_)
    obtain ⟨hS69, ht70⟩ := ht61
    refine sq (opk_val hA67 rfl (r_indexAddrA (hA67.get rfl) (hA67.get rfl) Try.underlying51 ti_5 hS69) fun a68 hA68 _ => ?_)
    refine sq (opk_val hA68 rfl (r_load1 Try.underlying5 rfl (hA68.get rfl) (Box.cellA ([b_1_0, b_1_1, b_1_2, b_1_3, b_1_4, b_1_5, b_1_6, b_1_7] : List Int) (fun z => Value.int .u8 z) 0 hB54 rfl rfl hS69)) fun a71 hA71 _ => ?_)
    refine sq (opk_val hA71 rfl (r_conv (hA71.get rfl) rfl Try.underlying22) fun a72 hA72 _ => ?_)
    refine sq (opk_val hA72 rfl (r_move (hA72.get rfl)) fun a73 hA73 _ => ?_)
    obtain ⟨hS75, ht76⟩ := ht70
    refine sq (opk_val hA73 rfl (r_mulI rfl (hA73.get rfl) hS75) fun a74 hA74 _ => ?_)
    obtain ⟨hS78, ht79⟩ := ht76
    refine sq (opk_val hA74 rfl (r_shl (hA74.get rfl) (hA74.get rfl) hS78.1 hS78.2) fun a77 hA77 _ => ?_)
    refine sq (opk_val hA77 rfl (r_bor (hA77.get rfl) (hA77.get rfl)) fun a80 hA80 _ => ?_)
    refine sq (opk_val hA80 rfl (r_assign (hA80.get rfl)) fun a81 hA81 _ => ?_)
    refine sq_end ?_
    have hA82 := hA81.keep [(1, .pointer (some (⟨B_2, 0, none⟩ : Addr))), (3, .int .u64 (bits .or .u64 v_16 (IntKind.u64.wrap ((IntKind.u64.wrap (([b_1_0, b_1_1, b_1_2, b_1_3, b_1_4, b_1_5, b_1_6, b_1_7] : List Int).getD x_17.toNat 0)) * 2 ^ (8 * x_17).toNat)))), (5, .int .i64 x_17)] ⟨rfl, rfl, rfl, trivial⟩
    refine block_normal ?_
    refine then_normal ?_
    refine wp_region_lit ?_
    obtain ⟨hS84, ht85⟩ := ht79
    refine sq (opk_val hA82 rfl (r_addI (hA82.get rfl) rfl hS84) fun a83 hA83 _ => ?_)
    refine sq (opk_val hA83 rfl (r_move (hA83.get rfl)) fun a86 hA86 _ => ?_)
    refine sq_end ?_
    have hA87 := hA86.keep [(1, .pointer (some (⟨B_2, 0, none⟩ : Addr))), (3, .int .u64 (bits .or .u64 v_16 (IntKind.u64.wrap ((IntKind.u64.wrap (([b_1_0, b_1_1, b_1_2, b_1_3, b_1_4, b_1_5, b_1_6, b_1_7] : List Int).getD x_17.toNat 0)) * 2 ^ (8 * x_17).toNat)))), (5, .int .i64 (x_17 + 1))] ⟨rfl, rfl, rfl, trivial⟩
    have hA88 := hA87.keep [(1, .pointer (some (⟨B_2, 0, none⟩ : Addr))), (3, .int .u64 (bits .or .u64 v_16 (IntKind.u64.wrap ((IntKind.u64.wrap (([b_1_0, b_1_1, b_1_2, b_1_3, b_1_4, b_1_5, b_1_6, b_1_7] : List Int).getD x_17.toNat 0)) * 2 ^ (8 * x_17).toNat)))), (5, .int .i64 (x_17 + 1))] ⟨rfl, rfl, rfl, trivial⟩
    exact then_normal ⟨(bits .or .u64 v_16 (IntKind.u64.wrap ((IntKind.u64.wrap (([b_1_0, b_1_1, b_1_2, b_1_3, b_1_4, b_1_5, b_1_6, b_1_7] : List Int).getD x_17.toNat 0)) * 2 ^ (8 * x_17).toNat)), x_17 + 1, w18), ⟨hA88, hB54, rfl, ht85.1⟩, ht85.2⟩
  · have ht62 := ht57.2 (of_decide_eq_false hc)
    clear hc
    refine wp_exit ?_
    refine then_exit ?_
    refine then_exit ?_
    refine block_hit ?_
    have hA89 := hA60.keep [(3, .int .u64 v_16)] ⟨rfl, trivial⟩
    refine then_normal ?_
    refine wp_seq ?_
    refine wp_region_lit ?_
    refine sq (opk_val hA89 rfl (r_move (hA89.get rfl)) fun a90 hA90 _ => ?_)
    refine sq (opk_val hA90 rfl (r_assign (hA90.get rfl)) fun a91 hA91 _ => ?_)
    refine sq_end ?_
    have hA92 := hA91.keep [(2, .int .u64 v_16)] ⟨rfl, trivial⟩
    refine then_normal ?_
    refine wp_ret ?_
    exact res_all (vs := [.int .u64 v_16]) rfl hA92 ⟨res_of_tmp hA92 rfl, trivial⟩ ht62

end Go.Proofs.Yteacalmdpoblpaa
