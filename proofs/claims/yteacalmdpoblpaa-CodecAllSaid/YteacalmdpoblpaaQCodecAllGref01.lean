/-
  PRINTED BY PROGRAM: for each function its condition (vc), and that this suffices (ok).
-/
import Derived.Test.YteacalmdpoblpaaQCodecAllGT
namespace Go.Proofs.Yteacalmdpoblpaa
open Go.RowKit
set_option linter.unusedVariables false

/-- The condition of topiary/topiaryref01.Eight. -/
def ref01_Eight.vc (v_1 : Int) (R : Value → World → Prop) (w : World) : Prop :=
∃ (J_11 : Sl → Int → World → Prop) (mu_12 : Sl → Int → World → Nat),
J_11 Sl.nil 0 w ∧
(∀ (b_8 : Sl) (i_9 : Int) (w10 : World), J_11 b_8 i_9 w10 →
((i_9 < 8) →
(I64 (8 * i_9)) ∧
((0 : Int) ≤ (IntKind.u64.wrap (8 * i_9)) ∧ (IntKind.u64.wrap (8 * i_9)) ≤ 64) ∧
∀ (w78 : World) (B_77 : Nat), New w10 B_77 w78 → Chg [] w10 w78 →
∀ (_ : Box w78 B_77 5 [.int .u8 (IntKind.u8.wrap (v_1 / 2 ^ (IntKind.u64.wrap (8 * i_9)).toNat))]),
RunK Try.prog (Builtin.append_ #[24, 24] 24 #[Sl.v b_8, Sl.v (Sl.mk (some ⟨B_77, 0, none⟩) 1 1)]) w78 [] (fun v w88 => ∃ (r_94 : Sl), v = Sl.v r_94 ∧
(I64 (i_9 + 1)) ∧
J_11 r_94 (i_9 + 1) w88 ∧ mu_12 r_94 (i_9 + 1) w88 < mu_12 b_8 i_9 w10)) ∧
((¬ (i_9 < 8)) →
R (Sl.v b_8) w10))
set_option maxHeartbeats 1000000 in
set_option maxRecDepth 10000 in
theorem ref01_Eight.ok (v_1 : Int) {R : Value → World → Prop} {w : World} (ht0 : ref01_Eight.vc v_1 R w) : Calls Try.prog 30 #[.int .u64 v_1] w (Ret R) := by
  refine enter [.int .u64 v_1] Try.func30 rfl Try.ntmps30 rfl ?_
  intro a0 hA0
  unfold ref01_Eight.vc at ht0
  refine wp_seq ?_
  refine wp_region_lit ?_
  refine sq (opk_val hA0 rfl (r_assign rfl) fun a2 hA2 _ => ?_)
  refine sq_end ?_
  have hA3 := hA2.keep [(0, .int .u64 v_1)] ⟨rfl, trivial⟩
  refine then_normal ?_
  refine wp_seq ?_
  refine wp_region_lit ?_
  refine sq (opk_val hA3 rfl (r_assign rfl) fun a4 hA4 _ => ?_)
  refine sq_end ?_
  have hA5 := hA4.keep [(0, .int .u64 v_1), (3, Sl.v Sl.nil)] ⟨rfl, rfl, trivial⟩
  refine then_normal ?_
  refine wp_seq ?_
  refine wp_seq ?_
  refine wp_region_lit ?_
  refine sq (opk_val hA5 rfl (r_assign rfl) fun a6 hA6 _ => ?_)
  refine sq_end ?_
  have hA7 := hA6.keep [(0, .int .u64 v_1), (3, Sl.v Sl.nil), (4, .int .i64 0)] ⟨rfl, rfl, rfl, trivial⟩
  refine then_normal ?_
  refine wp_block ?_
  obtain ⟨J_11, mu_12, h058, ht57⟩ := ht0
  refine wp_loop_st (σ := Sl × Int × World) (fun s a w => Ag 19 a [(0, .int .u64 v_1), (3, Sl.v s.1), (4, .int .i64 s.2.1)] ∧ w = s.2.2 ∧ J_11 s.1 s.2.1 s.2.2) (fun s => mu_12 s.1 s.2.1 s.2.2) (Sl.nil, 0, w) ⟨hA7.keep [(0, .int .u64 v_1), (3, Sl.v Sl.nil), (4, .int .i64 0)] ⟨rfl, rfl, rfl, trivial⟩, rfl, h058⟩ ?_
  rintro ⟨b_8, i_9, w10⟩ a56 w_ ⟨hA56, hw_, hJ60⟩
  have hw_ : w10 = w_ := hw_.symm
  subst hw_
  have ht59 := ht57 b_8 i_9 _ hJ60
  refine wp_seq ?_
  refine wp_seq ?_
  refine wp_region_lit ?_
  refine sq (opk_val hA56 rfl (r_move (hA56.get rfl)) fun a61 hA61 _ => ?_)
  refine sq (opk_val hA61 rfl (r_lss (hA61.get rfl) rfl) fun a62 hA62 _ => ?_)
  refine sq_end ?_
  have hA63 := hA62.keep [(0, .int .u64 v_1), (3, Sl.v b_8), (4, .int .i64 i_9), (6, .bool (decide (i_9 < 8)))] ⟨rfl, rfl, rfl, rfl, trivial⟩
  refine then_normal ?_
  refine wp_cond_split (hA63.get rfl) (fun hc => ?_) (fun hc => ?_)
  · have ht64 := ht59.1 (of_decide_eq_true hc)
    clear hc
    refine wp_skip ?_
    refine then_normal ?_
    refine wp_seq ?_
    refine wp_block ?_
    refine wp_region_lit ?_
    refine sq (opk_val hA63 rfl (r_move (hA63.get rfl)) fun a66 hA66 _ => ?_)
    refine sq (opk_val hA66 rfl (r_move (hA66.get rfl)) fun a67 hA67 _ => ?_)
    refine sq (opk_val hA67 rfl (r_move (hA67.get rfl)) fun a68 hA68 _ => ?_)
    obtain ⟨hS70, ht71⟩ := ht64
    refine sq (opk_val hA68 rfl (r_mulI rfl (hA68.get rfl) hS70) fun a69 hA69 _ => ?_)
    refine sq (opk_val hA69 rfl (r_conv (hA69.get rfl) rfl Try.underlying74) fun a72 hA72 _ => ?_)
    obtain ⟨hS74, ht75⟩ := ht71
    refine sq (opk_val hA72 rfl (r_shr (hA72.get rfl) (hA72.get rfl) hS74.1 hS74.2) fun a73 hA73 _ => ?_)
    refine sq (opk_val hA73 rfl (r_conv (hA73.get rfl) rfl Try.underlying5) fun a76 hA76 _ => ?_)
    refine sq (opk_new (fun B => .slice (some ⟨B, 0, none⟩) 1 1) hA76 rfl (r_buildSlice (vs := #[(0, .int .u8 (IntKind.u8.wrap (v_1 / 2 ^ (IntKind.u64.wrap (8 * i_9)).toNat)))]) (cs := [.int .u8 (IntKind.u8.wrap (v_1 / 2 ^ (IntKind.u64.wrap (8 * i_9)).toNat))]) (map_arr2 (ml2_cons (hA76.get rfl) (ml2_nil))) Try.underlying24 ti_5 rfl rfl (by kernel_rfl)) fun a79 w78 B_77 hE80 hN81 hB82 hA79 _ => ?_)
    have hN83 : New w10 B_77 w78 := hN81
    have hC84 : Chg [] w10 w78 := hE80
    have ht85 := ht75 w78 B_77 hN83  hC84
    have ht86 := ht85 hB82
    refine sq (opk_run hA79 rfl (fun _ _ hr => r_append (hA79.get rfl) (hA79.get rfl) hr) ht86 fun a87 v93 w88 hA87 _ hn90 hz91 hK92 => ?_)
    obtain ⟨r_94, rfl, ht89⟩ := hK92
    refine sq (opk_val hA87 rfl (r_assign (hA87.get rfl)) fun a95 hA95 _ => ?_)
    refine sq_end ?_
    have hA96 := hA95.keep [(0, .int .u64 v_1), (3, Sl.v r_94), (4, .int .i64 i_9)] ⟨rfl, rfl, rfl, trivial⟩
    refine block_normal ?_
    refine then_normal ?_
    refine wp_region_lit ?_
    refine sq (opk_val hA96 rfl (r_move (hA96.get rfl)) fun a97 hA97 _ => ?_)
    obtain ⟨hS99, ht100⟩ := ht89
    refine sq (opk_val hA97 rfl (r_addI (hA97.get rfl) rfl hS99) fun a98 hA98 _ => ?_)
    refine sq (opk_val hA98 rfl (r_assign (hA98.get rfl)) fun a101 hA101 _ => ?_)
    refine sq_end ?_
    have hA102 := hA101.keep [(0, .int .u64 v_1), (3, Sl.v r_94), (4, .int .i64 (i_9 + 1))] ⟨rfl, rfl, rfl, trivial⟩
    have hA103 := hA102.keep [(0, .int .u64 v_1), (3, Sl.v r_94), (4, .int .i64 (i_9 + 1))] ⟨rfl, rfl, rfl, trivial⟩
    exact then_normal ⟨(r_94, i_9 + 1, w88), ⟨hA103, rfl, ht100.1⟩, ht100.2⟩
  · have ht65 := ht59.2 (of_decide_eq_false hc)
    clear hc
    refine wp_exit ?_
    refine then_exit ?_
    refine then_exit ?_
    refine block_hit ?_
    have hA104 := hA63.keep [(3, Sl.v b_8)] ⟨rfl, trivial⟩
    refine then_normal ?_
    refine wp_seq ?_
    refine wp_region_lit ?_
    refine sq (opk_val hA104 rfl (r_move (hA104.get rfl)) fun a105 hA105 _ => ?_)
    refine sq (opk_val hA105 rfl (r_assign (hA105.get rfl)) fun a106 hA106 _ => ?_)
    refine sq_end ?_
    have hA107 := hA106.keep [(2, Sl.v b_8)] ⟨rfl, trivial⟩
    refine then_normal ?_
    refine wp_ret ?_
    exact res_all (vs := [Sl.v b_8]) rfl hA107 ⟨res_of_tmp hA107 rfl, trivial⟩ ht65

/-- The condition of topiary/topiaryref01.Of. -/
def ref01_Of.vc (b_1 : Sl) (R : Value → World → Prop) (w : World) : Prop :=
∃ (J_11 : Int → Int → World → Prop) (mu_12 : Int → Int → World → Nat),
J_11 0 0 w ∧
(∀ (v_8 : Int) (i_9 : Int) (w10 : World), J_11 v_8 i_9 w10 →
(((i_9 < (b_1.n : Int)) ∧ (i_9 < 8)) →
((0 : Int) ≤ i_9 ∧ i_9 < (b_1.n : Int)) ∧ ∃ p_74 : Addr, b_1.a = some p_74 ∧
∃ (x_80 : Int), (w10.cell? (p_74.add (i_9.toNat * 1)) = some (.int .u8 x_80)) ∧
(I64 (8 * i_9)) ∧
((0 : Int) ≤ (IntKind.u64.wrap (8 * i_9)) ∧ (IntKind.u64.wrap (8 * i_9)) ≤ 64) ∧
(I64 (i_9 + 1)) ∧
J_11 (bits .or .u64 v_8 (IntKind.u64.wrap ((IntKind.u64.wrap x_80) * 2 ^ (IntKind.u64.wrap (8 * i_9)).toNat))) (i_9 + 1) w10 ∧ mu_12 (bits .or .u64 v_8 (IntKind.u64.wrap ((IntKind.u64.wrap x_80) * 2 ^ (IntKind.u64.wrap (8 * i_9)).toNat))) (i_9 + 1) w10 < mu_12 v_8 i_9 w10) ∧
(((¬ (i_9 < (b_1.n : Int))) ∨ (¬ (i_9 < 8))) →
R (.int .u64 v_8) w10))
set_option maxHeartbeats 1000000 in
set_option maxRecDepth 10000 in
theorem ref01_Of.ok (b_1 : Sl) {R : Value → World → Prop} {w : World} (ht0 : ref01_Of.vc b_1 R w) : Calls Try.prog 37 #[Sl.v b_1] w (Ret R) := by
  refine enter [Sl.v b_1] Try.func37 rfl Try.ntmps37 rfl ?_
  intro a0 hA0
  unfold ref01_Of.vc at ht0
  refine wp_seq ?_
  refine wp_region_lit ?_
  refine sq (opk_val hA0 rfl (r_assign rfl) fun a2 hA2 _ => ?_)
  refine sq_end ?_
  have hA3 := hA2.keep [(0, Sl.v b_1)] ⟨rfl, trivial⟩
  refine then_normal ?_
  refine wp_seq ?_
  refine wp_region_lit ?_
  refine sq (opk_val hA3 rfl (r_assign rfl) fun a4 hA4 _ => ?_)
  refine sq_end ?_
  have hA5 := hA4.keep [(0, Sl.v b_1), (3, .int .u64 0)] ⟨rfl, rfl, trivial⟩
  refine then_normal ?_
  refine wp_seq ?_
  refine wp_seq ?_
  refine wp_region_lit ?_
  refine sq (opk_val hA5 rfl (r_assign rfl) fun a6 hA6 _ => ?_)
  refine sq_end ?_
  have hA7 := hA6.keep [(0, Sl.v b_1), (3, .int .u64 0), (4, .int .i64 0)] ⟨rfl, rfl, rfl, trivial⟩
  refine then_normal ?_
  refine wp_block ?_
  obtain ⟨J_11, mu_12, h057, ht56⟩ := ht0
  refine wp_loop_st (σ := Int × Int × World) (fun s a w => Ag 27 a [(0, Sl.v b_1), (3, .int .u64 s.1), (4, .int .i64 s.2.1)] ∧ w = s.2.2 ∧ J_11 s.1 s.2.1 s.2.2) (fun s => mu_12 s.1 s.2.1 s.2.2) (0, 0, w) ⟨hA7.keep [(0, Sl.v b_1), (3, .int .u64 0), (4, .int .i64 0)] ⟨rfl, rfl, rfl, trivial⟩, rfl, h057⟩ ?_
  rintro ⟨v_8, i_9, w10⟩ a55 w_ ⟨hA55, hw_, hJ59⟩
  have hw_ : w10 = w_ := hw_.symm
  subst hw_
  have ht58 := ht56 v_8 i_9 _ hJ59
  refine wp_seq ?_
  refine wp_seq ?_
  refine wp_region_lit ?_
  refine sq (opk_val hA55 rfl (r_move (hA55.get rfl)) fun a60 hA60 _ => ?_)
  refine sq (opk_val hA60 rfl (r_move (hA60.get rfl)) fun a61 hA61 _ => ?_)
  refine sq (opk_val hA61 rfl (r_len (hA61.get rfl) Try.underlying24) fun a62 hA62 _ => ?_)
  refine sq (opk_val hA62 rfl (r_lss (hA62.get rfl) (hA62.get rfl)) fun a63 hA63 _ => ?_)
  refine sq (opk_val hA63 rfl (r_move (hA63.get rfl)) fun a64 hA64 _ => ?_)
  refine sq (opk_gval hA64 rfl rfl (g := true) (e := (decide (i_9 < (b_1.n : Int)))) rfl (fun hg => r_move (hA64.get rfl)) fun a65 hA65 _ => ?_)
  refine sq (opk_gval hA65 rfl rfl (g := true) (e := (decide (i_9 < (b_1.n : Int)))) rfl (fun hg => r_lss (cv_get (hA65.get rfl) hg) rfl) fun a66 hA66 _ => ?_)
  refine sq (opk_val hA66 rfl (r_pick_and (g := (true && ((decide (i_9 < (b_1.n : Int))) == true))) (hA66.get rfl) (hA66.get rfl) (fun he => g_mkt rfl he)) fun a67 hA67 _ => ?_)
  refine sq_end ?_
  have hA68 := hA67.keep [(0, Sl.v b_1), (3, .int .u64 v_8), (4, .int .i64 i_9), (12, .bool ((decide (i_9 < (b_1.n : Int))) && (decide (i_9 < 8))))] ⟨rfl, rfl, rfl, rfl, trivial⟩
  refine then_normal ?_
  refine wp_cond_split (hA68.get rfl) (fun hc => ?_) (fun hc => ?_)
  · have ht69 := ht58.1 ⟨(of_decide_eq_true (b_and_t hc).1), (of_decide_eq_true (b_and_t hc).2)⟩
    clear hc
    refine wp_skip ?_
    refine then_normal ?_
    refine wp_seq ?_
    refine wp_block ?_
    refine wp_region_lit ?_
    refine sq (opk_val hA68 rfl (r_move (hA68.get rfl)) fun a71 hA71 _ => ?_)
    refine sq (opk_val hA71 rfl (r_move (hA71.get rfl)) fun a72 hA72 _ => ?_)
    refine sq (opk_val hA72 rfl (r_move (hA72.get rfl)) fun a73 hA73 _ => ?_)
    obtain ⟨hb75, p_74, hp76, ht77⟩ := ht69
    refine sq (opk_val hA73 rfl (r_indexAddr (hA73.get rfl) (hA73.get rfl) Try.underlying24 ti_5 hb75 hp76) fun a78 hA78 _ => ?_)
    obtain ⟨x_80, hx81, ht82⟩ := ht77
    refine sq (opk_val hA78 rfl (r_load1 Try.underlying5 rfl (hA78.get rfl) hx81) fun a79 hA79 _ => ?_)
    refine sq (opk_val hA79 rfl (r_conv (hA79.get rfl) rfl Try.underlying22) fun a83 hA83 _ => ?_)
    refine sq (opk_val hA83 rfl (r_move (hA83.get rfl)) fun a84 hA84 _ => ?_)
    obtain ⟨hS86, ht87⟩ := ht82
    refine sq (opk_val hA84 rfl (r_mulI rfl (hA84.get rfl) hS86) fun a85 hA85 _ => ?_)
    refine sq (opk_val hA85 rfl (r_conv (hA85.get rfl) rfl Try.underlying74) fun a88 hA88 _ => ?_)
    obtain ⟨hS90, ht91⟩ := ht87
    refine sq (opk_val hA88 rfl (r_shl (hA88.get rfl) (hA88.get rfl) hS90.1 hS90.2) fun a89 hA89 _ => ?_)
    refine sq (opk_val hA89 rfl (r_bor (hA89.get rfl) (hA89.get rfl)) fun a92 hA92 _ => ?_)
    refine sq (opk_val hA92 rfl (r_assign (hA92.get rfl)) fun a93 hA93 _ => ?_)
    refine sq_end ?_
    have hA94 := hA93.keep [(0, Sl.v b_1), (3, .int .u64 (bits .or .u64 v_8 (IntKind.u64.wrap ((IntKind.u64.wrap x_80) * 2 ^ (IntKind.u64.wrap (8 * i_9)).toNat)))), (4, .int .i64 i_9)] ⟨rfl, rfl, rfl, trivial⟩
    refine block_normal ?_
    refine then_normal ?_
    refine wp_region_lit ?_
    refine sq (opk_val hA94 rfl (r_move (hA94.get rfl)) fun a95 hA95 _ => ?_)
    obtain ⟨hS97, ht98⟩ := ht91
    refine sq (opk_val hA95 rfl (r_addI (hA95.get rfl) rfl hS97) fun a96 hA96 _ => ?_)
    refine sq (opk_val hA96 rfl (r_assign (hA96.get rfl)) fun a99 hA99 _ => ?_)
    refine sq_end ?_
    have hA100 := hA99.keep [(0, Sl.v b_1), (3, .int .u64 (bits .or .u64 v_8 (IntKind.u64.wrap ((IntKind.u64.wrap x_80) * 2 ^ (IntKind.u64.wrap (8 * i_9)).toNat)))), (4, .int .i64 (i_9 + 1))] ⟨rfl, rfl, rfl, trivial⟩
    have hA101 := hA100.keep [(0, Sl.v b_1), (3, .int .u64 (bits .or .u64 v_8 (IntKind.u64.wrap ((IntKind.u64.wrap x_80) * 2 ^ (IntKind.u64.wrap (8 * i_9)).toNat)))), (4, .int .i64 (i_9 + 1))] ⟨rfl, rfl, rfl, trivial⟩
    exact then_normal ⟨(bits .or .u64 v_8 (IntKind.u64.wrap ((IntKind.u64.wrap x_80) * 2 ^ (IntKind.u64.wrap (8 * i_9)).toNat)), i_9 + 1, w10), ⟨hA101, rfl, ht98.1⟩, ht98.2⟩
  · have ht70 := ht58.2 ((b_and_f hc).imp (fun h => (of_decide_eq_false h)) (fun h => (of_decide_eq_false h)))
    clear hc
    refine wp_exit ?_
    refine then_exit ?_
    refine then_exit ?_
    refine block_hit ?_
    have hA102 := hA68.keep [(3, .int .u64 v_8)] ⟨rfl, trivial⟩
    refine then_normal ?_
    refine wp_seq ?_
    refine wp_region_lit ?_
    refine sq (opk_val hA102 rfl (r_move (hA102.get rfl)) fun a103 hA103 _ => ?_)
    refine sq (opk_val hA103 rfl (r_assign (hA103.get rfl)) fun a104 hA104 _ => ?_)
    refine sq_end ?_
    have hA105 := hA104.keep [(2, .int .u64 v_8)] ⟨rfl, trivial⟩
    refine then_normal ?_
    refine wp_ret ?_
    exact res_all (vs := [.int .u64 v_8]) rfl hA105 ⟨res_of_tmp hA105 rfl, trivial⟩ ht70

end Go.Proofs.Yteacalmdpoblpaa
