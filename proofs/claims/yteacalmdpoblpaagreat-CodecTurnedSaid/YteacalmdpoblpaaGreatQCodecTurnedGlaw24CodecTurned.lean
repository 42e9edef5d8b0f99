/-
  PRINTED BY PROGRAM: for each function its condition (vc), and that this suffices (ok).
-/
import Derived.Test.YteacalmdpoblpaaGreatQCodecTurnedGT
namespace Go.Proofs.YteacalmdpoblpaaGreat
open Go.RowKit
set_option linter.unusedVariables false

/-- The condition of topiary/topiarylaw24.CodecTurned. -/
def law24_CodecTurned.vc (base_1 : Int) (target_2 : Int) (l_3 : Sl) (at_4 : Int) (row_5 : Int) (R : Value → World → Prop) (w : World) : Prop :=
CallK Tryz.prog 6 #[Sl.v l_3] w [] (fun v w11 => ∃ (r_9 : Bool), v = .bool r_9 ∧
(((r_9 = false) ∨ (row_5 = 0)) →
CallK Tryz.prog 7 #[] w11 [] (fun v w27 => ∃ (r_25 : Bool), v = .bool r_25 ∧
R (.bool r_25) w27)) ∧
(((r_9 = true) ∧ (¬ (row_5 = 0))) →
CallK Tryz.prog 9 #[Sl.v l_3] w11 [] (fun v w40 => ∃ (r_38 : Sl), v = Sl.v r_38 ∧
CallK Tryz.prog 8 #[.int .u64 base_1, .int .u64 target_2, Sl.v r_38] w40 [] (fun v w49 => ∃ (r_0_46 : Sl) (r_1_47 : Int), v = .tuple #[Sl.v r_0_46, .int .i64 r_1_47] ∧
(((r_1_47 ≠ 0) ∨ ((r_0_46.n : Int) < 26)) →
∃ (r_74 : Bool), (((r_1_47 ≠ 0)) → Calls Tryz.prog 7 #[] w49 (Ret fun v w' => Ext w49 w' ∧ v = .bool r_74)) ∧
(∀ w76 : World, Ext w49 w76 →
R (.bool ((decide (r_1_47 ≠ 0)) && r_74)) w76)) ∧
(((¬ (r_1_47 ≠ 0)) ∧ (¬ ((r_0_46.n : Int) < 26))) →
(I64 (8 * (r_0_46.n : Int))) ∧
(I64 ((8 * (r_0_46.n : Int)) - 39)) ∧
CallK Tryz.prog 10 #[.int .i64 at_4, .int .i64 ((8 * (r_0_46.n : Int)) - 39)] w49 [] (fun v w96 => ∃ (r_94 : Int), v = .int .i64 r_94 ∧
((0 : Int) ≤ (IntKind.u64.wrap (r_94.tmod 8)) ∧ (IntKind.u64.wrap (r_94.tmod 8)) ≤ 64) ∧
∃ (J_118 : Int → World → Prop) (mu_119 : Int → World → Nat),
J_118 0 w96 ∧
(∀ (i_116 : Int) (w117 : World), J_118 i_116 w117 →
((i_116 < 5) →
(I64 (r_94.tdiv 8)) ∧
(I64 ((r_94.tdiv 8) + i_116)) ∧
((0 : Int) ≤ (r_94.tdiv 8) + i_116 ∧ (r_94.tdiv 8) + i_116 < (r_0_46.n : Int)) ∧ ∃ p_200 : Addr, r_0_46.a = some p_200 ∧
∃ (x_206 : Int), (w117.cell? (p_200.add (((r_94.tdiv 8) + i_116).toNat * 1)) = some (.int .u8 x_206)) ∧
(I64 (8 * i_116)) ∧
((0 : Int) ≤ (IntKind.u64.wrap (8 * i_116)) ∧ (IntKind.u64.wrap (8 * i_116)) ≤ 64) ∧
((0 : Int) ≤ (r_94.tdiv 8) + i_116 ∧ (r_94.tdiv 8) + i_116 < (r_0_46.n : Int)) ∧ ∃ p_220 : Addr, r_0_46.a = some p_220 ∧
∃ (B_229 o_230 : Nat) (T_231 : TypeId) (cs_232 : List Value), (p_220.add (((r_94.tdiv 8) + i_116).toNat * 1)) = ⟨B_229, o_230, none⟩ ∧ Box w117 B_229 T_231 cs_232 ∧ o_230 + 1 ≤ cs_232.length ∧ (∀ b ∈ [], b ≠ B_229) ∧
(∀ w225 : World, Chg [B_229] w117 w225 → Box w225 B_229 T_231 (putAt cs_232 o_230 [.int .u8 (bits .xor .u8 x_206 (IntKind.u8.wrap ((IntKind.u64.wrap ((IntKind.u64.wrap row_5) * 2 ^ (IntKind.u64.wrap (r_94.tmod 8)).toNat)) / 2 ^ (IntKind.u64.wrap (8 * i_116)).toNat)))]) →
(I64 (i_116 + 1)) ∧
J_118 (i_116 + 1) w225 ∧ mu_119 (i_116 + 1) w225 < mu_119 i_116 w117)) ∧
((¬ (i_116 < 5)) →
CallK Tryz.prog 11 #[Sl.v r_0_46] w117 [] (fun v w254 => ∃ (r_0_249 : Int) (r_1_250 : Int) (r_2_251 : Sl) (r_3_252 : Int), v = .tuple #[.int .u64 r_0_249, .int .u64 r_1_250, Sl.v r_2_251, .int .i64 r_3_252] ∧
CallK Tryz.prog 12 #[.agg #[.int .i64 1, .string (Bs ([] : Str)), .string (Bs ([] : Str)), Sl.v Sl.nil, Sl.v Sl.nil], Sl.v r_0_46] w254 [] (fun v w275 => ∃ (r_0_272_Kind : Int) (r_0_272_Name : Str) (r_0_272_Text : Str) (r_0_272_Attrs : Sl) (r_0_272_Kids : Sl) (r_1_273 : Int), v = .tuple #[.agg #[.int .i64 r_0_272_Kind, .string (Bs r_0_272_Name), .string (Bs r_0_272_Text), Sl.v r_0_272_Attrs, Sl.v r_0_272_Kids], .int .i64 r_1_273] ∧
∀ (w292 : World) (B_284 : Nat), New w275 B_284 w292 → Chg [] w275 w292 →
∃ (r_316 : Bool), (((((r_3_252 = 11) ∧ ((r_2_251.n : Int) = 0)) ∧ (r_1_273 = 11))) → Calls Tryz.prog 13 #[.agg #[.int .i64 r_0_272_Kind, .string (Bs r_0_272_Name), .string (Bs r_0_272_Text), Sl.v r_0_272_Attrs, Sl.v r_0_272_Kids], .agg #[.int .i64 0, .string (Bs ([] : Str)), .string (Bs ([] : Str)), Sl.v Sl.nil, Sl.v Sl.nil]] w292 (Ret fun v w' => Ext w292 w' ∧ v = .bool r_316)) ∧
(∀ w318 : World, Ext w292 w318 →
∃ (r_327 : Bool), ((((((r_3_252 = 11) ∧ ((r_2_251.n : Int) = 0)) ∧ (r_1_273 = 11)) ∧ (r_316 = true))) → Calls Tryz.prog 7 #[] w318 (Ret fun v w' => Ext w318 w' ∧ v = .bool r_327)) ∧
(∀ w329 : World, Ext w318 w329 →
R (.bool (((((decide (r_3_252 = 11)) && (decide ((r_2_251.n : Int) = 0))) && (decide (r_1_273 = 11))) && r_316) && r_327)) w329))))))))))))
set_option maxHeartbeats 1000000 in
set_option maxRecDepth 10000 in
theorem law24_CodecTurned.ok (base_1 : Int) (target_2 : Int) (l_3 : Sl) (at_4 : Int) (row_5 : Int) {R : Value → World → Prop} {w : World} (ht0 : law24_CodecTurned.vc base_1 target_2 l_3 at_4 row_5 R w) : Calls Tryz.prog 3 #[.int .u64 base_1, .int .u64 target_2, Sl.v l_3, .int .i64 at_4, .int .u32 row_5] w (Ret R) := by
  refine enter [.int .u64 base_1, .int .u64 target_2, Sl.v l_3, .int .i64 at_4, .int .u32 row_5] Tryz.func3 rfl Tryz.ntmps3 rfl ?_
  intro a0 hA0
  unfold law24_CodecTurned.vc at ht0
  refine wp_seq ?_
  refine wp_region_lit ?_
  refine sq (opk_val hA0 rfl (r_assign rfl) fun a6 hA6 _ => ?_)
  refine sq_end ?_
  have hA7 := hA6.keep [(0, .int .u64 base_1), (1, .int .u64 target_2), (2, Sl.v l_3), (3, .int .i64 at_4), (4, .int .u32 row_5)] ⟨rfl, rfl, rfl, rfl, rfl, trivial⟩
  refine then_normal ?_
  refine wp_seq ?_
  refine wp_seq ?_
  refine wp_region_lit ?_
  refine sq (opk_val hA7 rfl (r_move (hA7.get rfl)) fun a8 hA8 _ => ?_)
  refine sq (opk_call hA8 rfl (r_call (args := #[Sl.v l_3]) Tryz.func6 (by decide) rfl (map_arr (ml_cons (hA8.get rfl) ml_nil)) rfl) ht0 fun a10 v16 w11 hA10 _ hn13 hz14 hK15 => ?_)
  obtain ⟨r_9, rfl, ht12⟩ := hK15
  refine sq (opk_val hA10 rfl (r_not (hA10.get rfl)) fun a17 hA17 _ => ?_)
  refine sq (opk_val hA17 rfl (r_move (hA17.get rfl)) fun a18 hA18 _ => ?_)
  refine sq (opk_gval hA18 rfl rfl (g := true) (e := (!r_9)) rfl (fun hg => r_move (hA18.get rfl)) fun a19 hA19 _ => ?_)
  refine sq (opk_gval hA19 rfl rfl (g := true) (e := (!r_9)) rfl (fun hg => r_eql (cv_get (hA19.get rfl) hg) rfl) fun a20 hA20 _ => ?_)
  refine sq (opk_val hA20 rfl (r_pick_or (g := (true && ((!r_9) == false))) (hA20.get rfl) (hA20.get rfl) (fun he => g_mkf rfl he)) fun a21 hA21 _ => ?_)
  refine sq_end ?_
  have hA22 := hA21.keep [(0, .int .u64 base_1), (1, .int .u64 target_2), (2, Sl.v l_3), (3, .int .i64 at_4), (4, .int .u32 row_5), (28, .bool ((!r_9) || (decide (row_5 = 0))))] ⟨rfl, rfl, rfl, rfl, rfl, rfl, trivial⟩
  refine then_normal ?_
  refine wp_cond_split (hA22.get rfl) (fun hc => ?_) (fun hc => ?_)
  · have ht23 := ht12.1 ((b_or_t hc).imp (fun h => (b_not_t h)) (fun h => (of_decide_eq_true h)))
    clear hc
    refine wp_seq ?_
    refine wp_region_lit ?_
    refine sq (opk_call hA22 rfl (r_call (args := #[]) Tryz.func7 (by decide) rfl (map_arr ml_nil) rfl) ht23 fun a26 v32 w27 hA26 _ hn29 hz30 hK31 => ?_)
    obtain ⟨r_25, rfl, ht28⟩ := hK31
    refine sq (opk_val hA26 rfl (r_assign (hA26.get rfl)) fun a33 hA33 _ => ?_)
    refine sq_end ?_
    have hA34 := hA33.keep [(10, .bool r_25)] ⟨rfl, trivial⟩
    refine then_normal ?_
    refine wp_ret ?_
    refine then_ret ?_
    exact res_all (vs := [.bool r_25]) rfl hA34 ⟨res_of_tmp hA34 rfl, trivial⟩ ht28
  · have ht24 := ht12.2 ⟨(b_not_f (b_or_f hc).1), (of_decide_eq_false (b_or_f hc).2)⟩
    clear hc
    refine wp_skip ?_
    refine then_normal ?_
    refine wp_seq ?_
    refine wp_region_lit ?_
    refine sq (opk_val hA22 rfl (r_move (hA22.get rfl)) fun a35 hA35 _ => ?_)
    refine sq (opk_val hA35 rfl (r_move (hA35.get rfl)) fun a36 hA36 _ => ?_)
    refine sq (opk_val hA36 rfl (r_move (hA36.get rfl)) fun a37 hA37 _ => ?_)
    refine sq (opk_call hA37 rfl (r_call (args := #[Sl.v l_3]) Tryz.func9 (by decide) rfl (map_arr (ml_cons (hA37.get rfl) ml_nil)) rfl) ht24 fun a39 v45 w40 hA39 _ hn42 hz43 hK44 => ?_)
    obtain ⟨r_38, rfl, ht41⟩ := hK44
    refine sq (opk_call hA39 rfl (r_call (args := #[.int .u64 base_1, .int .u64 target_2, Sl.v r_38]) Tryz.func8 (by decide) rfl (map_arr (ml_cons (hA39.get rfl) (ml_cons (hA39.get rfl) (ml_cons (hA39.get rfl) ml_nil)))) rfl) ht41 fun a48 v54 w49 hA48 _ hn51 hz52 hK53 => ?_)
    obtain ⟨r_0_46, r_1_47, rfl, ht50⟩ := hK53
    refine sq (opk_val hA48 rfl (r_move (hA48.get rfl)) fun a55 hA55 _ => ?_)
    refine sq (opk_val hA55 rfl (r_extract (hA55.get rfl) rfl) fun a56 hA56 _ => ?_)
    refine sq (opk_val hA56 rfl (r_extract (hA56.get rfl) rfl) fun a57 hA57 _ => ?_)
    refine sq (opk_val hA57 rfl (r_assign (hA57.get rfl)) fun a58 hA58 _ => ?_)
    refine sq (opk_val hA58 rfl (r_assign (hA58.get rfl)) fun a59 hA59 _ => ?_)
    refine sq_end ?_
    have hA60 := hA59.keep [(3, .int .i64 at_4), (4, .int .u32 row_5), (11, Sl.v r_0_46), (12, .int .i64 r_1_47)] ⟨rfl, rfl, rfl, rfl, trivial⟩
    refine then_normal ?_
    refine wp_seq ?_
    refine wp_seq ?_
    refine wp_region_lit ?_
    refine sq (opk_val hA60 rfl (r_move (hA60.get rfl)) fun a61 hA61 _ => ?_)
    refine sq (opk_val hA61 rfl (r_neq (hA61.get rfl) rfl) fun a62 hA62 _ => ?_)
    refine sq (opk_val hA62 rfl (r_move (hA62.get rfl)) fun a63 hA63 _ => ?_)
    refine sq (opk_gval hA63 rfl rfl (g := true) (e := (decide (r_1_47 ≠ 0))) rfl (fun hg => r_move (hA63.get rfl)) fun a64 hA64 _ => ?_)
    refine sq (opk_gval hA64 rfl rfl (g := true) (e := (decide (r_1_47 ≠ 0))) rfl (fun hg => r_len (cv_get (hA64.get rfl) hg) Tryz.underlying27) fun a65 hA65 _ => ?_)
    refine sq (opk_gval hA65 rfl rfl (g := true) (e := (decide (r_1_47 ≠ 0))) rfl (fun hg => r_lss (cv_get (hA65.get rfl) hg) rfl) fun a66 hA66 _ => ?_)
    refine sq (opk_val hA66 rfl (r_pick_or (g := (true && ((decide (r_1_47 ≠ 0)) == false))) (hA66.get rfl) (hA66.get rfl) (fun he => g_mkf rfl he)) fun a67 hA67 _ => ?_)
    refine sq_end ?_
    have hA68 := hA67.keep [(3, .int .i64 at_4), (4, .int .u32 row_5), (11, Sl.v r_0_46), (12, .int .i64 r_1_47), (44, .bool ((decide (r_1_47 ≠ 0)) || (decide ((r_0_46.n : Int) < 26))))] ⟨rfl, rfl, rfl, rfl, rfl, trivial⟩
    refine then_normal ?_
    refine wp_cond_split (hA68.get rfl) (fun hc => ?_) (fun hc => ?_)
    · have ht69 := ht50.1 ((b_or_t hc).imp (fun h => (of_decide_eq_true h)) (fun h => (of_decide_eq_true h)))
      clear hc
      refine wp_seq ?_
      refine wp_region_lit ?_
      refine sq (opk_val hA68 rfl (r_move (hA68.get rfl)) fun a71 hA71 _ => ?_)
      refine sq (opk_val hA71 rfl (r_neq (hA71.get rfl) rfl) fun a72 hA72 _ => ?_)
      refine sq (opk_val hA72 rfl (r_move (hA72.get rfl)) fun a73 hA73 _ => ?_)
      obtain ⟨r_74, hc78, ht77⟩ := ht69
      refine sq (opk_gcall hA73 rfl rfl (g := true) (e := (decide (r_1_47 ≠ 0))) rfl (fun hg => r_call (args := #[]) Tryz.func7 (by decide) rfl (map_arr ml_nil) rfl) (fun hg => hc78 (of_decide_eq_true (g_t hg))) fun a75 w76 hA75 _ hE79 => ?_)
      have hC80 : Chg [] w49 w76 := hE79
      have ht81 := ht77 w76 hE79
      refine sq (opk_val hA75 rfl (r_pick_and (g := (true && ((decide (r_1_47 ≠ 0)) == true))) (hA75.get rfl) (hA75.get rfl) (fun he => g_mkt rfl he)) fun a82 hA82 _ => ?_)
      refine sq (opk_val hA82 rfl (r_assign (hA82.get rfl)) fun a83 hA83 _ => ?_)
      refine sq_end ?_
      have hA84 := hA83.keep [(10, .bool ((decide (r_1_47 ≠ 0)) && r_74))] ⟨rfl, trivial⟩
      refine then_normal ?_
      refine wp_ret ?_
      refine then_ret ?_
      exact res_all (vs := [.bool ((decide (r_1_47 ≠ 0)) && r_74)]) rfl hA84 ⟨res_of_tmp hA84 rfl, trivial⟩ ht81
    · have ht70 := ht50.2 ⟨(of_decide_eq_false (b_or_f hc).1), (of_decide_eq_false (b_or_f hc).2)⟩
      clear hc
      refine wp_skip ?_
      refine then_normal ?_
      refine wp_seq ?_
      refine wp_region_lit ?_
      refine sq (opk_val hA68 rfl (r_move (hA68.get rfl)) fun a85 hA85 _ => ?_)
      refine sq (opk_val hA85 rfl (r_move (hA85.get rfl)) fun a86 hA86 _ => ?_)
      refine sq (opk_val hA86 rfl (r_len (hA86.get rfl) Tryz.underlying27) fun a87 hA87 _ => ?_)
      obtain ⟨hS89, ht90⟩ := ht70
      refine sq (opk_val hA87 rfl (r_mulI rfl (hA87.get rfl) hS89) fun a88 hA88 _ => ?_)
      obtain ⟨hS92, ht93⟩ := ht90
      refine sq (opk_val hA88 rfl (r_subI (hA88.get rfl) rfl hS92) fun a91 hA91 _ => ?_)
      refine sq (opk_call hA91 rfl (r_call (args := #[.int .i64 at_4, .int .i64 ((8 * (r_0_46.n : Int)) - 39)]) Tryz.func10 (by decide) rfl (map_arr (ml_cons (hA91.get rfl) (ml_cons (hA91.get rfl) ml_nil))) rfl) ht93 fun a95 v101 w96 hA95 _ hn98 hz99 hK100 => ?_)
      obtain ⟨r_94, rfl, ht97⟩ := hK100
      refine sq (opk_val hA95 rfl (r_assign (hA95.get rfl)) fun a102 hA102 _ => ?_)
      refine sq_end ?_
      have hA103 := hA102.keep [(4, .int .u32 row_5), (11, Sl.v r_0_46), (13, .int .i64 r_94)] ⟨rfl, rfl, rfl, trivial⟩
      refine then_normal ?_
      refine wp_seq ?_
      refine wp_region_lit ?_
      refine sq (opk_val hA103 rfl (r_move (hA103.get rfl)) fun a104 hA104 _ => ?_)
      refine sq (opk_val hA104 rfl (r_conv (hA104.get rfl) rfl Tryz.underlying22) fun a105 hA105 _ => ?_)
      refine sq (opk_val hA105 rfl (r_move (hA105.get rfl)) fun a106 hA106 _ => ?_)
      refine sq (opk_val hA106 rfl (r_rem (hA106.get rfl) rfl (by decide)) fun a107 hA107 _ => ?_)
      refine sq (opk_val hA107 rfl (r_conv (hA107.get rfl) rfl Tryz.underlying33) fun a108 hA108 _ => ?_)
      obtain ⟨hS110, ht111⟩ := ht97
      refine sq (opk_val hA108 rfl (r_shl (hA108.get rfl) (hA108.get rfl) hS110.1 hS110.2) fun a109 hA109 _ => ?_)
      refine sq (opk_val hA109 rfl (r_assign (hA109.get rfl)) fun a112 hA112 _ => ?_)
      refine sq_end ?_
      have hA113 := hA112.keep [(11, Sl.v r_0_46), (13, .int .i64 r_94), (14, .int .u64 (IntKind.u64.wrap ((IntKind.u64.wrap row_5) * 2 ^ (IntKind.u64.wrap (r_94.tmod 8)).toNat)))] ⟨rfl, rfl, rfl, trivial⟩
      refine then_normal ?_
      refine wp_seq ?_
      refine wp_seq ?_
      refine wp_region_lit ?_
      refine sq (opk_val hA113 rfl (r_assign rfl) fun a114 hA114 _ => ?_)
      refine sq_end ?_
      have hA115 := hA114.keep [(11, Sl.v r_0_46), (13, .int .i64 r_94), (14, .int .u64 (IntKind.u64.wrap ((IntKind.u64.wrap row_5) * 2 ^ (IntKind.u64.wrap (r_94.tmod 8)).toNat))), (15, .int .i64 0)] ⟨rfl, rfl, rfl, rfl, trivial⟩
      refine then_normal ?_
      refine wp_block ?_
      obtain ⟨J_118, mu_119, h0183, ht182⟩ := ht111
      refine wp_loop_st (σ := Int × World) (fun s a w => Ag 113 a [(11, Sl.v r_0_46), (13, .int .i64 r_94), (14, .int .u64 (IntKind.u64.wrap ((IntKind.u64.wrap row_5) * 2 ^ (IntKind.u64.wrap (r_94.tmod 8)).toNat))), (15, .int .i64 s.1)] ∧ w = s.2 ∧ J_118 s.1 s.2) (fun s => mu_119 s.1 s.2) (0, w96) ⟨hA115.keep [(11, Sl.v r_0_46), (13, .int .i64 r_94), (14, .int .u64 (IntKind.u64.wrap ((IntKind.u64.wrap row_5) * 2 ^ (IntKind.u64.wrap (r_94.tmod 8)).toNat))), (15, .int .i64 0)] ⟨rfl, rfl, rfl, rfl, trivial⟩, rfl, h0183⟩ ?_
      rintro ⟨i_116, w117⟩ a181 w_ ⟨hA181, hw_, hJ185⟩
      have hw_ : w117 = w_ := hw_.symm
      subst hw_
      have ht184 := ht182 i_116 _ hJ185
      refine wp_seq ?_
      refine wp_seq ?_
      refine wp_region_lit ?_
      refine sq (opk_val hA181 rfl (r_move (hA181.get rfl)) fun a186 hA186 _ => ?_)
      refine sq (opk_val hA186 rfl (r_lss (hA186.get rfl) rfl) fun a187 hA187 _ => ?_)
      refine sq_end ?_
      have hA188 := hA187.keep [(11, Sl.v r_0_46), (13, .int .i64 r_94), (14, .int .u64 (IntKind.u64.wrap ((IntKind.u64.wrap row_5) * 2 ^ (IntKind.u64.wrap (r_94.tmod 8)).toNat))), (15, .int .i64 i_116), (63, .bool (decide (i_116 < 5)))] ⟨rfl, rfl, rfl, rfl, rfl, trivial⟩
      refine then_normal ?_
      refine wp_cond_split (hA188.get rfl) (fun hc => ?_) (fun hc => ?_)
      · have ht189 := ht184.1 (of_decide_eq_true hc)
        clear hc
        refine wp_skip ?_
        refine then_normal ?_
        refine wp_seq ?_
        refine wp_block ?_
        refine wp_region_lit ?_
        refine sq (opk_val hA188 rfl (r_move (hA188.get rfl)) fun a191 hA191 _ => ?_)
        refine sq (opk_val hA191 rfl (r_move (hA191.get rfl)) fun a192 hA192 _ => ?_)
        obtain ⟨hS194, ht195⟩ := ht189
        refine sq (opk_val hA192 rfl (r_quoI (hA192.get rfl) rfl (by decide) hS194) fun a193 hA193 _ => ?_)
        refine sq (opk_val hA193 rfl (r_move (hA193.get rfl)) fun a196 hA196 _ => ?_)
        obtain ⟨hS198, ht199⟩ := ht195
        refine sq (opk_val hA196 rfl (r_addI (hA196.get rfl) (hA196.get rfl) hS198) fun a197 hA197 _ => ?_)
        obtain ⟨hb201, p_200, hp202, ht203⟩ := ht199
        refine sq (opk_val hA197 rfl (r_indexAddr (hA197.get rfl) (hA197.get rfl) Tryz.underlying27 ti_5 hb201 hp202) fun a204 hA204 _ => ?_)
        obtain ⟨x_206, hx207, ht208⟩ := ht203
        refine sq (opk_val hA204 rfl (r_load1 Tryz.underlying5 rfl (hA204.get rfl) hx207) fun a205 hA205 _ => ?_)
        refine sq (opk_val hA205 rfl (r_move (hA205.get rfl)) fun a209 hA209 _ => ?_)
        refine sq (opk_val hA209 rfl (r_move (hA209.get rfl)) fun a210 hA210 _ => ?_)
        obtain ⟨hS212, ht213⟩ := ht208
        refine sq (opk_val hA210 rfl (r_mulI rfl (hA210.get rfl) hS212) fun a211 hA211 _ => ?_)
        refine sq (opk_val hA211 rfl (r_conv (hA211.get rfl) rfl Tryz.underlying33) fun a214 hA214 _ => ?_)
        obtain ⟨hS216, ht217⟩ := ht213
        refine sq (opk_val hA214 rfl (r_shr (hA214.get rfl) (hA214.get rfl) hS216.1 hS216.2) fun a215 hA215 _ => ?_)
        refine sq (opk_val hA215 rfl (r_conv (hA215.get rfl) rfl Tryz.underlying5) fun a218 hA218 _ => ?_)
        refine sq (opk_val hA218 rfl (r_xor (hA218.get rfl) (hA218.get rfl)) fun a219 hA219 _ => ?_)
        obtain ⟨hb221, p_220, hp222, ht223⟩ := ht217
        refine sq (opk_val hA219 rfl (r_indexAddr (hA219.get rfl) (hA219.get rfl) Tryz.underlying27 ti_5 hb221 hp222) fun a224 hA224 _ => ?_)
        obtain ⟨B_229, o_230, T_231, cs_232, he233, hb234, hl235, hx236, ht237⟩ := ht223
        refine sq (opk_store hA224 hb234 (r_store (vs := [.int .u8 (bits .xor .u8 x_206 (IntKind.u8.wrap ((IntKind.u64.wrap ((IntKind.u64.wrap row_5) * 2 ^ (IntKind.u64.wrap (r_94.tmod 8)).toNat)) / 2 ^ (IntKind.u64.wrap (8 * i_116)).toNat)))]) (((hA224.get rfl)).trans (congrArg (fun a => Value.pointer (some a)) he233)) (hA224.get rfl) rfl ti_5 hb234 (Nat.ble_eq_true_of_le hl235) (ones_all [.int .u8 (bits .xor .u8 x_206 (IntKind.u8.wrap ((IntKind.u64.wrap ((IntKind.u64.wrap row_5) * 2 ^ (IntKind.u64.wrap (r_94.tmod 8)).toNat)) / 2 ^ (IntKind.u64.wrap (8 * i_116)).toNat)))] rfl)) fun a226 w225 hS227 hB228 hA226 => ?_)
        have ht238 := ht237 w225 hS227 hB228
        refine sq_end ?_
        have hA239 := hA226.keep [(11, Sl.v r_0_46), (13, .int .i64 r_94), (14, .int .u64 (IntKind.u64.wrap ((IntKind.u64.wrap row_5) * 2 ^ (IntKind.u64.wrap (r_94.tmod 8)).toNat))), (15, .int .i64 i_116)] ⟨rfl, rfl, rfl, rfl, trivial⟩
        refine block_normal ?_
        refine then_normal ?_
        refine wp_region_lit ?_
        refine sq (opk_val hA239 rfl (r_move (hA239.get rfl)) fun a240 hA240 _ => ?_)
        obtain ⟨hS242, ht243⟩ := ht238
        refine sq (opk_val hA240 rfl (r_addI (hA240.get rfl) rfl hS242) fun a241 hA241 _ => ?_)
        refine sq (opk_val hA241 rfl (r_assign (hA241.get rfl)) fun a244 hA244 _ => ?_)
        refine sq_end ?_
        have hA245 := hA244.keep [(11, Sl.v r_0_46), (13, .int .i64 r_94), (14, .int .u64 (IntKind.u64.wrap ((IntKind.u64.wrap row_5) * 2 ^ (IntKind.u64.wrap (r_94.tmod 8)).toNat))), (15, .int .i64 (i_116 + 1))] ⟨rfl, rfl, rfl, rfl, trivial⟩
        have hA246 := hA245.keep [(11, Sl.v r_0_46), (13, .int .i64 r_94), (14, .int .u64 (IntKind.u64.wrap ((IntKind.u64.wrap row_5) * 2 ^ (IntKind.u64.wrap (r_94.tmod 8)).toNat))), (15, .int .i64 (i_116 + 1))] ⟨rfl, rfl, rfl, rfl, trivial⟩
        exact then_normal ⟨(i_116 + 1, w225), ⟨hA246, rfl, ht243.1⟩, ht243.2⟩
      · have ht190 := ht184.2 (of_decide_eq_false hc)
        clear hc
        refine wp_exit ?_
        refine then_exit ?_
        refine then_exit ?_
        refine block_hit ?_
        have hA247 := hA188.keep [(11, Sl.v r_0_46)] ⟨rfl, trivial⟩
        refine then_normal ?_
        refine wp_seq ?_
        refine wp_region_lit ?_
        refine sq (opk_val hA247 rfl (r_move (hA247.get rfl)) fun a248 hA248 _ => ?_)
        refine sq (opk_call hA248 rfl (r_call (args := #[Sl.v r_0_46]) Tryz.func11 (by decide) rfl (map_arr (ml_cons (hA248.get rfl) ml_nil)) rfl) ht190 fun a253 v259 w254 hA253 _ hn256 hz257 hK258 => ?_)
        obtain ⟨r_0_249, r_1_250, r_2_251, r_3_252, rfl, ht255⟩ := hK258
        refine sq (opk_val hA253 rfl (r_move (hA253.get rfl)) fun a260 hA260 _ => ?_)
        refine sq (opk_val hA260 rfl (r_extract (hA260.get rfl) rfl) fun a261 hA261 _ => ?_)
        refine sq (opk_val hA261 rfl (r_extract (hA261.get rfl) rfl) fun a262 hA262 _ => ?_)
        refine sq (opk_val hA262 rfl (r_extract (hA262.get rfl) rfl) fun a263 hA263 _ => ?_)
        refine sq (opk_val hA263 rfl (r_extract (hA263.get rfl) rfl) fun a264 hA264 _ => ?_)
        refine sq (opk_val hA264 rfl (r_assign (hA264.get rfl)) fun a265 hA265 _ => ?_)
        refine sq (opk_val hA265 rfl (r_assign (hA265.get rfl)) fun a266 hA266 _ => ?_)
        refine sq (opk_val hA266 rfl (r_assign (hA266.get rfl)) fun a267 hA267 _ => ?_)
        refine sq (opk_val hA267 rfl (r_assign (hA267.get rfl)) fun a268 hA268 _ => ?_)
        refine sq_end ?_
        have hA269 := hA268.keep [(11, Sl.v r_0_46), (18, Sl.v r_2_251), (19, .int .i64 r_3_252)] ⟨rfl, rfl, rfl, trivial⟩
        refine then_normal ?_
        refine wp_seq ?_
        refine wp_region_lit ?_
        refine sq (opk_val hA269 rfl (r_build (vs := #[(0, .int .i64 1)]) (cells := #[.int .i64 1, .string (Bs ([] : Str)), .string (Bs ([] : Str)), Sl.v Sl.nil, Sl.v Sl.nil]) (map_arr2 (ml2_cons rfl (ml2_nil))) ti_39 Tryz.underlying39 pl_39 (by kernel_rfl)) fun a270 hA270 _ => ?_)
        refine sq (opk_val hA270 rfl (r_move (hA270.get rfl)) fun a271 hA271 _ => ?_)
        refine sq (opk_call hA271 rfl (r_call (args := #[.agg #[.int .i64 1, .string (Bs ([] : Str)), .string (Bs ([] : Str)), Sl.v Sl.nil, Sl.v Sl.nil], Sl.v r_0_46]) Tryz.func12 (by decide) rfl (map_arr (ml_cons (hA271.get rfl) (ml_cons (hA271.get rfl) ml_nil))) rfl) ht255 fun a274 v280 w275 hA274 _ hn277 hz278 hK279 => ?_)
        obtain ⟨r_0_272_Kind, r_0_272_Name, r_0_272_Text, r_0_272_Attrs, r_0_272_Kids, r_1_273, rfl, ht276⟩ := hK279
        refine sq (opk_val hA274 rfl (r_move (hA274.get rfl)) fun a281 hA281 _ => ?_)
        refine sq (opk_val hA281 rfl (r_extract (hA281.get rfl) rfl) fun a282 hA282 _ => ?_)
        refine sq (opk_val hA282 rfl (r_extract (hA282.get rfl) rfl) fun a283 hA283 _ => ?_)
        refine sq (opk_new (fun B => .pointer (some ⟨B, 0, none⟩)) hA283 rfl (r_alloc (cs := [.int .i64 0, .string (Bs ([] : Str)), .string (Bs ([] : Str)), Sl.v Sl.nil, Sl.v Sl.nil]) ti_39 rfl) fun a286 w285 B_284 hE287 hN288 hB289 hA286 _ => ?_)
        have hN290 : New w275 B_284 w285 := hN288
        have hC291 : Chg [] w275 w285 := hE287
        refine sq (opk_store hA286 hB289 (r_store (vs := [.int .i64 r_0_272_Kind, .string (Bs r_0_272_Name), .string (Bs r_0_272_Text), Sl.v r_0_272_Attrs, Sl.v r_0_272_Kids]) (hA286.get rfl) (hA286.get rfl) rfl ti_39 hB289 rfl (ones_all [.int .i64 r_0_272_Kind, .string (Bs r_0_272_Name), .string (Bs r_0_272_Text), Sl.v r_0_272_Attrs, Sl.v r_0_272_Kids] rfl)) fun a293 w292 hS294 hB295 hA293 => ?_)
        have hB296 : Box w292 B_284 39 [.int .i64 r_0_272_Kind, .string (Bs r_0_272_Name), .string (Bs r_0_272_Text), Sl.v r_0_272_Attrs, Sl.v r_0_272_Kids] := hB295
        have hC297 := hC291.storeNew hN290 hS294
        have hN298 := hN290.up hS294.size
        refine sq (opk_val hA293 rfl (r_assign (hA293.get rfl)) fun a299 hA299 _ => ?_)
        refine sq_end ?_
        have hA300 := hA299.keep [(18, Sl.v r_2_251), (19, .int .i64 r_3_252), (20, .pointer (some (⟨B_284, 0, none⟩ : Addr))), (21, .int .i64 r_1_273)] ⟨rfl, rfl, rfl, rfl, trivial⟩
        refine then_normal ?_
        refine wp_seq ?_
        refine wp_region_lit ?_
        refine sq (opk_val hA300 rfl (r_move (hA300.get rfl)) fun a301 hA301 _ => ?_)
        refine sq (opk_val hA301 rfl (r_eql (hA301.get rfl) rfl) fun a302 hA302 _ => ?_)
        refine sq (opk_val hA302 rfl (r_move (hA302.get rfl)) fun a303 hA303 _ => ?_)
        refine sq (opk_gval hA303 rfl rfl (g := true) (e := (decide (r_3_252 = 11))) rfl (fun hg => r_move (hA303.get rfl)) fun a304 hA304 _ => ?_)
        refine sq (opk_gval hA304 rfl rfl (g := true) (e := (decide (r_3_252 = 11))) rfl (fun hg => r_len (cv_get (hA304.get rfl) hg) Tryz.underlying23) fun a305 hA305 _ => ?_)
        refine sq (opk_gval hA305 rfl rfl (g := true) (e := (decide (r_3_252 = 11))) rfl (fun hg => r_eql (cv_get (hA305.get rfl) hg) rfl) fun a306 hA306 _ => ?_)
        refine sq (opk_val hA306 rfl (r_pick_and (g := (true && ((decide (r_3_252 = 11)) == true))) (hA306.get rfl) (hA306.get rfl) (fun he => g_mkt rfl he)) fun a307 hA307 _ => ?_)
        refine sq (opk_val hA307 rfl (r_move (hA307.get rfl)) fun a308 hA308 _ => ?_)
        refine sq (opk_gval hA308 rfl rfl (g := true) (e := ((decide (r_3_252 = 11)) && (decide ((r_2_251.n : Int) = 0)))) rfl (fun hg => r_move (hA308.get rfl)) fun a309 hA309 _ => ?_)
        refine sq (opk_gval hA309 rfl rfl (g := true) (e := ((decide (r_3_252 = 11)) && (decide ((r_2_251.n : Int) = 0)))) rfl (fun hg => r_eql (cv_get (hA309.get rfl) hg) rfl) fun a310 hA310 _ => ?_)
        refine sq (opk_val hA310 rfl (r_pick_and (g := (true && (((decide (r_3_252 = 11)) && (decide ((r_2_251.n : Int) = 0))) == true))) (hA310.get rfl) (hA310.get rfl) (fun he => g_mkt rfl he)) fun a311 hA311 _ => ?_)
        refine sq (opk_val hA311 rfl (r_move (hA311.get rfl)) fun a312 hA312 _ => ?_)
        refine sq (opk_gval hA312 rfl rfl (g := true) (e := (((decide (r_3_252 = 11)) && (decide ((r_2_251.n : Int) = 0))) && (decide (r_1_273 = 11)))) rfl (fun hg => r_loadN (cs := [.int .i64 r_0_272_Kind, .string (Bs r_0_272_Name), .string (Bs r_0_272_Text), Sl.v r_0_272_Attrs, Sl.v r_0_272_Kids]) Tryz.underlying39 rfl ti_39 (hA312.get rfl) (hB296.part 0 _ rfl)) fun a313 hA313 _ => ?_)
        refine sq (opk_gval hA313 rfl rfl (g := true) (e := (((decide (r_3_252 = 11)) && (decide ((r_2_251.n : Int) = 0))) && (decide (r_1_273 = 11)))) rfl (fun hg => r_build (vs := #[]) (cells := #[.int .i64 0, .string (Bs ([] : Str)), .string (Bs ([] : Str)), Sl.v Sl.nil, Sl.v Sl.nil]) (map_arr2 ml2_nil) ti_39 Tryz.underlying39 pl_39 (by kernel_rfl)) fun a314 hA314 _ => ?_)
        have ht315 := ht276 w292 B_284 hN298  hC297
        obtain ⟨r_316, hc320, ht319⟩ := ht315
        refine sq (opk_gcall hA314 rfl rfl (g := true) (e := (((decide (r_3_252 = 11)) && (decide ((r_2_251.n : Int) = 0))) && (decide (r_1_273 = 11)))) rfl (fun hg => r_call (args := #[.agg #[.int .i64 r_0_272_Kind, .string (Bs r_0_272_Name), .string (Bs r_0_272_Text), Sl.v r_0_272_Attrs, Sl.v r_0_272_Kids], .agg #[.int .i64 0, .string (Bs ([] : Str)), .string (Bs ([] : Str)), Sl.v Sl.nil, Sl.v Sl.nil]]) Tryz.func13 (by decide) rfl (map_arr (ml_cons (cv_get (hA314.get rfl) hg) (ml_cons (cv_get (hA314.get rfl) hg) ml_nil))) rfl) (fun hg => hc320 ⟨⟨(of_decide_eq_true (b_and_t (b_and_t (g_t hg)).1).1), (of_decide_eq_true (b_and_t (b_and_t (g_t hg)).1).2)⟩, (of_decide_eq_true (b_and_t (g_t hg)).2)⟩) fun a317 w318 hA317 _ hE321 => ?_)
        have hB322 := hB296.ext hE321
        have hC323 : Chg [] w292 w318 := hE321
        have ht324 := ht319 w318 hE321
        refine sq (opk_val hA317 rfl (r_pick_and (g := (true && ((((decide (r_3_252 = 11)) && (decide ((r_2_251.n : Int) = 0))) && (decide (r_1_273 = 11))) == true))) (hA317.get rfl) (hA317.get rfl) (fun he => g_mkt rfl he)) fun a325 hA325 _ => ?_)
        refine sq (opk_val hA325 rfl (r_move (hA325.get rfl)) fun a326 hA326 _ => ?_)
        obtain ⟨r_327, hc331, ht330⟩ := ht324
        refine sq (opk_gcall hA326 rfl rfl (g := true) (e := ((((decide (r_3_252 = 11)) && (decide ((r_2_251.n : Int) = 0))) && (decide (r_1_273 = 11))) && r_316)) rfl (fun hg => r_call (args := #[]) Tryz.func7 (by decide) rfl (map_arr ml_nil) rfl) (fun hg => hc331 ⟨⟨⟨(of_decide_eq_true (b_and_t (b_and_t (b_and_t (g_t hg)).1).1).1), (of_decide_eq_true (b_and_t (b_and_t (b_and_t (g_t hg)).1).1).2)⟩, (of_decide_eq_true (b_and_t (b_and_t (g_t hg)).1).2)⟩, (b_and_t (g_t hg)).2⟩) fun a328 w329 hA328 _ hE332 => ?_)
        have hB333 := hB322.ext hE332
        have hC334 : Chg [] w318 w329 := hE332
        have ht335 := ht330 w329 hE332
        refine sq (opk_val hA328 rfl (r_pick_and (g := (true && (((((decide (r_3_252 = 11)) && (decide ((r_2_251.n : Int) = 0))) && (decide (r_1_273 = 11))) && r_316) == true))) (hA328.get rfl) (hA328.get rfl) (fun he => g_mkt rfl he)) fun a336 hA336 _ => ?_)
        refine sq (opk_val hA336 rfl (r_assign (hA336.get rfl)) fun a337 hA337 _ => ?_)
        refine sq_end ?_
        have hA338 := hA337.keep [(10, .bool (((((decide (r_3_252 = 11)) && (decide ((r_2_251.n : Int) = 0))) && (decide (r_1_273 = 11))) && r_316) && r_327))] ⟨rfl, trivial⟩
        refine then_normal ?_
        refine wp_ret ?_
        exact res_all (vs := [.bool (((((decide (r_3_252 = 11)) && (decide ((r_2_251.n : Int) = 0))) && (decide (r_1_273 = 11))) && r_316) && r_327)]) rfl hA338 ⟨res_of_tmp hA338 rfl, trivial⟩ ht335

end Go.Proofs.YteacalmdpoblpaaGreat
