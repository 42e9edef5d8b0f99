/-
  PRINTED BY PROGRAM: for each function its condition (vc), and that this suffices (ok).
-/
import Derived.Test.YteacalmdpoblpaaQCodecAllGT
namespace Go.Proofs.Yteacalmdpoblpaa
open Go.RowKit
set_option linter.unusedVariables false

/-- The condition of topiary/codec.Encode. -/
def codec_Encode.vc (base_1 : Int) (target_2 : Int) (l_3 : Sl) (R : Value → World → Prop) (w : World) : Prop :=
((1500 < (l_3.n : Int)) →
R (.tuple #[Sl.v Sl.nil, .int .i64 2]) w) ∧
((¬ (1500 < (l_3.n : Int))) →
RunK Try.prog (Instr.makeMap 45 none) w [] (fun v w17 => ∃ (r_23 : Option Nat), v = .map r_23 ∧
∃ (J_35 : Sl → Int → World → Prop) (mu_36 : Sl → Int → World → Nat),
J_35 Sl.nil 0 w17 ∧
(∀ (all_32 : Sl) (x_33 : Int) (w34 : World), J_35 all_32 x_33 w34 →
((x_33 < (l_3.n : Int)) →
((0 : Int) ≤ x_33 ∧ x_33 < (l_3.n : Int)) ∧ ∃ p_286 : Addr, l_3.a = some p_286 ∧
∃ (x_292_Kind : Int) (x_292_ID : Int) (x_292_Parent : Int) (x_292_At : Int) (x_292_What : Int) (x_292_Name : Str) (x_292_Text : Str), (Cells w34 (p_286.add (x_33.toNat * 7)) [.int .i64 x_292_Kind, .int .i64 x_292_ID, .int .i64 x_292_Parent, .int .i64 x_292_At, .int .i64 x_292_What, .string (Bs x_292_Name), .string (Bs x_292_Text)]) ∧
∀ (w303 : World) (B_295 : Nat), New w34 B_295 w303 → Chg [] w34 w303 →
CallK Try.prog 20 #[.agg #[.int .i64 x_292_Kind, .int .i64 x_292_ID, .int .i64 x_292_Parent, .int .i64 x_292_At, .int .i64 x_292_What, .string (Bs x_292_Name), .string (Bs x_292_Text)]] w303 [B_295] (fun v w315 => ∃ (r_313 : Bool), v = .bool r_313 ∧
((((r_313 = false) ∨ (x_292_Parent < 0)) ∨ (x_292_At < 0)) →
R (.tuple #[Sl.v Sl.nil, .int .i64 15]) w315) ∧
((((r_313 = true) ∧ (¬ (x_292_Parent < 0))) ∧ (¬ (x_292_At < 0))) →
CallK Try.prog 21 #[.agg #[.int .i64 x_292_Kind, .int .i64 x_292_ID, .int .i64 x_292_Parent, .int .i64 x_292_At, .int .i64 x_292_What, .string (Bs x_292_Name), .string (Bs x_292_Text)]] w315 [B_295] (fun v w342 => ∃ (r_340 : Sl), v = Sl.v r_340 ∧
∃ (J_355 : Sl → Int → World → Prop) (mu_356 : Sl → Int → World → Nat),
J_355 all_32 0 w342 ∧
(∀ (all_352 : Sl) (x_353 : Int) (w354 : World), J_355 all_352 x_353 w354 →
((x_353 < (r_340.n : Int)) →
((0 : Int) ≤ x_353 ∧ x_353 < (r_340.n : Int)) ∧ ∃ p_442 : Addr, r_340.a = some p_442 ∧
∃ (x_448 : Str), (w354.cell? (p_442.add (x_353.toNat * 1)) = some (.string (Bs x_448))) ∧
∃ (r_0_456 : Int) (r_1_457 : Bool), ((Instr.lookup 45 (.map r_23) (.string (Bs x_448)) true).run Try.prog w354 = .ok (.tuple #[.int .i64 r_0_456, .bool r_1_457]) w354) ∧
((r_1_457 = false) →
RunU Try.prog (Instr.mapUpdate 45 (.map r_23) (.string (Bs x_448)) (.int .i64 (all_352.n : Int))) w354 [] (fun w476 =>
∀ (w484 : World) (B_483 : Nat), New w476 B_483 w484 → Chg [] w476 w484 →
∀ (_ : Box w484 B_483 9 [.string (Bs x_448)]),
RunK Try.prog (Builtin.append_ #[46, 46] 46 #[Sl.v all_352, Sl.v (Sl.mk (some ⟨B_483, 0, none⟩) 1 1)]) w484 [] (fun v w494 => ∃ (r_500 : Sl), v = Sl.v r_500 ∧
(I64 (x_353 + 1)) ∧
J_355 r_500 (x_353 + 1) w494 ∧ mu_356 r_500 (x_353 + 1) w494 < mu_356 all_352 x_353 w354))) ∧
((r_1_457 = true) →
(I64 (x_353 + 1)) ∧
J_355 all_352 (x_353 + 1) w354 ∧ mu_356 all_352 (x_353 + 1) w354 < mu_356 all_352 x_353 w354)) ∧
((¬ (x_353 < (r_340.n : Int))) →
(I64 (x_33 + 1)) ∧
J_35 all_352 (x_33 + 1) w354 ∧ mu_36 all_352 (x_33 + 1) w354 < mu_36 all_32 x_33 w34)))))) ∧
((¬ (x_33 < (l_3.n : Int))) →
∀ (w524 : World) (B_523 : Nat), New w34 B_523 w524 → Chg [] w34 w524 →
∀ (_ : Box w524 B_523 5 [.int .u8 116, .int .u8 112, .int .u8 121, .int .u8 49]),
RunK Try.prog (convert 24 24 (Sl.v (Sl.mk (some ⟨B_523, 0, none⟩) 4 4))) w524 [] (fun v w534 => ∃ (r_540 : Sl), v = Sl.v r_540 ∧
∃ (J_551 : Sl → Int → World → Prop) (mu_552 : Sl → Int → World → Nat),
J_551 r_540 0 w534 ∧
(∀ (b_548 : Sl) (x_549 : Int) (w550 : World), J_551 b_548 x_549 w550 →
((x_549 < 2) →
((0 : Int) ≤ x_549 ∧ x_549 < 2) ∧
CallK Try.prog 22 #[.int .u64 (([base_1, target_2] : List Int).getD x_549.toNat 0)] w550 [] (fun v w624 => ∃ (r_622_0 : Int) (r_622_1 : Int) (r_622_2 : Int) (r_622_3 : Int) (r_622_4 : Int) (r_622_5 : Int) (r_622_6 : Int) (r_622_7 : Int), v = .agg #[.int .u8 r_622_0, .int .u8 r_622_1, .int .u8 r_622_2, .int .u8 r_622_3, .int .u8 r_622_4, .int .u8 r_622_5, .int .u8 r_622_6, .int .u8 r_622_7] ∧
∀ (w638 : World) (B_630 : Nat), New w624 B_630 w638 → Chg [] w624 w638 →
∀ (_ : Box w638 B_630 51 [.int .u8 r_622_0, .int .u8 r_622_1, .int .u8 r_622_2, .int .u8 r_622_3, .int .u8 r_622_4, .int .u8 r_622_5, .int .u8 r_622_6, .int .u8 r_622_7]),
RunK Try.prog (Builtin.append_ #[24, 24] 24 #[Sl.v b_548, Sl.v (Sl.mk (some ⟨B_630, 0, none⟩) 8 8)]) w638 [] (fun v w651 => ∃ (r_657 : Sl), v = Sl.v r_657 ∧
(I64 (x_549 + 1)) ∧
J_551 r_657 (x_549 + 1) w651 ∧ mu_552 r_657 (x_549 + 1) w651 < mu_552 b_548 x_549 w550))) ∧
((¬ (x_549 < 2)) →
CallK Try.prog 23 #[Sl.v b_548, .int .u64 (IntKind.u64.wrap (all_32.n : Int))] w550 [] (fun v w673 => ∃ (r_671 : Sl), v = Sl.v r_671 ∧
∃ (J_688 : Sl → Int → World → Prop) (mu_689 : Sl → Int → World → Nat),
J_688 r_671 0 w673 ∧
(∀ (b_685 : Sl) (x_686 : Int) (w687 : World), J_688 b_685 x_686 w687 →
((x_686 < (all_32.n : Int)) →
((0 : Int) ≤ x_686 ∧ x_686 < (all_32.n : Int)) ∧ ∃ p_746 : Addr, all_32.a = some p_746 ∧
∃ (x_752 : Str), (w687.cell? (p_746.add (x_686.toNat * 1)) = some (.string (Bs x_752))) ∧
(I64 (65536 - (b_685.n : Int))) ∧
(((65536 - (b_685.n : Int)) < (x_752.length : Int)) →
R (.tuple #[Sl.v Sl.nil, .int .i64 2]) w687) ∧
((¬ ((65536 - (b_685.n : Int)) < (x_752.length : Int))) →
CallK Try.prog 24 #[Sl.v b_685, .string (Bs x_752)] w687 [] (fun v w775 => ∃ (r_773 : Sl), v = Sl.v r_773 ∧
(I64 (x_686 + 1)) ∧
J_688 r_773 (x_686 + 1) w775 ∧ mu_689 r_773 (x_686 + 1) w775 < mu_689 b_685 x_686 w687))) ∧
((¬ (x_686 < (all_32.n : Int))) →
CallK Try.prog 23 #[Sl.v b_685, .int .u64 (IntKind.u64.wrap (l_3.n : Int))] w687 [] (fun v w796 => ∃ (r_794 : Sl), v = Sl.v r_794 ∧
∃ (J_811 : Sl → Int → World → Prop) (mu_812 : Sl → Int → World → Nat),
J_811 r_794 0 w796 ∧
(∀ (b_808 : Sl) (x_809 : Int) (w810 : World), J_811 b_808 x_809 w810 →
((x_809 < (l_3.n : Int)) →
((0 : Int) ≤ x_809 ∧ x_809 < (l_3.n : Int)) ∧ ∃ p_1136 : Addr, l_3.a = some p_1136 ∧
∃ (x_1142_Kind : Int) (x_1142_ID : Int) (x_1142_Parent : Int) (x_1142_At : Int) (x_1142_What : Int) (x_1142_Name : Str) (x_1142_Text : Str), (Cells w810 (p_1136.add (x_809.toNat * 7)) [.int .i64 x_1142_Kind, .int .i64 x_1142_ID, .int .i64 x_1142_Parent, .int .i64 x_1142_At, .int .i64 x_1142_What, .string (Bs x_1142_Name), .string (Bs x_1142_Text)]) ∧
∀ (w1161 : World) (B_1145 : Nat), New w810 B_1145 w1161 → Chg [] w810 w1161 →
∀ (w1178 : World) (B_1168 : Nat), Ext w1161 w1178 → w1161.heap.size ≤ B_1168 → Box w1178 B_1168 5 [.int .u8 (IntKind.u8.wrap x_1142_Kind)] → 
∀ (_ : Box w1178 B_1168 5 [.int .u8 (IntKind.u8.wrap x_1142_Kind)]),
RunK Try.prog (Builtin.append_ #[24, 24] 24 #[Sl.v b_808, Sl.v (Sl.mk (some ⟨B_1168, 0, none⟩) 1 1)]) w1178 [B_1145] (fun v w1201 => ∃ (r_1207 : Sl), v = Sl.v r_1207 ∧
∀ (w1212 : World), Chg [] w1201 w1212 →
∃ V_1222 : Sl → World → Prop, (∀ r_1221 : Sl, ∀ w' w'' : World, Ext w' w'' → V_1222 r_1221 w' → V_1222 r_1221 w'') ∧
(∀ w' : World, Ext w1212 w' → Calls Try.prog 23 #[Sl.v r_1207, .int .u64 (IntKind.u64.wrap x_1142_ID)] w' (Ret fun v w'' => Ext w' w'' ∧ ∃ r_1221 : Sl, v = Sl.v r_1221 ∧ V_1222 r_1221 w'')) ∧
∀ (w1229 : World) (r_1221 : Sl), Ext w1212 w1229 → V_1222 r_1221 w1229 → 
CallK Try.prog 25 #[.agg #[.int .i64 x_1142_Kind, .int .i64 x_1142_ID, .int .i64 x_1142_Parent, .int .i64 x_1142_At, .int .i64 x_1142_What, .string (Bs x_1142_Name), .string (Bs x_1142_Text)]] w1229 [B_1145] (fun v w1244 => ∃ (r_1242 : Sl), v = Sl.v r_1242 ∧
∃ (J_1257 : Sl → Int → World → Prop) (mu_1258 : Sl → Int → World → Nat),
J_1257 r_1221 0 w1244 ∧
(∀ (b_1254 : Sl) (x_1255 : Int) (w1256 : World), J_1257 b_1254 x_1255 w1256 →
((x_1255 < (r_1242.n : Int)) →
((0 : Int) ≤ x_1255 ∧ x_1255 < (r_1242.n : Int)) ∧ ∃ p_1305 : Addr, r_1242.a = some p_1305 ∧
∃ (x_1311 : Int), (w1256.cell? (p_1305.add (x_1255.toNat * 1)) = some (.int .i64 x_1311)) ∧
CallK Try.prog 23 #[Sl.v b_1254, .int .u64 (IntKind.u64.wrap x_1311)] w1256 [B_1145] (fun v w1321 => ∃ (r_1319 : Sl), v = Sl.v r_1319 ∧
(I64 (x_1255 + 1)) ∧
J_1257 r_1319 (x_1255 + 1) w1321 ∧ mu_1258 r_1319 (x_1255 + 1) w1321 < mu_1258 b_1254 x_1255 w1256)) ∧
((¬ (x_1255 < (r_1242.n : Int))) →
CallK Try.prog 21 #[.agg #[.int .i64 x_1142_Kind, .int .i64 x_1142_ID, .int .i64 x_1142_Parent, .int .i64 x_1142_At, .int .i64 x_1142_What, .string (Bs x_1142_Name), .string (Bs x_1142_Text)]] w1256 [B_1145] (fun v w1340 => ∃ (r_1338 : Sl), v = Sl.v r_1338 ∧
∃ (J_1353 : Sl → Int → World → Prop) (mu_1354 : Sl → Int → World → Nat),
J_1353 b_1254 0 w1340 ∧
(∀ (b_1350 : Sl) (x_1351 : Int) (w1352 : World), J_1353 b_1350 x_1351 w1352 →
((x_1351 < (r_1338.n : Int)) →
((0 : Int) ≤ x_1351 ∧ x_1351 < (r_1338.n : Int)) ∧ ∃ p_1403 : Addr, r_1338.a = some p_1403 ∧
∃ (x_1409 : Str), (w1352.cell? (p_1403.add (x_1351.toNat * 1)) = some (.string (Bs x_1409))) ∧
∃ (r_1418 : Int), ((Instr.lookup 45 (.map r_23) (.string (Bs x_1409)) false).run Try.prog w1352 = .ok (.int .i64 r_1418) w1352) ∧
CallK Try.prog 23 #[Sl.v b_1350, .int .u64 (IntKind.u64.wrap r_1418)] w1352 [] (fun v w1424 => ∃ (r_1422 : Sl), v = Sl.v r_1422 ∧
(I64 (x_1351 + 1)) ∧
J_1353 r_1422 (x_1351 + 1) w1424 ∧ mu_1354 r_1422 (x_1351 + 1) w1424 < mu_1354 b_1350 x_1351 w1352)) ∧
((¬ (x_1351 < (r_1338.n : Int))) →
(I64 (x_809 + 1)) ∧
J_811 b_1350 (x_809 + 1) w1352 ∧ mu_812 b_1350 (x_809 + 1) w1352 < mu_812 b_808 x_809 w810)))))))) ∧
((¬ (x_809 < (l_3.n : Int))) →
(I64 ((b_808.n : Int) + 4)) ∧
((65536 < ((b_808.n : Int) + 4)) →
R (.tuple #[Sl.v Sl.nil, .int .i64 2]) w810) ∧
((¬ (65536 < ((b_808.n : Int) + 4))) →
CallK Try.prog 26 #[Sl.v b_808] w810 [] (fun v w1463 => ∃ (r_1461 : Sl), v = Sl.v r_1461 ∧
RunK Try.prog (Builtin.append_ #[24, 24] 24 #[Sl.v b_808, Sl.v r_1461]) w1463 [] (fun v w1470 => ∃ (r_1476 : Sl), v = Sl.v r_1476 ∧
R (.tuple #[Sl.v r_1476, .int .i64 0]) w1470))))))))))))))))
set_option maxHeartbeats 1000000 in
set_option maxRecDepth 10000 in
theorem codec_Encode.ok (base_1 : Int) (target_2 : Int) (l_3 : Sl) {R : Value → World → Prop} {w : World} (ht0 : codec_Encode.vc base_1 target_2 l_3 R w) : Calls Try.prog 10 #[.int .u64 base_1, .int .u64 target_2, Sl.v l_3] w (Ret R) := by
  refine enter [.int .u64 base_1, .int .u64 target_2, Sl.v l_3] Try.func10 rfl Try.ntmps10 rfl ?_
  intro a0 hA0
  unfold codec_Encode.vc at ht0
  refine wp_seq ?_
  refine wp_region_lit ?_
  refine sq (opk_val hA0 rfl (r_assign rfl) fun a4 hA4 _ => ?_)
  refine sq (opk_val hA4 rfl (r_assign rfl) fun a5 hA5 _ => ?_)
  refine sq_end ?_
  have hA6 := hA5.keep [(0, .int .u64 base_1), (1, .int .u64 target_2), (2, Sl.v l_3)] ⟨rfl, rfl, rfl, trivial⟩
  refine then_normal ?_
  refine wp_seq ?_
  refine wp_seq ?_
  refine wp_region_lit ?_
  refine sq (opk_val hA6 rfl (r_move (hA6.get rfl)) fun a7 hA7 _ => ?_)
  refine sq (opk_val hA7 rfl (r_len (hA7.get rfl) Try.underlying23) fun a8 hA8 _ => ?_)
  refine sq (opk_val hA8 rfl (r_gtr (hA8.get rfl) rfl) fun a9 hA9 _ => ?_)
  refine sq_end ?_
  have hA10 := hA9.keep [(0, .int .u64 base_1), (1, .int .u64 target_2), (2, Sl.v l_3), (30, .bool (decide (1500 < (l_3.n : Int))))] ⟨rfl, rfl, rfl, rfl, trivial⟩
  refine then_normal ?_
  refine wp_cond_split (hA10.get rfl) (fun hc => ?_) (fun hc => ?_)
  · have ht11 := ht0.1 (of_decide_eq_true hc)
    clear hc
    refine wp_seq ?_
    refine wp_region_lit ?_
    refine sq (opk_val hA10 rfl (r_assign rfl) fun a13 hA13 _ => ?_)
    refine sq (opk_val hA13 rfl (r_assign rfl) fun a14 hA14 _ => ?_)
    refine sq_end ?_
    have hA15 := hA14.keep [(6, Sl.v Sl.nil), (7, .int .i64 2)] ⟨rfl, rfl, trivial⟩
    refine then_normal ?_
    refine wp_ret ?_
    refine then_ret ?_
    exact res_all (vs := [Sl.v Sl.nil, .int .i64 2]) rfl hA15 ⟨res_of_tmp hA15 rfl, res_of_tmp hA15 rfl, trivial⟩ ht11
  · have ht12 := ht0.2 (of_decide_eq_false hc)
    clear hc
    refine wp_skip ?_
    refine then_normal ?_
    refine wp_seq ?_
    refine wp_region_lit ?_
    refine sq (opk_run hA10 rfl (fun _ _ hr => r_makeMap hr) ht12 fun a16 v22 w17 hA16 _ hn19 hz20 hK21 => ?_)
    obtain ⟨r_23, rfl, ht18⟩ := hK21
    refine sq (opk_val hA16 rfl (r_assign (hA16.get rfl)) fun a24 hA24 _ => ?_)
    refine sq_end ?_
    have hA25 := hA24.keep [(0, .int .u64 base_1), (1, .int .u64 target_2), (2, Sl.v l_3), (8, .map r_23)] ⟨rfl, rfl, rfl, rfl, trivial⟩
    refine then_normal ?_
    refine wp_seq ?_
    refine wp_region_lit ?_
    refine sq (opk_val hA25 rfl (r_assign rfl) fun a26 hA26 _ => ?_)
    refine sq_end ?_
    have hA27 := hA26.keep [(0, .int .u64 base_1), (1, .int .u64 target_2), (2, Sl.v l_3), (8, .map r_23), (9, Sl.v Sl.nil)] ⟨rfl, rfl, rfl, rfl, rfl, trivial⟩
    refine then_normal ?_
    refine wp_seq ?_
    refine wp_seq ?_
    refine wp_region_lit ?_
    refine sq (opk_val hA27 rfl (r_move (hA27.get rfl)) fun a28 hA28 _ => ?_)
    refine sq (opk_val hA28 rfl (r_len (hA28.get rfl) Try.underlying23) fun a29 hA29 _ => ?_)
    refine sq (opk_val hA29 rfl (r_move rfl) fun a30 hA30 _ => ?_)
    refine sq_end ?_
    have hA31 := hA30.keep [(0, .int .u64 base_1), (1, .int .u64 target_2), (2, Sl.v l_3), (8, .map r_23), (9, Sl.v Sl.nil), (32, Sl.v l_3), (33, .int .i64 (l_3.n : Int)), (34, .int .i64 0)] ⟨rfl, rfl, rfl, rfl, rfl, rfl, rfl, rfl, trivial⟩
    refine then_normal ?_
    refine wp_block ?_
    obtain ⟨J_35, mu_36, h0279, ht278⟩ := ht18
    refine wp_loop_st (σ := Sl × Int × World) (fun s a w => Ag 167 a [(0, .int .u64 base_1), (1, .int .u64 target_2), (2, Sl.v l_3), (8, .map r_23), (9, Sl.v s.1), (32, Sl.v l_3), (33, .int .i64 (l_3.n : Int)), (34, .int .i64 s.2.1)] ∧ w = s.2.2 ∧ J_35 s.1 s.2.1 s.2.2) (fun s => mu_36 s.1 s.2.1 s.2.2) (Sl.nil, 0, w17) ⟨hA31.keep [(0, .int .u64 base_1), (1, .int .u64 target_2), (2, Sl.v l_3), (8, .map r_23), (9, Sl.v Sl.nil), (32, Sl.v l_3), (33, .int .i64 (l_3.n : Int)), (34, .int .i64 0)] ⟨rfl, rfl, rfl, rfl, rfl, rfl, rfl, rfl, trivial⟩, rfl, h0279⟩ ?_
    rintro ⟨all_32, x_33, w34⟩ a277 w_ ⟨hA277, hw_, hJ281⟩
    have hw_ : w34 = w_ := hw_.symm
    subst hw_
    have ht280 := ht278 all_32 x_33 _ hJ281
    refine wp_seq ?_
    refine wp_region_lit ?_
    refine sq (opk_val hA277 rfl (r_lss (hA277.get rfl) (hA277.get rfl)) fun a282 hA282 _ => ?_)
    refine sq_end ?_
    have hA283 := hA282.keep [(0, .int .u64 base_1), (1, .int .u64 target_2), (2, Sl.v l_3), (8, .map r_23), (9, Sl.v all_32), (32, Sl.v l_3), (33, .int .i64 (l_3.n : Int)), (34, .int .i64 x_33), (35, .bool (decide (x_33 < (l_3.n : Int))))] ⟨rfl, rfl, rfl, rfl, rfl, rfl, rfl, rfl, rfl, trivial⟩
    refine then_normal ?_
    refine wp_seq ?_
    refine wp_cond_split (hA283.get rfl) (fun hc => ?_) (fun hc => ?_)
    · have ht284 := ht280.1 (of_decide_eq_true hc)
      clear hc
      refine wp_skip ?_
      refine then_normal ?_
      refine wp_seq ?_
      refine wp_block ?_
      refine wp_seq ?_
      refine wp_region_lit ?_
      obtain ⟨hb287, p_286, hp288, ht289⟩ := ht284
      refine sq (opk_val hA283 rfl (r_indexAddr (hA283.get rfl) (hA283.get rfl) Try.underlying23 ti_42 hb287 hp288) fun a290 hA290 _ => ?_)
      obtain ⟨x_292_Kind, x_292_ID, x_292_Parent, x_292_At, x_292_What, x_292_Name, x_292_Text, hx293, ht294⟩ := ht289
      refine sq (opk_val hA290 rfl (r_loadN Try.underlying42 rfl ti_42 (hA290.get rfl) hx293) fun a291 hA291 _ => ?_)
      refine sq (opk_new (fun B => .pointer (some ⟨B, 0, none⟩)) hA291 rfl (r_alloc (cs := [.int .i64 0, .int .i64 0, .int .i64 0, .int .i64 0, .int .i64 0, .string (Bs ([] : Str)), .string (Bs ([] : Str))]) ti_42 rfl) fun a297 w296 B_295 hE298 hN299 hB300 hA297 _ => ?_)
      have hN301 : New w34 B_295 w296 := hN299
      have hC302 : Chg [] w34 w296 := hE298
      refine sq (opk_store hA297 hB300 (r_store (vs := [.int .i64 x_292_Kind, .int .i64 x_292_ID, .int .i64 x_292_Parent, .int .i64 x_292_At, .int .i64 x_292_What, .string (Bs x_292_Name), .string (Bs x_292_Text)]) (hA297.get rfl) (hA297.get rfl) rfl ti_42 hB300 rfl (ones_all [.int .i64 x_292_Kind, .int .i64 x_292_ID, .int .i64 x_292_Parent, .int .i64 x_292_At, .int .i64 x_292_What, .string (Bs x_292_Name), .string (Bs x_292_Text)] rfl)) fun a304 w303 hS305 hB306 hA304 => ?_)
      have hB307 : Box w303 B_295 42 [.int .i64 x_292_Kind, .int .i64 x_292_ID, .int .i64 x_292_Parent, .int .i64 x_292_At, .int .i64 x_292_What, .string (Bs x_292_Name), .string (Bs x_292_Text)] := hB306
      have hC308 := hC302.storeNew hN301 hS305
      have hN309 := hN301.up hS305.size
      refine sq_end ?_
      have hA310 := hA304.keep [(0, .int .u64 base_1), (1, .int .u64 target_2), (2, Sl.v l_3), (8, .map r_23), (9, Sl.v all_32), (11, .pointer (some (⟨B_295, 0, none⟩ : Addr))), (32, Sl.v l_3), (33, .int .i64 (l_3.n : Int)), (34, .int .i64 x_33)] ⟨rfl, rfl, rfl, rfl, rfl, rfl, rfl, rfl, rfl, trivial⟩
      refine then_normal ?_
      refine wp_seq ?_
      refine wp_seq ?_
      refine wp_region_lit ?_
      refine sq (opk_val hA310 rfl (r_loadN (cs := [.int .i64 x_292_Kind, .int .i64 x_292_ID, .int .i64 x_292_Parent, .int .i64 x_292_At, .int .i64 x_292_What, .string (Bs x_292_Name), .string (Bs x_292_Text)]) Try.underlying42 rfl ti_42 (hA310.get rfl) (hB307.part 0 _ rfl)) fun a311 hA311 _ => ?_)
      have ht312 := ht294 w303 B_295 hN309  hC308
      refine sq (opk_call hA311 rfl (r_call (args := #[.agg #[.int .i64 x_292_Kind, .int .i64 x_292_ID, .int .i64 x_292_Parent, .int .i64 x_292_At, .int .i64 x_292_What, .string (Bs x_292_Name), .string (Bs x_292_Text)]]) Try.func20 (by decide) rfl (map_arr (ml_cons (hA311.get rfl) ml_nil)) rfl) ht312 fun a314 v320 w315 hA314 _ hn317 hz318 hK319 => ?_)
      obtain ⟨r_313, rfl, ht316⟩ := hK319
      have hB321 := hB307.kept hn317 (.head _)
      refine sq (opk_val hA314 rfl (r_not (hA314.get rfl)) fun a322 hA322 _ => ?_)
      refine sq (opk_val hA322 rfl (r_move (hA322.get rfl)) fun a323 hA323 _ => ?_)
      refine sq (opk_gval hA323 rfl rfl (g := true) (e := (!r_313)) rfl (fun hg => r_fieldAddr (hA323.get rfl) Try.underlying42 rfl ti_3 (by decide)) fun a324 hA324 _ => ?_)
      refine sq (opk_gval hA324 rfl rfl (g := true) (e := (!r_313)) rfl (fun hg => r_load1 Try.underlying3 rfl (cv_get (hA324.get rfl) hg) (hB321.cell 2 _ rfl)) fun a325 hA325 _ => ?_)
      refine sq (opk_gval hA325 rfl rfl (g := true) (e := (!r_313)) rfl (fun hg => r_lss (cv_get (hA325.get rfl) hg) rfl) fun a326 hA326 _ => ?_)
      refine sq (opk_val hA326 rfl (r_pick_or (g := (true && ((!r_313) == false))) (hA326.get rfl) (hA326.get rfl) (fun he => g_mkf rfl he)) fun a327 hA327 _ => ?_)
      refine sq (opk_val hA327 rfl (r_move (hA327.get rfl)) fun a328 hA328 _ => ?_)
      refine sq (opk_gval hA328 rfl rfl (g := true) (e := ((!r_313) || (decide (x_292_Parent < 0)))) rfl (fun hg => r_fieldAddr (hA328.get rfl) Try.underlying42 rfl ti_3 (by decide)) fun a329 hA329 _ => ?_)
      refine sq (opk_gval hA329 rfl rfl (g := true) (e := ((!r_313) || (decide (x_292_Parent < 0)))) rfl (fun hg => r_load1 Try.underlying3 rfl (cv_get (hA329.get rfl) hg) (hB321.cell 3 _ rfl)) fun a330 hA330 _ => ?_)
      refine sq (opk_gval hA330 rfl rfl (g := true) (e := ((!r_313) || (decide (x_292_Parent < 0)))) rfl (fun hg => r_lss (cv_get (hA330.get rfl) hg) rfl) fun a331 hA331 _ => ?_)
      refine sq (opk_val hA331 rfl (r_pick_or (g := (true && (((!r_313) || (decide (x_292_Parent < 0))) == false))) (hA331.get rfl) (hA331.get rfl) (fun he => g_mkf rfl he)) fun a332 hA332 _ => ?_)
      refine sq_end ?_
      have hA333 := hA332.keep [(0, .int .u64 base_1), (1, .int .u64 target_2), (2, Sl.v l_3), (8, .map r_23), (9, Sl.v all_32), (11, .pointer (some (⟨B_295, 0, none⟩ : Addr))), (32, Sl.v l_3), (33, .int .i64 (l_3.n : Int)), (34, .int .i64 x_33), (50, .bool (((!r_313) || (decide (x_292_Parent < 0))) || (decide (x_292_At < 0))))] ⟨rfl, rfl, rfl, rfl, rfl, rfl, rfl, rfl, rfl, rfl, trivial⟩
      refine then_normal ?_
      refine wp_cond_split (hA333.get rfl) (fun hc => ?_) (fun hc => ?_)
      · have ht334 := ht316.1 ((b_or_t hc).imp (fun h => ((b_or_t h).imp (fun h => (b_not_t h)) (fun h => (of_decide_eq_true h)))) (fun h => (of_decide_eq_true h)))
        clear hc
        refine wp_seq ?_
        refine wp_region_lit ?_
        refine sq (opk_val hA333 rfl (r_assign rfl) fun a336 hA336 _ => ?_)
        refine sq (opk_val hA336 rfl (r_assign rfl) fun a337 hA337 _ => ?_)
        refine sq_end ?_
        have hA338 := hA337.keep [(6, Sl.v Sl.nil), (7, .int .i64 15)] ⟨rfl, rfl, trivial⟩
        refine then_normal ?_
        refine wp_ret ?_
        refine then_ret ?_
        refine block_ret ?_
        refine then_ret ?_
        refine then_ret ?_
        refine block_ret ?_
        refine then_ret ?_
        exact res_all (vs := [Sl.v Sl.nil, .int .i64 15]) rfl hA338 ⟨res_of_tmp hA338 rfl, res_of_tmp hA338 rfl, trivial⟩ ht334
      · have ht335 := ht316.2 ⟨⟨(b_not_f (b_or_f (b_or_f hc).1).1), (of_decide_eq_false (b_or_f (b_or_f hc).1).2)⟩, (of_decide_eq_false (b_or_f hc).2)⟩
        clear hc
        refine wp_skip ?_
        refine then_normal ?_
        refine wp_seq ?_
        refine wp_region_lit ?_
        refine sq (opk_val hA333 rfl (r_loadN (cs := [.int .i64 x_292_Kind, .int .i64 x_292_ID, .int .i64 x_292_Parent, .int .i64 x_292_At, .int .i64 x_292_What, .string (Bs x_292_Name), .string (Bs x_292_Text)]) Try.underlying42 rfl ti_42 (hA333.get rfl) (hB321.part 0 _ rfl)) fun a339 hA339 _ => ?_)
        refine sq (opk_call hA339 rfl (r_call (args := #[.agg #[.int .i64 x_292_Kind, .int .i64 x_292_ID, .int .i64 x_292_Parent, .int .i64 x_292_At, .int .i64 x_292_What, .string (Bs x_292_Name), .string (Bs x_292_Text)]]) Try.func21 (by decide) rfl (map_arr (ml_cons (hA339.get rfl) ml_nil)) rfl) ht335 fun a341 v347 w342 hA341 _ hn344 hz345 hK346 => ?_)
        obtain ⟨r_340, rfl, ht343⟩ := hK346
        have hB348 := hB321.kept hn344 (.head _)
        refine sq (opk_val hA341 rfl (r_len (hA341.get rfl) Try.underlying46) fun a349 hA349 _ => ?_)
        refine sq (opk_val hA349 rfl (r_move rfl) fun a350 hA350 _ => ?_)
        refine sq_end ?_
        have hA351 := hA350.keep [(0, .int .u64 base_1), (1, .int .u64 target_2), (2, Sl.v l_3), (8, .map r_23), (9, Sl.v all_32), (32, Sl.v l_3), (33, .int .i64 (l_3.n : Int)), (34, .int .i64 x_33), (52, Sl.v r_340), (53, .int .i64 (r_340.n : Int)), (54, .int .i64 0)] ⟨rfl, rfl, rfl, rfl, rfl, rfl, rfl, rfl, rfl, rfl, rfl, trivial⟩
        refine then_normal ?_
        refine wp_block ?_
        obtain ⟨J_355, mu_356, h0435, ht434⟩ := ht343
        refine wp_loop_st (σ := Sl × Int × World) (fun s a w => Ag 167 a [(0, .int .u64 base_1), (1, .int .u64 target_2), (2, Sl.v l_3), (8, .map r_23), (9, Sl.v s.1), (32, Sl.v l_3), (33, .int .i64 (l_3.n : Int)), (34, .int .i64 x_33), (52, Sl.v r_340), (53, .int .i64 (r_340.n : Int)), (54, .int .i64 s.2.1)] ∧ w = s.2.2 ∧ J_355 s.1 s.2.1 s.2.2) (fun s => mu_356 s.1 s.2.1 s.2.2) (all_32, 0, w342) ⟨hA351.keep [(0, .int .u64 base_1), (1, .int .u64 target_2), (2, Sl.v l_3), (8, .map r_23), (9, Sl.v all_32), (32, Sl.v l_3), (33, .int .i64 (l_3.n : Int)), (34, .int .i64 x_33), (52, Sl.v r_340), (53, .int .i64 (r_340.n : Int)), (54, .int .i64 0)] ⟨rfl, rfl, rfl, rfl, rfl, rfl, rfl, rfl, rfl, rfl, rfl, trivial⟩, rfl, h0435⟩ ?_
        rintro ⟨all_352, x_353, w354⟩ a433 w_ ⟨hA433, hw_, hJ437⟩
        have hw_ : w354 = w_ := hw_.symm
        subst hw_
        have ht436 := ht434 all_352 x_353 _ hJ437
        refine wp_seq ?_
        refine wp_region_lit ?_
        refine sq (opk_val hA433 rfl (r_lss (hA433.get rfl) (hA433.get rfl)) fun a438 hA438 _ => ?_)
        refine sq_end ?_
        have hA439 := hA438.keep [(0, .int .u64 base_1), (1, .int .u64 target_2), (2, Sl.v l_3), (8, .map r_23), (9, Sl.v all_352), (32, Sl.v l_3), (33, .int .i64 (l_3.n : Int)), (34, .int .i64 x_33), (52, Sl.v r_340), (53, .int .i64 (r_340.n : Int)), (54, .int .i64 x_353), (55, .bool (decide (x_353 < (r_340.n : Int))))] ⟨rfl, rfl, rfl, rfl, rfl, rfl, rfl, rfl, rfl, rfl, rfl, rfl, trivial⟩
        refine then_normal ?_
        refine wp_seq ?_
        refine wp_cond_split (hA439.get rfl) (fun hc => ?_) (fun hc => ?_)
        · have ht440 := ht436.1 (of_decide_eq_true hc)
          clear hc
          refine wp_skip ?_
          refine then_normal ?_
          refine wp_seq ?_
          refine wp_block ?_
          refine wp_seq ?_
          refine wp_region_lit ?_
          obtain ⟨hb443, p_442, hp444, ht445⟩ := ht440
          refine sq (opk_val hA439 rfl (r_indexAddr (hA439.get rfl) (hA439.get rfl) Try.underlying46 ti_9 hb443 hp444) fun a446 hA446 _ => ?_)
          obtain ⟨x_448, hx449, ht450⟩ := ht445
          refine sq (opk_val hA446 rfl (r_load1 Try.underlying9 rfl (hA446.get rfl) hx449) fun a447 hA447 _ => ?_)
          refine sq (opk_val hA447 rfl (r_assign (hA447.get rfl)) fun a451 hA451 _ => ?_)
          refine sq_end ?_
          have hA452 := hA451.keep [(0, .int .u64 base_1), (1, .int .u64 target_2), (2, Sl.v l_3), (8, .map r_23), (9, Sl.v all_352), (13, .string (Bs x_448)), (32, Sl.v l_3), (33, .int .i64 (l_3.n : Int)), (34, .int .i64 x_33), (52, Sl.v r_340), (53, .int .i64 (r_340.n : Int)), (54, .int .i64 x_353)] ⟨rfl, rfl, rfl, rfl, rfl, rfl, rfl, rfl, rfl, rfl, rfl, rfl, trivial⟩
          refine then_normal ?_
          refine wp_seq ?_
          refine wp_region_lit ?_
          refine sq (opk_val hA452 rfl (r_move (hA452.get rfl)) fun a453 hA453 _ => ?_)
          refine sq (opk_val hA453 rfl (r_move (hA453.get rfl)) fun a454 hA454 _ => ?_)
          obtain ⟨r_0_456, r_1_457, hx458, ht459⟩ := ht450
          refine sq (opk_val hA454 rfl (r_lookup (hA454.get rfl) (hA454.get rfl) hx458) fun a455 hA455 _ => ?_)
          refine sq (opk_val hA455 rfl (r_move (hA455.get rfl)) fun a460 hA460 _ => ?_)
          refine sq (opk_val hA460 rfl (r_extract (hA460.get rfl) rfl) fun a461 hA461 _ => ?_)
          refine sq (opk_val hA461 rfl (r_extract (hA461.get rfl) rfl) fun a462 hA462 _ => ?_)
          refine sq (opk_val hA462 rfl (r_assign (hA462.get rfl)) fun a463 hA463 _ => ?_)
          refine sq (opk_val hA463 rfl (r_assign (hA463.get rfl)) fun a464 hA464 _ => ?_)
          refine sq_end ?_
          have hA465 := hA464.keep [(0, .int .u64 base_1), (1, .int .u64 target_2), (2, Sl.v l_3), (8, .map r_23), (9, Sl.v all_352), (13, .string (Bs x_448)), (15, .bool r_1_457), (32, Sl.v l_3), (33, .int .i64 (l_3.n : Int)), (34, .int .i64 x_33), (52, Sl.v r_340), (53, .int .i64 (r_340.n : Int)), (54, .int .i64 x_353)] ⟨rfl, rfl, rfl, rfl, rfl, rfl, rfl, rfl, rfl, rfl, rfl, rfl, rfl, trivial⟩
          refine then_normal ?_
          refine wp_seq ?_
          refine wp_region_lit ?_
          refine sq (opk_val hA465 rfl (r_move (hA465.get rfl)) fun a466 hA466 _ => ?_)
          refine sq (opk_val hA466 rfl (r_not (hA466.get rfl)) fun a467 hA467 _ => ?_)
          refine sq_end ?_
          have hA468 := hA467.keep [(0, .int .u64 base_1), (1, .int .u64 target_2), (2, Sl.v l_3), (8, .map r_23), (9, Sl.v all_352), (13, .string (Bs x_448)), (32, Sl.v l_3), (33, .int .i64 (l_3.n : Int)), (34, .int .i64 x_33), (52, Sl.v r_340), (53, .int .i64 (r_340.n : Int)), (54, .int .i64 x_353), (65, .bool (!r_1_457))] ⟨rfl, rfl, rfl, rfl, rfl, rfl, rfl, rfl, rfl, rfl, rfl, rfl, rfl, trivial⟩
          refine then_normal ?_
          refine wp_cond_split (hA468.get rfl) (fun hc => ?_) (fun hc => ?_)
          · have ht469 := ht459.1 (b_not_t hc)
            clear hc
            refine wp_seq ?_
            refine wp_region_lit ?_
            refine sq (opk_val hA468 rfl (r_move (hA468.get rfl)) fun a471 hA471 _ => ?_)
            refine sq (opk_val hA471 rfl (r_move (hA471.get rfl)) fun a472 hA472 _ => ?_)
            refine sq (opk_val hA472 rfl (r_move (hA472.get rfl)) fun a473 hA473 _ => ?_)
            refine sq (opk_val hA473 rfl (r_len (hA473.get rfl) Try.underlying46) fun a474 hA474 _ => ?_)
            refine sq (opk_runU hA474 (fun _ hr => r_mapUpdate (hA474.get rfl) (hA474.get rfl) (hA474.get rfl) hr) ht469 fun a475 w476 hA475 hn478 hz479 ht477 => ?_)
            refine sq_end ?_
            have hA480 := hA475.keep [(0, .int .u64 base_1), (1, .int .u64 target_2), (2, Sl.v l_3), (8, .map r_23), (9, Sl.v all_352), (13, .string (Bs x_448)), (32, Sl.v l_3), (33, .int .i64 (l_3.n : Int)), (34, .int .i64 x_33), (52, Sl.v r_340), (53, .int .i64 (r_340.n : Int)), (54, .int .i64 x_353)] ⟨rfl, rfl, rfl, rfl, rfl, rfl, rfl, rfl, rfl, rfl, rfl, rfl, trivial⟩
            refine then_normal ?_
            refine wp_region_lit ?_
            refine sq (opk_val hA480 rfl (r_move (hA480.get rfl)) fun a481 hA481 _ => ?_)
            refine sq (opk_val hA481 rfl (r_move (hA481.get rfl)) fun a482 hA482 _ => ?_)
            refine sq (opk_new (fun B => .slice (some ⟨B, 0, none⟩) 1 1) hA482 rfl (r_buildSlice (vs := #[(0, .string (Bs x_448))]) (cs := [.string (Bs x_448)]) (map_arr2 (ml2_cons (hA482.get rfl) (ml2_nil))) Try.underlying46 ti_9 rfl rfl (by kernel_rfl)) fun a485 w484 B_483 hE486 hN487 hB488 hA485 _ => ?_)
            have hN489 : New w476 B_483 w484 := hN487
            have hC490 : Chg [] w476 w484 := hE486
            have ht491 := ht477 w484 B_483 hN489  hC490
            have ht492 := ht491 hB488
            refine sq (opk_run hA485 rfl (fun _ _ hr => r_append (hA485.get rfl) (hA485.get rfl) hr) ht492 fun a493 v499 w494 hA493 _ hn496 hz497 hK498 => ?_)
            obtain ⟨r_500, rfl, ht495⟩ := hK498
            refine sq (opk_val hA493 rfl (r_assign (hA493.get rfl)) fun a501 hA501 _ => ?_)
            refine sq_end ?_
            have hA502 := hA501.keep [(0, .int .u64 base_1), (1, .int .u64 target_2), (2, Sl.v l_3), (8, .map r_23), (9, Sl.v r_500), (32, Sl.v l_3), (33, .int .i64 (l_3.n : Int)), (34, .int .i64 x_33), (52, Sl.v r_340), (53, .int .i64 (r_340.n : Int)), (54, .int .i64 x_353)] ⟨rfl, rfl, rfl, rfl, rfl, rfl, rfl, rfl, rfl, rfl, rfl, trivial⟩
            refine block_normal ?_
            refine then_normal ?_
            refine wp_region_lit ?_
            obtain ⟨hS504, ht505⟩ := ht495
            refine sq (opk_val hA502 rfl (r_addI (hA502.get rfl) rfl hS504) fun a503 hA503 _ => ?_)
            refine sq (opk_val hA503 rfl (r_move (hA503.get rfl)) fun a506 hA506 _ => ?_)
            refine sq_end ?_
            have hA507 := hA506.keep [(0, .int .u64 base_1), (1, .int .u64 target_2), (2, Sl.v l_3), (8, .map r_23), (9, Sl.v r_500), (32, Sl.v l_3), (33, .int .i64 (l_3.n : Int)), (34, .int .i64 x_33), (52, Sl.v r_340), (53, .int .i64 (r_340.n : Int)), (54, .int .i64 (x_353 + 1))] ⟨rfl, rfl, rfl, rfl, rfl, rfl, rfl, rfl, rfl, rfl, rfl, trivial⟩
            have hA508 := hA507.keep [(0, .int .u64 base_1), (1, .int .u64 target_2), (2, Sl.v l_3), (8, .map r_23), (9, Sl.v r_500), (32, Sl.v l_3), (33, .int .i64 (l_3.n : Int)), (34, .int .i64 x_33), (52, Sl.v r_340), (53, .int .i64 (r_340.n : Int)), (54, .int .i64 (x_353 + 1))] ⟨rfl, rfl, rfl, rfl, rfl, rfl, rfl, rfl, rfl, rfl, rfl, trivial⟩
            exact then_normal ⟨(r_500, x_353 + 1, w494), ⟨hA508, rfl, ht505.1⟩, ht505.2⟩
          · have ht470 := ht459.2 (b_not_f hc)
            clear hc
            refine wp_skip ?_
            refine block_normal ?_
            refine then_normal ?_
            refine wp_region_lit ?_
            obtain ⟨hS510, ht511⟩ := ht470
            refine sq (opk_val hA468 rfl (r_addI (hA468.get rfl) rfl hS510) fun a509 hA509 _ => ?_)
            refine sq (opk_val hA509 rfl (r_move (hA509.get rfl)) fun a512 hA512 _ => ?_)
            refine sq_end ?_
            have hA513 := hA512.keep [(0, .int .u64 base_1), (1, .int .u64 target_2), (2, Sl.v l_3), (8, .map r_23), (9, Sl.v all_352), (32, Sl.v l_3), (33, .int .i64 (l_3.n : Int)), (34, .int .i64 x_33), (52, Sl.v r_340), (53, .int .i64 (r_340.n : Int)), (54, .int .i64 (x_353 + 1))] ⟨rfl, rfl, rfl, rfl, rfl, rfl, rfl, rfl, rfl, rfl, rfl, trivial⟩
            have hA514 := hA513.keep [(0, .int .u64 base_1), (1, .int .u64 target_2), (2, Sl.v l_3), (8, .map r_23), (9, Sl.v all_352), (32, Sl.v l_3), (33, .int .i64 (l_3.n : Int)), (34, .int .i64 x_33), (52, Sl.v r_340), (53, .int .i64 (r_340.n : Int)), (54, .int .i64 (x_353 + 1))] ⟨rfl, rfl, rfl, rfl, rfl, rfl, rfl, rfl, rfl, rfl, rfl, trivial⟩
            exact then_normal ⟨(all_352, x_353 + 1, w354), ⟨hA514, rfl, ht511.1⟩, ht511.2⟩
        · have ht441 := ht436.2 (of_decide_eq_false hc)
          clear hc
          refine wp_exit ?_
          refine then_exit ?_
          refine then_exit ?_
          refine block_hit ?_
          have hA515 := hA439.keep [(0, .int .u64 base_1), (1, .int .u64 target_2), (2, Sl.v l_3), (8, .map r_23), (9, Sl.v all_352), (32, Sl.v l_3), (33, .int .i64 (l_3.n : Int)), (34, .int .i64 x_33)] ⟨rfl, rfl, rfl, rfl, rfl, rfl, rfl, rfl, trivial⟩
          refine block_normal ?_
          refine then_normal ?_
          refine wp_region_lit ?_
          obtain ⟨hS517, ht518⟩ := ht441
          refine sq (opk_val hA515 rfl (r_addI (hA515.get rfl) rfl hS517) fun a516 hA516 _ => ?_)
          refine sq (opk_val hA516 rfl (r_move (hA516.get rfl)) fun a519 hA519 _ => ?_)
          refine sq_end ?_
          have hA520 := hA519.keep [(0, .int .u64 base_1), (1, .int .u64 target_2), (2, Sl.v l_3), (8, .map r_23), (9, Sl.v all_352), (32, Sl.v l_3), (33, .int .i64 (l_3.n : Int)), (34, .int .i64 (x_33 + 1))] ⟨rfl, rfl, rfl, rfl, rfl, rfl, rfl, rfl, trivial⟩
          have hA521 := hA520.keep [(0, .int .u64 base_1), (1, .int .u64 target_2), (2, Sl.v l_3), (8, .map r_23), (9, Sl.v all_352), (32, Sl.v l_3), (33, .int .i64 (l_3.n : Int)), (34, .int .i64 (x_33 + 1))] ⟨rfl, rfl, rfl, rfl, rfl, rfl, rfl, rfl, trivial⟩
          exact then_normal ⟨(all_352, x_33 + 1, w354), ⟨hA521, rfl, ht518.1⟩, ht518.2⟩
    · have ht285 := ht280.2 (of_decide_eq_false hc)
      clear hc
      refine wp_exit ?_
      refine then_exit ?_
      refine then_exit ?_
      refine block_hit ?_
      have hA522 := hA283.keep [(0, .int .u64 base_1), (1, .int .u64 target_2), (2, Sl.v l_3), (8, .map r_23), (9, Sl.v all_32)] ⟨rfl, rfl, rfl, rfl, rfl, trivial⟩
      refine then_normal ?_
      refine wp_seq ?_
      refine wp_region_lit ?_
      refine sq (opk_new (fun B => .slice (some ⟨B, 0, none⟩) 4 4) hA522 rfl (r_buildSlice (vs := #[(0, .int .u8 116), (1, .int .u8 112), (2, .int .u8 121), (3, .int .u8 49)]) (cs := [.int .u8 116, .int .u8 112, .int .u8 121, .int .u8 49]) (map_arr2 (ml2_cons rfl (ml2_cons rfl (ml2_cons rfl (ml2_cons rfl (ml2_nil)))))) Try.underlying24 ti_5 rfl rfl (by kernel_rfl)) fun a525 w524 B_523 hE526 hN527 hB528 hA525 _ => ?_)
      have hN529 : New w34 B_523 w524 := hN527
      have hC530 : Chg [] w34 w524 := hE526
      have ht531 := ht285 w524 B_523 hN529  hC530
      have ht532 := ht531 hB528
      refine sq (opk_run hA525 rfl (fun _ _ hr => r_convR (hA525.get rfl) hr) ht532 fun a533 v539 w534 hA533 _ hn536 hz537 hK538 => ?_)
      obtain ⟨r_540, rfl, ht535⟩ := hK538
      refine sq (opk_val hA533 rfl (r_assign (hA533.get rfl)) fun a541 hA541 _ => ?_)
      refine sq_end ?_
      have hA542 := hA541.keep [(0, .int .u64 base_1), (1, .int .u64 target_2), (2, Sl.v l_3), (8, .map r_23), (9, Sl.v all_32), (16, Sl.v r_540)] ⟨rfl, rfl, rfl, rfl, rfl, rfl, trivial⟩
      refine then_normal ?_
      refine wp_seq ?_
      refine wp_seq ?_
      refine wp_region_lit ?_
      refine sq (opk_val hA542 rfl (r_move (hA542.get rfl)) fun a543 hA543 _ => ?_)
      refine sq (opk_val hA543 rfl (r_move (hA543.get rfl)) fun a544 hA544 _ => ?_)
      refine sq (opk_val hA544 rfl (r_buildA (vs := #[(0, .int .u64 base_1), (1, .int .u64 target_2)]) (cells := #[.int .u64 base_1, .int .u64 target_2]) (map_arr2 (ml2_cons (hA544.get rfl) (ml2_cons (hA544.get rfl) (ml2_nil)))) ti_50 Try.underlying50 ti_22 (by kernel_rfl)) fun a545 hA545 _ => ?_)
      refine sq (opk_val hA545 rfl (r_move rfl) fun a546 hA546 _ => ?_)
      refine sq_end ?_
      have hA547 := hA546.keep [(2, Sl.v l_3), (8, .map r_23), (9, Sl.v all_32), (16, Sl.v r_540), (80, .agg #[.int .u64 base_1, .int .u64 target_2]), (81, .int .i64 0)] ⟨rfl, rfl, rfl, rfl, rfl, rfl, trivial⟩
      refine then_normal ?_
      refine wp_block ?_
      obtain ⟨J_551, mu_552, h0609, ht608⟩ := ht535
      refine wp_loop_st (σ := Sl × Int × World) (fun s a w => Ag 167 a [(2, Sl.v l_3), (8, .map r_23), (9, Sl.v all_32), (16, Sl.v s.1), (80, .agg #[.int .u64 base_1, .int .u64 target_2]), (81, .int .i64 s.2.1)] ∧ w = s.2.2 ∧ J_551 s.1 s.2.1 s.2.2) (fun s => mu_552 s.1 s.2.1 s.2.2) (r_540, 0, w534) ⟨hA547.keep [(2, Sl.v l_3), (8, .map r_23), (9, Sl.v all_32), (16, Sl.v r_540), (80, .agg #[.int .u64 base_1, .int .u64 target_2]), (81, .int .i64 0)] ⟨rfl, rfl, rfl, rfl, rfl, rfl, trivial⟩, rfl, h0609⟩ ?_
      rintro ⟨b_548, x_549, w550⟩ a607 w_ ⟨hA607, hw_, hJ611⟩
      have hw_ : w550 = w_ := hw_.symm
      subst hw_
      have ht610 := ht608 b_548 x_549 _ hJ611
      refine wp_seq ?_
      refine wp_region_lit ?_
      refine sq (opk_val hA607 rfl (r_lss (hA607.get rfl) rfl) fun a612 hA612 _ => ?_)
      refine sq_end ?_
      have hA613 := hA612.keep [(2, Sl.v l_3), (8, .map r_23), (9, Sl.v all_32), (16, Sl.v b_548), (80, .agg #[.int .u64 base_1, .int .u64 target_2]), (81, .int .i64 x_549), (82, .bool (decide (x_549 < 2)))] ⟨rfl, rfl, rfl, rfl, rfl, rfl, rfl, trivial⟩
      refine then_normal ?_
      refine wp_seq ?_
      refine wp_cond_split (hA613.get rfl) (fun hc => ?_) (fun hc => ?_)
      · have ht614 := ht610.1 (of_decide_eq_true hc)
        clear hc
        refine wp_skip ?_
        refine then_normal ?_
        refine wp_seq ?_
        refine wp_block ?_
        refine wp_seq ?_
        refine wp_region_lit ?_
        obtain ⟨hS617, ht618⟩ := ht614
        refine sq (opk_val hA613 rfl (r_aindexI (l := ([base_1, target_2] : List Int)) (hA613.get rfl) rfl (hA613.get rfl) Try.underlying50 Try.underlying22 ti_22 rfl hS617) fun a616 hA616 _ => ?_)
        refine sq (opk_val hA616 rfl (r_assign (hA616.get rfl)) fun a619 hA619 _ => ?_)
        refine sq_end ?_
        have hA620 := hA619.keep [(2, Sl.v l_3), (8, .map r_23), (9, Sl.v all_32), (16, Sl.v b_548), (18, .int .u64 (([base_1, target_2] : List Int).getD x_549.toNat 0)), (80, .agg #[.int .u64 base_1, .int .u64 target_2]), (81, .int .i64 x_549)] ⟨rfl, rfl, rfl, rfl, rfl, rfl, rfl, trivial⟩
        refine then_normal ?_
        refine wp_seq ?_
        refine wp_region_lit ?_
        refine sq (opk_val hA620 rfl (r_move (hA620.get rfl)) fun a621 hA621 _ => ?_)
        refine sq (opk_call hA621 rfl (r_call (args := #[.int .u64 (([base_1, target_2] : List Int).getD x_549.toNat 0)]) Try.func22 (by decide) rfl (map_arr (ml_cons (hA621.get rfl) ml_nil)) rfl) ht618 fun a623 v629 w624 hA623 _ hn626 hz627 hK628 => ?_)
        obtain ⟨r_622_0, r_622_1, r_622_2, r_622_3, r_622_4, r_622_5, r_622_6, r_622_7, rfl, ht625⟩ := hK628
        refine sq (opk_new (fun B => .pointer (some ⟨B, 0, none⟩)) hA623 rfl (r_alloc (cs := [.int .u8 0, .int .u8 0, .int .u8 0, .int .u8 0, .int .u8 0, .int .u8 0, .int .u8 0, .int .u8 0]) ti_51 rfl) fun a632 w631 B_630 hE633 hN634 hB635 hA632 _ => ?_)
        have hN636 : New w624 B_630 w631 := hN634
        have hC637 : Chg [] w624 w631 := hE633
        refine sq (opk_store hA632 hB635 (r_store (vs := [.int .u8 r_622_0, .int .u8 r_622_1, .int .u8 r_622_2, .int .u8 r_622_3, .int .u8 r_622_4, .int .u8 r_622_5, .int .u8 r_622_6, .int .u8 r_622_7]) (hA632.get rfl) (hA632.get rfl) rfl ti_51 hB635 rfl (ones_all [.int .u8 r_622_0, .int .u8 r_622_1, .int .u8 r_622_2, .int .u8 r_622_3, .int .u8 r_622_4, .int .u8 r_622_5, .int .u8 r_622_6, .int .u8 r_622_7] rfl)) fun a639 w638 hS640 hB641 hA639 => ?_)
        have hB642 : Box w638 B_630 51 [.int .u8 r_622_0, .int .u8 r_622_1, .int .u8 r_622_2, .int .u8 r_622_3, .int .u8 r_622_4, .int .u8 r_622_5, .int .u8 r_622_6, .int .u8 r_622_7] := hB641
        have hC643 := hC637.storeNew hN636 hS640
        have hN644 := hN636.up hS640.size
        refine sq_end ?_
        have hA645 := hA639.keep [(2, Sl.v l_3), (8, .map r_23), (9, Sl.v all_32), (16, Sl.v b_548), (19, .pointer (some (⟨B_630, 0, none⟩ : Addr))), (80, .agg #[.int .u64 base_1, .int .u64 target_2]), (81, .int .i64 x_549)] ⟨rfl, rfl, rfl, rfl, rfl, rfl, rfl, trivial⟩
        refine then_normal ?_
        refine wp_region_lit ?_
        refine sq (opk_val hA645 rfl (r_move (hA645.get rfl)) fun a646 hA646 _ => ?_)
        refine sq (opk_val hA646 rfl (r_slice0A (hA646.get rfl) Try.underlying51 ti_5) fun a647 hA647 _ => ?_)
        have ht648 := ht625 w638 B_630 hN644  hC643
        have ht649 := ht648 hB642
        refine sq (opk_run hA647 rfl (fun _ _ hr => r_append (hA647.get rfl) (hA647.get rfl) hr) ht649 fun a650 v656 w651 hA650 _ hn653 hz654 hK655 => ?_)
        obtain ⟨r_657, rfl, ht652⟩ := hK655
        refine sq (opk_val hA650 rfl (r_assign (hA650.get rfl)) fun a658 hA658 _ => ?_)
        refine sq_end ?_
        have hA659 := hA658.keep [(2, Sl.v l_3), (8, .map r_23), (9, Sl.v all_32), (16, Sl.v r_657), (80, .agg #[.int .u64 base_1, .int .u64 target_2]), (81, .int .i64 x_549)] ⟨rfl, rfl, rfl, rfl, rfl, rfl, trivial⟩
        refine block_normal ?_
        refine then_normal ?_
        refine wp_region_lit ?_
        obtain ⟨hS661, ht662⟩ := ht652
        refine sq (opk_val hA659 rfl (r_addI (hA659.get rfl) rfl hS661) fun a660 hA660 _ => ?_)
        refine sq (opk_val hA660 rfl (r_move (hA660.get rfl)) fun a663 hA663 _ => ?_)
        refine sq_end ?_
        have hA664 := hA663.keep [(2, Sl.v l_3), (8, .map r_23), (9, Sl.v all_32), (16, Sl.v r_657), (80, .agg #[.int .u64 base_1, .int .u64 target_2]), (81, .int .i64 (x_549 + 1))] ⟨rfl, rfl, rfl, rfl, rfl, rfl, trivial⟩
        have hA665 := hA664.keep [(2, Sl.v l_3), (8, .map r_23), (9, Sl.v all_32), (16, Sl.v r_657), (80, .agg #[.int .u64 base_1, .int .u64 target_2]), (81, .int .i64 (x_549 + 1))] ⟨rfl, rfl, rfl, rfl, rfl, rfl, trivial⟩
        exact then_normal ⟨(r_657, x_549 + 1, w651), ⟨hA665, rfl, ht662.1⟩, ht662.2⟩
      · have ht615 := ht610.2 (of_decide_eq_false hc)
        clear hc
        refine wp_exit ?_
        refine then_exit ?_
        refine then_exit ?_
        refine block_hit ?_
        have hA666 := hA613.keep [(2, Sl.v l_3), (8, .map r_23), (9, Sl.v all_32), (16, Sl.v b_548)] ⟨rfl, rfl, rfl, rfl, trivial⟩
        refine then_normal ?_
        refine wp_seq ?_
        refine wp_region_lit ?_
        refine sq (opk_val hA666 rfl (r_move (hA666.get rfl)) fun a667 hA667 _ => ?_)
        refine sq (opk_val hA667 rfl (r_move (hA667.get rfl)) fun a668 hA668 _ => ?_)
        refine sq (opk_val hA668 rfl (r_len (hA668.get rfl) Try.underlying46) fun a669 hA669 _ => ?_)
        refine sq (opk_val hA669 rfl (r_conv (hA669.get rfl) rfl Try.underlying22) fun a670 hA670 _ => ?_)
        refine sq (opk_call hA670 rfl (r_call (args := #[Sl.v b_548, .int .u64 (IntKind.u64.wrap (all_32.n : Int))]) Try.func23 (by decide) rfl (map_arr (ml_cons (hA670.get rfl) (ml_cons (hA670.get rfl) ml_nil))) rfl) ht615 fun a672 v678 w673 hA672 _ hn675 hz676 hK677 => ?_)
        obtain ⟨r_671, rfl, ht674⟩ := hK677
        refine sq (opk_val hA672 rfl (r_assign (hA672.get rfl)) fun a679 hA679 _ => ?_)
        refine sq_end ?_
        have hA680 := hA679.keep [(2, Sl.v l_3), (8, .map r_23), (9, Sl.v all_32), (16, Sl.v r_671)] ⟨rfl, rfl, rfl, rfl, trivial⟩
        refine then_normal ?_
        refine wp_seq ?_
        refine wp_seq ?_
        refine wp_region_lit ?_
        refine sq (opk_val hA680 rfl (r_move (hA680.get rfl)) fun a681 hA681 _ => ?_)
        refine sq (opk_val hA681 rfl (r_len (hA681.get rfl) Try.underlying46) fun a682 hA682 _ => ?_)
        refine sq (opk_val hA682 rfl (r_move rfl) fun a683 hA683 _ => ?_)
        refine sq_end ?_
        have hA684 := hA683.keep [(2, Sl.v l_3), (8, .map r_23), (16, Sl.v r_671), (95, Sl.v all_32), (96, .int .i64 (all_32.n : Int)), (97, .int .i64 0)] ⟨rfl, rfl, rfl, rfl, rfl, rfl, trivial⟩
        refine then_normal ?_
        refine wp_block ?_
        obtain ⟨J_688, mu_689, h0739, ht738⟩ := ht674
        refine wp_loop_st (σ := Sl × Int × World) (fun s a w => Ag 167 a [(2, Sl.v l_3), (8, .map r_23), (16, Sl.v s.1), (95, Sl.v all_32), (96, .int .i64 (all_32.n : Int)), (97, .int .i64 s.2.1)] ∧ w = s.2.2 ∧ J_688 s.1 s.2.1 s.2.2) (fun s => mu_689 s.1 s.2.1 s.2.2) (r_671, 0, w673) ⟨hA684.keep [(2, Sl.v l_3), (8, .map r_23), (16, Sl.v r_671), (95, Sl.v all_32), (96, .int .i64 (all_32.n : Int)), (97, .int .i64 0)] ⟨rfl, rfl, rfl, rfl, rfl, rfl, trivial⟩, rfl, h0739⟩ ?_
        rintro ⟨b_685, x_686, w687⟩ a737 w_ ⟨hA737, hw_, hJ741⟩
        have hw_ : w687 = w_ := hw_.symm
        subst hw_
        have ht740 := ht738 b_685 x_686 _ hJ741
        refine wp_seq ?_
        refine wp_region_lit ?_
        refine sq (opk_val hA737 rfl (r_lss (hA737.get rfl) (hA737.get rfl)) fun a742 hA742 _ => ?_)
        refine sq_end ?_
        have hA743 := hA742.keep [(2, Sl.v l_3), (8, .map r_23), (16, Sl.v b_685), (95, Sl.v all_32), (96, .int .i64 (all_32.n : Int)), (97, .int .i64 x_686), (98, .bool (decide (x_686 < (all_32.n : Int))))] ⟨rfl, rfl, rfl, rfl, rfl, rfl, rfl, trivial⟩
        refine then_normal ?_
        refine wp_seq ?_
        refine wp_cond_split (hA743.get rfl) (fun hc => ?_) (fun hc => ?_)
        · have ht744 := ht740.1 (of_decide_eq_true hc)
          clear hc
          refine wp_skip ?_
          refine then_normal ?_
          refine wp_seq ?_
          refine wp_block ?_
          refine wp_seq ?_
          refine wp_region_lit ?_
          obtain ⟨hb747, p_746, hp748, ht749⟩ := ht744
          refine sq (opk_val hA743 rfl (r_indexAddr (hA743.get rfl) (hA743.get rfl) Try.underlying46 ti_9 hb747 hp748) fun a750 hA750 _ => ?_)
          obtain ⟨x_752, hx753, ht754⟩ := ht749
          refine sq (opk_val hA750 rfl (r_load1 Try.underlying9 rfl (hA750.get rfl) hx753) fun a751 hA751 _ => ?_)
          refine sq (opk_val hA751 rfl (r_assign (hA751.get rfl)) fun a755 hA755 _ => ?_)
          refine sq_end ?_
          have hA756 := hA755.keep [(2, Sl.v l_3), (8, .map r_23), (16, Sl.v b_685), (21, .string (Bs x_752)), (95, Sl.v all_32), (96, .int .i64 (all_32.n : Int)), (97, .int .i64 x_686)] ⟨rfl, rfl, rfl, rfl, rfl, rfl, rfl, trivial⟩
          refine then_normal ?_
          refine wp_seq ?_
          refine wp_seq ?_
          refine wp_region_lit ?_
          refine sq (opk_val hA756 rfl (r_move (hA756.get rfl)) fun a757 hA757 _ => ?_)
          refine sq (opk_val hA757 rfl (r_slen (hA757.get rfl) Try.underlying9) fun a758 hA758 _ => ?_)
          refine sq (opk_val hA758 rfl (r_move (hA758.get rfl)) fun a759 hA759 _ => ?_)
          refine sq (opk_val hA759 rfl (r_len (hA759.get rfl) Try.underlying24) fun a760 hA760 _ => ?_)
          obtain ⟨hS762, ht763⟩ := ht754
          refine sq (opk_val hA760 rfl (r_subI rfl (hA760.get rfl) hS762) fun a761 hA761 _ => ?_)
          refine sq (opk_val hA761 rfl (r_gtr (hA761.get rfl) (hA761.get rfl)) fun a764 hA764 _ => ?_)
          refine sq_end ?_
          have hA765 := hA764.keep [(2, Sl.v l_3), (8, .map r_23), (16, Sl.v b_685), (21, .string (Bs x_752)), (95, Sl.v all_32), (96, .int .i64 (all_32.n : Int)), (97, .int .i64 x_686), (106, .bool (decide ((65536 - (b_685.n : Int)) < (x_752.length : Int))))] ⟨rfl, rfl, rfl, rfl, rfl, rfl, rfl, rfl, trivial⟩
          refine then_normal ?_
          refine wp_cond_split (hA765.get rfl) (fun hc => ?_) (fun hc => ?_)
          · have ht766 := ht763.1 (of_decide_eq_true hc)
            clear hc
            refine wp_seq ?_
            refine wp_region_lit ?_
            refine sq (opk_val hA765 rfl (r_assign rfl) fun a768 hA768 _ => ?_)
            refine sq (opk_val hA768 rfl (r_assign rfl) fun a769 hA769 _ => ?_)
            refine sq_end ?_
            have hA770 := hA769.keep [(6, Sl.v Sl.nil), (7, .int .i64 2)] ⟨rfl, rfl, trivial⟩
            refine then_normal ?_
            refine wp_ret ?_
            refine then_ret ?_
            refine block_ret ?_
            refine then_ret ?_
            refine then_ret ?_
            refine block_ret ?_
            refine then_ret ?_
            exact res_all (vs := [Sl.v Sl.nil, .int .i64 2]) rfl hA770 ⟨res_of_tmp hA770 rfl, res_of_tmp hA770 rfl, trivial⟩ ht766
          · have ht767 := ht763.2 (of_decide_eq_false hc)
            clear hc
            refine wp_skip ?_
            refine then_normal ?_
            refine wp_region_lit ?_
            refine sq (opk_val hA765 rfl (r_move (hA765.get rfl)) fun a771 hA771 _ => ?_)
            refine sq (opk_val hA771 rfl (r_move (hA771.get rfl)) fun a772 hA772 _ => ?_)
            refine sq (opk_call hA772 rfl (r_call (args := #[Sl.v b_685, .string (Bs x_752)]) Try.func24 (by decide) rfl (map_arr (ml_cons (hA772.get rfl) (ml_cons (hA772.get rfl) ml_nil))) rfl) ht767 fun a774 v780 w775 hA774 _ hn777 hz778 hK779 => ?_)
            obtain ⟨r_773, rfl, ht776⟩ := hK779
            refine sq (opk_val hA774 rfl (r_assign (hA774.get rfl)) fun a781 hA781 _ => ?_)
            refine sq_end ?_
            have hA782 := hA781.keep [(2, Sl.v l_3), (8, .map r_23), (16, Sl.v r_773), (95, Sl.v all_32), (96, .int .i64 (all_32.n : Int)), (97, .int .i64 x_686)] ⟨rfl, rfl, rfl, rfl, rfl, rfl, trivial⟩
            refine block_normal ?_
            refine then_normal ?_
            refine wp_region_lit ?_
            obtain ⟨hS784, ht785⟩ := ht776
            refine sq (opk_val hA782 rfl (r_addI (hA782.get rfl) rfl hS784) fun a783 hA783 _ => ?_)
            refine sq (opk_val hA783 rfl (r_move (hA783.get rfl)) fun a786 hA786 _ => ?_)
            refine sq_end ?_
            have hA787 := hA786.keep [(2, Sl.v l_3), (8, .map r_23), (16, Sl.v r_773), (95, Sl.v all_32), (96, .int .i64 (all_32.n : Int)), (97, .int .i64 (x_686 + 1))] ⟨rfl, rfl, rfl, rfl, rfl, rfl, trivial⟩
            have hA788 := hA787.keep [(2, Sl.v l_3), (8, .map r_23), (16, Sl.v r_773), (95, Sl.v all_32), (96, .int .i64 (all_32.n : Int)), (97, .int .i64 (x_686 + 1))] ⟨rfl, rfl, rfl, rfl, rfl, rfl, trivial⟩
            exact then_normal ⟨(r_773, x_686 + 1, w775), ⟨hA788, rfl, ht785.1⟩, ht785.2⟩
        · have ht745 := ht740.2 (of_decide_eq_false hc)
          clear hc
          refine wp_exit ?_
          refine then_exit ?_
          refine then_exit ?_
          refine block_hit ?_
          have hA789 := hA743.keep [(2, Sl.v l_3), (8, .map r_23), (16, Sl.v b_685)] ⟨rfl, rfl, rfl, trivial⟩
          refine then_normal ?_
          refine wp_seq ?_
          refine wp_region_lit ?_
          refine sq (opk_val hA789 rfl (r_move (hA789.get rfl)) fun a790 hA790 _ => ?_)
          refine sq (opk_val hA790 rfl (r_move (hA790.get rfl)) fun a791 hA791 _ => ?_)
          refine sq (opk_val hA791 rfl (r_len (hA791.get rfl) Try.underlying23) fun a792 hA792 _ => ?_)
          refine sq (opk_val hA792 rfl (r_conv (hA792.get rfl) rfl Try.underlying22) fun a793 hA793 _ => ?_)
          refine sq (opk_call hA793 rfl (r_call (args := #[Sl.v b_685, .int .u64 (IntKind.u64.wrap (l_3.n : Int))]) Try.func23 (by decide) rfl (map_arr (ml_cons (hA793.get rfl) (ml_cons (hA793.get rfl) ml_nil))) rfl) ht745 fun a795 v801 w796 hA795 _ hn798 hz799 hK800 => ?_)
          obtain ⟨r_794, rfl, ht797⟩ := hK800
          refine sq (opk_val hA795 rfl (r_assign (hA795.get rfl)) fun a802 hA802 _ => ?_)
          refine sq_end ?_
          have hA803 := hA802.keep [(2, Sl.v l_3), (8, .map r_23), (16, Sl.v r_794)] ⟨rfl, rfl, rfl, trivial⟩
          refine then_normal ?_
          refine wp_seq ?_
          refine wp_seq ?_
          refine wp_region_lit ?_
          refine sq (opk_val hA803 rfl (r_move (hA803.get rfl)) fun a804 hA804 _ => ?_)
          refine sq (opk_val hA804 rfl (r_len (hA804.get rfl) Try.underlying23) fun a805 hA805 _ => ?_)
          refine sq (opk_val hA805 rfl (r_move rfl) fun a806 hA806 _ => ?_)
          refine sq_end ?_
          have hA807 := hA806.keep [(8, .map r_23), (16, Sl.v r_794), (116, Sl.v l_3), (117, .int .i64 (l_3.n : Int)), (118, .int .i64 0)] ⟨rfl, rfl, rfl, rfl, rfl, trivial⟩
          refine then_normal ?_
          refine wp_block ?_
          obtain ⟨J_811, mu_812, h01129, ht1128⟩ := ht797
          refine wp_loop_st (σ := Sl × Int × World) (fun s a w => Ag 167 a [(8, .map r_23), (16, Sl.v s.1), (116, Sl.v l_3), (117, .int .i64 (l_3.n : Int)), (118, .int .i64 s.2.1)] ∧ w = s.2.2 ∧ J_811 s.1 s.2.1 s.2.2) (fun s => mu_812 s.1 s.2.1 s.2.2) (r_794, 0, w796) ⟨hA807.keep [(8, .map r_23), (16, Sl.v r_794), (116, Sl.v l_3), (117, .int .i64 (l_3.n : Int)), (118, .int .i64 0)] ⟨rfl, rfl, rfl, rfl, rfl, trivial⟩, rfl, h01129⟩ ?_
          rintro ⟨b_808, x_809, w810⟩ a1127 w_ ⟨hA1127, hw_, hJ1131⟩
          have hw_ : w810 = w_ := hw_.symm
          subst hw_
          have ht1130 := ht1128 b_808 x_809 _ hJ1131
          refine wp_seq ?_
          refine wp_region_lit ?_
          refine sq (opk_val hA1127 rfl (r_lss (hA1127.get rfl) (hA1127.get rfl)) fun a1132 hA1132 _ => ?_)
          refine sq_end ?_
          have hA1133 := hA1132.keep [(8, .map r_23), (16, Sl.v b_808), (116, Sl.v l_3), (117, .int .i64 (l_3.n : Int)), (118, .int .i64 x_809), (119, .bool (decide (x_809 < (l_3.n : Int))))] ⟨rfl, rfl, rfl, rfl, rfl, rfl, trivial⟩
          refine then_normal ?_
          refine wp_seq ?_
          refine wp_cond_split (hA1133.get rfl) (fun hc => ?_) (fun hc => ?_)
          · have ht1134 := ht1130.1 (of_decide_eq_true hc)
            clear hc
            refine wp_skip ?_
            refine then_normal ?_
            refine wp_seq ?_
            refine wp_block ?_
            refine wp_seq ?_
            refine wp_region_lit ?_
            obtain ⟨hb1137, p_1136, hp1138, ht1139⟩ := ht1134
            refine sq (opk_val hA1133 rfl (r_indexAddr (hA1133.get rfl) (hA1133.get rfl) Try.underlying23 ti_42 hb1137 hp1138) fun a1140 hA1140 _ => ?_)
            obtain ⟨x_1142_Kind, x_1142_ID, x_1142_Parent, x_1142_At, x_1142_What, x_1142_Name, x_1142_Text, hx1143, ht1144⟩ := ht1139
            refine sq (opk_val hA1140 rfl (r_loadN Try.underlying42 rfl ti_42 (hA1140.get rfl) hx1143) fun a1141 hA1141 _ => ?_)
            refine sq (opk_new (fun B => .pointer (some ⟨B, 0, none⟩)) hA1141 rfl (r_alloc (cs := [.int .i64 0, .int .i64 0, .int .i64 0, .int .i64 0, .int .i64 0, .string (Bs ([] : Str)), .string (Bs ([] : Str))]) ti_42 rfl) fun a1147 w1146 B_1145 hE1148 hN1149 hB1150 hA1147 _ => ?_)
            have hN1151 : New w810 B_1145 w1146 := hN1149
            have hC1152 : Chg [] w810 w1146 := hE1148
            refine sq (opk_store hA1147 hB1150 (r_store (vs := [.int .i64 x_1142_Kind, .int .i64 x_1142_ID, .int .i64 x_1142_Parent, .int .i64 x_1142_At, .int .i64 x_1142_What, .string (Bs x_1142_Name), .string (Bs x_1142_Text)]) (hA1147.get rfl) (hA1147.get rfl) rfl ti_42 hB1150 rfl (ones_all [.int .i64 x_1142_Kind, .int .i64 x_1142_ID, .int .i64 x_1142_Parent, .int .i64 x_1142_At, .int .i64 x_1142_What, .string (Bs x_1142_Name), .string (Bs x_1142_Text)] rfl)) fun a1154 w1153 hS1155 hB1156 hA1154 => ?_)
            have hB1157 : Box w1153 B_1145 42 [.int .i64 x_1142_Kind, .int .i64 x_1142_ID, .int .i64 x_1142_Parent, .int .i64 x_1142_At, .int .i64 x_1142_What, .string (Bs x_1142_Name), .string (Bs x_1142_Text)] := hB1156
            have hC1158 := hC1152.storeNew hN1151 hS1155
            have hN1159 := hN1151.up hS1155.size
            refine sq_end ?_
            have hA1160 := hA1154.keep [(8, .map r_23), (16, Sl.v b_808), (23, .pointer (some (⟨B_1145, 0, none⟩ : Addr))), (116, Sl.v l_3), (117, .int .i64 (l_3.n : Int)), (118, .int .i64 x_809)] ⟨rfl, rfl, rfl, rfl, rfl, rfl, trivial⟩
            refine then_normal ?_
            refine wp_seq ?_
            refine draw' (by kernel_rfl) fun w1161 hE1162 => ?_
            have hB1163 := hB1157.ext hE1162
            have hC1164 := hC1158.more hE1162
            have hN1165 := hN1159.up hE1162.size
            have ht1166 := ht1144 w1161 B_1145 hN1165  hC1164
            refine startF (D := [[], [], [1], [1, 2], [1, 2, 3], [0, 1, 2, 3, 4], [], [6], [6, 7], [0, 1, 2, 3, 4, 5, 6, 7, 8], [0, 1, 2, 3, 4, 5, 6, 7, 8, 9]]) (Fs := [1, 2, 3, 6, 7, 8]) (Ef := [(1, fun v _ => v = .pointer (some (⟨B_1145, 0, none⟩ : Addr))), (2, fun v _ => v = .int .i64 x_1142_Kind), (3, fun v _ => v = .int .u8 (IntKind.u8.wrap x_1142_Kind)), (6, fun v _ => v = .pointer (some (⟨B_1145, 1, none⟩ : Addr))), (7, fun v _ => v = .int .i64 x_1142_ID), (8, fun v _ => v = .int .u64 (IntKind.u64.wrap x_1142_ID))]) (by kernel_rfl) ?_
            refine parF (D := [[], [], [1], [1, 2], [1, 2, 3], [0, 1, 2, 3, 4], [], [6], [6, 7], [0, 1, 2, 3, 4, 5, 6, 7, 8], [0, 1, 2, 3, 4, 5, 6, 7, 8, 9]]) (S := [0, 4]) (F := []) (KE := [0, 4]) (E := [(0, fun v _ => v = Sl.v b_808), (4, fun v w' => ∃ B_1168 : Nat, w1161.heap.size ≤ B_1168 ∧ Box w' B_1168 5 [.int .u8 (IntKind.u8.wrap x_1142_Kind)] ∧ v = Sl.v (Sl.mk (some ⟨B_1168, 0, none⟩) 1 1))]) hA1160 rfl (by kernel_rfl) ⟨fun _ _ _ _ h => by first | exact h | (change _ = _ at h; change _ = _; exact h), fun _ _ _ hE ⟨B_1168, h0_, h1_, e⟩ => ⟨B_1168, h0_, (h1_.ext hE), e⟩, fun _ _ _ _ h => by first | exact h | (change _ = _ at h; change _ = _; exact h), fun _ _ _ _ h => by first | exact h | (change _ = _ at h; change _ = _; exact h), fun _ _ _ _ h => by first | exact h | (change _ = _ at h; change _ = _; exact h), fun _ _ _ _ h => by first | exact h | (change _ = _ at h; change _ = _; exact h), fun _ _ _ _ h => by first | exact h | (change _ = _ at h; change _ = _; exact h), fun _ _ _ _ h => by first | exact h | (change _ = _ at h; change _ = _; exact h), trivial⟩ ⟨?_, ?_, ?_, ?_, ?_, ?_, ?_, ?_, trivial⟩ ?_
            · intro a w hT
              have hAp := hT.ag hA1160 [(16, Sl.v b_808)] ⟨rfl, trivial⟩ (by kernel_rfl)
              exact opk_val hAp rfl (r_move (hAp.get rfl)) fun _ _ e => ⟨_, e, Chg.refl _ _, fun _ => Eq.refl _⟩
            · intro a w hT
              have hAp := hT.ag hA1160 [] trivial (by kernel_rfl)
              have e1167 : a.tmps.getD 125 undef = .int .u8 (IntKind.u8.wrap x_1142_Kind) := hT.vals 3 rfl 125 rfl
              have hAp := hAp.add e1167
              exact opk_new (fun B => .slice (some ⟨B, 0, none⟩) 1 1) hAp rfl (r_buildSlice (vs := #[(0, .int .u8 (IntKind.u8.wrap x_1142_Kind))]) (cs := [.int .u8 (IntKind.u8.wrap x_1142_Kind)]) (map_arr2 (ml2_cons (hAp.get rfl) (ml2_nil))) Try.underlying24 ti_5 rfl rfl (by kernel_rfl)) fun _ w1169 B_1168 hE1170 hN1171 hB1172 _ e => ⟨_, e, hE1170, fun _ => ⟨B_1168, Nat.le_trans hT.chg.size hN1171.ge, hB1172, rfl⟩⟩
            · intro a w hT
              have hAp := hT.ag hA1160 [(23, .pointer (some (⟨B_1145, 0, none⟩ : Addr)))] ⟨rfl, trivial⟩ (by kernel_rfl)
              exact opk_val hAp rfl (r_fieldAddr (hAp.get rfl) Try.underlying42 rfl ti_3 (by decide)) fun _ _ e => ⟨_, e, Chg.refl _ _, fun _ => Eq.refl _⟩
            · intro a w hT
              have hAp := hT.ag hA1160 [] trivial (by kernel_rfl)
              have e1173 : a.tmps.getD 123 undef = .pointer (some (⟨B_1145, 0, none⟩ : Addr)) := hT.vals 1 rfl 123 rfl
              have hAp := hAp.add e1173
              exact opk_val hAp rfl (r_load1 Try.underlying3 rfl (hAp.get rfl) ((hB1163.ext hT.chg).cell 0 _ rfl)) fun _ _ e => ⟨_, e, Chg.refl _ _, fun _ => Eq.refl _⟩
            · intro a w hT
              have hAp := hT.ag hA1160 [] trivial (by kernel_rfl)
              have e1174 : a.tmps.getD 124 undef = .int .i64 x_1142_Kind := hT.vals 2 rfl 124 rfl
              have hAp := hAp.add e1174
              exact opk_val hAp rfl (r_conv (hAp.get rfl) rfl Try.underlying5) fun _ _ e => ⟨_, e, Chg.refl _ _, fun _ => Eq.refl _⟩
            · intro a w hT
              have hAp := hT.ag hA1160 [(23, .pointer (some (⟨B_1145, 0, none⟩ : Addr)))] ⟨rfl, trivial⟩ (by kernel_rfl)
              exact opk_val hAp rfl (r_fieldAddr (hAp.get rfl) Try.underlying42 rfl ti_3 (by decide)) fun _ _ e => ⟨_, e, Chg.refl _ _, fun _ => Eq.refl _⟩
            · intro a w hT
              have hAp := hT.ag hA1160 [] trivial (by kernel_rfl)
              have e1175 : a.tmps.getD 128 undef = .pointer (some (⟨B_1145, 1, none⟩ : Addr)) := hT.vals 6 rfl 128 rfl
              have hAp := hAp.add e1175
              exact opk_val hAp rfl (r_load1 Try.underlying3 rfl (hAp.get rfl) ((hB1163.ext hT.chg).cell 1 _ rfl)) fun _ _ e => ⟨_, e, Chg.refl _ _, fun _ => Eq.refl _⟩
            · intro a w hT
              have hAp := hT.ag hA1160 [] trivial (by kernel_rfl)
              have e1176 : a.tmps.getD 129 undef = .int .i64 x_1142_ID := hT.vals 7 rfl 129 rfl
              have hAp := hAp.add e1176
              exact opk_val hAp rfl (r_conv (hAp.get rfl) rfl Try.underlying22) fun _ _ e => ⟨_, e, Chg.refl _ _, fun _ => Eq.refl _⟩
            · intro a1177 w1178 hE1179 hag1180 hv1181
              have hA1177 := hag1180 [(8, .map r_23), (16, Sl.v b_808), (23, .pointer (some (⟨B_1145, 0, none⟩ : Addr))), (116, Sl.v l_3), (117, .int .i64 (l_3.n : Int)), (118, .int .i64 x_809)] ⟨rfl, rfl, rfl, rfl, rfl, rfl, trivial⟩ (by kernel_rfl)
              have e1183 : a1177.tmps.getD 122 undef = Sl.v b_808 := hv1181 0 rfl 122 rfl
              have hA1184 := hA1177.add e1183
              obtain ⟨B_1168, hf1187, hf1188, e1185⟩ := hv1181 4 rfl 126 rfl
              have hA1186 := hA1184.add e1185
              have hB1189 := hB1163.ext hE1179
              have hC1190 : Chg [] w1161 w1178 := hE1179
              have ht1191 := ht1166 w1178 B_1168 hE1179 hf1187 hf1188
              have hne1192 : B_1145 ≠ B_1168 := Nat.ne_of_lt (Nat.lt_of_lt_of_le hB1163.lt hf1187)
              refine PRF_drop (X := [1, 2, 3]) (Fs' := [6, 7, 8]) hA1186 (by kernel_rfl) fun a1193 hag1194 hv1195 => ?_
              have hA1193 := hag1194 [(8, .map r_23), (16, Sl.v b_808), (23, .pointer (some (⟨B_1145, 0, none⟩ : Addr))), (116, Sl.v l_3), (117, .int .i64 (l_3.n : Int)), (118, .int .i64 x_809), (122, Sl.v b_808), (126, Sl.v (Sl.mk (some ⟨B_1168, 0, none⟩) 1 1))] ⟨rfl, rfl, rfl, rfl, rfl, rfl, rfl, rfl, trivial⟩ (by kernel_rfl)
              refine oneF (c := 5) hA1193 rfl (by kernel_rfl) (constF ⟨fun _ _ _ h => by first | exact h | (change _ = _ at h; change _ = _; exact h), fun _ _ _ h => by first | exact h | (change _ = _ at h; change _ = _; exact h), fun _ _ _ h => by first | exact h | (change _ = _ at h; change _ = _; exact h), trivial⟩) ⟨?_, ?_, ?_, trivial⟩ ?_
              · intro a hT
                have hAp := hT.ag hA1193 [(23, .pointer (some (⟨B_1145, 0, none⟩ : Addr)))] ⟨rfl, trivial⟩ (by kernel_rfl)
                exact opk_val hAp rfl (r_fieldAddr (hAp.get rfl) Try.underlying42 rfl ti_3 (by decide)) fun _ _ e => ⟨_, e, rfl, fun _ => Eq.refl _⟩
              · intro a hT
                have hAp := hT.ag hA1193 [] trivial (by kernel_rfl)
                have e1196 : a.tmps.getD 128 undef = .pointer (some (⟨B_1145, 1, none⟩ : Addr)) := hT.vals 6 rfl 128 rfl
                have hAp := hAp.add e1196
                exact opk_val hAp rfl (r_load1 Try.underlying3 rfl (hAp.get rfl) ((hB1189.ext hT.chg).cell 1 _ rfl)) fun _ _ e => ⟨_, e, rfl, fun _ => Eq.refl _⟩
              · intro a hT
                have hAp := hT.ag hA1193 [] trivial (by kernel_rfl)
                have e1197 : a.tmps.getD 129 undef = .int .i64 x_1142_ID := hT.vals 7 rfl 129 rfl
                have hAp := hAp.add e1197
                exact opk_val hAp rfl (r_conv (hAp.get rfl) rfl Try.underlying22) fun _ _ e => ⟨_, e, rfl, fun _ => Eq.refl _⟩
              · intro a1198 hT
                have hA1198 := hT.ag hA1193 [(8, .map r_23), (16, Sl.v b_808), (23, .pointer (some (⟨B_1145, 0, none⟩ : Addr))), (116, Sl.v l_3), (117, .int .i64 (l_3.n : Int)), (118, .int .i64 x_809), (122, Sl.v b_808), (126, Sl.v (Sl.mk (some ⟨B_1168, 0, none⟩) 1 1))] ⟨rfl, rfl, rfl, rfl, rfl, rfl, rfl, rfl, trivial⟩ (by kernel_rfl)
                have ht1199 := ht1191 hf1188
                refine (opk_run hA1198 rfl (fun _ _ hr => r_append (hA1198.get rfl) (hA1198.get rfl) hr) ht1199 fun a1200 v1206 w1201 hA1200 heq1445 hn1203 hz1204 hK1205 => ?_)
                refine ⟨_, heq1445, ?_⟩
                obtain ⟨r_1207, rfl, ht1202⟩ := hK1205
                have hB1208 := hB1189.kept hn1203 (.head _)
                refine joinF hA1200 (by kernel_rfl) ⟨fun _ _ _ _ h => by first | exact h | (change _ = _ at h; change _ = _; exact h), fun _ _ _ _ h => by first | exact h | (change _ = _ at h; change _ = _; exact h), fun _ _ _ _ h => by first | exact h | (change _ = _ at h; change _ = _; exact h), trivial⟩ ⟨?_, ?_, ?_, trivial⟩ ?_
                · intro a w hT
                  have hAp := hT.ag hA1200 [(23, .pointer (some (⟨B_1145, 0, none⟩ : Addr)))] ⟨rfl, trivial⟩ (by kernel_rfl)
                  exact opk_val hAp rfl (r_fieldAddr (hAp.get rfl) Try.underlying42 rfl ti_3 (by decide)) fun _ _ e => ⟨_, e, Chg.refl _ _, fun _ => Eq.refl _⟩
                · intro a w hT
                  have hAp := hT.ag hA1200 [] trivial (by kernel_rfl)
                  have e1209 : a.tmps.getD 128 undef = .pointer (some (⟨B_1145, 1, none⟩ : Addr)) := hT.vals 6 rfl 128 rfl
                  have hAp := hAp.add e1209
                  exact opk_val hAp rfl (r_load1 Try.underlying3 rfl (hAp.get rfl) ((hB1208.ext hT.chg).cell 1 _ rfl)) fun _ _ e => ⟨_, e, Chg.refl _ _, fun _ => Eq.refl _⟩
                · intro a w hT
                  have hAp := hT.ag hA1200 [] trivial (by kernel_rfl)
                  have e1210 : a.tmps.getD 129 undef = .int .i64 x_1142_ID := hT.vals 7 rfl 129 rfl
                  have hAp := hAp.add e1210
                  exact opk_val hAp rfl (r_conv (hAp.get rfl) rfl Try.underlying22) fun _ _ e => ⟨_, e, Chg.refl _ _, fun _ => Eq.refl _⟩
                · intro a1211 w1212 hE1213 hag1214 hv1215
                  have hA1211 := hag1214 [(8, .map r_23), (16, Sl.v b_808), (23, .pointer (some (⟨B_1145, 0, none⟩ : Addr))), (116, Sl.v l_3), (117, .int .i64 (l_3.n : Int)), (118, .int .i64 x_809), (127, Sl.v r_1207)] ⟨rfl, rfl, rfl, rfl, rfl, rfl, rfl, trivial⟩ (by kernel_rfl)
                  have e1216 : a1211.tmps.getD 130 undef = .int .u64 (IntKind.u64.wrap x_1142_ID) := hv1215 8 rfl 130 rfl
                  have hA1217 := hA1211.add e1216
                  have hB1218 := hB1208.ext hE1213
                  have hC1219 : Chg [] w1201 w1212 := hE1213
                  have ht1220 := ht1202 w1212    hC1219
                  obtain ⟨V_1222, hst1223, hc1224, ht1225⟩ := ht1220
                  refine par (D := [[], [], [1], [1, 2], [1, 2, 3], [0, 1, 2, 3, 4], [], [6], [6, 7], [0, 1, 2, 3, 4, 5, 6, 7, 8], [0, 1, 2, 3, 4, 5, 6, 7, 8, 9]]) (S := [9, 10]) (F := []) (V := VL [(9, fun v w' => ∃ r_1221 : Sl, V_1222 r_1221 w' ∧ v = Sl.v r_1221), (10, fun v w' => ∃ r_1221 : Sl, V_1222 r_1221 w' ∧ v = Sl.v r_1221)]) hA1217 (by kernel_rfl) ⟨fun _ _ _ hE ⟨r_1221, h0_, e⟩ => ⟨r_1221, (hst1223 r_1221 _ _ hE h0_), e⟩, fun _ _ _ hE ⟨r_1221, h0_, e⟩ => ⟨r_1221, (hst1223 r_1221 _ _ hE h0_), e⟩, trivial⟩ ⟨?_, ?_, trivial⟩ ?_
                  · intro a w hT
                    have hAp := hT.ag hA1217 [(127, Sl.v r_1207), (130, .int .u64 (IntKind.u64.wrap x_1142_ID))] ⟨rfl, rfl, trivial⟩ (by kernel_rfl)
                    exact opk_callX hAp rfl (r_call (args := #[Sl.v r_1207, .int .u64 (IntKind.u64.wrap x_1142_ID)]) Try.func23 (by decide) rfl (map_arr (ml_cons (hAp.get rfl) (ml_cons (hAp.get rfl) ml_nil))) rfl) (hc1224 w hT.chg) fun _ _ _ _ e ⟨hE, r_1221, he, hV⟩ => ⟨_, e, hE, fun _ => ⟨r_1221, hV, he⟩⟩
                  · intro a w hT
                    have hAp := hT.ag hA1217 [] trivial (by kernel_rfl)
                    obtain ⟨r_1221, hf1227, e1226⟩ := hT.vals 9 rfl 131 rfl
                    have hAp := hAp.add e1226
                    exact opk_val hAp rfl (r_assign (hAp.get rfl)) fun _ _ e => ⟨_, e, Chg.refl _ _, fun _ => ⟨r_1221, hf1227, rfl⟩⟩
                  · intro a1228 w1229 hE1230 hag1231 hv1232
                    have hA1228 := hag1231 [(8, .map r_23), (23, .pointer (some (⟨B_1145, 0, none⟩ : Addr))), (116, Sl.v l_3), (117, .int .i64 (l_3.n : Int)), (118, .int .i64 x_809)] ⟨rfl, rfl, rfl, rfl, rfl, trivial⟩ (by kernel_rfl)
                    obtain ⟨r_1221, hf1236, e1234⟩ := hv1232 10 rfl 16 rfl
                    have hA1235 := hA1228.add e1234
                    have hB1237 := hB1218.ext hE1230
                    have hC1238 : Chg [] w1212 w1229 := hE1230
                    have ht1239 := ht1225 w1229 r_1221 hE1230 hf1236
                    refine PR_end (by kernel_rfl) ?_
                    have hA1240 := hA1235.keep [(8, .map r_23), (16, Sl.v r_1221), (23, .pointer (some (⟨B_1145, 0, none⟩ : Addr))), (116, Sl.v l_3), (117, .int .i64 (l_3.n : Int)), (118, .int .i64 x_809)] ⟨rfl, rfl, rfl, rfl, rfl, rfl, trivial⟩
                    refine then_normal ?_
                    refine wp_seq ?_
                    refine wp_seq ?_
                    refine wp_region_lit ?_
                    refine sq (opk_val hA1240 rfl (r_loadN (cs := [.int .i64 x_1142_Kind, .int .i64 x_1142_ID, .int .i64 x_1142_Parent, .int .i64 x_1142_At, .int .i64 x_1142_What, .string (Bs x_1142_Name), .string (Bs x_1142_Text)]) Try.underlying42 rfl ti_42 (hA1240.get rfl) (hB1237.part 0 _ rfl)) fun a1241 hA1241 _ => ?_)
                    refine sq (opk_call hA1241 rfl (r_call (args := #[.agg #[.int .i64 x_1142_Kind, .int .i64 x_1142_ID, .int .i64 x_1142_Parent, .int .i64 x_1142_At, .int .i64 x_1142_What, .string (Bs x_1142_Name), .string (Bs x_1142_Text)]]) Try.func25 (by decide) rfl (map_arr (ml_cons (hA1241.get rfl) ml_nil)) rfl) ht1239 fun a1243 v1249 w1244 hA1243 _ hn1246 hz1247 hK1248 => ?_)
                    obtain ⟨r_1242, rfl, ht1245⟩ := hK1248
                    have hB1250 := hB1237.kept hn1246 (.head _)
                    refine sq (opk_val hA1243 rfl (r_len (hA1243.get rfl) Try.underlying55) fun a1251 hA1251 _ => ?_)
                    refine sq (opk_val hA1251 rfl (r_move rfl) fun a1252 hA1252 _ => ?_)
                    refine sq_end ?_
                    have hA1253 := hA1252.keep [(8, .map r_23), (16, Sl.v r_1221), (23, .pointer (some (⟨B_1145, 0, none⟩ : Addr))), (116, Sl.v l_3), (117, .int .i64 (l_3.n : Int)), (118, .int .i64 x_809), (133, Sl.v r_1242), (134, .int .i64 (r_1242.n : Int)), (135, .int .i64 0)] ⟨rfl, rfl, rfl, rfl, rfl, rfl, rfl, rfl, rfl, trivial⟩
                    refine then_normal ?_
                    refine wp_block ?_
                    obtain ⟨J_1257, mu_1258, h01298, ht1297⟩ := ht1245
                    refine wp_loop_st (σ := Sl × Int × World) (fun s a w => Ag 167 a [(8, .map r_23), (16, Sl.v s.1), (23, .pointer (some (⟨B_1145, 0, none⟩ : Addr))), (116, Sl.v l_3), (117, .int .i64 (l_3.n : Int)), (118, .int .i64 x_809), (133, Sl.v r_1242), (134, .int .i64 (r_1242.n : Int)), (135, .int .i64 s.2.1)] ∧ Box w B_1145 42 [.int .i64 x_1142_Kind, .int .i64 x_1142_ID, .int .i64 x_1142_Parent, .int .i64 x_1142_At, .int .i64 x_1142_What, .string (Bs x_1142_Name), .string (Bs x_1142_Text)] ∧ w = s.2.2 ∧ J_1257 s.1 s.2.1 s.2.2) (fun s => mu_1258 s.1 s.2.1 s.2.2) (r_1221, 0, w1244) ⟨hA1253.keep [(8, .map r_23), (16, Sl.v r_1221), (23, .pointer (some (⟨B_1145, 0, none⟩ : Addr))), (116, Sl.v l_3), (117, .int .i64 (l_3.n : Int)), (118, .int .i64 x_809), (133, Sl.v r_1242), (134, .int .i64 (r_1242.n : Int)), (135, .int .i64 0)] ⟨rfl, rfl, rfl, rfl, rfl, rfl, rfl, rfl, rfl, trivial⟩, hB1250, rfl, h01298⟩ ?_
                    rintro ⟨b_1254, x_1255, w1256⟩ a1295 w_ ⟨hA1295, hB1296, hw_, hJ1300⟩
                    have hw_ : w1256 = w_ := hw_.symm
                    subst hw_
                    have ht1299 := ht1297 b_1254 x_1255 _ hJ1300
                    refine wp_seq ?_
                    refine wp_region_lit ?_
                    refine sq (opk_val hA1295 rfl (r_lss (hA1295.get rfl) (hA1295.get rfl)) fun a1301 hA1301 _ => ?_)
                    refine sq_end ?_
                    have hA1302 := hA1301.keep [(8, .map r_23), (16, Sl.v b_1254), (23, .pointer (some (⟨B_1145, 0, none⟩ : Addr))), (116, Sl.v l_3), (117, .int .i64 (l_3.n : Int)), (118, .int .i64 x_809), (133, Sl.v r_1242), (134, .int .i64 (r_1242.n : Int)), (135, .int .i64 x_1255), (136, .bool (decide (x_1255 < (r_1242.n : Int))))] ⟨rfl, rfl, rfl, rfl, rfl, rfl, rfl, rfl, rfl, rfl, trivial⟩
                    refine then_normal ?_
                    refine wp_seq ?_
                    refine wp_cond_split (hA1302.get rfl) (fun hc => ?_) (fun hc => ?_)
                    · have ht1303 := ht1299.1 (of_decide_eq_true hc)
                      clear hc
                      refine wp_skip ?_
                      refine then_normal ?_
                      refine wp_seq ?_
                      refine wp_block ?_
                      refine wp_seq ?_
                      refine wp_region_lit ?_
                      obtain ⟨hb1306, p_1305, hp1307, ht1308⟩ := ht1303
                      refine sq (opk_val hA1302 rfl (r_indexAddr (hA1302.get rfl) (hA1302.get rfl) Try.underlying55 ti_3 hb1306 hp1307) fun a1309 hA1309 _ => ?_)
                      obtain ⟨x_1311, hx1312, ht1313⟩ := ht1308
                      refine sq (opk_val hA1309 rfl (r_load1 Try.underlying3 rfl (hA1309.get rfl) hx1312) fun a1310 hA1310 _ => ?_)
                      refine sq (opk_val hA1310 rfl (r_assign (hA1310.get rfl)) fun a1314 hA1314 _ => ?_)
                      refine sq_end ?_
                      have hA1315 := hA1314.keep [(8, .map r_23), (16, Sl.v b_1254), (23, .pointer (some (⟨B_1145, 0, none⟩ : Addr))), (25, .int .i64 x_1311), (116, Sl.v l_3), (117, .int .i64 (l_3.n : Int)), (118, .int .i64 x_809), (133, Sl.v r_1242), (134, .int .i64 (r_1242.n : Int)), (135, .int .i64 x_1255)] ⟨rfl, rfl, rfl, rfl, rfl, rfl, rfl, rfl, rfl, rfl, trivial⟩
                      refine then_normal ?_
                      refine wp_region_lit ?_
                      refine sq (opk_val hA1315 rfl (r_move (hA1315.get rfl)) fun a1316 hA1316 _ => ?_)
                      refine sq (opk_val hA1316 rfl (r_move (hA1316.get rfl)) fun a1317 hA1317 _ => ?_)
                      refine sq (opk_val hA1317 rfl (r_conv (hA1317.get rfl) rfl Try.underlying22) fun a1318 hA1318 _ => ?_)
                      refine sq (opk_call hA1318 rfl (r_call (args := #[Sl.v b_1254, .int .u64 (IntKind.u64.wrap x_1311)]) Try.func23 (by decide) rfl (map_arr (ml_cons (hA1318.get rfl) (ml_cons (hA1318.get rfl) ml_nil))) rfl) ht1313 fun a1320 v1326 w1321 hA1320 _ hn1323 hz1324 hK1325 => ?_)
                      obtain ⟨r_1319, rfl, ht1322⟩ := hK1325
                      have hB1327 := hB1296.kept hn1323 (.head _)
                      refine sq (opk_val hA1320 rfl (r_assign (hA1320.get rfl)) fun a1328 hA1328 _ => ?_)
                      refine sq_end ?_
                      have hA1329 := hA1328.keep [(8, .map r_23), (16, Sl.v r_1319), (23, .pointer (some (⟨B_1145, 0, none⟩ : Addr))), (116, Sl.v l_3), (117, .int .i64 (l_3.n : Int)), (118, .int .i64 x_809), (133, Sl.v r_1242), (134, .int .i64 (r_1242.n : Int)), (135, .int .i64 x_1255)] ⟨rfl, rfl, rfl, rfl, rfl, rfl, rfl, rfl, rfl, trivial⟩
                      refine block_normal ?_
                      refine then_normal ?_
                      refine wp_region_lit ?_
                      obtain ⟨hS1331, ht1332⟩ := ht1322
                      refine sq (opk_val hA1329 rfl (r_addI (hA1329.get rfl) rfl hS1331) fun a1330 hA1330 _ => ?_)
                      refine sq (opk_val hA1330 rfl (r_move (hA1330.get rfl)) fun a1333 hA1333 _ => ?_)
                      refine sq_end ?_
                      have hA1334 := hA1333.keep [(8, .map r_23), (16, Sl.v r_1319), (23, .pointer (some (⟨B_1145, 0, none⟩ : Addr))), (116, Sl.v l_3), (117, .int .i64 (l_3.n : Int)), (118, .int .i64 x_809), (133, Sl.v r_1242), (134, .int .i64 (r_1242.n : Int)), (135, .int .i64 (x_1255 + 1))] ⟨rfl, rfl, rfl, rfl, rfl, rfl, rfl, rfl, rfl, trivial⟩
                      have hA1335 := hA1334.keep [(8, .map r_23), (16, Sl.v r_1319), (23, .pointer (some (⟨B_1145, 0, none⟩ : Addr))), (116, Sl.v l_3), (117, .int .i64 (l_3.n : Int)), (118, .int .i64 x_809), (133, Sl.v r_1242), (134, .int .i64 (r_1242.n : Int)), (135, .int .i64 (x_1255 + 1))] ⟨rfl, rfl, rfl, rfl, rfl, rfl, rfl, rfl, rfl, trivial⟩
                      exact then_normal ⟨(r_1319, x_1255 + 1, w1321), ⟨hA1335, hB1327, rfl, ht1332.1⟩, ht1332.2⟩
                    · have ht1304 := ht1299.2 (of_decide_eq_false hc)
                      clear hc
                      refine wp_exit ?_
                      refine then_exit ?_
                      refine then_exit ?_
                      refine block_hit ?_
                      have hA1336 := hA1302.keep [(8, .map r_23), (16, Sl.v b_1254), (23, .pointer (some (⟨B_1145, 0, none⟩ : Addr))), (116, Sl.v l_3), (117, .int .i64 (l_3.n : Int)), (118, .int .i64 x_809)] ⟨rfl, rfl, rfl, rfl, rfl, rfl, trivial⟩
                      refine then_normal ?_
                      refine wp_seq ?_
                      refine wp_region_lit ?_
                      refine sq (opk_val hA1336 rfl (r_loadN (cs := [.int .i64 x_1142_Kind, .int .i64 x_1142_ID, .int .i64 x_1142_Parent, .int .i64 x_1142_At, .int .i64 x_1142_What, .string (Bs x_1142_Name), .string (Bs x_1142_Text)]) Try.underlying42 rfl ti_42 (hA1336.get rfl) (hB1296.part 0 _ rfl)) fun a1337 hA1337 _ => ?_)
                      refine sq (opk_call hA1337 rfl (r_call (args := #[.agg #[.int .i64 x_1142_Kind, .int .i64 x_1142_ID, .int .i64 x_1142_Parent, .int .i64 x_1142_At, .int .i64 x_1142_What, .string (Bs x_1142_Name), .string (Bs x_1142_Text)]]) Try.func21 (by decide) rfl (map_arr (ml_cons (hA1337.get rfl) ml_nil)) rfl) ht1304 fun a1339 v1345 w1340 hA1339 _ hn1342 hz1343 hK1344 => ?_)
                      obtain ⟨r_1338, rfl, ht1341⟩ := hK1344
                      have hB1346 := hB1296.kept hn1342 (.head _)
                      refine sq (opk_val hA1339 rfl (r_len (hA1339.get rfl) Try.underlying46) fun a1347 hA1347 _ => ?_)
                      refine sq (opk_val hA1347 rfl (r_move rfl) fun a1348 hA1348 _ => ?_)
                      refine sq_end ?_
                      have hA1349 := hA1348.keep [(8, .map r_23), (16, Sl.v b_1254), (116, Sl.v l_3), (117, .int .i64 (l_3.n : Int)), (118, .int .i64 x_809), (145, Sl.v r_1338), (146, .int .i64 (r_1338.n : Int)), (147, .int .i64 0)] ⟨rfl, rfl, rfl, rfl, rfl, rfl, rfl, rfl, trivial⟩
                      refine then_normal ?_
                      refine wp_block ?_
                      obtain ⟨J_1353, mu_1354, h01396, ht1395⟩ := ht1341
                      refine wp_loop_st (σ := Sl × Int × World) (fun s a w => Ag 167 a [(8, .map r_23), (16, Sl.v s.1), (116, Sl.v l_3), (117, .int .i64 (l_3.n : Int)), (118, .int .i64 x_809), (145, Sl.v r_1338), (146, .int .i64 (r_1338.n : Int)), (147, .int .i64 s.2.1)] ∧ w = s.2.2 ∧ J_1353 s.1 s.2.1 s.2.2) (fun s => mu_1354 s.1 s.2.1 s.2.2) (b_1254, 0, w1340) ⟨hA1349.keep [(8, .map r_23), (16, Sl.v b_1254), (116, Sl.v l_3), (117, .int .i64 (l_3.n : Int)), (118, .int .i64 x_809), (145, Sl.v r_1338), (146, .int .i64 (r_1338.n : Int)), (147, .int .i64 0)] ⟨rfl, rfl, rfl, rfl, rfl, rfl, rfl, rfl, trivial⟩, rfl, h01396⟩ ?_
                      rintro ⟨b_1350, x_1351, w1352⟩ a1394 w_ ⟨hA1394, hw_, hJ1398⟩
                      have hw_ : w1352 = w_ := hw_.symm
                      subst hw_
                      have ht1397 := ht1395 b_1350 x_1351 _ hJ1398
                      refine wp_seq ?_
                      refine wp_region_lit ?_
                      refine sq (opk_val hA1394 rfl (r_lss (hA1394.get rfl) (hA1394.get rfl)) fun a1399 hA1399 _ => ?_)
                      refine sq_end ?_
                      have hA1400 := hA1399.keep [(8, .map r_23), (16, Sl.v b_1350), (116, Sl.v l_3), (117, .int .i64 (l_3.n : Int)), (118, .int .i64 x_809), (145, Sl.v r_1338), (146, .int .i64 (r_1338.n : Int)), (147, .int .i64 x_1351), (148, .bool (decide (x_1351 < (r_1338.n : Int))))] ⟨rfl, rfl, rfl, rfl, rfl, rfl, rfl, rfl, rfl, trivial⟩
                      refine then_normal ?_
                      refine wp_seq ?_
                      refine wp_cond_split (hA1400.get rfl) (fun hc => ?_) (fun hc => ?_)
                      · have ht1401 := ht1397.1 (of_decide_eq_true hc)
                        clear hc
                        refine wp_skip ?_
                        refine then_normal ?_
                        refine wp_seq ?_
                        refine wp_block ?_
                        refine wp_seq ?_
                        refine wp_region_lit ?_
                        obtain ⟨hb1404, p_1403, hp1405, ht1406⟩ := ht1401
                        refine sq (opk_val hA1400 rfl (r_indexAddr (hA1400.get rfl) (hA1400.get rfl) Try.underlying46 ti_9 hb1404 hp1405) fun a1407 hA1407 _ => ?_)
                        obtain ⟨x_1409, hx1410, ht1411⟩ := ht1406
                        refine sq (opk_val hA1407 rfl (r_load1 Try.underlying9 rfl (hA1407.get rfl) hx1410) fun a1408 hA1408 _ => ?_)
                        refine sq (opk_val hA1408 rfl (r_assign (hA1408.get rfl)) fun a1412 hA1412 _ => ?_)
                        refine sq_end ?_
                        have hA1413 := hA1412.keep [(8, .map r_23), (16, Sl.v b_1350), (27, .string (Bs x_1409)), (116, Sl.v l_3), (117, .int .i64 (l_3.n : Int)), (118, .int .i64 x_809), (145, Sl.v r_1338), (146, .int .i64 (r_1338.n : Int)), (147, .int .i64 x_1351)] ⟨rfl, rfl, rfl, rfl, rfl, rfl, rfl, rfl, rfl, trivial⟩
                        refine then_normal ?_
                        refine wp_region_lit ?_
                        refine sq (opk_val hA1413 rfl (r_move (hA1413.get rfl)) fun a1414 hA1414 _ => ?_)
                        refine sq (opk_val hA1414 rfl (r_move (hA1414.get rfl)) fun a1415 hA1415 _ => ?_)
                        refine sq (opk_val hA1415 rfl (r_move (hA1415.get rfl)) fun a1416 hA1416 _ => ?_)
                        obtain ⟨r_1418, hx1419, ht1420⟩ := ht1411
                        refine sq (opk_val hA1416 rfl (r_lookup (hA1416.get rfl) (hA1416.get rfl) hx1419) fun a1417 hA1417 _ => ?_)
                        refine sq (opk_val hA1417 rfl (r_conv (hA1417.get rfl) rfl Try.underlying22) fun a1421 hA1421 _ => ?_)
                        refine sq (opk_call hA1421 rfl (r_call (args := #[Sl.v b_1350, .int .u64 (IntKind.u64.wrap r_1418)]) Try.func23 (by decide) rfl (map_arr (ml_cons (hA1421.get rfl) (ml_cons (hA1421.get rfl) ml_nil))) rfl) ht1420 fun a1423 v1429 w1424 hA1423 _ hn1426 hz1427 hK1428 => ?_)
                        obtain ⟨r_1422, rfl, ht1425⟩ := hK1428
                        refine sq (opk_val hA1423 rfl (r_assign (hA1423.get rfl)) fun a1430 hA1430 _ => ?_)
                        refine sq_end ?_
                        have hA1431 := hA1430.keep [(8, .map r_23), (16, Sl.v r_1422), (116, Sl.v l_3), (117, .int .i64 (l_3.n : Int)), (118, .int .i64 x_809), (145, Sl.v r_1338), (146, .int .i64 (r_1338.n : Int)), (147, .int .i64 x_1351)] ⟨rfl, rfl, rfl, rfl, rfl, rfl, rfl, rfl, trivial⟩
                        refine block_normal ?_
                        refine then_normal ?_
                        refine wp_region_lit ?_
                        obtain ⟨hS1433, ht1434⟩ := ht1425
                        refine sq (opk_val hA1431 rfl (r_addI (hA1431.get rfl) rfl hS1433) fun a1432 hA1432 _ => ?_)
                        refine sq (opk_val hA1432 rfl (r_move (hA1432.get rfl)) fun a1435 hA1435 _ => ?_)
                        refine sq_end ?_
                        have hA1436 := hA1435.keep [(8, .map r_23), (16, Sl.v r_1422), (116, Sl.v l_3), (117, .int .i64 (l_3.n : Int)), (118, .int .i64 x_809), (145, Sl.v r_1338), (146, .int .i64 (r_1338.n : Int)), (147, .int .i64 (x_1351 + 1))] ⟨rfl, rfl, rfl, rfl, rfl, rfl, rfl, rfl, trivial⟩
                        have hA1437 := hA1436.keep [(8, .map r_23), (16, Sl.v r_1422), (116, Sl.v l_3), (117, .int .i64 (l_3.n : Int)), (118, .int .i64 x_809), (145, Sl.v r_1338), (146, .int .i64 (r_1338.n : Int)), (147, .int .i64 (x_1351 + 1))] ⟨rfl, rfl, rfl, rfl, rfl, rfl, rfl, rfl, trivial⟩
                        exact then_normal ⟨(r_1422, x_1351 + 1, w1424), ⟨hA1437, rfl, ht1434.1⟩, ht1434.2⟩
                      · have ht1402 := ht1397.2 (of_decide_eq_false hc)
                        clear hc
                        refine wp_exit ?_
                        refine then_exit ?_
                        refine then_exit ?_
                        refine block_hit ?_
                        have hA1438 := hA1400.keep [(8, .map r_23), (16, Sl.v b_1350), (116, Sl.v l_3), (117, .int .i64 (l_3.n : Int)), (118, .int .i64 x_809)] ⟨rfl, rfl, rfl, rfl, rfl, trivial⟩
                        refine block_normal ?_
                        refine then_normal ?_
                        refine wp_region_lit ?_
                        obtain ⟨hS1440, ht1441⟩ := ht1402
                        refine sq (opk_val hA1438 rfl (r_addI (hA1438.get rfl) rfl hS1440) fun a1439 hA1439 _ => ?_)
                        refine sq (opk_val hA1439 rfl (r_move (hA1439.get rfl)) fun a1442 hA1442 _ => ?_)
                        refine sq_end ?_
                        have hA1443 := hA1442.keep [(8, .map r_23), (16, Sl.v b_1350), (116, Sl.v l_3), (117, .int .i64 (l_3.n : Int)), (118, .int .i64 (x_809 + 1))] ⟨rfl, rfl, rfl, rfl, rfl, trivial⟩
                        have hA1444 := hA1443.keep [(8, .map r_23), (16, Sl.v b_1350), (116, Sl.v l_3), (117, .int .i64 (l_3.n : Int)), (118, .int .i64 (x_809 + 1))] ⟨rfl, rfl, rfl, rfl, rfl, trivial⟩
                        exact then_normal ⟨(b_1350, x_809 + 1, w1352), ⟨hA1444, rfl, ht1441.1⟩, ht1441.2⟩
          · have ht1135 := ht1130.2 (of_decide_eq_false hc)
            clear hc
            refine wp_exit ?_
            refine then_exit ?_
            refine then_exit ?_
            refine block_hit ?_
            have hA1446 := hA1133.keep [(16, Sl.v b_808)] ⟨rfl, trivial⟩
            refine then_normal ?_
            refine wp_seq ?_
            refine wp_seq ?_
            refine wp_region_lit ?_
            refine sq (opk_val hA1446 rfl (r_move (hA1446.get rfl)) fun a1447 hA1447 _ => ?_)
            refine sq (opk_val hA1447 rfl (r_len (hA1447.get rfl) Try.underlying24) fun a1448 hA1448 _ => ?_)
            obtain ⟨hS1450, ht1451⟩ := ht1135
            refine sq (opk_val hA1448 rfl (r_addI (hA1448.get rfl) rfl hS1450) fun a1449 hA1449 _ => ?_)
            refine sq (opk_val hA1449 rfl (r_gtr (hA1449.get rfl) rfl) fun a1452 hA1452 _ => ?_)
            refine sq_end ?_
            have hA1453 := hA1452.keep [(16, Sl.v b_808), (162, .bool (decide (65536 < ((b_808.n : Int) + 4))))] ⟨rfl, rfl, trivial⟩
            refine then_normal ?_
            refine wp_cond_split (hA1453.get rfl) (fun hc => ?_) (fun hc => ?_)
            · have ht1454 := ht1451.1 (of_decide_eq_true hc)
              clear hc
              refine wp_seq ?_
              refine wp_region_lit ?_
              refine sq (opk_val hA1453 rfl (r_assign rfl) fun a1456 hA1456 _ => ?_)
              refine sq (opk_val hA1456 rfl (r_assign rfl) fun a1457 hA1457 _ => ?_)
              refine sq_end ?_
              have hA1458 := hA1457.keep [(6, Sl.v Sl.nil), (7, .int .i64 2)] ⟨rfl, rfl, trivial⟩
              refine then_normal ?_
              refine wp_ret ?_
              refine then_ret ?_
              exact res_all (vs := [Sl.v Sl.nil, .int .i64 2]) rfl hA1458 ⟨res_of_tmp hA1458 rfl, res_of_tmp hA1458 rfl, trivial⟩ ht1454
            · have ht1455 := ht1451.2 (of_decide_eq_false hc)
              clear hc
              refine wp_skip ?_
              refine then_normal ?_
              refine wp_seq ?_
              refine wp_region_lit ?_
              refine sq (opk_val hA1453 rfl (r_move (hA1453.get rfl)) fun a1459 hA1459 _ => ?_)
              refine sq (opk_val hA1459 rfl (r_move (hA1459.get rfl)) fun a1460 hA1460 _ => ?_)
              refine sq (opk_call hA1460 rfl (r_call (args := #[Sl.v b_808]) Try.func26 (by decide) rfl (map_arr (ml_cons (hA1460.get rfl) ml_nil)) rfl) ht1455 fun a1462 v1468 w1463 hA1462 _ hn1465 hz1466 hK1467 => ?_)
              obtain ⟨r_1461, rfl, ht1464⟩ := hK1467
              refine sq (opk_run hA1462 rfl (fun _ _ hr => r_append (hA1462.get rfl) (hA1462.get rfl) hr) ht1464 fun a1469 v1475 w1470 hA1469 _ hn1472 hz1473 hK1474 => ?_)
              obtain ⟨r_1476, rfl, ht1471⟩ := hK1474
              refine sq (opk_val hA1469 rfl (r_assign (hA1469.get rfl)) fun a1477 hA1477 _ => ?_)
              refine sq (opk_val hA1477 rfl (r_assign rfl) fun a1478 hA1478 _ => ?_)
              refine sq_end ?_
              have hA1479 := hA1478.keep [(6, Sl.v r_1476), (7, .int .i64 0)] ⟨rfl, rfl, trivial⟩
              refine then_normal ?_
              refine wp_ret ?_
              exact res_all (vs := [Sl.v r_1476, .int .i64 0]) rfl hA1479 ⟨res_of_tmp hA1479 rfl, res_of_tmp hA1479 rfl, trivial⟩ ht1471

/-- The condition of topiary/codec.Decode. -/
def codec_Decode.vc (p_1 : Sl) (R : Value → World → Prop) (w : World) : Prop :=
((65536 < (p_1.n : Int)) →
R (.tuple #[.int .u64 0, .int .u64 0, Sl.v Sl.nil, .int .i64 2]) w) ∧
((¬ (65536 < (p_1.n : Int))) →
(((p_1.n : Int) < 26) →
R (.tuple #[.int .u64 0, .int .u64 0, Sl.v Sl.nil, .int .i64 9]) w) ∧
((¬ ((p_1.n : Int) < 26)) →
∀ (w31 : World), Chg [] w w31 →
(I64 ((p_1.n : Int) - 4)) ∧
((0 : Int) ≤ (p_1.n : Int) - 4 ∧ (p_1.n : Int) - 4 ≤ (p_1.c : Int)) ∧
∃ V_45 : Sl → World → Prop, (∀ r_44 : Sl, ∀ w' w'' : World, Ext w' w'' → V_45 r_44 w' → V_45 r_44 w'') ∧
(∀ w' : World, Ext w31 w' → Calls Try.prog 26 #[Sl.v (Sl.cut p_1 1 0 ((p_1.n : Int) - 4).toNat p_1.c)] w' (Ret fun v w'' => Ext w' w'' ∧ ∃ r_44 : Sl, v = Sl.v r_44 ∧ V_45 r_44 w'')) ∧
∃ s_51 : Str, (∀ r_44 : Sl, ∀ w' : World, Ext w31 w' → V_45 r_44 w' → (convert 24 9 (Sl.v r_44)).run Try.prog w' = .ok (.string (Bs s_51)) w') ∧
(I64 ((p_1.n : Int) - 4)) ∧
((0 : Int) ≤ (p_1.n : Int) - 4 ∧ (p_1.n : Int) - 4 ≤ (p_1.n : Int)) ∧
∃ s_63 : Str, (∀ w' : World, Ext w31 w' → (convert 24 9 (Sl.v (Sl.cut p_1 1 ((p_1.n : Int) - 4).toNat p_1.n p_1.c))).run Try.prog w' = .ok (.string (Bs s_63)) w') ∧
((s_51 ≠ s_63) →
∀ (w70 : World), Chg [] w31 w70 →
R (.tuple #[.int .u64 0, .int .u64 0, Sl.v Sl.nil, .int .i64 11]) w70) ∧
((¬ (s_51 ≠ s_63)) →
(I64 ((p_1.n : Int) - 4)) ∧
((0 : Int) ≤ (p_1.n : Int) - 4 ∧ (p_1.n : Int) - 4 ≤ (p_1.c : Int)) ∧
∀ (w98 : World) (B_97 : Nat), New w31 B_97 w98 → Chg [] w31 w98 →
∀ (_ : Box w98 B_97 63 [Sl.v (Sl.cut p_1 1 0 ((p_1.n : Int) - 4).toNat p_1.c), .int .i64 4, .bool false]),
CallK Try.prog 33 #[.pointer (some (⟨B_97, 0, none⟩ : Addr))] w98 [] (fun v w112 => ∃ (r_110 : Int), v = .int .u64 r_110 ∧
CallK Try.prog 33 #[.pointer (some (⟨B_97, 0, none⟩ : Addr))] w112 [] (fun v w121 => ∃ (r_119 : Int), v = .int .u64 r_119 ∧
CallK Try.prog 34 #[.pointer (some (⟨B_97, 0, none⟩ : Addr))] w121 [] (fun v w135 => ∃ (r_133 : Int), v = .int .u64 r_133 ∧
∃ (J_146 : Sl → Int → World → Prop) (mu_147 : Sl → Int → World → Nat),
J_146 Sl.nil r_133 w135 ∧
(∀ (all_143 : Sl) (n_144 : Int) (w145 : World), J_146 all_143 n_144 w145 →
∃ (x_210 : Bool), (((0 < n_144)) → w145.cell? ((⟨B_97, 0, none⟩ : Addr).add 2) = some (.bool x_210)) ∧
(((0 < n_144) ∧ (x_210 = false)) →
CallK Try.prog 35 #[.pointer (some (⟨B_97, 0, none⟩ : Addr))] w145 [] (fun v w222 => ∃ (r_220 : Str), v = .string (Bs r_220) ∧
∀ (w229 : World) (B_228 : Nat), New w222 B_228 w229 → Chg [] w222 w229 →
∀ (_ : Box w229 B_228 9 [.string (Bs r_220)]),
RunK Try.prog (Builtin.append_ #[46, 46] 46 #[Sl.v all_143, Sl.v (Sl.mk (some ⟨B_228, 0, none⟩) 1 1)]) w229 [] (fun v w239 => ∃ (r_245 : Sl), v = Sl.v r_245 ∧
J_146 r_245 (IntKind.u64.wrap (n_144 - 1)) w239 ∧ mu_147 r_245 (IntKind.u64.wrap (n_144 - 1)) w239 < mu_147 all_143 n_144 w145))) ∧
(((¬ (0 < n_144)) ∨ (x_210 = true)) →
CallK Try.prog 34 #[.pointer (some (⟨B_97, 0, none⟩ : Addr))] w145 [] (fun v w259 => ∃ (r_257 : Int), v = .int .u64 r_257 ∧
∃ (J_270 : Sl → Int → World → Prop) (mu_271 : Sl → Int → World → Nat),
J_270 Sl.nil r_257 w259 ∧
(∀ (l_267 : Sl) (n_268 : Int) (w269 : World), J_270 l_267 n_268 w269 →
∃ (x_340 : Bool), (((0 < n_268)) → w269.cell? ((⟨B_97, 0, none⟩ : Addr).add 2) = some (.bool x_340)) ∧
((((0 < n_268) ∧ (x_340 = false)) ∧ ((l_267.n : Int) ≤ 1500)) →
CallK Try.prog 36 #[.pointer (some (⟨B_97, 0, none⟩ : Addr)), Sl.v all_143] w269 [] (fun v w358 => ∃ (r_356_Kind : Int) (r_356_ID : Int) (r_356_Parent : Int) (r_356_At : Int) (r_356_What : Int) (r_356_Name : Str) (r_356_Text : Str), v = .agg #[.int .i64 r_356_Kind, .int .i64 r_356_ID, .int .i64 r_356_Parent, .int .i64 r_356_At, .int .i64 r_356_What, .string (Bs r_356_Name), .string (Bs r_356_Text)] ∧
∀ (w365 : World) (B_364 : Nat), New w358 B_364 w365 → Chg [] w358 w365 →
∀ (_ : Box w365 B_364 42 [.int .i64 r_356_Kind, .int .i64 r_356_ID, .int .i64 r_356_Parent, .int .i64 r_356_At, .int .i64 r_356_What, .string (Bs r_356_Name), .string (Bs r_356_Text)]),
RunK Try.prog (Builtin.append_ #[23, 23] 23 #[Sl.v l_267, Sl.v (Sl.mk (some ⟨B_364, 0, none⟩) 1 1)]) w365 [] (fun v w375 => ∃ (r_381 : Sl), v = Sl.v r_381 ∧
J_270 r_381 (IntKind.u64.wrap (n_268 - 1)) w375 ∧ mu_271 r_381 (IntKind.u64.wrap (n_268 - 1)) w375 < mu_271 l_267 n_268 w269))) ∧
((((¬ (0 < n_268)) ∨ (x_340 = true)) ∨ (¬ ((l_267.n : Int) ≤ 1500))) →
∃ (x_394 : Bool), (w269.cell? ((⟨B_97, 0, none⟩ : Addr).add 2) = some (.bool x_394)) ∧
((x_394 = true) →
R (.tuple #[.int .u64 0, .int .u64 0, Sl.v Sl.nil, .int .i64 10]) w269) ∧
((x_394 = false) →
CallK Try.prog 10 #[.int .u64 r_110, .int .u64 r_119, Sl.v l_267] w269 [] (fun v w411 => ∃ (r_0_408 : Sl) (r_1_409 : Int), v = .tuple #[Sl.v r_0_408, .int .i64 r_1_409] ∧
∃ s_427 : Str, (((¬ (r_1_409 ≠ 0))) → (convert 24 9 (Sl.v r_0_408)).run Try.prog w411 = .ok (.string (Bs s_427)) w411) ∧
∃ s_432 : Str, (((¬ (r_1_409 ≠ 0))) → (convert 24 9 (Sl.v p_1)).run Try.prog w411 = .ok (.string (Bs s_432)) w411) ∧
(((r_1_409 ≠ 0) ∨ (s_427 ≠ s_432)) →
R (.tuple #[.int .u64 0, .int .u64 0, Sl.v Sl.nil, .int .i64 10]) w411) ∧
(((¬ (r_1_409 ≠ 0)) ∧ (¬ (s_427 ≠ s_432))) →
R (.tuple #[.int .u64 r_110, .int .u64 r_119, Sl.v l_267, .int .i64 0]) w411))))))))))))))
set_option maxHeartbeats 1000000 in
set_option maxRecDepth 10000 in
theorem codec_Decode.ok (p_1 : Sl) {R : Value → World → Prop} {w : World} (ht0 : codec_Decode.vc p_1 R w) : Calls Try.prog 13 #[Sl.v p_1] w (Ret R) := by
  refine enter [Sl.v p_1] Try.func13 rfl Try.ntmps13 rfl ?_
  intro a0 hA0
  unfold codec_Decode.vc at ht0
  refine wp_seq ?_
  refine wp_region_lit ?_
  refine sq (opk_val hA0 rfl (r_assign rfl) fun a2 hA2 _ => ?_)
  refine sq (opk_val hA2 rfl (r_assign rfl) fun a3 hA3 _ => ?_)
  refine sq (opk_val hA3 rfl (r_assign rfl) fun a4 hA4 _ => ?_)
  refine sq (opk_val hA4 rfl (r_assign rfl) fun a5 hA5 _ => ?_)
  refine sq_end ?_
  have hA6 := hA5.keep [(0, Sl.v p_1)] ⟨rfl, trivial⟩
  refine then_normal ?_
  refine wp_seq ?_
  refine wp_block ?_
  refine wp_seq ?_
  refine wp_region_lit ?_
  refine sq (opk_val hA6 rfl (r_move (hA6.get rfl)) fun a7 hA7 _ => ?_)
  refine sq (opk_val hA7 rfl (r_len (hA7.get rfl) Try.underlying24) fun a8 hA8 _ => ?_)
  refine sq (opk_val hA8 rfl (r_gtr (hA8.get rfl) rfl) fun a9 hA9 _ => ?_)
  refine sq (opk_val hA9 rfl (r_assign (hA9.get rfl)) fun a10 hA10 _ => ?_)
  refine sq_end ?_
  have hA11 := hA10.keep [(0, Sl.v p_1), (15, .bool (decide (65536 < (p_1.n : Int))))] ⟨rfl, rfl, trivial⟩
  refine then_normal ?_
  refine wp_cond_split (hA11.get rfl) (fun hc => ?_) (fun hc => ?_)
  · have ht12 := ht0.1 (of_decide_eq_true hc)
    clear hc
    refine wp_seq ?_
    refine wp_region_lit ?_
    refine sq (opk_val hA11 rfl (r_assign rfl) fun a14 hA14 _ => ?_)
    refine sq (opk_val hA14 rfl (r_assign rfl) fun a15 hA15 _ => ?_)
    refine sq (opk_val hA15 rfl (r_assign rfl) fun a16 hA16 _ => ?_)
    refine sq (opk_val hA16 rfl (r_assign rfl) fun a17 hA17 _ => ?_)
    refine sq_end ?_
    have hA18 := hA17.keep [(2, .int .u64 0), (3, .int .u64 0), (4, Sl.v Sl.nil), (5, .int .i64 2)] ⟨rfl, rfl, rfl, rfl, trivial⟩
    refine then_normal ?_
    refine wp_ret ?_
    refine block_ret ?_
    refine then_ret ?_
    exact res_all (vs := [.int .u64 0, .int .u64 0, Sl.v Sl.nil, .int .i64 2]) rfl hA18 ⟨res_of_tmp hA18 rfl, res_of_tmp hA18 rfl, res_of_tmp hA18 rfl, res_of_tmp hA18 rfl, trivial⟩ ht12
  · have ht13 := ht0.2 (of_decide_eq_false hc)
    clear hc
    refine wp_seq ?_
    refine wp_region_lit ?_
    refine sq (opk_val hA11 rfl (r_move (hA11.get rfl)) fun a19 hA19 _ => ?_)
    refine sq (opk_val hA19 rfl (r_len (hA19.get rfl) Try.underlying24) fun a20 hA20 _ => ?_)
    refine sq (opk_val hA20 rfl (r_lss (hA20.get rfl) rfl) fun a21 hA21 _ => ?_)
    refine sq (opk_val hA21 rfl (r_assign (hA21.get rfl)) fun a22 hA22 _ => ?_)
    refine sq_end ?_
    have hA23 := hA22.keep [(0, Sl.v p_1), (19, .bool (decide ((p_1.n : Int) < 26)))] ⟨rfl, rfl, trivial⟩
    refine then_normal ?_
    refine wp_cond_split (hA23.get rfl) (fun hc => ?_) (fun hc => ?_)
    · have ht24 := ht13.1 (of_decide_eq_true hc)
      clear hc
      refine wp_seq ?_
      refine wp_region_lit ?_
      refine sq (opk_val hA23 rfl (r_assign rfl) fun a26 hA26 _ => ?_)
      refine sq (opk_val hA26 rfl (r_assign rfl) fun a27 hA27 _ => ?_)
      refine sq (opk_val hA27 rfl (r_assign rfl) fun a28 hA28 _ => ?_)
      refine sq (opk_val hA28 rfl (r_assign rfl) fun a29 hA29 _ => ?_)
      refine sq_end ?_
      have hA30 := hA29.keep [(2, .int .u64 0), (3, .int .u64 0), (4, Sl.v Sl.nil), (5, .int .i64 9)] ⟨rfl, rfl, rfl, rfl, trivial⟩
      refine then_normal ?_
      refine wp_ret ?_
      refine block_ret ?_
      refine then_ret ?_
      exact res_all (vs := [.int .u64 0, .int .u64 0, Sl.v Sl.nil, .int .i64 9]) rfl hA30 ⟨res_of_tmp hA30 rfl, res_of_tmp hA30 rfl, res_of_tmp hA30 rfl, res_of_tmp hA30 rfl, trivial⟩ ht24
    · have ht25 := ht13.2 (of_decide_eq_false hc)
      clear hc
      refine wp_seq ?_
      refine draw' (by kernel_rfl) fun w31 hE32 => ?_
      have hC33 : Chg [] w w31 := hE32
      have ht34 := ht25 w31    hC33
      obtain ⟨hS37, ht38⟩ := ht34
      obtain ⟨hS41, ht42⟩ := ht38
      obtain ⟨V_45, hst46, hc47, ht48⟩ := ht42
      obtain ⟨s_51, hx52, ht53⟩ := ht48
      obtain ⟨hS56, ht57⟩ := ht53
      obtain ⟨hS60, ht61⟩ := ht57
      obtain ⟨s_63, hx64, ht65⟩ := ht61
      refine par (D := [[], [], [1], [1, 2], [0, 1, 2, 3], [0, 1, 2, 3, 4], [0, 1, 2, 3, 4, 5], [], [], [8], [8, 9], [7, 8, 9, 10], [7, 8, 9, 10, 11], [0, 1, 2, 3, 4, 5, 6, 7, 8, 9, 10, 11, 12], [0, 1, 2, 3, 4, 5, 6, 7, 8, 9, 10, 11, 12, 13]]) (S := [0, 1, 2, 3, 4, 5, 6, 7, 8, 9, 10, 11, 12, 13, 14]) (F := []) (V := VL [(0, fun v _ => v = Sl.v p_1), (1, fun v _ => v = Sl.v p_1), (2, fun v _ => v = .int .i64 (p_1.n : Int)), (3, fun v _ => v = .int .i64 ((p_1.n : Int) - 4)), (4, fun v _ => v = Sl.v (Sl.cut p_1 1 0 ((p_1.n : Int) - 4).toNat p_1.c)), (5, fun v w' => ∃ r_44 : Sl, V_45 r_44 w' ∧ v = Sl.v r_44), (6, fun v _ => v = .string (Bs s_51)), (7, fun v _ => v = Sl.v p_1), (8, fun v _ => v = Sl.v p_1), (9, fun v _ => v = .int .i64 (p_1.n : Int)), (10, fun v _ => v = .int .i64 ((p_1.n : Int) - 4)), (11, fun v _ => v = Sl.v (Sl.cut p_1 1 ((p_1.n : Int) - 4).toNat p_1.n p_1.c)), (12, fun v _ => v = .string (Bs s_63)), (13, fun v _ => v = .bool (decide (s_51 ≠ s_63))), (14, fun v _ => v = .bool (decide (s_51 ≠ s_63)))]) hA23 (by kernel_rfl) ⟨fun _ _ _ _ h => by first | exact h | (change _ = _ at h; change _ = _; exact h), fun _ _ _ _ h => by first | exact h | (change _ = _ at h; change _ = _; exact h), fun _ _ _ _ h => by first | exact h | (change _ = _ at h; change _ = _; exact h), fun _ _ _ _ h => by first | exact h | (change _ = _ at h; change _ = _; exact h), fun _ _ _ _ h => by first | exact h | (change _ = _ at h; change _ = _; exact h), fun _ _ _ hE ⟨r_44, h0_, e⟩ => ⟨r_44, (hst46 r_44 _ _ hE h0_), e⟩, fun _ _ _ _ h => by first | exact h | (change _ = _ at h; change _ = _; exact h), fun _ _ _ _ h => by first | exact h | (change _ = _ at h; change _ = _; exact h), fun _ _ _ _ h => by first | exact h | (change _ = _ at h; change _ = _; exact h), fun _ _ _ _ h => by first | exact h | (change _ = _ at h; change _ = _; exact h), fun _ _ _ _ h => by first | exact h | (change _ = _ at h; change _ = _; exact h), fun _ _ _ _ h => by first | exact h | (change _ = _ at h; change _ = _; exact h), fun _ _ _ _ h => by first | exact h | (change _ = _ at h; change _ = _; exact h), fun _ _ _ _ h => by first | exact h | (change _ = _ at h; change _ = _; exact h), fun _ _ _ _ h => by first | exact h | (change _ = _ at h; change _ = _; exact h), trivial⟩ ⟨?_, ?_, ?_, ?_, ?_, ?_, ?_, ?_, ?_, ?_, ?_, ?_, ?_, ?_, ?_, trivial⟩ ?_
      · intro a w hT
        have hAp := hT.ag hA23 [(0, Sl.v p_1)] ⟨rfl, trivial⟩ (by kernel_rfl)
        exact opk_val hAp rfl (r_move (hAp.get rfl)) fun _ _ e => ⟨_, e, Chg.refl _ _, fun _ => Eq.refl _⟩
      · intro a w hT
        have hAp := hT.ag hA23 [(0, Sl.v p_1)] ⟨rfl, trivial⟩ (by kernel_rfl)
        exact opk_val hAp rfl (r_move (hAp.get rfl)) fun _ _ e => ⟨_, e, Chg.refl _ _, fun _ => Eq.refl _⟩
      · intro a w hT
        have hAp := hT.ag hA23 [] trivial (by kernel_rfl)
        have e35 : a.tmps.getD 25 undef = Sl.v p_1 := hT.vals 1 rfl 25 rfl
        have hAp := hAp.add e35
        exact opk_val hAp rfl (r_len (hAp.get rfl) Try.underlying24) fun _ _ e => ⟨_, e, Chg.refl _ _, fun _ => Eq.refl _⟩
      · intro a w hT
        have hAp := hT.ag hA23 [] trivial (by kernel_rfl)
        have e36 : a.tmps.getD 26 undef = .int .i64 (p_1.n : Int) := hT.vals 2 rfl 26 rfl
        have hAp := hAp.add e36
        exact opk_val hAp rfl (r_subI (hAp.get rfl) rfl hS37) fun _ _ e => ⟨_, e, Chg.refl _ _, fun _ => Eq.refl _⟩
      · intro a w hT
        have hAp := hT.ag hA23 [] trivial (by kernel_rfl)
        have e39 : a.tmps.getD 24 undef = Sl.v p_1 := hT.vals 0 rfl 24 rfl
        have hAp := hAp.add e39
        have e40 : a.tmps.getD 27 undef = .int .i64 ((p_1.n : Int) - 4) := hT.vals 3 rfl 27 rfl
        have hAp := hAp.add e40
        exact opk_val hAp rfl (r_sliceH (hAp.get rfl) (hAp.get rfl) Try.underlying24 ti_5 hS41) fun _ _ e => ⟨_, e, Chg.refl _ _, fun _ => Eq.refl _⟩
      · intro a w hT
        have hAp := hT.ag hA23 [] trivial (by kernel_rfl)
        have e43 : a.tmps.getD 28 undef = Sl.v (Sl.cut p_1 1 0 ((p_1.n : Int) - 4).toNat p_1.c) := hT.vals 4 rfl 28 rfl
        have hAp := hAp.add e43
        exact opk_callX hAp rfl (r_call (args := #[Sl.v (Sl.cut p_1 1 0 ((p_1.n : Int) - 4).toNat p_1.c)]) Try.func26 (by decide) rfl (map_arr (ml_cons (hAp.get rfl) ml_nil)) rfl) (hc47 w hT.chg) fun _ _ _ _ e ⟨hE, r_44, he, hV⟩ => ⟨_, e, hE, fun _ => ⟨r_44, hV, he⟩⟩
      · intro a w hT
        have hAp := hT.ag hA23 [] trivial (by kernel_rfl)
        obtain ⟨r_44, hf50, e49⟩ := hT.vals 5 rfl 29 rfl
        have hAp := hAp.add e49
        exact opk_val hAp rfl (r_convR (hAp.get rfl) (hx52 r_44 w hT.chg hf50)) fun _ _ e => ⟨_, e, Chg.refl _ _, fun _ => Eq.refl _⟩
      · intro a w hT
        have hAp := hT.ag hA23 [(0, Sl.v p_1)] ⟨rfl, trivial⟩ (by kernel_rfl)
        exact opk_val hAp rfl (r_move (hAp.get rfl)) fun _ _ e => ⟨_, e, Chg.refl _ _, fun _ => Eq.refl _⟩
      · intro a w hT
        have hAp := hT.ag hA23 [(0, Sl.v p_1)] ⟨rfl, trivial⟩ (by kernel_rfl)
        exact opk_val hAp rfl (r_move (hAp.get rfl)) fun _ _ e => ⟨_, e, Chg.refl _ _, fun _ => Eq.refl _⟩
      · intro a w hT
        have hAp := hT.ag hA23 [] trivial (by kernel_rfl)
        have e54 : a.tmps.getD 32 undef = Sl.v p_1 := hT.vals 8 rfl 32 rfl
        have hAp := hAp.add e54
        exact opk_val hAp rfl (r_len (hAp.get rfl) Try.underlying24) fun _ _ e => ⟨_, e, Chg.refl _ _, fun _ => Eq.refl _⟩
      · intro a w hT
        have hAp := hT.ag hA23 [] trivial (by kernel_rfl)
        have e55 : a.tmps.getD 33 undef = .int .i64 (p_1.n : Int) := hT.vals 9 rfl 33 rfl
        have hAp := hAp.add e55
        exact opk_val hAp rfl (r_subI (hAp.get rfl) rfl hS56) fun _ _ e => ⟨_, e, Chg.refl _ _, fun _ => Eq.refl _⟩
      · intro a w hT
        have hAp := hT.ag hA23 [] trivial (by kernel_rfl)
        have e58 : a.tmps.getD 31 undef = Sl.v p_1 := hT.vals 7 rfl 31 rfl
        have hAp := hAp.add e58
        have e59 : a.tmps.getD 34 undef = .int .i64 ((p_1.n : Int) - 4) := hT.vals 10 rfl 34 rfl
        have hAp := hAp.add e59
        exact opk_val hAp rfl (r_sliceL (hAp.get rfl) (hAp.get rfl) Try.underlying24 ti_5 hS60) fun _ _ e => ⟨_, e, Chg.refl _ _, fun _ => Eq.refl _⟩
      · intro a w hT
        have hAp := hT.ag hA23 [] trivial (by kernel_rfl)
        have e62 : a.tmps.getD 35 undef = Sl.v (Sl.cut p_1 1 ((p_1.n : Int) - 4).toNat p_1.n p_1.c) := hT.vals 11 rfl 35 rfl
        have hAp := hAp.add e62
        exact opk_val hAp rfl (r_convR (hAp.get rfl) (hx64 w hT.chg)) fun _ _ e => ⟨_, e, Chg.refl _ _, fun _ => Eq.refl _⟩
      · intro a w hT
        have hAp := hT.ag hA23 [] trivial (by kernel_rfl)
        have e66 : a.tmps.getD 30 undef = .string (Bs s_51) := hT.vals 6 rfl 30 rfl
        have hAp := hAp.add e66
        have e67 : a.tmps.getD 36 undef = .string (Bs s_63) := hT.vals 12 rfl 36 rfl
        have hAp := hAp.add e67
        exact opk_val hAp rfl (r_sneq (hAp.get rfl) (hAp.get rfl)) fun _ _ e => ⟨_, e, Chg.refl _ _, fun _ => Eq.refl _⟩
      · intro a w hT
        have hAp := hT.ag hA23 [] trivial (by kernel_rfl)
        have e68 : a.tmps.getD 37 undef = .bool (decide (s_51 ≠ s_63)) := hT.vals 13 rfl 37 rfl
        have hAp := hAp.add e68
        exact opk_val hAp rfl (r_assign (hAp.get rfl)) fun _ _ e => ⟨_, e, Chg.refl _ _, fun _ => Eq.refl _⟩
      · intro a69 w70 hE71 hag72 hv73
        have hA69 := hag72 [(0, Sl.v p_1)] ⟨rfl, trivial⟩ (by kernel_rfl)
        have e75 : a69.tmps.getD 23 undef = .bool (decide (s_51 ≠ s_63)) := hv73 14 rfl 23 rfl
        have hA76 := hA69.add e75
        have hC77 : Chg [] w31 w70 := hE71
        refine PR_end (by kernel_rfl) ?_
        have hA78 := hA76.keep [(0, Sl.v p_1), (23, .bool (decide (s_51 ≠ s_63)))] ⟨rfl, rfl, trivial⟩
        refine then_normal ?_
        refine wp_cond_split (hA78.get rfl) (fun hc => ?_) (fun hc => ?_)
        · have ht79 := ht65.1 (of_decide_eq_true hc)
          clear hc
          refine wp_seq ?_
          refine wp_region_lit ?_
          refine sq (opk_val hA78 rfl (r_assign rfl) fun a81 hA81 _ => ?_)
          refine sq (opk_val hA81 rfl (r_assign rfl) fun a82 hA82 _ => ?_)
          refine sq (opk_val hA82 rfl (r_assign rfl) fun a83 hA83 _ => ?_)
          refine sq (opk_val hA83 rfl (r_assign rfl) fun a84 hA84 _ => ?_)
          refine sq_end ?_
          have hA85 := hA84.keep [(2, .int .u64 0), (3, .int .u64 0), (4, Sl.v Sl.nil), (5, .int .i64 11)] ⟨rfl, rfl, rfl, rfl, trivial⟩
          refine then_normal ?_
          refine wp_ret ?_
          refine block_ret ?_
          refine then_ret ?_
          have ht86 := ht79 w70    hC77
          exact res_all (vs := [.int .u64 0, .int .u64 0, Sl.v Sl.nil, .int .i64 11]) rfl hA85 ⟨res_of_tmp hA85 rfl, res_of_tmp hA85 rfl, res_of_tmp hA85 rfl, res_of_tmp hA85 rfl, trivial⟩ ht86
        · have ht80 := ht65.2 (of_decide_eq_false hc)
          clear hc
          refine wp_skip ?_
          refine block_normal ?_
          refine then_normal ?_
          refine wp_seq ?_
          refine wp_region_lit ?_
          refine sq (opk_val hA78 rfl (r_move (hA78.get rfl)) fun a87 hA87 _ => ?_)
          refine sq (opk_val hA87 rfl (r_move (hA87.get rfl)) fun a88 hA88 _ => ?_)
          refine sq (opk_val hA88 rfl (r_len (hA88.get rfl) Try.underlying24) fun a89 hA89 _ => ?_)
          obtain ⟨hS91, ht92⟩ := ht80
          refine sq (opk_val hA89 rfl (r_subI (hA89.get rfl) rfl hS91) fun a90 hA90 _ => ?_)
          obtain ⟨hS94, ht95⟩ := ht92
          refine sq (opk_val hA90 rfl (r_sliceH (hA90.get rfl) (hA90.get rfl) Try.underlying24 ti_5 hS94) fun a93 hA93 _ => ?_)
          refine sq (opk_val hA93 rfl (r_build (vs := #[(0, Sl.v (Sl.cut p_1 1 0 ((p_1.n : Int) - 4).toNat p_1.c)), (1, .int .i64 4)]) (cells := #[Sl.v (Sl.cut p_1 1 0 ((p_1.n : Int) - 4).toNat p_1.c), .int .i64 4, .bool false]) (map_arr2 (ml2_cons (hA93.get rfl) (ml2_cons rfl (ml2_nil)))) ti_63 Try.underlying63 pl_63 (by kernel_rfl)) fun a96 hA96 _ => ?_)
          refine sq (opk_new (fun B => .pointer (some ⟨B, 0, none⟩)) hA96 rfl (r_box (cs := [Sl.v (Sl.cut p_1 1 0 ((p_1.n : Int) - 4).toNat p_1.c), .int .i64 4, .bool false]) (hA96.get rfl) rfl) fun a99 w98 B_97 hE100 hN101 hB102 hA99 _ => ?_)
          have hN103 := New.of hC77 hN101
          have hC104 := hC77.more hE100
          refine sq (opk_val hA99 rfl (r_assign (hA99.get rfl)) fun a105 hA105 _ => ?_)
          refine sq_end ?_
          have hA106 := hA105.keep [(0, Sl.v p_1), (6, .pointer (some (⟨B_97, 0, none⟩ : Addr)))] ⟨rfl, rfl, trivial⟩
          refine then_normal ?_
          refine wp_seq ?_
          refine wp_region_lit ?_
          refine sq (opk_val hA106 rfl (r_move (hA106.get rfl)) fun a107 hA107 _ => ?_)
          have ht108 := ht95 w98 B_97 hN103  hC104
          have ht109 := ht108 hB102
          refine sq (opk_call hA107 rfl (r_call (args := #[.pointer (some (⟨B_97, 0, none⟩ : Addr))]) Try.func33 (by decide) rfl (map_arr (ml_cons (hA107.get rfl) ml_nil)) rfl) ht109 fun a111 v117 w112 hA111 _ hn114 hz115 hK116 => ?_)
          obtain ⟨r_110, rfl, ht113⟩ := hK116
          refine sq (opk_val hA111 rfl (r_move (hA111.get rfl)) fun a118 hA118 _ => ?_)
          refine sq (opk_call hA118 rfl (r_call (args := #[.pointer (some (⟨B_97, 0, none⟩ : Addr))]) Try.func33 (by decide) rfl (map_arr (ml_cons (hA118.get rfl) ml_nil)) rfl) ht113 fun a120 v126 w121 hA120 _ hn123 hz124 hK125 => ?_)
          obtain ⟨r_119, rfl, ht122⟩ := hK125
          refine sq (opk_val hA120 rfl (r_assign (hA120.get rfl)) fun a127 hA127 _ => ?_)
          refine sq (opk_val hA127 rfl (r_assign (hA127.get rfl)) fun a128 hA128 _ => ?_)
          refine sq_end ?_
          have hA129 := hA128.keep [(0, Sl.v p_1), (6, .pointer (some (⟨B_97, 0, none⟩ : Addr))), (7, .int .u64 r_110), (8, .int .u64 r_119)] ⟨rfl, rfl, rfl, rfl, trivial⟩
          refine then_normal ?_
          refine wp_seq ?_
          refine wp_region_lit ?_
          refine sq (opk_val hA129 rfl (r_assign rfl) fun a130 hA130 _ => ?_)
          refine sq_end ?_
          have hA131 := hA130.keep [(0, Sl.v p_1), (6, .pointer (some (⟨B_97, 0, none⟩ : Addr))), (7, .int .u64 r_110), (8, .int .u64 r_119), (9, Sl.v Sl.nil)] ⟨rfl, rfl, rfl, rfl, rfl, trivial⟩
          refine then_normal ?_
          refine wp_seq ?_
          refine wp_seq ?_
          refine wp_region_lit ?_
          refine sq (opk_val hA131 rfl (r_move (hA131.get rfl)) fun a132 hA132 _ => ?_)
          refine sq (opk_call hA132 rfl (r_call (args := #[.pointer (some (⟨B_97, 0, none⟩ : Addr))]) Try.func34 (by decide) rfl (map_arr (ml_cons (hA132.get rfl) ml_nil)) rfl) ht122 fun a134 v140 w135 hA134 _ hn137 hz138 hK139 => ?_)
          obtain ⟨r_133, rfl, ht136⟩ := hK139
          refine sq (opk_val hA134 rfl (r_assign (hA134.get rfl)) fun a141 hA141 _ => ?_)
          refine sq_end ?_
          have hA142 := hA141.keep [(0, Sl.v p_1), (6, .pointer (some (⟨B_97, 0, none⟩ : Addr))), (7, .int .u64 r_110), (8, .int .u64 r_119), (9, Sl.v Sl.nil), (10, .int .u64 r_133)] ⟨rfl, rfl, rfl, rfl, rfl, rfl, trivial⟩
          refine then_normal ?_
          refine wp_block ?_
          obtain ⟨J_146, mu_147, h0200, ht199⟩ := ht136
          refine wp_loop_st (σ := Sl × Int × World) (fun s a w => Ag 114 a [(0, Sl.v p_1), (6, .pointer (some (⟨B_97, 0, none⟩ : Addr))), (7, .int .u64 r_110), (8, .int .u64 r_119), (9, Sl.v s.1), (10, .int .u64 s.2.1)] ∧ w = s.2.2 ∧ J_146 s.1 s.2.1 s.2.2) (fun s => mu_147 s.1 s.2.1 s.2.2) (Sl.nil, r_133, w135) ⟨hA142.keep [(0, Sl.v p_1), (6, .pointer (some (⟨B_97, 0, none⟩ : Addr))), (7, .int .u64 r_110), (8, .int .u64 r_119), (9, Sl.v Sl.nil), (10, .int .u64 r_133)] ⟨rfl, rfl, rfl, rfl, rfl, rfl, trivial⟩, rfl, h0200⟩ ?_
          rintro ⟨all_143, n_144, w145⟩ a198 w_ ⟨hA198, hw_, hJ202⟩
          have hw_ : w145 = w_ := hw_.symm
          subst hw_
          have ht201 := ht199 all_143 n_144 _ hJ202
          refine wp_seq ?_
          refine wp_seq ?_
          refine wp_region_lit ?_
          refine sq (opk_val hA198 rfl (r_move (hA198.get rfl)) fun a203 hA203 _ => ?_)
          refine sq (opk_val hA203 rfl (r_gtr (hA203.get rfl) rfl) fun a204 hA204 _ => ?_)
          refine sq (opk_val hA204 rfl (r_move (hA204.get rfl)) fun a205 hA205 _ => ?_)
          refine sq (opk_gval hA205 rfl rfl (g := true) (e := (decide (0 < n_144))) rfl (fun hg => r_move (hA205.get rfl)) fun a206 hA206 _ => ?_)
          refine sq (opk_gval hA206 rfl rfl (g := true) (e := (decide (0 < n_144))) rfl (fun hg => r_nilCheck (cv_get (hA206.get rfl) hg)) fun a207 hA207 _ => ?_)
          refine sq (opk_gval hA207 rfl rfl (g := true) (e := (decide (0 < n_144))) rfl (fun hg => r_fieldAddr (cv_get (hA207.get rfl) hg) Try.underlying63 rfl ti_4 (by decide)) fun a208 hA208 _ => ?_)
          obtain ⟨x_210, hx211, ht212⟩ := ht201
          refine sq (opk_gval hA208 rfl rfl (g := true) (e := (decide (0 < n_144))) rfl (fun hg => r_load1 Try.underlying4 rfl (cv_get (hA208.get rfl) hg) (hx211 (of_decide_eq_true (g_t hg)))) fun a209 hA209 _ => ?_)
          refine sq (opk_gval hA209 rfl rfl (g := true) (e := (decide (0 < n_144))) rfl (fun hg => r_not (cv_get (hA209.get rfl) hg)) fun a213 hA213 _ => ?_)
          refine sq (opk_val hA213 rfl (r_pick_and (g := (true && ((decide (0 < n_144)) == true))) (hA213.get rfl) (hA213.get rfl) (fun he => g_mkt rfl he)) fun a214 hA214 _ => ?_)
          refine sq_end ?_
          have hA215 := hA214.keep [(0, Sl.v p_1), (6, .pointer (some (⟨B_97, 0, none⟩ : Addr))), (7, .int .u64 r_110), (8, .int .u64 r_119), (9, Sl.v all_143), (10, .int .u64 n_144), (59, .bool ((decide (0 < n_144)) && (!x_210)))] ⟨rfl, rfl, rfl, rfl, rfl, rfl, rfl, trivial⟩
          refine then_normal ?_
          refine wp_cond_split (hA215.get rfl) (fun hc => ?_) (fun hc => ?_)
          · have ht216 := ht212.1 ⟨(of_decide_eq_true (b_and_t hc).1), (b_not_t (b_and_t hc).2)⟩
            clear hc
            refine wp_skip ?_
            refine then_normal ?_
            refine wp_seq ?_
            refine wp_block ?_
            refine wp_region_lit ?_
            refine sq (opk_val hA215 rfl (r_move (hA215.get rfl)) fun a218 hA218 _ => ?_)
            refine sq (opk_val hA218 rfl (r_move (hA218.get rfl)) fun a219 hA219 _ => ?_)
            refine sq (opk_call hA219 rfl (r_call (args := #[.pointer (some (⟨B_97, 0, none⟩ : Addr))]) Try.func35 (by decide) rfl (map_arr (ml_cons (hA219.get rfl) ml_nil)) rfl) ht216 fun a221 v227 w222 hA221 _ hn224 hz225 hK226 => ?_)
            obtain ⟨r_220, rfl, ht223⟩ := hK226
            refine sq (opk_new (fun B => .slice (some ⟨B, 0, none⟩) 1 1) hA221 rfl (r_buildSlice (vs := #[(0, .string (Bs r_220))]) (cs := [.string (Bs r_220)]) (map_arr2 (ml2_cons (hA221.get rfl) (ml2_nil))) Try.underlying46 ti_9 rfl rfl (by kernel_rfl)) fun a230 w229 B_228 hE231 hN232 hB233 hA230 _ => ?_)
            have hN234 : New w222 B_228 w229 := hN232
            have hC235 : Chg [] w222 w229 := hE231
            have ht236 := ht223 w229 B_228 hN234  hC235
            have ht237 := ht236 hB233
            refine sq (opk_run hA230 rfl (fun _ _ hr => r_append (hA230.get rfl) (hA230.get rfl) hr) ht237 fun a238 v244 w239 hA238 _ hn241 hz242 hK243 => ?_)
            obtain ⟨r_245, rfl, ht240⟩ := hK243
            refine sq (opk_val hA238 rfl (r_assign (hA238.get rfl)) fun a246 hA246 _ => ?_)
            refine sq_end ?_
            have hA247 := hA246.keep [(0, Sl.v p_1), (6, .pointer (some (⟨B_97, 0, none⟩ : Addr))), (7, .int .u64 r_110), (8, .int .u64 r_119), (9, Sl.v r_245), (10, .int .u64 n_144)] ⟨rfl, rfl, rfl, rfl, rfl, rfl, trivial⟩
            refine block_normal ?_
            refine then_normal ?_
            refine wp_region_lit ?_
            refine sq (opk_val hA247 rfl (r_move (hA247.get rfl)) fun a248 hA248 _ => ?_)
            refine sq (opk_val hA248 rfl (r_sub (hA248.get rfl) rfl) fun a249 hA249 _ => ?_)
            refine sq (opk_val hA249 rfl (r_assign (hA249.get rfl)) fun a250 hA250 _ => ?_)
            refine sq_end ?_
            have hA251 := hA250.keep [(0, Sl.v p_1), (6, .pointer (some (⟨B_97, 0, none⟩ : Addr))), (7, .int .u64 r_110), (8, .int .u64 r_119), (9, Sl.v r_245), (10, .int .u64 (IntKind.u64.wrap (n_144 - 1)))] ⟨rfl, rfl, rfl, rfl, rfl, rfl, trivial⟩
            have hA252 := hA251.keep [(0, Sl.v p_1), (6, .pointer (some (⟨B_97, 0, none⟩ : Addr))), (7, .int .u64 r_110), (8, .int .u64 r_119), (9, Sl.v r_245), (10, .int .u64 (IntKind.u64.wrap (n_144 - 1)))] ⟨rfl, rfl, rfl, rfl, rfl, rfl, trivial⟩
            exact then_normal ⟨(r_245, IntKind.u64.wrap (n_144 - 1), w239), ⟨hA252, rfl, ht240.1⟩, ht240.2⟩
          · have ht217 := ht212.2 ((b_and_f hc).imp (fun h => (of_decide_eq_false h)) (fun h => (b_not_f h)))
            clear hc
            refine wp_exit ?_
            refine then_exit ?_
            refine then_exit ?_
            refine block_hit ?_
            have hA253 := hA215.keep [(0, Sl.v p_1), (6, .pointer (some (⟨B_97, 0, none⟩ : Addr))), (7, .int .u64 r_110), (8, .int .u64 r_119), (9, Sl.v all_143)] ⟨rfl, rfl, rfl, rfl, rfl, trivial⟩
            refine then_normal ?_
            refine wp_seq ?_
            refine wp_region_lit ?_
            refine sq (opk_val hA253 rfl (r_assign rfl) fun a254 hA254 _ => ?_)
            refine sq_end ?_
            have hA255 := hA254.keep [(0, Sl.v p_1), (6, .pointer (some (⟨B_97, 0, none⟩ : Addr))), (7, .int .u64 r_110), (8, .int .u64 r_119), (9, Sl.v all_143), (11, Sl.v Sl.nil)] ⟨rfl, rfl, rfl, rfl, rfl, rfl, trivial⟩
            refine then_normal ?_
            refine wp_seq ?_
            refine wp_seq ?_
            refine wp_region_lit ?_
            refine sq (opk_val hA255 rfl (r_move (hA255.get rfl)) fun a256 hA256 _ => ?_)
            refine sq (opk_call hA256 rfl (r_call (args := #[.pointer (some (⟨B_97, 0, none⟩ : Addr))]) Try.func34 (by decide) rfl (map_arr (ml_cons (hA256.get rfl) ml_nil)) rfl) ht217 fun a258 v264 w259 hA258 _ hn261 hz262 hK263 => ?_)
            obtain ⟨r_257, rfl, ht260⟩ := hK263
            refine sq (opk_val hA258 rfl (r_assign (hA258.get rfl)) fun a265 hA265 _ => ?_)
            refine sq_end ?_
            have hA266 := hA265.keep [(0, Sl.v p_1), (6, .pointer (some (⟨B_97, 0, none⟩ : Addr))), (7, .int .u64 r_110), (8, .int .u64 r_119), (9, Sl.v all_143), (11, Sl.v Sl.nil), (12, .int .u64 r_257)] ⟨rfl, rfl, rfl, rfl, rfl, rfl, rfl, trivial⟩
            refine then_normal ?_
            refine wp_block ?_
            obtain ⟨J_270, mu_271, h0330, ht329⟩ := ht260
            refine wp_loop_st (σ := Sl × Int × World) (fun s a w => Ag 114 a [(0, Sl.v p_1), (6, .pointer (some (⟨B_97, 0, none⟩ : Addr))), (7, .int .u64 r_110), (8, .int .u64 r_119), (9, Sl.v all_143), (11, Sl.v s.1), (12, .int .u64 s.2.1)] ∧ w = s.2.2 ∧ J_270 s.1 s.2.1 s.2.2) (fun s => mu_271 s.1 s.2.1 s.2.2) (Sl.nil, r_257, w259) ⟨hA266.keep [(0, Sl.v p_1), (6, .pointer (some (⟨B_97, 0, none⟩ : Addr))), (7, .int .u64 r_110), (8, .int .u64 r_119), (9, Sl.v all_143), (11, Sl.v Sl.nil), (12, .int .u64 r_257)] ⟨rfl, rfl, rfl, rfl, rfl, rfl, rfl, trivial⟩, rfl, h0330⟩ ?_
            rintro ⟨l_267, n_268, w269⟩ a328 w_ ⟨hA328, hw_, hJ332⟩
            have hw_ : w269 = w_ := hw_.symm
            subst hw_
            have ht331 := ht329 l_267 n_268 _ hJ332
            refine wp_seq ?_
            refine wp_seq ?_
            refine wp_region_lit ?_
            refine sq (opk_val hA328 rfl (r_move (hA328.get rfl)) fun a333 hA333 _ => ?_)
            refine sq (opk_val hA333 rfl (r_gtr (hA333.get rfl) rfl) fun a334 hA334 _ => ?_)
            refine sq (opk_val hA334 rfl (r_move (hA334.get rfl)) fun a335 hA335 _ => ?_)
            refine sq (opk_gval hA335 rfl rfl (g := true) (e := (decide (0 < n_268))) rfl (fun hg => r_move (hA335.get rfl)) fun a336 hA336 _ => ?_)
            refine sq (opk_gval hA336 rfl rfl (g := true) (e := (decide (0 < n_268))) rfl (fun hg => r_nilCheck (cv_get (hA336.get rfl) hg)) fun a337 hA337 _ => ?_)
            refine sq (opk_gval hA337 rfl rfl (g := true) (e := (decide (0 < n_268))) rfl (fun hg => r_fieldAddr (cv_get (hA337.get rfl) hg) Try.underlying63 rfl ti_4 (by decide)) fun a338 hA338 _ => ?_)
            obtain ⟨x_340, hx341, ht342⟩ := ht331
            refine sq (opk_gval hA338 rfl rfl (g := true) (e := (decide (0 < n_268))) rfl (fun hg => r_load1 Try.underlying4 rfl (cv_get (hA338.get rfl) hg) (hx341 (of_decide_eq_true (g_t hg)))) fun a339 hA339 _ => ?_)
            refine sq (opk_gval hA339 rfl rfl (g := true) (e := (decide (0 < n_268))) rfl (fun hg => r_not (cv_get (hA339.get rfl) hg)) fun a343 hA343 _ => ?_)
            refine sq (opk_val hA343 rfl (r_pick_and (g := (true && ((decide (0 < n_268)) == true))) (hA343.get rfl) (hA343.get rfl) (fun he => g_mkt rfl he)) fun a344 hA344 _ => ?_)
            refine sq (opk_val hA344 rfl (r_move (hA344.get rfl)) fun a345 hA345 _ => ?_)
            refine sq (opk_gval hA345 rfl rfl (g := true) (e := ((decide (0 < n_268)) && (!x_340))) rfl (fun hg => r_move (hA345.get rfl)) fun a346 hA346 _ => ?_)
            refine sq (opk_gval hA346 rfl rfl (g := true) (e := ((decide (0 < n_268)) && (!x_340))) rfl (fun hg => r_len (cv_get (hA346.get rfl) hg) Try.underlying23) fun a347 hA347 _ => ?_)
            refine sq (opk_gval hA347 rfl rfl (g := true) (e := ((decide (0 < n_268)) && (!x_340))) rfl (fun hg => r_leq (cv_get (hA347.get rfl) hg) rfl) fun a348 hA348 _ => ?_)
            refine sq (opk_val hA348 rfl (r_pick_and (g := (true && (((decide (0 < n_268)) && (!x_340)) == true))) (hA348.get rfl) (hA348.get rfl) (fun he => g_mkt rfl he)) fun a349 hA349 _ => ?_)
            refine sq_end ?_
            have hA350 := hA349.keep [(0, Sl.v p_1), (6, .pointer (some (⟨B_97, 0, none⟩ : Addr))), (7, .int .u64 r_110), (8, .int .u64 r_119), (9, Sl.v all_143), (11, Sl.v l_267), (12, .int .u64 n_268), (82, .bool (((decide (0 < n_268)) && (!x_340)) && (decide ((l_267.n : Int) ≤ 1500))))] ⟨rfl, rfl, rfl, rfl, rfl, rfl, rfl, rfl, trivial⟩
            refine then_normal ?_
            refine wp_cond_split (hA350.get rfl) (fun hc => ?_) (fun hc => ?_)
            · have ht351 := ht342.1 ⟨⟨(of_decide_eq_true (b_and_t (b_and_t hc).1).1), (b_not_t (b_and_t (b_and_t hc).1).2)⟩, (of_decide_eq_true (b_and_t hc).2)⟩
              clear hc
              refine wp_skip ?_
              refine then_normal ?_
              refine wp_seq ?_
              refine wp_block ?_
              refine wp_region_lit ?_
              refine sq (opk_val hA350 rfl (r_move (hA350.get rfl)) fun a353 hA353 _ => ?_)
              refine sq (opk_val hA353 rfl (r_move (hA353.get rfl)) fun a354 hA354 _ => ?_)
              refine sq (opk_val hA354 rfl (r_move (hA354.get rfl)) fun a355 hA355 _ => ?_)
              refine sq (opk_call hA355 rfl (r_call (args := #[.pointer (some (⟨B_97, 0, none⟩ : Addr)), Sl.v all_143]) Try.func36 (by decide) rfl (map_arr (ml_cons (hA355.get rfl) (ml_cons (hA355.get rfl) ml_nil))) rfl) ht351 fun a357 v363 w358 hA357 _ hn360 hz361 hK362 => ?_)
              obtain ⟨r_356_Kind, r_356_ID, r_356_Parent, r_356_At, r_356_What, r_356_Name, r_356_Text, rfl, ht359⟩ := hK362
              refine sq (opk_new (fun B => .slice (some ⟨B, 0, none⟩) 1 1) hA357 rfl (r_buildSlice (vs := #[(0, .agg #[.int .i64 r_356_Kind, .int .i64 r_356_ID, .int .i64 r_356_Parent, .int .i64 r_356_At, .int .i64 r_356_What, .string (Bs r_356_Name), .string (Bs r_356_Text)])]) (cs := [.int .i64 r_356_Kind, .int .i64 r_356_ID, .int .i64 r_356_Parent, .int .i64 r_356_At, .int .i64 r_356_What, .string (Bs r_356_Name), .string (Bs r_356_Text)]) (map_arr2 (ml2_cons (hA357.get rfl) (ml2_nil))) Try.underlying23 ti_42 rfl rfl (by kernel_rfl)) fun a366 w365 B_364 hE367 hN368 hB369 hA366 _ => ?_)
              have hN370 : New w358 B_364 w365 := hN368
              have hC371 : Chg [] w358 w365 := hE367
              have ht372 := ht359 w365 B_364 hN370  hC371
              have ht373 := ht372 hB369
              refine sq (opk_run hA366 rfl (fun _ _ hr => r_append (hA366.get rfl) (hA366.get rfl) hr) ht373 fun a374 v380 w375 hA374 _ hn377 hz378 hK379 => ?_)
              obtain ⟨r_381, rfl, ht376⟩ := hK379
              refine sq (opk_val hA374 rfl (r_assign (hA374.get rfl)) fun a382 hA382 _ => ?_)
              refine sq_end ?_
              have hA383 := hA382.keep [(0, Sl.v p_1), (6, .pointer (some (⟨B_97, 0, none⟩ : Addr))), (7, .int .u64 r_110), (8, .int .u64 r_119), (9, Sl.v all_143), (11, Sl.v r_381), (12, .int .u64 n_268)] ⟨rfl, rfl, rfl, rfl, rfl, rfl, rfl, trivial⟩
              refine block_normal ?_
              refine then_normal ?_
              refine wp_region_lit ?_
              refine sq (opk_val hA383 rfl (r_move (hA383.get rfl)) fun a384 hA384 _ => ?_)
              refine sq (opk_val hA384 rfl (r_sub (hA384.get rfl) rfl) fun a385 hA385 _ => ?_)
              refine sq (opk_val hA385 rfl (r_assign (hA385.get rfl)) fun a386 hA386 _ => ?_)
              refine sq_end ?_
              have hA387 := hA386.keep [(0, Sl.v p_1), (6, .pointer (some (⟨B_97, 0, none⟩ : Addr))), (7, .int .u64 r_110), (8, .int .u64 r_119), (9, Sl.v all_143), (11, Sl.v r_381), (12, .int .u64 (IntKind.u64.wrap (n_268 - 1)))] ⟨rfl, rfl, rfl, rfl, rfl, rfl, rfl, trivial⟩
              have hA388 := hA387.keep [(0, Sl.v p_1), (6, .pointer (some (⟨B_97, 0, none⟩ : Addr))), (7, .int .u64 r_110), (8, .int .u64 r_119), (9, Sl.v all_143), (11, Sl.v r_381), (12, .int .u64 (IntKind.u64.wrap (n_268 - 1)))] ⟨rfl, rfl, rfl, rfl, rfl, rfl, rfl, trivial⟩
              exact then_normal ⟨(r_381, IntKind.u64.wrap (n_268 - 1), w375), ⟨hA388, rfl, ht376.1⟩, ht376.2⟩
            · have ht352 := ht342.2 ((b_and_f hc).imp (fun h => ((b_and_f h).imp (fun h => (of_decide_eq_false h)) (fun h => (b_not_f h)))) (fun h => (of_decide_eq_false h)))
              clear hc
              refine wp_exit ?_
              refine then_exit ?_
              refine then_exit ?_
              refine block_hit ?_
              have hA389 := hA350.keep [(0, Sl.v p_1), (6, .pointer (some (⟨B_97, 0, none⟩ : Addr))), (7, .int .u64 r_110), (8, .int .u64 r_119), (11, Sl.v l_267)] ⟨rfl, rfl, rfl, rfl, rfl, trivial⟩
              refine then_normal ?_
              refine wp_seq ?_
              refine wp_seq ?_
              refine wp_region_lit ?_
              refine sq (opk_val hA389 rfl (r_move (hA389.get rfl)) fun a390 hA390 _ => ?_)
              refine sq (opk_val hA390 rfl (r_nilCheck (hA390.get rfl)) fun a391 hA391 _ => ?_)
              refine sq (opk_val hA391 rfl (r_fieldAddr (hA391.get rfl) Try.underlying63 rfl ti_4 (by decide)) fun a392 hA392 _ => ?_)
              obtain ⟨x_394, hx395, ht396⟩ := ht352
              refine sq (opk_val hA392 rfl (r_load1 Try.underlying4 rfl (hA392.get rfl) hx395) fun a393 hA393 _ => ?_)
              refine sq_end ?_
              have hA397 := hA393.keep [(0, Sl.v p_1), (7, .int .u64 r_110), (8, .int .u64 r_119), (11, Sl.v l_267), (94, .bool x_394)] ⟨rfl, rfl, rfl, rfl, rfl, trivial⟩
              refine then_normal ?_
              refine wp_cond_split (hA397.get rfl) (fun hc => ?_) (fun hc => ?_)
              · have ht398 := ht396.1 hc
                clear hc
                refine wp_seq ?_
                refine wp_region_lit ?_
                refine sq (opk_val hA397 rfl (r_assign rfl) fun a400 hA400 _ => ?_)
                refine sq (opk_val hA400 rfl (r_assign rfl) fun a401 hA401 _ => ?_)
                refine sq (opk_val hA401 rfl (r_assign rfl) fun a402 hA402 _ => ?_)
                refine sq (opk_val hA402 rfl (r_assign rfl) fun a403 hA403 _ => ?_)
                refine sq_end ?_
                have hA404 := hA403.keep [(2, .int .u64 0), (3, .int .u64 0), (4, Sl.v Sl.nil), (5, .int .i64 10)] ⟨rfl, rfl, rfl, rfl, trivial⟩
                refine then_normal ?_
                refine wp_ret ?_
                refine then_ret ?_
                exact res_all (vs := [.int .u64 0, .int .u64 0, Sl.v Sl.nil, .int .i64 10]) rfl hA404 ⟨res_of_tmp hA404 rfl, res_of_tmp hA404 rfl, res_of_tmp hA404 rfl, res_of_tmp hA404 rfl, trivial⟩ ht398
              · have ht399 := ht396.2 hc
                clear hc
                refine wp_skip ?_
                refine then_normal ?_
                refine wp_seq ?_
                refine wp_seq ?_
                refine wp_region_lit ?_
                refine sq (opk_val hA397 rfl (r_move (hA397.get rfl)) fun a405 hA405 _ => ?_)
                refine sq (opk_val hA405 rfl (r_move (hA405.get rfl)) fun a406 hA406 _ => ?_)
                refine sq (opk_val hA406 rfl (r_move (hA406.get rfl)) fun a407 hA407 _ => ?_)
                refine sq (opk_call hA407 rfl (r_call (args := #[.int .u64 r_110, .int .u64 r_119, Sl.v l_267]) Try.func10 (by decide) rfl (map_arr (ml_cons (hA407.get rfl) (ml_cons (hA407.get rfl) (ml_cons (hA407.get rfl) ml_nil)))) rfl) ht399 fun a410 v416 w411 hA410 _ hn413 hz414 hK415 => ?_)
                obtain ⟨r_0_408, r_1_409, rfl, ht412⟩ := hK415
                refine sq (opk_val hA410 rfl (r_move (hA410.get rfl)) fun a417 hA417 _ => ?_)
                refine sq (opk_val hA417 rfl (r_extract (hA417.get rfl) rfl) fun a418 hA418 _ => ?_)
                refine sq (opk_val hA418 rfl (r_extract (hA418.get rfl) rfl) fun a419 hA419 _ => ?_)
                refine sq (opk_val hA419 rfl (r_assign (hA419.get rfl)) fun a420 hA420 _ => ?_)
                refine sq (opk_val hA420 rfl (r_assign (hA420.get rfl)) fun a421 hA421 _ => ?_)
                refine sq_end ?_
                have hA422 := hA421.keep [(0, Sl.v p_1), (7, .int .u64 r_110), (8, .int .u64 r_119), (11, Sl.v l_267), (13, Sl.v r_0_408), (14, .int .i64 r_1_409)] ⟨rfl, rfl, rfl, rfl, rfl, rfl, trivial⟩
                refine then_normal ?_
                refine wp_seq ?_
                refine wp_region_lit ?_
                refine sq (opk_val hA422 rfl (r_move (hA422.get rfl)) fun a423 hA423 _ => ?_)
                refine sq (opk_val hA423 rfl (r_neq (hA423.get rfl) rfl) fun a424 hA424 _ => ?_)
                refine sq (opk_val hA424 rfl (r_move (hA424.get rfl)) fun a425 hA425 _ => ?_)
                refine sq (opk_gval hA425 rfl rfl (g := true) (e := (decide (r_1_409 ≠ 0))) rfl (fun hg => r_move (hA425.get rfl)) fun a426 hA426 _ => ?_)
                obtain ⟨s_427, hx428, ht429⟩ := ht412
                refine sq (opk_gval hA426 rfl rfl (g := true) (e := (decide (r_1_409 ≠ 0))) rfl (fun hg => r_convR (cv_get (hA426.get rfl) hg) (hx428 (of_decide_eq_false (g_f hg)))) fun a430 hA430 _ => ?_)
                refine sq (opk_gval hA430 rfl rfl (g := true) (e := (decide (r_1_409 ≠ 0))) rfl (fun hg => r_move (hA430.get rfl)) fun a431 hA431 _ => ?_)
                obtain ⟨s_432, hx433, ht434⟩ := ht429
                refine sq (opk_gval hA431 rfl rfl (g := true) (e := (decide (r_1_409 ≠ 0))) rfl (fun hg => r_convR (cv_get (hA431.get rfl) hg) (hx433 (of_decide_eq_false (g_f hg)))) fun a435 hA435 _ => ?_)
                refine sq (opk_gval hA435 rfl rfl (g := true) (e := (decide (r_1_409 ≠ 0))) rfl (fun hg => r_sneq (cv_get (hA435.get rfl) hg) (cv_get (hA435.get rfl) hg)) fun a436 hA436 _ => ?_)
                refine sq (opk_val hA436 rfl (r_pick_or (g := (true && ((decide (r_1_409 ≠ 0)) == false))) (hA436.get rfl) (hA436.get rfl) (fun he => g_mkf rfl he)) fun a437 hA437 _ => ?_)
                refine sq_end ?_
                have hA438 := hA437.keep [(7, .int .u64 r_110), (8, .int .u64 r_119), (11, Sl.v l_267), (110, .bool ((decide (r_1_409 ≠ 0)) || (decide (s_427 ≠ s_432))))] ⟨rfl, rfl, rfl, rfl, trivial⟩
                refine then_normal ?_
                refine wp_cond_split (hA438.get rfl) (fun hc => ?_) (fun hc => ?_)
                · have ht439 := ht434.1 ((b_or_t hc).imp (fun h => (of_decide_eq_true h)) (fun h => (of_decide_eq_true h)))
                  clear hc
                  refine wp_seq ?_
                  refine wp_region_lit ?_
                  refine sq (opk_val hA438 rfl (r_assign rfl) fun a441 hA441 _ => ?_)
                  refine sq (opk_val hA441 rfl (r_assign rfl) fun a442 hA442 _ => ?_)
                  refine sq (opk_val hA442 rfl (r_assign rfl) fun a443 hA443 _ => ?_)
                  refine sq (opk_val hA443 rfl (r_assign rfl) fun a444 hA444 _ => ?_)
                  refine sq_end ?_
                  have hA445 := hA444.keep [(2, .int .u64 0), (3, .int .u64 0), (4, Sl.v Sl.nil), (5, .int .i64 10)] ⟨rfl, rfl, rfl, rfl, trivial⟩
                  refine then_normal ?_
                  refine wp_ret ?_
                  refine then_ret ?_
                  exact res_all (vs := [.int .u64 0, .int .u64 0, Sl.v Sl.nil, .int .i64 10]) rfl hA445 ⟨res_of_tmp hA445 rfl, res_of_tmp hA445 rfl, res_of_tmp hA445 rfl, res_of_tmp hA445 rfl, trivial⟩ ht439
                · have ht440 := ht434.2 ⟨(of_decide_eq_false (b_or_f hc).1), (of_decide_eq_false (b_or_f hc).2)⟩
                  clear hc
                  refine wp_skip ?_
                  refine then_normal ?_
                  refine wp_seq ?_
                  refine wp_region_lit ?_
                  refine sq (opk_val hA438 rfl (r_move (hA438.get rfl)) fun a446 hA446 _ => ?_)
                  refine sq (opk_val hA446 rfl (r_move (hA446.get rfl)) fun a447 hA447 _ => ?_)
                  refine sq (opk_val hA447 rfl (r_move (hA447.get rfl)) fun a448 hA448 _ => ?_)
                  refine sq (opk_val hA448 rfl (r_assign (hA448.get rfl)) fun a449 hA449 _ => ?_)
                  refine sq (opk_val hA449 rfl (r_assign (hA449.get rfl)) fun a450 hA450 _ => ?_)
                  refine sq (opk_val hA450 rfl (r_assign (hA450.get rfl)) fun a451 hA451 _ => ?_)
                  refine sq (opk_val hA451 rfl (r_assign rfl) fun a452 hA452 _ => ?_)
                  refine sq_end ?_
                  have hA453 := hA452.keep [(2, .int .u64 r_110), (3, .int .u64 r_119), (4, Sl.v l_267), (5, .int .i64 0)] ⟨rfl, rfl, rfl, rfl, trivial⟩
                  refine then_normal ?_
                  refine wp_ret ?_
                  exact res_all (vs := [.int .u64 r_110, .int .u64 r_119, Sl.v l_267, .int .i64 0]) rfl hA453 ⟨res_of_tmp hA453 rfl, res_of_tmp hA453 rfl, res_of_tmp hA453 rfl, res_of_tmp hA453 rfl, trivial⟩ ht440

/-- The condition of topiary/codec.texts. -/
def codec_texts.vc (o_1_Kind : Int) (o_1_ID : Int) (o_1_Parent : Int) (o_1_At : Int) (o_1_What : Int) (o_1_Name : Str) (o_1_Text : Str) (R : Value → World → Prop) (w : World) : Prop :=
(((o_1_Kind = 1) ∨ (o_1_Kind = 4)) →
∀ (w34 : World) (B_2 : Nat) (B_33 : Nat), New w B_2 w34 → New w B_33 w34 → B_2 ≠ B_33 → Chg [] w w34 →
∀ (_ : Box w34 B_33 9 [.string (Bs o_1_Name), .string (Bs o_1_Text)]),
R (Sl.v (Sl.mk (some ⟨B_33, 0, none⟩) 2 2)) w34) ∧
(((¬ (o_1_Kind = 1)) ∧ (¬ (o_1_Kind = 4))) →
((o_1_Kind = 5) →
∀ (w56 : World) (B_2 : Nat) (B_55 : Nat), New w B_2 w56 → New w B_55 w56 → B_2 ≠ B_55 → Chg [] w w56 →
∀ (_ : Box w56 B_55 9 [.string (Bs o_1_Name)]),
R (Sl.v (Sl.mk (some ⟨B_55, 0, none⟩) 1 1)) w56) ∧
((¬ (o_1_Kind = 5)) →
((o_1_Kind = 6) →
∀ (w78 : World) (B_2 : Nat) (B_77 : Nat), New w B_2 w78 → New w B_77 w78 → B_2 ≠ B_77 → Chg [] w w78 →
∀ (_ : Box w78 B_77 9 [.string (Bs o_1_Text)]),
R (Sl.v (Sl.mk (some ⟨B_77, 0, none⟩) 1 1)) w78) ∧
((¬ (o_1_Kind = 6)) →
∀ (w3 : World) (B_2 : Nat), New w B_2 w3 → Chg [] w w3 →
R (Sl.v Sl.nil) w3)))
set_option maxHeartbeats 1000000 in
set_option maxRecDepth 10000 in
theorem codec_texts.ok (o_1_Kind : Int) (o_1_ID : Int) (o_1_Parent : Int) (o_1_At : Int) (o_1_What : Int) (o_1_Name : Str) (o_1_Text : Str) {R : Value → World → Prop} {w : World} (ht0 : codec_texts.vc o_1_Kind o_1_ID o_1_Parent o_1_At o_1_What o_1_Name o_1_Text R w) : Calls Try.prog 21 #[.agg #[.int .i64 o_1_Kind, .int .i64 o_1_ID, .int .i64 o_1_Parent, .int .i64 o_1_At, .int .i64 o_1_What, .string (Bs o_1_Name), .string (Bs o_1_Text)]] w (Ret R) := by
  refine enter [.agg #[.int .i64 o_1_Kind, .int .i64 o_1_ID, .int .i64 o_1_Parent, .int .i64 o_1_At, .int .i64 o_1_What, .string (Bs o_1_Name), .string (Bs o_1_Text)]] Try.func21 rfl Try.ntmps21 rfl ?_
  intro a0 hA0
  unfold codec_texts.vc at ht0
  refine wp_seq ?_
  refine wp_region_lit ?_
  refine sq (opk_new (fun B => .pointer (some ⟨B, 0, none⟩)) hA0 rfl (r_box (cs := [.int .i64 o_1_Kind, .int .i64 o_1_ID, .int .i64 o_1_Parent, .int .i64 o_1_At, .int .i64 o_1_What, .string (Bs o_1_Name), .string (Bs o_1_Text)]) (hA0.get rfl) rfl) fun a4 w3 B_2 hE5 hN6 hB7 hA4 _ => ?_)
  have hN8 : New w B_2 w3 := hN6
  have hC9 : Chg [] w w3 := hE5
  refine sq (opk_val hA4 rfl (r_assign rfl) fun a10 hA10 _ => ?_)
  refine sq_end ?_
  have hA11 := hA10.keep [(1, .pointer (some (⟨B_2, 0, none⟩ : Addr)))] ⟨rfl, trivial⟩
  refine then_normal ?_
  refine wp_seq ?_
  refine wp_seq ?_
  refine wp_region_lit ?_
  refine sq (opk_val hA11 rfl (r_fieldAddr (hA11.get rfl) Try.underlying42 rfl ti_3 (by decide)) fun a12 hA12 _ => ?_)
  refine sq (opk_val hA12 rfl (r_load1 Try.underlying3 rfl (hA12.get rfl) (hB7.cell 0 _ rfl)) fun a13 hA13 _ => ?_)
  refine sq_end ?_
  have hA14 := hA13.keep [(1, .pointer (some (⟨B_2, 0, none⟩ : Addr))), (4, .int .i64 o_1_Kind)] ⟨rfl, rfl, trivial⟩
  refine then_normal ?_
  refine wp_block ?_
  refine wp_seq ?_
  refine wp_seq ?_
  refine wp_region_lit ?_
  refine sq (opk_val hA14 rfl (r_eql (hA14.get rfl) rfl) fun a15 hA15 _ => ?_)
  refine sq (opk_val hA15 rfl (r_assign (hA15.get rfl)) fun a16 hA16 _ => ?_)
  refine sq_end ?_
  have hA17 := hA16.keep [(1, .pointer (some (⟨B_2, 0, none⟩ : Addr))), (4, .int .i64 o_1_Kind), (5, .bool (decide (o_1_Kind = 1)))] ⟨rfl, rfl, rfl, trivial⟩
  refine then_normal ?_
  refine wp_meet (fun a wq => Ag 23 a [(1, .pointer (some (⟨B_2, 0, none⟩ : Addr))), (4, .int .i64 o_1_Kind), (5, .bool ((decide (o_1_Kind = 1)) || (decide (o_1_Kind = 4))))] ∧ wq = w3) ?_ ?_
  · refine wp_cond_split (hA17.get rfl) (fun hc => ?_) (fun hc => ?_)
    · refine wp_skip ?_
      have hA21 := hA17.say (t := 5) rfl (.bool ((decide (o_1_Kind = 1)) || (decide (o_1_Kind = 4)))) (by rw [hc]; rfl)
      exact then_normal ⟨hA21.keep [(1, .pointer (some (⟨B_2, 0, none⟩ : Addr))), (4, .int .i64 o_1_Kind), (5, .bool ((decide (o_1_Kind = 1)) || (decide (o_1_Kind = 4))))] ⟨rfl, rfl, rfl, trivial⟩, rfl⟩
    · refine wp_region_lit ?_
      refine sq (opk_val hA17 rfl (r_eql (hA17.get rfl) rfl) fun a22 hA22 _ => ?_)
      refine sq (opk_val hA22 rfl (r_assign (hA22.get rfl)) fun a23 hA23 _ => ?_)
      refine sq_end ?_
      have hA24 := hA23.keep [(1, .pointer (some (⟨B_2, 0, none⟩ : Addr))), (4, .int .i64 o_1_Kind), (5, .bool (decide (o_1_Kind = 4)))] ⟨rfl, rfl, rfl, trivial⟩
      have hA25 := hA24.say (t := 5) rfl (.bool ((decide (o_1_Kind = 1)) || (decide (o_1_Kind = 4)))) (by rw [hc]; rfl)
      exact then_normal ⟨hA25.keep [(1, .pointer (some (⟨B_2, 0, none⟩ : Addr))), (4, .int .i64 o_1_Kind), (5, .bool ((decide (o_1_Kind = 1)) || (decide (o_1_Kind = 4))))] ⟨rfl, rfl, rfl, trivial⟩, rfl⟩
  · rintro a26 w_ ⟨hA26, hw_⟩
    have hw_ : w3 = w_ := hw_.symm
    subst hw_
    refine then_normal ?_
    refine wp_cond_split (hA26.get rfl) (fun hc => ?_) (fun hc => ?_)
    · have ht27 := ht0.1 ((b_or_t hc).imp (fun h => (of_decide_eq_true h)) (fun h => (of_decide_eq_true h)))
      clear hc
      refine wp_seq ?_
      refine wp_region_lit ?_
      refine sq (opk_val hA26 rfl (r_fieldAddr (hA26.get rfl) Try.underlying42 rfl ti_9 (by decide)) fun a29 hA29 _ => ?_)
      refine sq (opk_val hA29 rfl (r_load1 Try.underlying9 rfl (hA29.get rfl) (hB7.cell 5 _ rfl)) fun a30 hA30 _ => ?_)
      refine sq (opk_val hA30 rfl (r_fieldAddr (hA30.get rfl) Try.underlying42 rfl ti_9 (by decide)) fun a31 hA31 _ => ?_)
      refine sq (opk_val hA31 rfl (r_load1 Try.underlying9 rfl (hA31.get rfl) (hB7.cell 6 _ rfl)) fun a32 hA32 _ => ?_)
      refine sq (opk_new (fun B => .slice (some ⟨B, 0, none⟩) 2 2) hA32 rfl (r_buildSlice (vs := #[(0, .string (Bs o_1_Name)), (1, .string (Bs o_1_Text))]) (cs := [.string (Bs o_1_Name), .string (Bs o_1_Text)]) (map_arr2 (ml2_cons (hA32.get rfl) (ml2_cons (hA32.get rfl) (ml2_nil)))) Try.underlying46 ti_9 rfl rfl (by kernel_rfl)) fun a35 w34 B_33 hE36 hN37 hB38 hA35 _ => ?_)
      have hne39 : B_2 ≠ B_33 := Nat.ne_of_lt (Nat.lt_of_lt_of_le hB7.lt hN37.ge)
      have hN40 := New.of hC9 hN37
      have hB41 := hB7.ext hE36
      have hC42 := hC9.more hE36
      have hN43 := hN8.up hE36.size
      refine sq (opk_val hA35 rfl (r_assign (hA35.get rfl)) fun a44 hA44 _ => ?_)
      refine sq_end ?_
      have hA45 := hA44.keep [(2, Sl.v (Sl.mk (some ⟨B_33, 0, none⟩) 2 2))] ⟨rfl, trivial⟩
      refine then_normal ?_
      refine wp_ret ?_
      refine block_ret ?_
      refine then_ret ?_
      have ht46 := ht27 w34 B_2 B_33 hN43 hN40 hne39 hC42
      have ht47 := ht46 hB38
      exact res_all (vs := [Sl.v (Sl.mk (some ⟨B_33, 0, none⟩) 2 2)]) rfl hA45 ⟨res_of_tmp hA45 rfl, trivial⟩ ht47
    · have ht28 := ht0.2 ⟨(of_decide_eq_false (b_or_f hc).1), (of_decide_eq_false (b_or_f hc).2)⟩
      clear hc
      refine wp_seq ?_
      refine wp_region_lit ?_
      refine sq (opk_val hA26 rfl (r_eql (hA26.get rfl) rfl) fun a48 hA48 _ => ?_)
      refine sq (opk_val hA48 rfl (r_assign (hA48.get rfl)) fun a49 hA49 _ => ?_)
      refine sq_end ?_
      have hA50 := hA49.keep [(1, .pointer (some (⟨B_2, 0, none⟩ : Addr))), (4, .int .i64 o_1_Kind), (13, .bool (decide (o_1_Kind = 5)))] ⟨rfl, rfl, rfl, trivial⟩
      refine then_normal ?_
      refine wp_cond_split (hA50.get rfl) (fun hc => ?_) (fun hc => ?_)
      · have ht51 := ht28.1 (of_decide_eq_true hc)
        clear hc
        refine wp_seq ?_
        refine wp_region_lit ?_
        refine sq (opk_val hA50 rfl (r_fieldAddr (hA50.get rfl) Try.underlying42 rfl ti_9 (by decide)) fun a53 hA53 _ => ?_)
        refine sq (opk_val hA53 rfl (r_load1 Try.underlying9 rfl (hA53.get rfl) (hB7.cell 5 _ rfl)) fun a54 hA54 _ => ?_)
        refine sq (opk_new (fun B => .slice (some ⟨B, 0, none⟩) 1 1) hA54 rfl (r_buildSlice (vs := #[(0, .string (Bs o_1_Name))]) (cs := [.string (Bs o_1_Name)]) (map_arr2 (ml2_cons (hA54.get rfl) (ml2_nil))) Try.underlying46 ti_9 rfl rfl (by kernel_rfl)) fun a57 w56 B_55 hE58 hN59 hB60 hA57 _ => ?_)
        have hne61 : B_2 ≠ B_55 := Nat.ne_of_lt (Nat.lt_of_lt_of_le hB7.lt hN59.ge)
        have hN62 := New.of hC9 hN59
        have hB63 := hB7.ext hE58
        have hC64 := hC9.more hE58
        have hN65 := hN8.up hE58.size
        refine sq (opk_val hA57 rfl (r_assign (hA57.get rfl)) fun a66 hA66 _ => ?_)
        refine sq_end ?_
        have hA67 := hA66.keep [(2, Sl.v (Sl.mk (some ⟨B_55, 0, none⟩) 1 1))] ⟨rfl, trivial⟩
        refine then_normal ?_
        refine wp_ret ?_
        refine block_ret ?_
        refine then_ret ?_
        have ht68 := ht51 w56 B_2 B_55 hN65 hN62 hne61 hC64
        have ht69 := ht68 hB60
        exact res_all (vs := [Sl.v (Sl.mk (some ⟨B_55, 0, none⟩) 1 1)]) rfl hA67 ⟨res_of_tmp hA67 rfl, trivial⟩ ht69
      · have ht52 := ht28.2 (of_decide_eq_false hc)
        clear hc
        refine wp_seq ?_
        refine wp_region_lit ?_
        refine sq (opk_val hA50 rfl (r_eql (hA50.get rfl) rfl) fun a70 hA70 _ => ?_)
        refine sq (opk_val hA70 rfl (r_assign (hA70.get rfl)) fun a71 hA71 _ => ?_)
        refine sq_end ?_
        have hA72 := hA71.keep [(1, .pointer (some (⟨B_2, 0, none⟩ : Addr))), (18, .bool (decide (o_1_Kind = 6)))] ⟨rfl, rfl, trivial⟩
        refine then_normal ?_
        refine wp_cond_split (hA72.get rfl) (fun hc => ?_) (fun hc => ?_)
        · have ht73 := ht52.1 (of_decide_eq_true hc)
          clear hc
          refine wp_seq ?_
          refine wp_region_lit ?_
          refine sq (opk_val hA72 rfl (r_fieldAddr (hA72.get rfl) Try.underlying42 rfl ti_9 (by decide)) fun a75 hA75 _ => ?_)
          refine sq (opk_val hA75 rfl (r_load1 Try.underlying9 rfl (hA75.get rfl) (hB7.cell 6 _ rfl)) fun a76 hA76 _ => ?_)
          refine sq (opk_new (fun B => .slice (some ⟨B, 0, none⟩) 1 1) hA76 rfl (r_buildSlice (vs := #[(0, .string (Bs o_1_Text))]) (cs := [.string (Bs o_1_Text)]) (map_arr2 (ml2_cons (hA76.get rfl) (ml2_nil))) Try.underlying46 ti_9 rfl rfl (by kernel_rfl)) fun a79 w78 B_77 hE80 hN81 hB82 hA79 _ => ?_)
          have hne83 : B_2 ≠ B_77 := Nat.ne_of_lt (Nat.lt_of_lt_of_le hB7.lt hN81.ge)
          have hN84 := New.of hC9 hN81
          have hB85 := hB7.ext hE80
          have hC86 := hC9.more hE80
          have hN87 := hN8.up hE80.size
          refine sq (opk_val hA79 rfl (r_assign (hA79.get rfl)) fun a88 hA88 _ => ?_)
          refine sq_end ?_
          have hA89 := hA88.keep [(2, Sl.v (Sl.mk (some ⟨B_77, 0, none⟩) 1 1))] ⟨rfl, trivial⟩
          refine then_normal ?_
          refine wp_ret ?_
          refine block_ret ?_
          refine then_ret ?_
          have ht90 := ht73 w78 B_2 B_77 hN87 hN84 hne83 hC86
          have ht91 := ht90 hB82
          exact res_all (vs := [Sl.v (Sl.mk (some ⟨B_77, 0, none⟩) 1 1)]) rfl hA89 ⟨res_of_tmp hA89 rfl, trivial⟩ ht91
        · have ht74 := ht52.2 (of_decide_eq_false hc)
          clear hc
          refine wp_skip ?_
          refine block_normal ?_
          refine then_normal ?_
          refine wp_seq ?_
          refine wp_region_lit ?_
          refine sq (opk_val hA72 rfl (r_assign rfl) fun a92 hA92 _ => ?_)
          refine sq_end ?_
          have hA93 := hA92.keep [(2, Sl.v Sl.nil)] ⟨rfl, trivial⟩
          refine then_normal ?_
          refine wp_ret ?_
          have ht94 := ht74 w3 B_2 hN8  hC9
          exact res_all (vs := [Sl.v Sl.nil]) rfl hA93 ⟨res_of_tmp hA93 rfl, trivial⟩ ht94

end Go.Proofs.Yteacalmdpoblpaa
