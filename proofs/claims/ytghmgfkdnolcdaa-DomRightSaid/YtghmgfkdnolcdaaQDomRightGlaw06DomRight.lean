/-
  PRINTED BY PROGRAM: for each function its condition (vc), and that this suffices (ok).
-/
import Derived.Test.YtghmgfkdnolcdaaQDomRightGT
namespace Go.Proofs.Ytghmgfkdnolcdaa
open Go.RowKit
set_option linter.unusedVariables false

/-- The condition of topiary/topiarylaw06.DomRight. -/
def law06_DomRight.vc (a_1 : Sl) (l_2 : Sl) (R : Value → World → Prop) (w : World) : Prop :=
CallK Try.prog 20 #[Sl.v a_1] w [] (fun v w8 => ∃ (r_6_Kind : Int) (r_6_Name : Str) (r_6_Text : Str) (r_6_Attrs : Sl) (r_6_Kids : Sl), v = .agg #[.int .i64 r_6_Kind, .string (Bs r_6_Name), .string (Bs r_6_Text), Sl.v r_6_Attrs, Sl.v r_6_Kids] ∧
CallK Try.prog 13 #[.agg #[.int .i64 r_6_Kind, .string (Bs r_6_Name), .string (Bs r_6_Text), Sl.v r_6_Attrs, Sl.v r_6_Kids]] w8 [] (fun v w17 => ∃ (r_0_14 : Option Addr) (r_1_15 : Int), v = .tuple #[.pointer r_0_14, .int .i64 r_1_15] ∧
((r_1_15 ≠ 0) →
R (.bool false) w17) ∧
((¬ (r_1_15 ≠ 0)) →
∃ (J_40 : Int → World → Prop) (mu_41 : Int → World → Nat),
J_40 0 w17 ∧
(∀ (i_38 : Int) (w39 : World), J_40 i_38 w39 →
(((i_38 < (l_2.n : Int)) ∧ (i_38 < 60)) →
((0 : Int) ≤ i_38 ∧ i_38 < (l_2.n : Int)) ∧ ∃ p_716 : Addr, l_2.a = some p_716 ∧
∃ (x_722_Kind : Int) (x_722_ID : Int) (x_722_Parent : Int) (x_722_At : Int) (x_722_What : Int) (x_722_Name : Str) (x_722_Text : Str), (Cells w39 (p_716.add (i_38.toNat * 7)) [.int .i64 x_722_Kind, .int .i64 x_722_ID, .int .i64 x_722_Parent, .int .i64 x_722_At, .int .i64 x_722_What, .string (Bs x_722_Name), .string (Bs x_722_Text)]) ∧
∀ (w733 : World) (B_725 : Nat), New w39 B_725 w733 → Chg [] w39 w733 →
CallK Try.prog 28 #[.int .i64 x_722_Kind, .int .i64 6] w733 [B_725] (fun v w746 => ∃ (r_744 : Int), v = .int .i64 r_744 ∧
∃ J_1015 : World → Prop,
(((r_744 = 0) →
∀ (w1023 : World), Chg [] w746 w1023 →
∃ (r_1030 : Int), (∀ w' : World, Ext w1023 w' → Calls Try.prog 28 #[.int .i64 x_722_ID, .int .i64 80] w' (Ret fun v w'' => Ext w' w'' ∧ v = .int .i64 r_1030)) ∧
∃ (r_1035 : Int), (∀ w' : World, Ext w1023 w' → Calls Try.prog 28 #[.int .i64 x_722_Parent, .int .i64 50] w' (Ret fun v w'' => Ext w' w'' ∧ v = .int .i64 r_1035)) ∧
∃ (r_1040 : Int), (∀ w' : World, Ext w1023 w' → Calls Try.prog 28 #[.int .i64 x_722_At, .int .i64 5] w' (Ret fun v w'' => Ext w' w'' ∧ v = .int .i64 r_1040)) ∧
∀ (w1050 : World), Chg [] w1023 w1050 →
CallK Try.prog 14 #[.pointer r_0_14, .int .i64 r_1030, .int .i64 r_1035, .int .i64 r_1040, .agg #[.int .i64 x_722_What, .string (Bs x_722_Name), .string (Bs x_722_Text), Sl.v Sl.nil, Sl.v Sl.nil]] w1050 [B_725] (fun v w1070 => ∃ (r_1068 : Int), v = .int .i64 r_1068 ∧
J_1015 w1070)) ∧
((¬ (r_744 = 0)) →
((r_744 = 1) →
CallK Try.prog 28 #[.int .i64 x_722_ID, .int .i64 50] w746 [B_725] (fun v w1089 => ∃ (r_1087 : Int), v = .int .i64 r_1087 ∧
CallK Try.prog 22 #[.pointer r_0_14, .int .i64 r_1087] w1089 [B_725] (fun v w1098 => ∃ (r_1096 : Int), v = .int .i64 r_1096 ∧
J_1015 w1098))) ∧
((¬ (r_744 = 1)) →
((r_744 = 2) →
∀ (w1112 : World), Chg [] w746 w1112 →
∃ (r_1119 : Int), (∀ w' : World, Ext w1112 w' → Calls Try.prog 28 #[.int .i64 x_722_ID, .int .i64 50] w' (Ret fun v w'' => Ext w' w'' ∧ v = .int .i64 r_1119)) ∧
∃ (r_1124 : Int), (∀ w' : World, Ext w1112 w' → Calls Try.prog 28 #[.int .i64 x_722_Parent, .int .i64 50] w' (Ret fun v w'' => Ext w' w'' ∧ v = .int .i64 r_1124)) ∧
∃ (r_1129 : Int), (∀ w' : World, Ext w1112 w' → Calls Try.prog 28 #[.int .i64 x_722_At, .int .i64 5] w' (Ret fun v w'' => Ext w' w'' ∧ v = .int .i64 r_1129)) ∧
∀ (w1133 : World), Chg [] w1112 w1133 →
CallK Try.prog 26 #[.pointer r_0_14, .int .i64 r_1119, .int .i64 r_1124, .int .i64 r_1129] w1133 [B_725] (fun v w1151 => ∃ (r_1149 : Int), v = .int .i64 r_1149 ∧
J_1015 w1151)) ∧
((¬ (r_744 = 2)) →
((r_744 = 3) →
∀ (w1165 : World), Chg [] w746 w1165 →
∃ (r_1172 : Int), (∀ w' : World, Ext w1165 w' → Calls Try.prog 28 #[.int .i64 x_722_ID, .int .i64 50] w' (Ret fun v w'' => Ext w' w'' ∧ v = .int .i64 r_1172)) ∧
∀ (w1178 : World), Chg [] w1165 w1178 →
CallK Try.prog 15 #[.pointer r_0_14, .int .i64 r_1172, .string (Bs x_722_Name), .string (Bs x_722_Text)] w1178 [B_725] (fun v w1196 => ∃ (r_1194 : Int), v = .int .i64 r_1194 ∧
J_1015 w1196)) ∧
((¬ (r_744 = 3)) →
((r_744 = 4) →
∀ (w1210 : World), Chg [] w746 w1210 →
∃ (r_1217 : Int), (∀ w' : World, Ext w1210 w' → Calls Try.prog 28 #[.int .i64 x_722_ID, .int .i64 50] w' (Ret fun v w'' => Ext w' w'' ∧ v = .int .i64 r_1217)) ∧
∀ (w1222 : World), Chg [] w1210 w1222 →
CallK Try.prog 29 #[.pointer r_0_14, .int .i64 r_1217, .string (Bs x_722_Name)] w1222 [B_725] (fun v w1238 => ∃ (r_1236 : Int), v = .int .i64 r_1236 ∧
J_1015 w1238)) ∧
((¬ (r_744 = 4)) →
∀ (w1247 : World), Chg [] w746 w1247 →
∃ (r_1254 : Int), (∀ w' : World, Ext w1247 w' → Calls Try.prog 28 #[.int .i64 x_722_ID, .int .i64 50] w' (Ret fun v w'' => Ext w' w'' ∧ v = .int .i64 r_1254)) ∧
∀ (w1259 : World), Chg [] w1247 w1259 →
CallK Try.prog 30 #[.pointer r_0_14, .int .i64 r_1254, .string (Bs x_722_Text)] w1259 [B_725] (fun v w1275 => ∃ (r_1273 : Int), v = .int .i64 r_1273 ∧
J_1015 w1275))))))) ∧
(∀ (w1014 : World), J_1015 w1014 →
CallK Try.prog 18 #[.pointer r_0_14] w1014 [] (fun v w1289 => ∃ (r_1287_Kind : Int) (r_1287_Name : Str) (r_1287_Text : Str) (r_1287_Attrs : Sl) (r_1287_Kids : Sl), v = .agg #[.int .i64 r_1287_Kind, .string (Bs r_1287_Name), .string (Bs r_1287_Text), Sl.v r_1287_Attrs, Sl.v r_1287_Kids] ∧
∀ (w1303 : World) (B_1295 : Nat), New w1289 B_1295 w1303 → Chg [] w1289 w1303 →
CallK Try.prog 31 #[.agg #[.int .i64 r_1287_Kind, .string (Bs r_1287_Name), .string (Bs r_1287_Text), Sl.v r_1287_Attrs, Sl.v r_1287_Kids]] w1303 [B_1295] (fun v w1315 => ∃ (r_1313 : Bool), v = .bool r_1313 ∧
∃ (r_1325 : Int), (((r_1313 = true)) → Calls Try.prog 32 #[.agg #[.int .i64 r_1287_Kind, .string (Bs r_1287_Name), .string (Bs r_1287_Text), Sl.v r_1287_Attrs, Sl.v r_1287_Kids]] w1315 (Ret fun v w' => Ext w1315 w' ∧ v = .int .i64 r_1325)) ∧
(∀ w1327 : World, Ext w1315 w1327 →
∃ (r_1335 : Int), (((r_1313 = true)) → Calls Try.prog 16 #[.pointer r_0_14] w1327 (Ret fun v w' => Ext w1327 w' ∧ v = .int .i64 r_1335)) ∧
(∀ w1337 : World, Ext w1327 w1337 →
(((r_1313 = false) ∨ (r_1325 ≠ r_1335)) →
R (.bool false) w1337) ∧
(((r_1313 = true) ∧ (¬ (r_1325 ≠ r_1335))) →
(I64 (i_38 + 1)) ∧
J_40 (i_38 + 1) w1337 ∧ mu_41 (i_38 + 1) w1337 < mu_41 i_38 w39)))))))) ∧
(((¬ (i_38 < (l_2.n : Int))) ∨ (¬ (i_38 < 60))) →
CallK Try.prog 19 #[] w39 [] (fun v w1362 => ∃ (r_1360 : Bool), v = .bool r_1360 ∧
R (.bool r_1360) w1362))))))
set_option maxHeartbeats 1000000 in
set_option maxRecDepth 10000 in
theorem law06_DomRight.ok (a_1 : Sl) (l_2 : Sl) {R : Value → World → Prop} {w : World} (ht0 : law06_DomRight.vc a_1 l_2 R w) : Calls Try.prog 6 #[Sl.v a_1, Sl.v l_2] w (Ret R) := by
  refine enter [Sl.v a_1, Sl.v l_2] Try.func6 rfl Try.ntmps6 rfl ?_
  intro a0 hA0
  unfold law06_DomRight.vc at ht0
  refine wp_seq ?_
  refine wp_region_lit ?_
  refine sq (opk_val hA0 rfl (r_assign rfl) fun a3 hA3 _ => ?_)
  refine sq_end ?_
  have hA4 := hA3.keep [(0, Sl.v a_1), (1, Sl.v l_2)] ⟨rfl, rfl, trivial⟩
  refine then_normal ?_
  refine wp_seq ?_
  refine wp_region_lit ?_
  refine sq (opk_val hA4 rfl (r_move (hA4.get rfl)) fun a5 hA5 _ => ?_)
  refine sq (opk_call hA5 rfl (r_call (args := #[Sl.v a_1]) Try.func20 (by decide) rfl (map_arr (ml_cons (hA5.get rfl) ml_nil)) rfl) ht0 fun a7 v13 w8 hA7 _ hn10 hz11 hK12 => ?_)
  obtain ⟨r_6_Kind, r_6_Name, r_6_Text, r_6_Attrs, r_6_Kids, rfl, ht9⟩ := hK12
  refine sq (opk_call hA7 rfl (r_call (args := #[.agg #[.int .i64 r_6_Kind, .string (Bs r_6_Name), .string (Bs r_6_Text), Sl.v r_6_Attrs, Sl.v r_6_Kids]]) Try.func13 (by decide) rfl (map_arr (ml_cons (hA7.get rfl) ml_nil)) rfl) ht9 fun a16 v22 w17 hA16 _ hn19 hz20 hK21 => ?_)
  obtain ⟨r_0_14, r_1_15, rfl, ht18⟩ := hK21
  refine sq (opk_val hA16 rfl (r_move (hA16.get rfl)) fun a23 hA23 _ => ?_)
  refine sq (opk_val hA23 rfl (r_extract (hA23.get rfl) rfl) fun a24 hA24 _ => ?_)
  refine sq (opk_val hA24 rfl (r_extract (hA24.get rfl) rfl) fun a25 hA25 _ => ?_)
  refine sq (opk_val hA25 rfl (r_assign (hA25.get rfl)) fun a26 hA26 _ => ?_)
  refine sq (opk_val hA26 rfl (r_assign (hA26.get rfl)) fun a27 hA27 _ => ?_)
  refine sq_end ?_
  have hA28 := hA27.keep [(1, Sl.v l_2), (5, .pointer r_0_14), (6, .int .i64 r_1_15)] ⟨rfl, rfl, rfl, trivial⟩
  refine then_normal ?_
  refine wp_seq ?_
  refine wp_seq ?_
  refine wp_region_lit ?_
  refine sq (opk_val hA28 rfl (r_move (hA28.get rfl)) fun a29 hA29 _ => ?_)
  refine sq (opk_val hA29 rfl (r_neq (hA29.get rfl) rfl) fun a30 hA30 _ => ?_)
  refine sq_end ?_
  have hA31 := hA30.keep [(1, Sl.v l_2), (5, .pointer r_0_14), (17, .bool (decide (r_1_15 ≠ 0)))] ⟨rfl, rfl, rfl, trivial⟩
  refine then_normal ?_
  refine wp_cond_split (hA31.get rfl) (fun hc => ?_) (fun hc => ?_)
  · have ht32 := ht18.1 (of_decide_eq_true hc)
    clear hc
    refine wp_seq ?_
    refine wp_region_lit ?_
    refine sq (opk_val hA31 rfl (r_assign rfl) fun a34 hA34 _ => ?_)
    refine sq_end ?_
    have hA35 := hA34.keep [(4, .bool false)] ⟨rfl, trivial⟩
    refine then_normal ?_
    refine wp_ret ?_
    refine then_ret ?_
    exact res_all (vs := [.bool false]) rfl hA35 ⟨res_of_tmp hA35 rfl, trivial⟩ ht32
  · have ht33 := ht18.2 (of_decide_eq_false hc)
    clear hc
    refine wp_skip ?_
    refine then_normal ?_
    refine wp_seq ?_
    refine wp_seq ?_
    refine wp_region_lit ?_
    refine sq (opk_val hA31 rfl (r_assign rfl) fun a36 hA36 _ => ?_)
    refine sq_end ?_
    have hA37 := hA36.keep [(1, Sl.v l_2), (5, .pointer r_0_14), (7, .int .i64 0)] ⟨rfl, rfl, rfl, trivial⟩
    refine then_normal ?_
    refine wp_block ?_
    obtain ⟨J_40, mu_41, h0700, ht699⟩ := ht33
    refine wp_loop_st (σ := Int × World) (fun s a w => Ag 115 a [(1, Sl.v l_2), (5, .pointer r_0_14), (7, .int .i64 s.1)] ∧ w = s.2 ∧ J_40 s.1 s.2) (fun s => mu_41 s.1 s.2) (0, w17) ⟨hA37.keep [(1, Sl.v l_2), (5, .pointer r_0_14), (7, .int .i64 0)] ⟨rfl, rfl, rfl, trivial⟩, rfl, h0700⟩ ?_
    rintro ⟨i_38, w39⟩ a698 w_ ⟨hA698, hw_, hJ702⟩
    have hw_ : w39 = w_ := hw_.symm
    subst hw_
    have ht701 := ht699 i_38 _ hJ702
    refine wp_seq ?_
    refine wp_seq ?_
    refine wp_region_lit ?_
    refine sq (opk_val hA698 rfl (r_move (hA698.get rfl)) fun a703 hA703 _ => ?_)
    refine sq (opk_val hA703 rfl (r_move (hA703.get rfl)) fun a704 hA704 _ => ?_)
    refine sq (opk_val hA704 rfl (r_len (hA704.get rfl) Try.underlying46) fun a705 hA705 _ => ?_)
    refine sq (opk_val hA705 rfl (r_lss (hA705.get rfl) (hA705.get rfl)) fun a706 hA706 _ => ?_)
    refine sq (opk_val hA706 rfl (r_move (hA706.get rfl)) fun a707 hA707 _ => ?_)
    refine sq (opk_gval hA707 rfl rfl (g := true) (e := (decide (i_38 < (l_2.n : Int)))) rfl (fun hg => r_move (hA707.get rfl)) fun a708 hA708 _ => ?_)
    refine sq (opk_gval hA708 rfl rfl (g := true) (e := (decide (i_38 < (l_2.n : Int)))) rfl (fun hg => r_lss (cv_get (hA708.get rfl) hg) rfl) fun a709 hA709 _ => ?_)
    refine sq (opk_val hA709 rfl (r_pick_and (g := (true && ((decide (i_38 < (l_2.n : Int))) == true))) (hA709.get rfl) (hA709.get rfl) (fun he => g_mkt rfl he)) fun a710 hA710 _ => ?_)
    refine sq_end ?_
    have hA711 := hA710.keep [(1, Sl.v l_2), (5, .pointer r_0_14), (7, .int .i64 i_38), (25, .bool ((decide (i_38 < (l_2.n : Int))) && (decide (i_38 < 60))))] ⟨rfl, rfl, rfl, rfl, trivial⟩
    refine then_normal ?_
    refine wp_cond_split (hA711.get rfl) (fun hc => ?_) (fun hc => ?_)
    · have ht712 := ht701.1 ⟨(of_decide_eq_true (b_and_t hc).1), (of_decide_eq_true (b_and_t hc).2)⟩
      clear hc
      refine wp_skip ?_
      refine then_normal ?_
      refine wp_seq ?_
      refine wp_block ?_
      refine wp_seq ?_
      refine wp_region_lit ?_
      refine sq (opk_val hA711 rfl (r_move (hA711.get rfl)) fun a714 hA714 _ => ?_)
      refine sq (opk_val hA714 rfl (r_move (hA714.get rfl)) fun a715 hA715 _ => ?_)
      obtain ⟨hb717, p_716, hp718, ht719⟩ := ht712
      refine sq (opk_val hA715 rfl (r_indexAddr (hA715.get rfl) (hA715.get rfl) Try.underlying46 ti_48 hb717 hp718) fun a720 hA720 _ => ?_)
      obtain ⟨x_722_Kind, x_722_ID, x_722_Parent, x_722_At, x_722_What, x_722_Name, x_722_Text, hx723, ht724⟩ := ht719
      refine sq (opk_val hA720 rfl (r_loadN Try.underlying48 rfl ti_48 (hA720.get rfl) hx723) fun a721 hA721 _ => ?_)
      refine sq (opk_new (fun B => .pointer (some ⟨B, 0, none⟩)) hA721 rfl (r_alloc (cs := [.int .i64 0, .int .i64 0, .int .i64 0, .int .i64 0, .int .i64 0, .string (Bs ([] : Str)), .string (Bs ([] : Str))]) ti_48 rfl) fun a727 w726 B_725 hE728 hN729 hB730 hA727 _ => ?_)
      have hN731 : New w39 B_725 w726 := hN729
      have hC732 : Chg [] w39 w726 := hE728
      refine sq (opk_store hA727 hB730 (r_store (vs := [.int .i64 x_722_Kind, .int .i64 x_722_ID, .int .i64 x_722_Parent, .int .i64 x_722_At, .int .i64 x_722_What, .string (Bs x_722_Name), .string (Bs x_722_Text)]) (hA727.get rfl) (hA727.get rfl) rfl ti_48 hB730 rfl (ones_all [.int .i64 x_722_Kind, .int .i64 x_722_ID, .int .i64 x_722_Parent, .int .i64 x_722_At, .int .i64 x_722_What, .string (Bs x_722_Name), .string (Bs x_722_Text)] rfl)) fun a734 w733 hS735 hB736 hA734 => ?_)
      have hB737 : Box w733 B_725 48 [.int .i64 x_722_Kind, .int .i64 x_722_ID, .int .i64 x_722_Parent, .int .i64 x_722_At, .int .i64 x_722_What, .string (Bs x_722_Name), .string (Bs x_722_Text)] := hB736
      have hC738 := hC732.storeNew hN731 hS735
      have hN739 := hN731.up hS735.size
      refine sq_end ?_
      have hA740 := hA734.keep [(1, Sl.v l_2), (5, .pointer r_0_14), (7, .int .i64 i_38), (8, .pointer (some (⟨B_725, 0, none⟩ : Addr)))] ⟨rfl, rfl, rfl, rfl, trivial⟩
      refine then_normal ?_
      refine wp_seq ?_
      refine wp_seq ?_
      refine wp_region_lit ?_
      refine sq (opk_val hA740 rfl (r_fieldAddr (hA740.get rfl) Try.underlying48 rfl ti_3 (by decide)) fun a741 hA741 _ => ?_)
      refine sq (opk_val hA741 rfl (r_load1 Try.underlying3 rfl (hA741.get rfl) (hB737.cell 0 _ rfl)) fun a742 hA742 _ => ?_)
      have ht743 := ht724 w733 B_725 hN739  hC738
      refine sq (opk_call hA742 rfl (r_call (args := #[.int .i64 x_722_Kind, .int .i64 6]) Try.func28 (by decide) rfl (map_arr (ml_cons (hA742.get rfl) (ml_cons rfl ml_nil))) rfl) ht743 fun a745 v751 w746 hA745 _ hn748 hz749 hK750 => ?_)
      obtain ⟨r_744, rfl, ht747⟩ := hK750
      have hB752 := hB737.kept hn748 (.head _)
      refine sq_end ?_
      have hA753 := hA745.keep [(1, Sl.v l_2), (5, .pointer r_0_14), (7, .int .i64 i_38), (8, .pointer (some (⟨B_725, 0, none⟩ : Addr))), (34, .int .i64 r_744)] ⟨rfl, rfl, rfl, rfl, rfl, trivial⟩
      refine then_normal ?_
      obtain ⟨J_1015, ht1016, hr1017⟩ := ht747
      refine wp_meet (fun a w => Ag 115 a [(1, Sl.v l_2), (5, .pointer r_0_14), (7, .int .i64 i_38)] ∧ J_1015 w) ?_ ?_
      · refine wp_block ?_
        refine wp_seq ?_
        refine wp_region_lit ?_
        refine sq (opk_val hA753 rfl (r_eql (hA753.get rfl) rfl) fun a1018 hA1018 _ => ?_)
        refine sq (opk_val hA1018 rfl (r_assign (hA1018.get rfl)) fun a1019 hA1019 _ => ?_)
        refine sq_end ?_
        have hA1020 := hA1019.keep [(1, Sl.v l_2), (5, .pointer r_0_14), (7, .int .i64 i_38), (8, .pointer (some (⟨B_725, 0, none⟩ : Addr))), (34, .int .i64 r_744), (42, .bool (decide (r_744 = 0)))] ⟨rfl, rfl, rfl, rfl, rfl, rfl, trivial⟩
        refine then_normal ?_
        refine wp_cond_split (hA1020.get rfl) (fun hc => ?_) (fun hc => ?_)
        · have ht1021 := ht1016.1 (of_decide_eq_true hc)
          clear hc
          refine draw' (by kernel_rfl) fun w1023 hE1024 => ?_
          have hB1025 := hB752.ext hE1024
          have hC1026 : Chg [] w746 w1023 := hE1024
          have ht1027 := ht1021 w1023    hC1026
          obtain ⟨r_1030, hc1031, ht1032⟩ := ht1027
          obtain ⟨r_1035, hc1036, ht1037⟩ := ht1032
          obtain ⟨r_1040, hc1041, ht1042⟩ := ht1037
          refine par (D := [[], [], [1], [1, 2], [], [4], [1, 2, 3, 4, 5], [], [7], [1, 2, 3, 4, 5, 6, 7, 8], [], [10], [], [12], [], [14], [10, 11, 12, 13, 14, 15], [0, 1, 2, 3, 4, 5, 6, 7, 8, 9, 10, 11, 12, 13, 14, 15, 16]]) (S := [0, 1, 2, 3, 4, 5, 6, 7, 8, 9, 10, 11, 12, 13, 14, 15, 16]) (F := []) (V := VL [(0, fun v _ => v = .pointer r_0_14), (1, fun v _ => v = .pointer (some (⟨B_725, 1, none⟩ : Addr))), (2, fun v _ => v = .int .i64 x_722_ID), (3, fun v _ => v = .int .i64 r_1030), (4, fun v _ => v = .pointer (some (⟨B_725, 2, none⟩ : Addr))), (5, fun v _ => v = .int .i64 x_722_Parent), (6, fun v _ => v = .int .i64 r_1035), (7, fun v _ => v = .pointer (some (⟨B_725, 3, none⟩ : Addr))), (8, fun v _ => v = .int .i64 x_722_At), (9, fun v _ => v = .int .i64 r_1040), (10, fun v _ => v = .pointer (some (⟨B_725, 4, none⟩ : Addr))), (11, fun v _ => v = .int .i64 x_722_What), (12, fun v _ => v = .pointer (some (⟨B_725, 5, none⟩ : Addr))), (13, fun v _ => v = .string (Bs x_722_Name)), (14, fun v _ => v = .pointer (some (⟨B_725, 6, none⟩ : Addr))), (15, fun v _ => v = .string (Bs x_722_Text)), (16, fun v _ => v = .agg #[.int .i64 x_722_What, .string (Bs x_722_Name), .string (Bs x_722_Text), Sl.v Sl.nil, Sl.v Sl.nil])]) hA1020 (by kernel_rfl) ⟨fun _ _ _ _ h => by first | exact h | (change _ = _ at h; change _ = _; exact h), fun _ _ _ _ h => by first | exact h | (change _ = _ at h; change _ = _; exact h), fun _ _ _ _ h => by first | exact h | (change _ = _ at h; change _ = _; exact h), fun _ _ _ _ h => by first | exact h | (change _ = _ at h; change _ = _; exact h), fun _ _ _ _ h => by first | exact h | (change _ = _ at h; change _ = _; exact h), fun _ _ _ _ h => by first | exact h | (change _ = _ at h; change _ = _; exact h), fun _ _ _ _ h => by first | exact h | (change _ = _ at h; change _ = _; exact h), fun _ _ _ _ h => by first | exact h | (change _ = _ at h; change _ = _; exact h), fun _ _ _ _ h => by first | exact h | (change _ = _ at h; change _ = _; exact h), fun _ _ _ _ h => by first | exact h | (change _ = _ at h; change _ = _; exact h), fun _ _ _ _ h => by first | exact h | (change _ = _ at h; change _ = _; exact h), fun _ _ _ _ h => by first | exact h | (change _ = _ at h; change _ = _; exact h), fun _ _ _ _ h => by first | exact h | (change _ = _ at h; change _ = _; exact h), fun _ _ _ _ h => by first | exact h | (change _ = _ at h; change _ = _; exact h), fun _ _ _ _ h => by first | exact h | (change _ = _ at h; change _ = _; exact h), fun _ _ _ _ h => by first | exact h | (change _ = _ at h; change _ = _; exact h), fun _ _ _ _ h => by first | exact h | (change _ = _ at h; change _ = _; exact h), trivial⟩ ⟨?_, ?_, ?_, ?_, ?_, ?_, ?_, ?_, ?_, ?_, ?_, ?_, ?_, ?_, ?_, ?_, ?_, trivial⟩ ?_
          · intro a w hT
            have hAp := hT.ag hA1020 [(5, .pointer r_0_14)] ⟨rfl, trivial⟩ (by kernel_rfl)
            exact opk_val hAp rfl (r_move (hAp.get rfl)) fun _ _ e => ⟨_, e, Chg.refl _ _, fun _ => Eq.refl _⟩
          · intro a w hT
            have hAp := hT.ag hA1020 [(8, .pointer (some (⟨B_725, 0, none⟩ : Addr)))] ⟨rfl, trivial⟩ (by kernel_rfl)
            exact opk_val hAp rfl (r_fieldAddr (hAp.get rfl) Try.underlying48 rfl ti_3 (by decide)) fun _ _ e => ⟨_, e, Chg.refl _ _, fun _ => Eq.refl _⟩
          · intro a w hT
            have hAp := hT.ag hA1020 [] trivial (by kernel_rfl)
            have e1028 : a.tmps.getD 45 undef = .pointer (some (⟨B_725, 1, none⟩ : Addr)) := hT.vals 1 rfl 45 rfl
            have hAp := hAp.add e1028
            exact opk_val hAp rfl (r_load1 Try.underlying3 rfl (hAp.get rfl) ((hB1025.ext hT.chg).cell 1 _ rfl)) fun _ _ e => ⟨_, e, Chg.refl _ _, fun _ => Eq.refl _⟩
          · intro a w hT
            have hAp := hT.ag hA1020 [] trivial (by kernel_rfl)
            have e1029 : a.tmps.getD 46 undef = .int .i64 x_722_ID := hT.vals 2 rfl 46 rfl
            have hAp := hAp.add e1029
            exact opk_callX hAp rfl (r_call (args := #[.int .i64 x_722_ID, .int .i64 80]) Try.func28 (by decide) rfl (map_arr (ml_cons (hAp.get rfl) (ml_cons rfl ml_nil))) rfl) (hc1031 w hT.chg) fun _ _ _ _ e hR => ⟨_, e, hR.1, fun _ => hR.2⟩
          · intro a w hT
            have hAp := hT.ag hA1020 [(8, .pointer (some (⟨B_725, 0, none⟩ : Addr)))] ⟨rfl, trivial⟩ (by kernel_rfl)
            exact opk_val hAp rfl (r_fieldAddr (hAp.get rfl) Try.underlying48 rfl ti_3 (by decide)) fun _ _ e => ⟨_, e, Chg.refl _ _, fun _ => Eq.refl _⟩
          · intro a w hT
            have hAp := hT.ag hA1020 [] trivial (by kernel_rfl)
            have e1033 : a.tmps.getD 48 undef = .pointer (some (⟨B_725, 2, none⟩ : Addr)) := hT.vals 4 rfl 48 rfl
            have hAp := hAp.add e1033
            exact opk_val hAp rfl (r_load1 Try.underlying3 rfl (hAp.get rfl) ((hB1025.ext hT.chg).cell 2 _ rfl)) fun _ _ e => ⟨_, e, Chg.refl _ _, fun _ => Eq.refl _⟩
          · intro a w hT
            have hAp := hT.ag hA1020 [] trivial (by kernel_rfl)
            have e1034 : a.tmps.getD 49 undef = .int .i64 x_722_Parent := hT.vals 5 rfl 49 rfl
            have hAp := hAp.add e1034
            exact opk_callX hAp rfl (r_call (args := #[.int .i64 x_722_Parent, .int .i64 50]) Try.func28 (by decide) rfl (map_arr (ml_cons (hAp.get rfl) (ml_cons rfl ml_nil))) rfl) (hc1036 w hT.chg) fun _ _ _ _ e hR => ⟨_, e, hR.1, fun _ => hR.2⟩
          · intro a w hT
            have hAp := hT.ag hA1020 [(8, .pointer (some (⟨B_725, 0, none⟩ : Addr)))] ⟨rfl, trivial⟩ (by kernel_rfl)
            exact opk_val hAp rfl (r_fieldAddr (hAp.get rfl) Try.underlying48 rfl ti_3 (by decide)) fun _ _ e => ⟨_, e, Chg.refl _ _, fun _ => Eq.refl _⟩
          · intro a w hT
            have hAp := hT.ag hA1020 [] trivial (by kernel_rfl)
            have e1038 : a.tmps.getD 51 undef = .pointer (some (⟨B_725, 3, none⟩ : Addr)) := hT.vals 7 rfl 51 rfl
            have hAp := hAp.add e1038
            exact opk_val hAp rfl (r_load1 Try.underlying3 rfl (hAp.get rfl) ((hB1025.ext hT.chg).cell 3 _ rfl)) fun _ _ e => ⟨_, e, Chg.refl _ _, fun _ => Eq.refl _⟩
          · intro a w hT
            have hAp := hT.ag hA1020 [] trivial (by kernel_rfl)
            have e1039 : a.tmps.getD 52 undef = .int .i64 x_722_At := hT.vals 8 rfl 52 rfl
            have hAp := hAp.add e1039
            exact opk_callX hAp rfl (r_call (args := #[.int .i64 x_722_At, .int .i64 5]) Try.func28 (by decide) rfl (map_arr (ml_cons (hAp.get rfl) (ml_cons rfl ml_nil))) rfl) (hc1041 w hT.chg) fun _ _ _ _ e hR => ⟨_, e, hR.1, fun _ => hR.2⟩
          · intro a w hT
            have hAp := hT.ag hA1020 [(8, .pointer (some (⟨B_725, 0, none⟩ : Addr)))] ⟨rfl, trivial⟩ (by kernel_rfl)
            exact opk_val hAp rfl (r_fieldAddr (hAp.get rfl) Try.underlying48 rfl ti_3 (by decide)) fun _ _ e => ⟨_, e, Chg.refl _ _, fun _ => Eq.refl _⟩
          · intro a w hT
            have hAp := hT.ag hA1020 [] trivial (by kernel_rfl)
            have e1043 : a.tmps.getD 54 undef = .pointer (some (⟨B_725, 4, none⟩ : Addr)) := hT.vals 10 rfl 54 rfl
            have hAp := hAp.add e1043
            exact opk_val hAp rfl (r_load1 Try.underlying3 rfl (hAp.get rfl) ((hB1025.ext hT.chg).cell 4 _ rfl)) fun _ _ e => ⟨_, e, Chg.refl _ _, fun _ => Eq.refl _⟩
          · intro a w hT
            have hAp := hT.ag hA1020 [(8, .pointer (some (⟨B_725, 0, none⟩ : Addr)))] ⟨rfl, trivial⟩ (by kernel_rfl)
            exact opk_val hAp rfl (r_fieldAddr (hAp.get rfl) Try.underlying48 rfl ti_9 (by decide)) fun _ _ e => ⟨_, e, Chg.refl _ _, fun _ => Eq.refl _⟩
          · intro a w hT
            have hAp := hT.ag hA1020 [] trivial (by kernel_rfl)
            have e1044 : a.tmps.getD 56 undef = .pointer (some (⟨B_725, 5, none⟩ : Addr)) := hT.vals 12 rfl 56 rfl
            have hAp := hAp.add e1044
            exact opk_val hAp rfl (r_load1 Try.underlying9 rfl (hAp.get rfl) ((hB1025.ext hT.chg).cell 5 _ rfl)) fun _ _ e => ⟨_, e, Chg.refl _ _, fun _ => Eq.refl _⟩
          · intro a w hT
            have hAp := hT.ag hA1020 [(8, .pointer (some (⟨B_725, 0, none⟩ : Addr)))] ⟨rfl, trivial⟩ (by kernel_rfl)
            exact opk_val hAp rfl (r_fieldAddr (hAp.get rfl) Try.underlying48 rfl ti_9 (by decide)) fun _ _ e => ⟨_, e, Chg.refl _ _, fun _ => Eq.refl _⟩
          · intro a w hT
            have hAp := hT.ag hA1020 [] trivial (by kernel_rfl)
            have e1045 : a.tmps.getD 58 undef = .pointer (some (⟨B_725, 6, none⟩ : Addr)) := hT.vals 14 rfl 58 rfl
            have hAp := hAp.add e1045
            exact opk_val hAp rfl (r_load1 Try.underlying9 rfl (hAp.get rfl) ((hB1025.ext hT.chg).cell 6 _ rfl)) fun _ _ e => ⟨_, e, Chg.refl _ _, fun _ => Eq.refl _⟩
          · intro a w hT
            have hAp := hT.ag hA1020 [] trivial (by kernel_rfl)
            have e1046 : a.tmps.getD 55 undef = .int .i64 x_722_What := hT.vals 11 rfl 55 rfl
            have hAp := hAp.add e1046
            have e1047 : a.tmps.getD 57 undef = .string (Bs x_722_Name) := hT.vals 13 rfl 57 rfl
            have hAp := hAp.add e1047
            have e1048 : a.tmps.getD 59 undef = .string (Bs x_722_Text) := hT.vals 15 rfl 59 rfl
            have hAp := hAp.add e1048
            exact opk_val hAp rfl (r_build (vs := #[(0, .int .i64 x_722_What), (1, .string (Bs x_722_Name)), (2, .string (Bs x_722_Text))]) (cells := #[.int .i64 x_722_What, .string (Bs x_722_Name), .string (Bs x_722_Text), Sl.v Sl.nil, Sl.v Sl.nil]) (map_arr2 (ml2_cons (hAp.get rfl) (ml2_cons (hAp.get rfl) (ml2_cons (hAp.get rfl) (ml2_nil))))) ti_29 Try.underlying29 pl_29 (by kernel_rfl)) fun _ _ e => ⟨_, e, Chg.refl _ _, fun _ => Eq.refl _⟩
          · intro a1049 w1050 hE1051 hag1052 hv1053
            have hA1049 := hag1052 [(1, Sl.v l_2), (5, .pointer r_0_14), (7, .int .i64 i_38)] ⟨rfl, rfl, rfl, trivial⟩ (by kernel_rfl)
            have e1055 : a1049.tmps.getD 44 undef = .pointer r_0_14 := hv1053 0 rfl 44 rfl
            have hA1056 := hA1049.add e1055
            have e1057 : a1049.tmps.getD 47 undef = .int .i64 r_1030 := hv1053 3 rfl 47 rfl
            have hA1058 := hA1056.add e1057
            have e1059 : a1049.tmps.getD 50 undef = .int .i64 r_1035 := hv1053 6 rfl 50 rfl
            have hA1060 := hA1058.add e1059
            have e1061 : a1049.tmps.getD 53 undef = .int .i64 r_1040 := hv1053 9 rfl 53 rfl
            have hA1062 := hA1060.add e1061
            have e1063 : a1049.tmps.getD 60 undef = .agg #[.int .i64 x_722_What, .string (Bs x_722_Name), .string (Bs x_722_Text), Sl.v Sl.nil, Sl.v Sl.nil] := hv1053 16 rfl 60 rfl
            have hA1064 := hA1062.add e1063
            have hB1065 := hB1025.ext hE1051
            have hC1066 : Chg [] w1023 w1050 := hE1051
            have ht1067 := ht1042 w1050    hC1066
            refine one (D := [[], [], [1], [1, 2], [], [4], [1, 2, 3, 4, 5], [], [7], [1, 2, 3, 4, 5, 6, 7, 8], [], [10], [], [12], [], [14], [10, 11, 12, 13, 14, 15], [0, 1, 2, 3, 4, 5, 6, 7, 8, 9, 10, 11, 12, 13, 14, 15, 16]]) (i := 17) rfl (by kernel_rfl) (opk_call hA1064 rfl (r_call (args := #[.pointer r_0_14, .int .i64 r_1030, .int .i64 r_1035, .int .i64 r_1040, .agg #[.int .i64 x_722_What, .string (Bs x_722_Name), .string (Bs x_722_Text), Sl.v Sl.nil, Sl.v Sl.nil]]) Try.func14 (by decide) rfl (map_arr (ml_cons (hA1064.get rfl) (ml_cons (hA1064.get rfl) (ml_cons (hA1064.get rfl) (ml_cons (hA1064.get rfl) (ml_cons (hA1064.get rfl) ml_nil)))))) rfl) ht1067 fun a1069 v1075 w1070 hA1069 _ hn1072 hz1073 hK1074 => ?_)
            obtain ⟨r_1068, rfl, ht1071⟩ := hK1074
            have hB1076 := hB1065.kept hn1072 (.head _)
            refine PR_end (by kernel_rfl) ?_
            have hA1077 := hA1069.keep [(1, Sl.v l_2), (5, .pointer r_0_14), (7, .int .i64 i_38)] ⟨rfl, rfl, rfl, trivial⟩
            refine block_normal ?_
            have hA1078 := hA1077.keep [(1, Sl.v l_2), (5, .pointer r_0_14), (7, .int .i64 i_38)] ⟨rfl, rfl, rfl, trivial⟩
            exact then_normal ⟨hA1078, ht1071⟩
        · have ht1022 := ht1016.2 (of_decide_eq_false hc)
          clear hc
          refine wp_seq ?_
          refine wp_region_lit ?_
          refine sq (opk_val hA1020 rfl (r_eql (hA1020.get rfl) rfl) fun a1079 hA1079 _ => ?_)
          refine sq (opk_val hA1079 rfl (r_assign (hA1079.get rfl)) fun a1080 hA1080 _ => ?_)
          refine sq_end ?_
          have hA1081 := hA1080.keep [(1, Sl.v l_2), (5, .pointer r_0_14), (7, .int .i64 i_38), (8, .pointer (some (⟨B_725, 0, none⟩ : Addr))), (34, .int .i64 r_744), (62, .bool (decide (r_744 = 1)))] ⟨rfl, rfl, rfl, rfl, rfl, rfl, trivial⟩
          refine then_normal ?_
          refine wp_cond_split (hA1081.get rfl) (fun hc => ?_) (fun hc => ?_)
          · have ht1082 := ht1022.1 (of_decide_eq_true hc)
            clear hc
            refine wp_region_lit ?_
            refine sq (opk_val hA1081 rfl (r_move (hA1081.get rfl)) fun a1084 hA1084 _ => ?_)
            refine sq (opk_val hA1084 rfl (r_fieldAddr (hA1084.get rfl) Try.underlying48 rfl ti_3 (by decide)) fun a1085 hA1085 _ => ?_)
            refine sq (opk_val hA1085 rfl (r_load1 Try.underlying3 rfl (hA1085.get rfl) (hB752.cell 1 _ rfl)) fun a1086 hA1086 _ => ?_)
            refine sq (opk_call hA1086 rfl (r_call (args := #[.int .i64 x_722_ID, .int .i64 50]) Try.func28 (by decide) rfl (map_arr (ml_cons (hA1086.get rfl) (ml_cons rfl ml_nil))) rfl) ht1082 fun a1088 v1094 w1089 hA1088 _ hn1091 hz1092 hK1093 => ?_)
            obtain ⟨r_1087, rfl, ht1090⟩ := hK1093
            have hB1095 := hB752.kept hn1091 (.head _)
            refine sq (opk_call hA1088 rfl (r_call (args := #[.pointer r_0_14, .int .i64 r_1087]) Try.func22 (by decide) rfl (map_arr (ml_cons (hA1088.get rfl) (ml_cons (hA1088.get rfl) ml_nil))) rfl) ht1090 fun a1097 v1103 w1098 hA1097 _ hn1100 hz1101 hK1102 => ?_)
            obtain ⟨r_1096, rfl, ht1099⟩ := hK1102
            have hB1104 := hB1095.kept hn1100 (.head _)
            refine sq_end ?_
            have hA1105 := hA1097.keep [(1, Sl.v l_2), (5, .pointer r_0_14), (7, .int .i64 i_38)] ⟨rfl, rfl, rfl, trivial⟩
            refine block_normal ?_
            have hA1106 := hA1105.keep [(1, Sl.v l_2), (5, .pointer r_0_14), (7, .int .i64 i_38)] ⟨rfl, rfl, rfl, trivial⟩
            exact then_normal ⟨hA1106, ht1099⟩
          · have ht1083 := ht1022.2 (of_decide_eq_false hc)
            clear hc
            refine wp_seq ?_
            refine wp_region_lit ?_
            refine sq (opk_val hA1081 rfl (r_eql (hA1081.get rfl) rfl) fun a1107 hA1107 _ => ?_)
            refine sq (opk_val hA1107 rfl (r_assign (hA1107.get rfl)) fun a1108 hA1108 _ => ?_)
            refine sq_end ?_
            have hA1109 := hA1108.keep [(1, Sl.v l_2), (5, .pointer r_0_14), (7, .int .i64 i_38), (8, .pointer (some (⟨B_725, 0, none⟩ : Addr))), (34, .int .i64 r_744), (69, .bool (decide (r_744 = 2)))] ⟨rfl, rfl, rfl, rfl, rfl, rfl, trivial⟩
            refine then_normal ?_
            refine wp_cond_split (hA1109.get rfl) (fun hc => ?_) (fun hc => ?_)
            · have ht1110 := ht1083.1 (of_decide_eq_true hc)
              clear hc
              refine draw' (by kernel_rfl) fun w1112 hE1113 => ?_
              have hB1114 := hB752.ext hE1113
              have hC1115 : Chg [] w746 w1112 := hE1113
              have ht1116 := ht1110 w1112    hC1115
              obtain ⟨r_1119, hc1120, ht1121⟩ := ht1116
              obtain ⟨r_1124, hc1125, ht1126⟩ := ht1121
              obtain ⟨r_1129, hc1130, ht1131⟩ := ht1126
              refine par (D := [[], [], [1], [1, 2], [], [4], [1, 2, 3, 4, 5], [], [7], [1, 2, 3, 4, 5, 6, 7, 8], [0, 1, 2, 3, 4, 5, 6, 7, 8, 9]]) (S := [0, 1, 2, 3, 4, 5, 6, 7, 8, 9]) (F := []) (V := VL [(0, fun v _ => v = .pointer r_0_14), (1, fun v _ => v = .pointer (some (⟨B_725, 1, none⟩ : Addr))), (2, fun v _ => v = .int .i64 x_722_ID), (3, fun v _ => v = .int .i64 r_1119), (4, fun v _ => v = .pointer (some (⟨B_725, 2, none⟩ : Addr))), (5, fun v _ => v = .int .i64 x_722_Parent), (6, fun v _ => v = .int .i64 r_1124), (7, fun v _ => v = .pointer (some (⟨B_725, 3, none⟩ : Addr))), (8, fun v _ => v = .int .i64 x_722_At), (9, fun v _ => v = .int .i64 r_1129)]) hA1109 (by kernel_rfl) ⟨fun _ _ _ _ h => by first | exact h | (change _ = _ at h; change _ = _; exact h), fun _ _ _ _ h => by first | exact h | (change _ = _ at h; change _ = _; exact h), fun _ _ _ _ h => by first | exact h | (change _ = _ at h; change _ = _; exact h), fun _ _ _ _ h => by first | exact h | (change _ = _ at h; change _ = _; exact h), fun _ _ _ _ h => by first | exact h | (change _ = _ at h; change _ = _; exact h), fun _ _ _ _ h => by first | exact h | (change _ = _ at h; change _ = _; exact h), fun _ _ _ _ h => by first | exact h | (change _ = _ at h; change _ = _; exact h), fun _ _ _ _ h => by first | exact h | (change _ = _ at h; change _ = _; exact h), fun _ _ _ _ h => by first | exact h | (change _ = _ at h; change _ = _; exact h), fun _ _ _ _ h => by first | exact h | (change _ = _ at h; change _ = _; exact h), trivial⟩ ⟨?_, ?_, ?_, ?_, ?_, ?_, ?_, ?_, ?_, ?_, trivial⟩ ?_
              · intro a w hT
                have hAp := hT.ag hA1109 [(5, .pointer r_0_14)] ⟨rfl, trivial⟩ (by kernel_rfl)
                exact opk_val hAp rfl (r_move (hAp.get rfl)) fun _ _ e => ⟨_, e, Chg.refl _ _, fun _ => Eq.refl _⟩
              · intro a w hT
                have hAp := hT.ag hA1109 [(8, .pointer (some (⟨B_725, 0, none⟩ : Addr)))] ⟨rfl, trivial⟩ (by kernel_rfl)
                exact opk_val hAp rfl (r_fieldAddr (hAp.get rfl) Try.underlying48 rfl ti_3 (by decide)) fun _ _ e => ⟨_, e, Chg.refl _ _, fun _ => Eq.refl _⟩
              · intro a w hT
                have hAp := hT.ag hA1109 [] trivial (by kernel_rfl)
                have e1117 : a.tmps.getD 72 undef = .pointer (some (⟨B_725, 1, none⟩ : Addr)) := hT.vals 1 rfl 72 rfl
                have hAp := hAp.add e1117
                exact opk_val hAp rfl (r_load1 Try.underlying3 rfl (hAp.get rfl) ((hB1114.ext hT.chg).cell 1 _ rfl)) fun _ _ e => ⟨_, e, Chg.refl _ _, fun _ => Eq.refl _⟩
              · intro a w hT
                have hAp := hT.ag hA1109 [] trivial (by kernel_rfl)
                have e1118 : a.tmps.getD 73 undef = .int .i64 x_722_ID := hT.vals 2 rfl 73 rfl
                have hAp := hAp.add e1118
                exact opk_callX hAp rfl (r_call (args := #[.int .i64 x_722_ID, .int .i64 50]) Try.func28 (by decide) rfl (map_arr (ml_cons (hAp.get rfl) (ml_cons rfl ml_nil))) rfl) (hc1120 w hT.chg) fun _ _ _ _ e hR => ⟨_, e, hR.1, fun _ => hR.2⟩
              · intro a w hT
                have hAp := hT.ag hA1109 [(8, .pointer (some (⟨B_725, 0, none⟩ : Addr)))] ⟨rfl, trivial⟩ (by kernel_rfl)
                exact opk_val hAp rfl (r_fieldAddr (hAp.get rfl) Try.underlying48 rfl ti_3 (by decide)) fun _ _ e => ⟨_, e, Chg.refl _ _, fun _ => Eq.refl _⟩
              · intro a w hT
                have hAp := hT.ag hA1109 [] trivial (by kernel_rfl)
                have e1122 : a.tmps.getD 75 undef = .pointer (some (⟨B_725, 2, none⟩ : Addr)) := hT.vals 4 rfl 75 rfl
                have hAp := hAp.add e1122
                exact opk_val hAp rfl (r_load1 Try.underlying3 rfl (hAp.get rfl) ((hB1114.ext hT.chg).cell 2 _ rfl)) fun _ _ e => ⟨_, e, Chg.refl _ _, fun _ => Eq.refl _⟩
              · intro a w hT
                have hAp := hT.ag hA1109 [] trivial (by kernel_rfl)
                have e1123 : a.tmps.getD 76 undef = .int .i64 x_722_Parent := hT.vals 5 rfl 76 rfl
                have hAp := hAp.add e1123
                exact opk_callX hAp rfl (r_call (args := #[.int .i64 x_722_Parent, .int .i64 50]) Try.func28 (by decide) rfl (map_arr (ml_cons (hAp.get rfl) (ml_cons rfl ml_nil))) rfl) (hc1125 w hT.chg) fun _ _ _ _ e hR => ⟨_, e, hR.1, fun _ => hR.2⟩
              · intro a w hT
                have hAp := hT.ag hA1109 [(8, .pointer (some (⟨B_725, 0, none⟩ : Addr)))] ⟨rfl, trivial⟩ (by kernel_rfl)
                exact opk_val hAp rfl (r_fieldAddr (hAp.get rfl) Try.underlying48 rfl ti_3 (by decide)) fun _ _ e => ⟨_, e, Chg.refl _ _, fun _ => Eq.refl _⟩
              · intro a w hT
                have hAp := hT.ag hA1109 [] trivial (by kernel_rfl)
                have e1127 : a.tmps.getD 78 undef = .pointer (some (⟨B_725, 3, none⟩ : Addr)) := hT.vals 7 rfl 78 rfl
                have hAp := hAp.add e1127
                exact opk_val hAp rfl (r_load1 Try.underlying3 rfl (hAp.get rfl) ((hB1114.ext hT.chg).cell 3 _ rfl)) fun _ _ e => ⟨_, e, Chg.refl _ _, fun _ => Eq.refl _⟩
              · intro a w hT
                have hAp := hT.ag hA1109 [] trivial (by kernel_rfl)
                have e1128 : a.tmps.getD 79 undef = .int .i64 x_722_At := hT.vals 8 rfl 79 rfl
                have hAp := hAp.add e1128
                exact opk_callX hAp rfl (r_call (args := #[.int .i64 x_722_At, .int .i64 5]) Try.func28 (by decide) rfl (map_arr (ml_cons (hAp.get rfl) (ml_cons rfl ml_nil))) rfl) (hc1130 w hT.chg) fun _ _ _ _ e hR => ⟨_, e, hR.1, fun _ => hR.2⟩
              · intro a1132 w1133 hE1134 hag1135 hv1136
                have hA1132 := hag1135 [(1, Sl.v l_2), (5, .pointer r_0_14), (7, .int .i64 i_38)] ⟨rfl, rfl, rfl, trivial⟩ (by kernel_rfl)
                have e1138 : a1132.tmps.getD 71 undef = .pointer r_0_14 := hv1136 0 rfl 71 rfl
                have hA1139 := hA1132.add e1138
                have e1140 : a1132.tmps.getD 74 undef = .int .i64 r_1119 := hv1136 3 rfl 74 rfl
                have hA1141 := hA1139.add e1140
                have e1142 : a1132.tmps.getD 77 undef = .int .i64 r_1124 := hv1136 6 rfl 77 rfl
                have hA1143 := hA1141.add e1142
                have e1144 : a1132.tmps.getD 80 undef = .int .i64 r_1129 := hv1136 9 rfl 80 rfl
                have hA1145 := hA1143.add e1144
                have hB1146 := hB1114.ext hE1134
                have hC1147 : Chg [] w1112 w1133 := hE1134
                have ht1148 := ht1131 w1133    hC1147
                refine one (D := [[], [], [1], [1, 2], [], [4], [1, 2, 3, 4, 5], [], [7], [1, 2, 3, 4, 5, 6, 7, 8], [0, 1, 2, 3, 4, 5, 6, 7, 8, 9]]) (i := 10) rfl (by kernel_rfl) (opk_call hA1145 rfl (r_call (args := #[.pointer r_0_14, .int .i64 r_1119, .int .i64 r_1124, .int .i64 r_1129]) Try.func26 (by decide) rfl (map_arr (ml_cons (hA1145.get rfl) (ml_cons (hA1145.get rfl) (ml_cons (hA1145.get rfl) (ml_cons (hA1145.get rfl) ml_nil))))) rfl) ht1148 fun a1150 v1156 w1151 hA1150 _ hn1153 hz1154 hK1155 => ?_)
                obtain ⟨r_1149, rfl, ht1152⟩ := hK1155
                have hB1157 := hB1146.kept hn1153 (.head _)
                refine PR_end (by kernel_rfl) ?_
                have hA1158 := hA1150.keep [(1, Sl.v l_2), (5, .pointer r_0_14), (7, .int .i64 i_38)] ⟨rfl, rfl, rfl, trivial⟩
                refine block_normal ?_
                have hA1159 := hA1158.keep [(1, Sl.v l_2), (5, .pointer r_0_14), (7, .int .i64 i_38)] ⟨rfl, rfl, rfl, trivial⟩
                exact then_normal ⟨hA1159, ht1152⟩
            · have ht1111 := ht1083.2 (of_decide_eq_false hc)
              clear hc
              refine wp_seq ?_
              refine wp_region_lit ?_
              refine sq (opk_val hA1109 rfl (r_eql (hA1109.get rfl) rfl) fun a1160 hA1160 _ => ?_)
              refine sq (opk_val hA1160 rfl (r_assign (hA1160.get rfl)) fun a1161 hA1161 _ => ?_)
              refine sq_end ?_
              have hA1162 := hA1161.keep [(1, Sl.v l_2), (5, .pointer r_0_14), (7, .int .i64 i_38), (8, .pointer (some (⟨B_725, 0, none⟩ : Addr))), (34, .int .i64 r_744), (82, .bool (decide (r_744 = 3)))] ⟨rfl, rfl, rfl, rfl, rfl, rfl, trivial⟩
              refine then_normal ?_
              refine wp_cond_split (hA1162.get rfl) (fun hc => ?_) (fun hc => ?_)
              · have ht1163 := ht1111.1 (of_decide_eq_true hc)
                clear hc
                refine draw' (by kernel_rfl) fun w1165 hE1166 => ?_
                have hB1167 := hB752.ext hE1166
                have hC1168 : Chg [] w746 w1165 := hE1166
                have ht1169 := ht1163 w1165    hC1168
                obtain ⟨r_1172, hc1173, ht1174⟩ := ht1169
                refine par (D := [[], [], [1], [1, 2], [], [4], [], [6], [0, 1, 2, 3, 4, 5, 6, 7]]) (S := [0, 1, 2, 3, 4, 5, 6, 7]) (F := []) (V := VL [(0, fun v _ => v = .pointer r_0_14), (1, fun v _ => v = .pointer (some (⟨B_725, 1, none⟩ : Addr))), (2, fun v _ => v = .int .i64 x_722_ID), (3, fun v _ => v = .int .i64 r_1172), (4, fun v _ => v = .pointer (some (⟨B_725, 5, none⟩ : Addr))), (5, fun v _ => v = .string (Bs x_722_Name)), (6, fun v _ => v = .pointer (some (⟨B_725, 6, none⟩ : Addr))), (7, fun v _ => v = .string (Bs x_722_Text))]) hA1162 (by kernel_rfl) ⟨fun _ _ _ _ h => by first | exact h | (change _ = _ at h; change _ = _; exact h), fun _ _ _ _ h => by first | exact h | (change _ = _ at h; change _ = _; exact h), fun _ _ _ _ h => by first | exact h | (change _ = _ at h; change _ = _; exact h), fun _ _ _ _ h => by first | exact h | (change _ = _ at h; change _ = _; exact h), fun _ _ _ _ h => by first | exact h | (change _ = _ at h; change _ = _; exact h), fun _ _ _ _ h => by first | exact h | (change _ = _ at h; change _ = _; exact h), fun _ _ _ _ h => by first | exact h | (change _ = _ at h; change _ = _; exact h), fun _ _ _ _ h => by first | exact h | (change _ = _ at h; change _ = _; exact h), trivial⟩ ⟨?_, ?_, ?_, ?_, ?_, ?_, ?_, ?_, trivial⟩ ?_
                · intro a w hT
                  have hAp := hT.ag hA1162 [(5, .pointer r_0_14)] ⟨rfl, trivial⟩ (by kernel_rfl)
                  exact opk_val hAp rfl (r_move (hAp.get rfl)) fun _ _ e => ⟨_, e, Chg.refl _ _, fun _ => Eq.refl _⟩
                · intro a w hT
                  have hAp := hT.ag hA1162 [(8, .pointer (some (⟨B_725, 0, none⟩ : Addr)))] ⟨rfl, trivial⟩ (by kernel_rfl)
                  exact opk_val hAp rfl (r_fieldAddr (hAp.get rfl) Try.underlying48 rfl ti_3 (by decide)) fun _ _ e => ⟨_, e, Chg.refl _ _, fun _ => Eq.refl _⟩
                · intro a w hT
                  have hAp := hT.ag hA1162 [] trivial (by kernel_rfl)
                  have e1170 : a.tmps.getD 85 undef = .pointer (some (⟨B_725, 1, none⟩ : Addr)) := hT.vals 1 rfl 85 rfl
                  have hAp := hAp.add e1170
                  exact opk_val hAp rfl (r_load1 Try.underlying3 rfl (hAp.get rfl) ((hB1167.ext hT.chg).cell 1 _ rfl)) fun _ _ e => ⟨_, e, Chg.refl _ _, fun _ => Eq.refl _⟩
                · intro a w hT
                  have hAp := hT.ag hA1162 [] trivial (by kernel_rfl)
                  have e1171 : a.tmps.getD 86 undef = .int .i64 x_722_ID := hT.vals 2 rfl 86 rfl
                  have hAp := hAp.add e1171
                  exact opk_callX hAp rfl (r_call (args := #[.int .i64 x_722_ID, .int .i64 50]) Try.func28 (by decide) rfl (map_arr (ml_cons (hAp.get rfl) (ml_cons rfl ml_nil))) rfl) (hc1173 w hT.chg) fun _ _ _ _ e hR => ⟨_, e, hR.1, fun _ => hR.2⟩
                · intro a w hT
                  have hAp := hT.ag hA1162 [(8, .pointer (some (⟨B_725, 0, none⟩ : Addr)))] ⟨rfl, trivial⟩ (by kernel_rfl)
                  exact opk_val hAp rfl (r_fieldAddr (hAp.get rfl) Try.underlying48 rfl ti_9 (by decide)) fun _ _ e => ⟨_, e, Chg.refl _ _, fun _ => Eq.refl _⟩
                · intro a w hT
                  have hAp := hT.ag hA1162 [] trivial (by kernel_rfl)
                  have e1175 : a.tmps.getD 88 undef = .pointer (some (⟨B_725, 5, none⟩ : Addr)) := hT.vals 4 rfl 88 rfl
                  have hAp := hAp.add e1175
                  exact opk_val hAp rfl (r_load1 Try.underlying9 rfl (hAp.get rfl) ((hB1167.ext hT.chg).cell 5 _ rfl)) fun _ _ e => ⟨_, e, Chg.refl _ _, fun _ => Eq.refl _⟩
                · intro a w hT
                  have hAp := hT.ag hA1162 [(8, .pointer (some (⟨B_725, 0, none⟩ : Addr)))] ⟨rfl, trivial⟩ (by kernel_rfl)
                  exact opk_val hAp rfl (r_fieldAddr (hAp.get rfl) Try.underlying48 rfl ti_9 (by decide)) fun _ _ e => ⟨_, e, Chg.refl _ _, fun _ => Eq.refl _⟩
                · intro a w hT
                  have hAp := hT.ag hA1162 [] trivial (by kernel_rfl)
                  have e1176 : a.tmps.getD 90 undef = .pointer (some (⟨B_725, 6, none⟩ : Addr)) := hT.vals 6 rfl 90 rfl
                  have hAp := hAp.add e1176
                  exact opk_val hAp rfl (r_load1 Try.underlying9 rfl (hAp.get rfl) ((hB1167.ext hT.chg).cell 6 _ rfl)) fun _ _ e => ⟨_, e, Chg.refl _ _, fun _ => Eq.refl _⟩
                · intro a1177 w1178 hE1179 hag1180 hv1181
                  have hA1177 := hag1180 [(1, Sl.v l_2), (5, .pointer r_0_14), (7, .int .i64 i_38)] ⟨rfl, rfl, rfl, trivial⟩ (by kernel_rfl)
                  have e1183 : a1177.tmps.getD 84 undef = .pointer r_0_14 := hv1181 0 rfl 84 rfl
                  have hA1184 := hA1177.add e1183
                  have e1185 : a1177.tmps.getD 87 undef = .int .i64 r_1172 := hv1181 3 rfl 87 rfl
                  have hA1186 := hA1184.add e1185
                  have e1187 : a1177.tmps.getD 89 undef = .string (Bs x_722_Name) := hv1181 5 rfl 89 rfl
                  have hA1188 := hA1186.add e1187
                  have e1189 : a1177.tmps.getD 91 undef = .string (Bs x_722_Text) := hv1181 7 rfl 91 rfl
                  have hA1190 := hA1188.add e1189
                  have hB1191 := hB1167.ext hE1179
                  have hC1192 : Chg [] w1165 w1178 := hE1179
                  have ht1193 := ht1174 w1178    hC1192
                  refine one (D := [[], [], [1], [1, 2], [], [4], [], [6], [0, 1, 2, 3, 4, 5, 6, 7]]) (i := 8) rfl (by kernel_rfl) (opk_call hA1190 rfl (r_call (args := #[.pointer r_0_14, .int .i64 r_1172, .string (Bs x_722_Name), .string (Bs x_722_Text)]) Try.func15 (by decide) rfl (map_arr (ml_cons (hA1190.get rfl) (ml_cons (hA1190.get rfl) (ml_cons (hA1190.get rfl) (ml_cons (hA1190.get rfl) ml_nil))))) rfl) ht1193 fun a1195 v1201 w1196 hA1195 _ hn1198 hz1199 hK1200 => ?_)
                  obtain ⟨r_1194, rfl, ht1197⟩ := hK1200
                  have hB1202 := hB1191.kept hn1198 (.head _)
                  refine PR_end (by kernel_rfl) ?_
                  have hA1203 := hA1195.keep [(1, Sl.v l_2), (5, .pointer r_0_14), (7, .int .i64 i_38)] ⟨rfl, rfl, rfl, trivial⟩
                  refine block_normal ?_
                  have hA1204 := hA1203.keep [(1, Sl.v l_2), (5, .pointer r_0_14), (7, .int .i64 i_38)] ⟨rfl, rfl, rfl, trivial⟩
                  exact then_normal ⟨hA1204, ht1197⟩
              · have ht1164 := ht1111.2 (of_decide_eq_false hc)
                clear hc
                refine wp_seq ?_
                refine wp_region_lit ?_
                refine sq (opk_val hA1162 rfl (r_eql (hA1162.get rfl) rfl) fun a1205 hA1205 _ => ?_)
                refine sq (opk_val hA1205 rfl (r_assign (hA1205.get rfl)) fun a1206 hA1206 _ => ?_)
                refine sq_end ?_
                have hA1207 := hA1206.keep [(1, Sl.v l_2), (5, .pointer r_0_14), (7, .int .i64 i_38), (8, .pointer (some (⟨B_725, 0, none⟩ : Addr))), (93, .bool (decide (r_744 = 4)))] ⟨rfl, rfl, rfl, rfl, rfl, trivial⟩
                refine then_normal ?_
                refine wp_cond_split (hA1207.get rfl) (fun hc => ?_) (fun hc => ?_)
                · have ht1208 := ht1164.1 (of_decide_eq_true hc)
                  clear hc
                  refine draw' (by kernel_rfl) fun w1210 hE1211 => ?_
                  have hB1212 := hB752.ext hE1211
                  have hC1213 : Chg [] w746 w1210 := hE1211
                  have ht1214 := ht1208 w1210    hC1213
                  obtain ⟨r_1217, hc1218, ht1219⟩ := ht1214
                  refine par (D := [[], [], [1], [1, 2], [], [4], [0, 1, 2, 3, 4, 5]]) (S := [0, 1, 2, 3, 4, 5]) (F := []) (V := VL [(0, fun v _ => v = .pointer r_0_14), (1, fun v _ => v = .pointer (some (⟨B_725, 1, none⟩ : Addr))), (2, fun v _ => v = .int .i64 x_722_ID), (3, fun v _ => v = .int .i64 r_1217), (4, fun v _ => v = .pointer (some (⟨B_725, 5, none⟩ : Addr))), (5, fun v _ => v = .string (Bs x_722_Name))]) hA1207 (by kernel_rfl) ⟨fun _ _ _ _ h => by first | exact h | (change _ = _ at h; change _ = _; exact h), fun _ _ _ _ h => by first | exact h | (change _ = _ at h; change _ = _; exact h), fun _ _ _ _ h => by first | exact h | (change _ = _ at h; change _ = _; exact h), fun _ _ _ _ h => by first | exact h | (change _ = _ at h; change _ = _; exact h), fun _ _ _ _ h => by first | exact h | (change _ = _ at h; change _ = _; exact h), fun _ _ _ _ h => by first | exact h | (change _ = _ at h; change _ = _; exact h), trivial⟩ ⟨?_, ?_, ?_, ?_, ?_, ?_, trivial⟩ ?_
                  · intro a w hT
                    have hAp := hT.ag hA1207 [(5, .pointer r_0_14)] ⟨rfl, trivial⟩ (by kernel_rfl)
                    exact opk_val hAp rfl (r_move (hAp.get rfl)) fun _ _ e => ⟨_, e, Chg.refl _ _, fun _ => Eq.refl _⟩
                  · intro a w hT
                    have hAp := hT.ag hA1207 [(8, .pointer (some (⟨B_725, 0, none⟩ : Addr)))] ⟨rfl, trivial⟩ (by kernel_rfl)
                    exact opk_val hAp rfl (r_fieldAddr (hAp.get rfl) Try.underlying48 rfl ti_3 (by decide)) fun _ _ e => ⟨_, e, Chg.refl _ _, fun _ => Eq.refl _⟩
                  · intro a w hT
                    have hAp := hT.ag hA1207 [] trivial (by kernel_rfl)
                    have e1215 : a.tmps.getD 96 undef = .pointer (some (⟨B_725, 1, none⟩ : Addr)) := hT.vals 1 rfl 96 rfl
                    have hAp := hAp.add e1215
                    exact opk_val hAp rfl (r_load1 Try.underlying3 rfl (hAp.get rfl) ((hB1212.ext hT.chg).cell 1 _ rfl)) fun _ _ e => ⟨_, e, Chg.refl _ _, fun _ => Eq.refl _⟩
                  · intro a w hT
                    have hAp := hT.ag hA1207 [] trivial (by kernel_rfl)
                    have e1216 : a.tmps.getD 97 undef = .int .i64 x_722_ID := hT.vals 2 rfl 97 rfl
                    have hAp := hAp.add e1216
                    exact opk_callX hAp rfl (r_call (args := #[.int .i64 x_722_ID, .int .i64 50]) Try.func28 (by decide) rfl (map_arr (ml_cons (hAp.get rfl) (ml_cons rfl ml_nil))) rfl) (hc1218 w hT.chg) fun _ _ _ _ e hR => ⟨_, e, hR.1, fun _ => hR.2⟩
                  · intro a w hT
                    have hAp := hT.ag hA1207 [(8, .pointer (some (⟨B_725, 0, none⟩ : Addr)))] ⟨rfl, trivial⟩ (by kernel_rfl)
                    exact opk_val hAp rfl (r_fieldAddr (hAp.get rfl) Try.underlying48 rfl ti_9 (by decide)) fun _ _ e => ⟨_, e, Chg.refl _ _, fun _ => Eq.refl _⟩
                  · intro a w hT
                    have hAp := hT.ag hA1207 [] trivial (by kernel_rfl)
                    have e1220 : a.tmps.getD 99 undef = .pointer (some (⟨B_725, 5, none⟩ : Addr)) := hT.vals 4 rfl 99 rfl
                    have hAp := hAp.add e1220
                    exact opk_val hAp rfl (r_load1 Try.underlying9 rfl (hAp.get rfl) ((hB1212.ext hT.chg).cell 5 _ rfl)) fun _ _ e => ⟨_, e, Chg.refl _ _, fun _ => Eq.refl _⟩
                  · intro a1221 w1222 hE1223 hag1224 hv1225
                    have hA1221 := hag1224 [(1, Sl.v l_2), (5, .pointer r_0_14), (7, .int .i64 i_38)] ⟨rfl, rfl, rfl, trivial⟩ (by kernel_rfl)
                    have e1227 : a1221.tmps.getD 95 undef = .pointer r_0_14 := hv1225 0 rfl 95 rfl
                    have hA1228 := hA1221.add e1227
                    have e1229 : a1221.tmps.getD 98 undef = .int .i64 r_1217 := hv1225 3 rfl 98 rfl
                    have hA1230 := hA1228.add e1229
                    have e1231 : a1221.tmps.getD 100 undef = .string (Bs x_722_Name) := hv1225 5 rfl 100 rfl
                    have hA1232 := hA1230.add e1231
                    have hB1233 := hB1212.ext hE1223
                    have hC1234 : Chg [] w1210 w1222 := hE1223
                    have ht1235 := ht1219 w1222    hC1234
                    refine one (D := [[], [], [1], [1, 2], [], [4], [0, 1, 2, 3, 4, 5]]) (i := 6) rfl (by kernel_rfl) (opk_call hA1232 rfl (r_call (args := #[.pointer r_0_14, .int .i64 r_1217, .string (Bs x_722_Name)]) Try.func29 (by decide) rfl (map_arr (ml_cons (hA1232.get rfl) (ml_cons (hA1232.get rfl) (ml_cons (hA1232.get rfl) ml_nil)))) rfl) ht1235 fun a1237 v1243 w1238 hA1237 _ hn1240 hz1241 hK1242 => ?_)
                    obtain ⟨r_1236, rfl, ht1239⟩ := hK1242
                    have hB1244 := hB1233.kept hn1240 (.head _)
                    refine PR_end (by kernel_rfl) ?_
                    have hA1245 := hA1237.keep [(1, Sl.v l_2), (5, .pointer r_0_14), (7, .int .i64 i_38)] ⟨rfl, rfl, rfl, trivial⟩
                    refine block_normal ?_
                    have hA1246 := hA1245.keep [(1, Sl.v l_2), (5, .pointer r_0_14), (7, .int .i64 i_38)] ⟨rfl, rfl, rfl, trivial⟩
                    exact then_normal ⟨hA1246, ht1239⟩
                · have ht1209 := ht1164.2 (of_decide_eq_false hc)
                  clear hc
                  refine draw' (by kernel_rfl) fun w1247 hE1248 => ?_
                  have hB1249 := hB752.ext hE1248
                  have hC1250 : Chg [] w746 w1247 := hE1248
                  have ht1251 := ht1209 w1247    hC1250
                  obtain ⟨r_1254, hc1255, ht1256⟩ := ht1251
                  refine par (D := [[], [], [1], [1, 2], [], [4], [0, 1, 2, 3, 4, 5]]) (S := [0, 1, 2, 3, 4, 5]) (F := []) (V := VL [(0, fun v _ => v = .pointer r_0_14), (1, fun v _ => v = .pointer (some (⟨B_725, 1, none⟩ : Addr))), (2, fun v _ => v = .int .i64 x_722_ID), (3, fun v _ => v = .int .i64 r_1254), (4, fun v _ => v = .pointer (some (⟨B_725, 6, none⟩ : Addr))), (5, fun v _ => v = .string (Bs x_722_Text))]) hA1207 (by kernel_rfl) ⟨fun _ _ _ _ h => by first | exact h | (change _ = _ at h; change _ = _; exact h), fun _ _ _ _ h => by first | exact h | (change _ = _ at h; change _ = _; exact h), fun _ _ _ _ h => by first | exact h | (change _ = _ at h; change _ = _; exact h), fun _ _ _ _ h => by first | exact h | (change _ = _ at h; change _ = _; exact h), fun _ _ _ _ h => by first | exact h | (change _ = _ at h; change _ = _; exact h), fun _ _ _ _ h => by first | exact h | (change _ = _ at h; change _ = _; exact h), trivial⟩ ⟨?_, ?_, ?_, ?_, ?_, ?_, trivial⟩ ?_
                  · intro a w hT
                    have hAp := hT.ag hA1207 [(5, .pointer r_0_14)] ⟨rfl, trivial⟩ (by kernel_rfl)
                    exact opk_val hAp rfl (r_move (hAp.get rfl)) fun _ _ e => ⟨_, e, Chg.refl _ _, fun _ => Eq.refl _⟩
                  · intro a w hT
                    have hAp := hT.ag hA1207 [(8, .pointer (some (⟨B_725, 0, none⟩ : Addr)))] ⟨rfl, trivial⟩ (by kernel_rfl)
                    exact opk_val hAp rfl (r_fieldAddr (hAp.get rfl) Try.underlying48 rfl ti_3 (by decide)) fun _ _ e => ⟨_, e, Chg.refl _ _, fun _ => Eq.refl _⟩
                  · intro a w hT
                    have hAp := hT.ag hA1207 [] trivial (by kernel_rfl)
                    have e1252 : a.tmps.getD 36 undef = .pointer (some (⟨B_725, 1, none⟩ : Addr)) := hT.vals 1 rfl 36 rfl
                    have hAp := hAp.add e1252
                    exact opk_val hAp rfl (r_load1 Try.underlying3 rfl (hAp.get rfl) ((hB1249.ext hT.chg).cell 1 _ rfl)) fun _ _ e => ⟨_, e, Chg.refl _ _, fun _ => Eq.refl _⟩
                  · intro a w hT
                    have hAp := hT.ag hA1207 [] trivial (by kernel_rfl)
                    have e1253 : a.tmps.getD 37 undef = .int .i64 x_722_ID := hT.vals 2 rfl 37 rfl
                    have hAp := hAp.add e1253
                    exact opk_callX hAp rfl (r_call (args := #[.int .i64 x_722_ID, .int .i64 50]) Try.func28 (by decide) rfl (map_arr (ml_cons (hAp.get rfl) (ml_cons rfl ml_nil))) rfl) (hc1255 w hT.chg) fun _ _ _ _ e hR => ⟨_, e, hR.1, fun _ => hR.2⟩
                  · intro a w hT
                    have hAp := hT.ag hA1207 [(8, .pointer (some (⟨B_725, 0, none⟩ : Addr)))] ⟨rfl, trivial⟩ (by kernel_rfl)
                    exact opk_val hAp rfl (r_fieldAddr (hAp.get rfl) Try.underlying48 rfl ti_9 (by decide)) fun _ _ e => ⟨_, e, Chg.refl _ _, fun _ => Eq.refl _⟩
                  · intro a w hT
                    have hAp := hT.ag hA1207 [] trivial (by kernel_rfl)
                    have e1257 : a.tmps.getD 39 undef = .pointer (some (⟨B_725, 6, none⟩ : Addr)) := hT.vals 4 rfl 39 rfl
                    have hAp := hAp.add e1257
                    exact opk_val hAp rfl (r_load1 Try.underlying9 rfl (hAp.get rfl) ((hB1249.ext hT.chg).cell 6 _ rfl)) fun _ _ e => ⟨_, e, Chg.refl _ _, fun _ => Eq.refl _⟩
                  · intro a1258 w1259 hE1260 hag1261 hv1262
                    have hA1258 := hag1261 [(1, Sl.v l_2), (5, .pointer r_0_14), (7, .int .i64 i_38)] ⟨rfl, rfl, rfl, trivial⟩ (by kernel_rfl)
                    have e1264 : a1258.tmps.getD 35 undef = .pointer r_0_14 := hv1262 0 rfl 35 rfl
                    have hA1265 := hA1258.add e1264
                    have e1266 : a1258.tmps.getD 38 undef = .int .i64 r_1254 := hv1262 3 rfl 38 rfl
                    have hA1267 := hA1265.add e1266
                    have e1268 : a1258.tmps.getD 40 undef = .string (Bs x_722_Text) := hv1262 5 rfl 40 rfl
                    have hA1269 := hA1267.add e1268
                    have hB1270 := hB1249.ext hE1260
                    have hC1271 : Chg [] w1247 w1259 := hE1260
                    have ht1272 := ht1256 w1259    hC1271
                    refine one (D := [[], [], [1], [1, 2], [], [4], [0, 1, 2, 3, 4, 5]]) (i := 6) rfl (by kernel_rfl) (opk_call hA1269 rfl (r_call (args := #[.pointer r_0_14, .int .i64 r_1254, .string (Bs x_722_Text)]) Try.func30 (by decide) rfl (map_arr (ml_cons (hA1269.get rfl) (ml_cons (hA1269.get rfl) (ml_cons (hA1269.get rfl) ml_nil)))) rfl) ht1272 fun a1274 v1280 w1275 hA1274 _ hn1277 hz1278 hK1279 => ?_)
                    obtain ⟨r_1273, rfl, ht1276⟩ := hK1279
                    have hB1281 := hB1270.kept hn1277 (.head _)
                    refine PR_end (by kernel_rfl) ?_
                    have hA1282 := hA1274.keep [(1, Sl.v l_2), (5, .pointer r_0_14), (7, .int .i64 i_38)] ⟨rfl, rfl, rfl, trivial⟩
                    refine block_normal ?_
                    have hA1283 := hA1282.keep [(1, Sl.v l_2), (5, .pointer r_0_14), (7, .int .i64 i_38)] ⟨rfl, rfl, rfl, trivial⟩
                    exact then_normal ⟨hA1283, ht1276⟩
      · intro a1284 w1014 hm
        obtain ⟨hA1284, hJ1358⟩ := hm
        have ht1285 := hr1017 w1014 hJ1358
        refine then_normal ?_
        refine wp_seq ?_
        refine wp_region_lit ?_
        refine sq (opk_val hA1284 rfl (r_move (hA1284.get rfl)) fun a1286 hA1286 _ => ?_)
        refine sq (opk_call hA1286 rfl (r_call (args := #[.pointer r_0_14]) Try.func18 (by decide) rfl (map_arr (ml_cons (hA1286.get rfl) ml_nil)) rfl) ht1285 fun a1288 v1294 w1289 hA1288 _ hn1291 hz1292 hK1293 => ?_)
        obtain ⟨r_1287_Kind, r_1287_Name, r_1287_Text, r_1287_Attrs, r_1287_Kids, rfl, ht1290⟩ := hK1293
        refine sq (opk_new (fun B => .pointer (some ⟨B, 0, none⟩)) hA1288 rfl (r_alloc (cs := [.int .i64 0, .string (Bs ([] : Str)), .string (Bs ([] : Str)), Sl.v Sl.nil, Sl.v Sl.nil]) ti_29 rfl) fun a1297 w1296 B_1295 hE1298 hN1299 hB1300 hA1297 _ => ?_)
        have hN1301 : New w1289 B_1295 w1296 := hN1299
        have hC1302 : Chg [] w1289 w1296 := hE1298
        refine sq (opk_store hA1297 hB1300 (r_store (vs := [.int .i64 r_1287_Kind, .string (Bs r_1287_Name), .string (Bs r_1287_Text), Sl.v r_1287_Attrs, Sl.v r_1287_Kids]) (hA1297.get rfl) (hA1297.get rfl) rfl ti_29 hB1300 rfl (ones_all [.int .i64 r_1287_Kind, .string (Bs r_1287_Name), .string (Bs r_1287_Text), Sl.v r_1287_Attrs, Sl.v r_1287_Kids] rfl)) fun a1304 w1303 hS1305 hB1306 hA1304 => ?_)
        have hB1307 : Box w1303 B_1295 29 [.int .i64 r_1287_Kind, .string (Bs r_1287_Name), .string (Bs r_1287_Text), Sl.v r_1287_Attrs, Sl.v r_1287_Kids] := hB1306
        have hC1308 := hC1302.storeNew hN1301 hS1305
        have hN1309 := hN1301.up hS1305.size
        refine sq_end ?_
        have hA1310 := hA1304.keep [(1, Sl.v l_2), (5, .pointer r_0_14), (7, .int .i64 i_38), (9, .pointer (some (⟨B_1295, 0, none⟩ : Addr)))] ⟨rfl, rfl, rfl, rfl, trivial⟩
        refine then_normal ?_
        refine wp_seq ?_
        refine wp_region_lit ?_
        refine sq (opk_val hA1310 rfl (r_loadN (cs := [.int .i64 r_1287_Kind, .string (Bs r_1287_Name), .string (Bs r_1287_Text), Sl.v r_1287_Attrs, Sl.v r_1287_Kids]) Try.underlying29 rfl ti_29 (hA1310.get rfl) (hB1307.part 0 _ rfl)) fun a1311 hA1311 _ => ?_)
        have ht1312 := ht1290 w1303 B_1295 hN1309  hC1308
        refine sq (opk_call hA1311 rfl (r_call (args := #[.agg #[.int .i64 r_1287_Kind, .string (Bs r_1287_Name), .string (Bs r_1287_Text), Sl.v r_1287_Attrs, Sl.v r_1287_Kids]]) Try.func31 (by decide) rfl (map_arr (ml_cons (hA1311.get rfl) ml_nil)) rfl) ht1312 fun a1314 v1320 w1315 hA1314 _ hn1317 hz1318 hK1319 => ?_)
        obtain ⟨r_1313, rfl, ht1316⟩ := hK1319
        have hB1321 := hB1307.kept hn1317 (.head _)
        refine sq (opk_val hA1314 rfl (r_not (hA1314.get rfl)) fun a1322 hA1322 _ => ?_)
        refine sq (opk_val hA1322 rfl (r_move (hA1322.get rfl)) fun a1323 hA1323 _ => ?_)
        refine sq (opk_gval hA1323 rfl rfl (g := true) (e := (!r_1313)) rfl (fun hg => r_loadN (cs := [.int .i64 r_1287_Kind, .string (Bs r_1287_Name), .string (Bs r_1287_Text), Sl.v r_1287_Attrs, Sl.v r_1287_Kids]) Try.underlying29 rfl ti_29 (hA1323.get rfl) (hB1321.part 0 _ rfl)) fun a1324 hA1324 _ => ?_)
        obtain ⟨r_1325, hc1329, ht1328⟩ := ht1316
        refine sq (opk_gcall hA1324 rfl rfl (g := true) (e := (!r_1313)) rfl (fun hg => r_call (args := #[.agg #[.int .i64 r_1287_Kind, .string (Bs r_1287_Name), .string (Bs r_1287_Text), Sl.v r_1287_Attrs, Sl.v r_1287_Kids]]) Try.func32 (by decide) rfl (map_arr (ml_cons (cv_get (hA1324.get rfl) hg) ml_nil)) rfl) (fun hg => hc1329 (b_not_f (g_f hg))) fun a1326 w1327 hA1326 _ hE1330 => ?_)
        have hB1331 := hB1321.ext hE1330
        have hC1332 : Chg [] w1315 w1327 := hE1330
        have ht1333 := ht1328 w1327 hE1330
        refine sq (opk_gval hA1326 rfl rfl (g := true) (e := (!r_1313)) rfl (fun hg => r_move (hA1326.get rfl)) fun a1334 hA1334 _ => ?_)
        obtain ⟨r_1335, hc1339, ht1338⟩ := ht1333
        refine sq (opk_gcall hA1334 rfl rfl (g := true) (e := (!r_1313)) rfl (fun hg => r_call (args := #[.pointer r_0_14]) Try.func16 (by decide) rfl (map_arr (ml_cons (cv_get (hA1334.get rfl) hg) ml_nil)) rfl) (fun hg => hc1339 (b_not_f (g_f hg))) fun a1336 w1337 hA1336 _ hE1340 => ?_)
        have hB1341 := hB1331.ext hE1340
        have hC1342 : Chg [] w1327 w1337 := hE1340
        have ht1343 := ht1338 w1337 hE1340
        refine sq (opk_gval hA1336 rfl rfl (g := true) (e := (!r_1313)) rfl (fun hg => r_neq (cv_get (hA1336.get rfl) hg) (cv_get (hA1336.get rfl) hg)) fun a1344 hA1344 _ => ?_)
        refine sq (opk_val hA1344 rfl (r_pick_or (g := (true && ((!r_1313) == false))) (hA1344.get rfl) (hA1344.get rfl) (fun he => g_mkf rfl he)) fun a1345 hA1345 _ => ?_)
        refine sq_end ?_
        have hA1346 := hA1345.keep [(1, Sl.v l_2), (5, .pointer r_0_14), (7, .int .i64 i_38), (113, .bool ((!r_1313) || (decide (r_1325 ≠ r_1335))))] ⟨rfl, rfl, rfl, rfl, trivial⟩
        refine then_normal ?_
        refine wp_cond_split (hA1346.get rfl) (fun hc => ?_) (fun hc => ?_)
        · have ht1347 := ht1343.1 ((b_or_t hc).imp (fun h => (b_not_t h)) (fun h => (of_decide_eq_true h)))
          clear hc
          refine wp_seq ?_
          refine wp_region_lit ?_
          refine sq (opk_val hA1346 rfl (r_assign rfl) fun a1349 hA1349 _ => ?_)
          refine sq_end ?_
          have hA1350 := hA1349.keep [(4, .bool false)] ⟨rfl, trivial⟩
          refine then_normal ?_
          refine wp_ret ?_
          refine block_ret ?_
          refine then_ret ?_
          refine then_ret ?_
          refine block_ret ?_
          refine then_ret ?_
          exact res_all (vs := [.bool false]) rfl hA1350 ⟨res_of_tmp hA1350 rfl, trivial⟩ ht1347
        · have ht1348 := ht1343.2 ⟨(b_not_f (b_or_f hc).1), (of_decide_eq_false (b_or_f hc).2)⟩
          clear hc
          refine wp_skip ?_
          refine block_normal ?_
          refine then_normal ?_
          refine wp_region_lit ?_
          refine sq (opk_val hA1346 rfl (r_move (hA1346.get rfl)) fun a1351 hA1351 _ => ?_)
          obtain ⟨hS1353, ht1354⟩ := ht1348
          refine sq (opk_val hA1351 rfl (r_addI (hA1351.get rfl) rfl hS1353) fun a1352 hA1352 _ => ?_)
          refine sq (opk_val hA1352 rfl (r_assign (hA1352.get rfl)) fun a1355 hA1355 _ => ?_)
          refine sq_end ?_
          have hA1356 := hA1355.keep [(1, Sl.v l_2), (5, .pointer r_0_14), (7, .int .i64 (i_38 + 1))] ⟨rfl, rfl, rfl, trivial⟩
          have hA1357 := hA1356.keep [(1, Sl.v l_2), (5, .pointer r_0_14), (7, .int .i64 (i_38 + 1))] ⟨rfl, rfl, rfl, trivial⟩
          exact then_normal ⟨(i_38 + 1, w1337), ⟨hA1357, rfl, ht1354.1⟩, ht1354.2⟩
    · have ht713 := ht701.2 ((b_and_f hc).imp (fun h => (of_decide_eq_false h)) (fun h => (of_decide_eq_false h)))
      clear hc
      refine wp_exit ?_
      refine then_exit ?_
      refine then_exit ?_
      refine block_hit ?_
      have hA1359 := hA711.keep [] trivial
      refine then_normal ?_
      refine wp_seq ?_
      refine wp_region_lit ?_
      refine sq (opk_call hA1359 rfl (r_call (args := #[]) Try.func19 (by decide) rfl (map_arr ml_nil) rfl) ht713 fun a1361 v1367 w1362 hA1361 _ hn1364 hz1365 hK1366 => ?_)
      obtain ⟨r_1360, rfl, ht1363⟩ := hK1366
      refine sq (opk_val hA1361 rfl (r_assign (hA1361.get rfl)) fun a1368 hA1368 _ => ?_)
      refine sq_end ?_
      have hA1369 := hA1368.keep [(4, .bool r_1360)] ⟨rfl, trivial⟩
      refine then_normal ?_
      refine wp_ret ?_
      exact res_all (vs := [.bool r_1360]) rfl hA1369 ⟨res_of_tmp hA1369 rfl, trivial⟩ ht1363

end Go.Proofs.Ytghmgfkdnolcdaa
