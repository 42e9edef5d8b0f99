/-
  PRINTED BY PROGRAM: for each function its condition (vc), and that this suffices (ok).
-/
import Derived.Test.YtanhcenminbkmaaGT
namespace Go.Proofs.Ytanhcenminbkmaa
open Go.RowKit
set_option linter.unusedVariables false

/-- The condition of topiary/topiarylaw02.CrcMore. -/
def law02_CrcMore.vc (sum_1 : Int) (b_2 : Sl) (R : Value → World → Prop) (w : World) : Prop :=
CallK Try.prog 11 #[Sl.v b_2] w [] (fun v w8 => ∃ (r_6 : Sl), v = Sl.v r_6 ∧
CallK Try.prog 12 #[.int .u32 sum_1, Sl.v r_6] w8 [] (fun v w20 => ∃ (r_18 : Int), v = .int .u32 r_18 ∧
CallK Try.prog 13 #[.int .u32 sum_1, Sl.v b_2] w20 [] (fun v w30 => ∃ (r_28 : Int), v = .int .u32 r_28 ∧
∃ (r_39 : Int), (((r_18 = r_28)) → Calls Try.prog 14 #[Sl.v r_6] w30 (Ret fun v w' => Ext w30 w' ∧ v = .int .u32 r_39)) ∧
(∀ w41 : World, Ext w30 w41 →
∃ (r_48 : Int), (((r_18 = r_28)) → Calls Try.prog 13 #[.int .u32 0, Sl.v b_2] w41 (Ret fun v w' => Ext w41 w' ∧ v = .int .u32 r_48)) ∧
(∀ w50 : World, Ext w41 w50 →
∃ s_60 : Str, ((((r_18 = r_28) ∧ (r_39 = r_48))) → (convert 23 9 (Sl.v r_6)).run Try.prog w50 = .ok (.string (Bs s_60)) w50) ∧
∃ s_65 : Str, ((((r_18 = r_28) ∧ (r_39 = r_48))) → (convert 23 9 (Sl.v b_2)).run Try.prog w50 = .ok (.string (Bs s_65)) w50) ∧
∃ (r_72 : Bool), (((((r_18 = r_28) ∧ (r_39 = r_48)) ∧ (s_60 = s_65))) → Calls Try.prog 15 #[] w50 (Ret fun v w' => Ext w50 w' ∧ v = .bool r_72)) ∧
(∀ w74 : World, Ext w50 w74 →
R (.bool ((((decide (r_18 = r_28)) && (decide (r_39 = r_48))) && (decide (s_60 = s_65))) && r_72)) w74))))))
set_option maxHeartbeats 1000000 in
set_option maxRecDepth 10000 in
theorem law02_CrcMore.ok (sum_1 : Int) (b_2 : Sl) {R : Value → World → Prop} {w : World} (ht0 : law02_CrcMore.vc sum_1 b_2 R w) : Calls Try.prog 3 #[.int .u32 sum_1, Sl.v b_2] w (Ret R) := by
  refine enter [.int .u32 sum_1, Sl.v b_2] Try.func3 rfl Try.ntmps3 rfl ?_
  intro a0 hA0
  unfold law02_CrcMore.vc at ht0
  refine wp_seq ?_
  refine wp_region_lit ?_
  refine sq (opk_val hA0 rfl (r_assign rfl) fun a3 hA3 _ => ?_)
  refine sq_end ?_
  have hA4 := hA3.keep [(0, .int .u32 sum_1), (1, Sl.v b_2)] ⟨rfl, rfl, trivial⟩
  refine then_normal ?_
  refine wp_seq ?_
  refine wp_region_lit ?_
  refine sq (opk_val hA4 rfl (r_move (hA4.get rfl)) fun a5 hA5 _ => ?_)
  refine sq (opk_call hA5 rfl (r_call (args := #[Sl.v b_2]) Try.func11 (by decide) rfl (map_arr (ml_cons (hA5.get rfl) ml_nil)) rfl) ht0 fun a7 v13 w8 hA7 _ hn10 hz11 hK12 => ?_)
  obtain ⟨r_6, rfl, ht9⟩ := hK12
  refine sq (opk_val hA7 rfl (r_assign (hA7.get rfl)) fun a14 hA14 _ => ?_)
  refine sq_end ?_
  have hA15 := hA14.keep [(0, .int .u32 sum_1), (1, Sl.v b_2), (5, Sl.v r_6)] ⟨rfl, rfl, rfl, trivial⟩
  refine then_normal ?_
  refine wp_seq ?_
  refine wp_region_lit ?_
  refine sq (opk_val hA15 rfl (r_move (hA15.get rfl)) fun a16 hA16 _ => ?_)
  refine sq (opk_val hA16 rfl (r_move (hA16.get rfl)) fun a17 hA17 _ => ?_)
  refine sq (opk_call hA17 rfl (r_call (args := #[.int .u32 sum_1, Sl.v r_6]) Try.func12 (by decide) rfl (map_arr (ml_cons (hA17.get rfl) (ml_cons (hA17.get rfl) ml_nil))) rfl) ht9 fun a19 v25 w20 hA19 _ hn22 hz23 hK24 => ?_)
  obtain ⟨r_18, rfl, ht21⟩ := hK24
  refine sq (opk_val hA19 rfl (r_move (hA19.get rfl)) fun a26 hA26 _ => ?_)
  refine sq (opk_val hA26 rfl (r_move (hA26.get rfl)) fun a27 hA27 _ => ?_)
  refine sq (opk_call hA27 rfl (r_call (args := #[.int .u32 sum_1, Sl.v b_2]) Try.func13 (by decide) rfl (map_arr (ml_cons (hA27.get rfl) (ml_cons (hA27.get rfl) ml_nil))) rfl) ht21 fun a29 v35 w30 hA29 _ hn32 hz33 hK34 => ?_)
  obtain ⟨r_28, rfl, ht31⟩ := hK34
  refine sq (opk_val hA29 rfl (r_eql (hA29.get rfl) (hA29.get rfl)) fun a36 hA36 _ => ?_)
  refine sq (opk_val hA36 rfl (r_move (hA36.get rfl)) fun a37 hA37 _ => ?_)
  refine sq (opk_gval hA37 rfl rfl (g := true) (e := (decide (r_18 = r_28))) rfl (fun hg => r_move (hA37.get rfl)) fun a38 hA38 _ => ?_)
  obtain ⟨r_39, hc43, ht42⟩ := ht31
  refine sq (opk_gcall hA38 rfl rfl (g := true) (e := (decide (r_18 = r_28))) rfl (fun hg => r_call (args := #[Sl.v r_6]) Try.func14 (by decide) rfl (map_arr (ml_cons (cv_get (hA38.get rfl) hg) ml_nil)) rfl) (fun hg => hc43 (of_decide_eq_true (g_t hg))) fun a40 w41 hA40 _ hE44 => ?_)
  have hC45 : Chg [] w30 w41 := hE44
  have ht46 := ht42 w41 hE44
  refine sq (opk_gval hA40 rfl rfl (g := true) (e := (decide (r_18 = r_28))) rfl (fun hg => r_move (hA40.get rfl)) fun a47 hA47 _ => ?_)
  obtain ⟨r_48, hc52, ht51⟩ := ht46
  refine sq (opk_gcall hA47 rfl rfl (g := true) (e := (decide (r_18 = r_28))) rfl (fun hg => r_call (args := #[.int .u32 0, Sl.v b_2]) Try.func13 (by decide) rfl (map_arr (ml_cons rfl (ml_cons (cv_get (hA47.get rfl) hg) ml_nil))) rfl) (fun hg => hc52 (of_decide_eq_true (g_t hg))) fun a49 w50 hA49 _ hE53 => ?_)
  have hC54 : Chg [] w41 w50 := hE53
  have ht55 := ht51 w50 hE53
  refine sq (opk_gval hA49 rfl rfl (g := true) (e := (decide (r_18 = r_28))) rfl (fun hg => r_eql (cv_get (hA49.get rfl) hg) (cv_get (hA49.get rfl) hg)) fun a56 hA56 _ => ?_)
  refine sq (opk_val hA56 rfl (r_pick_and (g := (true && ((decide (r_18 = r_28)) == true))) (hA56.get rfl) (hA56.get rfl) (fun he => g_mkt rfl he)) fun a57 hA57 _ => ?_)
  refine sq (opk_val hA57 rfl (r_move (hA57.get rfl)) fun a58 hA58 _ => ?_)
  refine sq (opk_gval hA58 rfl rfl (g := true) (e := ((decide (r_18 = r_28)) && (decide (r_39 = r_48)))) rfl (fun hg => r_move (hA58.get rfl)) fun a59 hA59 _ => ?_)
  obtain ⟨s_60, hx61, ht62⟩ := ht55
  refine sq (opk_gval hA59 rfl rfl (g := true) (e := ((decide (r_18 = r_28)) && (decide (r_39 = r_48)))) rfl (fun hg => r_convR (cv_get (hA59.get rfl) hg) (hx61 ⟨(of_decide_eq_true (b_and_t (g_t hg)).1), (of_decide_eq_true (b_and_t (g_t hg)).2)⟩)) fun a63 hA63 _ => ?_)
  refine sq (opk_gval hA63 rfl rfl (g := true) (e := ((decide (r_18 = r_28)) && (decide (r_39 = r_48)))) rfl (fun hg => r_move (hA63.get rfl)) fun a64 hA64 _ => ?_)
  obtain ⟨s_65, hx66, ht67⟩ := ht62
  refine sq (opk_gval hA64 rfl rfl (g := true) (e := ((decide (r_18 = r_28)) && (decide (r_39 = r_48)))) rfl (fun hg => r_convR (cv_get (hA64.get rfl) hg) (hx66 ⟨(of_decide_eq_true (b_and_t (g_t hg)).1), (of_decide_eq_true (b_and_t (g_t hg)).2)⟩)) fun a68 hA68 _ => ?_)
  refine sq (opk_gval hA68 rfl rfl (g := true) (e := ((decide (r_18 = r_28)) && (decide (r_39 = r_48)))) rfl (fun hg => r_seql (cv_get (hA68.get rfl) hg) (cv_get (hA68.get rfl) hg)) fun a69 hA69 _ => ?_)
  refine sq (opk_val hA69 rfl (r_pick_and (g := (true && (((decide (r_18 = r_28)) && (decide (r_39 = r_48))) == true))) (hA69.get rfl) (hA69.get rfl) (fun he => g_mkt rfl he)) fun a70 hA70 _ => ?_)
  refine sq (opk_val hA70 rfl (r_move (hA70.get rfl)) fun a71 hA71 _ => ?_)
  obtain ⟨r_72, hc76, ht75⟩ := ht67
  refine sq (opk_gcall hA71 rfl rfl (g := true) (e := (((decide (r_18 = r_28)) && (decide (r_39 = r_48))) && (decide (s_60 = s_65)))) rfl (fun hg => r_call (args := #[]) Try.func15 (by decide) rfl (map_arr ml_nil) rfl) (fun hg => hc76 ⟨⟨(of_decide_eq_true (b_and_t (b_and_t (g_t hg)).1).1), (of_decide_eq_true (b_and_t (b_and_t (g_t hg)).1).2)⟩, (of_decide_eq_true (b_and_t (g_t hg)).2)⟩) fun a73 w74 hA73 _ hE77 => ?_)
  have hC78 : Chg [] w50 w74 := hE77
  have ht79 := ht75 w74 hE77
  refine sq (opk_val hA73 rfl (r_pick_and (g := (true && ((((decide (r_18 = r_28)) && (decide (r_39 = r_48))) && (decide (s_60 = s_65))) == true))) (hA73.get rfl) (hA73.get rfl) (fun he => g_mkt rfl he)) fun a80 hA80 _ => ?_)
  refine sq (opk_val hA80 rfl (r_assign (hA80.get rfl)) fun a81 hA81 _ => ?_)
  refine sq_end ?_
  have hA82 := hA81.keep [(4, .bool ((((decide (r_18 = r_28)) && (decide (r_39 = r_48))) && (decide (s_60 = s_65))) && r_72))] ⟨rfl, trivial⟩
  refine then_normal ?_
  refine wp_ret ?_
  exact res_all (vs := [.bool ((((decide (r_18 = r_28)) && (decide (r_39 = r_48))) && (decide (s_60 = s_65))) && r_72)]) rfl hA82 ⟨res_of_tmp hA82 rfl, trivial⟩ ht79

/-- The condition of topiary/topiarylaw02.CrcParts. -/
def law02_CrcParts.vc (b_1 : Sl) (at_2 : Int) (R : Value → World → Prop) (w : World) : Prop :=
(I64 ((b_1.n : Int) + 1)) ∧
CallK Try.prog 16 #[.int .i64 at_2, .int .i64 ((b_1.n : Int) + 1)] w [] (fun v w13 => ∃ (r_11 : Int), v = .int .i64 r_11 ∧
CallK Try.prog 14 #[Sl.v Sl.nil] w13 [] (fun v w23 => ∃ (r_21 : Int), v = .int .u32 r_21 ∧
∃ (J_36 : Int → Int → World → Prop) (mu_37 : Int → Int → World → Nat),
J_36 r_21 0 w23 ∧
(∀ (s_33 : Int) (i_34 : Int) (w35 : World), J_36 s_33 i_34 w35 →
((i_34 < (b_1.n : Int)) →
(I64 (i_34 + 1)) ∧
((0 : Int) ≤ i_34 ∧ (i_34 : Int) ≤ i_34 + 1 ∧ i_34 + 1 ≤ (b_1.c : Int)) ∧
CallK Try.prog 12 #[.int .u32 s_33, Sl.v (Sl.cut b_1 1 i_34.toNat (i_34 + 1).toNat b_1.c)] w35 [] (fun v w96 => ∃ (r_94 : Int), v = .int .u32 r_94 ∧
(I64 (i_34 + 1)) ∧
J_36 r_94 (i_34 + 1) w96 ∧ mu_37 r_94 (i_34 + 1) w96 < mu_37 s_33 i_34 w35)) ∧
((¬ (i_34 < (b_1.n : Int))) →
∀ (w112 : World), Chg [] w35 w112 →
((0 : Int) ≤ r_11 ∧ r_11 ≤ (b_1.c : Int)) ∧
∃ (r_121 : Int), (∀ w' : World, Ext w112 w' → Calls Try.prog 14 #[Sl.v (Sl.cut b_1 1 0 r_11.toNat b_1.c)] w' (Ret fun v w'' => Ext w' w'' ∧ v = .int .u32 r_121)) ∧
((0 : Int) ≤ r_11 ∧ r_11 ≤ (b_1.n : Int)) ∧
∃ (r_130 : Int), (∀ w' : World, Ext w112 w' → Calls Try.prog 12 #[.int .u32 r_121, Sl.v (Sl.cut b_1 1 r_11.toNat b_1.n b_1.c)] w' (Ret fun v w'' => Ext w' w'' ∧ v = .int .u32 r_130)) ∧
∃ (r_134 : Int), (∀ w' : World, Ext w112 w' → Calls Try.prog 14 #[Sl.v b_1] w' (Ret fun v w'' => Ext w' w'' ∧ v = .int .u32 r_134)) ∧
∃ (r_144 : Int), (((r_130 = r_134)) → ∀ w' : World, Ext w112 w' → Calls Try.prog 14 #[Sl.v b_1] w' (Ret fun v w'' => Ext w' w'' ∧ v = .int .u32 r_144)) ∧
∃ (r_154 : Bool), ((((r_130 = r_134) ∧ (s_33 = r_144))) → ∀ w' : World, Ext w112 w' → Calls Try.prog 15 #[] w' (Ret fun v w'' => Ext w' w'' ∧ v = .bool r_154)) ∧
∀ (w161 : World), Chg [] w112 w161 →
R (.bool (((decide (r_130 = r_134)) && (decide (s_33 = r_144))) && r_154)) w161))))
set_option maxHeartbeats 1000000 in
set_option maxRecDepth 10000 in
theorem law02_CrcParts.ok (b_1 : Sl) (at_2 : Int) {R : Value → World → Prop} {w : World} (ht0 : law02_CrcParts.vc b_1 at_2 R w) : Calls Try.prog 4 #[Sl.v b_1, .int .i64 at_2] w (Ret R) := by
  refine enter [Sl.v b_1, .int .i64 at_2] Try.func4 rfl Try.ntmps4 rfl ?_
  intro a0 hA0
  unfold law02_CrcParts.vc at ht0
  refine wp_seq ?_
  refine wp_region_lit ?_
  refine sq (opk_val hA0 rfl (r_assign rfl) fun a3 hA3 _ => ?_)
  refine sq_end ?_
  have hA4 := hA3.keep [(0, Sl.v b_1), (1, .int .i64 at_2)] ⟨rfl, rfl, trivial⟩
  refine then_normal ?_
  refine wp_seq ?_
  refine wp_region_lit ?_
  refine sq (opk_val hA4 rfl (r_move (hA4.get rfl)) fun a5 hA5 _ => ?_)
  refine sq (opk_val hA5 rfl (r_move (hA5.get rfl)) fun a6 hA6 _ => ?_)
  refine sq (opk_val hA6 rfl (r_len (hA6.get rfl) Try.underlying23) fun a7 hA7 _ => ?_)
  obtain ⟨hS9, ht10⟩ := ht0
  refine sq (opk_val hA7 rfl (r_addI (hA7.get rfl) rfl hS9) fun a8 hA8 _ => ?_)
  refine sq (opk_call hA8 rfl (r_call (args := #[.int .i64 at_2, .int .i64 ((b_1.n : Int) + 1)]) Try.func16 (by decide) rfl (map_arr (ml_cons (hA8.get rfl) (ml_cons (hA8.get rfl) ml_nil))) rfl) ht10 fun a12 v18 w13 hA12 _ hn15 hz16 hK17 => ?_)
  obtain ⟨r_11, rfl, ht14⟩ := hK17
  refine sq (opk_val hA12 rfl (r_assign (hA12.get rfl)) fun a19 hA19 _ => ?_)
  refine sq_end ?_
  have hA20 := hA19.keep [(0, Sl.v b_1), (5, .int .i64 r_11)] ⟨rfl, rfl, trivial⟩
  refine then_normal ?_
  refine wp_seq ?_
  refine wp_region_lit ?_
  refine sq (opk_call hA20 rfl (r_call (args := #[Sl.v Sl.nil]) Try.func14 (by decide) rfl (map_arr (ml_cons rfl ml_nil)) rfl) ht14 fun a22 v28 w23 hA22 _ hn25 hz26 hK27 => ?_)
  obtain ⟨r_21, rfl, ht24⟩ := hK27
  refine sq (opk_val hA22 rfl (r_assign (hA22.get rfl)) fun a29 hA29 _ => ?_)
  refine sq_end ?_
  have hA30 := hA29.keep [(0, Sl.v b_1), (5, .int .i64 r_11), (6, .int .u32 r_21)] ⟨rfl, rfl, rfl, trivial⟩
  refine then_normal ?_
  refine wp_seq ?_
  refine wp_seq ?_
  refine wp_region_lit ?_
  refine sq (opk_val hA30 rfl (r_assign rfl) fun a31 hA31 _ => ?_)
  refine sq_end ?_
  have hA32 := hA31.keep [(0, Sl.v b_1), (5, .int .i64 r_11), (6, .int .u32 r_21), (7, .int .i64 0)] ⟨rfl, rfl, rfl, rfl, trivial⟩
  refine then_normal ?_
  refine wp_block ?_
  obtain ⟨J_36, mu_37, h074, ht73⟩ := ht24
  refine wp_loop_st (σ := Int × Int × World) (fun s a w => Ag 47 a [(0, Sl.v b_1), (5, .int .i64 r_11), (6, .int .u32 s.1), (7, .int .i64 s.2.1)] ∧ w = s.2.2 ∧ J_36 s.1 s.2.1 s.2.2) (fun s => mu_37 s.1 s.2.1 s.2.2) (r_21, 0, w23) ⟨hA32.keep [(0, Sl.v b_1), (5, .int .i64 r_11), (6, .int .u32 r_21), (7, .int .i64 0)] ⟨rfl, rfl, rfl, rfl, trivial⟩, rfl, h074⟩ ?_
  rintro ⟨s_33, i_34, w35⟩ a72 w_ ⟨hA72, hw_, hJ76⟩
  have hw_ : w35 = w_ := hw_.symm
  subst hw_
  have ht75 := ht73 s_33 i_34 _ hJ76
  refine wp_seq ?_
  refine wp_seq ?_
  refine wp_region_lit ?_
  refine sq (opk_val hA72 rfl (r_move (hA72.get rfl)) fun a77 hA77 _ => ?_)
  refine sq (opk_val hA77 rfl (r_move (hA77.get rfl)) fun a78 hA78 _ => ?_)
  refine sq (opk_val hA78 rfl (r_len (hA78.get rfl) Try.underlying23) fun a79 hA79 _ => ?_)
  refine sq (opk_val hA79 rfl (r_lss (hA79.get rfl) (hA79.get rfl)) fun a80 hA80 _ => ?_)
  refine sq_end ?_
  have hA81 := hA80.keep [(0, Sl.v b_1), (5, .int .i64 r_11), (6, .int .u32 s_33), (7, .int .i64 i_34), (17, .bool (decide (i_34 < (b_1.n : Int))))] ⟨rfl, rfl, rfl, rfl, rfl, trivial⟩
  refine then_normal ?_
  refine wp_cond_split (hA81.get rfl) (fun hc => ?_) (fun hc => ?_)
  · have ht82 := ht75.1 (of_decide_eq_true hc)
    clear hc
    refine wp_skip ?_
    refine then_normal ?_
    refine wp_seq ?_
    refine wp_block ?_
    refine wp_region_lit ?_
    refine sq (opk_val hA81 rfl (r_move (hA81.get rfl)) fun a84 hA84 _ => ?_)
    refine sq (opk_val hA84 rfl (r_move (hA84.get rfl)) fun a85 hA85 _ => ?_)
    refine sq (opk_val hA85 rfl (r_move (hA85.get rfl)) fun a86 hA86 _ => ?_)
    refine sq (opk_val hA86 rfl (r_move (hA86.get rfl)) fun a87 hA87 _ => ?_)
    obtain ⟨hS89, ht90⟩ := ht82
    refine sq (opk_val hA87 rfl (r_addI (hA87.get rfl) rfl hS89) fun a88 hA88 _ => ?_)
    obtain ⟨hS92, ht93⟩ := ht90
    refine sq (opk_val hA88 rfl (r_slice2 (hA88.get rfl) (hA88.get rfl) (hA88.get rfl) Try.underlying23 ti_5 hS92) fun a91 hA91 _ => ?_)
    refine sq (opk_call hA91 rfl (r_call (args := #[.int .u32 s_33, Sl.v (Sl.cut b_1 1 i_34.toNat (i_34 + 1).toNat b_1.c)]) Try.func12 (by decide) rfl (map_arr (ml_cons (hA91.get rfl) (ml_cons (hA91.get rfl) ml_nil))) rfl) ht93 fun a95 v101 w96 hA95 _ hn98 hz99 hK100 => ?_)
    obtain ⟨r_94, rfl, ht97⟩ := hK100
    refine sq (opk_val hA95 rfl (r_assign (hA95.get rfl)) fun a102 hA102 _ => ?_)
    refine sq_end ?_
    have hA103 := hA102.keep [(0, Sl.v b_1), (5, .int .i64 r_11), (6, .int .u32 r_94), (7, .int .i64 i_34)] ⟨rfl, rfl, rfl, rfl, trivial⟩
    refine block_normal ?_
    refine then_normal ?_
    refine wp_region_lit ?_
    refine sq (opk_val hA103 rfl (r_move (hA103.get rfl)) fun a104 hA104 _ => ?_)
    obtain ⟨hS106, ht107⟩ := ht97
    refine sq (opk_val hA104 rfl (r_addI (hA104.get rfl) rfl hS106) fun a105 hA105 _ => ?_)
    refine sq (opk_val hA105 rfl (r_assign (hA105.get rfl)) fun a108 hA108 _ => ?_)
    refine sq_end ?_
    have hA109 := hA108.keep [(0, Sl.v b_1), (5, .int .i64 r_11), (6, .int .u32 r_94), (7, .int .i64 (i_34 + 1))] ⟨rfl, rfl, rfl, rfl, trivial⟩
    have hA110 := hA109.keep [(0, Sl.v b_1), (5, .int .i64 r_11), (6, .int .u32 r_94), (7, .int .i64 (i_34 + 1))] ⟨rfl, rfl, rfl, rfl, trivial⟩
    exact then_normal ⟨(r_94, i_34 + 1, w96), ⟨hA110, rfl, ht107.1⟩, ht107.2⟩
  · have ht83 := ht75.2 (of_decide_eq_false hc)
    clear hc
    refine wp_exit ?_
    refine then_exit ?_
    refine then_exit ?_
    refine block_hit ?_
    have hA111 := hA81.keep [(0, Sl.v b_1), (5, .int .i64 r_11), (6, .int .u32 s_33)] ⟨rfl, rfl, rfl, trivial⟩
    refine then_normal ?_
    refine wp_seq ?_
    refine draw' (by kernel_rfl) fun w112 hE113 => ?_
    have hC114 : Chg [] w35 w112 := hE113
    have ht115 := ht83 w112   hC114
    obtain ⟨hS118, ht119⟩ := ht115
    obtain ⟨r_121, hc122, ht123⟩ := ht119
    obtain ⟨hS126, ht127⟩ := ht123
    obtain ⟨r_130, hc131, ht132⟩ := ht127
    obtain ⟨r_134, hc135, ht136⟩ := ht132
    obtain ⟨r_144, hc145, ht146⟩ := ht136
    obtain ⟨r_154, hc155, ht156⟩ := ht146
    refine par (D := [[], [], [0, 1], [0, 1, 2], [], [], [4, 5], [0, 1, 2, 3, 4, 5, 6], [], [0, 1, 2, 3, 4, 5, 6, 7, 8], [0, 1, 2, 3, 4, 5, 6, 7, 8, 9], [0, 1, 2, 3, 4, 5, 6, 7, 8, 9, 10], [0, 1, 2, 3, 4, 5, 6, 7, 8, 9, 10, 11], [0, 1, 2, 3, 4, 5, 6, 7, 8, 9, 10, 11], [0, 1, 2, 3, 4, 5, 6, 7, 8, 9, 10, 11, 13], [0, 1, 2, 3, 4, 5, 6, 7, 8, 9, 10, 11, 12, 13, 14], [0, 1, 2, 3, 4, 5, 6, 7, 8, 9, 10, 11, 12, 13, 14, 15], [0, 1, 2, 3, 4, 5, 6, 7, 8, 9, 10, 11, 12, 13, 14, 15, 16], [0, 1, 2, 3, 4, 5, 6, 7, 8, 9, 10, 11, 12, 13, 14, 15, 16, 17], [0, 1, 2, 3, 4, 5, 6, 7, 8, 9, 10, 11, 12, 13, 14, 15, 16, 17, 18], [0, 1, 2, 3, 4, 5, 6, 7, 8, 9, 10, 11, 12, 13, 14, 15, 16, 17, 18, 19]]) (S := [0, 1, 2, 3, 4, 5, 6, 7, 8, 9, 10, 11, 12, 13, 14, 15, 16, 17, 18, 19, 20]) (F := []) (V := VL [(0, fun v _ => v = Sl.v b_1), (1, fun v _ => v = .int .i64 r_11), (2, fun v _ => v = Sl.v (Sl.cut b_1 1 0 r_11.toNat b_1.c)), (3, fun v _ => v = .int .u32 r_121), (4, fun v _ => v = Sl.v b_1), (5, fun v _ => v = .int .i64 r_11), (6, fun v _ => v = Sl.v (Sl.cut b_1 1 r_11.toNat b_1.n b_1.c)), (7, fun v _ => v = .int .u32 r_130), (8, fun v _ => v = Sl.v b_1), (9, fun v _ => v = .int .u32 r_134), (10, fun v _ => v = .bool (decide (r_130 = r_134))), (11, fun v _ => v = .bool (decide (r_130 = r_134))), (12, fun v _ => v = cV (true && ((decide (r_130 = r_134)) == true)) (.int .u32 s_33)), (13, fun v _ => v = cV (true && ((decide (r_130 = r_134)) == true)) (Sl.v b_1)), (14, fun v _ => v = cV (true && ((decide (r_130 = r_134)) == true)) (.int .u32 r_144)), (15, fun v _ => v = cV (true && ((decide (r_130 = r_134)) == true)) (.bool (decide (s_33 = r_144)))), (16, fun v _ => v = .bool ((decide (r_130 = r_134)) && (decide (s_33 = r_144)))), (17, fun v _ => v = .bool ((decide (r_130 = r_134)) && (decide (s_33 = r_144)))), (18, fun v _ => v = cV (true && (((decide (r_130 = r_134)) && (decide (s_33 = r_144))) == true)) (.bool r_154)), (19, fun v _ => v = .bool (((decide (r_130 = r_134)) && (decide (s_33 = r_144))) && r_154)), (20, fun v _ => v = .bool (((decide (r_130 = r_134)) && (decide (s_33 = r_144))) && r_154))]) hA111 (by kernel_rfl) ⟨fun _ _ _ _ h => h, fun _ _ _ _ h => h, fun _ _ _ _ h => h, fun _ _ _ _ h => h, fun _ _ _ _ h => h, fun _ _ _ _ h => h, fun _ _ _ _ h => h, fun _ _ _ _ h => h, fun _ _ _ _ h => h, fun _ _ _ _ h => h, fun _ _ _ _ h => h, fun _ _ _ _ h => h, fun _ _ _ _ h => h, fun _ _ _ _ h => h, fun _ _ _ _ h => h, fun _ _ _ _ h => h, fun _ _ _ _ h => h, fun _ _ _ _ h => h, fun _ _ _ _ h => h, fun _ _ _ _ h => h, fun _ _ _ _ h => h, trivial⟩ ⟨?_, ?_, ?_, ?_, ?_, ?_, ?_, ?_, ?_, ?_, ?_, ?_, ?_, ?_, ?_, ?_, ?_, ?_, ?_, ?_, ?_, trivial⟩ ?_
    · intro a w hT
      have hAp := hT.ag hA111 [(0, Sl.v b_1)] ⟨rfl, trivial⟩ (by kernel_rfl)
      exact opk_val hAp rfl (r_move (hAp.get rfl)) fun _ _ e => ⟨_, e, Chg.refl _ _, fun _ => Eq.refl _⟩
    · intro a w hT
      have hAp := hT.ag hA111 [(5, .int .i64 r_11)] ⟨rfl, trivial⟩ (by kernel_rfl)
      exact opk_val hAp rfl (r_move (hAp.get rfl)) fun _ _ e => ⟨_, e, Chg.refl _ _, fun _ => Eq.refl _⟩
    · intro a w hT
      have hAp := hT.ag hA111 [] trivial (by kernel_rfl)
      have e116 : a.tmps.getD 27 undef = Sl.v b_1 := hT.vals 0 rfl 27 rfl
      have hAp := hAp.add e116
      have e117 : a.tmps.getD 28 undef = .int .i64 r_11 := hT.vals 1 rfl 28 rfl
      have hAp := hAp.add e117
      exact opk_val hAp rfl (r_sliceH (hAp.get rfl) (hAp.get rfl) Try.underlying23 ti_5 hS118) fun _ _ e => ⟨_, e, Chg.refl _ _, fun _ => Eq.refl _⟩
    · intro a w hT
      have hAp := hT.ag hA111 [] trivial (by kernel_rfl)
      have e120 : a.tmps.getD 29 undef = Sl.v (Sl.cut b_1 1 0 r_11.toNat b_1.c) := hT.vals 2 rfl 29 rfl
      have hAp := hAp.add e120
      exact opk_callX hAp rfl (r_call (args := #[Sl.v (Sl.cut b_1 1 0 r_11.toNat b_1.c)]) Try.func14 (by decide) rfl (map_arr (ml_cons (hAp.get rfl) ml_nil)) rfl) (hc122 w hT.chg) fun _ _ _ _ e hR => ⟨_, e, hR.1, fun _ => hR.2⟩
    · intro a w hT
      have hAp := hT.ag hA111 [(0, Sl.v b_1)] ⟨rfl, trivial⟩ (by kernel_rfl)
      exact opk_val hAp rfl (r_move (hAp.get rfl)) fun _ _ e => ⟨_, e, Chg.refl _ _, fun _ => Eq.refl _⟩
    · intro a w hT
      have hAp := hT.ag hA111 [(5, .int .i64 r_11)] ⟨rfl, trivial⟩ (by kernel_rfl)
      exact opk_val hAp rfl (r_move (hAp.get rfl)) fun _ _ e => ⟨_, e, Chg.refl _ _, fun _ => Eq.refl _⟩
    · intro a w hT
      have hAp := hT.ag hA111 [] trivial (by kernel_rfl)
      have e124 : a.tmps.getD 31 undef = Sl.v b_1 := hT.vals 4 rfl 31 rfl
      have hAp := hAp.add e124
      have e125 : a.tmps.getD 32 undef = .int .i64 r_11 := hT.vals 5 rfl 32 rfl
      have hAp := hAp.add e125
      exact opk_val hAp rfl (r_sliceL (hAp.get rfl) (hAp.get rfl) Try.underlying23 ti_5 hS126) fun _ _ e => ⟨_, e, Chg.refl _ _, fun _ => Eq.refl _⟩
    · intro a w hT
      have hAp := hT.ag hA111 [] trivial (by kernel_rfl)
      have e128 : a.tmps.getD 30 undef = .int .u32 r_121 := hT.vals 3 rfl 30 rfl
      have hAp := hAp.add e128
      have e129 : a.tmps.getD 33 undef = Sl.v (Sl.cut b_1 1 r_11.toNat b_1.n b_1.c) := hT.vals 6 rfl 33 rfl
      have hAp := hAp.add e129
      exact opk_callX hAp rfl (r_call (args := #[.int .u32 r_121, Sl.v (Sl.cut b_1 1 r_11.toNat b_1.n b_1.c)]) Try.func12 (by decide) rfl (map_arr (ml_cons (hAp.get rfl) (ml_cons (hAp.get rfl) ml_nil))) rfl) (hc131 w hT.chg) fun _ _ _ _ e hR => ⟨_, e, hR.1, fun _ => hR.2⟩
    · intro a w hT
      have hAp := hT.ag hA111 [(0, Sl.v b_1)] ⟨rfl, trivial⟩ (by kernel_rfl)
      exact opk_val hAp rfl (r_move (hAp.get rfl)) fun _ _ e => ⟨_, e, Chg.refl _ _, fun _ => Eq.refl _⟩
    · intro a w hT
      have hAp := hT.ag hA111 [] trivial (by kernel_rfl)
      have e133 : a.tmps.getD 35 undef = Sl.v b_1 := hT.vals 8 rfl 35 rfl
      have hAp := hAp.add e133
      exact opk_callX hAp rfl (r_call (args := #[Sl.v b_1]) Try.func14 (by decide) rfl (map_arr (ml_cons (hAp.get rfl) ml_nil)) rfl) (hc135 w hT.chg) fun _ _ _ _ e hR => ⟨_, e, hR.1, fun _ => hR.2⟩
    · intro a w hT
      have hAp := hT.ag hA111 [] trivial (by kernel_rfl)
      have e137 : a.tmps.getD 34 undef = .int .u32 r_130 := hT.vals 7 rfl 34 rfl
      have hAp := hAp.add e137
      have e138 : a.tmps.getD 36 undef = .int .u32 r_134 := hT.vals 9 rfl 36 rfl
      have hAp := hAp.add e138
      exact opk_val hAp rfl (r_eql (hAp.get rfl) (hAp.get rfl)) fun _ _ e => ⟨_, e, Chg.refl _ _, fun _ => Eq.refl _⟩
    · intro a w hT
      have hAp := hT.ag hA111 [] trivial (by kernel_rfl)
      have e139 : a.tmps.getD 37 undef = .bool (decide (r_130 = r_134)) := hT.vals 10 rfl 37 rfl
      have hAp := hAp.add e139
      exact opk_val hAp rfl (r_move (hAp.get rfl)) fun _ _ e => ⟨_, e, Chg.refl _ _, fun _ => Eq.refl _⟩
    · intro a w hT
      have hAp := hT.ag hA111 [(6, .int .u32 s_33)] ⟨rfl, trivial⟩ (by kernel_rfl)
      have e140 : a.tmps.getD 38 undef = .bool (decide (r_130 = r_134)) := hT.vals 11 rfl 38 rfl
      have hAp := hAp.add e140
      exact opk_gval hAp rfl rfl (g := true) (e := (decide (r_130 = r_134))) rfl (fun hg => r_move (hAp.get rfl)) fun _ _ e => ⟨_, e, Chg.refl _ _, fun _ => Eq.refl _⟩
    · intro a w hT
      have hAp := hT.ag hA111 [(0, Sl.v b_1)] ⟨rfl, trivial⟩ (by kernel_rfl)
      have e141 : a.tmps.getD 38 undef = .bool (decide (r_130 = r_134)) := hT.vals 11 rfl 38 rfl
      have hAp := hAp.add e141
      exact opk_gval hAp rfl rfl (g := true) (e := (decide (r_130 = r_134))) rfl (fun hg => r_move (hAp.get rfl)) fun _ _ e => ⟨_, e, Chg.refl _ _, fun _ => Eq.refl _⟩
    · intro a w hT
      have hAp := hT.ag hA111 [] trivial (by kernel_rfl)
      have e142 : a.tmps.getD 38 undef = .bool (decide (r_130 = r_134)) := hT.vals 11 rfl 38 rfl
      have hAp := hAp.add e142
      have e143 : a.tmps.getD 40 undef = cV (true && ((decide (r_130 = r_134)) == true)) (Sl.v b_1) := hT.vals 13 rfl 40 rfl
      have hAp := hAp.add e143
      exact opk_gcall hAp rfl rfl (g := true) (e := (decide (r_130 = r_134))) rfl (fun hg => r_call (args := #[Sl.v b_1]) Try.func14 (by decide) rfl (map_arr (ml_cons (cv_get (hAp.get rfl) hg) ml_nil)) rfl) (fun hg => hc145 (of_decide_eq_true (g_t hg)) w hT.chg) fun _ _ _ e hE => ⟨_, e, hE, fun _ => Eq.refl _⟩
    · intro a w hT
      have hAp := hT.ag hA111 [] trivial (by kernel_rfl)
      have e147 : a.tmps.getD 38 undef = .bool (decide (r_130 = r_134)) := hT.vals 11 rfl 38 rfl
      have hAp := hAp.add e147
      have e148 : a.tmps.getD 39 undef = cV (true && ((decide (r_130 = r_134)) == true)) (.int .u32 s_33) := hT.vals 12 rfl 39 rfl
      have hAp := hAp.add e148
      have e149 : a.tmps.getD 41 undef = cV (true && ((decide (r_130 = r_134)) == true)) (.int .u32 r_144) := hT.vals 14 rfl 41 rfl
      have hAp := hAp.add e149
      exact opk_gval hAp rfl rfl (g := true) (e := (decide (r_130 = r_134))) rfl (fun hg => r_eql (cv_get (hAp.get rfl) hg) (cv_get (hAp.get rfl) hg)) fun _ _ e => ⟨_, e, Chg.refl _ _, fun _ => Eq.refl _⟩
    · intro a w hT
      have hAp := hT.ag hA111 [] trivial (by kernel_rfl)
      have e150 : a.tmps.getD 38 undef = .bool (decide (r_130 = r_134)) := hT.vals 11 rfl 38 rfl
      have hAp := hAp.add e150
      have e151 : a.tmps.getD 42 undef = cV (true && ((decide (r_130 = r_134)) == true)) (.bool (decide (s_33 = r_144))) := hT.vals 15 rfl 42 rfl
      have hAp := hAp.add e151
      exact opk_val hAp rfl (r_pick_and (g := (true && ((decide (r_130 = r_134)) == true))) (hAp.get rfl) (hAp.get rfl) (fun he => g_mkt rfl he)) fun _ _ e => ⟨_, e, Chg.refl _ _, fun _ => Eq.refl _⟩
    · intro a w hT
      have hAp := hT.ag hA111 [] trivial (by kernel_rfl)
      have e152 : a.tmps.getD 43 undef = .bool ((decide (r_130 = r_134)) && (decide (s_33 = r_144))) := hT.vals 16 rfl 43 rfl
      have hAp := hAp.add e152
      exact opk_val hAp rfl (r_move (hAp.get rfl)) fun _ _ e => ⟨_, e, Chg.refl _ _, fun _ => Eq.refl _⟩
    · intro a w hT
      have hAp := hT.ag hA111 [] trivial (by kernel_rfl)
      have e153 : a.tmps.getD 44 undef = .bool ((decide (r_130 = r_134)) && (decide (s_33 = r_144))) := hT.vals 17 rfl 44 rfl
      have hAp := hAp.add e153
      exact opk_gcall hAp rfl rfl (g := true) (e := ((decide (r_130 = r_134)) && (decide (s_33 = r_144)))) rfl (fun hg => r_call (args := #[]) Try.func15 (by decide) rfl (map_arr ml_nil) rfl) (fun hg => hc155 ⟨(of_decide_eq_true (b_and_t (g_t hg)).1), (of_decide_eq_true (b_and_t (g_t hg)).2)⟩ w hT.chg) fun _ _ _ e hE => ⟨_, e, hE, fun _ => Eq.refl _⟩
    · intro a w hT
      have hAp := hT.ag hA111 [] trivial (by kernel_rfl)
      have e157 : a.tmps.getD 44 undef = .bool ((decide (r_130 = r_134)) && (decide (s_33 = r_144))) := hT.vals 17 rfl 44 rfl
      have hAp := hAp.add e157
      have e158 : a.tmps.getD 45 undef = cV (true && (((decide (r_130 = r_134)) && (decide (s_33 = r_144))) == true)) (.bool r_154) := hT.vals 18 rfl 45 rfl
      have hAp := hAp.add e158
      exact opk_val hAp rfl (r_pick_and (g := (true && (((decide (r_130 = r_134)) && (decide (s_33 = r_144))) == true))) (hAp.get rfl) (hAp.get rfl) (fun he => g_mkt rfl he)) fun _ _ e => ⟨_, e, Chg.refl _ _, fun _ => Eq.refl _⟩
    · intro a w hT
      have hAp := hT.ag hA111 [] trivial (by kernel_rfl)
      have e159 : a.tmps.getD 46 undef = .bool (((decide (r_130 = r_134)) && (decide (s_33 = r_144))) && r_154) := hT.vals 19 rfl 46 rfl
      have hAp := hAp.add e159
      exact opk_val hAp rfl (r_assign (hAp.get rfl)) fun _ _ e => ⟨_, e, Chg.refl _ _, fun _ => Eq.refl _⟩
    · intro a160 w161 hE162 hag163 hv164
      have hA160 := hag163 [] trivial (by kernel_rfl)
      have e165 : a160.tmps.getD 4 undef = .bool (((decide (r_130 = r_134)) && (decide (s_33 = r_144))) && r_154) := hv164 20 rfl 4 rfl
      have hA166 := hA160.add e165
      have hC167 : Chg [] w112 w161 := hE162
      refine PR_end (by kernel_rfl) ?_
      have hA168 := hA166.keep [(4, .bool (((decide (r_130 = r_134)) && (decide (s_33 = r_144))) && r_154))] ⟨rfl, trivial⟩
      refine then_normal ?_
      refine wp_ret ?_
      have ht169 := ht156 w161   hC167
      exact res_all (vs := [.bool (((decide (r_130 = r_134)) && (decide (s_33 = r_144))) && r_154)]) rfl hA168 ⟨res_of_tmp hA168 rfl, trivial⟩ ht169

/-- The condition of topiary/topiarylaw02.CrcTurns. -/
def law02_CrcTurns.vc (b_1 : Sl) (at_2 : Int) (row_3 : Int) (R : Value → World → Prop) (w : World) : Prop :=
((((b_1.n : Int) < 5) ∨ (row_3 = 0)) →
CallK Try.prog 15 #[] w [] (fun v w18 => ∃ (r_16 : Bool), v = .bool r_16 ∧
R (.bool r_16) w18)) ∧
(((¬ ((b_1.n : Int) < 5)) ∧ (¬ (row_3 = 0))) →
(I64 (8 * (b_1.n : Int))) ∧
(I64 ((8 * (b_1.n : Int)) - 39)) ∧
CallK Try.prog 16 #[.int .i64 at_2, .int .i64 ((8 * (b_1.n : Int)) - 39)] w [] (fun v w37 => ∃ (r_35 : Int), v = .int .i64 r_35 ∧
CallK Try.prog 11 #[Sl.v b_1] w37 [] (fun v w48 => ∃ (r_46 : Sl), v = Sl.v r_46 ∧
((0 : Int) ≤ (IntKind.u64.wrap (r_35.tmod 8)) ∧ (IntKind.u64.wrap (r_35.tmod 8)) ≤ 64) ∧
∃ (J_70 : Int → World → Prop) (mu_71 : Int → World → Nat),
J_70 0 w48 ∧
(∀ (i_68 : Int) (w69 : World), J_70 i_68 w69 →
((i_68 < 5) →
(I64 (r_35.tdiv 8)) ∧
(I64 ((r_35.tdiv 8) + i_68)) ∧
((0 : Int) ≤ (r_35.tdiv 8) + i_68 ∧ (r_35.tdiv 8) + i_68 < (r_46.n : Int)) ∧ ∃ p_152 : Addr, r_46.a = some p_152 ∧
∃ (x_158 : Int), (w69.cell? (p_152.add (((r_35.tdiv 8) + i_68).toNat * 1)) = some (.int .u8 x_158)) ∧
(I64 (8 * i_68)) ∧
((0 : Int) ≤ (IntKind.u64.wrap (8 * i_68)) ∧ (IntKind.u64.wrap (8 * i_68)) ≤ 64) ∧
((0 : Int) ≤ (r_35.tdiv 8) + i_68 ∧ (r_35.tdiv 8) + i_68 < (r_46.n : Int)) ∧ ∃ p_172 : Addr, r_46.a = some p_172 ∧
∃ (B_181 o_182 : Nat) (T_183 : TypeId) (cs_184 : List Value), (p_172.add (((r_35.tdiv 8) + i_68).toNat * 1)) = ⟨B_181, o_182, none⟩ ∧ Box w69 B_181 T_183 cs_184 ∧ o_182 + 1 ≤ cs_184.length ∧ (∀ b ∈ [], b ≠ B_181) ∧
(∀ w177 : World, Chg [B_181] w69 w177 → Box w177 B_181 T_183 (putAt cs_184 o_182 [.int .u8 (bits .xor .u8 x_158 (IntKind.u8.wrap ((IntKind.u64.wrap ((IntKind.u64.wrap row_3) * 2 ^ (IntKind.u64.wrap (r_35.tmod 8)).toNat)) / 2 ^ (IntKind.u64.wrap (8 * i_68)).toNat)))]) →
(I64 (i_68 + 1)) ∧
J_70 (i_68 + 1) w177 ∧ mu_71 (i_68 + 1) w177 < mu_71 i_68 w69)) ∧
((¬ (i_68 < 5)) →
CallK Try.prog 14 #[Sl.v r_46] w69 [] (fun v w203 => ∃ (r_201 : Int), v = .int .u32 r_201 ∧
CallK Try.prog 14 #[Sl.v b_1] w203 [] (fun v w212 => ∃ (r_210 : Int), v = .int .u32 r_210 ∧
∃ (r_220 : Bool), (((r_201 ≠ r_210)) → Calls Try.prog 15 #[] w212 (Ret fun v w' => Ext w212 w' ∧ v = .bool r_220)) ∧
(∀ w222 : World, Ext w212 w222 →
R (.bool ((decide (r_201 ≠ r_210)) && r_220)) w222))))))))
set_option maxHeartbeats 1000000 in
set_option maxRecDepth 10000 in
theorem law02_CrcTurns.ok (b_1 : Sl) (at_2 : Int) (row_3 : Int) {R : Value → World → Prop} {w : World} (ht0 : law02_CrcTurns.vc b_1 at_2 row_3 R w) : Calls Try.prog 5 #[Sl.v b_1, .int .i64 at_2, .int .u32 row_3] w (Ret R) := by
  refine enter [Sl.v b_1, .int .i64 at_2, .int .u32 row_3] Try.func5 rfl Try.ntmps5 rfl ?_
  intro a0 hA0
  unfold law02_CrcTurns.vc at ht0
  refine wp_seq ?_
  refine wp_region_lit ?_
  refine sq (opk_val hA0 rfl (r_assign rfl) fun a4 hA4 _ => ?_)
  refine sq_end ?_
  have hA5 := hA4.keep [(0, Sl.v b_1), (1, .int .i64 at_2), (2, .int .u32 row_3)] ⟨rfl, rfl, rfl, trivial⟩
  refine then_normal ?_
  refine wp_seq ?_
  refine wp_seq ?_
  refine wp_region_lit ?_
  refine sq (opk_val hA5 rfl (r_move (hA5.get rfl)) fun a6 hA6 _ => ?_)
  refine sq (opk_val hA6 rfl (r_len (hA6.get rfl) Try.underlying23) fun a7 hA7 _ => ?_)
  refine sq (opk_val hA7 rfl (r_lss (hA7.get rfl) rfl) fun a8 hA8 _ => ?_)
  refine sq (opk_val hA8 rfl (r_move (hA8.get rfl)) fun a9 hA9 _ => ?_)
  refine sq (opk_gval hA9 rfl rfl (g := true) (e := (decide ((b_1.n : Int) < 5))) rfl (fun hg => r_move (hA9.get rfl)) fun a10 hA10 _ => ?_)
  refine sq (opk_gval hA10 rfl rfl (g := true) (e := (decide ((b_1.n : Int) < 5))) rfl (fun hg => r_eql (cv_get (hA10.get rfl) hg) rfl) fun a11 hA11 _ => ?_)
  refine sq (opk_val hA11 rfl (r_pick_or (g := (true && ((decide ((b_1.n : Int) < 5)) == false))) (hA11.get rfl) (hA11.get rfl) (fun he => g_mkf rfl he)) fun a12 hA12 _ => ?_)
  refine sq_end ?_
  have hA13 := hA12.keep [(0, Sl.v b_1), (1, .int .i64 at_2), (2, .int .u32 row_3), (17, .bool ((decide ((b_1.n : Int) < 5)) || (decide (row_3 = 0))))] ⟨rfl, rfl, rfl, rfl, trivial⟩
  refine then_normal ?_
  refine wp_cond_split (hA13.get rfl) (fun hc => ?_) (fun hc => ?_)
  · have ht14 := ht0.1 ((b_or_t hc).imp (fun h => (of_decide_eq_true h)) (fun h => (of_decide_eq_true h)))
    clear hc
    refine wp_seq ?_
    refine wp_region_lit ?_
    refine sq (opk_call hA13 rfl (r_call (args := #[]) Try.func15 (by decide) rfl (map_arr ml_nil) rfl) ht14 fun a17 v23 w18 hA17 _ hn20 hz21 hK22 => ?_)
    obtain ⟨r_16, rfl, ht19⟩ := hK22
    refine sq (opk_val hA17 rfl (r_assign (hA17.get rfl)) fun a24 hA24 _ => ?_)
    refine sq_end ?_
    have hA25 := hA24.keep [(6, .bool r_16)] ⟨rfl, trivial⟩
    refine then_normal ?_
    refine wp_ret ?_
    refine then_ret ?_
    exact res_all (vs := [.bool r_16]) rfl hA25 ⟨res_of_tmp hA25 rfl, trivial⟩ ht19
  · have ht15 := ht0.2 ⟨(of_decide_eq_false (b_or_f hc).1), (of_decide_eq_false (b_or_f hc).2)⟩
    clear hc
    refine wp_skip ?_
    refine then_normal ?_
    refine wp_seq ?_
    refine wp_region_lit ?_
    refine sq (opk_val hA13 rfl (r_move (hA13.get rfl)) fun a26 hA26 _ => ?_)
    refine sq (opk_val hA26 rfl (r_move (hA26.get rfl)) fun a27 hA27 _ => ?_)
    refine sq (opk_val hA27 rfl (r_len (hA27.get rfl) Try.underlying23) fun a28 hA28 _ => ?_)
    obtain ⟨hS30, ht31⟩ := ht15
    refine sq (opk_val hA28 rfl (r_mulI rfl (hA28.get rfl) hS30) fun a29 hA29 _ => ?_)
    obtain ⟨hS33, ht34⟩ := ht31
    refine sq (opk_val hA29 rfl (r_subI (hA29.get rfl) rfl hS33) fun a32 hA32 _ => ?_)
    refine sq (opk_call hA32 rfl (r_call (args := #[.int .i64 at_2, .int .i64 ((8 * (b_1.n : Int)) - 39)]) Try.func16 (by decide) rfl (map_arr (ml_cons (hA32.get rfl) (ml_cons (hA32.get rfl) ml_nil))) rfl) ht34 fun a36 v42 w37 hA36 _ hn39 hz40 hK41 => ?_)
    obtain ⟨r_35, rfl, ht38⟩ := hK41
    refine sq (opk_val hA36 rfl (r_assign (hA36.get rfl)) fun a43 hA43 _ => ?_)
    refine sq_end ?_
    have hA44 := hA43.keep [(0, Sl.v b_1), (2, .int .u32 row_3), (7, .int .i64 r_35)] ⟨rfl, rfl, rfl, trivial⟩
    refine then_normal ?_
    refine wp_seq ?_
    refine wp_region_lit ?_
    refine sq (opk_val hA44 rfl (r_move (hA44.get rfl)) fun a45 hA45 _ => ?_)
    refine sq (opk_call hA45 rfl (r_call (args := #[Sl.v b_1]) Try.func11 (by decide) rfl (map_arr (ml_cons (hA45.get rfl) ml_nil)) rfl) ht38 fun a47 v53 w48 hA47 _ hn50 hz51 hK52 => ?_)
    obtain ⟨r_46, rfl, ht49⟩ := hK52
    refine sq (opk_val hA47 rfl (r_assign (hA47.get rfl)) fun a54 hA54 _ => ?_)
    refine sq_end ?_
    have hA55 := hA54.keep [(0, Sl.v b_1), (2, .int .u32 row_3), (7, .int .i64 r_35), (8, Sl.v r_46)] ⟨rfl, rfl, rfl, rfl, trivial⟩
    refine then_normal ?_
    refine wp_seq ?_
    refine wp_region_lit ?_
    refine sq (opk_val hA55 rfl (r_move (hA55.get rfl)) fun a56 hA56 _ => ?_)
    refine sq (opk_val hA56 rfl (r_conv (hA56.get rfl) rfl Try.underlying31) fun a57 hA57 _ => ?_)
    refine sq (opk_val hA57 rfl (r_move (hA57.get rfl)) fun a58 hA58 _ => ?_)
    refine sq (opk_val hA58 rfl (r_rem (hA58.get rfl) rfl (by decide)) fun a59 hA59 _ => ?_)
    refine sq (opk_val hA59 rfl (r_conv (hA59.get rfl) rfl Try.underlying32) fun a60 hA60 _ => ?_)
    obtain ⟨hS62, ht63⟩ := ht49
    refine sq (opk_val hA60 rfl (r_shl (hA60.get rfl) (hA60.get rfl) hS62.1 hS62.2) fun a61 hA61 _ => ?_)
    refine sq (opk_val hA61 rfl (r_assign (hA61.get rfl)) fun a64 hA64 _ => ?_)
    refine sq_end ?_
    have hA65 := hA64.keep [(0, Sl.v b_1), (7, .int .i64 r_35), (8, Sl.v r_46), (9, .int .u64 (IntKind.u64.wrap ((IntKind.u64.wrap row_3) * 2 ^ (IntKind.u64.wrap (r_35.tmod 8)).toNat)))] ⟨rfl, rfl, rfl, rfl, trivial⟩
    refine then_normal ?_
    refine wp_seq ?_
    refine wp_seq ?_
    refine wp_region_lit ?_
    refine sq (opk_val hA65 rfl (r_assign rfl) fun a66 hA66 _ => ?_)
    refine sq_end ?_
    have hA67 := hA66.keep [(0, Sl.v b_1), (7, .int .i64 r_35), (8, Sl.v r_46), (9, .int .u64 (IntKind.u64.wrap ((IntKind.u64.wrap row_3) * 2 ^ (IntKind.u64.wrap (r_35.tmod 8)).toNat))), (10, .int .i64 0)] ⟨rfl, rfl, rfl, rfl, rfl, trivial⟩
    refine then_normal ?_
    refine wp_block ?_
    obtain ⟨J_70, mu_71, h0135, ht134⟩ := ht63
    refine wp_loop_st (σ := Int × World) (fun s a w => Ag 60 a [(0, Sl.v b_1), (7, .int .i64 r_35), (8, Sl.v r_46), (9, .int .u64 (IntKind.u64.wrap ((IntKind.u64.wrap row_3) * 2 ^ (IntKind.u64.wrap (r_35.tmod 8)).toNat))), (10, .int .i64 s.1)] ∧ w = s.2 ∧ J_70 s.1 s.2) (fun s => mu_71 s.1 s.2) (0, w48) ⟨hA67.keep [(0, Sl.v b_1), (7, .int .i64 r_35), (8, Sl.v r_46), (9, .int .u64 (IntKind.u64.wrap ((IntKind.u64.wrap row_3) * 2 ^ (IntKind.u64.wrap (r_35.tmod 8)).toNat))), (10, .int .i64 0)] ⟨rfl, rfl, rfl, rfl, rfl, trivial⟩, rfl, h0135⟩ ?_
    rintro ⟨i_68, w69⟩ a133 w_ ⟨hA133, hw_, hJ137⟩
    have hw_ : w69 = w_ := hw_.symm
    subst hw_
    have ht136 := ht134 i_68 _ hJ137
    refine wp_seq ?_
    refine wp_seq ?_
    refine wp_region_lit ?_
    refine sq (opk_val hA133 rfl (r_move (hA133.get rfl)) fun a138 hA138 _ => ?_)
    refine sq (opk_val hA138 rfl (r_lss (hA138.get rfl) rfl) fun a139 hA139 _ => ?_)
    refine sq_end ?_
    have hA140 := hA139.keep [(0, Sl.v b_1), (7, .int .i64 r_35), (8, Sl.v r_46), (9, .int .u64 (IntKind.u64.wrap ((IntKind.u64.wrap row_3) * 2 ^ (IntKind.u64.wrap (r_35.tmod 8)).toNat))), (10, .int .i64 i_68), (34, .bool (decide (i_68 < 5)))] ⟨rfl, rfl, rfl, rfl, rfl, rfl, trivial⟩
    refine then_normal ?_
    refine wp_cond_split (hA140.get rfl) (fun hc => ?_) (fun hc => ?_)
    · have ht141 := ht136.1 (of_decide_eq_true hc)
      clear hc
      refine wp_skip ?_
      refine then_normal ?_
      refine wp_seq ?_
      refine wp_block ?_
      refine wp_region_lit ?_
      refine sq (opk_val hA140 rfl (r_move (hA140.get rfl)) fun a143 hA143 _ => ?_)
      refine sq (opk_val hA143 rfl (r_move (hA143.get rfl)) fun a144 hA144 _ => ?_)
      obtain ⟨hS146, ht147⟩ := ht141
      refine sq (opk_val hA144 rfl (r_quoI (hA144.get rfl) rfl (by decide) hS146) fun a145 hA145 _ => ?_)
      refine sq (opk_val hA145 rfl (r_move (hA145.get rfl)) fun a148 hA148 _ => ?_)
      obtain ⟨hS150, ht151⟩ := ht147
      refine sq (opk_val hA148 rfl (r_addI (hA148.get rfl) (hA148.get rfl) hS150) fun a149 hA149 _ => ?_)
      obtain ⟨hb153, p_152, hp154, ht155⟩ := ht151
      refine sq (opk_val hA149 rfl (r_indexAddr (hA149.get rfl) (hA149.get rfl) Try.underlying23 ti_5 hb153 hp154) fun a156 hA156 _ => ?_)
      obtain ⟨x_158, hx159, ht160⟩ := ht155
      refine sq (opk_val hA156 rfl (r_load1 Try.underlying5 rfl (hA156.get rfl) hx159) fun a157 hA157 _ => ?_)
      refine sq (opk_val hA157 rfl (r_move (hA157.get rfl)) fun a161 hA161 _ => ?_)
      refine sq (opk_val hA161 rfl (r_move (hA161.get rfl)) fun a162 hA162 _ => ?_)
      obtain ⟨hS164, ht165⟩ := ht160
      refine sq (opk_val hA162 rfl (r_mulI rfl (hA162.get rfl) hS164) fun a163 hA163 _ => ?_)
      refine sq (opk_val hA163 rfl (r_conv (hA163.get rfl) rfl Try.underlying32) fun a166 hA166 _ => ?_)
      obtain ⟨hS168, ht169⟩ := ht165
      refine sq (opk_val hA166 rfl (r_shr (hA166.get rfl) (hA166.get rfl) hS168.1 hS168.2) fun a167 hA167 _ => ?_)
      refine sq (opk_val hA167 rfl (r_conv (hA167.get rfl) rfl Try.underlying5) fun a170 hA170 _ => ?_)
      refine sq (opk_val hA170 rfl (r_xor (hA170.get rfl) (hA170.get rfl)) fun a171 hA171 _ => ?_)
      obtain ⟨hb173, p_172, hp174, ht175⟩ := ht169
      refine sq (opk_val hA171 rfl (r_indexAddr (hA171.get rfl) (hA171.get rfl) Try.underlying23 ti_5 hb173 hp174) fun a176 hA176 _ => ?_)
      obtain ⟨B_181, o_182, T_183, cs_184, he185, hb186, hl187, hx188, ht189⟩ := ht175
      refine sq (opk_store hA176 hb186 (r_store (vs := [.int .u8 (bits .xor .u8 x_158 (IntKind.u8.wrap ((IntKind.u64.wrap ((IntKind.u64.wrap row_3) * 2 ^ (IntKind.u64.wrap (r_35.tmod 8)).toNat)) / 2 ^ (IntKind.u64.wrap (8 * i_68)).toNat)))]) (by rw [(hA176.get rfl), he185]) (hA176.get rfl) rfl ti_5 hb186 (Nat.ble_eq_true_of_le hl187) (ones_all [.int .u8 (bits .xor .u8 x_158 (IntKind.u8.wrap ((IntKind.u64.wrap ((IntKind.u64.wrap row_3) * 2 ^ (IntKind.u64.wrap (r_35.tmod 8)).toNat)) / 2 ^ (IntKind.u64.wrap (8 * i_68)).toNat)))] rfl)) fun a178 w177 hS179 hB180 hA178 => ?_)
      have ht190 := ht189 w177 hS179 hB180
      refine sq_end ?_
      have hA191 := hA178.keep [(0, Sl.v b_1), (7, .int .i64 r_35), (8, Sl.v r_46), (9, .int .u64 (IntKind.u64.wrap ((IntKind.u64.wrap row_3) * 2 ^ (IntKind.u64.wrap (r_35.tmod 8)).toNat))), (10, .int .i64 i_68)] ⟨rfl, rfl, rfl, rfl, rfl, trivial⟩
      refine block_normal ?_
      refine then_normal ?_
      refine wp_region_lit ?_
      refine sq (opk_val hA191 rfl (r_move (hA191.get rfl)) fun a192 hA192 _ => ?_)
      obtain ⟨hS194, ht195⟩ := ht190
      refine sq (opk_val hA192 rfl (r_addI (hA192.get rfl) rfl hS194) fun a193 hA193 _ => ?_)
      refine sq (opk_val hA193 rfl (r_assign (hA193.get rfl)) fun a196 hA196 _ => ?_)
      refine sq_end ?_
      have hA197 := hA196.keep [(0, Sl.v b_1), (7, .int .i64 r_35), (8, Sl.v r_46), (9, .int .u64 (IntKind.u64.wrap ((IntKind.u64.wrap row_3) * 2 ^ (IntKind.u64.wrap (r_35.tmod 8)).toNat))), (10, .int .i64 (i_68 + 1))] ⟨rfl, rfl, rfl, rfl, rfl, trivial⟩
      have hA198 := hA197.keep [(0, Sl.v b_1), (7, .int .i64 r_35), (8, Sl.v r_46), (9, .int .u64 (IntKind.u64.wrap ((IntKind.u64.wrap row_3) * 2 ^ (IntKind.u64.wrap (r_35.tmod 8)).toNat))), (10, .int .i64 (i_68 + 1))] ⟨rfl, rfl, rfl, rfl, rfl, trivial⟩
      exact then_normal ⟨(i_68 + 1, w177), ⟨hA198, rfl, ht195.1⟩, ht195.2⟩
    · have ht142 := ht136.2 (of_decide_eq_false hc)
      clear hc
      refine wp_exit ?_
      refine then_exit ?_
      refine then_exit ?_
      refine block_hit ?_
      have hA199 := hA140.keep [(0, Sl.v b_1), (8, Sl.v r_46)] ⟨rfl, rfl, trivial⟩
      refine then_normal ?_
      refine wp_seq ?_
      refine wp_region_lit ?_
      refine sq (opk_val hA199 rfl (r_move (hA199.get rfl)) fun a200 hA200 _ => ?_)
      refine sq (opk_call hA200 rfl (r_call (args := #[Sl.v r_46]) Try.func14 (by decide) rfl (map_arr (ml_cons (hA200.get rfl) ml_nil)) rfl) ht142 fun a202 v208 w203 hA202 _ hn205 hz206 hK207 => ?_)
      obtain ⟨r_201, rfl, ht204⟩ := hK207
      refine sq (opk_val hA202 rfl (r_move (hA202.get rfl)) fun a209 hA209 _ => ?_)
      refine sq (opk_call hA209 rfl (r_call (args := #[Sl.v b_1]) Try.func14 (by decide) rfl (map_arr (ml_cons (hA209.get rfl) ml_nil)) rfl) ht204 fun a211 v217 w212 hA211 _ hn214 hz215 hK216 => ?_)
      obtain ⟨r_210, rfl, ht213⟩ := hK216
      refine sq (opk_val hA211 rfl (r_neq (hA211.get rfl) (hA211.get rfl)) fun a218 hA218 _ => ?_)
      refine sq (opk_val hA218 rfl (r_move (hA218.get rfl)) fun a219 hA219 _ => ?_)
      obtain ⟨r_220, hc224, ht223⟩ := ht213
      refine sq (opk_gcall hA219 rfl rfl (g := true) (e := (decide (r_201 ≠ r_210))) rfl (fun hg => r_call (args := #[]) Try.func15 (by decide) rfl (map_arr ml_nil) rfl) (fun hg => hc224 (of_decide_eq_true (g_t hg))) fun a221 w222 hA221 _ hE225 => ?_)
      have hC226 : Chg [] w212 w222 := hE225
      have ht227 := ht223 w222 hE225
      refine sq (opk_val hA221 rfl (r_pick_and (g := (true && ((decide (r_201 ≠ r_210)) == true))) (hA221.get rfl) (hA221.get rfl) (fun he => g_mkt rfl he)) fun a228 hA228 _ => ?_)
      refine sq (opk_val hA228 rfl (r_assign (hA228.get rfl)) fun a229 hA229 _ => ?_)
      refine sq_end ?_
      have hA230 := hA229.keep [(6, .bool ((decide (r_201 ≠ r_210)) && r_220))] ⟨rfl, trivial⟩
      refine then_normal ?_
      refine wp_ret ?_
      exact res_all (vs := [.bool ((decide (r_201 ≠ r_210)) && r_220)]) rfl hA230 ⟨res_of_tmp hA230 rfl, trivial⟩ ht227

/-- The condition of topiary/topiarylaw02.CrcThree. -/
def law02_CrcThree.vc (a_1 : Sl) (b_2 : Sl) (c_3 : Sl) (R : Value → World → Prop) (w : World) : Prop :=
CallK Try.prog 14 #[Sl.v a_1] w [] (fun v w9 => ∃ (r_7 : Int), v = .int .u32 r_7 ∧
CallK Try.prog 12 #[.int .u32 r_7, Sl.v b_2] w9 [] (fun v w18 => ∃ (r_16 : Int), v = .int .u32 r_16 ∧
CallK Try.prog 12 #[.int .u32 r_16, Sl.v c_3] w18 [] (fun v w27 => ∃ (r_25 : Int), v = .int .u32 r_25 ∧
CallK Try.prog 14 #[Sl.v a_1] w27 [] (fun v w38 => ∃ (r_36 : Int), v = .int .u32 r_36 ∧
CallK Try.prog 11 #[Sl.v b_2] w38 [] (fun v w47 => ∃ (r_45 : Sl), v = Sl.v r_45 ∧
RunK Try.prog (Builtin.append_ #[23, 23] 23 #[Sl.v r_45, Sl.v c_3]) w47 [] (fun v w55 => ∃ (r_61 : Sl), v = Sl.v r_61 ∧
CallK Try.prog 12 #[.int .u32 r_36, Sl.v r_61] w55 [] (fun v w64 => ∃ (r_62 : Int), v = .int .u32 r_62 ∧
CallK Try.prog 11 #[Sl.v a_1] w64 [] (fun v w75 => ∃ (r_73 : Sl), v = Sl.v r_73 ∧
RunK Try.prog (Builtin.append_ #[23, 23] 23 #[Sl.v r_73, Sl.v b_2]) w75 [] (fun v w83 => ∃ (r_89 : Sl), v = Sl.v r_89 ∧
RunK Try.prog (Builtin.append_ #[23, 23] 23 #[Sl.v r_89, Sl.v c_3]) w83 [] (fun v w92 => ∃ (r_98 : Sl), v = Sl.v r_98 ∧
CallK Try.prog 14 #[Sl.v r_98] w92 [] (fun v w101 => ∃ (r_99 : Int), v = .int .u32 r_99 ∧
∃ (r_119 : Int), ((((r_25 = r_62) ∧ (r_62 = r_99))) → Calls Try.prog 12 #[.int .u32 r_25, Sl.v Sl.nil] w101 (Ret fun v w' => Ext w101 w' ∧ v = .int .u32 r_119)) ∧
(∀ w121 : World, Ext w101 w121 →
∃ (r_131 : Bool), (((((r_25 = r_62) ∧ (r_62 = r_99)) ∧ (r_119 = r_25))) → Calls Try.prog 15 #[] w121 (Ret fun v w' => Ext w121 w' ∧ v = .bool r_131)) ∧
(∀ w133 : World, Ext w121 w133 →
R (.bool ((((decide (r_25 = r_62)) && (decide (r_62 = r_99))) && (decide (r_119 = r_25))) && r_131)) w133)))))))))))))
set_option maxHeartbeats 1000000 in
set_option maxRecDepth 10000 in
theorem law02_CrcThree.ok (a_1 : Sl) (b_2 : Sl) (c_3 : Sl) {R : Value → World → Prop} {w : World} (ht0 : law02_CrcThree.vc a_1 b_2 c_3 R w) : Calls Try.prog 6 #[Sl.v a_1, Sl.v b_2, Sl.v c_3] w (Ret R) := by
  refine enter [Sl.v a_1, Sl.v b_2, Sl.v c_3] Try.func6 rfl Try.ntmps6 rfl ?_
  intro a0 hA0
  unfold law02_CrcThree.vc at ht0
  refine wp_seq ?_
  refine wp_region_lit ?_
  refine sq (opk_val hA0 rfl (r_assign rfl) fun a4 hA4 _ => ?_)
  refine sq_end ?_
  have hA5 := hA4.keep [(0, Sl.v a_1), (1, Sl.v b_2), (2, Sl.v c_3)] ⟨rfl, rfl, rfl, trivial⟩
  refine then_normal ?_
  refine wp_seq ?_
  refine wp_region_lit ?_
  refine sq (opk_val hA5 rfl (r_move (hA5.get rfl)) fun a6 hA6 _ => ?_)
  refine sq (opk_call hA6 rfl (r_call (args := #[Sl.v a_1]) Try.func14 (by decide) rfl (map_arr (ml_cons (hA6.get rfl) ml_nil)) rfl) ht0 fun a8 v14 w9 hA8 _ hn11 hz12 hK13 => ?_)
  obtain ⟨r_7, rfl, ht10⟩ := hK13
  refine sq (opk_val hA8 rfl (r_move (hA8.get rfl)) fun a15 hA15 _ => ?_)
  refine sq (opk_call hA15 rfl (r_call (args := #[.int .u32 r_7, Sl.v b_2]) Try.func12 (by decide) rfl (map_arr (ml_cons (hA15.get rfl) (ml_cons (hA15.get rfl) ml_nil))) rfl) ht10 fun a17 v23 w18 hA17 _ hn20 hz21 hK22 => ?_)
  obtain ⟨r_16, rfl, ht19⟩ := hK22
  refine sq (opk_val hA17 rfl (r_move (hA17.get rfl)) fun a24 hA24 _ => ?_)
  refine sq (opk_call hA24 rfl (r_call (args := #[.int .u32 r_16, Sl.v c_3]) Try.func12 (by decide) rfl (map_arr (ml_cons (hA24.get rfl) (ml_cons (hA24.get rfl) ml_nil))) rfl) ht19 fun a26 v32 w27 hA26 _ hn29 hz30 hK31 => ?_)
  obtain ⟨r_25, rfl, ht28⟩ := hK31
  refine sq (opk_val hA26 rfl (r_assign (hA26.get rfl)) fun a33 hA33 _ => ?_)
  refine sq_end ?_
  have hA34 := hA33.keep [(0, Sl.v a_1), (1, Sl.v b_2), (2, Sl.v c_3), (7, .int .u32 r_25)] ⟨rfl, rfl, rfl, rfl, trivial⟩
  refine then_normal ?_
  refine wp_seq ?_
  refine wp_region_lit ?_
  refine sq (opk_val hA34 rfl (r_move (hA34.get rfl)) fun a35 hA35 _ => ?_)
  refine sq (opk_call hA35 rfl (r_call (args := #[Sl.v a_1]) Try.func14 (by decide) rfl (map_arr (ml_cons (hA35.get rfl) ml_nil)) rfl) ht28 fun a37 v43 w38 hA37 _ hn40 hz41 hK42 => ?_)
  obtain ⟨r_36, rfl, ht39⟩ := hK42
  refine sq (opk_val hA37 rfl (r_move (hA37.get rfl)) fun a44 hA44 _ => ?_)
  refine sq (opk_call hA44 rfl (r_call (args := #[Sl.v b_2]) Try.func11 (by decide) rfl (map_arr (ml_cons (hA44.get rfl) ml_nil)) rfl) ht39 fun a46 v52 w47 hA46 _ hn49 hz50 hK51 => ?_)
  obtain ⟨r_45, rfl, ht48⟩ := hK51
  refine sq (opk_val hA46 rfl (r_move (hA46.get rfl)) fun a53 hA53 _ => ?_)
  refine sq (opk_run hA53 rfl (fun _ _ hr => r_append (hA53.get rfl) (hA53.get rfl) hr) ht48 fun a54 v60 w55 hA54 _ hn57 hz58 hK59 => ?_)
  obtain ⟨r_61, rfl, ht56⟩ := hK59
  refine sq (opk_call hA54 rfl (r_call (args := #[.int .u32 r_36, Sl.v r_61]) Try.func12 (by decide) rfl (map_arr (ml_cons (hA54.get rfl) (ml_cons (hA54.get rfl) ml_nil))) rfl) ht56 fun a63 v69 w64 hA63 _ hn66 hz67 hK68 => ?_)
  obtain ⟨r_62, rfl, ht65⟩ := hK68
  refine sq (opk_val hA63 rfl (r_assign (hA63.get rfl)) fun a70 hA70 _ => ?_)
  refine sq_end ?_
  have hA71 := hA70.keep [(0, Sl.v a_1), (1, Sl.v b_2), (2, Sl.v c_3), (7, .int .u32 r_25), (8, .int .u32 r_62)] ⟨rfl, rfl, rfl, rfl, rfl, trivial⟩
  refine then_normal ?_
  refine wp_seq ?_
  refine wp_region_lit ?_
  refine sq (opk_val hA71 rfl (r_move (hA71.get rfl)) fun a72 hA72 _ => ?_)
  refine sq (opk_call hA72 rfl (r_call (args := #[Sl.v a_1]) Try.func11 (by decide) rfl (map_arr (ml_cons (hA72.get rfl) ml_nil)) rfl) ht65 fun a74 v80 w75 hA74 _ hn77 hz78 hK79 => ?_)
  obtain ⟨r_73, rfl, ht76⟩ := hK79
  refine sq (opk_val hA74 rfl (r_move (hA74.get rfl)) fun a81 hA81 _ => ?_)
  refine sq (opk_run hA81 rfl (fun _ _ hr => r_append (hA81.get rfl) (hA81.get rfl) hr) ht76 fun a82 v88 w83 hA82 _ hn85 hz86 hK87 => ?_)
  obtain ⟨r_89, rfl, ht84⟩ := hK87
  refine sq (opk_val hA82 rfl (r_move (hA82.get rfl)) fun a90 hA90 _ => ?_)
  refine sq (opk_run hA90 rfl (fun _ _ hr => r_append (hA90.get rfl) (hA90.get rfl) hr) ht84 fun a91 v97 w92 hA91 _ hn94 hz95 hK96 => ?_)
  obtain ⟨r_98, rfl, ht93⟩ := hK96
  refine sq (opk_call hA91 rfl (r_call (args := #[Sl.v r_98]) Try.func14 (by decide) rfl (map_arr (ml_cons (hA91.get rfl) ml_nil)) rfl) ht93 fun a100 v106 w101 hA100 _ hn103 hz104 hK105 => ?_)
  obtain ⟨r_99, rfl, ht102⟩ := hK105
  refine sq (opk_val hA100 rfl (r_assign (hA100.get rfl)) fun a107 hA107 _ => ?_)
  refine sq_end ?_
  have hA108 := hA107.keep [(7, .int .u32 r_25), (8, .int .u32 r_62), (9, .int .u32 r_99)] ⟨rfl, rfl, rfl, trivial⟩
  refine then_normal ?_
  refine wp_seq ?_
  refine wp_region_lit ?_
  refine sq (opk_val hA108 rfl (r_move (hA108.get rfl)) fun a109 hA109 _ => ?_)
  refine sq (opk_val hA109 rfl (r_move (hA109.get rfl)) fun a110 hA110 _ => ?_)
  refine sq (opk_val hA110 rfl (r_eql (hA110.get rfl) (hA110.get rfl)) fun a111 hA111 _ => ?_)
  refine sq (opk_val hA111 rfl (r_move (hA111.get rfl)) fun a112 hA112 _ => ?_)
  refine sq (opk_gval hA112 rfl rfl (g := true) (e := (decide (r_25 = r_62))) rfl (fun hg => r_move (hA112.get rfl)) fun a113 hA113 _ => ?_)
  refine sq (opk_gval hA113 rfl rfl (g := true) (e := (decide (r_25 = r_62))) rfl (fun hg => r_move (hA113.get rfl)) fun a114 hA114 _ => ?_)
  refine sq (opk_gval hA114 rfl rfl (g := true) (e := (decide (r_25 = r_62))) rfl (fun hg => r_eql (cv_get (hA114.get rfl) hg) (cv_get (hA114.get rfl) hg)) fun a115 hA115 _ => ?_)
  refine sq (opk_val hA115 rfl (r_pick_and (g := (true && ((decide (r_25 = r_62)) == true))) (hA115.get rfl) (hA115.get rfl) (fun he => g_mkt rfl he)) fun a116 hA116 _ => ?_)
  refine sq (opk_val hA116 rfl (r_move (hA116.get rfl)) fun a117 hA117 _ => ?_)
  refine sq (opk_gval hA117 rfl rfl (g := true) (e := ((decide (r_25 = r_62)) && (decide (r_62 = r_99)))) rfl (fun hg => r_move (hA117.get rfl)) fun a118 hA118 _ => ?_)
  obtain ⟨r_119, hc123, ht122⟩ := ht102
  refine sq (opk_gcall hA118 rfl rfl (g := true) (e := ((decide (r_25 = r_62)) && (decide (r_62 = r_99)))) rfl (fun hg => r_call (args := #[.int .u32 r_25, Sl.v Sl.nil]) Try.func12 (by decide) rfl (map_arr (ml_cons (cv_get (hA118.get rfl) hg) (ml_cons rfl ml_nil))) rfl) (fun hg => hc123 ⟨(of_decide_eq_true (b_and_t (g_t hg)).1), (of_decide_eq_true (b_and_t (g_t hg)).2)⟩) fun a120 w121 hA120 _ hE124 => ?_)
  have hC125 : Chg [] w101 w121 := hE124
  have ht126 := ht122 w121 hE124
  refine sq (opk_gval hA120 rfl rfl (g := true) (e := ((decide (r_25 = r_62)) && (decide (r_62 = r_99)))) rfl (fun hg => r_move (hA120.get rfl)) fun a127 hA127 _ => ?_)
  refine sq (opk_gval hA127 rfl rfl (g := true) (e := ((decide (r_25 = r_62)) && (decide (r_62 = r_99)))) rfl (fun hg => r_eql (cv_get (hA127.get rfl) hg) (cv_get (hA127.get rfl) hg)) fun a128 hA128 _ => ?_)
  refine sq (opk_val hA128 rfl (r_pick_and (g := (true && (((decide (r_25 = r_62)) && (decide (r_62 = r_99))) == true))) (hA128.get rfl) (hA128.get rfl) (fun he => g_mkt rfl he)) fun a129 hA129 _ => ?_)
  refine sq (opk_val hA129 rfl (r_move (hA129.get rfl)) fun a130 hA130 _ => ?_)
  obtain ⟨r_131, hc135, ht134⟩ := ht126
  refine sq (opk_gcall hA130 rfl rfl (g := true) (e := (((decide (r_25 = r_62)) && (decide (r_62 = r_99))) && (decide (r_119 = r_25)))) rfl (fun hg => r_call (args := #[]) Try.func15 (by decide) rfl (map_arr ml_nil) rfl) (fun hg => hc135 ⟨⟨(of_decide_eq_true (b_and_t (b_and_t (g_t hg)).1).1), (of_decide_eq_true (b_and_t (b_and_t (g_t hg)).1).2)⟩, (of_decide_eq_true (b_and_t (g_t hg)).2)⟩) fun a132 w133 hA132 _ hE136 => ?_)
  have hC137 : Chg [] w121 w133 := hE136
  have ht138 := ht134 w133 hE136
  refine sq (opk_val hA132 rfl (r_pick_and (g := (true && ((((decide (r_25 = r_62)) && (decide (r_62 = r_99))) && (decide (r_119 = r_25))) == true))) (hA132.get rfl) (hA132.get rfl) (fun he => g_mkt rfl he)) fun a139 hA139 _ => ?_)
  refine sq (opk_val hA139 rfl (r_assign (hA139.get rfl)) fun a140 hA140 _ => ?_)
  refine sq_end ?_
  have hA141 := hA140.keep [(6, .bool ((((decide (r_25 = r_62)) && (decide (r_62 = r_99))) && (decide (r_119 = r_25))) && r_131))] ⟨rfl, trivial⟩
  refine then_normal ?_
  refine wp_ret ?_
  exact res_all (vs := [.bool ((((decide (r_25 = r_62)) && (decide (r_62 = r_99))) && (decide (r_119 = r_25))) && r_131)]) rfl hA141 ⟨res_of_tmp hA141 rfl, trivial⟩ ht138

/-- The condition of topiary/topiarylaw03.VintMany. -/
def law03_VintMany.vc (l_1 : Sl) (R : Value → World → Prop) (w : World) : Prop :=
∃ J_18 : Sl → World → Prop,
(((200 < (l_1.n : Int)) →
((0 : Int) ≤ 200 ∧ 200 ≤ (l_1.c : Int)) ∧
J_18 (Sl.cut l_1 1 0 200 l_1.c) w) ∧
((¬ (200 < (l_1.n : Int))) →
J_18 l_1 w)) ∧
(∀ (l_16 : Sl) (w17 : World), J_18 l_16 w17 →
∃ (J_40 : Sl → Int → World → Prop) (mu_41 : Sl → Int → World → Nat),
J_40 Sl.nil 0 w17 ∧
(∀ (b_37 : Sl) (i_38 : Int) (w39 : World), J_40 b_37 i_38 w39 →
((i_38 < (l_16.n : Int)) →
((0 : Int) ≤ i_38 ∧ i_38 < (l_16.n : Int)) ∧ ∃ p_93 : Addr, l_16.a = some p_93 ∧
∃ (x_99 : Int), (w39.cell? (p_93.add (i_38.toNat * 1)) = some (.int .u64 x_99)) ∧
CallK Try.prog 17 #[Sl.v b_37, .int .u64 x_99] w39 [] (fun v w104 => ∃ (r_102 : Sl), v = Sl.v r_102 ∧
(I64 (i_38 + 1)) ∧
J_40 r_102 (i_38 + 1) w104 ∧ mu_41 r_102 (i_38 + 1) w104 < mu_41 b_37 i_38 w39)) ∧
((¬ (i_38 < (l_16.n : Int))) →
∃ (J_127 : Int → Int → World → Prop) (mu_128 : Int → Int → World → Nat),
J_127 0 0 w39 ∧
(∀ (at_124 : Int) (i_125 : Int) (w126 : World), J_127 at_124 i_125 w126 →
((i_125 < (l_16.n : Int)) →
CallK Try.prog 18 #[Sl.v b_37, .int .i64 at_124] w126 [] (fun v w211 => ∃ (r_0_207 : Int) (r_1_208 : Int) (r_2_209 : Int), v = .tuple #[.int .u64 r_0_207, .int .i64 r_1_208, .int .i64 r_2_209] ∧
∃ p_231 : Addr, (((¬ (r_2_209 ≠ 0))) → ((0 : Int) ≤ i_125 ∧ i_125 < (l_16.n : Int)) ∧  l_16.a = some p_231) ∧
∃ (x_237 : Int), (((¬ (r_2_209 ≠ 0))) → w211.cell? (p_231.add (i_125.toNat * 1)) = some (.int .u64 x_237)) ∧
((((r_2_209 ≠ 0) ∨ (r_0_207 ≠ x_237)) ∨ (r_1_208 ≤ at_124)) →
R (.bool false) w211) ∧
((((¬ (r_2_209 ≠ 0)) ∧ (¬ (r_0_207 ≠ x_237))) ∧ (¬ (r_1_208 ≤ at_124))) →
(I64 (i_125 + 1)) ∧
J_127 r_1_208 (i_125 + 1) w211 ∧ mu_128 r_1_208 (i_125 + 1) w211 < mu_128 at_124 i_125 w126))) ∧
((¬ (i_125 < (l_16.n : Int))) →
CallK Try.prog 18 #[Sl.v b_37, .int .i64 at_124] w126 [] (fun v w269 => ∃ (r_0_265 : Int) (r_1_266 : Int) (r_2_267 : Int), v = .tuple #[.int .u64 r_0_265, .int .i64 r_1_266, .int .i64 r_2_267] ∧
∃ (r_292 : Bool), ((((at_124 = (b_37.n : Int)) ∧ (r_2_267 = 9))) → Calls Try.prog 19 #[] w269 (Ret fun v w' => Ext w269 w' ∧ v = .bool r_292)) ∧
(∀ w294 : World, Ext w269 w294 →
R (.bool (((decide (at_124 = (b_37.n : Int))) && (decide (r_2_267 = 9))) && r_292)) w294)))))))
set_option maxHeartbeats 1000000 in
set_option maxRecDepth 10000 in
theorem law03_VintMany.ok (l_1 : Sl) {R : Value → World → Prop} {w : World} (ht0 : law03_VintMany.vc l_1 R w) : Calls Try.prog 7 #[Sl.v l_1] w (Ret R) := by
  refine enter [Sl.v l_1] Try.func7 rfl Try.ntmps7 rfl ?_
  intro a0 hA0
  unfold law03_VintMany.vc at ht0
  refine wp_seq ?_
  refine wp_region_lit ?_
  refine sq (opk_val hA0 rfl (r_assign rfl) fun a2 hA2 _ => ?_)
  refine sq_end ?_
  have hA3 := hA2.keep [(0, Sl.v l_1)] ⟨rfl, trivial⟩
  refine then_normal ?_
  refine wp_seq ?_
  refine wp_seq ?_
  refine wp_region_lit ?_
  refine sq (opk_val hA3 rfl (r_move (hA3.get rfl)) fun a4 hA4 _ => ?_)
  refine sq (opk_val hA4 rfl (r_len (hA4.get rfl) Try.underlying35) fun a5 hA5 _ => ?_)
  refine sq (opk_val hA5 rfl (r_gtr (hA5.get rfl) rfl) fun a6 hA6 _ => ?_)
  refine sq_end ?_
  have hA7 := hA6.keep [(0, Sl.v l_1), (15, .bool (decide (200 < (l_1.n : Int))))] ⟨rfl, rfl, trivial⟩
  refine then_normal ?_
  obtain ⟨J_18, ht19, hr20⟩ := ht0
  refine wp_meet (fun a w => ∃ l_16 : Sl, Ag 77 a [(0, Sl.v l_16)] ∧ J_18 l_16 w) ?_ ?_
  · refine wp_cond_split (hA7.get rfl) (fun hc => ?_) (fun hc => ?_)
    · have ht21 := ht19.1 (of_decide_eq_true hc)
      clear hc
      refine wp_region_lit ?_
      refine sq (opk_val hA7 rfl (r_move (hA7.get rfl)) fun a23 hA23 _ => ?_)
      obtain ⟨hS25, ht26⟩ := ht21
      refine sq (opk_val hA23 rfl (r_sliceH (hA23.get rfl) rfl Try.underlying35 ti_31 hS25) fun a24 hA24 _ => ?_)
      refine sq (opk_val hA24 rfl (r_assign (hA24.get rfl)) fun a27 hA27 _ => ?_)
      refine sq_end ?_
      have hA28 := hA27.keep [(0, Sl.v (Sl.cut l_1 1 0 200 l_1.c))] ⟨rfl, trivial⟩
      have hA29 := hA28.keep [(0, Sl.v (Sl.cut l_1 1 0 200 l_1.c))] ⟨rfl, trivial⟩
      exact then_normal ⟨Sl.cut l_1 1 0 200 l_1.c, hA29, ht26⟩
    · have ht22 := ht19.2 (of_decide_eq_false hc)
      clear hc
      refine wp_skip ?_
      have hA30 := hA7.keep [(0, Sl.v l_1)] ⟨rfl, trivial⟩
      exact then_normal ⟨l_1, hA30, ht22⟩
  · intro a31 w17 hm
    obtain ⟨l_16, hA31, hJ303⟩ := hm
    have ht32 := hr20 l_16 w17 hJ303
    refine then_normal ?_
    refine wp_seq ?_
    refine wp_region_lit ?_
    refine sq (opk_val hA31 rfl (r_assign rfl) fun a33 hA33 _ => ?_)
    refine sq_end ?_
    have hA34 := hA33.keep [(0, Sl.v l_16), (3, Sl.v Sl.nil)] ⟨rfl, rfl, trivial⟩
    refine then_normal ?_
    refine wp_seq ?_
    refine wp_seq ?_
    refine wp_region_lit ?_
    refine sq (opk_val hA34 rfl (r_assign rfl) fun a35 hA35 _ => ?_)
    refine sq_end ?_
    have hA36 := hA35.keep [(0, Sl.v l_16), (3, Sl.v Sl.nil), (4, .int .i64 0)] ⟨rfl, rfl, rfl, trivial⟩
    refine then_normal ?_
    refine wp_block ?_
    obtain ⟨J_40, mu_41, h080, ht79⟩ := ht32
    refine wp_loop_st (σ := Sl × Int × World) (fun s a w => Ag 77 a [(0, Sl.v l_16), (3, Sl.v s.1), (4, .int .i64 s.2.1)] ∧ w = s.2.2 ∧ J_40 s.1 s.2.1 s.2.2) (fun s => mu_41 s.1 s.2.1 s.2.2) (Sl.nil, 0, w17) ⟨hA36.keep [(0, Sl.v l_16), (3, Sl.v Sl.nil), (4, .int .i64 0)] ⟨rfl, rfl, rfl, trivial⟩, rfl, h080⟩ ?_
    rintro ⟨b_37, i_38, w39⟩ a78 w_ ⟨hA78, hw_, hJ82⟩
    have hw_ : w39 = w_ := hw_.symm
    subst hw_
    have ht81 := ht79 b_37 i_38 _ hJ82
    refine wp_seq ?_
    refine wp_seq ?_
    refine wp_region_lit ?_
    refine sq (opk_val hA78 rfl (r_move (hA78.get rfl)) fun a83 hA83 _ => ?_)
    refine sq (opk_val hA83 rfl (r_move (hA83.get rfl)) fun a84 hA84 _ => ?_)
    refine sq (opk_val hA84 rfl (r_len (hA84.get rfl) Try.underlying35) fun a85 hA85 _ => ?_)
    refine sq (opk_val hA85 rfl (r_lss (hA85.get rfl) (hA85.get rfl)) fun a86 hA86 _ => ?_)
    refine sq_end ?_
    have hA87 := hA86.keep [(0, Sl.v l_16), (3, Sl.v b_37), (4, .int .i64 i_38), (21, .bool (decide (i_38 < (l_16.n : Int))))] ⟨rfl, rfl, rfl, rfl, trivial⟩
    refine then_normal ?_
    refine wp_cond_split (hA87.get rfl) (fun hc => ?_) (fun hc => ?_)
    · have ht88 := ht81.1 (of_decide_eq_true hc)
      clear hc
      refine wp_skip ?_
      refine then_normal ?_
      refine wp_seq ?_
      refine wp_block ?_
      refine wp_region_lit ?_
      refine sq (opk_val hA87 rfl (r_move (hA87.get rfl)) fun a90 hA90 _ => ?_)
      refine sq (opk_val hA90 rfl (r_move (hA90.get rfl)) fun a91 hA91 _ => ?_)
      refine sq (opk_val hA91 rfl (r_move (hA91.get rfl)) fun a92 hA92 _ => ?_)
      obtain ⟨hb94, p_93, hp95, ht96⟩ := ht88
      refine sq (opk_val hA92 rfl (r_indexAddr (hA92.get rfl) (hA92.get rfl) Try.underlying35 ti_31 hb94 hp95) fun a97 hA97 _ => ?_)
      obtain ⟨x_99, hx100, ht101⟩ := ht96
      refine sq (opk_val hA97 rfl (r_load1 Try.underlying31 rfl (hA97.get rfl) hx100) fun a98 hA98 _ => ?_)
      refine sq (opk_call hA98 rfl (r_call (args := #[Sl.v b_37, .int .u64 x_99]) Try.func17 (by decide) rfl (map_arr (ml_cons (hA98.get rfl) (ml_cons (hA98.get rfl) ml_nil))) rfl) ht101 fun a103 v109 w104 hA103 _ hn106 hz107 hK108 => ?_)
      obtain ⟨r_102, rfl, ht105⟩ := hK108
      refine sq (opk_val hA103 rfl (r_assign (hA103.get rfl)) fun a110 hA110 _ => ?_)
      refine sq_end ?_
      have hA111 := hA110.keep [(0, Sl.v l_16), (3, Sl.v r_102), (4, .int .i64 i_38)] ⟨rfl, rfl, rfl, trivial⟩
      refine block_normal ?_
      refine then_normal ?_
      refine wp_region_lit ?_
      refine sq (opk_val hA111 rfl (r_move (hA111.get rfl)) fun a112 hA112 _ => ?_)
      obtain ⟨hS114, ht115⟩ := ht105
      refine sq (opk_val hA112 rfl (r_addI (hA112.get rfl) rfl hS114) fun a113 hA113 _ => ?_)
      refine sq (opk_val hA113 rfl (r_assign (hA113.get rfl)) fun a116 hA116 _ => ?_)
      refine sq_end ?_
      have hA117 := hA116.keep [(0, Sl.v l_16), (3, Sl.v r_102), (4, .int .i64 (i_38 + 1))] ⟨rfl, rfl, rfl, trivial⟩
      have hA118 := hA117.keep [(0, Sl.v l_16), (3, Sl.v r_102), (4, .int .i64 (i_38 + 1))] ⟨rfl, rfl, rfl, trivial⟩
      exact then_normal ⟨(r_102, i_38 + 1, w104), ⟨hA118, rfl, ht115.1⟩, ht115.2⟩
    · have ht89 := ht81.2 (of_decide_eq_false hc)
      clear hc
      refine wp_exit ?_
      refine then_exit ?_
      refine then_exit ?_
      refine block_hit ?_
      have hA119 := hA87.keep [(0, Sl.v l_16), (3, Sl.v b_37)] ⟨rfl, rfl, trivial⟩
      refine then_normal ?_
      refine wp_seq ?_
      refine wp_region_lit ?_
      refine sq (opk_val hA119 rfl (r_assign rfl) fun a120 hA120 _ => ?_)
      refine sq_end ?_
      have hA121 := hA120.keep [(0, Sl.v l_16), (3, Sl.v b_37), (5, .int .i64 0)] ⟨rfl, rfl, rfl, trivial⟩
      refine then_normal ?_
      refine wp_seq ?_
      refine wp_seq ?_
      refine wp_region_lit ?_
      refine sq (opk_val hA121 rfl (r_assign rfl) fun a122 hA122 _ => ?_)
      refine sq_end ?_
      have hA123 := hA122.keep [(0, Sl.v l_16), (3, Sl.v b_37), (5, .int .i64 0), (6, .int .i64 0)] ⟨rfl, rfl, rfl, rfl, trivial⟩
      refine then_normal ?_
      refine wp_block ?_
      obtain ⟨J_127, mu_128, h0195, ht194⟩ := ht89
      refine wp_loop_st (σ := Int × Int × World) (fun s a w => Ag 77 a [(0, Sl.v l_16), (3, Sl.v b_37), (5, .int .i64 s.1), (6, .int .i64 s.2.1)] ∧ w = s.2.2 ∧ J_127 s.1 s.2.1 s.2.2) (fun s => mu_128 s.1 s.2.1 s.2.2) (0, 0, w39) ⟨hA123.keep [(0, Sl.v l_16), (3, Sl.v b_37), (5, .int .i64 0), (6, .int .i64 0)] ⟨rfl, rfl, rfl, rfl, trivial⟩, rfl, h0195⟩ ?_
      rintro ⟨at_124, i_125, w126⟩ a193 w_ ⟨hA193, hw_, hJ197⟩
      have hw_ : w126 = w_ := hw_.symm
      subst hw_
      have ht196 := ht194 at_124 i_125 _ hJ197
      refine wp_seq ?_
      refine wp_seq ?_
      refine wp_region_lit ?_
      refine sq (opk_val hA193 rfl (r_move (hA193.get rfl)) fun a198 hA198 _ => ?_)
      refine sq (opk_val hA198 rfl (r_move (hA198.get rfl)) fun a199 hA199 _ => ?_)
      refine sq (opk_val hA199 rfl (r_len (hA199.get rfl) Try.underlying35) fun a200 hA200 _ => ?_)
      refine sq (opk_val hA200 rfl (r_lss (hA200.get rfl) (hA200.get rfl)) fun a201 hA201 _ => ?_)
      refine sq_end ?_
      have hA202 := hA201.keep [(0, Sl.v l_16), (3, Sl.v b_37), (5, .int .i64 at_124), (6, .int .i64 i_125), (33, .bool (decide (i_125 < (l_16.n : Int))))] ⟨rfl, rfl, rfl, rfl, rfl, trivial⟩
      refine then_normal ?_
      refine wp_cond_split (hA202.get rfl) (fun hc => ?_) (fun hc => ?_)
      · have ht203 := ht196.1 (of_decide_eq_true hc)
        clear hc
        refine wp_skip ?_
        refine then_normal ?_
        refine wp_seq ?_
        refine wp_block ?_
        refine wp_seq ?_
        refine wp_region_lit ?_
        refine sq (opk_val hA202 rfl (r_move (hA202.get rfl)) fun a205 hA205 _ => ?_)
        refine sq (opk_val hA205 rfl (r_move (hA205.get rfl)) fun a206 hA206 _ => ?_)
        refine sq (opk_call hA206 rfl (r_call (args := #[Sl.v b_37, .int .i64 at_124]) Try.func18 (by decide) rfl (map_arr (ml_cons (hA206.get rfl) (ml_cons (hA206.get rfl) ml_nil))) rfl) ht203 fun a210 v216 w211 hA210 _ hn213 hz214 hK215 => ?_)
        obtain ⟨r_0_207, r_1_208, r_2_209, rfl, ht212⟩ := hK215
        refine sq (opk_val hA210 rfl (r_move (hA210.get rfl)) fun a217 hA217 _ => ?_)
        refine sq (opk_val hA217 rfl (r_extract (hA217.get rfl) rfl) fun a218 hA218 _ => ?_)
        refine sq (opk_val hA218 rfl (r_extract (hA218.get rfl) rfl) fun a219 hA219 _ => ?_)
        refine sq (opk_val hA219 rfl (r_extract (hA219.get rfl) rfl) fun a220 hA220 _ => ?_)
        refine sq (opk_val hA220 rfl (r_assign (hA220.get rfl)) fun a221 hA221 _ => ?_)
        refine sq (opk_val hA221 rfl (r_assign (hA221.get rfl)) fun a222 hA222 _ => ?_)
        refine sq (opk_val hA222 rfl (r_assign (hA222.get rfl)) fun a223 hA223 _ => ?_)
        refine sq_end ?_
        have hA224 := hA223.keep [(0, Sl.v l_16), (3, Sl.v b_37), (5, .int .i64 at_124), (6, .int .i64 i_125), (7, .int .u64 r_0_207), (8, .int .i64 r_1_208), (9, .int .i64 r_2_209)] ⟨rfl, rfl, rfl, rfl, rfl, rfl, rfl, trivial⟩
        refine then_normal ?_
        refine wp_seq ?_
        refine wp_seq ?_
        refine wp_region_lit ?_
        refine sq (opk_val hA224 rfl (r_move (hA224.get rfl)) fun a225 hA225 _ => ?_)
        refine sq (opk_val hA225 rfl (r_neq (hA225.get rfl) rfl) fun a226 hA226 _ => ?_)
        refine sq (opk_val hA226 rfl (r_move (hA226.get rfl)) fun a227 hA227 _ => ?_)
        refine sq (opk_gval hA227 rfl rfl (g := true) (e := (decide (r_2_209 ≠ 0))) rfl (fun hg => r_move (hA227.get rfl)) fun a228 hA228 _ => ?_)
        refine sq (opk_gval hA228 rfl rfl (g := true) (e := (decide (r_2_209 ≠ 0))) rfl (fun hg => r_move (hA228.get rfl)) fun a229 hA229 _ => ?_)
        refine sq (opk_gval hA229 rfl rfl (g := true) (e := (decide (r_2_209 ≠ 0))) rfl (fun hg => r_move (hA229.get rfl)) fun a230 hA230 _ => ?_)
        obtain ⟨p_231, hp233, ht234⟩ := ht212
        refine sq (opk_gval hA230 rfl rfl (g := true) (e := (decide (r_2_209 ≠ 0))) rfl (fun hg => r_indexAddr (cv_get (hA230.get rfl) hg) (cv_get (hA230.get rfl) hg) Try.underlying35 ti_31 (hp233 (of_decide_eq_false (g_f hg))).1 (hp233 (of_decide_eq_false (g_f hg))).2) fun a235 hA235 _ => ?_)
        obtain ⟨x_237, hx238, ht239⟩ := ht234
        refine sq (opk_gval hA235 rfl rfl (g := true) (e := (decide (r_2_209 ≠ 0))) rfl (fun hg => r_load1 Try.underlying31 rfl (cv_get (hA235.get rfl) hg) (hx238 (of_decide_eq_false (g_f hg)))) fun a236 hA236 _ => ?_)
        refine sq (opk_gval hA236 rfl rfl (g := true) (e := (decide (r_2_209 ≠ 0))) rfl (fun hg => r_neq (cv_get (hA236.get rfl) hg) (cv_get (hA236.get rfl) hg)) fun a240 hA240 _ => ?_)
        refine sq (opk_val hA240 rfl (r_pick_or (g := (true && ((decide (r_2_209 ≠ 0)) == false))) (hA240.get rfl) (hA240.get rfl) (fun he => g_mkf rfl he)) fun a241 hA241 _ => ?_)
        refine sq (opk_val hA241 rfl (r_move (hA241.get rfl)) fun a242 hA242 _ => ?_)
        refine sq (opk_gval hA242 rfl rfl (g := true) (e := ((decide (r_2_209 ≠ 0)) || (decide (r_0_207 ≠ x_237)))) rfl (fun hg => r_move (hA242.get rfl)) fun a243 hA243 _ => ?_)
        refine sq (opk_gval hA243 rfl rfl (g := true) (e := ((decide (r_2_209 ≠ 0)) || (decide (r_0_207 ≠ x_237)))) rfl (fun hg => r_move (hA243.get rfl)) fun a244 hA244 _ => ?_)
        refine sq (opk_gval hA244 rfl rfl (g := true) (e := ((decide (r_2_209 ≠ 0)) || (decide (r_0_207 ≠ x_237)))) rfl (fun hg => r_leq (cv_get (hA244.get rfl) hg) (cv_get (hA244.get rfl) hg)) fun a245 hA245 _ => ?_)
        refine sq (opk_val hA245 rfl (r_pick_or (g := (true && (((decide (r_2_209 ≠ 0)) || (decide (r_0_207 ≠ x_237))) == false))) (hA245.get rfl) (hA245.get rfl) (fun he => g_mkf rfl he)) fun a246 hA246 _ => ?_)
        refine sq_end ?_
        have hA247 := hA246.keep [(0, Sl.v l_16), (3, Sl.v b_37), (6, .int .i64 i_125), (8, .int .i64 r_1_208), (57, .bool (((decide (r_2_209 ≠ 0)) || (decide (r_0_207 ≠ x_237))) || (decide (r_1_208 ≤ at_124))))] ⟨rfl, rfl, rfl, rfl, rfl, trivial⟩
        refine then_normal ?_
        refine wp_cond_split (hA247.get rfl) (fun hc => ?_) (fun hc => ?_)
        · have ht248 := ht239.1 ((b_or_t hc).imp (fun h => ((b_or_t h).imp (fun h => (of_decide_eq_true h)) (fun h => (of_decide_eq_true h)))) (fun h => (of_decide_eq_true h)))
          clear hc
          refine wp_seq ?_
          refine wp_region_lit ?_
          refine sq (opk_val hA247 rfl (r_assign rfl) fun a250 hA250 _ => ?_)
          refine sq_end ?_
          have hA251 := hA250.keep [(2, .bool false)] ⟨rfl, trivial⟩
          refine then_normal ?_
          refine wp_ret ?_
          refine then_ret ?_
          refine block_ret ?_
          refine then_ret ?_
          refine then_ret ?_
          refine block_ret ?_
          refine then_ret ?_
          exact res_all (vs := [.bool false]) rfl hA251 ⟨res_of_tmp hA251 rfl, trivial⟩ ht248
        · have ht249 := ht239.2 ⟨⟨(of_decide_eq_false (b_or_f (b_or_f hc).1).1), (of_decide_eq_false (b_or_f (b_or_f hc).1).2)⟩, (of_decide_eq_false (b_or_f hc).2)⟩
          clear hc
          refine wp_skip ?_
          refine then_normal ?_
          refine wp_region_lit ?_
          refine sq (opk_val hA247 rfl (r_move (hA247.get rfl)) fun a252 hA252 _ => ?_)
          refine sq (opk_val hA252 rfl (r_assign (hA252.get rfl)) fun a253 hA253 _ => ?_)
          refine sq_end ?_
          have hA254 := hA253.keep [(0, Sl.v l_16), (3, Sl.v b_37), (5, .int .i64 r_1_208), (6, .int .i64 i_125)] ⟨rfl, rfl, rfl, rfl, trivial⟩
          refine block_normal ?_
          refine then_normal ?_
          refine wp_region_lit ?_
          refine sq (opk_val hA254 rfl (r_move (hA254.get rfl)) fun a255 hA255 _ => ?_)
          obtain ⟨hS257, ht258⟩ := ht249
          refine sq (opk_val hA255 rfl (r_addI (hA255.get rfl) rfl hS257) fun a256 hA256 _ => ?_)
          refine sq (opk_val hA256 rfl (r_assign (hA256.get rfl)) fun a259 hA259 _ => ?_)
          refine sq_end ?_
          have hA260 := hA259.keep [(0, Sl.v l_16), (3, Sl.v b_37), (5, .int .i64 r_1_208), (6, .int .i64 (i_125 + 1))] ⟨rfl, rfl, rfl, rfl, trivial⟩
          have hA261 := hA260.keep [(0, Sl.v l_16), (3, Sl.v b_37), (5, .int .i64 r_1_208), (6, .int .i64 (i_125 + 1))] ⟨rfl, rfl, rfl, rfl, trivial⟩
          exact then_normal ⟨(r_1_208, i_125 + 1, w211), ⟨hA261, rfl, ht258.1⟩, ht258.2⟩
      · have ht204 := ht196.2 (of_decide_eq_false hc)
        clear hc
        refine wp_exit ?_
        refine then_exit ?_
        refine then_exit ?_
        refine block_hit ?_
        have hA262 := hA202.keep [(3, Sl.v b_37), (5, .int .i64 at_124)] ⟨rfl, rfl, trivial⟩
        refine then_normal ?_
        refine wp_seq ?_
        refine wp_region_lit ?_
        refine sq (opk_val hA262 rfl (r_move (hA262.get rfl)) fun a263 hA263 _ => ?_)
        refine sq (opk_val hA263 rfl (r_move (hA263.get rfl)) fun a264 hA264 _ => ?_)
        refine sq (opk_call hA264 rfl (r_call (args := #[Sl.v b_37, .int .i64 at_124]) Try.func18 (by decide) rfl (map_arr (ml_cons (hA264.get rfl) (ml_cons (hA264.get rfl) ml_nil))) rfl) ht204 fun a268 v274 w269 hA268 _ hn271 hz272 hK273 => ?_)
        obtain ⟨r_0_265, r_1_266, r_2_267, rfl, ht270⟩ := hK273
        refine sq (opk_val hA268 rfl (r_move (hA268.get rfl)) fun a275 hA275 _ => ?_)
        refine sq (opk_val hA275 rfl (r_extract (hA275.get rfl) rfl) fun a276 hA276 _ => ?_)
        refine sq (opk_val hA276 rfl (r_extract (hA276.get rfl) rfl) fun a277 hA277 _ => ?_)
        refine sq (opk_val hA277 rfl (r_extract (hA277.get rfl) rfl) fun a278 hA278 _ => ?_)
        refine sq (opk_val hA278 rfl (r_assign (hA278.get rfl)) fun a279 hA279 _ => ?_)
        refine sq (opk_val hA279 rfl (r_assign (hA279.get rfl)) fun a280 hA280 _ => ?_)
        refine sq (opk_val hA280 rfl (r_assign (hA280.get rfl)) fun a281 hA281 _ => ?_)
        refine sq_end ?_
        have hA282 := hA281.keep [(3, Sl.v b_37), (5, .int .i64 at_124), (12, .int .i64 r_2_267)] ⟨rfl, rfl, rfl, trivial⟩
        refine then_normal ?_
        refine wp_seq ?_
        refine wp_region_lit ?_
        refine sq (opk_val hA282 rfl (r_move (hA282.get rfl)) fun a283 hA283 _ => ?_)
        refine sq (opk_val hA283 rfl (r_move (hA283.get rfl)) fun a284 hA284 _ => ?_)
        refine sq (opk_val hA284 rfl (r_len (hA284.get rfl) Try.underlying23) fun a285 hA285 _ => ?_)
        refine sq (opk_val hA285 rfl (r_eql (hA285.get rfl) (hA285.get rfl)) fun a286 hA286 _ => ?_)
        refine sq (opk_val hA286 rfl (r_move (hA286.get rfl)) fun a287 hA287 _ => ?_)
        refine sq (opk_gval hA287 rfl rfl (g := true) (e := (decide (at_124 = (b_37.n : Int)))) rfl (fun hg => r_move (hA287.get rfl)) fun a288 hA288 _ => ?_)
        refine sq (opk_gval hA288 rfl rfl (g := true) (e := (decide (at_124 = (b_37.n : Int)))) rfl (fun hg => r_eql (cv_get (hA288.get rfl) hg) rfl) fun a289 hA289 _ => ?_)
        refine sq (opk_val hA289 rfl (r_pick_and (g := (true && ((decide (at_124 = (b_37.n : Int))) == true))) (hA289.get rfl) (hA289.get rfl) (fun he => g_mkt rfl he)) fun a290 hA290 _ => ?_)
        refine sq (opk_val hA290 rfl (r_move (hA290.get rfl)) fun a291 hA291 _ => ?_)
        obtain ⟨r_292, hc296, ht295⟩ := ht270
        refine sq (opk_gcall hA291 rfl rfl (g := true) (e := ((decide (at_124 = (b_37.n : Int))) && (decide (r_2_267 = 9)))) rfl (fun hg => r_call (args := #[]) Try.func19 (by decide) rfl (map_arr ml_nil) rfl) (fun hg => hc296 ⟨(of_decide_eq_true (b_and_t (g_t hg)).1), (of_decide_eq_true (b_and_t (g_t hg)).2)⟩) fun a293 w294 hA293 _ hE297 => ?_)
        have hC298 : Chg [] w269 w294 := hE297
        have ht299 := ht295 w294 hE297
        refine sq (opk_val hA293 rfl (r_pick_and (g := (true && (((decide (at_124 = (b_37.n : Int))) && (decide (r_2_267 = 9))) == true))) (hA293.get rfl) (hA293.get rfl) (fun he => g_mkt rfl he)) fun a300 hA300 _ => ?_)
        refine sq (opk_val hA300 rfl (r_assign (hA300.get rfl)) fun a301 hA301 _ => ?_)
        refine sq_end ?_
        have hA302 := hA301.keep [(2, .bool (((decide (at_124 = (b_37.n : Int))) && (decide (r_2_267 = 9))) && r_292))] ⟨rfl, trivial⟩
        refine then_normal ?_
        refine wp_ret ?_
        exact res_all (vs := [.bool (((decide (at_124 = (b_37.n : Int))) && (decide (r_2_267 = 9))) && r_292)]) rfl hA302 ⟨res_of_tmp hA302 rfl, trivial⟩ ht299

/-- The condition of topiary/topiarylaw03.VintEnds. -/
def law03_VintEnds.vc  (R : Value → World → Prop) (w : World) : Prop :=
∃ (J_10 : Int → Int → World → Prop) (mu_11 : Int → Int → World → Nat),
J_10 127 1 w ∧
(∀ (v_7 : Int) (n_8 : Int) (w9 : World), J_10 v_7 n_8 w9 →
((n_8 ≤ 9) →
CallK Try.prog 17 #[Sl.v Sl.nil, .int .u64 v_7] w9 [] (fun v w82 => ∃ (r_80 : Sl), v = Sl.v r_80 ∧
∃ V_98 : Sl → World → Prop, (((¬ ((r_80.n : Int) ≠ n_8))) → Calls Try.prog 17 #[Sl.v Sl.nil, .int .u64 (IntKind.u64.wrap (v_7 + 1))] w82 (Ret fun v w' => Ext w82 w' ∧ ∃ r_94 : Sl, v = Sl.v r_94 ∧ V_98 r_94 w')) ∧
(∀ (r_94 : Sl) (w96 : World), Ext w82 w96 → (((¬ ((r_80.n : Int) ≠ n_8))) → V_98 r_94 w96) →
(((¬ ((r_80.n : Int) ≠ n_8))) → I64 (n_8 + 1)) ∧
((((r_80.n : Int) ≠ n_8) ∨ ((r_94.n : Int) ≠ (n_8 + 1))) →
R (.bool false) w96) ∧
(((¬ ((r_80.n : Int) ≠ n_8)) ∧ (¬ ((r_94.n : Int) ≠ (n_8 + 1)))) →
(I64 (n_8 + 1)) ∧
J_10 (IntKind.u64.wrap ((IntKind.u64.wrap (v_7 * 128)) + 127)) (n_8 + 1) w96 ∧ mu_11 (IntKind.u64.wrap ((IntKind.u64.wrap (v_7 * 128)) + 127)) (n_8 + 1) w96 < mu_11 v_7 n_8 w9)))) ∧
((¬ (n_8 ≤ 9)) →
CallK Try.prog 17 #[Sl.v Sl.nil, .int .u64 18446744073709551615] w9 [] (fun v w134 => ∃ (r_132 : Sl), v = Sl.v r_132 ∧
CallK Try.prog 18 #[Sl.v r_132, .int .i64 0] w134 [] (fun v w144 => ∃ (r_0_140 : Int) (r_1_141 : Int) (r_2_142 : Int), v = .tuple #[.int .u64 r_0_140, .int .i64 r_1_141, .int .i64 r_2_142] ∧
∀ (w159 : World) (B_158 : Nat), New w144 B_158 w159 → Chg [] w144 w159 →
Box w159 B_158 5 [.int .u8 255, .int .u8 255, .int .u8 255, .int .u8 255, .int .u8 255, .int .u8 255, .int .u8 255, .int .u8 255, .int .u8 255, .int .u8 2] →
CallK Try.prog 18 #[Sl.v ⟨some ⟨B_158, 0, none⟩, 10, 10⟩, .int .i64 0] w159 [] (fun v w172 => ∃ (r_0_168 : Int) (r_1_169 : Int) (r_2_170 : Int), v = .tuple #[.int .u64 r_0_168, .int .i64 r_1_169, .int .i64 r_2_170] ∧
∀ (w187 : World) (B_186 : Nat), New w172 B_186 w187 → Chg [] w172 w187 →
Box w187 B_186 5 [.int .u8 128, .int .u8 0] →
CallK Try.prog 18 #[Sl.v ⟨some ⟨B_186, 0, none⟩, 2, 2⟩, .int .i64 0] w187 [] (fun v w200 => ∃ (r_0_196 : Int) (r_1_197 : Int) (r_2_198 : Int), v = .tuple #[.int .u64 r_0_196, .int .i64 r_1_197, .int .i64 r_2_198] ∧
∀ (w215 : World) (B_214 : Nat), New w200 B_214 w215 → Chg [] w200 w215 →
Box w215 B_214 5 [.int .u8 128] →
CallK Try.prog 18 #[Sl.v ⟨some ⟨B_214, 0, none⟩, 1, 1⟩, .int .i64 0] w215 [] (fun v w228 => ∃ (r_0_224 : Int) (r_1_225 : Int) (r_2_226 : Int), v = .tuple #[.int .u64 r_0_224, .int .i64 r_1_225, .int .i64 r_2_226] ∧
CallK Try.prog 18 #[Sl.v Sl.nil, .int .i64 1] w228 [] (fun v w246 => ∃ (r_0_242 : Int) (r_1_243 : Int) (r_2_244 : Int), v = .tuple #[.int .u64 r_0_242, .int .i64 r_1_243, .int .i64 r_2_244] ∧
∃ (r_287 : Bool), (((((((((r_0_140 = 18446744073709551615) ∧ (r_1_141 = 10)) ∧ (r_2_142 = 0)) ∧ (r_2_170 = 10)) ∧ (r_2_198 = 10)) ∧ (r_2_226 = 9)) ∧ (r_2_244 = 1))) → Calls Try.prog 19 #[] w246 (Ret fun v w' => Ext w246 w' ∧ v = .bool r_287)) ∧
(∀ w289 : World, Ext w246 w289 →
R (.bool ((((((((decide (r_0_140 = 18446744073709551615)) && (decide (r_1_141 = 10))) && (decide (r_2_142 = 0))) && (decide (r_2_170 = 10))) && (decide (r_2_198 = 10))) && (decide (r_2_226 = 9))) && (decide (r_2_244 = 1))) && r_287)) w289)))))))))
set_option maxHeartbeats 1000000 in
set_option maxRecDepth 10000 in
theorem law03_VintEnds.ok  {R : Value → World → Prop} {w : World} (ht0 : law03_VintEnds.vc  R w) : Calls Try.prog 8 #[] w (Ret R) := by
  refine enter [] Try.func8 rfl Try.ntmps8 rfl ?_
  intro a0 hA0
  unfold law03_VintEnds.vc at ht0
  refine wp_seq ?_
  refine wp_region_lit ?_
  refine sq (opk_val hA0 rfl (r_assign rfl) fun a1 hA1 _ => ?_)
  refine sq_end ?_
  have hA2 := hA1.keep [] trivial
  refine then_normal ?_
  refine wp_seq ?_
  refine wp_region_lit ?_
  refine sq (opk_val hA2 rfl (r_assign rfl) fun a3 hA3 _ => ?_)
  refine sq_end ?_
  have hA4 := hA3.keep [(1, .int .u64 127)] ⟨rfl, trivial⟩
  refine then_normal ?_
  refine wp_seq ?_
  refine wp_seq ?_
  refine wp_region_lit ?_
  refine sq (opk_val hA4 rfl (r_assign rfl) fun a5 hA5 _ => ?_)
  refine sq_end ?_
  have hA6 := hA5.keep [(1, .int .u64 127), (2, .int .i64 1)] ⟨rfl, rfl, trivial⟩
  refine then_normal ?_
  refine wp_block ?_
  obtain ⟨J_10, mu_11, h071, ht70⟩ := ht0
  refine wp_loop_st (σ := Int × Int × World) (fun s a w => Ag 97 a [(1, .int .u64 s.1), (2, .int .i64 s.2.1)] ∧ w = s.2.2 ∧ J_10 s.1 s.2.1 s.2.2) (fun s => mu_11 s.1 s.2.1 s.2.2) (127, 1, w) ⟨hA6.keep [(1, .int .u64 127), (2, .int .i64 1)] ⟨rfl, rfl, trivial⟩, rfl, h071⟩ ?_
  rintro ⟨v_7, n_8, w9⟩ a69 w_ ⟨hA69, hw_, hJ73⟩
  have hw_ : w9 = w_ := hw_.symm
  subst hw_
  have ht72 := ht70 v_7 n_8 _ hJ73
  refine wp_seq ?_
  refine wp_seq ?_
  refine wp_region_lit ?_
  refine sq (opk_val hA69 rfl (r_move (hA69.get rfl)) fun a74 hA74 _ => ?_)
  refine sq (opk_val hA74 rfl (r_leq (hA74.get rfl) rfl) fun a75 hA75 _ => ?_)
  refine sq_end ?_
  have hA76 := hA75.keep [(1, .int .u64 v_7), (2, .int .i64 n_8), (19, .bool (decide (n_8 ≤ 9)))] ⟨rfl, rfl, rfl, trivial⟩
  refine then_normal ?_
  refine wp_cond_split (hA76.get rfl) (fun hc => ?_) (fun hc => ?_)
  · have ht77 := ht72.1 (of_decide_eq_true hc)
    clear hc
    refine wp_skip ?_
    refine then_normal ?_
    refine wp_seq ?_
    refine wp_block ?_
    refine wp_seq ?_
    refine wp_seq ?_
    refine wp_region_lit ?_
    refine sq (opk_val hA76 rfl (r_move (hA76.get rfl)) fun a79 hA79 _ => ?_)
    refine sq (opk_call hA79 rfl (r_call (args := #[Sl.v Sl.nil, .int .u64 v_7]) Try.func17 (by decide) rfl (map_arr (ml_cons rfl (ml_cons (hA79.get rfl) ml_nil))) rfl) ht77 fun a81 v87 w82 hA81 _ hn84 hz85 hK86 => ?_)
    obtain ⟨r_80, rfl, ht83⟩ := hK86
    refine sq (opk_val hA81 rfl (r_len (hA81.get rfl) Try.underlying23) fun a88 hA88 _ => ?_)
    refine sq (opk_val hA88 rfl (r_move (hA88.get rfl)) fun a89 hA89 _ => ?_)
    refine sq (opk_val hA89 rfl (r_neq (hA89.get rfl) (hA89.get rfl)) fun a90 hA90 _ => ?_)
    refine sq (opk_val hA90 rfl (r_move (hA90.get rfl)) fun a91 hA91 _ => ?_)
    refine sq (opk_gval hA91 rfl rfl (g := true) (e := (decide ((r_80.n : Int) ≠ n_8))) rfl (fun hg => r_move (hA91.get rfl)) fun a92 hA92 _ => ?_)
    refine sq (opk_gval hA92 rfl rfl (g := true) (e := (decide ((r_80.n : Int) ≠ n_8))) rfl (fun hg => r_add (cv_get (hA92.get rfl) hg) rfl) fun a93 hA93 _ => ?_)
    obtain ⟨V_98, hc99, ht97⟩ := ht83
    refine sq (opk_gcallM hA93 rfl rfl (g := true) (e := (decide ((r_80.n : Int) ≠ n_8))) rfl (fun hg => r_call (args := #[Sl.v Sl.nil, .int .u64 (IntKind.u64.wrap (v_7 + 1))]) Try.func17 (by decide) rfl (map_arr (ml_cons rfl (ml_cons (cv_get (hA93.get rfl) hg) ml_nil))) rfl) (fun hg => hc99 (of_decide_eq_false (g_f hg))) fun a95 v102 w96 hA95 _ hE100 hR101 => ?_)
    obtain ⟨r_94, hx103, hV104⟩ := cvty (α := Sl) (fun s => Sl.v s) (fun s w => V_98 s w) (fun hg => by obtain ⟨r_94, h1, h2⟩ := hR101 hg; exact ⟨r_94, h1, h2⟩)
    rw [hx103] at hA95
    have hC105 : Chg [] w82 w96 := hE100
    have ht106 := ht97 r_94 w96 hE100 (fun hp => hV104 (g_mkf rfl (decide_eq_false hp)))
    refine sq (opk_gval hA95 rfl rfl (g := true) (e := (decide ((r_80.n : Int) ≠ n_8))) rfl (fun hg => r_len (cv_get (hA95.get rfl) hg) Try.underlying23) fun a107 hA107 _ => ?_)
    refine sq (opk_gval hA107 rfl rfl (g := true) (e := (decide ((r_80.n : Int) ≠ n_8))) rfl (fun hg => r_move (hA107.get rfl)) fun a108 hA108 _ => ?_)
    obtain ⟨hS110, ht111⟩ := ht106
    refine sq (opk_gval hA108 rfl rfl (g := true) (e := (decide ((r_80.n : Int) ≠ n_8))) rfl (fun hg => r_addI (cv_get (hA108.get rfl) hg) rfl (hS110 (of_decide_eq_false (g_f hg)))) fun a109 hA109 _ => ?_)
    refine sq (opk_gval hA109 rfl rfl (g := true) (e := (decide ((r_80.n : Int) ≠ n_8))) rfl (fun hg => r_neq (cv_get (hA109.get rfl) hg) (cv_get (hA109.get rfl) hg)) fun a112 hA112 _ => ?_)
    refine sq (opk_val hA112 rfl (r_pick_or (g := (true && ((decide ((r_80.n : Int) ≠ n_8)) == false))) (hA112.get rfl) (hA112.get rfl) (fun he => g_mkf rfl he)) fun a113 hA113 _ => ?_)
    refine sq_end ?_
    have hA114 := hA113.keep [(1, .int .u64 v_7), (2, .int .i64 n_8), (35, .bool ((decide ((r_80.n : Int) ≠ n_8)) || (decide ((r_94.n : Int) ≠ (n_8 + 1)))))] ⟨rfl, rfl, rfl, trivial⟩
    refine then_normal ?_
    refine wp_cond_split (hA114.get rfl) (fun hc => ?_) (fun hc => ?_)
    · have ht115 := ht111.1 ((b_or_t hc).imp (fun h => (of_decide_eq_true h)) (fun h => (of_decide_eq_true h)))
      clear hc
      refine wp_seq ?_
      refine wp_region_lit ?_
      refine sq (opk_val hA114 rfl (r_assign rfl) fun a117 hA117 _ => ?_)
      refine sq_end ?_
      have hA118 := hA117.keep [(0, .bool false)] ⟨rfl, trivial⟩
      refine then_normal ?_
      refine wp_ret ?_
      refine then_ret ?_
      refine block_ret ?_
      refine then_ret ?_
      refine then_ret ?_
      refine block_ret ?_
      refine then_ret ?_
      exact res_all (vs := [.bool false]) rfl hA118 ⟨res_of_tmp hA118 rfl, trivial⟩ ht115
    · have ht116 := ht111.2 ⟨(of_decide_eq_false (b_or_f hc).1), (of_decide_eq_false (b_or_f hc).2)⟩
      clear hc
      refine wp_skip ?_
      refine then_normal ?_
      refine wp_region_lit ?_
      refine sq (opk_val hA114 rfl (r_move (hA114.get rfl)) fun a119 hA119 _ => ?_)
      refine sq (opk_val hA119 rfl (r_mul (hA119.get rfl) rfl) fun a120 hA120 _ => ?_)
      refine sq (opk_val hA120 rfl (r_add (hA120.get rfl) rfl) fun a121 hA121 _ => ?_)
      refine sq (opk_val hA121 rfl (r_assign (hA121.get rfl)) fun a122 hA122 _ => ?_)
      refine sq_end ?_
      have hA123 := hA122.keep [(1, .int .u64 (IntKind.u64.wrap ((IntKind.u64.wrap (v_7 * 128)) + 127))), (2, .int .i64 n_8)] ⟨rfl, rfl, trivial⟩
      refine block_normal ?_
      refine then_normal ?_
      refine wp_region_lit ?_
      refine sq (opk_val hA123 rfl (r_move (hA123.get rfl)) fun a124 hA124 _ => ?_)
      obtain ⟨hS126, ht127⟩ := ht116
      refine sq (opk_val hA124 rfl (r_addI (hA124.get rfl) rfl hS126) fun a125 hA125 _ => ?_)
      refine sq (opk_val hA125 rfl (r_assign (hA125.get rfl)) fun a128 hA128 _ => ?_)
      refine sq_end ?_
      have hA129 := hA128.keep [(1, .int .u64 (IntKind.u64.wrap ((IntKind.u64.wrap (v_7 * 128)) + 127))), (2, .int .i64 (n_8 + 1))] ⟨rfl, rfl, trivial⟩
      have hA130 := hA129.keep [(1, .int .u64 (IntKind.u64.wrap ((IntKind.u64.wrap (v_7 * 128)) + 127))), (2, .int .i64 (n_8 + 1))] ⟨rfl, rfl, trivial⟩
      exact then_normal ⟨(IntKind.u64.wrap ((IntKind.u64.wrap (v_7 * 128)) + 127), n_8 + 1, w96), ⟨hA130, rfl, ht127.1⟩, ht127.2⟩
  · have ht78 := ht72.2 (of_decide_eq_false hc)
    clear hc
    refine wp_exit ?_
    refine then_exit ?_
    refine then_exit ?_
    refine block_hit ?_
    have hA131 := hA76.keep [] trivial
    refine then_normal ?_
    refine wp_seq ?_
    refine wp_region_lit ?_
    refine sq (opk_call hA131 rfl (r_call (args := #[Sl.v Sl.nil, .int .u64 18446744073709551615]) Try.func17 (by decide) rfl (map_arr (ml_cons rfl (ml_cons rfl ml_nil))) rfl) ht78 fun a133 v139 w134 hA133 _ hn136 hz137 hK138 => ?_)
    obtain ⟨r_132, rfl, ht135⟩ := hK138
    refine sq (opk_call hA133 rfl (r_call (args := #[Sl.v r_132, .int .i64 0]) Try.func18 (by decide) rfl (map_arr (ml_cons (hA133.get rfl) (ml_cons rfl ml_nil))) rfl) ht135 fun a143 v149 w144 hA143 _ hn146 hz147 hK148 => ?_)
    obtain ⟨r_0_140, r_1_141, r_2_142, rfl, ht145⟩ := hK148
    refine sq (opk_val hA143 rfl (r_move (hA143.get rfl)) fun a150 hA150 _ => ?_)
    refine sq (opk_val hA150 rfl (r_extract (hA150.get rfl) rfl) fun a151 hA151 _ => ?_)
    refine sq (opk_val hA151 rfl (r_extract (hA151.get rfl) rfl) fun a152 hA152 _ => ?_)
    refine sq (opk_val hA152 rfl (r_extract (hA152.get rfl) rfl) fun a153 hA153 _ => ?_)
    refine sq (opk_val hA153 rfl (r_assign (hA153.get rfl)) fun a154 hA154 _ => ?_)
    refine sq (opk_val hA154 rfl (r_assign (hA154.get rfl)) fun a155 hA155 _ => ?_)
    refine sq (opk_val hA155 rfl (r_assign (hA155.get rfl)) fun a156 hA156 _ => ?_)
    refine sq_end ?_
    have hA157 := hA156.keep [(3, .int .u64 r_0_140), (4, .int .i64 r_1_141), (5, .int .i64 r_2_142)] ⟨rfl, rfl, rfl, trivial⟩
    refine then_normal ?_
    refine wp_seq ?_
    refine wp_region_lit ?_
    refine sq (opk_new (fun B => .slice (some ⟨B, 0, none⟩) 10 10) hA157 rfl (r_buildSlice (vs := #[(0, .int .u8 255), (1, .int .u8 255), (2, .int .u8 255), (3, .int .u8 255), (4, .int .u8 255), (5, .int .u8 255), (6, .int .u8 255), (7, .int .u8 255), (8, .int .u8 255), (9, .int .u8 2)]) (cs := [.int .u8 255, .int .u8 255, .int .u8 255, .int .u8 255, .int .u8 255, .int .u8 255, .int .u8 255, .int .u8 255, .int .u8 255, .int .u8 2]) (map_arr2 (ml2_cons rfl (ml2_cons rfl (ml2_cons rfl (ml2_cons rfl (ml2_cons rfl (ml2_cons rfl (ml2_cons rfl (ml2_cons rfl (ml2_cons rfl (ml2_cons rfl (ml2_nil)))))))))))) Try.underlying23 ti_5 rfl rfl (by kernel_rfl)) fun a160 w159 B_158 hE161 hN162 hB163 hA160 _ => ?_)
    have hN164 : New w144 B_158 w159 := hN162
    have hC165 : Chg [] w144 w159 := hE161
    have ht166 := ht145 w159 B_158 hN164 hC165
    have ht167 := ht166 hB163
    refine sq (opk_call hA160 rfl (r_call (args := #[Sl.v ⟨some ⟨B_158, 0, none⟩, 10, 10⟩, .int .i64 0]) Try.func18 (by decide) rfl (map_arr (ml_cons (hA160.get rfl) (ml_cons rfl ml_nil))) rfl) ht167 fun a171 v177 w172 hA171 _ hn174 hz175 hK176 => ?_)
    obtain ⟨r_0_168, r_1_169, r_2_170, rfl, ht173⟩ := hK176
    refine sq (opk_val hA171 rfl (r_move (hA171.get rfl)) fun a178 hA178 _ => ?_)
    refine sq (opk_val hA178 rfl (r_extract (hA178.get rfl) rfl) fun a179 hA179 _ => ?_)
    refine sq (opk_val hA179 rfl (r_extract (hA179.get rfl) rfl) fun a180 hA180 _ => ?_)
    refine sq (opk_val hA180 rfl (r_extract (hA180.get rfl) rfl) fun a181 hA181 _ => ?_)
    refine sq (opk_val hA181 rfl (r_assign (hA181.get rfl)) fun a182 hA182 _ => ?_)
    refine sq (opk_val hA182 rfl (r_assign (hA182.get rfl)) fun a183 hA183 _ => ?_)
    refine sq (opk_val hA183 rfl (r_assign (hA183.get rfl)) fun a184 hA184 _ => ?_)
    refine sq_end ?_
    have hA185 := hA184.keep [(3, .int .u64 r_0_140), (4, .int .i64 r_1_141), (5, .int .i64 r_2_142), (8, .int .i64 r_2_170)] ⟨rfl, rfl, rfl, rfl, trivial⟩
    refine then_normal ?_
    refine wp_seq ?_
    refine wp_region_lit ?_
    refine sq (opk_new (fun B => .slice (some ⟨B, 0, none⟩) 2 2) hA185 rfl (r_buildSlice (vs := #[(0, .int .u8 128), (1, .int .u8 0)]) (cs := [.int .u8 128, .int .u8 0]) (map_arr2 (ml2_cons rfl (ml2_cons rfl (ml2_nil)))) Try.underlying23 ti_5 rfl rfl (by kernel_rfl)) fun a188 w187 B_186 hE189 hN190 hB191 hA188 _ => ?_)
    have hN192 : New w172 B_186 w187 := hN190
    have hC193 : Chg [] w172 w187 := hE189
    have ht194 := ht173 w187 B_186 hN192 hC193
    have ht195 := ht194 hB191
    refine sq (opk_call hA188 rfl (r_call (args := #[Sl.v ⟨some ⟨B_186, 0, none⟩, 2, 2⟩, .int .i64 0]) Try.func18 (by decide) rfl (map_arr (ml_cons (hA188.get rfl) (ml_cons rfl ml_nil))) rfl) ht195 fun a199 v205 w200 hA199 _ hn202 hz203 hK204 => ?_)
    obtain ⟨r_0_196, r_1_197, r_2_198, rfl, ht201⟩ := hK204
    refine sq (opk_val hA199 rfl (r_move (hA199.get rfl)) fun a206 hA206 _ => ?_)
    refine sq (opk_val hA206 rfl (r_extract (hA206.get rfl) rfl) fun a207 hA207 _ => ?_)
    refine sq (opk_val hA207 rfl (r_extract (hA207.get rfl) rfl) fun a208 hA208 _ => ?_)
    refine sq (opk_val hA208 rfl (r_extract (hA208.get rfl) rfl) fun a209 hA209 _ => ?_)
    refine sq (opk_val hA209 rfl (r_assign (hA209.get rfl)) fun a210 hA210 _ => ?_)
    refine sq (opk_val hA210 rfl (r_assign (hA210.get rfl)) fun a211 hA211 _ => ?_)
    refine sq (opk_val hA211 rfl (r_assign (hA211.get rfl)) fun a212 hA212 _ => ?_)
    refine sq_end ?_
    have hA213 := hA212.keep [(3, .int .u64 r_0_140), (4, .int .i64 r_1_141), (5, .int .i64 r_2_142), (8, .int .i64 r_2_170), (11, .int .i64 r_2_198)] ⟨rfl, rfl, rfl, rfl, rfl, trivial⟩
    refine then_normal ?_
    refine wp_seq ?_
    refine wp_region_lit ?_
    refine sq (opk_new (fun B => .slice (some ⟨B, 0, none⟩) 1 1) hA213 rfl (r_buildSlice (vs := #[(0, .int .u8 128)]) (cs := [.int .u8 128]) (map_arr2 (ml2_cons rfl (ml2_nil))) Try.underlying23 ti_5 rfl rfl (by kernel_rfl)) fun a216 w215 B_214 hE217 hN218 hB219 hA216 _ => ?_)
    have hN220 : New w200 B_214 w215 := hN218
    have hC221 : Chg [] w200 w215 := hE217
    have ht222 := ht201 w215 B_214 hN220 hC221
    have ht223 := ht222 hB219
    refine sq (opk_call hA216 rfl (r_call (args := #[Sl.v ⟨some ⟨B_214, 0, none⟩, 1, 1⟩, .int .i64 0]) Try.func18 (by decide) rfl (map_arr (ml_cons (hA216.get rfl) (ml_cons rfl ml_nil))) rfl) ht223 fun a227 v233 w228 hA227 _ hn230 hz231 hK232 => ?_)
    obtain ⟨r_0_224, r_1_225, r_2_226, rfl, ht229⟩ := hK232
    refine sq (opk_val hA227 rfl (r_move (hA227.get rfl)) fun a234 hA234 _ => ?_)
    refine sq (opk_val hA234 rfl (r_extract (hA234.get rfl) rfl) fun a235 hA235 _ => ?_)
    refine sq (opk_val hA235 rfl (r_extract (hA235.get rfl) rfl) fun a236 hA236 _ => ?_)
    refine sq (opk_val hA236 rfl (r_extract (hA236.get rfl) rfl) fun a237 hA237 _ => ?_)
    refine sq (opk_val hA237 rfl (r_assign (hA237.get rfl)) fun a238 hA238 _ => ?_)
    refine sq (opk_val hA238 rfl (r_assign (hA238.get rfl)) fun a239 hA239 _ => ?_)
    refine sq (opk_val hA239 rfl (r_assign (hA239.get rfl)) fun a240 hA240 _ => ?_)
    refine sq_end ?_
    have hA241 := hA240.keep [(3, .int .u64 r_0_140), (4, .int .i64 r_1_141), (5, .int .i64 r_2_142), (8, .int .i64 r_2_170), (11, .int .i64 r_2_198), (14, .int .i64 r_2_226)] ⟨rfl, rfl, rfl, rfl, rfl, rfl, trivial⟩
    refine then_normal ?_
    refine wp_seq ?_
    refine wp_region_lit ?_
    refine sq (opk_call hA241 rfl (r_call (args := #[Sl.v Sl.nil, .int .i64 1]) Try.func18 (by decide) rfl (map_arr (ml_cons rfl (ml_cons rfl ml_nil))) rfl) ht229 fun a245 v251 w246 hA245 _ hn248 hz249 hK250 => ?_)
    obtain ⟨r_0_242, r_1_243, r_2_244, rfl, ht247⟩ := hK250
    refine sq (opk_val hA245 rfl (r_move (hA245.get rfl)) fun a252 hA252 _ => ?_)
    refine sq (opk_val hA252 rfl (r_extract (hA252.get rfl) rfl) fun a253 hA253 _ => ?_)
    refine sq (opk_val hA253 rfl (r_extract (hA253.get rfl) rfl) fun a254 hA254 _ => ?_)
    refine sq (opk_val hA254 rfl (r_extract (hA254.get rfl) rfl) fun a255 hA255 _ => ?_)
    refine sq (opk_val hA255 rfl (r_assign (hA255.get rfl)) fun a256 hA256 _ => ?_)
    refine sq (opk_val hA256 rfl (r_assign (hA256.get rfl)) fun a257 hA257 _ => ?_)
    refine sq (opk_val hA257 rfl (r_assign (hA257.get rfl)) fun a258 hA258 _ => ?_)
    refine sq_end ?_
    have hA259 := hA258.keep [(3, .int .u64 r_0_140), (4, .int .i64 r_1_141), (5, .int .i64 r_2_142), (8, .int .i64 r_2_170), (11, .int .i64 r_2_198), (14, .int .i64 r_2_226), (17, .int .i64 r_2_244)] ⟨rfl, rfl, rfl, rfl, rfl, rfl, rfl, trivial⟩
    refine then_normal ?_
    refine wp_seq ?_
    refine wp_region_lit ?_
    refine sq (opk_val hA259 rfl (r_move (hA259.get rfl)) fun a260 hA260 _ => ?_)
    refine sq (opk_val hA260 rfl (r_eql (hA260.get rfl) rfl) fun a261 hA261 _ => ?_)
    refine sq (opk_val hA261 rfl (r_move (hA261.get rfl)) fun a262 hA262 _ => ?_)
    refine sq (opk_gval hA262 rfl rfl (g := true) (e := (decide (r_0_140 = 18446744073709551615))) rfl (fun hg => r_move (hA262.get rfl)) fun a263 hA263 _ => ?_)
    refine sq (opk_gval hA263 rfl rfl (g := true) (e := (decide (r_0_140 = 18446744073709551615))) rfl (fun hg => r_eql (cv_get (hA263.get rfl) hg) rfl) fun a264 hA264 _ => ?_)
    refine sq (opk_val hA264 rfl (r_pick_and (g := (true && ((decide (r_0_140 = 18446744073709551615)) == true))) (hA264.get rfl) (hA264.get rfl) (fun he => g_mkt rfl he)) fun a265 hA265 _ => ?_)
    refine sq (opk_val hA265 rfl (r_move (hA265.get rfl)) fun a266 hA266 _ => ?_)
    refine sq (opk_gval hA266 rfl rfl (g := true) (e := ((decide (r_0_140 = 18446744073709551615)) && (decide (r_1_141 = 10)))) rfl (fun hg => r_move (hA266.get rfl)) fun a267 hA267 _ => ?_)
    refine sq (opk_gval hA267 rfl rfl (g := true) (e := ((decide (r_0_140 = 18446744073709551615)) && (decide (r_1_141 = 10)))) rfl (fun hg => r_eql (cv_get (hA267.get rfl) hg) rfl) fun a268 hA268 _ => ?_)
    refine sq (opk_val hA268 rfl (r_pick_and (g := (true && (((decide (r_0_140 = 18446744073709551615)) && (decide (r_1_141 = 10))) == true))) (hA268.get rfl) (hA268.get rfl) (fun he => g_mkt rfl he)) fun a269 hA269 _ => ?_)
    refine sq (opk_val hA269 rfl (r_move (hA269.get rfl)) fun a270 hA270 _ => ?_)
    refine sq (opk_gval hA270 rfl rfl (g := true) (e := (((decide (r_0_140 = 18446744073709551615)) && (decide (r_1_141 = 10))) && (decide (r_2_142 = 0)))) rfl (fun hg => r_move (hA270.get rfl)) fun a271 hA271 _ => ?_)
    refine sq (opk_gval hA271 rfl rfl (g := true) (e := (((decide (r_0_140 = 18446744073709551615)) && (decide (r_1_141 = 10))) && (decide (r_2_142 = 0)))) rfl (fun hg => r_eql (cv_get (hA271.get rfl) hg) rfl) fun a272 hA272 _ => ?_)
    refine sq (opk_val hA272 rfl (r_pick_and (g := (true && ((((decide (r_0_140 = 18446744073709551615)) && (decide (r_1_141 = 10))) && (decide (r_2_142 = 0))) == true))) (hA272.get rfl) (hA272.get rfl) (fun he => g_mkt rfl he)) fun a273 hA273 _ => ?_)
    refine sq (opk_val hA273 rfl (r_move (hA273.get rfl)) fun a274 hA274 _ => ?_)
    refine sq (opk_gval hA274 rfl rfl (g := true) (e := ((((decide (r_0_140 = 18446744073709551615)) && (decide (r_1_141 = 10))) && (decide (r_2_142 = 0))) && (decide (r_2_170 = 10)))) rfl (fun hg => r_move (hA274.get rfl)) fun a275 hA275 _ => ?_)
    refine sq (opk_gval hA275 rfl rfl (g := true) (e := ((((decide (r_0_140 = 18446744073709551615)) && (decide (r_1_141 = 10))) && (decide (r_2_142 = 0))) && (decide (r_2_170 = 10)))) rfl (fun hg => r_eql (cv_get (hA275.get rfl) hg) rfl) fun a276 hA276 _ => ?_)
    refine sq (opk_val hA276 rfl (r_pick_and (g := (true && (((((decide (r_0_140 = 18446744073709551615)) && (decide (r_1_141 = 10))) && (decide (r_2_142 = 0))) && (decide (r_2_170 = 10))) == true))) (hA276.get rfl) (hA276.get rfl) (fun he => g_mkt rfl he)) fun a277 hA277 _ => ?_)
    refine sq (opk_val hA277 rfl (r_move (hA277.get rfl)) fun a278 hA278 _ => ?_)
    refine sq (opk_gval hA278 rfl rfl (g := true) (e := (((((decide (r_0_140 = 18446744073709551615)) && (decide (r_1_141 = 10))) && (decide (r_2_142 = 0))) && (decide (r_2_170 = 10))) && (decide (r_2_198 = 10)))) rfl (fun hg => r_move (hA278.get rfl)) fun a279 hA279 _ => ?_)
    refine sq (opk_gval hA279 rfl rfl (g := true) (e := (((((decide (r_0_140 = 18446744073709551615)) && (decide (r_1_141 = 10))) && (decide (r_2_142 = 0))) && (decide (r_2_170 = 10))) && (decide (r_2_198 = 10)))) rfl (fun hg => r_eql (cv_get (hA279.get rfl) hg) rfl) fun a280 hA280 _ => ?_)
    refine sq (opk_val hA280 rfl (r_pick_and (g := (true && ((((((decide (r_0_140 = 18446744073709551615)) && (decide (r_1_141 = 10))) && (decide (r_2_142 = 0))) && (decide (r_2_170 = 10))) && (decide (r_2_198 = 10))) == true))) (hA280.get rfl) (hA280.get rfl) (fun he => g_mkt rfl he)) fun a281 hA281 _ => ?_)
    refine sq (opk_val hA281 rfl (r_move (hA281.get rfl)) fun a282 hA282 _ => ?_)
    refine sq (opk_gval hA282 rfl rfl (g := true) (e := ((((((decide (r_0_140 = 18446744073709551615)) && (decide (r_1_141 = 10))) && (decide (r_2_142 = 0))) && (decide (r_2_170 = 10))) && (decide (r_2_198 = 10))) && (decide (r_2_226 = 9)))) rfl (fun hg => r_move (hA282.get rfl)) fun a283 hA283 _ => ?_)
    refine sq (opk_gval hA283 rfl rfl (g := true) (e := ((((((decide (r_0_140 = 18446744073709551615)) && (decide (r_1_141 = 10))) && (decide (r_2_142 = 0))) && (decide (r_2_170 = 10))) && (decide (r_2_198 = 10))) && (decide (r_2_226 = 9)))) rfl (fun hg => r_eql (cv_get (hA283.get rfl) hg) rfl) fun a284 hA284 _ => ?_)
    refine sq (opk_val hA284 rfl (r_pick_and (g := (true && (((((((decide (r_0_140 = 18446744073709551615)) && (decide (r_1_141 = 10))) && (decide (r_2_142 = 0))) && (decide (r_2_170 = 10))) && (decide (r_2_198 = 10))) && (decide (r_2_226 = 9))) == true))) (hA284.get rfl) (hA284.get rfl) (fun he => g_mkt rfl he)) fun a285 hA285 _ => ?_)
    refine sq (opk_val hA285 rfl (r_move (hA285.get rfl)) fun a286 hA286 _ => ?_)
    obtain ⟨r_287, hc291, ht290⟩ := ht247
    refine sq (opk_gcall hA286 rfl rfl (g := true) (e := (((((((decide (r_0_140 = 18446744073709551615)) && (decide (r_1_141 = 10))) && (decide (r_2_142 = 0))) && (decide (r_2_170 = 10))) && (decide (r_2_198 = 10))) && (decide (r_2_226 = 9))) && (decide (r_2_244 = 1)))) rfl (fun hg => r_call (args := #[]) Try.func19 (by decide) rfl (map_arr ml_nil) rfl) (fun hg => hc291 ⟨⟨⟨⟨⟨⟨(of_decide_eq_true (b_and_t (b_and_t (b_and_t (b_and_t (b_and_t (b_and_t (g_t hg)).1).1).1).1).1).1), (of_decide_eq_true (b_and_t (b_and_t (b_and_t (b_and_t (b_and_t (b_and_t (g_t hg)).1).1).1).1).1).2)⟩, (of_decide_eq_true (b_and_t (b_and_t (b_and_t (b_and_t (b_and_t (g_t hg)).1).1).1).1).2)⟩, (of_decide_eq_true (b_and_t (b_and_t (b_and_t (b_and_t (g_t hg)).1).1).1).2)⟩, (of_decide_eq_true (b_and_t (b_and_t (b_and_t (g_t hg)).1).1).2)⟩, (of_decide_eq_true (b_and_t (b_and_t (g_t hg)).1).2)⟩, (of_decide_eq_true (b_and_t (g_t hg)).2)⟩) fun a288 w289 hA288 _ hE292 => ?_)
    have hC293 : Chg [] w246 w289 := hE292
    have ht294 := ht290 w289 hE292
    refine sq (opk_val hA288 rfl (r_pick_and (g := (true && ((((((((decide (r_0_140 = 18446744073709551615)) && (decide (r_1_141 = 10))) && (decide (r_2_142 = 0))) && (decide (r_2_170 = 10))) && (decide (r_2_198 = 10))) && (decide (r_2_226 = 9))) && (decide (r_2_244 = 1))) == true))) (hA288.get rfl) (hA288.get rfl) (fun he => g_mkt rfl he)) fun a295 hA295 _ => ?_)
    refine sq (opk_val hA295 rfl (r_assign (hA295.get rfl)) fun a296 hA296 _ => ?_)
    refine sq_end ?_
    have hA297 := hA296.keep [(0, .bool ((((((((decide (r_0_140 = 18446744073709551615)) && (decide (r_1_141 = 10))) && (decide (r_2_142 = 0))) && (decide (r_2_170 = 10))) && (decide (r_2_198 = 10))) && (decide (r_2_226 = 9))) && (decide (r_2_244 = 1))) && r_287))] ⟨rfl, trivial⟩
    refine then_normal ?_
    refine wp_ret ?_
    exact res_all (vs := [.bool ((((((((decide (r_0_140 = 18446744073709551615)) && (decide (r_1_141 = 10))) && (decide (r_2_142 = 0))) && (decide (r_2_170 = 10))) && (decide (r_2_198 = 10))) && (decide (r_2_226 = 9))) && (decide (r_2_244 = 1))) && r_287)]) rfl hA297 ⟨res_of_tmp hA297 rfl, trivial⟩ ht294

end Go.Proofs.Ytanhcenminbkmaa
