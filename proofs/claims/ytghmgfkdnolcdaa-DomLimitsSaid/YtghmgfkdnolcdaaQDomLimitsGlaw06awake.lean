/-
  PRINTED BY PROGRAM: for each function its condition (vc), and that this suffices (ok).
-/
import Derived.Test.YtghmgfkdnolcdaaQDomLimitsGT
namespace Go.Proofs.Ytghmgfkdnolcdaa
open Go.RowKit
set_option linter.unusedVariables false

/-- The condition of topiary/topiarylaw06.awake. -/
def law06_awake.vc  (R : Value → World → Prop) (w : World) : Prop :=
CallK Try.prog 13 #[.agg #[.int .i64 1, .string (Bs ([] : Str)), .string (Bs ([] : Str)), Sl.v Sl.nil, Sl.v Sl.nil]] w [] (fun v w7 => ∃ (r_0_4 : Option Addr) (r_1_5 : Int), v = .tuple #[.pointer r_0_4, .int .i64 r_1_5] ∧
(((r_1_5 ≠ 0) ∨ ((Option.isNone r_0_4) = true)) →
R (.bool false) w7) ∧
(((¬ (r_1_5 ≠ 0)) ∧ ((Option.isNone r_0_4) = false)) →
CallK Try.prog 14 #[.pointer r_0_4, .int .i64 7, .int .i64 0, .int .i64 0, .agg #[.int .i64 3, .string (Bs ([] : Str)), .string (Bs ([97] : Str)), Sl.v Sl.nil, Sl.v Sl.nil]] w7 [] (fun v w34 => ∃ (r_32 : Int), v = .int .i64 r_32 ∧
CallK Try.prog 21 #[.pointer r_0_4, .int .i64 0] w34 [] (fun v w45 => ∃ (r_43 : Sl), v = Sl.v r_43 ∧
∃ p_62 : Addr, ((((r_32 = 0) ∧ ((r_43.n : Int) = 1))) → ((0 : Int) ≤ 0 ∧ 0 < (r_43.n : Int)) ∧  r_43.a = some p_62) ∧
∃ (x_68 : Int), ((((r_32 = 0) ∧ ((r_43.n : Int) = 1))) → w45.cell? (p_62.add (0 * 1)) = some (.int .i64 x_68)) ∧
∃ (r_75 : Int), (((((r_32 = 0) ∧ ((r_43.n : Int) = 1)) ∧ (x_68 = 7))) → Calls Try.prog 33 #[.pointer r_0_4, .int .i64 7] w45 (Ret fun v w' => Ext w45 w' ∧ v = .int .i64 r_75)) ∧
(∀ w77 : World, Ext w45 w77 →
R (.bool ((((decide (r_32 = 0)) && (decide ((r_43.n : Int) = 1))) && (decide (x_68 = 7))) && (decide (r_75 = 0)))) w77)))))
set_option maxHeartbeats 1000000 in
set_option maxRecDepth 10000 in
theorem law06_awake.ok  {R : Value → World → Prop} {w : World} (ht0 : law06_awake.vc  R w) : Calls Try.prog 19 #[] w (Ret R) := by
  refine enter [] Try.func19 rfl Try.ntmps19 rfl ?_
  intro a0 hA0
  unfold law06_awake.vc at ht0
  refine wp_seq ?_
  refine wp_region_lit ?_
  refine sq (opk_val hA0 rfl (r_assign rfl) fun a1 hA1 _ => ?_)
  refine sq_end ?_
  have hA2 := hA1.keep [] trivial
  refine then_normal ?_
  refine wp_seq ?_
  refine wp_region_lit ?_
  refine sq (opk_val hA2 rfl (r_build (vs := #[(0, .int .i64 1)]) (cells := #[.int .i64 1, .string (Bs ([] : Str)), .string (Bs ([] : Str)), Sl.v Sl.nil, Sl.v Sl.nil]) (map_arr2 (ml2_cons rfl (ml2_nil))) ti_29 Try.underlying29 pl_29 (by kernel_rfl)) fun a3 hA3 _ => ?_)
  refine sq (opk_call hA3 rfl (r_call (args := #[.agg #[.int .i64 1, .string (Bs ([] : Str)), .string (Bs ([] : Str)), Sl.v Sl.nil, Sl.v Sl.nil]]) Try.func13 (by decide) rfl (map_arr (ml_cons (hA3.get rfl) ml_nil)) rfl) ht0 fun a6 v12 w7 hA6 _ hn9 hz10 hK11 => ?_)
  obtain ⟨r_0_4, r_1_5, rfl, ht8⟩ := hK11
  refine sq (opk_val hA6 rfl (r_move (hA6.get rfl)) fun a13 hA13 _ => ?_)
  refine sq (opk_val hA13 rfl (r_extract (hA13.get rfl) rfl) fun a14 hA14 _ => ?_)
  refine sq (opk_val hA14 rfl (r_extract (hA14.get rfl) rfl) fun a15 hA15 _ => ?_)
  refine sq (opk_val hA15 rfl (r_assign (hA15.get rfl)) fun a16 hA16 _ => ?_)
  refine sq (opk_val hA16 rfl (r_assign (hA16.get rfl)) fun a17 hA17 _ => ?_)
  refine sq_end ?_
  have hA18 := hA17.keep [(1, .pointer r_0_4), (2, .int .i64 r_1_5)] ⟨rfl, rfl, trivial⟩
  refine then_normal ?_
  refine wp_seq ?_
  refine wp_seq ?_
  refine wp_region_lit ?_
  refine sq (opk_val hA18 rfl (r_move (hA18.get rfl)) fun a19 hA19 _ => ?_)
  refine sq (opk_val hA19 rfl (r_neq (hA19.get rfl) rfl) fun a20 hA20 _ => ?_)
  refine sq (opk_val hA20 rfl (r_move (hA20.get rfl)) fun a21 hA21 _ => ?_)
  refine sq (opk_gval hA21 rfl rfl (g := true) (e := (decide (r_1_5 ≠ 0))) rfl (fun hg => r_move (hA21.get rfl)) fun a22 hA22 _ => ?_)
  refine sq (opk_gval hA22 rfl rfl (g := true) (e := (decide (r_1_5 ≠ 0))) rfl (fun hg => r_pnil (o := r_0_4) (cv_get (hA22.get rfl) hg) rfl Try.underlying22) fun a23 hA23 _ => ?_)
  refine sq (opk_val hA23 rfl (r_pick_or (g := (true && ((decide (r_1_5 ≠ 0)) == false))) (hA23.get rfl) (hA23.get rfl) (fun he => g_mkf rfl he)) fun a24 hA24 _ => ?_)
  refine sq_end ?_
  have hA25 := hA24.keep [(1, .pointer r_0_4), (15, .bool ((decide (r_1_5 ≠ 0)) || (Option.isNone r_0_4)))] ⟨rfl, rfl, trivial⟩
  refine then_normal ?_
  refine wp_cond_split (hA25.get rfl) (fun hc => ?_) (fun hc => ?_)
  · have ht26 := ht8.1 ((b_or_t hc).imp (fun h => (of_decide_eq_true h)) (fun h => h))
    clear hc
    refine wp_seq ?_
    refine wp_region_lit ?_
    refine sq (opk_val hA25 rfl (r_assign rfl) fun a28 hA28 _ => ?_)
    refine sq_end ?_
    have hA29 := hA28.keep [(0, .bool false)] ⟨rfl, trivial⟩
    refine then_normal ?_
    refine wp_ret ?_
    refine then_ret ?_
    exact res_all (vs := [.bool false]) rfl hA29 ⟨res_of_tmp hA29 rfl, trivial⟩ ht26
  · have ht27 := ht8.2 ⟨(of_decide_eq_false (b_or_f hc).1), (b_or_f hc).2⟩
    clear hc
    refine wp_skip ?_
    refine then_normal ?_
    refine wp_seq ?_
    refine wp_region_lit ?_
    refine sq (opk_val hA25 rfl (r_move (hA25.get rfl)) fun a30 hA30 _ => ?_)
    refine sq (opk_val hA30 rfl (r_build (vs := #[(0, .int .i64 3), (2, .string (Bs ([97] : Str)))]) (cells := #[.int .i64 3, .string (Bs ([] : Str)), .string (Bs ([97] : Str)), Sl.v Sl.nil, Sl.v Sl.nil]) (map_arr2 (ml2_cons rfl (ml2_cons rfl (ml2_nil)))) ti_29 Try.underlying29 pl_29 (by kernel_rfl)) fun a31 hA31 _ => ?_)
    refine sq (opk_call hA31 rfl (r_call (args := #[.pointer r_0_4, .int .i64 7, .int .i64 0, .int .i64 0, .agg #[.int .i64 3, .string (Bs ([] : Str)), .string (Bs ([97] : Str)), Sl.v Sl.nil, Sl.v Sl.nil]]) Try.func14 (by decide) rfl (map_arr (ml_cons (hA31.get rfl) (ml_cons rfl (ml_cons rfl (ml_cons rfl (ml_cons (hA31.get rfl) ml_nil)))))) rfl) ht27 fun a33 v39 w34 hA33 _ hn36 hz37 hK38 => ?_)
    obtain ⟨r_32, rfl, ht35⟩ := hK38
    refine sq (opk_val hA33 rfl (r_assign (hA33.get rfl)) fun a40 hA40 _ => ?_)
    refine sq_end ?_
    have hA41 := hA40.keep [(1, .pointer r_0_4), (3, .int .i64 r_32)] ⟨rfl, rfl, trivial⟩
    refine then_normal ?_
    refine wp_seq ?_
    refine wp_region_lit ?_
    refine sq (opk_val hA41 rfl (r_move (hA41.get rfl)) fun a42 hA42 _ => ?_)
    refine sq (opk_call hA42 rfl (r_call (args := #[.pointer r_0_4, .int .i64 0]) Try.func21 (by decide) rfl (map_arr (ml_cons (hA42.get rfl) (ml_cons rfl ml_nil))) rfl) ht35 fun a44 v50 w45 hA44 _ hn47 hz48 hK49 => ?_)
    obtain ⟨r_43, rfl, ht46⟩ := hK49
    refine sq (opk_val hA44 rfl (r_assign (hA44.get rfl)) fun a51 hA51 _ => ?_)
    refine sq_end ?_
    have hA52 := hA51.keep [(1, .pointer r_0_4), (3, .int .i64 r_32), (4, Sl.v r_43)] ⟨rfl, rfl, rfl, trivial⟩
    refine then_normal ?_
    refine wp_seq ?_
    refine wp_region_lit ?_
    refine sq (opk_val hA52 rfl (r_move (hA52.get rfl)) fun a53 hA53 _ => ?_)
    refine sq (opk_val hA53 rfl (r_eql (hA53.get rfl) rfl) fun a54 hA54 _ => ?_)
    refine sq (opk_val hA54 rfl (r_move (hA54.get rfl)) fun a55 hA55 _ => ?_)
    refine sq (opk_gval hA55 rfl rfl (g := true) (e := (decide (r_32 = 0))) rfl (fun hg => r_move (hA55.get rfl)) fun a56 hA56 _ => ?_)
    refine sq (opk_gval hA56 rfl rfl (g := true) (e := (decide (r_32 = 0))) rfl (fun hg => r_len (cv_get (hA56.get rfl) hg) Try.underlying36) fun a57 hA57 _ => ?_)
    refine sq (opk_gval hA57 rfl rfl (g := true) (e := (decide (r_32 = 0))) rfl (fun hg => r_eql (cv_get (hA57.get rfl) hg) rfl) fun a58 hA58 _ => ?_)
    refine sq (opk_val hA58 rfl (r_pick_and (g := (true && ((decide (r_32 = 0)) == true))) (hA58.get rfl) (hA58.get rfl) (fun he => g_mkt rfl he)) fun a59 hA59 _ => ?_)
    refine sq (opk_val hA59 rfl (r_move (hA59.get rfl)) fun a60 hA60 _ => ?_)
    refine sq (opk_gval hA60 rfl rfl (g := true) (e := ((decide (r_32 = 0)) && (decide ((r_43.n : Int) = 1)))) rfl (fun hg => r_move (hA60.get rfl)) fun a61 hA61 _ => ?_)
    obtain ⟨p_62, hp64, ht65⟩ := ht46
    refine sq (opk_gval hA61 rfl rfl (g := true) (e := ((decide (r_32 = 0)) && (decide ((r_43.n : Int) = 1)))) rfl (fun hg => r_indexAddr (cv_get (hA61.get rfl) hg) rfl Try.underlying36 ti_3 (hp64 ⟨(of_decide_eq_true (b_and_t (g_t hg)).1), (of_decide_eq_true (b_and_t (g_t hg)).2)⟩).1 (hp64 ⟨(of_decide_eq_true (b_and_t (g_t hg)).1), (of_decide_eq_true (b_and_t (g_t hg)).2)⟩).2) fun a66 hA66 _ => ?_)
    obtain ⟨x_68, hx69, ht70⟩ := ht65
    refine sq (opk_gval hA66 rfl rfl (g := true) (e := ((decide (r_32 = 0)) && (decide ((r_43.n : Int) = 1)))) rfl (fun hg => r_load1 Try.underlying3 rfl (cv_get (hA66.get rfl) hg) (hx69 ⟨(of_decide_eq_true (b_and_t (g_t hg)).1), (of_decide_eq_true (b_and_t (g_t hg)).2)⟩)) fun a67 hA67 _ => ?_)
    refine sq (opk_gval hA67 rfl rfl (g := true) (e := ((decide (r_32 = 0)) && (decide ((r_43.n : Int) = 1)))) rfl (fun hg => r_eql (cv_get (hA67.get rfl) hg) rfl) fun a71 hA71 _ => ?_)
    refine sq (opk_val hA71 rfl (r_pick_and (g := (true && (((decide (r_32 = 0)) && (decide ((r_43.n : Int) = 1))) == true))) (hA71.get rfl) (hA71.get rfl) (fun he => g_mkt rfl he)) fun a72 hA72 _ => ?_)
    refine sq (opk_val hA72 rfl (r_move (hA72.get rfl)) fun a73 hA73 _ => ?_)
    refine sq (opk_gval hA73 rfl rfl (g := true) (e := (((decide (r_32 = 0)) && (decide ((r_43.n : Int) = 1))) && (decide (x_68 = 7)))) rfl (fun hg => r_move (hA73.get rfl)) fun a74 hA74 _ => ?_)
    obtain ⟨r_75, hc79, ht78⟩ := ht70
    refine sq (opk_gcall hA74 rfl rfl (g := true) (e := (((decide (r_32 = 0)) && (decide ((r_43.n : Int) = 1))) && (decide (x_68 = 7)))) rfl (fun hg => r_call (args := #[.pointer r_0_4, .int .i64 7]) Try.func33 (by decide) rfl (map_arr (ml_cons (cv_get (hA74.get rfl) hg) (ml_cons rfl ml_nil))) rfl) (fun hg => hc79 ⟨⟨(of_decide_eq_true (b_and_t (b_and_t (g_t hg)).1).1), (of_decide_eq_true (b_and_t (b_and_t (g_t hg)).1).2)⟩, (of_decide_eq_true (b_and_t (g_t hg)).2)⟩) fun a76 w77 hA76 _ hE80 => ?_)
    have hC81 : Chg [] w45 w77 := hE80
    have ht82 := ht78 w77 hE80
    refine sq (opk_gval hA76 rfl rfl (g := true) (e := (((decide (r_32 = 0)) && (decide ((r_43.n : Int) = 1))) && (decide (x_68 = 7)))) rfl (fun hg => r_eql (cv_get (hA76.get rfl) hg) rfl) fun a83 hA83 _ => ?_)
    refine sq (opk_val hA83 rfl (r_pick_and (g := (true && ((((decide (r_32 = 0)) && (decide ((r_43.n : Int) = 1))) && (decide (x_68 = 7))) == true))) (hA83.get rfl) (hA83.get rfl) (fun he => g_mkt rfl he)) fun a84 hA84 _ => ?_)
    refine sq (opk_val hA84 rfl (r_assign (hA84.get rfl)) fun a85 hA85 _ => ?_)
    refine sq_end ?_
    have hA86 := hA85.keep [(0, .bool ((((decide (r_32 = 0)) && (decide ((r_43.n : Int) = 1))) && (decide (x_68 = 7))) && (decide (r_75 = 0))))] ⟨rfl, trivial⟩
    refine then_normal ?_
    refine wp_ret ?_
    exact res_all (vs := [.bool ((((decide (r_32 = 0)) && (decide ((r_43.n : Int) = 1))) && (decide (x_68 = 7))) && (decide (r_75 = 0)))]) rfl hA86 ⟨res_of_tmp hA86 rfl, trivial⟩ ht82

end Go.Proofs.Ytghmgfkdnolcdaa
