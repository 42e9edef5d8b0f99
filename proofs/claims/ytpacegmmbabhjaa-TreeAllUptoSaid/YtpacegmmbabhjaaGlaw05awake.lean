/-
  PRINTED BY PROGRAM: for each function its condition (vc), and that this suffices (ok).
-/
import Derived.Test.YtpacegmmbabhjaaGT
namespace Go.Proofs.Ytpacegmmbabhjaa
open Go.RowKit
set_option linter.unusedVariables false

/-- The condition of topiary/topiarylaw05.awake. -/
def law05_awake.vc  (R : Value → World → Prop) (w : World) : Prop :=
∀ (w24 : World) (B_4 : Nat) (B_13 : Nat), New w B_4 w24 → New w B_13 w24 → B_4 ≠ B_13 → Chg [] w w24 →
∀ (_ : Box w24 B_4 26 [.int .i64 3, .string (Bs ([] : Str)), .string (Bs ([97] : Str)), Sl.v Sl.nil, Sl.v Sl.nil]),
CallK Try.prog 12 #[.agg #[.int .i64 1, .string (Bs ([] : Str)), .string (Bs ([] : Str)), Sl.v Sl.nil, Sl.v (Sl.mk (some ⟨B_4, 0, none⟩) 1 1)]] w24 [B_13] (fun v w39 => ∃ (r_37 : Bool), v = .bool r_37 ∧
∃ (r_48 : Int), (((r_37 = true)) → Calls Try.prog 21 #[.agg #[.int .i64 1, .string (Bs ([] : Str)), .string (Bs ([] : Str)), Sl.v Sl.nil, Sl.v (Sl.mk (some ⟨B_4, 0, none⟩) 1 1)]] w39 (Ret fun v w' => Ext w39 w' ∧ v = .int .i64 r_48)) ∧
(∀ w50 : World, Ext w39 w50 →
∃ (r_61 : Int), ((((r_37 = true) ∧ (r_48 = 2))) → Calls Try.prog 18 #[.agg #[.int .i64 1, .string (Bs ([] : Str)), .string (Bs ([] : Str)), Sl.v Sl.nil, Sl.v (Sl.mk (some ⟨B_4, 0, none⟩) 1 1)]] w50 (Ret fun v w' => Ext w50 w' ∧ v = .int .i64 r_61)) ∧
(∀ w63 : World, Ext w50 w63 →
∃ p_75 : Addr, (((((r_37 = true) ∧ (r_48 = 2)) ∧ (r_61 = 2))) → ((0 : Int) ≤ 0 ∧ 0 < ((Sl.mk (some ⟨B_4, 0, none⟩) 1 1).n : Int)) ∧  (Sl.mk (some ⟨B_4, 0, none⟩) 1 1).a = some p_75) ∧
∃ (x_81_Kind : Int) (x_81_Name : Str) (x_81_Text : Str) (x_81_Attrs : Sl) (x_81_Kids : Sl), (((((r_37 = true) ∧ (r_48 = 2)) ∧ (r_61 = 2))) → Cells w63 (p_75.add (0 * 5)) [.int .i64 x_81_Kind, .string (Bs x_81_Name), .string (Bs x_81_Text), Sl.v x_81_Attrs, Sl.v x_81_Kids]) ∧
∃ (r_84 : Bool), (((((r_37 = true) ∧ (r_48 = 2)) ∧ (r_61 = 2))) → Calls Try.prog 12 #[.agg #[.int .i64 x_81_Kind, .string (Bs x_81_Name), .string (Bs x_81_Text), Sl.v x_81_Attrs, Sl.v x_81_Kids]] w63 (Ret fun v w' => Ext w63 w' ∧ v = .bool r_84)) ∧
(∀ w86 : World, Ext w63 w86 →
R (.bool (((r_37 && (decide (r_48 = 2))) && (decide (r_61 = 2))) && (!r_84))) w86))))
set_option maxHeartbeats 1000000 in
set_option maxRecDepth 10000 in
theorem law05_awake.ok  {R : Value → World → Prop} {w : World} (ht0 : law05_awake.vc  R w) : Calls Try.prog 15 #[] w (Ret R) := by
  refine enter [] Try.func15 rfl Try.ntmps15 rfl ?_
  intro a0 hA0
  unfold law05_awake.vc at ht0
  refine wp_seq ?_
  refine wp_region_lit ?_
  refine sq (opk_val hA0 rfl (r_assign rfl) fun a1 hA1 _ => ?_)
  refine sq_end ?_
  have hA2 := hA1.keep [] trivial
  refine then_normal ?_
  refine wp_seq ?_
  refine wp_region_lit ?_
  refine sq (opk_val hA2 rfl (r_build (vs := #[(0, .int .i64 3), (2, .string (Bs ([97] : Str)))]) (cells := #[.int .i64 3, .string (Bs ([] : Str)), .string (Bs ([97] : Str)), Sl.v Sl.nil, Sl.v Sl.nil]) (map_arr2 (ml2_cons rfl (ml2_cons rfl (ml2_nil)))) ti_26 Try.underlying26 pl_26 (by kernel_rfl)) fun a3 hA3 _ => ?_)
  refine sq (opk_new (fun B => .slice (some ⟨B, 0, none⟩) 1 1) hA3 rfl (r_buildSlice (vs := #[(0, .agg #[.int .i64 3, .string (Bs ([] : Str)), .string (Bs ([97] : Str)), Sl.v Sl.nil, Sl.v Sl.nil])]) (cs := [.int .i64 3, .string (Bs ([] : Str)), .string (Bs ([97] : Str)), Sl.v Sl.nil, Sl.v Sl.nil]) (map_arr2 (ml2_cons (hA3.get rfl) (ml2_nil))) Try.underlying24 ti_26 rfl rfl (by kernel_rfl)) fun a6 w5 B_4 hE7 hN8 hB9 hA6 _ => ?_)
  have hN10 : New w B_4 w5 := hN8
  have hC11 : Chg [] w w5 := hE7
  refine sq (opk_val hA6 rfl (r_build (vs := #[(0, .int .i64 1), (4, Sl.v (Sl.mk (some ⟨B_4, 0, none⟩) 1 1))]) (cells := #[.int .i64 1, .string (Bs ([] : Str)), .string (Bs ([] : Str)), Sl.v Sl.nil, Sl.v (Sl.mk (some ⟨B_4, 0, none⟩) 1 1)]) (map_arr2 (ml2_cons rfl (ml2_cons (hA6.get rfl) (ml2_nil)))) ti_26 Try.underlying26 pl_26 (by kernel_rfl)) fun a12 hA12 _ => ?_)
  refine sq (opk_new (fun B => .pointer (some ⟨B, 0, none⟩)) hA12 rfl (r_alloc (cs := [.int .i64 0, .string (Bs ([] : Str)), .string (Bs ([] : Str)), Sl.v Sl.nil, Sl.v Sl.nil]) ti_26 rfl) fun a15 w14 B_13 hE16 hN17 hB18 hA15 _ => ?_)
  have hne19 : B_4 ≠ B_13 := Nat.ne_of_lt (Nat.lt_of_lt_of_le hB9.lt hN17.ge)
  have hN20 := New.of hC11 hN17
  have hB21 := hB9.ext hE16
  have hC22 := hC11.more hE16
  have hN23 := hN10.up hE16.size
  refine sq (opk_store hA15 hB18 (r_store (vs := [.int .i64 1, .string (Bs ([] : Str)), .string (Bs ([] : Str)), Sl.v Sl.nil, Sl.v (Sl.mk (some ⟨B_4, 0, none⟩) 1 1)]) (hA15.get rfl) (hA15.get rfl) rfl ti_26 hB18 rfl (ones_all [.int .i64 1, .string (Bs ([] : Str)), .string (Bs ([] : Str)), Sl.v Sl.nil, Sl.v (Sl.mk (some ⟨B_4, 0, none⟩) 1 1)] rfl)) fun a25 w24 hS26 hB27 hA25 => ?_)
  have hB28 : Box w24 B_13 26 [.int .i64 1, .string (Bs ([] : Str)), .string (Bs ([] : Str)), Sl.v Sl.nil, Sl.v (Sl.mk (some ⟨B_4, 0, none⟩) 1 1)] := hB27
  have hB29 := hB21.keep hS26 (by simpa using hne19)
  have hC30 := hC22.storeNew hN20 hS26
  have hN31 := hN23.up hS26.size
  have hN32 := hN20.up hS26.size
  refine sq_end ?_
  have hA33 := hA25.keep [(1, .pointer (some (⟨B_13, 0, none⟩ : Addr)))] ⟨rfl, trivial⟩
  refine then_normal ?_
  refine wp_seq ?_
  refine wp_region_lit ?_
  refine sq (opk_val hA33 rfl (r_loadN (cs := [.int .i64 1, .string (Bs ([] : Str)), .string (Bs ([] : Str)), Sl.v Sl.nil, Sl.v (Sl.mk (some ⟨B_4, 0, none⟩) 1 1)]) Try.underlying26 rfl ti_26 (hA33.get rfl) (hB28.part 0 _ rfl)) fun a34 hA34 _ => ?_)
  have ht35 := ht0 w24 B_4 B_13 hN31 hN32 hne19 hC30
  have ht36 := ht35 hB29
  refine sq (opk_call hA34 rfl (r_call (args := #[.agg #[.int .i64 1, .string (Bs ([] : Str)), .string (Bs ([] : Str)), Sl.v Sl.nil, Sl.v (Sl.mk (some ⟨B_4, 0, none⟩) 1 1)]]) Try.func12 (by decide) rfl (map_arr (ml_cons (hA34.get rfl) ml_nil)) rfl) ht36 fun a38 v44 w39 hA38 _ hn41 hz42 hK43 => ?_)
  obtain ⟨r_37, rfl, ht40⟩ := hK43
  have hB45 := hB28.kept hn41 (.head _)
  refine sq (opk_val hA38 rfl (r_move (hA38.get rfl)) fun a46 hA46 _ => ?_)
  refine sq (opk_gval hA46 rfl rfl (g := true) (e := r_37) rfl (fun hg => r_loadN (cs := [.int .i64 1, .string (Bs ([] : Str)), .string (Bs ([] : Str)), Sl.v Sl.nil, Sl.v (Sl.mk (some ⟨B_4, 0, none⟩) 1 1)]) Try.underlying26 rfl ti_26 (hA46.get rfl) (hB45.part 0 _ rfl)) fun a47 hA47 _ => ?_)
  obtain ⟨r_48, hc52, ht51⟩ := ht40
  refine sq (opk_gcall hA47 rfl rfl (g := true) (e := r_37) rfl (fun hg => r_call (args := #[.agg #[.int .i64 1, .string (Bs ([] : Str)), .string (Bs ([] : Str)), Sl.v Sl.nil, Sl.v (Sl.mk (some ⟨B_4, 0, none⟩) 1 1)]]) Try.func21 (by decide) rfl (map_arr (ml_cons (cv_get (hA47.get rfl) hg) ml_nil)) rfl) (fun hg => hc52 (g_t hg)) fun a49 w50 hA49 _ hE53 => ?_)
  have hB54 := hB45.ext hE53
  have hC55 : Chg [] w39 w50 := hE53
  have ht56 := ht51 w50 hE53
  refine sq (opk_gval hA49 rfl rfl (g := true) (e := r_37) rfl (fun hg => r_eql (cv_get (hA49.get rfl) hg) rfl) fun a57 hA57 _ => ?_)
  refine sq (opk_val hA57 rfl (r_pick_and (g := (true && (r_37 == true))) (hA57.get rfl) (hA57.get rfl) (fun he => g_mkt rfl he)) fun a58 hA58 _ => ?_)
  refine sq (opk_val hA58 rfl (r_move (hA58.get rfl)) fun a59 hA59 _ => ?_)
  refine sq (opk_gval hA59 rfl rfl (g := true) (e := (r_37 && (decide (r_48 = 2)))) rfl (fun hg => r_loadN (cs := [.int .i64 1, .string (Bs ([] : Str)), .string (Bs ([] : Str)), Sl.v Sl.nil, Sl.v (Sl.mk (some ⟨B_4, 0, none⟩) 1 1)]) Try.underlying26 rfl ti_26 (hA59.get rfl) (hB54.part 0 _ rfl)) fun a60 hA60 _ => ?_)
  obtain ⟨r_61, hc65, ht64⟩ := ht56
  refine sq (opk_gcall hA60 rfl rfl (g := true) (e := (r_37 && (decide (r_48 = 2)))) rfl (fun hg => r_call (args := #[.agg #[.int .i64 1, .string (Bs ([] : Str)), .string (Bs ([] : Str)), Sl.v Sl.nil, Sl.v (Sl.mk (some ⟨B_4, 0, none⟩) 1 1)]]) Try.func18 (by decide) rfl (map_arr (ml_cons (cv_get (hA60.get rfl) hg) ml_nil)) rfl) (fun hg => hc65 ⟨(b_and_t (g_t hg)).1, (of_decide_eq_true (b_and_t (g_t hg)).2)⟩) fun a62 w63 hA62 _ hE66 => ?_)
  have hB67 := hB54.ext hE66
  have hC68 : Chg [] w50 w63 := hE66
  have ht69 := ht64 w63 hE66
  refine sq (opk_gval hA62 rfl rfl (g := true) (e := (r_37 && (decide (r_48 = 2)))) rfl (fun hg => r_eql (cv_get (hA62.get rfl) hg) rfl) fun a70 hA70 _ => ?_)
  refine sq (opk_val hA70 rfl (r_pick_and (g := (true && ((r_37 && (decide (r_48 = 2))) == true))) (hA70.get rfl) (hA70.get rfl) (fun he => g_mkt rfl he)) fun a71 hA71 _ => ?_)
  refine sq (opk_val hA71 rfl (r_move (hA71.get rfl)) fun a72 hA72 _ => ?_)
  refine sq (opk_gval hA72 rfl rfl (g := true) (e := ((r_37 && (decide (r_48 = 2))) && (decide (r_61 = 2)))) rfl (fun hg => r_fieldAddr (hA72.get rfl) Try.underlying26 rfl ti_24 (by decide)) fun a73 hA73 _ => ?_)
  refine sq (opk_gval hA73 rfl rfl (g := true) (e := ((r_37 && (decide (r_48 = 2))) && (decide (r_61 = 2)))) rfl (fun hg => r_load1 Try.underlying24 rfl (cv_get (hA73.get rfl) hg) (hB67.cell 4 _ rfl)) fun a74 hA74 _ => ?_)
  obtain ⟨p_75, hp77, ht78⟩ := ht69
  refine sq (opk_gval hA74 rfl rfl (g := true) (e := ((r_37 && (decide (r_48 = 2))) && (decide (r_61 = 2)))) rfl (fun hg => r_indexAddr (cv_get (hA74.get rfl) hg) rfl Try.underlying24 ti_26 (hp77 ⟨⟨(b_and_t (b_and_t (g_t hg)).1).1, (of_decide_eq_true (b_and_t (b_and_t (g_t hg)).1).2)⟩, (of_decide_eq_true (b_and_t (g_t hg)).2)⟩).1 (hp77 ⟨⟨(b_and_t (b_and_t (g_t hg)).1).1, (of_decide_eq_true (b_and_t (b_and_t (g_t hg)).1).2)⟩, (of_decide_eq_true (b_and_t (g_t hg)).2)⟩).2) fun a79 hA79 _ => ?_)
  obtain ⟨x_81_Kind, x_81_Name, x_81_Text, x_81_Attrs, x_81_Kids, hx82, ht83⟩ := ht78
  refine sq (opk_gval hA79 rfl rfl (g := true) (e := ((r_37 && (decide (r_48 = 2))) && (decide (r_61 = 2)))) rfl (fun hg => r_loadN Try.underlying26 rfl ti_26 (cv_get (hA79.get rfl) hg) (hx82 ⟨⟨(b_and_t (b_and_t (g_t hg)).1).1, (of_decide_eq_true (b_and_t (b_and_t (g_t hg)).1).2)⟩, (of_decide_eq_true (b_and_t (g_t hg)).2)⟩)) fun a80 hA80 _ => ?_)
  obtain ⟨r_84, hc88, ht87⟩ := ht83
  refine sq (opk_gcall hA80 rfl rfl (g := true) (e := ((r_37 && (decide (r_48 = 2))) && (decide (r_61 = 2)))) rfl (fun hg => r_call (args := #[.agg #[.int .i64 x_81_Kind, .string (Bs x_81_Name), .string (Bs x_81_Text), Sl.v x_81_Attrs, Sl.v x_81_Kids]]) Try.func12 (by decide) rfl (map_arr (ml_cons (cv_get (hA80.get rfl) hg) ml_nil)) rfl) (fun hg => hc88 ⟨⟨(b_and_t (b_and_t (g_t hg)).1).1, (of_decide_eq_true (b_and_t (b_and_t (g_t hg)).1).2)⟩, (of_decide_eq_true (b_and_t (g_t hg)).2)⟩) fun a85 w86 hA85 _ hE89 => ?_)
  have hB90 := hB67.ext hE89
  have hC91 : Chg [] w63 w86 := hE89
  have ht92 := ht87 w86 hE89
  refine sq (opk_gval hA85 rfl rfl (g := true) (e := ((r_37 && (decide (r_48 = 2))) && (decide (r_61 = 2)))) rfl (fun hg => r_not (cv_get (hA85.get rfl) hg)) fun a93 hA93 _ => ?_)
  refine sq (opk_val hA93 rfl (r_pick_and (g := (true && (((r_37 && (decide (r_48 = 2))) && (decide (r_61 = 2))) == true))) (hA93.get rfl) (hA93.get rfl) (fun he => g_mkt rfl he)) fun a94 hA94 _ => ?_)
  refine sq (opk_val hA94 rfl (r_assign (hA94.get rfl)) fun a95 hA95 _ => ?_)
  refine sq_end ?_
  have hA96 := hA95.keep [(0, .bool (((r_37 && (decide (r_48 = 2))) && (decide (r_61 = 2))) && (!r_84)))] ⟨rfl, trivial⟩
  refine then_normal ?_
  refine wp_ret ?_
  exact res_all (vs := [.bool (((r_37 && (decide (r_48 = 2))) && (decide (r_61 = 2))) && (!r_84))]) rfl hA96 ⟨res_of_tmp hA96 rfl, trivial⟩ ht92

end Go.Proofs.Ytpacegmmbabhjaa
