/-
  PRINTED BY PROGRAM: for each function its condition (vc), and that this suffices (ok).
-/
import Derived.Test.YtpacegmmbabhjaaGT
namespace Go.Proofs.Ytpacegmmbabhjaa
open Go.RowKit
set_option linter.unusedVariables false

/-- The condition of topiary/topiarylaw05.TreeOrder. -/
def law05_TreeOrder.vc (a_1_Kind : Int) (a_1_Name : Str) (a_1_Text : Str) (a_1_Attrs : Sl) (a_1_Kids : Sl) (b_2_Kind : Int) (b_2_Name : Str) (b_2_Text : Str) (b_2_Attrs : Sl) (b_2_Kids : Sl) (c_3_Kind : Int) (c_3_Name : Str) (c_3_Text : Str) (c_3_Attrs : Sl) (c_3_Kids : Sl) (R : Value → World → Prop) (w : World) : Prop :=
∀ (w24 : World) (B_4 : Nat) (B_12 : Nat) (B_23 : Nat), New w B_4 w24 → New w B_12 w24 → New w B_23 w24 → B_4 ≠ B_12 → B_4 ≠ B_23 → B_12 ≠ B_23 → Chg [] w w24 →
CallK Try.prog 20 #[.agg #[.int .i64 a_1_Kind, .string (Bs a_1_Name), .string (Bs a_1_Text), Sl.v a_1_Attrs, Sl.v a_1_Kids]] w24 [B_4, B_12, B_23] (fun v w43 => ∃ (r_41 : Bool), v = .bool r_41 ∧
∃ (r_55 : Bool), (((r_41 = true)) → Calls Try.prog 20 #[.agg #[.int .i64 b_2_Kind, .string (Bs b_2_Name), .string (Bs b_2_Text), Sl.v b_2_Attrs, Sl.v b_2_Kids]] w43 (Ret fun v w' => Ext w43 w' ∧ v = .bool r_55)) ∧
(∀ w57 : World, Ext w43 w57 →
∃ (r_70 : Bool), ((((r_41 = true) ∧ (r_55 = true))) → Calls Try.prog 20 #[.agg #[.int .i64 c_3_Kind, .string (Bs c_3_Name), .string (Bs c_3_Text), Sl.v c_3_Attrs, Sl.v c_3_Kids]] w57 (Ret fun v w' => Ext w57 w' ∧ v = .bool r_70)) ∧
(∀ w72 : World, Ext w57 w72 →
((((r_41 = false) ∨ (r_55 = false)) ∨ (r_70 = false)) →
CallK Try.prog 15 #[] w72 [B_4, B_12, B_23] (fun v w88 => ∃ (r_86 : Bool), v = .bool r_86 ∧
R (.bool r_86) w88)) ∧
((((r_41 = true) ∧ (r_55 = true)) ∧ (r_70 = true)) →
∀ (w99 : World), Chg [] w72 w99 →
∃ (r_108 : Int), (∀ w' : World, Ext w99 w' → Calls Try.prog 24 #[.agg #[.int .i64 a_1_Kind, .string (Bs a_1_Name), .string (Bs a_1_Text), Sl.v a_1_Attrs, Sl.v a_1_Kids], .agg #[.int .i64 b_2_Kind, .string (Bs b_2_Name), .string (Bs b_2_Text), Sl.v b_2_Attrs, Sl.v b_2_Kids]] w' (Ret fun v w'' => Ext w' w'' ∧ v = .int .i64 r_108)) ∧
∃ (r_113 : Int), (∀ w' : World, Ext w99 w' → Calls Try.prog 24 #[.agg #[.int .i64 b_2_Kind, .string (Bs b_2_Name), .string (Bs b_2_Text), Sl.v b_2_Attrs, Sl.v b_2_Kids], .agg #[.int .i64 c_3_Kind, .string (Bs c_3_Name), .string (Bs c_3_Text), Sl.v c_3_Attrs, Sl.v c_3_Kids]] w' (Ret fun v w'' => Ext w' w'' ∧ v = .int .i64 r_113)) ∧
∃ (r_118 : Int), (∀ w' : World, Ext w99 w' → Calls Try.prog 24 #[.agg #[.int .i64 a_1_Kind, .string (Bs a_1_Name), .string (Bs a_1_Text), Sl.v a_1_Attrs, Sl.v a_1_Kids], .agg #[.int .i64 c_3_Kind, .string (Bs c_3_Name), .string (Bs c_3_Text), Sl.v c_3_Attrs, Sl.v c_3_Kids]] w' (Ret fun v w'' => Ext w' w'' ∧ v = .int .i64 r_118)) ∧
∀ (w125 : World), Chg [] w99 w125 →
CallK Try.prog 24 #[.agg #[.int .i64 b_2_Kind, .string (Bs b_2_Name), .string (Bs b_2_Text), Sl.v b_2_Attrs, Sl.v b_2_Kids], .agg #[.int .i64 a_1_Kind, .string (Bs a_1_Name), .string (Bs a_1_Text), Sl.v a_1_Attrs, Sl.v a_1_Kids]] w125 [B_4, B_12] (fun v w147 => ∃ (r_145 : Int), v = .int .i64 r_145 ∧
(I64 (0 - r_145)) ∧
∃ (r_164 : Bool), (((r_108 = (0 - r_145))) → Calls Try.prog 25 #[.agg #[.int .i64 a_1_Kind, .string (Bs a_1_Name), .string (Bs a_1_Text), Sl.v a_1_Attrs, Sl.v a_1_Kids], .agg #[.int .i64 b_2_Kind, .string (Bs b_2_Name), .string (Bs b_2_Text), Sl.v b_2_Attrs, Sl.v b_2_Kids]] w147 (Ret fun v w' => Ext w147 w' ∧ v = .bool r_164)) ∧
(∀ w166 : World, Ext w147 w166 →
∃ (r_203 : Bool), ((((((r_108 = (0 - r_145)) ∧ (((decide (r_108 = 0)) == r_164) = true)) ∧ (((¬ (r_108 ≤ 0)) ∨ (¬ (r_113 ≤ 0))) ∨ (¬ (0 < r_118)))) ∧ (((¬ (r_108 < 0)) ∨ (¬ (r_113 ≤ 0))) ∨ (¬ (0 ≤ r_118))))) → Calls Try.prog 15 #[] w166 (Ret fun v w' => Ext w166 w' ∧ v = .bool r_203)) ∧
(∀ w205 : World, Ext w166 w205 →
R (.bool (((((decide (r_108 = (0 - r_145))) && ((decide (r_108 = 0)) == r_164)) && (!(((decide (r_108 ≤ 0)) && (decide (r_113 ≤ 0))) && (decide (0 < r_118))))) && (!(((decide (r_108 < 0)) && (decide (r_113 ≤ 0))) && (decide (0 ≤ r_118))))) && r_203)) w205)))))))
set_option maxHeartbeats 1000000 in
set_option maxRecDepth 10000 in
theorem law05_TreeOrder.ok (a_1_Kind : Int) (a_1_Name : Str) (a_1_Text : Str) (a_1_Attrs : Sl) (a_1_Kids : Sl) (b_2_Kind : Int) (b_2_Name : Str) (b_2_Text : Str) (b_2_Attrs : Sl) (b_2_Kids : Sl) (c_3_Kind : Int) (c_3_Name : Str) (c_3_Text : Str) (c_3_Attrs : Sl) (c_3_Kids : Sl) {R : Value → World → Prop} {w : World} (ht0 : law05_TreeOrder.vc a_1_Kind a_1_Name a_1_Text a_1_Attrs a_1_Kids b_2_Kind b_2_Name b_2_Text b_2_Attrs b_2_Kids c_3_Kind c_3_Name c_3_Text c_3_Attrs c_3_Kids R w) : Calls Try.prog 8 #[.agg #[.int .i64 a_1_Kind, .string (Bs a_1_Name), .string (Bs a_1_Text), Sl.v a_1_Attrs, Sl.v a_1_Kids], .agg #[.int .i64 b_2_Kind, .string (Bs b_2_Name), .string (Bs b_2_Text), Sl.v b_2_Attrs, Sl.v b_2_Kids], .agg #[.int .i64 c_3_Kind, .string (Bs c_3_Name), .string (Bs c_3_Text), Sl.v c_3_Attrs, Sl.v c_3_Kids]] w (Ret R) := by
  refine enter [.agg #[.int .i64 a_1_Kind, .string (Bs a_1_Name), .string (Bs a_1_Text), Sl.v a_1_Attrs, Sl.v a_1_Kids], .agg #[.int .i64 b_2_Kind, .string (Bs b_2_Name), .string (Bs b_2_Text), Sl.v b_2_Attrs, Sl.v b_2_Kids], .agg #[.int .i64 c_3_Kind, .string (Bs c_3_Name), .string (Bs c_3_Text), Sl.v c_3_Attrs, Sl.v c_3_Kids]] Try.func8 rfl Try.ntmps8 rfl ?_
  intro a0 hA0
  unfold law05_TreeOrder.vc at ht0
  refine wp_seq ?_
  refine wp_region_lit ?_
  refine sq (opk_new (fun B => .pointer (some ⟨B, 0, none⟩)) hA0 rfl (r_box (cs := [.int .i64 a_1_Kind, .string (Bs a_1_Name), .string (Bs a_1_Text), Sl.v a_1_Attrs, Sl.v a_1_Kids]) (hA0.get rfl) rfl) fun a6 w5 B_4 hE7 hN8 hB9 hA6 _ => ?_)
  have hN10 : New w B_4 w5 := hN8
  have hC11 : Chg [] w w5 := hE7
  refine sq (opk_new (fun B => .pointer (some ⟨B, 0, none⟩)) hA6 rfl (r_box (cs := [.int .i64 b_2_Kind, .string (Bs b_2_Name), .string (Bs b_2_Text), Sl.v b_2_Attrs, Sl.v b_2_Kids]) (hA6.get rfl) rfl) fun a14 w13 B_12 hE15 hN16 hB17 hA14 _ => ?_)
  have hne18 : B_4 ≠ B_12 := Nat.ne_of_lt (Nat.lt_of_lt_of_le hB9.lt hN16.ge)
  have hN19 := New.of hC11 hN16
  have hB20 := hB9.ext hE15
  have hC21 := hC11.more hE15
  have hN22 := hN10.up hE15.size
  refine sq (opk_new (fun B => .pointer (some ⟨B, 0, none⟩)) hA14 rfl (r_box (cs := [.int .i64 c_3_Kind, .string (Bs c_3_Name), .string (Bs c_3_Text), Sl.v c_3_Attrs, Sl.v c_3_Kids]) (hA14.get rfl) rfl) fun a25 w24 B_23 hE26 hN27 hB28 hA25 _ => ?_)
  have hne29 : B_4 ≠ B_23 := Nat.ne_of_lt (Nat.lt_of_lt_of_le hB20.lt hN27.ge)
  have hne30 : B_12 ≠ B_23 := Nat.ne_of_lt (Nat.lt_of_lt_of_le hB17.lt hN27.ge)
  have hN31 := New.of hC21 hN27
  have hB32 := hB20.ext hE26
  have hB33 := hB17.ext hE26
  have hC34 := hC21.more hE26
  have hN35 := hN22.up hE26.size
  have hN36 := hN19.up hE26.size
  refine sq (opk_val hA25 rfl (r_assign rfl) fun a37 hA37 _ => ?_)
  refine sq_end ?_
  have hA38 := hA37.keep [(3, .pointer (some (⟨B_4, 0, none⟩ : Addr))), (4, .pointer (some (⟨B_12, 0, none⟩ : Addr))), (5, .pointer (some (⟨B_23, 0, none⟩ : Addr)))] ⟨rfl, rfl, rfl, trivial⟩
  refine then_normal ?_
  refine wp_seq ?_
  refine wp_seq ?_
  refine wp_region_lit ?_
  refine sq (opk_val hA38 rfl (r_loadN (cs := [.int .i64 a_1_Kind, .string (Bs a_1_Name), .string (Bs a_1_Text), Sl.v a_1_Attrs, Sl.v a_1_Kids]) Try.underlying26 rfl ti_26 (hA38.get rfl) (hB32.part 0 _ rfl)) fun a39 hA39 _ => ?_)
  have ht40 := ht0 w24 B_4 B_12 B_23 hN35 hN36 hN31 hne18 hne29 hne30 hC34
  refine sq (opk_call hA39 rfl (r_call (args := #[.agg #[.int .i64 a_1_Kind, .string (Bs a_1_Name), .string (Bs a_1_Text), Sl.v a_1_Attrs, Sl.v a_1_Kids]]) Try.func20 (by decide) rfl (map_arr (ml_cons (hA39.get rfl) ml_nil)) rfl) ht40 fun a42 v48 w43 hA42 _ hn45 hz46 hK47 => ?_)
  obtain ⟨r_41, rfl, ht44⟩ := hK47
  have hB49 := hB32.kept hn45 (.head _)
  have hB50 := hB33.kept hn45 (.tail _ (.head _))
  have hB51 := hB28.kept hn45 (.tail _ (.tail _ (.head _)))
  refine sq (opk_val hA42 rfl (r_not (hA42.get rfl)) fun a52 hA52 _ => ?_)
  refine sq (opk_val hA52 rfl (r_move (hA52.get rfl)) fun a53 hA53 _ => ?_)
  refine sq (opk_gval hA53 rfl rfl (g := true) (e := (!r_41)) rfl (fun hg => r_loadN (cs := [.int .i64 b_2_Kind, .string (Bs b_2_Name), .string (Bs b_2_Text), Sl.v b_2_Attrs, Sl.v b_2_Kids]) Try.underlying26 rfl ti_26 (hA53.get rfl) (hB50.part 0 _ rfl)) fun a54 hA54 _ => ?_)
  obtain ⟨r_55, hc59, ht58⟩ := ht44
  refine sq (opk_gcall hA54 rfl rfl (g := true) (e := (!r_41)) rfl (fun hg => r_call (args := #[.agg #[.int .i64 b_2_Kind, .string (Bs b_2_Name), .string (Bs b_2_Text), Sl.v b_2_Attrs, Sl.v b_2_Kids]]) Try.func20 (by decide) rfl (map_arr (ml_cons (cv_get (hA54.get rfl) hg) ml_nil)) rfl) (fun hg => hc59 (b_not_f (g_f hg))) fun a56 w57 hA56 _ hE60 => ?_)
  have hB61 := hB49.ext hE60
  have hB62 := hB50.ext hE60
  have hB63 := hB51.ext hE60
  have hC64 : Chg [] w43 w57 := hE60
  have ht65 := ht58 w57 hE60
  refine sq (opk_gval hA56 rfl rfl (g := true) (e := (!r_41)) rfl (fun hg => r_not (cv_get (hA56.get rfl) hg)) fun a66 hA66 _ => ?_)
  refine sq (opk_val hA66 rfl (r_pick_or (g := (true && ((!r_41) == false))) (hA66.get rfl) (hA66.get rfl) (fun he => g_mkf rfl he)) fun a67 hA67 _ => ?_)
  refine sq (opk_val hA67 rfl (r_move (hA67.get rfl)) fun a68 hA68 _ => ?_)
  refine sq (opk_gval hA68 rfl rfl (g := true) (e := ((!r_41) || (!r_55))) rfl (fun hg => r_loadN (cs := [.int .i64 c_3_Kind, .string (Bs c_3_Name), .string (Bs c_3_Text), Sl.v c_3_Attrs, Sl.v c_3_Kids]) Try.underlying26 rfl ti_26 (hA68.get rfl) (hB63.part 0 _ rfl)) fun a69 hA69 _ => ?_)
  obtain ⟨r_70, hc74, ht73⟩ := ht65
  refine sq (opk_gcall hA69 rfl rfl (g := true) (e := ((!r_41) || (!r_55))) rfl (fun hg => r_call (args := #[.agg #[.int .i64 c_3_Kind, .string (Bs c_3_Name), .string (Bs c_3_Text), Sl.v c_3_Attrs, Sl.v c_3_Kids]]) Try.func20 (by decide) rfl (map_arr (ml_cons (cv_get (hA69.get rfl) hg) ml_nil)) rfl) (fun hg => hc74 ⟨(b_not_f (b_or_f (g_f hg)).1), (b_not_f (b_or_f (g_f hg)).2)⟩) fun a71 w72 hA71 _ hE75 => ?_)
  have hB76 := hB61.ext hE75
  have hB77 := hB62.ext hE75
  have hB78 := hB63.ext hE75
  have hC79 : Chg [] w57 w72 := hE75
  have ht80 := ht73 w72 hE75
  refine sq (opk_gval hA71 rfl rfl (g := true) (e := ((!r_41) || (!r_55))) rfl (fun hg => r_not (cv_get (hA71.get rfl) hg)) fun a81 hA81 _ => ?_)
  refine sq (opk_val hA81 rfl (r_pick_or (g := (true && (((!r_41) || (!r_55)) == false))) (hA81.get rfl) (hA81.get rfl) (fun he => g_mkf rfl he)) fun a82 hA82 _ => ?_)
  refine sq_end ?_
  have hA83 := hA82.keep [(3, .pointer (some (⟨B_4, 0, none⟩ : Addr))), (4, .pointer (some (⟨B_12, 0, none⟩ : Addr))), (5, .pointer (some (⟨B_23, 0, none⟩ : Addr))), (22, .bool (((!r_41) || (!r_55)) || (!r_70)))] ⟨rfl, rfl, rfl, rfl, trivial⟩
  refine then_normal ?_
  refine wp_cond_split (hA83.get rfl) (fun hc => ?_) (fun hc => ?_)
  · have ht84 := ht80.1 ((b_or_t hc).imp (fun h => ((b_or_t h).imp (fun h => (b_not_t h)) (fun h => (b_not_t h)))) (fun h => (b_not_t h)))
    clear hc
    refine wp_seq ?_
    refine wp_region_lit ?_
    refine sq (opk_call hA83 rfl (r_call (args := #[]) Try.func15 (by decide) rfl (map_arr ml_nil) rfl) ht84 fun a87 v93 w88 hA87 _ hn90 hz91 hK92 => ?_)
    obtain ⟨r_86, rfl, ht89⟩ := hK92
    have hB94 := hB76.kept hn90 (.head _)
    have hB95 := hB77.kept hn90 (.tail _ (.head _))
    have hB96 := hB78.kept hn90 (.tail _ (.tail _ (.head _)))
    refine sq (opk_val hA87 rfl (r_assign (hA87.get rfl)) fun a97 hA97 _ => ?_)
    refine sq_end ?_
    have hA98 := hA97.keep [(6, .bool r_86)] ⟨rfl, trivial⟩
    refine then_normal ?_
    refine wp_ret ?_
    refine then_ret ?_
    exact res_all (vs := [.bool r_86]) rfl hA98 ⟨res_of_tmp hA98 rfl, trivial⟩ ht89
  · have ht85 := ht80.2 ⟨⟨(b_not_f (b_or_f (b_or_f hc).1).1), (b_not_f (b_or_f (b_or_f hc).1).2)⟩, (b_not_f (b_or_f hc).2)⟩
    clear hc
    refine wp_skip ?_
    refine then_normal ?_
    refine wp_seq ?_
    refine draw' (by kernel_rfl) fun w99 hE100 => ?_
    have hB101 := hB76.ext hE100
    have hB102 := hB77.ext hE100
    have hB103 := hB78.ext hE100
    have hC104 : Chg [] w72 w99 := hE100
    have ht105 := ht85 w99    hC104
    obtain ⟨r_108, hc109, ht110⟩ := ht105
    obtain ⟨r_113, hc114, ht115⟩ := ht110
    obtain ⟨r_118, hc119, ht120⟩ := ht115
    refine par (D := [[], [], [0, 1], [], [], [0, 1, 2, 3, 4], [], [], [0, 1, 2, 3, 4, 5, 6, 7], [0, 1, 2, 3, 4, 5, 6, 7, 8], [0, 1, 2, 3, 4, 5, 6, 7, 8, 9], [0, 1, 2, 3, 4, 5, 6, 7, 8, 9, 10]]) (S := [0, 1, 2, 3, 4, 5, 6, 7, 8, 9, 10, 11]) (F := []) (V := VL [(0, fun v _ => v = .agg #[.int .i64 a_1_Kind, .string (Bs a_1_Name), .string (Bs a_1_Text), Sl.v a_1_Attrs, Sl.v a_1_Kids]), (1, fun v _ => v = .agg #[.int .i64 b_2_Kind, .string (Bs b_2_Name), .string (Bs b_2_Text), Sl.v b_2_Attrs, Sl.v b_2_Kids]), (2, fun v _ => v = .int .i64 r_108), (3, fun v _ => v = .agg #[.int .i64 b_2_Kind, .string (Bs b_2_Name), .string (Bs b_2_Text), Sl.v b_2_Attrs, Sl.v b_2_Kids]), (4, fun v _ => v = .agg #[.int .i64 c_3_Kind, .string (Bs c_3_Name), .string (Bs c_3_Text), Sl.v c_3_Attrs, Sl.v c_3_Kids]), (5, fun v _ => v = .int .i64 r_113), (6, fun v _ => v = .agg #[.int .i64 a_1_Kind, .string (Bs a_1_Name), .string (Bs a_1_Text), Sl.v a_1_Attrs, Sl.v a_1_Kids]), (7, fun v _ => v = .agg #[.int .i64 c_3_Kind, .string (Bs c_3_Name), .string (Bs c_3_Text), Sl.v c_3_Attrs, Sl.v c_3_Kids]), (8, fun v _ => v = .int .i64 r_118), (9, fun v _ => v = .int .i64 r_108), (10, fun v _ => v = .int .i64 r_113), (11, fun v _ => v = .int .i64 r_118)]) hA83 (by kernel_rfl) ⟨fun _ _ _ _ h => by first | exact h | (change _ = _ at h; change _ = _; exact h), fun _ _ _ _ h => by first | exact h | (change _ = _ at h; change _ = _; exact h), fun _ _ _ _ h => by first | exact h | (change _ = _ at h; change _ = _; exact h), fun _ _ _ _ h => by first | exact h | (change _ = _ at h; change _ = _; exact h), fun _ _ _ _ h => by first | exact h | (change _ = _ at h; change _ = _; exact h), fun _ _ _ _ h => by first | exact h | (change _ = _ at h; change _ = _; exact h), fun _ _ _ _ h => by first | exact h | (change _ = _ at h; change _ = _; exact h), fun _ _ _ _ h => by first | exact h | (change _ = _ at h; change _ = _; exact h), fun _ _ _ _ h => by first | exact h | (change _ = _ at h; change _ = _; exact h), fun _ _ _ _ h => by first | exact h | (change _ = _ at h; change _ = _; exact h), fun _ _ _ _ h => by first | exact h | (change _ = _ at h; change _ = _; exact h), fun _ _ _ _ h => by first | exact h | (change _ = _ at h; change _ = _; exact h), trivial⟩ ⟨?_, ?_, ?_, ?_, ?_, ?_, ?_, ?_, ?_, ?_, ?_, ?_, trivial⟩ ?_
    · intro a w hT
      have hAp := hT.ag hA83 [(3, .pointer (some (⟨B_4, 0, none⟩ : Addr)))] ⟨rfl, trivial⟩ (by kernel_rfl)
      exact opk_val hAp rfl (r_loadN (cs := [.int .i64 a_1_Kind, .string (Bs a_1_Name), .string (Bs a_1_Text), Sl.v a_1_Attrs, Sl.v a_1_Kids]) Try.underlying26 rfl ti_26 (hAp.get rfl) ((hB101.ext hT.chg).part 0 _ rfl)) fun _ _ e => ⟨_, e, Chg.refl _ _, fun _ => Eq.refl _⟩
    · intro a w hT
      have hAp := hT.ag hA83 [(4, .pointer (some (⟨B_12, 0, none⟩ : Addr)))] ⟨rfl, trivial⟩ (by kernel_rfl)
      exact opk_val hAp rfl (r_loadN (cs := [.int .i64 b_2_Kind, .string (Bs b_2_Name), .string (Bs b_2_Text), Sl.v b_2_Attrs, Sl.v b_2_Kids]) Try.underlying26 rfl ti_26 (hAp.get rfl) ((hB102.ext hT.chg).part 0 _ rfl)) fun _ _ e => ⟨_, e, Chg.refl _ _, fun _ => Eq.refl _⟩
    · intro a w hT
      have hAp := hT.ag hA83 [] trivial (by kernel_rfl)
      have e106 : a.tmps.getD 24 undef = .agg #[.int .i64 a_1_Kind, .string (Bs a_1_Name), .string (Bs a_1_Text), Sl.v a_1_Attrs, Sl.v a_1_Kids] := hT.vals 0 rfl 24 rfl
      have hAp := hAp.add e106
      have e107 : a.tmps.getD 25 undef = .agg #[.int .i64 b_2_Kind, .string (Bs b_2_Name), .string (Bs b_2_Text), Sl.v b_2_Attrs, Sl.v b_2_Kids] := hT.vals 1 rfl 25 rfl
      have hAp := hAp.add e107
      exact opk_callX hAp rfl (r_call (args := #[.agg #[.int .i64 a_1_Kind, .string (Bs a_1_Name), .string (Bs a_1_Text), Sl.v a_1_Attrs, Sl.v a_1_Kids], .agg #[.int .i64 b_2_Kind, .string (Bs b_2_Name), .string (Bs b_2_Text), Sl.v b_2_Attrs, Sl.v b_2_Kids]]) Try.func24 (by decide) rfl (map_arr (ml_cons (hAp.get rfl) (ml_cons (hAp.get rfl) ml_nil))) rfl) (hc109 w hT.chg) fun _ _ _ _ e hR => ⟨_, e, hR.1, fun _ => hR.2⟩
    · intro a w hT
      have hAp := hT.ag hA83 [(4, .pointer (some (⟨B_12, 0, none⟩ : Addr)))] ⟨rfl, trivial⟩ (by kernel_rfl)
      exact opk_val hAp rfl (r_loadN (cs := [.int .i64 b_2_Kind, .string (Bs b_2_Name), .string (Bs b_2_Text), Sl.v b_2_Attrs, Sl.v b_2_Kids]) Try.underlying26 rfl ti_26 (hAp.get rfl) ((hB102.ext hT.chg).part 0 _ rfl)) fun _ _ e => ⟨_, e, Chg.refl _ _, fun _ => Eq.refl _⟩
    · intro a w hT
      have hAp := hT.ag hA83 [(5, .pointer (some (⟨B_23, 0, none⟩ : Addr)))] ⟨rfl, trivial⟩ (by kernel_rfl)
      exact opk_val hAp rfl (r_loadN (cs := [.int .i64 c_3_Kind, .string (Bs c_3_Name), .string (Bs c_3_Text), Sl.v c_3_Attrs, Sl.v c_3_Kids]) Try.underlying26 rfl ti_26 (hAp.get rfl) ((hB103.ext hT.chg).part 0 _ rfl)) fun _ _ e => ⟨_, e, Chg.refl _ _, fun _ => Eq.refl _⟩
    · intro a w hT
      have hAp := hT.ag hA83 [] trivial (by kernel_rfl)
      have e111 : a.tmps.getD 27 undef = .agg #[.int .i64 b_2_Kind, .string (Bs b_2_Name), .string (Bs b_2_Text), Sl.v b_2_Attrs, Sl.v b_2_Kids] := hT.vals 3 rfl 27 rfl
      have hAp := hAp.add e111
      have e112 : a.tmps.getD 28 undef = .agg #[.int .i64 c_3_Kind, .string (Bs c_3_Name), .string (Bs c_3_Text), Sl.v c_3_Attrs, Sl.v c_3_Kids] := hT.vals 4 rfl 28 rfl
      have hAp := hAp.add e112
      exact opk_callX hAp rfl (r_call (args := #[.agg #[.int .i64 b_2_Kind, .string (Bs b_2_Name), .string (Bs b_2_Text), Sl.v b_2_Attrs, Sl.v b_2_Kids], .agg #[.int .i64 c_3_Kind, .string (Bs c_3_Name), .string (Bs c_3_Text), Sl.v c_3_Attrs, Sl.v c_3_Kids]]) Try.func24 (by decide) rfl (map_arr (ml_cons (hAp.get rfl) (ml_cons (hAp.get rfl) ml_nil))) rfl) (hc114 w hT.chg) fun _ _ _ _ e hR => ⟨_, e, hR.1, fun _ => hR.2⟩
    · intro a w hT
      have hAp := hT.ag hA83 [(3, .pointer (some (⟨B_4, 0, none⟩ : Addr)))] ⟨rfl, trivial⟩ (by kernel_rfl)
      exact opk_val hAp rfl (r_loadN (cs := [.int .i64 a_1_Kind, .string (Bs a_1_Name), .string (Bs a_1_Text), Sl.v a_1_Attrs, Sl.v a_1_Kids]) Try.underlying26 rfl ti_26 (hAp.get rfl) ((hB101.ext hT.chg).part 0 _ rfl)) fun _ _ e => ⟨_, e, Chg.refl _ _, fun _ => Eq.refl _⟩
    · intro a w hT
      have hAp := hT.ag hA83 [(5, .pointer (some (⟨B_23, 0, none⟩ : Addr)))] ⟨rfl, trivial⟩ (by kernel_rfl)
      exact opk_val hAp rfl (r_loadN (cs := [.int .i64 c_3_Kind, .string (Bs c_3_Name), .string (Bs c_3_Text), Sl.v c_3_Attrs, Sl.v c_3_Kids]) Try.underlying26 rfl ti_26 (hAp.get rfl) ((hB103.ext hT.chg).part 0 _ rfl)) fun _ _ e => ⟨_, e, Chg.refl _ _, fun _ => Eq.refl _⟩
    · intro a w hT
      have hAp := hT.ag hA83 [] trivial (by kernel_rfl)
      have e116 : a.tmps.getD 30 undef = .agg #[.int .i64 a_1_Kind, .string (Bs a_1_Name), .string (Bs a_1_Text), Sl.v a_1_Attrs, Sl.v a_1_Kids] := hT.vals 6 rfl 30 rfl
      have hAp := hAp.add e116
      have e117 : a.tmps.getD 31 undef = .agg #[.int .i64 c_3_Kind, .string (Bs c_3_Name), .string (Bs c_3_Text), Sl.v c_3_Attrs, Sl.v c_3_Kids] := hT.vals 7 rfl 31 rfl
      have hAp := hAp.add e117
      exact opk_callX hAp rfl (r_call (args := #[.agg #[.int .i64 a_1_Kind, .string (Bs a_1_Name), .string (Bs a_1_Text), Sl.v a_1_Attrs, Sl.v a_1_Kids], .agg #[.int .i64 c_3_Kind, .string (Bs c_3_Name), .string (Bs c_3_Text), Sl.v c_3_Attrs, Sl.v c_3_Kids]]) Try.func24 (by decide) rfl (map_arr (ml_cons (hAp.get rfl) (ml_cons (hAp.get rfl) ml_nil))) rfl) (hc119 w hT.chg) fun _ _ _ _ e hR => ⟨_, e, hR.1, fun _ => hR.2⟩
    · intro a w hT
      have hAp := hT.ag hA83 [] trivial (by kernel_rfl)
      have e121 : a.tmps.getD 26 undef = .int .i64 r_108 := hT.vals 2 rfl 26 rfl
      have hAp := hAp.add e121
      exact opk_val hAp rfl (r_assign (hAp.get rfl)) fun _ _ e => ⟨_, e, Chg.refl _ _, fun _ => Eq.refl _⟩
    · intro a w hT
      have hAp := hT.ag hA83 [] trivial (by kernel_rfl)
      have e122 : a.tmps.getD 29 undef = .int .i64 r_113 := hT.vals 5 rfl 29 rfl
      have hAp := hAp.add e122
      exact opk_val hAp rfl (r_assign (hAp.get rfl)) fun _ _ e => ⟨_, e, Chg.refl _ _, fun _ => Eq.refl _⟩
    · intro a w hT
      have hAp := hT.ag hA83 [] trivial (by kernel_rfl)
      have e123 : a.tmps.getD 32 undef = .int .i64 r_118 := hT.vals 8 rfl 32 rfl
      have hAp := hAp.add e123
      exact opk_val hAp rfl (r_assign (hAp.get rfl)) fun _ _ e => ⟨_, e, Chg.refl _ _, fun _ => Eq.refl _⟩
    · intro a124 w125 hE126 hag127 hv128
      have hA124 := hag127 [(3, .pointer (some (⟨B_4, 0, none⟩ : Addr))), (4, .pointer (some (⟨B_12, 0, none⟩ : Addr)))] ⟨rfl, rfl, trivial⟩ (by kernel_rfl)
      have e130 : a124.tmps.getD 7 undef = .int .i64 r_108 := hv128 9 rfl 7 rfl
      have hA131 := hA124.add e130
      have e132 : a124.tmps.getD 8 undef = .int .i64 r_113 := hv128 10 rfl 8 rfl
      have hA133 := hA131.add e132
      have e134 : a124.tmps.getD 9 undef = .int .i64 r_118 := hv128 11 rfl 9 rfl
      have hA135 := hA133.add e134
      have hB136 := hB101.ext hE126
      have hB137 := hB102.ext hE126
      have hB138 := hB103.ext hE126
      have hC139 : Chg [] w99 w125 := hE126
      refine PR_end (by kernel_rfl) ?_
      have hA140 := hA135.keep [(3, .pointer (some (⟨B_4, 0, none⟩ : Addr))), (4, .pointer (some (⟨B_12, 0, none⟩ : Addr))), (7, .int .i64 r_108), (8, .int .i64 r_113), (9, .int .i64 r_118)] ⟨rfl, rfl, rfl, rfl, rfl, trivial⟩
      refine then_normal ?_
      refine wp_seq ?_
      refine wp_region_lit ?_
      refine sq (opk_val hA140 rfl (r_move (hA140.get rfl)) fun a141 hA141 _ => ?_)
      refine sq (opk_val hA141 rfl (r_loadN (cs := [.int .i64 b_2_Kind, .string (Bs b_2_Name), .string (Bs b_2_Text), Sl.v b_2_Attrs, Sl.v b_2_Kids]) Try.underlying26 rfl ti_26 (hA141.get rfl) (hB137.part 0 _ rfl)) fun a142 hA142 _ => ?_)
      refine sq (opk_val hA142 rfl (r_loadN (cs := [.int .i64 a_1_Kind, .string (Bs a_1_Name), .string (Bs a_1_Text), Sl.v a_1_Attrs, Sl.v a_1_Kids]) Try.underlying26 rfl ti_26 (hA142.get rfl) (hB136.part 0 _ rfl)) fun a143 hA143 _ => ?_)
      have ht144 := ht120 w125    hC139
      refine sq (opk_call hA143 rfl (r_call (args := #[.agg #[.int .i64 b_2_Kind, .string (Bs b_2_Name), .string (Bs b_2_Text), Sl.v b_2_Attrs, Sl.v b_2_Kids], .agg #[.int .i64 a_1_Kind, .string (Bs a_1_Name), .string (Bs a_1_Text), Sl.v a_1_Attrs, Sl.v a_1_Kids]]) Try.func24 (by decide) rfl (map_arr (ml_cons (hA143.get rfl) (ml_cons (hA143.get rfl) ml_nil))) rfl) ht144 fun a146 v152 w147 hA146 _ hn149 hz150 hK151 => ?_)
      obtain ⟨r_145, rfl, ht148⟩ := hK151
      have hB153 := hB136.kept hn149 (.head _)
      have hB154 := hB137.kept hn149 (.tail _ (.head _))
      obtain ⟨hS156, ht157⟩ := ht148
      refine sq (opk_val hA146 rfl (r_negI (hA146.get rfl) hS156) fun a155 hA155 _ => ?_)
      refine sq (opk_val hA155 rfl (r_eql (hA155.get rfl) (hA155.get rfl)) fun a158 hA158 _ => ?_)
      refine sq (opk_val hA158 rfl (r_move (hA158.get rfl)) fun a159 hA159 _ => ?_)
      refine sq (opk_gval hA159 rfl rfl (g := true) (e := (decide (r_108 = (0 - r_145)))) rfl (fun hg => r_move (hA159.get rfl)) fun a160 hA160 _ => ?_)
      refine sq (opk_gval hA160 rfl rfl (g := true) (e := (decide (r_108 = (0 - r_145)))) rfl (fun hg => r_eql (cv_get (hA160.get rfl) hg) rfl) fun a161 hA161 _ => ?_)
      refine sq (opk_gval hA161 rfl rfl (g := true) (e := (decide (r_108 = (0 - r_145)))) rfl (fun hg => r_loadN (cs := [.int .i64 a_1_Kind, .string (Bs a_1_Name), .string (Bs a_1_Text), Sl.v a_1_Attrs, Sl.v a_1_Kids]) Try.underlying26 rfl ti_26 (hA161.get rfl) (hB153.part 0 _ rfl)) fun a162 hA162 _ => ?_)
      refine sq (opk_gval hA162 rfl rfl (g := true) (e := (decide (r_108 = (0 - r_145)))) rfl (fun hg => r_loadN (cs := [.int .i64 b_2_Kind, .string (Bs b_2_Name), .string (Bs b_2_Text), Sl.v b_2_Attrs, Sl.v b_2_Kids]) Try.underlying26 rfl ti_26 (hA162.get rfl) (hB154.part 0 _ rfl)) fun a163 hA163 _ => ?_)
      obtain ⟨r_164, hc168, ht167⟩ := ht157
      refine sq (opk_gcall hA163 rfl rfl (g := true) (e := (decide (r_108 = (0 - r_145)))) rfl (fun hg => r_call (args := #[.agg #[.int .i64 a_1_Kind, .string (Bs a_1_Name), .string (Bs a_1_Text), Sl.v a_1_Attrs, Sl.v a_1_Kids], .agg #[.int .i64 b_2_Kind, .string (Bs b_2_Name), .string (Bs b_2_Text), Sl.v b_2_Attrs, Sl.v b_2_Kids]]) Try.func25 (by decide) rfl (map_arr (ml_cons (cv_get (hA163.get rfl) hg) (ml_cons (cv_get (hA163.get rfl) hg) ml_nil))) rfl) (fun hg => hc168 (of_decide_eq_true (g_t hg))) fun a165 w166 hA165 _ hE169 => ?_)
      have hB170 := hB153.ext hE169
      have hB171 := hB154.ext hE169
      have hC172 : Chg [] w147 w166 := hE169
      have ht173 := ht167 w166 hE169
      refine sq (opk_gval hA165 rfl rfl (g := true) (e := (decide (r_108 = (0 - r_145)))) rfl (fun hg => r_beql (cv_get (hA165.get rfl) hg) (cv_get (hA165.get rfl) hg) Try.underlying4) fun a174 hA174 _ => ?_)
      refine sq (opk_val hA174 rfl (r_pick_and (g := (true && ((decide (r_108 = (0 - r_145))) == true))) (hA174.get rfl) (hA174.get rfl) (fun he => g_mkt rfl he)) fun a175 hA175 _ => ?_)
      refine sq (opk_val hA175 rfl (r_move (hA175.get rfl)) fun a176 hA176 _ => ?_)
      refine sq (opk_gval hA176 rfl rfl (g := true) (e := ((decide (r_108 = (0 - r_145))) && ((decide (r_108 = 0)) == r_164))) rfl (fun hg => r_move (hA176.get rfl)) fun a177 hA177 _ => ?_)
      refine sq (opk_gval hA177 rfl rfl (g := true) (e := ((decide (r_108 = (0 - r_145))) && ((decide (r_108 = 0)) == r_164))) rfl (fun hg => r_leq (cv_get (hA177.get rfl) hg) rfl) fun a178 hA178 _ => ?_)
      refine sq (opk_gval hA178 rfl rfl (g := true) (e := ((decide (r_108 = (0 - r_145))) && ((decide (r_108 = 0)) == r_164))) rfl (fun hg => r_move (cv_get (hA178.get rfl) hg)) fun a179 hA179 _ => ?_)
      refine sq (opk_gval hA179 rfl rfl (g := (true && (((decide (r_108 = (0 - r_145))) && ((decide (r_108 = 0)) == r_164)) == true))) (e := (decide (r_108 ≤ 0))) rfl (fun hg => r_move (hA179.get rfl)) fun a180 hA180 _ => ?_)
      refine sq (opk_gval hA180 rfl rfl (g := (true && (((decide (r_108 = (0 - r_145))) && ((decide (r_108 = 0)) == r_164)) == true))) (e := (decide (r_108 ≤ 0))) rfl (fun hg => r_leq (cv_get (hA180.get rfl) hg) rfl) fun a181 hA181 _ => ?_)
      refine sq (opk_gval hA181 rfl rfl (g := true) (e := ((decide (r_108 = (0 - r_145))) && ((decide (r_108 = 0)) == r_164))) rfl (fun hg => r_pick_and (g := ((true && (((decide (r_108 = (0 - r_145))) && ((decide (r_108 = 0)) == r_164)) == true)) && ((decide (r_108 ≤ 0)) == true))) (cv_get (hA181.get rfl) hg) (hA181.get rfl) (fun he => g_mkt hg he)) fun a182 hA182 _ => ?_)
      refine sq (opk_gval hA182 rfl rfl (g := true) (e := ((decide (r_108 = (0 - r_145))) && ((decide (r_108 = 0)) == r_164))) rfl (fun hg => r_move (cv_get (hA182.get rfl) hg)) fun a183 hA183 _ => ?_)
      refine sq (opk_gval hA183 rfl rfl (g := (true && (((decide (r_108 = (0 - r_145))) && ((decide (r_108 = 0)) == r_164)) == true))) (e := ((decide (r_108 ≤ 0)) && (decide (r_113 ≤ 0)))) rfl (fun hg => r_move (hA183.get rfl)) fun a184 hA184 _ => ?_)
      refine sq (opk_gval hA184 rfl rfl (g := (true && (((decide (r_108 = (0 - r_145))) && ((decide (r_108 = 0)) == r_164)) == true))) (e := ((decide (r_108 ≤ 0)) && (decide (r_113 ≤ 0)))) rfl (fun hg => r_gtr (cv_get (hA184.get rfl) hg) rfl) fun a185 hA185 _ => ?_)
      refine sq (opk_gval hA185 rfl rfl (g := true) (e := ((decide (r_108 = (0 - r_145))) && ((decide (r_108 = 0)) == r_164))) rfl (fun hg => r_pick_and (g := ((true && (((decide (r_108 = (0 - r_145))) && ((decide (r_108 = 0)) == r_164)) == true)) && (((decide (r_108 ≤ 0)) && (decide (r_113 ≤ 0))) == true))) (cv_get (hA185.get rfl) hg) (hA185.get rfl) (fun he => g_mkt hg he)) fun a186 hA186 _ => ?_)
      refine sq (opk_gval hA186 rfl rfl (g := true) (e := ((decide (r_108 = (0 - r_145))) && ((decide (r_108 = 0)) == r_164))) rfl (fun hg => r_not (cv_get (hA186.get rfl) hg)) fun a187 hA187 _ => ?_)
      refine sq (opk_val hA187 rfl (r_pick_and (g := (true && (((decide (r_108 = (0 - r_145))) && ((decide (r_108 = 0)) == r_164)) == true))) (hA187.get rfl) (hA187.get rfl) (fun he => g_mkt rfl he)) fun a188 hA188 _ => ?_)
      refine sq (opk_val hA188 rfl (r_move (hA188.get rfl)) fun a189 hA189 _ => ?_)
      refine sq (opk_gval hA189 rfl rfl (g := true) (e := (((decide (r_108 = (0 - r_145))) && ((decide (r_108 = 0)) == r_164)) && (!(((decide (r_108 ≤ 0)) && (decide (r_113 ≤ 0))) && (decide (0 < r_118)))))) rfl (fun hg => r_move (hA189.get rfl)) fun a190 hA190 _ => ?_)
      refine sq (opk_gval hA190 rfl rfl (g := true) (e := (((decide (r_108 = (0 - r_145))) && ((decide (r_108 = 0)) == r_164)) && (!(((decide (r_108 ≤ 0)) && (decide (r_113 ≤ 0))) && (decide (0 < r_118)))))) rfl (fun hg => r_lss (cv_get (hA190.get rfl) hg) rfl) fun a191 hA191 _ => ?_)
      refine sq (opk_gval hA191 rfl rfl (g := true) (e := (((decide (r_108 = (0 - r_145))) && ((decide (r_108 = 0)) == r_164)) && (!(((decide (r_108 ≤ 0)) && (decide (r_113 ≤ 0))) && (decide (0 < r_118)))))) rfl (fun hg => r_move (cv_get (hA191.get rfl) hg)) fun a192 hA192 _ => ?_)
      refine sq (opk_gval hA192 rfl rfl (g := (true && ((((decide (r_108 = (0 - r_145))) && ((decide (r_108 = 0)) == r_164)) && (!(((decide (r_108 ≤ 0)) && (decide (r_113 ≤ 0))) && (decide (0 < r_118))))) == true))) (e := (decide (r_108 < 0))) rfl (fun hg => r_move (hA192.get rfl)) fun a193 hA193 _ => ?_)
      refine sq (opk_gval hA193 rfl rfl (g := (true && ((((decide (r_108 = (0 - r_145))) && ((decide (r_108 = 0)) == r_164)) && (!(((decide (r_108 ≤ 0)) && (decide (r_113 ≤ 0))) && (decide (0 < r_118))))) == true))) (e := (decide (r_108 < 0))) rfl (fun hg => r_leq (cv_get (hA193.get rfl) hg) rfl) fun a194 hA194 _ => ?_)
      refine sq (opk_gval hA194 rfl rfl (g := true) (e := (((decide (r_108 = (0 - r_145))) && ((decide (r_108 = 0)) == r_164)) && (!(((decide (r_108 ≤ 0)) && (decide (r_113 ≤ 0))) && (decide (0 < r_118)))))) rfl (fun hg => r_pick_and (g := ((true && ((((decide (r_108 = (0 - r_145))) && ((decide (r_108 = 0)) == r_164)) && (!(((decide (r_108 ≤ 0)) && (decide (r_113 ≤ 0))) && (decide (0 < r_118))))) == true)) && ((decide (r_108 < 0)) == true))) (cv_get (hA194.get rfl) hg) (hA194.get rfl) (fun he => g_mkt hg he)) fun a195 hA195 _ => ?_)
      refine sq (opk_gval hA195 rfl rfl (g := true) (e := (((decide (r_108 = (0 - r_145))) && ((decide (r_108 = 0)) == r_164)) && (!(((decide (r_108 ≤ 0)) && (decide (r_113 ≤ 0))) && (decide (0 < r_118)))))) rfl (fun hg => r_move (cv_get (hA195.get rfl) hg)) fun a196 hA196 _ => ?_)
      refine sq (opk_gval hA196 rfl rfl (g := (true && ((((decide (r_108 = (0 - r_145))) && ((decide (r_108 = 0)) == r_164)) && (!(((decide (r_108 ≤ 0)) && (decide (r_113 ≤ 0))) && (decide (0 < r_118))))) == true))) (e := ((decide (r_108 < 0)) && (decide (r_113 ≤ 0)))) rfl (fun hg => r_move (hA196.get rfl)) fun a197 hA197 _ => ?_)
      refine sq (opk_gval hA197 rfl rfl (g := (true && ((((decide (r_108 = (0 - r_145))) && ((decide (r_108 = 0)) == r_164)) && (!(((decide (r_108 ≤ 0)) && (decide (r_113 ≤ 0))) && (decide (0 < r_118))))) == true))) (e := ((decide (r_108 < 0)) && (decide (r_113 ≤ 0)))) rfl (fun hg => r_geq (cv_get (hA197.get rfl) hg) rfl) fun a198 hA198 _ => ?_)
      refine sq (opk_gval hA198 rfl rfl (g := true) (e := (((decide (r_108 = (0 - r_145))) && ((decide (r_108 = 0)) == r_164)) && (!(((decide (r_108 ≤ 0)) && (decide (r_113 ≤ 0))) && (decide (0 < r_118)))))) rfl (fun hg => r_pick_and (g := ((true && ((((decide (r_108 = (0 - r_145))) && ((decide (r_108 = 0)) == r_164)) && (!(((decide (r_108 ≤ 0)) && (decide (r_113 ≤ 0))) && (decide (0 < r_118))))) == true)) && (((decide (r_108 < 0)) && (decide (r_113 ≤ 0))) == true))) (cv_get (hA198.get rfl) hg) (hA198.get rfl) (fun he => g_mkt hg he)) fun a199 hA199 _ => ?_)
      refine sq (opk_gval hA199 rfl rfl (g := true) (e := (((decide (r_108 = (0 - r_145))) && ((decide (r_108 = 0)) == r_164)) && (!(((decide (r_108 ≤ 0)) && (decide (r_113 ≤ 0))) && (decide (0 < r_118)))))) rfl (fun hg => r_not (cv_get (hA199.get rfl) hg)) fun a200 hA200 _ => ?_)
      refine sq (opk_val hA200 rfl (r_pick_and (g := (true && ((((decide (r_108 = (0 - r_145))) && ((decide (r_108 = 0)) == r_164)) && (!(((decide (r_108 ≤ 0)) && (decide (r_113 ≤ 0))) && (decide (0 < r_118))))) == true))) (hA200.get rfl) (hA200.get rfl) (fun he => g_mkt rfl he)) fun a201 hA201 _ => ?_)
      refine sq (opk_val hA201 rfl (r_move (hA201.get rfl)) fun a202 hA202 _ => ?_)
      obtain ⟨r_203, hc207, ht206⟩ := ht173
      refine sq (opk_gcall hA202 rfl rfl (g := true) (e := ((((decide (r_108 = (0 - r_145))) && ((decide (r_108 = 0)) == r_164)) && (!(((decide (r_108 ≤ 0)) && (decide (r_113 ≤ 0))) && (decide (0 < r_118))))) && (!(((decide (r_108 < 0)) && (decide (r_113 ≤ 0))) && (decide (0 ≤ r_118)))))) rfl (fun hg => r_call (args := #[]) Try.func15 (by decide) rfl (map_arr ml_nil) rfl) (fun hg => hc207 ⟨⟨⟨(of_decide_eq_true (b_and_t (b_and_t (b_and_t (g_t hg)).1).1).1), (b_and_t (b_and_t (b_and_t (g_t hg)).1).1).2⟩, ((b_and_f (b_not_t (b_and_t (b_and_t (g_t hg)).1).2)).imp (fun h => ((b_and_f h).imp (fun h => (of_decide_eq_false h)) (fun h => (of_decide_eq_false h)))) (fun h => (of_decide_eq_false h)))⟩, ((b_and_f (b_not_t (b_and_t (g_t hg)).2)).imp (fun h => ((b_and_f h).imp (fun h => (of_decide_eq_false h)) (fun h => (of_decide_eq_false h)))) (fun h => (of_decide_eq_false h)))⟩) fun a204 w205 hA204 _ hE208 => ?_)
      have hB209 := hB170.ext hE208
      have hB210 := hB171.ext hE208
      have hC211 : Chg [] w166 w205 := hE208
      have ht212 := ht206 w205 hE208
      refine sq (opk_val hA204 rfl (r_pick_and (g := (true && (((((decide (r_108 = (0 - r_145))) && ((decide (r_108 = 0)) == r_164)) && (!(((decide (r_108 ≤ 0)) && (decide (r_113 ≤ 0))) && (decide (0 < r_118))))) && (!(((decide (r_108 < 0)) && (decide (r_113 ≤ 0))) && (decide (0 ≤ r_118))))) == true))) (hA204.get rfl) (hA204.get rfl) (fun he => g_mkt rfl he)) fun a213 hA213 _ => ?_)
      refine sq (opk_val hA213 rfl (r_assign (hA213.get rfl)) fun a214 hA214 _ => ?_)
      refine sq_end ?_
      have hA215 := hA214.keep [(6, .bool (((((decide (r_108 = (0 - r_145))) && ((decide (r_108 = 0)) == r_164)) && (!(((decide (r_108 ≤ 0)) && (decide (r_113 ≤ 0))) && (decide (0 < r_118))))) && (!(((decide (r_108 < 0)) && (decide (r_113 ≤ 0))) && (decide (0 ≤ r_118))))) && r_203))] ⟨rfl, trivial⟩
      refine then_normal ?_
      refine wp_ret ?_
      exact res_all (vs := [.bool (((((decide (r_108 = (0 - r_145))) && ((decide (r_108 = 0)) == r_164)) && (!(((decide (r_108 ≤ 0)) && (decide (r_113 ≤ 0))) && (decide (0 < r_118))))) && (!(((decide (r_108 < 0)) && (decide (r_113 ≤ 0))) && (decide (0 ≤ r_118))))) && r_203)]) rfl hA215 ⟨res_of_tmp hA215 rfl, trivial⟩ ht212

end Go.Proofs.Ytpacegmmbabhjaa
