/-
  PRINTED BY PROGRAM: for each function its condition (vc), and that this suffices (ok).
-/
import Derived.Test.YtpacegmmbabhjaaGT
namespace Go.Proofs.Ytpacegmmbabhjaa
open Go.RowKit
set_option linter.unusedVariables false

/-- The condition of topiary/topiaryref05.Attr. -/
def ref05_Attr.vc (l_1 : Sl) (name_2 : Str) (R : Value → World → Prop) (w : World) : Prop :=
∃ (J_10 : Int → World → Prop) (mu_11 : Int → World → Nat),
J_10 0 w ∧
(∀ (i_8 : Int) (w9 : World), J_10 i_8 w9 →
((i_8 < (l_1.n : Int)) →
((0 : Int) ≤ i_8 ∧ i_8 < (l_1.n : Int)) ∧ ∃ p_72 : Addr, l_1.a = some p_72 ∧
∃ (x_79 : Str), (w9.cell? ((p_72.add (i_8.toNat * 2)).add 0) = some (.string (Bs x_79))) ∧
((x_79 = name_2) →
((0 : Int) ≤ i_8 ∧ i_8 < (l_1.n : Int)) ∧ ∃ p_89 : Addr, l_1.a = some p_89 ∧
∃ (x_96 : Str), (w9.cell? ((p_89.add (i_8.toNat * 2)).add 1) = some (.string (Bs x_96))) ∧
R (.tuple #[.string (Bs x_96), .bool true]) w9) ∧
((¬ (x_79 = name_2)) →
(I64 (i_8 + 1)) ∧
J_10 (i_8 + 1) w9 ∧ mu_11 (i_8 + 1) w9 < mu_11 i_8 w9)) ∧
((¬ (i_8 < (l_1.n : Int))) →
R (.tuple #[.string (Bs ([] : Str)), .bool false]) w9))
set_option maxHeartbeats 1000000 in
set_option maxRecDepth 10000 in
theorem ref05_Attr.ok (l_1 : Sl) (name_2 : Str) {R : Value → World → Prop} {w : World} (ht0 : ref05_Attr.vc l_1 name_2 R w) : Calls Try.prog 26 #[Sl.v l_1, .string (Bs name_2)] w (Ret R) := by
  refine enter [Sl.v l_1, .string (Bs name_2)] Try.func26 rfl Try.ntmps26 rfl ?_
  intro a0 hA0
  unfold ref05_Attr.vc at ht0
  refine wp_seq ?_
  refine wp_region_lit ?_
  refine sq (opk_val hA0 rfl (r_assign rfl) fun a3 hA3 _ => ?_)
  refine sq (opk_val hA3 rfl (r_assign rfl) fun a4 hA4 _ => ?_)
  refine sq_end ?_
  have hA5 := hA4.keep [(0, Sl.v l_1), (1, .string (Bs name_2))] ⟨rfl, rfl, trivial⟩
  refine then_normal ?_
  refine wp_seq ?_
  refine wp_seq ?_
  refine wp_region_lit ?_
  refine sq (opk_val hA5 rfl (r_assign rfl) fun a6 hA6 _ => ?_)
  refine sq_end ?_
  have hA7 := hA6.keep [(0, Sl.v l_1), (1, .string (Bs name_2)), (6, .int .i64 0)] ⟨rfl, rfl, rfl, trivial⟩
  refine then_normal ?_
  refine wp_block ?_
  obtain ⟨J_10, mu_11, h060, ht59⟩ := ht0
  refine wp_loop_st (σ := Int × World) (fun s a w => Ag 25 a [(0, Sl.v l_1), (1, .string (Bs name_2)), (6, .int .i64 s.1)] ∧ w = s.2 ∧ J_10 s.1 s.2) (fun s => mu_11 s.1 s.2) (0, w) ⟨hA7.keep [(0, Sl.v l_1), (1, .string (Bs name_2)), (6, .int .i64 0)] ⟨rfl, rfl, rfl, trivial⟩, rfl, h060⟩ ?_
  rintro ⟨i_8, w9⟩ a58 w_ ⟨hA58, hw_, hJ62⟩
  have hw_ : w9 = w_ := hw_.symm
  subst hw_
  have ht61 := ht59 i_8 _ hJ62
  refine wp_seq ?_
  refine wp_seq ?_
  refine wp_region_lit ?_
  refine sq (opk_val hA58 rfl (r_move (hA58.get rfl)) fun a63 hA63 _ => ?_)
  refine sq (opk_val hA63 rfl (r_move (hA63.get rfl)) fun a64 hA64 _ => ?_)
  refine sq (opk_val hA64 rfl (r_len (hA64.get rfl) Try.underlying23) fun a65 hA65 _ => ?_)
  refine sq (opk_val hA65 rfl (r_lss (hA65.get rfl) (hA65.get rfl)) fun a66 hA66 _ => ?_)
  refine sq_end ?_
  have hA67 := hA66.keep [(0, Sl.v l_1), (1, .string (Bs name_2)), (6, .int .i64 i_8), (10, .bool (decide (i_8 < (l_1.n : Int))))] ⟨rfl, rfl, rfl, rfl, trivial⟩
  refine then_normal ?_
  refine wp_cond_split (hA67.get rfl) (fun hc => ?_) (fun hc => ?_)
  · have ht68 := ht61.1 (of_decide_eq_true hc)
    clear hc
    refine wp_skip ?_
    refine then_normal ?_
    refine wp_seq ?_
    refine wp_block ?_
    refine wp_seq ?_
    refine wp_region_lit ?_
    refine sq (opk_val hA67 rfl (r_move (hA67.get rfl)) fun a70 hA70 _ => ?_)
    refine sq (opk_val hA70 rfl (r_move (hA70.get rfl)) fun a71 hA71 _ => ?_)
    obtain ⟨hb73, p_72, hp74, ht75⟩ := ht68
    refine sq (opk_val hA71 rfl (r_indexAddr (hA71.get rfl) (hA71.get rfl) Try.underlying23 ti_33 hb73 hp74) fun a76 hA76 _ => ?_)
    refine sq (opk_val hA76 rfl (r_fieldAddr (hA76.get rfl) Try.underlying33 rfl ti_9 (by decide)) fun a77 hA77 _ => ?_)
    obtain ⟨x_79, hx80, ht81⟩ := ht75
    refine sq (opk_val hA77 rfl (r_load1 Try.underlying9 rfl (hA77.get rfl) hx80) fun a78 hA78 _ => ?_)
    refine sq (opk_val hA78 rfl (r_move (hA78.get rfl)) fun a82 hA82 _ => ?_)
    refine sq (opk_val hA82 rfl (r_seql (hA82.get rfl) (hA82.get rfl)) fun a83 hA83 _ => ?_)
    refine sq_end ?_
    have hA84 := hA83.keep [(0, Sl.v l_1), (1, .string (Bs name_2)), (6, .int .i64 i_8), (19, .bool (decide (x_79 = name_2)))] ⟨rfl, rfl, rfl, rfl, trivial⟩
    refine then_normal ?_
    refine wp_cond_split (hA84.get rfl) (fun hc => ?_) (fun hc => ?_)
    · have ht85 := ht81.1 (of_decide_eq_true hc)
      clear hc
      refine wp_seq ?_
      refine wp_region_lit ?_
      refine sq (opk_val hA84 rfl (r_move (hA84.get rfl)) fun a87 hA87 _ => ?_)
      refine sq (opk_val hA87 rfl (r_move (hA87.get rfl)) fun a88 hA88 _ => ?_)
      obtain ⟨hb90, p_89, hp91, ht92⟩ := ht85
      refine sq (opk_val hA88 rfl (r_indexAddr (hA88.get rfl) (hA88.get rfl) Try.underlying23 ti_33 hb90 hp91) fun a93 hA93 _ => ?_)
      refine sq (opk_val hA93 rfl (r_fieldAddr (hA93.get rfl) Try.underlying33 rfl ti_9 (by decide)) fun a94 hA94 _ => ?_)
      obtain ⟨x_96, hx97, ht98⟩ := ht92
      refine sq (opk_val hA94 rfl (r_load1 Try.underlying9 rfl (hA94.get rfl) hx97) fun a95 hA95 _ => ?_)
      refine sq (opk_val hA95 rfl (r_assign (hA95.get rfl)) fun a99 hA99 _ => ?_)
      refine sq (opk_val hA99 rfl (r_assign rfl) fun a100 hA100 _ => ?_)
      refine sq_end ?_
      have hA101 := hA100.keep [(4, .string (Bs x_96)), (5, .bool true)] ⟨rfl, rfl, trivial⟩
      refine then_normal ?_
      refine wp_ret ?_
      refine block_ret ?_
      refine then_ret ?_
      refine then_ret ?_
      refine block_ret ?_
      refine then_ret ?_
      exact res_all (vs := [.string (Bs x_96), .bool true]) rfl hA101 ⟨res_of_tmp hA101 rfl, res_of_tmp hA101 rfl, trivial⟩ ht98
    · have ht86 := ht81.2 (of_decide_eq_false hc)
      clear hc
      refine wp_skip ?_
      refine block_normal ?_
      refine then_normal ?_
      refine wp_region_lit ?_
      refine sq (opk_val hA84 rfl (r_move (hA84.get rfl)) fun a102 hA102 _ => ?_)
      obtain ⟨hS104, ht105⟩ := ht86
      refine sq (opk_val hA102 rfl (r_addI (hA102.get rfl) rfl hS104) fun a103 hA103 _ => ?_)
      refine sq (opk_val hA103 rfl (r_assign (hA103.get rfl)) fun a106 hA106 _ => ?_)
      refine sq_end ?_
      have hA107 := hA106.keep [(0, Sl.v l_1), (1, .string (Bs name_2)), (6, .int .i64 (i_8 + 1))] ⟨rfl, rfl, rfl, trivial⟩
      have hA108 := hA107.keep [(0, Sl.v l_1), (1, .string (Bs name_2)), (6, .int .i64 (i_8 + 1))] ⟨rfl, rfl, rfl, trivial⟩
      exact then_normal ⟨(i_8 + 1, w9), ⟨hA108, rfl, ht105.1⟩, ht105.2⟩
  · have ht69 := ht61.2 (of_decide_eq_false hc)
    clear hc
    refine wp_exit ?_
    refine then_exit ?_
    refine then_exit ?_
    refine block_hit ?_
    have hA109 := hA67.keep [] trivial
    refine then_normal ?_
    refine wp_seq ?_
    refine wp_region_lit ?_
    refine sq (opk_val hA109 rfl (r_assign rfl) fun a110 hA110 _ => ?_)
    refine sq (opk_val hA110 rfl (r_assign rfl) fun a111 hA111 _ => ?_)
    refine sq_end ?_
    have hA112 := hA111.keep [(4, .string (Bs ([] : Str))), (5, .bool false)] ⟨rfl, rfl, trivial⟩
    refine then_normal ?_
    refine wp_ret ?_
    exact res_all (vs := [.string (Bs ([] : Str)), .bool false]) rfl hA112 ⟨res_of_tmp hA112 rfl, res_of_tmp hA112 rfl, trivial⟩ ht69

/-- The condition of topiary/topiaryref05.Check. -/
def ref05_Check.vc (t_1_Kind : Int) (t_1_Name : Str) (t_1_Text : Str) (t_1_Attrs : Sl) (t_1_Kids : Sl) (R : Value → World → Prop) (w : World) : Prop :=
∀ (w3 : World) (B_2 : Nat), New w B_2 w3 → Chg [] w w3 →
∃ (r_18 : Int), (((t_1_Kind = 1)) → Calls Try.prog 29 #[.agg #[.int .i64 t_1_Kind, .string (Bs t_1_Name), .string (Bs t_1_Text), Sl.v t_1_Attrs, Sl.v t_1_Kids]] w3 (Ret fun v w' => Ext w3 w' ∧ v = .int .i64 r_18)) ∧
(∀ w20 : World, Ext w3 w20 →
∃ (r_31 : Int), ((((t_1_Kind = 1) ∧ (r_18 ≤ 300))) → Calls Try.prog 30 #[.agg #[.int .i64 t_1_Kind, .string (Bs t_1_Name), .string (Bs t_1_Text), Sl.v t_1_Attrs, Sl.v t_1_Kids]] w20 (Ret fun v w' => Ext w20 w' ∧ v = .int .i64 r_31)) ∧
(∀ w33 : World, Ext w20 w33 →
∃ (r_44 : Bool), (((((t_1_Kind = 1) ∧ (r_18 ≤ 300)) ∧ (r_31 ≤ 60))) → Calls Try.prog 43 #[.agg #[.int .i64 t_1_Kind, .string (Bs t_1_Name), .string (Bs t_1_Text), Sl.v t_1_Attrs, Sl.v t_1_Kids], .bool true, .bool false] w33 (Ret fun v w' => Ext w33 w' ∧ v = .bool r_44)) ∧
(∀ w46 : World, Ext w33 w46 →
R (.bool ((((decide (t_1_Kind = 1)) && (decide (r_18 ≤ 300))) && (decide (r_31 ≤ 60))) && r_44)) w46)))
set_option maxHeartbeats 1000000 in
set_option maxRecDepth 10000 in
theorem ref05_Check.ok (t_1_Kind : Int) (t_1_Name : Str) (t_1_Text : Str) (t_1_Attrs : Sl) (t_1_Kids : Sl) {R : Value → World → Prop} {w : World} (ht0 : ref05_Check.vc t_1_Kind t_1_Name t_1_Text t_1_Attrs t_1_Kids R w) : Calls Try.prog 27 #[.agg #[.int .i64 t_1_Kind, .string (Bs t_1_Name), .string (Bs t_1_Text), Sl.v t_1_Attrs, Sl.v t_1_Kids]] w (Ret R) := by
  refine enter [.agg #[.int .i64 t_1_Kind, .string (Bs t_1_Name), .string (Bs t_1_Text), Sl.v t_1_Attrs, Sl.v t_1_Kids]] Try.func27 rfl Try.ntmps27 rfl ?_
  intro a0 hA0
  unfold ref05_Check.vc at ht0
  refine wp_seq ?_
  refine wp_region_lit ?_
  refine sq (opk_new (fun B => .pointer (some ⟨B, 0, none⟩)) hA0 rfl (r_box (cs := [.int .i64 t_1_Kind, .string (Bs t_1_Name), .string (Bs t_1_Text), Sl.v t_1_Attrs, Sl.v t_1_Kids]) (hA0.get rfl) rfl) fun a4 w3 B_2 hE5 hN6 hB7 hA4 _ => ?_)
  have hN8 : New w B_2 w3 := hN6
  have hC9 : Chg [] w w3 := hE5
  refine sq (opk_val hA4 rfl (r_assign rfl) fun a10 hA10 _ => ?_)
  refine sq_end ?_
  have hA11 := hA10.keep [(1, .pointer (some (⟨B_2, 0, none⟩ : Addr)))] ⟨rfl, trivial⟩
  refine then_normal ?_
  refine wp_seq ?_
  refine wp_region_lit ?_
  refine sq (opk_val hA11 rfl (r_fieldAddr (hA11.get rfl) Try.underlying26 rfl ti_3 (by decide)) fun a12 hA12 _ => ?_)
  refine sq (opk_val hA12 rfl (r_load1 Try.underlying3 rfl (hA12.get rfl) (hB7.cell 0 _ rfl)) fun a13 hA13 _ => ?_)
  refine sq (opk_val hA13 rfl (r_eql (hA13.get rfl) rfl) fun a14 hA14 _ => ?_)
  refine sq (opk_val hA14 rfl (r_move (hA14.get rfl)) fun a15 hA15 _ => ?_)
  refine sq (opk_gval hA15 rfl rfl (g := true) (e := (decide (t_1_Kind = 1))) rfl (fun hg => r_loadN (cs := [.int .i64 t_1_Kind, .string (Bs t_1_Name), .string (Bs t_1_Text), Sl.v t_1_Attrs, Sl.v t_1_Kids]) Try.underlying26 rfl ti_26 (hA15.get rfl) (hB7.part 0 _ rfl)) fun a16 hA16 _ => ?_)
  have ht17 := ht0 w3 B_2 hN8  hC9
  obtain ⟨r_18, hc22, ht21⟩ := ht17
  refine sq (opk_gcall hA16 rfl rfl (g := true) (e := (decide (t_1_Kind = 1))) rfl (fun hg => r_call (args := #[.agg #[.int .i64 t_1_Kind, .string (Bs t_1_Name), .string (Bs t_1_Text), Sl.v t_1_Attrs, Sl.v t_1_Kids]]) Try.func29 (by decide) rfl (map_arr (ml_cons (cv_get (hA16.get rfl) hg) ml_nil)) rfl) (fun hg => hc22 (of_decide_eq_true (g_t hg))) fun a19 w20 hA19 _ hE23 => ?_)
  have hB24 := hB7.ext hE23
  have hC25 : Chg [] w3 w20 := hE23
  have ht26 := ht21 w20 hE23
  refine sq (opk_gval hA19 rfl rfl (g := true) (e := (decide (t_1_Kind = 1))) rfl (fun hg => r_leq (cv_get (hA19.get rfl) hg) rfl) fun a27 hA27 _ => ?_)
  refine sq (opk_val hA27 rfl (r_pick_and (g := (true && ((decide (t_1_Kind = 1)) == true))) (hA27.get rfl) (hA27.get rfl) (fun he => g_mkt rfl he)) fun a28 hA28 _ => ?_)
  refine sq (opk_val hA28 rfl (r_move (hA28.get rfl)) fun a29 hA29 _ => ?_)
  refine sq (opk_gval hA29 rfl rfl (g := true) (e := ((decide (t_1_Kind = 1)) && (decide (r_18 ≤ 300)))) rfl (fun hg => r_loadN (cs := [.int .i64 t_1_Kind, .string (Bs t_1_Name), .string (Bs t_1_Text), Sl.v t_1_Attrs, Sl.v t_1_Kids]) Try.underlying26 rfl ti_26 (hA29.get rfl) (hB24.part 0 _ rfl)) fun a30 hA30 _ => ?_)
  obtain ⟨r_31, hc35, ht34⟩ := ht26
  refine sq (opk_gcall hA30 rfl rfl (g := true) (e := ((decide (t_1_Kind = 1)) && (decide (r_18 ≤ 300)))) rfl (fun hg => r_call (args := #[.agg #[.int .i64 t_1_Kind, .string (Bs t_1_Name), .string (Bs t_1_Text), Sl.v t_1_Attrs, Sl.v t_1_Kids]]) Try.func30 (by decide) rfl (map_arr (ml_cons (cv_get (hA30.get rfl) hg) ml_nil)) rfl) (fun hg => hc35 ⟨(of_decide_eq_true (b_and_t (g_t hg)).1), (of_decide_eq_true (b_and_t (g_t hg)).2)⟩) fun a32 w33 hA32 _ hE36 => ?_)
  have hB37 := hB24.ext hE36
  have hC38 : Chg [] w20 w33 := hE36
  have ht39 := ht34 w33 hE36
  refine sq (opk_gval hA32 rfl rfl (g := true) (e := ((decide (t_1_Kind = 1)) && (decide (r_18 ≤ 300)))) rfl (fun hg => r_leq (cv_get (hA32.get rfl) hg) rfl) fun a40 hA40 _ => ?_)
  refine sq (opk_val hA40 rfl (r_pick_and (g := (true && (((decide (t_1_Kind = 1)) && (decide (r_18 ≤ 300))) == true))) (hA40.get rfl) (hA40.get rfl) (fun he => g_mkt rfl he)) fun a41 hA41 _ => ?_)
  refine sq (opk_val hA41 rfl (r_move (hA41.get rfl)) fun a42 hA42 _ => ?_)
  refine sq (opk_gval hA42 rfl rfl (g := true) (e := (((decide (t_1_Kind = 1)) && (decide (r_18 ≤ 300))) && (decide (r_31 ≤ 60)))) rfl (fun hg => r_loadN (cs := [.int .i64 t_1_Kind, .string (Bs t_1_Name), .string (Bs t_1_Text), Sl.v t_1_Attrs, Sl.v t_1_Kids]) Try.underlying26 rfl ti_26 (hA42.get rfl) (hB37.part 0 _ rfl)) fun a43 hA43 _ => ?_)
  obtain ⟨r_44, hc48, ht47⟩ := ht39
  refine sq (opk_gcall hA43 rfl rfl (g := true) (e := (((decide (t_1_Kind = 1)) && (decide (r_18 ≤ 300))) && (decide (r_31 ≤ 60)))) rfl (fun hg => r_call (args := #[.agg #[.int .i64 t_1_Kind, .string (Bs t_1_Name), .string (Bs t_1_Text), Sl.v t_1_Attrs, Sl.v t_1_Kids], .bool true, .bool false]) Try.func43 (by decide) rfl (map_arr (ml_cons (cv_get (hA43.get rfl) hg) (ml_cons rfl (ml_cons rfl ml_nil)))) rfl) (fun hg => hc48 ⟨⟨(of_decide_eq_true (b_and_t (b_and_t (g_t hg)).1).1), (of_decide_eq_true (b_and_t (b_and_t (g_t hg)).1).2)⟩, (of_decide_eq_true (b_and_t (g_t hg)).2)⟩) fun a45 w46 hA45 _ hE49 => ?_)
  have hB50 := hB37.ext hE49
  have hC51 : Chg [] w33 w46 := hE49
  have ht52 := ht47 w46 hE49
  refine sq (opk_val hA45 rfl (r_pick_and (g := (true && ((((decide (t_1_Kind = 1)) && (decide (r_18 ≤ 300))) && (decide (r_31 ≤ 60))) == true))) (hA45.get rfl) (hA45.get rfl) (fun he => g_mkt rfl he)) fun a53 hA53 _ => ?_)
  refine sq (opk_val hA53 rfl (r_assign (hA53.get rfl)) fun a54 hA54 _ => ?_)
  refine sq_end ?_
  have hA55 := hA54.keep [(2, .bool ((((decide (t_1_Kind = 1)) && (decide (r_18 ≤ 300))) && (decide (r_31 ≤ 60))) && r_44))] ⟨rfl, trivial⟩
  refine then_normal ?_
  refine wp_ret ?_
  exact res_all (vs := [.bool ((((decide (t_1_Kind = 1)) && (decide (r_18 ≤ 300))) && (decide (r_31 ≤ 60))) && r_44)]) rfl hA55 ⟨res_of_tmp hA55 rfl, trivial⟩ ht52

/-- The condition of topiary/topiaryref05.Name. -/
def ref05_Name.vc (s_1 : Str) (R : Value → World → Prop) (w : World) : Prop :=
((((s_1.length : Int) < 1) ∨ (32 < (s_1.length : Int))) →
R (.bool false) w) ∧
(((¬ ((s_1.length : Int) < 1)) ∧ (¬ (32 < (s_1.length : Int)))) →
∃ (J_21 : Int → World → Prop) (mu_22 : Int → World → Nat),
J_21 0 w ∧
(∀ (i_19 : Int) (w20 : World), J_21 i_19 w20 →
((i_19 < (s_1.length : Int)) →
((0 : Int) ≤ i_19 ∧ i_19 < (s_1.length : Int)) ∧
CallK Try.prog 44 #[.int .u8 ((s_1.getD i_19.toNat 0).toNat : Int)] w20 [] (fun v w116 => ∃ (r_114 : Bool), v = .bool r_114 ∧
((((((((((r_114 = true) ∨ (((s_1.getD i_19.toNat 0).toNat : Int) = 0)) ∨ (((s_1.getD i_19.toNat 0).toNat : Int) = 34)) ∨ (((s_1.getD i_19.toNat 0).toNat : Int) = 39)) ∨ (((s_1.getD i_19.toNat 0).toNat : Int) = 62)) ∨ (((s_1.getD i_19.toNat 0).toNat : Int) = 47)) ∨ (((s_1.getD i_19.toNat 0).toNat : Int) = 61)) ∨ (((s_1.getD i_19.toNat 0).toNat : Int) = 60)) ∨ ((65 ≤ ((s_1.getD i_19.toNat 0).toNat : Int)) ∧ (((s_1.getD i_19.toNat 0).toNat : Int) ≤ 90))) →
R (.bool false) w116) ∧
((((((((((r_114 = false) ∧ (¬ (((s_1.getD i_19.toNat 0).toNat : Int) = 0))) ∧ (¬ (((s_1.getD i_19.toNat 0).toNat : Int) = 34))) ∧ (¬ (((s_1.getD i_19.toNat 0).toNat : Int) = 39))) ∧ (¬ (((s_1.getD i_19.toNat 0).toNat : Int) = 62))) ∧ (¬ (((s_1.getD i_19.toNat 0).toNat : Int) = 47))) ∧ (¬ (((s_1.getD i_19.toNat 0).toNat : Int) = 61))) ∧ (¬ (((s_1.getD i_19.toNat 0).toNat : Int) = 60))) ∧ ((¬ (65 ≤ ((s_1.getD i_19.toNat 0).toNat : Int))) ∨ (¬ (((s_1.getD i_19.toNat 0).toNat : Int) ≤ 90)))) →
(I64 (i_19 + 1)) ∧
J_21 (i_19 + 1) w116 ∧ mu_22 (i_19 + 1) w116 < mu_22 i_19 w20))) ∧
((¬ (i_19 < (s_1.length : Int))) →
R (.bool true) w20)))
set_option maxHeartbeats 1000000 in
set_option maxRecDepth 10000 in
theorem ref05_Name.ok (s_1 : Str) {R : Value → World → Prop} {w : World} (ht0 : ref05_Name.vc s_1 R w) : Calls Try.prog 28 #[.string (Bs s_1)] w (Ret R) := by
  refine enter [.string (Bs s_1)] Try.func28 rfl Try.ntmps28 rfl ?_
  intro a0 hA0
  unfold ref05_Name.vc at ht0
  refine wp_seq ?_
  refine wp_region_lit ?_
  refine sq (opk_val hA0 rfl (r_assign rfl) fun a2 hA2 _ => ?_)
  refine sq_end ?_
  have hA3 := hA2.keep [(0, .string (Bs s_1))] ⟨rfl, trivial⟩
  refine then_normal ?_
  refine wp_seq ?_
  refine wp_seq ?_
  refine wp_region_lit ?_
  refine sq (opk_val hA3 rfl (r_move (hA3.get rfl)) fun a4 hA4 _ => ?_)
  refine sq (opk_val hA4 rfl (r_slen (hA4.get rfl) Try.underlying9) fun a5 hA5 _ => ?_)
  refine sq (opk_val hA5 rfl (r_lss (hA5.get rfl) rfl) fun a6 hA6 _ => ?_)
  refine sq (opk_val hA6 rfl (r_move (hA6.get rfl)) fun a7 hA7 _ => ?_)
  refine sq (opk_gval hA7 rfl rfl (g := true) (e := (decide ((s_1.length : Int) < 1))) rfl (fun hg => r_move (hA7.get rfl)) fun a8 hA8 _ => ?_)
  refine sq (opk_gval hA8 rfl rfl (g := true) (e := (decide ((s_1.length : Int) < 1))) rfl (fun hg => r_slen (cv_get (hA8.get rfl) hg) Try.underlying9) fun a9 hA9 _ => ?_)
  refine sq (opk_gval hA9 rfl rfl (g := true) (e := (decide ((s_1.length : Int) < 1))) rfl (fun hg => r_gtr (cv_get (hA9.get rfl) hg) rfl) fun a10 hA10 _ => ?_)
  refine sq (opk_val hA10 rfl (r_pick_or (g := (true && ((decide ((s_1.length : Int) < 1)) == false))) (hA10.get rfl) (hA10.get rfl) (fun he => g_mkf rfl he)) fun a11 hA11 _ => ?_)
  refine sq_end ?_
  have hA12 := hA11.keep [(0, .string (Bs s_1)), (12, .bool ((decide ((s_1.length : Int) < 1)) || (decide (32 < (s_1.length : Int)))))] ⟨rfl, rfl, trivial⟩
  refine then_normal ?_
  refine wp_cond_split (hA12.get rfl) (fun hc => ?_) (fun hc => ?_)
  · have ht13 := ht0.1 ((b_or_t hc).imp (fun h => (of_decide_eq_true h)) (fun h => (of_decide_eq_true h)))
    clear hc
    refine wp_seq ?_
    refine wp_region_lit ?_
    refine sq (opk_val hA12 rfl (r_assign rfl) fun a15 hA15 _ => ?_)
    refine sq_end ?_
    have hA16 := hA15.keep [(2, .bool false)] ⟨rfl, trivial⟩
    refine then_normal ?_
    refine wp_ret ?_
    refine then_ret ?_
    exact res_all (vs := [.bool false]) rfl hA16 ⟨res_of_tmp hA16 rfl, trivial⟩ ht13
  · have ht14 := ht0.2 ⟨(of_decide_eq_false (b_or_f hc).1), (of_decide_eq_false (b_or_f hc).2)⟩
    clear hc
    refine wp_skip ?_
    refine then_normal ?_
    refine wp_seq ?_
    refine wp_seq ?_
    refine wp_region_lit ?_
    refine sq (opk_val hA12 rfl (r_assign rfl) fun a17 hA17 _ => ?_)
    refine sq_end ?_
    have hA18 := hA17.keep [(0, .string (Bs s_1)), (3, .int .i64 0)] ⟨rfl, rfl, trivial⟩
    refine then_normal ?_
    refine wp_block ?_
    obtain ⟨J_21, mu_22, h096, ht95⟩ := ht14
    refine wp_loop_st (σ := Int × World) (fun s a w => Ag 60 a [(0, .string (Bs s_1)), (3, .int .i64 s.1)] ∧ w = s.2 ∧ J_21 s.1 s.2) (fun s => mu_22 s.1 s.2) (0, w) ⟨hA18.keep [(0, .string (Bs s_1)), (3, .int .i64 0)] ⟨rfl, rfl, trivial⟩, rfl, h096⟩ ?_
    rintro ⟨i_19, w20⟩ a94 w_ ⟨hA94, hw_, hJ98⟩
    have hw_ : w20 = w_ := hw_.symm
    subst hw_
    have ht97 := ht95 i_19 _ hJ98
    refine wp_seq ?_
    refine wp_seq ?_
    refine wp_region_lit ?_
    refine sq (opk_val hA94 rfl (r_move (hA94.get rfl)) fun a99 hA99 _ => ?_)
    refine sq (opk_val hA99 rfl (r_move (hA99.get rfl)) fun a100 hA100 _ => ?_)
    refine sq (opk_val hA100 rfl (r_slen (hA100.get rfl) Try.underlying9) fun a101 hA101 _ => ?_)
    refine sq (opk_val hA101 rfl (r_lss (hA101.get rfl) (hA101.get rfl)) fun a102 hA102 _ => ?_)
    refine sq_end ?_
    have hA103 := hA102.keep [(0, .string (Bs s_1)), (3, .int .i64 i_19), (16, .bool (decide (i_19 < (s_1.length : Int))))] ⟨rfl, rfl, rfl, trivial⟩
    refine then_normal ?_
    refine wp_cond_split (hA103.get rfl) (fun hc => ?_) (fun hc => ?_)
    · have ht104 := ht97.1 (of_decide_eq_true hc)
      clear hc
      refine wp_skip ?_
      refine then_normal ?_
      refine wp_seq ?_
      refine wp_block ?_
      refine wp_seq ?_
      refine wp_region_lit ?_
      refine sq (opk_val hA103 rfl (r_move (hA103.get rfl)) fun a106 hA106 _ => ?_)
      refine sq (opk_val hA106 rfl (r_move (hA106.get rfl)) fun a107 hA107 _ => ?_)
      obtain ⟨hS109, ht110⟩ := ht104
      refine sq (opk_val hA107 rfl (r_sindex (hA107.get rfl) (hA107.get rfl) Try.underlying9 hS109) fun a108 hA108 _ => ?_)
      refine sq (opk_val hA108 rfl (r_assign (hA108.get rfl)) fun a111 hA111 _ => ?_)
      refine sq_end ?_
      have hA112 := hA111.keep [(0, .string (Bs s_1)), (3, .int .i64 i_19), (4, .int .u8 ((s_1.getD i_19.toNat 0).toNat : Int))] ⟨rfl, rfl, rfl, trivial⟩
      refine then_normal ?_
      refine wp_seq ?_
      refine wp_region_lit ?_
      refine sq (opk_val hA112 rfl (r_move (hA112.get rfl)) fun a113 hA113 _ => ?_)
      refine sq (opk_call hA113 rfl (r_call (args := #[.int .u8 ((s_1.getD i_19.toNat 0).toNat : Int)]) Try.func44 (by decide) rfl (map_arr (ml_cons (hA113.get rfl) ml_nil)) rfl) ht110 fun a115 v121 w116 hA115 _ hn118 hz119 hK120 => ?_)
      obtain ⟨r_114, rfl, ht117⟩ := hK120
      refine sq (opk_val hA115 rfl (r_move (hA115.get rfl)) fun a122 hA122 _ => ?_)
      refine sq (opk_gval hA122 rfl rfl (g := true) (e := r_114) rfl (fun hg => r_move (hA122.get rfl)) fun a123 hA123 _ => ?_)
      refine sq (opk_gval hA123 rfl rfl (g := true) (e := r_114) rfl (fun hg => r_eql (cv_get (hA123.get rfl) hg) rfl) fun a124 hA124 _ => ?_)
      refine sq (opk_val hA124 rfl (r_pick_or (g := (true && (r_114 == false))) (hA124.get rfl) (hA124.get rfl) (fun he => g_mkf rfl he)) fun a125 hA125 _ => ?_)
      refine sq (opk_val hA125 rfl (r_move (hA125.get rfl)) fun a126 hA126 _ => ?_)
      refine sq (opk_gval hA126 rfl rfl (g := true) (e := (r_114 || (decide (((s_1.getD i_19.toNat 0).toNat : Int) = 0)))) rfl (fun hg => r_move (hA126.get rfl)) fun a127 hA127 _ => ?_)
      refine sq (opk_gval hA127 rfl rfl (g := true) (e := (r_114 || (decide (((s_1.getD i_19.toNat 0).toNat : Int) = 0)))) rfl (fun hg => r_eql (cv_get (hA127.get rfl) hg) rfl) fun a128 hA128 _ => ?_)
      refine sq (opk_val hA128 rfl (r_pick_or (g := (true && ((r_114 || (decide (((s_1.getD i_19.toNat 0).toNat : Int) = 0))) == false))) (hA128.get rfl) (hA128.get rfl) (fun he => g_mkf rfl he)) fun a129 hA129 _ => ?_)
      refine sq (opk_val hA129 rfl (r_move (hA129.get rfl)) fun a130 hA130 _ => ?_)
      refine sq (opk_gval hA130 rfl rfl (g := true) (e := ((r_114 || (decide (((s_1.getD i_19.toNat 0).toNat : Int) = 0))) || (decide (((s_1.getD i_19.toNat 0).toNat : Int) = 34)))) rfl (fun hg => r_move (hA130.get rfl)) fun a131 hA131 _ => ?_)
      refine sq (opk_gval hA131 rfl rfl (g := true) (e := ((r_114 || (decide (((s_1.getD i_19.toNat 0).toNat : Int) = 0))) || (decide (((s_1.getD i_19.toNat 0).toNat : Int) = 34)))) rfl (fun hg => r_eql (cv_get (hA131.get rfl) hg) rfl) fun a132 hA132 _ => ?_)
      refine sq (opk_val hA132 rfl (r_pick_or (g := (true && (((r_114 || (decide (((s_1.getD i_19.toNat 0).toNat : Int) = 0))) || (decide (((s_1.getD i_19.toNat 0).toNat : Int) = 34))) == false))) (hA132.get rfl) (hA132.get rfl) (fun he => g_mkf rfl he)) fun a133 hA133 _ => ?_)
      refine sq (opk_val hA133 rfl (r_move (hA133.get rfl)) fun a134 hA134 _ => ?_)
      refine sq (opk_gval hA134 rfl rfl (g := true) (e := (((r_114 || (decide (((s_1.getD i_19.toNat 0).toNat : Int) = 0))) || (decide (((s_1.getD i_19.toNat 0).toNat : Int) = 34))) || (decide (((s_1.getD i_19.toNat 0).toNat : Int) = 39)))) rfl (fun hg => r_move (hA134.get rfl)) fun a135 hA135 _ => ?_)
      refine sq (opk_gval hA135 rfl rfl (g := true) (e := (((r_114 || (decide (((s_1.getD i_19.toNat 0).toNat : Int) = 0))) || (decide (((s_1.getD i_19.toNat 0).toNat : Int) = 34))) || (decide (((s_1.getD i_19.toNat 0).toNat : Int) = 39)))) rfl (fun hg => r_eql (cv_get (hA135.get rfl) hg) rfl) fun a136 hA136 _ => ?_)
      refine sq (opk_val hA136 rfl (r_pick_or (g := (true && ((((r_114 || (decide (((s_1.getD i_19.toNat 0).toNat : Int) = 0))) || (decide (((s_1.getD i_19.toNat 0).toNat : Int) = 34))) || (decide (((s_1.getD i_19.toNat 0).toNat : Int) = 39))) == false))) (hA136.get rfl) (hA136.get rfl) (fun he => g_mkf rfl he)) fun a137 hA137 _ => ?_)
      refine sq (opk_val hA137 rfl (r_move (hA137.get rfl)) fun a138 hA138 _ => ?_)
      refine sq (opk_gval hA138 rfl rfl (g := true) (e := ((((r_114 || (decide (((s_1.getD i_19.toNat 0).toNat : Int) = 0))) || (decide (((s_1.getD i_19.toNat 0).toNat : Int) = 34))) || (decide (((s_1.getD i_19.toNat 0).toNat : Int) = 39))) || (decide (((s_1.getD i_19.toNat 0).toNat : Int) = 62)))) rfl (fun hg => r_move (hA138.get rfl)) fun a139 hA139 _ => ?_)
      refine sq (opk_gval hA139 rfl rfl (g := true) (e := ((((r_114 || (decide (((s_1.getD i_19.toNat 0).toNat : Int) = 0))) || (decide (((s_1.getD i_19.toNat 0).toNat : Int) = 34))) || (decide (((s_1.getD i_19.toNat 0).toNat : Int) = 39))) || (decide (((s_1.getD i_19.toNat 0).toNat : Int) = 62)))) rfl (fun hg => r_eql (cv_get (hA139.get rfl) hg) rfl) fun a140 hA140 _ => ?_)
      refine sq (opk_val hA140 rfl (r_pick_or (g := (true && (((((r_114 || (decide (((s_1.getD i_19.toNat 0).toNat : Int) = 0))) || (decide (((s_1.getD i_19.toNat 0).toNat : Int) = 34))) || (decide (((s_1.getD i_19.toNat 0).toNat : Int) = 39))) || (decide (((s_1.getD i_19.toNat 0).toNat : Int) = 62))) == false))) (hA140.get rfl) (hA140.get rfl) (fun he => g_mkf rfl he)) fun a141 hA141 _ => ?_)
      refine sq (opk_val hA141 rfl (r_move (hA141.get rfl)) fun a142 hA142 _ => ?_)
      refine sq (opk_gval hA142 rfl rfl (g := true) (e := (((((r_114 || (decide (((s_1.getD i_19.toNat 0).toNat : Int) = 0))) || (decide (((s_1.getD i_19.toNat 0).toNat : Int) = 34))) || (decide (((s_1.getD i_19.toNat 0).toNat : Int) = 39))) || (decide (((s_1.getD i_19.toNat 0).toNat : Int) = 62))) || (decide (((s_1.getD i_19.toNat 0).toNat : Int) = 47)))) rfl (fun hg => r_move (hA142.get rfl)) fun a143 hA143 _ => ?_)
      refine sq (opk_gval hA143 rfl rfl (g := true) (e := (((((r_114 || (decide (((s_1.getD i_19.toNat 0).toNat : Int) = 0))) || (decide (((s_1.getD i_19.toNat 0).toNat : Int) = 34))) || (decide (((s_1.getD i_19.toNat 0).toNat : Int) = 39))) || (decide (((s_1.getD i_19.toNat 0).toNat : Int) = 62))) || (decide (((s_1.getD i_19.toNat 0).toNat : Int) = 47)))) rfl (fun hg => r_eql (cv_get (hA143.get rfl) hg) rfl) fun a144 hA144 _ => ?_)
      refine sq (opk_val hA144 rfl (r_pick_or (g := (true && ((((((r_114 || (decide (((s_1.getD i_19.toNat 0).toNat : Int) = 0))) || (decide (((s_1.getD i_19.toNat 0).toNat : Int) = 34))) || (decide (((s_1.getD i_19.toNat 0).toNat : Int) = 39))) || (decide (((s_1.getD i_19.toNat 0).toNat : Int) = 62))) || (decide (((s_1.getD i_19.toNat 0).toNat : Int) = 47))) == false))) (hA144.get rfl) (hA144.get rfl) (fun he => g_mkf rfl he)) fun a145 hA145 _ => ?_)
      refine sq (opk_val hA145 rfl (r_move (hA145.get rfl)) fun a146 hA146 _ => ?_)
      refine sq (opk_gval hA146 rfl rfl (g := true) (e := ((((((r_114 || (decide (((s_1.getD i_19.toNat 0).toNat : Int) = 0))) || (decide (((s_1.getD i_19.toNat 0).toNat : Int) = 34))) || (decide (((s_1.getD i_19.toNat 0).toNat : Int) = 39))) || (decide (((s_1.getD i_19.toNat 0).toNat : Int) = 62))) || (decide (((s_1.getD i_19.toNat 0).toNat : Int) = 47))) || (decide (((s_1.getD i_19.toNat 0).toNat : Int) = 61)))) rfl (fun hg => r_move (hA146.get rfl)) fun a147 hA147 _ => ?_)
      refine sq (opk_gval hA147 rfl rfl (g := true) (e := ((((((r_114 || (decide (((s_1.getD i_19.toNat 0).toNat : Int) = 0))) || (decide (((s_1.getD i_19.toNat 0).toNat : Int) = 34))) || (decide (((s_1.getD i_19.toNat 0).toNat : Int) = 39))) || (decide (((s_1.getD i_19.toNat 0).toNat : Int) = 62))) || (decide (((s_1.getD i_19.toNat 0).toNat : Int) = 47))) || (decide (((s_1.getD i_19.toNat 0).toNat : Int) = 61)))) rfl (fun hg => r_eql (cv_get (hA147.get rfl) hg) rfl) fun a148 hA148 _ => ?_)
      refine sq (opk_val hA148 rfl (r_pick_or (g := (true && (((((((r_114 || (decide (((s_1.getD i_19.toNat 0).toNat : Int) = 0))) || (decide (((s_1.getD i_19.toNat 0).toNat : Int) = 34))) || (decide (((s_1.getD i_19.toNat 0).toNat : Int) = 39))) || (decide (((s_1.getD i_19.toNat 0).toNat : Int) = 62))) || (decide (((s_1.getD i_19.toNat 0).toNat : Int) = 47))) || (decide (((s_1.getD i_19.toNat 0).toNat : Int) = 61))) == false))) (hA148.get rfl) (hA148.get rfl) (fun he => g_mkf rfl he)) fun a149 hA149 _ => ?_)
      refine sq (opk_val hA149 rfl (r_move (hA149.get rfl)) fun a150 hA150 _ => ?_)
      refine sq (opk_gval hA150 rfl rfl (g := true) (e := (((((((r_114 || (decide (((s_1.getD i_19.toNat 0).toNat : Int) = 0))) || (decide (((s_1.getD i_19.toNat 0).toNat : Int) = 34))) || (decide (((s_1.getD i_19.toNat 0).toNat : Int) = 39))) || (decide (((s_1.getD i_19.toNat 0).toNat : Int) = 62))) || (decide (((s_1.getD i_19.toNat 0).toNat : Int) = 47))) || (decide (((s_1.getD i_19.toNat 0).toNat : Int) = 61))) || (decide (((s_1.getD i_19.toNat 0).toNat : Int) = 60)))) rfl (fun hg => r_move (hA150.get rfl)) fun a151 hA151 _ => ?_)
      refine sq (opk_gval hA151 rfl rfl (g := true) (e := (((((((r_114 || (decide (((s_1.getD i_19.toNat 0).toNat : Int) = 0))) || (decide (((s_1.getD i_19.toNat 0).toNat : Int) = 34))) || (decide (((s_1.getD i_19.toNat 0).toNat : Int) = 39))) || (decide (((s_1.getD i_19.toNat 0).toNat : Int) = 62))) || (decide (((s_1.getD i_19.toNat 0).toNat : Int) = 47))) || (decide (((s_1.getD i_19.toNat 0).toNat : Int) = 61))) || (decide (((s_1.getD i_19.toNat 0).toNat : Int) = 60)))) rfl (fun hg => r_geq (cv_get (hA151.get rfl) hg) rfl) fun a152 hA152 _ => ?_)
      refine sq (opk_gval hA152 rfl rfl (g := true) (e := (((((((r_114 || (decide (((s_1.getD i_19.toNat 0).toNat : Int) = 0))) || (decide (((s_1.getD i_19.toNat 0).toNat : Int) = 34))) || (decide (((s_1.getD i_19.toNat 0).toNat : Int) = 39))) || (decide (((s_1.getD i_19.toNat 0).toNat : Int) = 62))) || (decide (((s_1.getD i_19.toNat 0).toNat : Int) = 47))) || (decide (((s_1.getD i_19.toNat 0).toNat : Int) = 61))) || (decide (((s_1.getD i_19.toNat 0).toNat : Int) = 60)))) rfl (fun hg => r_move (cv_get (hA152.get rfl) hg)) fun a153 hA153 _ => ?_)
      refine sq (opk_gval hA153 rfl rfl (g := (true && ((((((((r_114 || (decide (((s_1.getD i_19.toNat 0).toNat : Int) = 0))) || (decide (((s_1.getD i_19.toNat 0).toNat : Int) = 34))) || (decide (((s_1.getD i_19.toNat 0).toNat : Int) = 39))) || (decide (((s_1.getD i_19.toNat 0).toNat : Int) = 62))) || (decide (((s_1.getD i_19.toNat 0).toNat : Int) = 47))) || (decide (((s_1.getD i_19.toNat 0).toNat : Int) = 61))) || (decide (((s_1.getD i_19.toNat 0).toNat : Int) = 60))) == false))) (e := (decide (65 ≤ ((s_1.getD i_19.toNat 0).toNat : Int)))) rfl (fun hg => r_move (hA153.get rfl)) fun a154 hA154 _ => ?_)
      refine sq (opk_gval hA154 rfl rfl (g := (true && ((((((((r_114 || (decide (((s_1.getD i_19.toNat 0).toNat : Int) = 0))) || (decide (((s_1.getD i_19.toNat 0).toNat : Int) = 34))) || (decide (((s_1.getD i_19.toNat 0).toNat : Int) = 39))) || (decide (((s_1.getD i_19.toNat 0).toNat : Int) = 62))) || (decide (((s_1.getD i_19.toNat 0).toNat : Int) = 47))) || (decide (((s_1.getD i_19.toNat 0).toNat : Int) = 61))) || (decide (((s_1.getD i_19.toNat 0).toNat : Int) = 60))) == false))) (e := (decide (65 ≤ ((s_1.getD i_19.toNat 0).toNat : Int)))) rfl (fun hg => r_leq (cv_get (hA154.get rfl) hg) rfl) fun a155 hA155 _ => ?_)
      refine sq (opk_gval hA155 rfl rfl (g := true) (e := (((((((r_114 || (decide (((s_1.getD i_19.toNat 0).toNat : Int) = 0))) || (decide (((s_1.getD i_19.toNat 0).toNat : Int) = 34))) || (decide (((s_1.getD i_19.toNat 0).toNat : Int) = 39))) || (decide (((s_1.getD i_19.toNat 0).toNat : Int) = 62))) || (decide (((s_1.getD i_19.toNat 0).toNat : Int) = 47))) || (decide (((s_1.getD i_19.toNat 0).toNat : Int) = 61))) || (decide (((s_1.getD i_19.toNat 0).toNat : Int) = 60)))) rfl (fun hg => r_pick_and (g := ((true && ((((((((r_114 || (decide (((s_1.getD i_19.toNat 0).toNat : Int) = 0))) || (decide (((s_1.getD i_19.toNat 0).toNat : Int) = 34))) || (decide (((s_1.getD i_19.toNat 0).toNat : Int) = 39))) || (decide (((s_1.getD i_19.toNat 0).toNat : Int) = 62))) || (decide (((s_1.getD i_19.toNat 0).toNat : Int) = 47))) || (decide (((s_1.getD i_19.toNat 0).toNat : Int) = 61))) || (decide (((s_1.getD i_19.toNat 0).toNat : Int) = 60))) == false)) && ((decide (65 ≤ ((s_1.getD i_19.toNat 0).toNat : Int))) == true))) (cv_get (hA155.get rfl) hg) (hA155.get rfl) (fun he => g_mkt hg he)) fun a156 hA156 _ => ?_)
      refine sq (opk_val hA156 rfl (r_pick_or (g := (true && ((((((((r_114 || (decide (((s_1.getD i_19.toNat 0).toNat : Int) = 0))) || (decide (((s_1.getD i_19.toNat 0).toNat : Int) = 34))) || (decide (((s_1.getD i_19.toNat 0).toNat : Int) = 39))) || (decide (((s_1.getD i_19.toNat 0).toNat : Int) = 62))) || (decide (((s_1.getD i_19.toNat 0).toNat : Int) = 47))) || (decide (((s_1.getD i_19.toNat 0).toNat : Int) = 61))) || (decide (((s_1.getD i_19.toNat 0).toNat : Int) = 60))) == false))) (hA156.get rfl) (hA156.get rfl) (fun he => g_mkf rfl he)) fun a157 hA157 _ => ?_)
      refine sq_end ?_
      have hA158 := hA157.keep [(0, .string (Bs s_1)), (3, .int .i64 i_19), (59, .bool ((((((((r_114 || (decide (((s_1.getD i_19.toNat 0).toNat : Int) = 0))) || (decide (((s_1.getD i_19.toNat 0).toNat : Int) = 34))) || (decide (((s_1.getD i_19.toNat 0).toNat : Int) = 39))) || (decide (((s_1.getD i_19.toNat 0).toNat : Int) = 62))) || (decide (((s_1.getD i_19.toNat 0).toNat : Int) = 47))) || (decide (((s_1.getD i_19.toNat 0).toNat : Int) = 61))) || (decide (((s_1.getD i_19.toNat 0).toNat : Int) = 60))) || ((decide (65 ≤ ((s_1.getD i_19.toNat 0).toNat : Int))) && (decide (((s_1.getD i_19.toNat 0).toNat : Int) ≤ 90)))))] ⟨rfl, rfl, rfl, trivial⟩
      refine then_normal ?_
      refine wp_cond_split (hA158.get rfl) (fun hc => ?_) (fun hc => ?_)
      · have ht159 := ht117.1 ((b_or_t hc).imp (fun h => ((b_or_t h).imp (fun h => ((b_or_t h).imp (fun h => ((b_or_t h).imp (fun h => ((b_or_t h).imp (fun h => ((b_or_t h).imp (fun h => ((b_or_t h).imp (fun h => ((b_or_t h).imp (fun h => h) (fun h => (of_decide_eq_true h)))) (fun h => (of_decide_eq_true h)))) (fun h => (of_decide_eq_true h)))) (fun h => (of_decide_eq_true h)))) (fun h => (of_decide_eq_true h)))) (fun h => (of_decide_eq_true h)))) (fun h => (of_decide_eq_true h)))) (fun h => ⟨(of_decide_eq_true (b_and_t h).1), (of_decide_eq_true (b_and_t h).2)⟩))
        clear hc
        refine wp_seq ?_
        refine wp_region_lit ?_
        refine sq (opk_val hA158 rfl (r_assign rfl) fun a161 hA161 _ => ?_)
        refine sq_end ?_
        have hA162 := hA161.keep [(2, .bool false)] ⟨rfl, trivial⟩
        refine then_normal ?_
        refine wp_ret ?_
        refine block_ret ?_
        refine then_ret ?_
        refine then_ret ?_
        refine block_ret ?_
        refine then_ret ?_
        exact res_all (vs := [.bool false]) rfl hA162 ⟨res_of_tmp hA162 rfl, trivial⟩ ht159
      · have ht160 := ht117.2 ⟨⟨⟨⟨⟨⟨⟨⟨(b_or_f (b_or_f (b_or_f (b_or_f (b_or_f (b_or_f (b_or_f (b_or_f hc).1).1).1).1).1).1).1).1, (of_decide_eq_false (b_or_f (b_or_f (b_or_f (b_or_f (b_or_f (b_or_f (b_or_f (b_or_f hc).1).1).1).1).1).1).1).2)⟩, (of_decide_eq_false (b_or_f (b_or_f (b_or_f (b_or_f (b_or_f (b_or_f (b_or_f hc).1).1).1).1).1).1).2)⟩, (of_decide_eq_false (b_or_f (b_or_f (b_or_f (b_or_f (b_or_f (b_or_f hc).1).1).1).1).1).2)⟩, (of_decide_eq_false (b_or_f (b_or_f (b_or_f (b_or_f (b_or_f hc).1).1).1).1).2)⟩, (of_decide_eq_false (b_or_f (b_or_f (b_or_f (b_or_f hc).1).1).1).2)⟩, (of_decide_eq_false (b_or_f (b_or_f (b_or_f hc).1).1).2)⟩, (of_decide_eq_false (b_or_f (b_or_f hc).1).2)⟩, ((b_and_f (b_or_f hc).2).imp (fun h => (of_decide_eq_false h)) (fun h => (of_decide_eq_false h)))⟩
        clear hc
        refine wp_skip ?_
        refine block_normal ?_
        refine then_normal ?_
        refine wp_region_lit ?_
        refine sq (opk_val hA158 rfl (r_move (hA158.get rfl)) fun a163 hA163 _ => ?_)
        obtain ⟨hS165, ht166⟩ := ht160
        refine sq (opk_val hA163 rfl (r_addI (hA163.get rfl) rfl hS165) fun a164 hA164 _ => ?_)
        refine sq (opk_val hA164 rfl (r_assign (hA164.get rfl)) fun a167 hA167 _ => ?_)
        refine sq_end ?_
        have hA168 := hA167.keep [(0, .string (Bs s_1)), (3, .int .i64 (i_19 + 1))] ⟨rfl, rfl, trivial⟩
        have hA169 := hA168.keep [(0, .string (Bs s_1)), (3, .int .i64 (i_19 + 1))] ⟨rfl, rfl, trivial⟩
        exact then_normal ⟨(i_19 + 1, w116), ⟨hA169, rfl, ht166.1⟩, ht166.2⟩
    · have ht105 := ht97.2 (of_decide_eq_false hc)
      clear hc
      refine wp_exit ?_
      refine then_exit ?_
      refine then_exit ?_
      refine block_hit ?_
      have hA170 := hA103.keep [] trivial
      refine then_normal ?_
      refine wp_seq ?_
      refine wp_region_lit ?_
      refine sq (opk_val hA170 rfl (r_assign rfl) fun a171 hA171 _ => ?_)
      refine sq_end ?_
      have hA172 := hA171.keep [(2, .bool true)] ⟨rfl, trivial⟩
      refine then_normal ?_
      refine wp_ret ?_
      exact res_all (vs := [.bool true]) rfl hA172 ⟨res_of_tmp hA172 rfl, trivial⟩ ht105

/-- The condition of topiary/topiaryref05.Size. -/
def ref05_Size.vc (t_1_Kind : Int) (t_1_Name : Str) (t_1_Text : Str) (t_1_Attrs : Sl) (t_1_Kids : Sl) (R : Value → World → Prop) (w : World) : Prop :=
∀ (w3 : World) (B_2 : Nat), New w B_2 w3 → Chg [] w w3 →
∃ (J_19 : Int → Int → World → Prop) (mu_20 : Int → Int → World → Nat),
J_19 1 0 w3 ∧
(∀ (n_16 : Int) (i_17 : Int) (w18 : World), J_19 n_16 i_17 w18 →
((i_17 < (t_1_Kids.n : Int)) →
((0 : Int) ≤ i_17 ∧ i_17 < (t_1_Kids.n : Int)) ∧ ∃ p_83 : Addr, t_1_Kids.a = some p_83 ∧
∃ (x_89_Kind : Int) (x_89_Name : Str) (x_89_Text : Str) (x_89_Attrs : Sl) (x_89_Kids : Sl), (Cells w18 (p_83.add (i_17.toNat * 5)) [.int .i64 x_89_Kind, .string (Bs x_89_Name), .string (Bs x_89_Text), Sl.v x_89_Attrs, Sl.v x_89_Kids]) ∧
CallK Try.prog 29 #[.agg #[.int .i64 x_89_Kind, .string (Bs x_89_Name), .string (Bs x_89_Text), Sl.v x_89_Attrs, Sl.v x_89_Kids]] w18 [B_2] (fun v w94 => ∃ (r_92 : Int), v = .int .i64 r_92 ∧
(I64 (n_16 + r_92)) ∧
(I64 (i_17 + 1)) ∧
J_19 (n_16 + r_92) (i_17 + 1) w94 ∧ mu_20 (n_16 + r_92) (i_17 + 1) w94 < mu_20 n_16 i_17 w18)) ∧
((¬ (i_17 < (t_1_Kids.n : Int))) →
R (.int .i64 n_16) w18))
set_option maxHeartbeats 1000000 in
set_option maxRecDepth 10000 in
theorem ref05_Size.ok (t_1_Kind : Int) (t_1_Name : Str) (t_1_Text : Str) (t_1_Attrs : Sl) (t_1_Kids : Sl) {R : Value → World → Prop} {w : World} (ht0 : ref05_Size.vc t_1_Kind t_1_Name t_1_Text t_1_Attrs t_1_Kids R w) : Calls Try.prog 29 #[.agg #[.int .i64 t_1_Kind, .string (Bs t_1_Name), .string (Bs t_1_Text), Sl.v t_1_Attrs, Sl.v t_1_Kids]] w (Ret R) := by
  refine enter [.agg #[.int .i64 t_1_Kind, .string (Bs t_1_Name), .string (Bs t_1_Text), Sl.v t_1_Attrs, Sl.v t_1_Kids]] Try.func29 rfl Try.ntmps29 rfl ?_
  intro a0 hA0
  unfold ref05_Size.vc at ht0
  refine wp_seq ?_
  refine wp_region_lit ?_
  refine sq (opk_new (fun B => .pointer (some ⟨B, 0, none⟩)) hA0 rfl (r_box (cs := [.int .i64 t_1_Kind, .string (Bs t_1_Name), .string (Bs t_1_Text), Sl.v t_1_Attrs, Sl.v t_1_Kids]) (hA0.get rfl) rfl) fun a4 w3 B_2 hE5 hN6 hB7 hA4 _ => ?_)
  have hN8 : New w B_2 w3 := hN6
  have hC9 : Chg [] w w3 := hE5
  refine sq (opk_val hA4 rfl (r_assign rfl) fun a10 hA10 _ => ?_)
  refine sq_end ?_
  have hA11 := hA10.keep [(1, .pointer (some (⟨B_2, 0, none⟩ : Addr)))] ⟨rfl, trivial⟩
  refine then_normal ?_
  refine wp_seq ?_
  refine wp_region_lit ?_
  refine sq (opk_val hA11 rfl (r_assign rfl) fun a12 hA12 _ => ?_)
  refine sq_end ?_
  have hA13 := hA12.keep [(1, .pointer (some (⟨B_2, 0, none⟩ : Addr))), (3, .int .i64 1)] ⟨rfl, rfl, trivial⟩
  refine then_normal ?_
  refine wp_seq ?_
  refine wp_seq ?_
  refine wp_region_lit ?_
  refine sq (opk_val hA13 rfl (r_assign rfl) fun a14 hA14 _ => ?_)
  refine sq_end ?_
  have hA15 := hA14.keep [(1, .pointer (some (⟨B_2, 0, none⟩ : Addr))), (3, .int .i64 1), (4, .int .i64 0)] ⟨rfl, rfl, rfl, trivial⟩
  refine then_normal ?_
  refine wp_block ?_
  have ht64 := ht0 w3 B_2 hN8  hC9
  obtain ⟨J_19, mu_20, h068, ht67⟩ := ht64
  refine wp_loop_st (σ := Int × Int × World) (fun s a w => Ag 21 a [(1, .pointer (some (⟨B_2, 0, none⟩ : Addr))), (3, .int .i64 s.1), (4, .int .i64 s.2.1)] ∧ Box w B_2 26 [.int .i64 t_1_Kind, .string (Bs t_1_Name), .string (Bs t_1_Text), Sl.v t_1_Attrs, Sl.v t_1_Kids] ∧ w = s.2.2 ∧ J_19 s.1 s.2.1 s.2.2) (fun s => mu_20 s.1 s.2.1 s.2.2) (1, 0, w3) ⟨hA15.keep [(1, .pointer (some (⟨B_2, 0, none⟩ : Addr))), (3, .int .i64 1), (4, .int .i64 0)] ⟨rfl, rfl, rfl, trivial⟩, hB7, rfl, h068⟩ ?_
  rintro ⟨n_16, i_17, w18⟩ a65 w_ ⟨hA65, hB66, hw_, hJ70⟩
  have hw_ : w18 = w_ := hw_.symm
  subst hw_
  have ht69 := ht67 n_16 i_17 _ hJ70
  refine wp_seq ?_
  refine wp_seq ?_
  refine wp_region_lit ?_
  refine sq (opk_val hA65 rfl (r_move (hA65.get rfl)) fun a71 hA71 _ => ?_)
  refine sq (opk_val hA71 rfl (r_fieldAddr (hA71.get rfl) Try.underlying26 rfl ti_24 (by decide)) fun a72 hA72 _ => ?_)
  refine sq (opk_val hA72 rfl (r_load1 Try.underlying24 rfl (hA72.get rfl) (hB66.cell 4 _ rfl)) fun a73 hA73 _ => ?_)
  refine sq (opk_val hA73 rfl (r_len (hA73.get rfl) Try.underlying24) fun a74 hA74 _ => ?_)
  refine sq (opk_val hA74 rfl (r_lss (hA74.get rfl) (hA74.get rfl)) fun a75 hA75 _ => ?_)
  refine sq_end ?_
  have hA76 := hA75.keep [(1, .pointer (some (⟨B_2, 0, none⟩ : Addr))), (3, .int .i64 n_16), (4, .int .i64 i_17), (9, .bool (decide (i_17 < (t_1_Kids.n : Int))))] ⟨rfl, rfl, rfl, rfl, trivial⟩
  refine then_normal ?_
  refine wp_cond_split (hA76.get rfl) (fun hc => ?_) (fun hc => ?_)
  · have ht77 := ht69.1 (of_decide_eq_true hc)
    clear hc
    refine wp_skip ?_
    refine then_normal ?_
    refine wp_seq ?_
    refine wp_block ?_
    refine wp_region_lit ?_
    refine sq (opk_val hA76 rfl (r_move (hA76.get rfl)) fun a79 hA79 _ => ?_)
    refine sq (opk_val hA79 rfl (r_fieldAddr (hA79.get rfl) Try.underlying26 rfl ti_24 (by decide)) fun a80 hA80 _ => ?_)
    refine sq (opk_val hA80 rfl (r_load1 Try.underlying24 rfl (hA80.get rfl) (hB66.cell 4 _ rfl)) fun a81 hA81 _ => ?_)
    refine sq (opk_val hA81 rfl (r_move (hA81.get rfl)) fun a82 hA82 _ => ?_)
    obtain ⟨hb84, p_83, hp85, ht86⟩ := ht77
    refine sq (opk_val hA82 rfl (r_indexAddr (hA82.get rfl) (hA82.get rfl) Try.underlying24 ti_26 hb84 hp85) fun a87 hA87 _ => ?_)
    obtain ⟨x_89_Kind, x_89_Name, x_89_Text, x_89_Attrs, x_89_Kids, hx90, ht91⟩ := ht86
    refine sq (opk_val hA87 rfl (r_loadN Try.underlying26 rfl ti_26 (hA87.get rfl) hx90) fun a88 hA88 _ => ?_)
    refine sq (opk_call hA88 rfl (r_call (args := #[.agg #[.int .i64 x_89_Kind, .string (Bs x_89_Name), .string (Bs x_89_Text), Sl.v x_89_Attrs, Sl.v x_89_Kids]]) Try.func29 (by decide) rfl (map_arr (ml_cons (hA88.get rfl) ml_nil)) rfl) ht91 fun a93 v99 w94 hA93 _ hn96 hz97 hK98 => ?_)
    obtain ⟨r_92, rfl, ht95⟩ := hK98
    have hB100 := hB66.kept hn96 (.head _)
    obtain ⟨hS102, ht103⟩ := ht95
    refine sq (opk_val hA93 rfl (r_addI (hA93.get rfl) (hA93.get rfl) hS102) fun a101 hA101 _ => ?_)
    refine sq (opk_val hA101 rfl (r_assign (hA101.get rfl)) fun a104 hA104 _ => ?_)
    refine sq_end ?_
    have hA105 := hA104.keep [(1, .pointer (some (⟨B_2, 0, none⟩ : Addr))), (3, .int .i64 (n_16 + r_92)), (4, .int .i64 i_17)] ⟨rfl, rfl, rfl, trivial⟩
    refine block_normal ?_
    refine then_normal ?_
    refine wp_region_lit ?_
    refine sq (opk_val hA105 rfl (r_move (hA105.get rfl)) fun a106 hA106 _ => ?_)
    obtain ⟨hS108, ht109⟩ := ht103
    refine sq (opk_val hA106 rfl (r_addI (hA106.get rfl) rfl hS108) fun a107 hA107 _ => ?_)
    refine sq (opk_val hA107 rfl (r_assign (hA107.get rfl)) fun a110 hA110 _ => ?_)
    refine sq_end ?_
    have hA111 := hA110.keep [(1, .pointer (some (⟨B_2, 0, none⟩ : Addr))), (3, .int .i64 (n_16 + r_92)), (4, .int .i64 (i_17 + 1))] ⟨rfl, rfl, rfl, trivial⟩
    have hA112 := hA111.keep [(1, .pointer (some (⟨B_2, 0, none⟩ : Addr))), (3, .int .i64 (n_16 + r_92)), (4, .int .i64 (i_17 + 1))] ⟨rfl, rfl, rfl, trivial⟩
    exact then_normal ⟨(n_16 + r_92, i_17 + 1, w94), ⟨hA112, hB100, rfl, ht109.1⟩, ht109.2⟩
  · have ht78 := ht69.2 (of_decide_eq_false hc)
    clear hc
    refine wp_exit ?_
    refine then_exit ?_
    refine then_exit ?_
    refine block_hit ?_
    have hA113 := hA76.keep [(3, .int .i64 n_16)] ⟨rfl, trivial⟩
    refine then_normal ?_
    refine wp_seq ?_
    refine wp_region_lit ?_
    refine sq (opk_val hA113 rfl (r_move (hA113.get rfl)) fun a114 hA114 _ => ?_)
    refine sq (opk_val hA114 rfl (r_assign (hA114.get rfl)) fun a115 hA115 _ => ?_)
    refine sq_end ?_
    have hA116 := hA115.keep [(2, .int .i64 n_16)] ⟨rfl, trivial⟩
    refine then_normal ?_
    refine wp_ret ?_
    exact res_all (vs := [.int .i64 n_16]) rfl hA116 ⟨res_of_tmp hA116 rfl, trivial⟩ ht78

/-- The condition of topiary/topiaryref05.Depth. -/
def ref05_Depth.vc (t_1_Kind : Int) (t_1_Name : Str) (t_1_Text : Str) (t_1_Attrs : Sl) (t_1_Kids : Sl) (R : Value → World → Prop) (w : World) : Prop :=
∀ (w3 : World) (B_2 : Nat), New w B_2 w3 → Chg [] w w3 →
∃ (J_19 : Int → Int → World → Prop) (mu_20 : Int → Int → World → Nat),
J_19 0 0 w3 ∧
(∀ (d_16 : Int) (i_17 : Int) (w18 : World), J_19 d_16 i_17 w18 →
((i_17 < (t_1_Kids.n : Int)) →
((0 : Int) ≤ i_17 ∧ i_17 < (t_1_Kids.n : Int)) ∧ ∃ p_81 : Addr, t_1_Kids.a = some p_81 ∧
∃ (x_87_Kind : Int) (x_87_Name : Str) (x_87_Text : Str) (x_87_Attrs : Sl) (x_87_Kids : Sl), (Cells w18 (p_81.add (i_17.toNat * 5)) [.int .i64 x_87_Kind, .string (Bs x_87_Name), .string (Bs x_87_Text), Sl.v x_87_Attrs, Sl.v x_87_Kids]) ∧
CallK Try.prog 30 #[.agg #[.int .i64 x_87_Kind, .string (Bs x_87_Name), .string (Bs x_87_Text), Sl.v x_87_Attrs, Sl.v x_87_Kids]] w18 [B_2] (fun v w92 => ∃ (r_90 : Int), v = .int .i64 r_90 ∧
(I64 (i_17 + 1)) ∧
J_19 (max d_16 r_90) (i_17 + 1) w92 ∧ mu_20 (max d_16 r_90) (i_17 + 1) w92 < mu_20 d_16 i_17 w18)) ∧
((¬ (i_17 < (t_1_Kids.n : Int))) →
(I64 (d_16 + 1)) ∧
R (.int .i64 (d_16 + 1)) w18))
set_option maxHeartbeats 1000000 in
set_option maxRecDepth 10000 in
theorem ref05_Depth.ok (t_1_Kind : Int) (t_1_Name : Str) (t_1_Text : Str) (t_1_Attrs : Sl) (t_1_Kids : Sl) {R : Value → World → Prop} {w : World} (ht0 : ref05_Depth.vc t_1_Kind t_1_Name t_1_Text t_1_Attrs t_1_Kids R w) : Calls Try.prog 30 #[.agg #[.int .i64 t_1_Kind, .string (Bs t_1_Name), .string (Bs t_1_Text), Sl.v t_1_Attrs, Sl.v t_1_Kids]] w (Ret R) := by
  refine enter [.agg #[.int .i64 t_1_Kind, .string (Bs t_1_Name), .string (Bs t_1_Text), Sl.v t_1_Attrs, Sl.v t_1_Kids]] Try.func30 rfl Try.ntmps30 rfl ?_
  intro a0 hA0
  unfold ref05_Depth.vc at ht0
  refine wp_seq ?_
  refine wp_region_lit ?_
  refine sq (opk_new (fun B => .pointer (some ⟨B, 0, none⟩)) hA0 rfl (r_box (cs := [.int .i64 t_1_Kind, .string (Bs t_1_Name), .string (Bs t_1_Text), Sl.v t_1_Attrs, Sl.v t_1_Kids]) (hA0.get rfl) rfl) fun a4 w3 B_2 hE5 hN6 hB7 hA4 _ => ?_)
  have hN8 : New w B_2 w3 := hN6
  have hC9 : Chg [] w w3 := hE5
  refine sq (opk_val hA4 rfl (r_assign rfl) fun a10 hA10 _ => ?_)
  refine sq_end ?_
  have hA11 := hA10.keep [(1, .pointer (some (⟨B_2, 0, none⟩ : Addr)))] ⟨rfl, trivial⟩
  refine then_normal ?_
  refine wp_seq ?_
  refine wp_region_lit ?_
  refine sq (opk_val hA11 rfl (r_assign rfl) fun a12 hA12 _ => ?_)
  refine sq_end ?_
  have hA13 := hA12.keep [(1, .pointer (some (⟨B_2, 0, none⟩ : Addr))), (3, .int .i64 0)] ⟨rfl, rfl, trivial⟩
  refine then_normal ?_
  refine wp_seq ?_
  refine wp_seq ?_
  refine wp_region_lit ?_
  refine sq (opk_val hA13 rfl (r_assign rfl) fun a14 hA14 _ => ?_)
  refine sq_end ?_
  have hA15 := hA14.keep [(1, .pointer (some (⟨B_2, 0, none⟩ : Addr))), (3, .int .i64 0), (4, .int .i64 0)] ⟨rfl, rfl, rfl, trivial⟩
  refine then_normal ?_
  refine wp_block ?_
  have ht62 := ht0 w3 B_2 hN8  hC9
  obtain ⟨J_19, mu_20, h066, ht65⟩ := ht62
  refine wp_loop_st (σ := Int × Int × World) (fun s a w => Ag 22 a [(1, .pointer (some (⟨B_2, 0, none⟩ : Addr))), (3, .int .i64 s.1), (4, .int .i64 s.2.1)] ∧ Box w B_2 26 [.int .i64 t_1_Kind, .string (Bs t_1_Name), .string (Bs t_1_Text), Sl.v t_1_Attrs, Sl.v t_1_Kids] ∧ w = s.2.2 ∧ J_19 s.1 s.2.1 s.2.2) (fun s => mu_20 s.1 s.2.1 s.2.2) (0, 0, w3) ⟨hA15.keep [(1, .pointer (some (⟨B_2, 0, none⟩ : Addr))), (3, .int .i64 0), (4, .int .i64 0)] ⟨rfl, rfl, rfl, trivial⟩, hB7, rfl, h066⟩ ?_
  rintro ⟨d_16, i_17, w18⟩ a63 w_ ⟨hA63, hB64, hw_, hJ68⟩
  have hw_ : w18 = w_ := hw_.symm
  subst hw_
  have ht67 := ht65 d_16 i_17 _ hJ68
  refine wp_seq ?_
  refine wp_seq ?_
  refine wp_region_lit ?_
  refine sq (opk_val hA63 rfl (r_move (hA63.get rfl)) fun a69 hA69 _ => ?_)
  refine sq (opk_val hA69 rfl (r_fieldAddr (hA69.get rfl) Try.underlying26 rfl ti_24 (by decide)) fun a70 hA70 _ => ?_)
  refine sq (opk_val hA70 rfl (r_load1 Try.underlying24 rfl (hA70.get rfl) (hB64.cell 4 _ rfl)) fun a71 hA71 _ => ?_)
  refine sq (opk_val hA71 rfl (r_len (hA71.get rfl) Try.underlying24) fun a72 hA72 _ => ?_)
  refine sq (opk_val hA72 rfl (r_lss (hA72.get rfl) (hA72.get rfl)) fun a73 hA73 _ => ?_)
  refine sq_end ?_
  have hA74 := hA73.keep [(1, .pointer (some (⟨B_2, 0, none⟩ : Addr))), (3, .int .i64 d_16), (4, .int .i64 i_17), (9, .bool (decide (i_17 < (t_1_Kids.n : Int))))] ⟨rfl, rfl, rfl, rfl, trivial⟩
  refine then_normal ?_
  refine wp_cond_split (hA74.get rfl) (fun hc => ?_) (fun hc => ?_)
  · have ht75 := ht67.1 (of_decide_eq_true hc)
    clear hc
    refine wp_skip ?_
    refine then_normal ?_
    refine wp_seq ?_
    refine wp_block ?_
    refine wp_region_lit ?_
    refine sq (opk_val hA74 rfl (r_move (hA74.get rfl)) fun a77 hA77 _ => ?_)
    refine sq (opk_val hA77 rfl (r_fieldAddr (hA77.get rfl) Try.underlying26 rfl ti_24 (by decide)) fun a78 hA78 _ => ?_)
    refine sq (opk_val hA78 rfl (r_load1 Try.underlying24 rfl (hA78.get rfl) (hB64.cell 4 _ rfl)) fun a79 hA79 _ => ?_)
    refine sq (opk_val hA79 rfl (r_move (hA79.get rfl)) fun a80 hA80 _ => ?_)
    obtain ⟨hb82, p_81, hp83, ht84⟩ := ht75
    refine sq (opk_val hA80 rfl (r_indexAddr (hA80.get rfl) (hA80.get rfl) Try.underlying24 ti_26 hb82 hp83) fun a85 hA85 _ => ?_)
    obtain ⟨x_87_Kind, x_87_Name, x_87_Text, x_87_Attrs, x_87_Kids, hx88, ht89⟩ := ht84
    refine sq (opk_val hA85 rfl (r_loadN Try.underlying26 rfl ti_26 (hA85.get rfl) hx88) fun a86 hA86 _ => ?_)
    refine sq (opk_call hA86 rfl (r_call (args := #[.agg #[.int .i64 x_87_Kind, .string (Bs x_87_Name), .string (Bs x_87_Text), Sl.v x_87_Attrs, Sl.v x_87_Kids]]) Try.func30 (by decide) rfl (map_arr (ml_cons (hA86.get rfl) ml_nil)) rfl) ht89 fun a91 v97 w92 hA91 _ hn94 hz95 hK96 => ?_)
    obtain ⟨r_90, rfl, ht93⟩ := hK96
    have hB98 := hB64.kept hn94 (.head _)
    refine sq (opk_val hA91 rfl (r_max (hA91.get rfl) (hA91.get rfl)) fun a99 hA99 _ => ?_)
    refine sq (opk_val hA99 rfl (r_assign (hA99.get rfl)) fun a100 hA100 _ => ?_)
    refine sq_end ?_
    have hA101 := hA100.keep [(1, .pointer (some (⟨B_2, 0, none⟩ : Addr))), (3, .int .i64 (max d_16 r_90)), (4, .int .i64 i_17)] ⟨rfl, rfl, rfl, trivial⟩
    refine block_normal ?_
    refine then_normal ?_
    refine wp_region_lit ?_
    refine sq (opk_val hA101 rfl (r_move (hA101.get rfl)) fun a102 hA102 _ => ?_)
    obtain ⟨hS104, ht105⟩ := ht93
    refine sq (opk_val hA102 rfl (r_addI (hA102.get rfl) rfl hS104) fun a103 hA103 _ => ?_)
    refine sq (opk_val hA103 rfl (r_assign (hA103.get rfl)) fun a106 hA106 _ => ?_)
    refine sq_end ?_
    have hA107 := hA106.keep [(1, .pointer (some (⟨B_2, 0, none⟩ : Addr))), (3, .int .i64 (max d_16 r_90)), (4, .int .i64 (i_17 + 1))] ⟨rfl, rfl, rfl, trivial⟩
    have hA108 := hA107.keep [(1, .pointer (some (⟨B_2, 0, none⟩ : Addr))), (3, .int .i64 (max d_16 r_90)), (4, .int .i64 (i_17 + 1))] ⟨rfl, rfl, rfl, trivial⟩
    exact then_normal ⟨(max d_16 r_90, i_17 + 1, w92), ⟨hA108, hB98, rfl, ht105.1⟩, ht105.2⟩
  · have ht76 := ht67.2 (of_decide_eq_false hc)
    clear hc
    refine wp_exit ?_
    refine then_exit ?_
    refine then_exit ?_
    refine block_hit ?_
    have hA109 := hA74.keep [(3, .int .i64 d_16)] ⟨rfl, trivial⟩
    refine then_normal ?_
    refine wp_seq ?_
    refine wp_region_lit ?_
    refine sq (opk_val hA109 rfl (r_move (hA109.get rfl)) fun a110 hA110 _ => ?_)
    obtain ⟨hS112, ht113⟩ := ht76
    refine sq (opk_val hA110 rfl (r_addI (hA110.get rfl) rfl hS112) fun a111 hA111 _ => ?_)
    refine sq (opk_val hA111 rfl (r_assign (hA111.get rfl)) fun a114 hA114 _ => ?_)
    refine sq_end ?_
    have hA115 := hA114.keep [(2, .int .i64 (d_16 + 1))] ⟨rfl, trivial⟩
    refine then_normal ?_
    refine wp_ret ?_
    exact res_all (vs := [.int .i64 (d_16 + 1)]) rfl hA115 ⟨res_of_tmp hA115 rfl, trivial⟩ ht113

/-- The condition of topiary/topiaryref05.Slots. -/
def ref05_Slots.vc (t_1_Kind : Int) (t_1_Name : Str) (t_1_Text : Str) (t_1_Attrs : Sl) (t_1_Kids : Sl) (R : Value → World → Prop) (w : World) : Prop :=
∀ (w3 : World) (B_2 : Nat), New w B_2 w3 → Chg [] w w3 →
∃ (J_22 : Int → Int → World → Prop) (mu_23 : Int → Int → World → Nat),
J_22 (t_1_Attrs.n : Int) 0 w3 ∧
(∀ (n_19 : Int) (i_20 : Int) (w21 : World), J_22 n_19 i_20 w21 →
((i_20 < (t_1_Kids.n : Int)) →
((0 : Int) ≤ i_20 ∧ i_20 < (t_1_Kids.n : Int)) ∧ ∃ p_86 : Addr, t_1_Kids.a = some p_86 ∧
∃ (x_92_Kind : Int) (x_92_Name : Str) (x_92_Text : Str) (x_92_Attrs : Sl) (x_92_Kids : Sl), (Cells w21 (p_86.add (i_20.toNat * 5)) [.int .i64 x_92_Kind, .string (Bs x_92_Name), .string (Bs x_92_Text), Sl.v x_92_Attrs, Sl.v x_92_Kids]) ∧
CallK Try.prog 31 #[.agg #[.int .i64 x_92_Kind, .string (Bs x_92_Name), .string (Bs x_92_Text), Sl.v x_92_Attrs, Sl.v x_92_Kids]] w21 [B_2] (fun v w97 => ∃ (r_95 : Int), v = .int .i64 r_95 ∧
(I64 (n_19 + r_95)) ∧
(I64 (i_20 + 1)) ∧
J_22 (n_19 + r_95) (i_20 + 1) w97 ∧ mu_23 (n_19 + r_95) (i_20 + 1) w97 < mu_23 n_19 i_20 w21)) ∧
((¬ (i_20 < (t_1_Kids.n : Int))) →
R (.int .i64 n_19) w21))
set_option maxHeartbeats 1000000 in
set_option maxRecDepth 10000 in
theorem ref05_Slots.ok (t_1_Kind : Int) (t_1_Name : Str) (t_1_Text : Str) (t_1_Attrs : Sl) (t_1_Kids : Sl) {R : Value → World → Prop} {w : World} (ht0 : ref05_Slots.vc t_1_Kind t_1_Name t_1_Text t_1_Attrs t_1_Kids R w) : Calls Try.prog 31 #[.agg #[.int .i64 t_1_Kind, .string (Bs t_1_Name), .string (Bs t_1_Text), Sl.v t_1_Attrs, Sl.v t_1_Kids]] w (Ret R) := by
  refine enter [.agg #[.int .i64 t_1_Kind, .string (Bs t_1_Name), .string (Bs t_1_Text), Sl.v t_1_Attrs, Sl.v t_1_Kids]] Try.func31 rfl Try.ntmps31 rfl ?_
  intro a0 hA0
  unfold ref05_Slots.vc at ht0
  refine wp_seq ?_
  refine wp_region_lit ?_
  refine sq (opk_new (fun B => .pointer (some ⟨B, 0, none⟩)) hA0 rfl (r_box (cs := [.int .i64 t_1_Kind, .string (Bs t_1_Name), .string (Bs t_1_Text), Sl.v t_1_Attrs, Sl.v t_1_Kids]) (hA0.get rfl) rfl) fun a4 w3 B_2 hE5 hN6 hB7 hA4 _ => ?_)
  have hN8 : New w B_2 w3 := hN6
  have hC9 : Chg [] w w3 := hE5
  refine sq (opk_val hA4 rfl (r_assign rfl) fun a10 hA10 _ => ?_)
  refine sq_end ?_
  have hA11 := hA10.keep [(1, .pointer (some (⟨B_2, 0, none⟩ : Addr)))] ⟨rfl, trivial⟩
  refine then_normal ?_
  refine wp_seq ?_
  refine wp_region_lit ?_
  refine sq (opk_val hA11 rfl (r_fieldAddr (hA11.get rfl) Try.underlying26 rfl ti_23 (by decide)) fun a12 hA12 _ => ?_)
  refine sq (opk_val hA12 rfl (r_load1 Try.underlying23 rfl (hA12.get rfl) (hB7.cell 3 _ rfl)) fun a13 hA13 _ => ?_)
  refine sq (opk_val hA13 rfl (r_len (hA13.get rfl) Try.underlying23) fun a14 hA14 _ => ?_)
  refine sq (opk_val hA14 rfl (r_assign (hA14.get rfl)) fun a15 hA15 _ => ?_)
  refine sq_end ?_
  have hA16 := hA15.keep [(1, .pointer (some (⟨B_2, 0, none⟩ : Addr))), (3, .int .i64 (t_1_Attrs.n : Int))] ⟨rfl, rfl, trivial⟩
  refine then_normal ?_
  refine wp_seq ?_
  refine wp_seq ?_
  refine wp_region_lit ?_
  refine sq (opk_val hA16 rfl (r_assign rfl) fun a17 hA17 _ => ?_)
  refine sq_end ?_
  have hA18 := hA17.keep [(1, .pointer (some (⟨B_2, 0, none⟩ : Addr))), (3, .int .i64 (t_1_Attrs.n : Int)), (4, .int .i64 0)] ⟨rfl, rfl, rfl, trivial⟩
  refine then_normal ?_
  refine wp_block ?_
  have ht67 := ht0 w3 B_2 hN8  hC9
  obtain ⟨J_22, mu_23, h071, ht70⟩ := ht67
  refine wp_loop_st (σ := Int × Int × World) (fun s a w => Ag 24 a [(1, .pointer (some (⟨B_2, 0, none⟩ : Addr))), (3, .int .i64 s.1), (4, .int .i64 s.2.1)] ∧ Box w B_2 26 [.int .i64 t_1_Kind, .string (Bs t_1_Name), .string (Bs t_1_Text), Sl.v t_1_Attrs, Sl.v t_1_Kids] ∧ w = s.2.2 ∧ J_22 s.1 s.2.1 s.2.2) (fun s => mu_23 s.1 s.2.1 s.2.2) ((t_1_Attrs.n : Int), 0, w3) ⟨hA18.keep [(1, .pointer (some (⟨B_2, 0, none⟩ : Addr))), (3, .int .i64 (t_1_Attrs.n : Int)), (4, .int .i64 0)] ⟨rfl, rfl, rfl, trivial⟩, hB7, rfl, h071⟩ ?_
  rintro ⟨n_19, i_20, w21⟩ a68 w_ ⟨hA68, hB69, hw_, hJ73⟩
  have hw_ : w21 = w_ := hw_.symm
  subst hw_
  have ht72 := ht70 n_19 i_20 _ hJ73
  refine wp_seq ?_
  refine wp_seq ?_
  refine wp_region_lit ?_
  refine sq (opk_val hA68 rfl (r_move (hA68.get rfl)) fun a74 hA74 _ => ?_)
  refine sq (opk_val hA74 rfl (r_fieldAddr (hA74.get rfl) Try.underlying26 rfl ti_24 (by decide)) fun a75 hA75 _ => ?_)
  refine sq (opk_val hA75 rfl (r_load1 Try.underlying24 rfl (hA75.get rfl) (hB69.cell 4 _ rfl)) fun a76 hA76 _ => ?_)
  refine sq (opk_val hA76 rfl (r_len (hA76.get rfl) Try.underlying24) fun a77 hA77 _ => ?_)
  refine sq (opk_val hA77 rfl (r_lss (hA77.get rfl) (hA77.get rfl)) fun a78 hA78 _ => ?_)
  refine sq_end ?_
  have hA79 := hA78.keep [(1, .pointer (some (⟨B_2, 0, none⟩ : Addr))), (3, .int .i64 n_19), (4, .int .i64 i_20), (12, .bool (decide (i_20 < (t_1_Kids.n : Int))))] ⟨rfl, rfl, rfl, rfl, trivial⟩
  refine then_normal ?_
  refine wp_cond_split (hA79.get rfl) (fun hc => ?_) (fun hc => ?_)
  · have ht80 := ht72.1 (of_decide_eq_true hc)
    clear hc
    refine wp_skip ?_
    refine then_normal ?_
    refine wp_seq ?_
    refine wp_block ?_
    refine wp_region_lit ?_
    refine sq (opk_val hA79 rfl (r_move (hA79.get rfl)) fun a82 hA82 _ => ?_)
    refine sq (opk_val hA82 rfl (r_fieldAddr (hA82.get rfl) Try.underlying26 rfl ti_24 (by decide)) fun a83 hA83 _ => ?_)
    refine sq (opk_val hA83 rfl (r_load1 Try.underlying24 rfl (hA83.get rfl) (hB69.cell 4 _ rfl)) fun a84 hA84 _ => ?_)
    refine sq (opk_val hA84 rfl (r_move (hA84.get rfl)) fun a85 hA85 _ => ?_)
    obtain ⟨hb87, p_86, hp88, ht89⟩ := ht80
    refine sq (opk_val hA85 rfl (r_indexAddr (hA85.get rfl) (hA85.get rfl) Try.underlying24 ti_26 hb87 hp88) fun a90 hA90 _ => ?_)
    obtain ⟨x_92_Kind, x_92_Name, x_92_Text, x_92_Attrs, x_92_Kids, hx93, ht94⟩ := ht89
    refine sq (opk_val hA90 rfl (r_loadN Try.underlying26 rfl ti_26 (hA90.get rfl) hx93) fun a91 hA91 _ => ?_)
    refine sq (opk_call hA91 rfl (r_call (args := #[.agg #[.int .i64 x_92_Kind, .string (Bs x_92_Name), .string (Bs x_92_Text), Sl.v x_92_Attrs, Sl.v x_92_Kids]]) Try.func31 (by decide) rfl (map_arr (ml_cons (hA91.get rfl) ml_nil)) rfl) ht94 fun a96 v102 w97 hA96 _ hn99 hz100 hK101 => ?_)
    obtain ⟨r_95, rfl, ht98⟩ := hK101
    have hB103 := hB69.kept hn99 (.head _)
    obtain ⟨hS105, ht106⟩ := ht98
    refine sq (opk_val hA96 rfl (r_addI (hA96.get rfl) (hA96.get rfl) hS105) fun a104 hA104 _ => ?_)
    refine sq (opk_val hA104 rfl (r_assign (hA104.get rfl)) fun a107 hA107 _ => ?_)
    refine sq_end ?_
    have hA108 := hA107.keep [(1, .pointer (some (⟨B_2, 0, none⟩ : Addr))), (3, .int .i64 (n_19 + r_95)), (4, .int .i64 i_20)] ⟨rfl, rfl, rfl, trivial⟩
    refine block_normal ?_
    refine then_normal ?_
    refine wp_region_lit ?_
    refine sq (opk_val hA108 rfl (r_move (hA108.get rfl)) fun a109 hA109 _ => ?_)
    obtain ⟨hS111, ht112⟩ := ht106
    refine sq (opk_val hA109 rfl (r_addI (hA109.get rfl) rfl hS111) fun a110 hA110 _ => ?_)
    refine sq (opk_val hA110 rfl (r_assign (hA110.get rfl)) fun a113 hA113 _ => ?_)
    refine sq_end ?_
    have hA114 := hA113.keep [(1, .pointer (some (⟨B_2, 0, none⟩ : Addr))), (3, .int .i64 (n_19 + r_95)), (4, .int .i64 (i_20 + 1))] ⟨rfl, rfl, rfl, trivial⟩
    have hA115 := hA114.keep [(1, .pointer (some (⟨B_2, 0, none⟩ : Addr))), (3, .int .i64 (n_19 + r_95)), (4, .int .i64 (i_20 + 1))] ⟨rfl, rfl, rfl, trivial⟩
    exact then_normal ⟨(n_19 + r_95, i_20 + 1, w97), ⟨hA115, hB103, rfl, ht112.1⟩, ht112.2⟩
  · have ht81 := ht72.2 (of_decide_eq_false hc)
    clear hc
    refine wp_exit ?_
    refine then_exit ?_
    refine then_exit ?_
    refine block_hit ?_
    have hA116 := hA79.keep [(3, .int .i64 n_19)] ⟨rfl, trivial⟩
    refine then_normal ?_
    refine wp_seq ?_
    refine wp_region_lit ?_
    refine sq (opk_val hA116 rfl (r_move (hA116.get rfl)) fun a117 hA117 _ => ?_)
    refine sq (opk_val hA117 rfl (r_assign (hA117.get rfl)) fun a118 hA118 _ => ?_)
    refine sq_end ?_
    have hA119 := hA118.keep [(2, .int .i64 n_19)] ⟨rfl, trivial⟩
    refine then_normal ?_
    refine wp_ret ?_
    exact res_all (vs := [.int .i64 n_19]) rfl hA119 ⟨res_of_tmp hA119 rfl, trivial⟩ ht81

/-- The condition of topiary/topiaryref05.Same. -/
def ref05_Same.vc (a_1_Kind : Int) (a_1_Name : Str) (a_1_Text : Str) (a_1_Attrs : Sl) (a_1_Kids : Sl) (b_2_Kind : Int) (b_2_Name : Str) (b_2_Text : Str) (b_2_Attrs : Sl) (b_2_Kids : Sl) (R : Value → World → Prop) (w : World) : Prop :=
∀ (w12 : World) (B_3 : Nat) (B_11 : Nat), New w B_3 w12 → New w B_11 w12 → B_3 ≠ B_11 → Chg [] w w12 →
CallK Try.prog 33 #[.agg #[.int .i64 a_1_Kind, .string (Bs a_1_Name), .string (Bs a_1_Text), Sl.v a_1_Attrs, Sl.v a_1_Kids], .agg #[.int .i64 b_2_Kind, .string (Bs b_2_Name), .string (Bs b_2_Text), Sl.v b_2_Attrs, Sl.v b_2_Kids]] w12 [B_3, B_11] (fun v w29 => ∃ (r_27 : Int), v = .int .i64 r_27 ∧
R (.bool (decide (r_27 = 0))) w29)
set_option maxHeartbeats 1000000 in
set_option maxRecDepth 10000 in
theorem ref05_Same.ok (a_1_Kind : Int) (a_1_Name : Str) (a_1_Text : Str) (a_1_Attrs : Sl) (a_1_Kids : Sl) (b_2_Kind : Int) (b_2_Name : Str) (b_2_Text : Str) (b_2_Attrs : Sl) (b_2_Kids : Sl) {R : Value → World → Prop} {w : World} (ht0 : ref05_Same.vc a_1_Kind a_1_Name a_1_Text a_1_Attrs a_1_Kids b_2_Kind b_2_Name b_2_Text b_2_Attrs b_2_Kids R w) : Calls Try.prog 32 #[.agg #[.int .i64 a_1_Kind, .string (Bs a_1_Name), .string (Bs a_1_Text), Sl.v a_1_Attrs, Sl.v a_1_Kids], .agg #[.int .i64 b_2_Kind, .string (Bs b_2_Name), .string (Bs b_2_Text), Sl.v b_2_Attrs, Sl.v b_2_Kids]] w (Ret R) := by
  refine enter [.agg #[.int .i64 a_1_Kind, .string (Bs a_1_Name), .string (Bs a_1_Text), Sl.v a_1_Attrs, Sl.v a_1_Kids], .agg #[.int .i64 b_2_Kind, .string (Bs b_2_Name), .string (Bs b_2_Text), Sl.v b_2_Attrs, Sl.v b_2_Kids]] Try.func32 rfl Try.ntmps32 rfl ?_
  intro a0 hA0
  unfold ref05_Same.vc at ht0
  refine wp_seq ?_
  refine wp_region_lit ?_
  refine sq (opk_new (fun B => .pointer (some ⟨B, 0, none⟩)) hA0 rfl (r_box (cs := [.int .i64 a_1_Kind, .string (Bs a_1_Name), .string (Bs a_1_Text), Sl.v a_1_Attrs, Sl.v a_1_Kids]) (hA0.get rfl) rfl) fun a5 w4 B_3 hE6 hN7 hB8 hA5 _ => ?_)
  have hN9 : New w B_3 w4 := hN7
  have hC10 : Chg [] w w4 := hE6
  refine sq (opk_new (fun B => .pointer (some ⟨B, 0, none⟩)) hA5 rfl (r_box (cs := [.int .i64 b_2_Kind, .string (Bs b_2_Name), .string (Bs b_2_Text), Sl.v b_2_Attrs, Sl.v b_2_Kids]) (hA5.get rfl) rfl) fun a13 w12 B_11 hE14 hN15 hB16 hA13 _ => ?_)
  have hne17 : B_3 ≠ B_11 := Nat.ne_of_lt (Nat.lt_of_lt_of_le hB8.lt hN15.ge)
  have hN18 := New.of hC10 hN15
  have hB19 := hB8.ext hE14
  have hC20 := hC10.more hE14
  have hN21 := hN9.up hE14.size
  refine sq (opk_val hA13 rfl (r_assign rfl) fun a22 hA22 _ => ?_)
  refine sq_end ?_
  have hA23 := hA22.keep [(2, .pointer (some (⟨B_3, 0, none⟩ : Addr))), (3, .pointer (some (⟨B_11, 0, none⟩ : Addr)))] ⟨rfl, rfl, trivial⟩
  refine then_normal ?_
  refine wp_seq ?_
  refine wp_region_lit ?_
  refine sq (opk_val hA23 rfl (r_loadN (cs := [.int .i64 a_1_Kind, .string (Bs a_1_Name), .string (Bs a_1_Text), Sl.v a_1_Attrs, Sl.v a_1_Kids]) Try.underlying26 rfl ti_26 (hA23.get rfl) (hB19.part 0 _ rfl)) fun a24 hA24 _ => ?_)
  refine sq (opk_val hA24 rfl (r_loadN (cs := [.int .i64 b_2_Kind, .string (Bs b_2_Name), .string (Bs b_2_Text), Sl.v b_2_Attrs, Sl.v b_2_Kids]) Try.underlying26 rfl ti_26 (hA24.get rfl) (hB16.part 0 _ rfl)) fun a25 hA25 _ => ?_)
  have ht26 := ht0 w12 B_3 B_11 hN21 hN18 hne17 hC20
  refine sq (opk_call hA25 rfl (r_call (args := #[.agg #[.int .i64 a_1_Kind, .string (Bs a_1_Name), .string (Bs a_1_Text), Sl.v a_1_Attrs, Sl.v a_1_Kids], .agg #[.int .i64 b_2_Kind, .string (Bs b_2_Name), .string (Bs b_2_Text), Sl.v b_2_Attrs, Sl.v b_2_Kids]]) Try.func33 (by decide) rfl (map_arr (ml_cons (hA25.get rfl) (ml_cons (hA25.get rfl) ml_nil))) rfl) ht26 fun a28 v34 w29 hA28 _ hn31 hz32 hK33 => ?_)
  obtain ⟨r_27, rfl, ht30⟩ := hK33
  have hB35 := hB19.kept hn31 (.head _)
  have hB36 := hB16.kept hn31 (.tail _ (.head _))
  refine sq (opk_val hA28 rfl (r_eql (hA28.get rfl) rfl) fun a37 hA37 _ => ?_)
  refine sq (opk_val hA37 rfl (r_assign (hA37.get rfl)) fun a38 hA38 _ => ?_)
  refine sq_end ?_
  have hA39 := hA38.keep [(4, .bool (decide (r_27 = 0)))] ⟨rfl, trivial⟩
  refine then_normal ?_
  refine wp_ret ?_
  exact res_all (vs := [.bool (decide (r_27 = 0))]) rfl hA39 ⟨res_of_tmp hA39 rfl, trivial⟩ ht30

/-- The condition of topiary/topiaryref05.Compare. -/
def ref05_Compare.vc (a_1_Kind : Int) (a_1_Name : Str) (a_1_Text : Str) (a_1_Attrs : Sl) (a_1_Kids : Sl) (b_2_Kind : Int) (b_2_Name : Str) (b_2_Text : Str) (b_2_Attrs : Sl) (b_2_Kids : Sl) (R : Value → World → Prop) (w : World) : Prop :=
∀ (w12 : World) (B_3 : Nat) (B_11 : Nat), New w B_3 w12 → New w B_11 w12 → B_3 ≠ B_11 → Chg [] w w12 →
CallK Try.prog 45 #[.agg #[.int .i64 a_1_Kind, .string (Bs a_1_Name), .string (Bs a_1_Text), Sl.v a_1_Attrs, Sl.v a_1_Kids], .agg #[.int .i64 b_2_Kind, .string (Bs b_2_Name), .string (Bs b_2_Text), Sl.v b_2_Attrs, Sl.v b_2_Kids]] w12 [B_3, B_11] (fun v w29 => ∃ (r_27 : Int), v = .int .i64 r_27 ∧
∃ (J_44 : Int → Int → World → Prop) (mu_45 : Int → Int → World → Nat),
J_44 r_27 0 w29 ∧
(∀ (c_41 : Int) (i_42 : Int) (w43 : World), J_44 c_41 i_42 w43 →
((((c_41 = 0) ∧ (i_42 < (a_1_Kids.n : Int))) ∧ (i_42 < (b_2_Kids.n : Int))) →
∀ (w144 : World), Chg [] w43 w144 →
∃ p_153 : Addr, (((0 : Int) ≤ i_42 ∧ i_42 < (a_1_Kids.n : Int)) ∧ a_1_Kids.a = some p_153) ∧
∃ (x_157_Kind : Int) (x_157_Name : Str) (x_157_Text : Str) (x_157_Attrs : Sl) (x_157_Kids : Sl), (Cells w144 (p_153.add (i_42.toNat * 5)) [.int .i64 x_157_Kind, .string (Bs x_157_Name), .string (Bs x_157_Text), Sl.v x_157_Attrs, Sl.v x_157_Kids]) ∧
∃ p_163 : Addr, (((0 : Int) ≤ i_42 ∧ i_42 < (b_2_Kids.n : Int)) ∧ b_2_Kids.a = some p_163) ∧
∃ (x_167_Kind : Int) (x_167_Name : Str) (x_167_Text : Str) (x_167_Attrs : Sl) (x_167_Kids : Sl), (Cells w144 (p_163.add (i_42.toNat * 5)) [.int .i64 x_167_Kind, .string (Bs x_167_Name), .string (Bs x_167_Text), Sl.v x_167_Attrs, Sl.v x_167_Kids]) ∧
∃ (r_172 : Int), (∀ w' : World, Ext w144 w' → Calls Try.prog 33 #[.agg #[.int .i64 x_157_Kind, .string (Bs x_157_Name), .string (Bs x_157_Text), Sl.v x_157_Attrs, Sl.v x_157_Kids], .agg #[.int .i64 x_167_Kind, .string (Bs x_167_Name), .string (Bs x_167_Text), Sl.v x_167_Attrs, Sl.v x_167_Kids]] w' (Ret fun v w'' => Ext w' w'' ∧ v = .int .i64 r_172)) ∧
(I64 (i_42 + 1)) ∧
∀ (w177 : World), Chg [] w144 w177 →
J_44 r_172 (i_42 + 1) w177 ∧ mu_45 r_172 (i_42 + 1) w177 < mu_45 c_41 i_42 w43) ∧
((((¬ (c_41 = 0)) ∨ (¬ (i_42 < (a_1_Kids.n : Int)))) ∨ (¬ (i_42 < (b_2_Kids.n : Int)))) →
((c_41 = 0) →
CallK Try.prog 46 #[.bool (decide ((a_1_Kids.n : Int) < (b_2_Kids.n : Int))), .bool (decide ((b_2_Kids.n : Int) < (a_1_Kids.n : Int)))] w43 [B_3, B_11] (fun v w218 => ∃ (r_216 : Int), v = .int .i64 r_216 ∧
R (.int .i64 r_216) w218)) ∧
((¬ (c_41 = 0)) →
R (.int .i64 c_41) w43))))
set_option maxHeartbeats 1000000 in
set_option maxRecDepth 10000 in
theorem ref05_Compare.ok (a_1_Kind : Int) (a_1_Name : Str) (a_1_Text : Str) (a_1_Attrs : Sl) (a_1_Kids : Sl) (b_2_Kind : Int) (b_2_Name : Str) (b_2_Text : Str) (b_2_Attrs : Sl) (b_2_Kids : Sl) {R : Value → World → Prop} {w : World} (ht0 : ref05_Compare.vc a_1_Kind a_1_Name a_1_Text a_1_Attrs a_1_Kids b_2_Kind b_2_Name b_2_Text b_2_Attrs b_2_Kids R w) : Calls Try.prog 33 #[.agg #[.int .i64 a_1_Kind, .string (Bs a_1_Name), .string (Bs a_1_Text), Sl.v a_1_Attrs, Sl.v a_1_Kids], .agg #[.int .i64 b_2_Kind, .string (Bs b_2_Name), .string (Bs b_2_Text), Sl.v b_2_Attrs, Sl.v b_2_Kids]] w (Ret R) := by
  refine enter [.agg #[.int .i64 a_1_Kind, .string (Bs a_1_Name), .string (Bs a_1_Text), Sl.v a_1_Attrs, Sl.v a_1_Kids], .agg #[.int .i64 b_2_Kind, .string (Bs b_2_Name), .string (Bs b_2_Text), Sl.v b_2_Attrs, Sl.v b_2_Kids]] Try.func33 rfl Try.ntmps33 rfl ?_
  intro a0 hA0
  unfold ref05_Compare.vc at ht0
  refine wp_seq ?_
  refine wp_region_lit ?_
  refine sq (opk_new (fun B => .pointer (some ⟨B, 0, none⟩)) hA0 rfl (r_box (cs := [.int .i64 a_1_Kind, .string (Bs a_1_Name), .string (Bs a_1_Text), Sl.v a_1_Attrs, Sl.v a_1_Kids]) (hA0.get rfl) rfl) fun a5 w4 B_3 hE6 hN7 hB8 hA5 _ => ?_)
  have hN9 : New w B_3 w4 := hN7
  have hC10 : Chg [] w w4 := hE6
  refine sq (opk_new (fun B => .pointer (some ⟨B, 0, none⟩)) hA5 rfl (r_box (cs := [.int .i64 b_2_Kind, .string (Bs b_2_Name), .string (Bs b_2_Text), Sl.v b_2_Attrs, Sl.v b_2_Kids]) (hA5.get rfl) rfl) fun a13 w12 B_11 hE14 hN15 hB16 hA13 _ => ?_)
  have hne17 : B_3 ≠ B_11 := Nat.ne_of_lt (Nat.lt_of_lt_of_le hB8.lt hN15.ge)
  have hN18 := New.of hC10 hN15
  have hB19 := hB8.ext hE14
  have hC20 := hC10.more hE14
  have hN21 := hN9.up hE14.size
  refine sq (opk_val hA13 rfl (r_assign rfl) fun a22 hA22 _ => ?_)
  refine sq_end ?_
  have hA23 := hA22.keep [(2, .pointer (some (⟨B_3, 0, none⟩ : Addr))), (3, .pointer (some (⟨B_11, 0, none⟩ : Addr)))] ⟨rfl, rfl, trivial⟩
  refine then_normal ?_
  refine wp_seq ?_
  refine wp_region_lit ?_
  refine sq (opk_val hA23 rfl (r_loadN (cs := [.int .i64 a_1_Kind, .string (Bs a_1_Name), .string (Bs a_1_Text), Sl.v a_1_Attrs, Sl.v a_1_Kids]) Try.underlying26 rfl ti_26 (hA23.get rfl) (hB19.part 0 _ rfl)) fun a24 hA24 _ => ?_)
  refine sq (opk_val hA24 rfl (r_loadN (cs := [.int .i64 b_2_Kind, .string (Bs b_2_Name), .string (Bs b_2_Text), Sl.v b_2_Attrs, Sl.v b_2_Kids]) Try.underlying26 rfl ti_26 (hA24.get rfl) (hB16.part 0 _ rfl)) fun a25 hA25 _ => ?_)
  have ht26 := ht0 w12 B_3 B_11 hN21 hN18 hne17 hC20
  refine sq (opk_call hA25 rfl (r_call (args := #[.agg #[.int .i64 a_1_Kind, .string (Bs a_1_Name), .string (Bs a_1_Text), Sl.v a_1_Attrs, Sl.v a_1_Kids], .agg #[.int .i64 b_2_Kind, .string (Bs b_2_Name), .string (Bs b_2_Text), Sl.v b_2_Attrs, Sl.v b_2_Kids]]) Try.func45 (by decide) rfl (map_arr (ml_cons (hA25.get rfl) (ml_cons (hA25.get rfl) ml_nil))) rfl) ht26 fun a28 v34 w29 hA28 _ hn31 hz32 hK33 => ?_)
  obtain ⟨r_27, rfl, ht30⟩ := hK33
  have hB35 := hB19.kept hn31 (.head _)
  have hB36 := hB16.kept hn31 (.tail _ (.head _))
  refine sq (opk_val hA28 rfl (r_assign (hA28.get rfl)) fun a37 hA37 _ => ?_)
  refine sq_end ?_
  have hA38 := hA37.keep [(2, .pointer (some (⟨B_3, 0, none⟩ : Addr))), (3, .pointer (some (⟨B_11, 0, none⟩ : Addr))), (5, .int .i64 r_27)] ⟨rfl, rfl, rfl, trivial⟩
  refine then_normal ?_
  refine wp_seq ?_
  refine wp_seq ?_
  refine wp_region_lit ?_
  refine sq (opk_val hA38 rfl (r_assign rfl) fun a39 hA39 _ => ?_)
  refine sq_end ?_
  have hA40 := hA39.keep [(2, .pointer (some (⟨B_3, 0, none⟩ : Addr))), (3, .pointer (some (⟨B_11, 0, none⟩ : Addr))), (5, .int .i64 r_27), (6, .int .i64 0)] ⟨rfl, rfl, rfl, rfl, trivial⟩
  refine then_normal ?_
  refine wp_block ?_
  obtain ⟨J_44, mu_45, h0122, ht121⟩ := ht30
  refine wp_loop_st (σ := Int × Int × World) (fun s a w => Ag 57 a [(2, .pointer (some (⟨B_3, 0, none⟩ : Addr))), (3, .pointer (some (⟨B_11, 0, none⟩ : Addr))), (5, .int .i64 s.1), (6, .int .i64 s.2.1)] ∧ Box w B_3 26 [.int .i64 a_1_Kind, .string (Bs a_1_Name), .string (Bs a_1_Text), Sl.v a_1_Attrs, Sl.v a_1_Kids] ∧ Box w B_11 26 [.int .i64 b_2_Kind, .string (Bs b_2_Name), .string (Bs b_2_Text), Sl.v b_2_Attrs, Sl.v b_2_Kids] ∧ w = s.2.2 ∧ J_44 s.1 s.2.1 s.2.2) (fun s => mu_45 s.1 s.2.1 s.2.2) (r_27, 0, w29) ⟨hA40.keep [(2, .pointer (some (⟨B_3, 0, none⟩ : Addr))), (3, .pointer (some (⟨B_11, 0, none⟩ : Addr))), (5, .int .i64 r_27), (6, .int .i64 0)] ⟨rfl, rfl, rfl, rfl, trivial⟩, hB35, hB36, rfl, h0122⟩ ?_
  rintro ⟨c_41, i_42, w43⟩ a118 w_ ⟨hA118, hB119, hB120, hw_, hJ124⟩
  have hw_ : w43 = w_ := hw_.symm
  subst hw_
  have ht123 := ht121 c_41 i_42 _ hJ124
  refine wp_seq ?_
  refine wp_seq ?_
  refine wp_region_lit ?_
  refine sq (opk_val hA118 rfl (r_move (hA118.get rfl)) fun a125 hA125 _ => ?_)
  refine sq (opk_val hA125 rfl (r_eql (hA125.get rfl) rfl) fun a126 hA126 _ => ?_)
  refine sq (opk_val hA126 rfl (r_move (hA126.get rfl)) fun a127 hA127 _ => ?_)
  refine sq (opk_gval hA127 rfl rfl (g := true) (e := (decide (c_41 = 0))) rfl (fun hg => r_move (hA127.get rfl)) fun a128 hA128 _ => ?_)
  refine sq (opk_gval hA128 rfl rfl (g := true) (e := (decide (c_41 = 0))) rfl (fun hg => r_fieldAddr (hA128.get rfl) Try.underlying26 rfl ti_24 (by decide)) fun a129 hA129 _ => ?_)
  refine sq (opk_gval hA129 rfl rfl (g := true) (e := (decide (c_41 = 0))) rfl (fun hg => r_load1 Try.underlying24 rfl (cv_get (hA129.get rfl) hg) (hB119.cell 4 _ rfl)) fun a130 hA130 _ => ?_)
  refine sq (opk_gval hA130 rfl rfl (g := true) (e := (decide (c_41 = 0))) rfl (fun hg => r_len (cv_get (hA130.get rfl) hg) Try.underlying24) fun a131 hA131 _ => ?_)
  refine sq (opk_gval hA131 rfl rfl (g := true) (e := (decide (c_41 = 0))) rfl (fun hg => r_lss (cv_get (hA131.get rfl) hg) (cv_get (hA131.get rfl) hg)) fun a132 hA132 _ => ?_)
  refine sq (opk_val hA132 rfl (r_pick_and (g := (true && ((decide (c_41 = 0)) == true))) (hA132.get rfl) (hA132.get rfl) (fun he => g_mkt rfl he)) fun a133 hA133 _ => ?_)
  refine sq (opk_val hA133 rfl (r_move (hA133.get rfl)) fun a134 hA134 _ => ?_)
  refine sq (opk_gval hA134 rfl rfl (g := true) (e := ((decide (c_41 = 0)) && (decide (i_42 < (a_1_Kids.n : Int))))) rfl (fun hg => r_move (hA134.get rfl)) fun a135 hA135 _ => ?_)
  refine sq (opk_gval hA135 rfl rfl (g := true) (e := ((decide (c_41 = 0)) && (decide (i_42 < (a_1_Kids.n : Int))))) rfl (fun hg => r_fieldAddr (hA135.get rfl) Try.underlying26 rfl ti_24 (by decide)) fun a136 hA136 _ => ?_)
  refine sq (opk_gval hA136 rfl rfl (g := true) (e := ((decide (c_41 = 0)) && (decide (i_42 < (a_1_Kids.n : Int))))) rfl (fun hg => r_load1 Try.underlying24 rfl (cv_get (hA136.get rfl) hg) (hB120.cell 4 _ rfl)) fun a137 hA137 _ => ?_)
  refine sq (opk_gval hA137 rfl rfl (g := true) (e := ((decide (c_41 = 0)) && (decide (i_42 < (a_1_Kids.n : Int))))) rfl (fun hg => r_len (cv_get (hA137.get rfl) hg) Try.underlying24) fun a138 hA138 _ => ?_)
  refine sq (opk_gval hA138 rfl rfl (g := true) (e := ((decide (c_41 = 0)) && (decide (i_42 < (a_1_Kids.n : Int))))) rfl (fun hg => r_lss (cv_get (hA138.get rfl) hg) (cv_get (hA138.get rfl) hg)) fun a139 hA139 _ => ?_)
  refine sq (opk_val hA139 rfl (r_pick_and (g := (true && (((decide (c_41 = 0)) && (decide (i_42 < (a_1_Kids.n : Int)))) == true))) (hA139.get rfl) (hA139.get rfl) (fun he => g_mkt rfl he)) fun a140 hA140 _ => ?_)
  refine sq_end ?_
  have hA141 := hA140.keep [(2, .pointer (some (⟨B_3, 0, none⟩ : Addr))), (3, .pointer (some (⟨B_11, 0, none⟩ : Addr))), (5, .int .i64 c_41), (6, .int .i64 i_42), (25, .bool (((decide (c_41 = 0)) && (decide (i_42 < (a_1_Kids.n : Int)))) && (decide (i_42 < (b_2_Kids.n : Int)))))] ⟨rfl, rfl, rfl, rfl, rfl, trivial⟩
  refine then_normal ?_
  refine wp_cond_split (hA141.get rfl) (fun hc => ?_) (fun hc => ?_)
  · have ht142 := ht123.1 ⟨⟨(of_decide_eq_true (b_and_t (b_and_t hc).1).1), (of_decide_eq_true (b_and_t (b_and_t hc).1).2)⟩, (of_decide_eq_true (b_and_t hc).2)⟩
    clear hc
    refine wp_skip ?_
    refine then_normal ?_
    refine wp_seq ?_
    refine wp_block ?_
    refine draw' (by kernel_rfl) fun w144 hE145 => ?_
    have hB146 := hB119.ext hE145
    have hB147 := hB120.ext hE145
    have hC148 : Chg [] w43 w144 := hE145
    have ht149 := ht142 w144    hC148
    obtain ⟨p_153, hp154, ht155⟩ := ht149
    obtain ⟨x_157_Kind, x_157_Name, x_157_Text, x_157_Attrs, x_157_Kids, hx158, ht159⟩ := ht155
    obtain ⟨p_163, hp164, ht165⟩ := ht159
    obtain ⟨x_167_Kind, x_167_Name, x_167_Text, x_167_Attrs, x_167_Kids, hx168, ht169⟩ := ht165
    obtain ⟨r_172, hc173, ht174⟩ := ht169
    refine par (D := [[], [0], [], [0, 1, 2], [0, 1, 2, 3], [], [5], [], [5, 6, 7], [5, 6, 7, 8], [0, 1, 2, 3, 4, 5, 6, 7, 8, 9], [0, 1, 2, 3, 4, 5, 6, 7, 8, 9, 10]]) (S := [0, 1, 2, 3, 4, 5, 6, 7, 8, 9, 10, 11]) (F := []) (V := VL [(0, fun v _ => v = .pointer (some (⟨B_3, 4, none⟩ : Addr))), (1, fun v _ => v = Sl.v a_1_Kids), (2, fun v _ => v = .int .i64 i_42), (3, fun v _ => v = .pointer (some (p_153.add (i_42.toNat * 5)))), (4, fun v _ => v = .agg #[.int .i64 x_157_Kind, .string (Bs x_157_Name), .string (Bs x_157_Text), Sl.v x_157_Attrs, Sl.v x_157_Kids]), (5, fun v _ => v = .pointer (some (⟨B_11, 4, none⟩ : Addr))), (6, fun v _ => v = Sl.v b_2_Kids), (7, fun v _ => v = .int .i64 i_42), (8, fun v _ => v = .pointer (some (p_163.add (i_42.toNat * 5)))), (9, fun v _ => v = .agg #[.int .i64 x_167_Kind, .string (Bs x_167_Name), .string (Bs x_167_Text), Sl.v x_167_Attrs, Sl.v x_167_Kids]), (10, fun v _ => v = .int .i64 r_172), (11, fun v _ => v = .int .i64 r_172)]) hA141 (by kernel_rfl) ⟨fun _ _ _ _ h => by first | exact h | (change _ = _ at h; change _ = _; exact h), fun _ _ _ _ h => by first | exact h | (change _ = _ at h; change _ = _; exact h), fun _ _ _ _ h => by first | exact h | (change _ = _ at h; change _ = _; exact h), fun _ _ _ _ h => by first | exact h | (change _ = _ at h; change _ = _; exact h), fun _ _ _ _ h => by first | exact h | (change _ = _ at h; change _ = _; exact h), fun _ _ _ _ h => by first | exact h | (change _ = _ at h; change _ = _; exact h), fun _ _ _ _ h => by first | exact h | (change _ = _ at h; change _ = _; exact h), fun _ _ _ _ h => by first | exact h | (change _ = _ at h; change _ = _; exact h), fun _ _ _ _ h => by first | exact h | (change _ = _ at h; change _ = _; exact h), fun _ _ _ _ h => by first | exact h | (change _ = _ at h; change _ = _; exact h), fun _ _ _ _ h => by first | exact h | (change _ = _ at h; change _ = _; exact h), fun _ _ _ _ h => by first | exact h | (change _ = _ at h; change _ = _; exact h), trivial⟩ ⟨?_, ?_, ?_, ?_, ?_, ?_, ?_, ?_, ?_, ?_, ?_, ?_, trivial⟩ ?_
    · intro a w hT
      have hAp := hT.ag hA141 [(2, .pointer (some (⟨B_3, 0, none⟩ : Addr)))] ⟨rfl, trivial⟩ (by kernel_rfl)
      exact opk_val hAp rfl (r_fieldAddr (hAp.get rfl) Try.underlying26 rfl ti_24 (by decide)) fun _ _ e => ⟨_, e, Chg.refl _ _, fun _ => Eq.refl _⟩
    · intro a w hT
      have hAp := hT.ag hA141 [] trivial (by kernel_rfl)
      have e150 : a.tmps.getD 28 undef = .pointer (some (⟨B_3, 4, none⟩ : Addr)) := hT.vals 0 rfl 28 rfl
      have hAp := hAp.add e150
      exact opk_val hAp rfl (r_load1 Try.underlying24 rfl (hAp.get rfl) ((hB146.ext hT.chg).cell 4 _ rfl)) fun _ _ e => ⟨_, e, Chg.refl _ _, fun _ => Eq.refl _⟩
    · intro a w hT
      have hAp := hT.ag hA141 [(6, .int .i64 i_42)] ⟨rfl, trivial⟩ (by kernel_rfl)
      exact opk_val hAp rfl (r_move (hAp.get rfl)) fun _ _ e => ⟨_, e, Chg.refl _ _, fun _ => Eq.refl _⟩
    · intro a w hT
      have hAp := hT.ag hA141 [] trivial (by kernel_rfl)
      have e151 : a.tmps.getD 29 undef = Sl.v a_1_Kids := hT.vals 1 rfl 29 rfl
      have hAp := hAp.add e151
      have e152 : a.tmps.getD 30 undef = .int .i64 i_42 := hT.vals 2 rfl 30 rfl
      have hAp := hAp.add e152
      exact opk_val hAp rfl (r_indexAddr (hAp.get rfl) (hAp.get rfl) Try.underlying24 ti_26 hp154.1 hp154.2) fun _ _ e => ⟨_, e, Chg.refl _ _, fun _ => Eq.refl _⟩
    · intro a w hT
      have hAp := hT.ag hA141 [] trivial (by kernel_rfl)
      have e156 : a.tmps.getD 31 undef = .pointer (some (p_153.add (i_42.toNat * 5))) := hT.vals 3 rfl 31 rfl
      have hAp := hAp.add e156
      exact opk_val hAp rfl (r_loadN Try.underlying26 rfl ti_26 (hAp.get rfl) (hx158.ext hT.chg)) fun _ _ e => ⟨_, e, Chg.refl _ _, fun _ => Eq.refl _⟩
    · intro a w hT
      have hAp := hT.ag hA141 [(3, .pointer (some (⟨B_11, 0, none⟩ : Addr)))] ⟨rfl, trivial⟩ (by kernel_rfl)
      exact opk_val hAp rfl (r_fieldAddr (hAp.get rfl) Try.underlying26 rfl ti_24 (by decide)) fun _ _ e => ⟨_, e, Chg.refl _ _, fun _ => Eq.refl _⟩
    · intro a w hT
      have hAp := hT.ag hA141 [] trivial (by kernel_rfl)
      have e160 : a.tmps.getD 33 undef = .pointer (some (⟨B_11, 4, none⟩ : Addr)) := hT.vals 5 rfl 33 rfl
      have hAp := hAp.add e160
      exact opk_val hAp rfl (r_load1 Try.underlying24 rfl (hAp.get rfl) ((hB147.ext hT.chg).cell 4 _ rfl)) fun _ _ e => ⟨_, e, Chg.refl _ _, fun _ => Eq.refl _⟩
    · intro a w hT
      have hAp := hT.ag hA141 [(6, .int .i64 i_42)] ⟨rfl, trivial⟩ (by kernel_rfl)
      exact opk_val hAp rfl (r_move (hAp.get rfl)) fun _ _ e => ⟨_, e, Chg.refl _ _, fun _ => Eq.refl _⟩
    · intro a w hT
      have hAp := hT.ag hA141 [] trivial (by kernel_rfl)
      have e161 : a.tmps.getD 34 undef = Sl.v b_2_Kids := hT.vals 6 rfl 34 rfl
      have hAp := hAp.add e161
      have e162 : a.tmps.getD 35 undef = .int .i64 i_42 := hT.vals 7 rfl 35 rfl
      have hAp := hAp.add e162
      exact opk_val hAp rfl (r_indexAddr (hAp.get rfl) (hAp.get rfl) Try.underlying24 ti_26 hp164.1 hp164.2) fun _ _ e => ⟨_, e, Chg.refl _ _, fun _ => Eq.refl _⟩
    · intro a w hT
      have hAp := hT.ag hA141 [] trivial (by kernel_rfl)
      have e166 : a.tmps.getD 36 undef = .pointer (some (p_163.add (i_42.toNat * 5))) := hT.vals 8 rfl 36 rfl
      have hAp := hAp.add e166
      exact opk_val hAp rfl (r_loadN Try.underlying26 rfl ti_26 (hAp.get rfl) (hx168.ext hT.chg)) fun _ _ e => ⟨_, e, Chg.refl _ _, fun _ => Eq.refl _⟩
    · intro a w hT
      have hAp := hT.ag hA141 [] trivial (by kernel_rfl)
      have e170 : a.tmps.getD 32 undef = .agg #[.int .i64 x_157_Kind, .string (Bs x_157_Name), .string (Bs x_157_Text), Sl.v x_157_Attrs, Sl.v x_157_Kids] := hT.vals 4 rfl 32 rfl
      have hAp := hAp.add e170
      have e171 : a.tmps.getD 37 undef = .agg #[.int .i64 x_167_Kind, .string (Bs x_167_Name), .string (Bs x_167_Text), Sl.v x_167_Attrs, Sl.v x_167_Kids] := hT.vals 9 rfl 37 rfl
      have hAp := hAp.add e171
      exact opk_callX hAp rfl (r_call (args := #[.agg #[.int .i64 x_157_Kind, .string (Bs x_157_Name), .string (Bs x_157_Text), Sl.v x_157_Attrs, Sl.v x_157_Kids], .agg #[.int .i64 x_167_Kind, .string (Bs x_167_Name), .string (Bs x_167_Text), Sl.v x_167_Attrs, Sl.v x_167_Kids]]) Try.func33 (by decide) rfl (map_arr (ml_cons (hAp.get rfl) (ml_cons (hAp.get rfl) ml_nil))) rfl) (hc173 w hT.chg) fun _ _ _ _ e hR => ⟨_, e, hR.1, fun _ => hR.2⟩
    · intro a w hT
      have hAp := hT.ag hA141 [] trivial (by kernel_rfl)
      have e175 : a.tmps.getD 38 undef = .int .i64 r_172 := hT.vals 10 rfl 38 rfl
      have hAp := hAp.add e175
      exact opk_val hAp rfl (r_assign (hAp.get rfl)) fun _ _ e => ⟨_, e, Chg.refl _ _, fun _ => Eq.refl _⟩
    · intro a176 w177 hE178 hag179 hv180
      have hA176 := hag179 [(2, .pointer (some (⟨B_3, 0, none⟩ : Addr))), (3, .pointer (some (⟨B_11, 0, none⟩ : Addr))), (6, .int .i64 i_42)] ⟨rfl, rfl, rfl, trivial⟩ (by kernel_rfl)
      have e182 : a176.tmps.getD 5 undef = .int .i64 r_172 := hv180 11 rfl 5 rfl
      have hA183 := hA176.add e182
      have hB184 := hB146.ext hE178
      have hB185 := hB147.ext hE178
      have hC186 : Chg [] w144 w177 := hE178
      refine PR_end (by kernel_rfl) ?_
      have hA187 := hA183.keep [(2, .pointer (some (⟨B_3, 0, none⟩ : Addr))), (3, .pointer (some (⟨B_11, 0, none⟩ : Addr))), (5, .int .i64 r_172), (6, .int .i64 i_42)] ⟨rfl, rfl, rfl, rfl, trivial⟩
      refine block_normal ?_
      refine then_normal ?_
      refine wp_region_lit ?_
      refine sq (opk_val hA187 rfl (r_move (hA187.get rfl)) fun a188 hA188 _ => ?_)
      obtain ⟨hS190, ht191⟩ := ht174
      refine sq (opk_val hA188 rfl (r_addI (hA188.get rfl) rfl hS190) fun a189 hA189 _ => ?_)
      refine sq (opk_val hA189 rfl (r_assign (hA189.get rfl)) fun a192 hA192 _ => ?_)
      refine sq_end ?_
      have hA193 := hA192.keep [(2, .pointer (some (⟨B_3, 0, none⟩ : Addr))), (3, .pointer (some (⟨B_11, 0, none⟩ : Addr))), (5, .int .i64 r_172), (6, .int .i64 (i_42 + 1))] ⟨rfl, rfl, rfl, rfl, trivial⟩
      have ht194 := ht191 w177    hC186
      have hA195 := hA193.keep [(2, .pointer (some (⟨B_3, 0, none⟩ : Addr))), (3, .pointer (some (⟨B_11, 0, none⟩ : Addr))), (5, .int .i64 r_172), (6, .int .i64 (i_42 + 1))] ⟨rfl, rfl, rfl, rfl, trivial⟩
      exact then_normal ⟨(r_172, i_42 + 1, w177), ⟨hA195, hB184, hB185, rfl, ht194.1⟩, ht194.2⟩
  · have ht143 := ht123.2 ((b_and_f hc).imp (fun h => ((b_and_f h).imp (fun h => (of_decide_eq_false h)) (fun h => (of_decide_eq_false h)))) (fun h => (of_decide_eq_false h)))
    clear hc
    refine wp_exit ?_
    refine then_exit ?_
    refine then_exit ?_
    refine block_hit ?_
    have hA196 := hA141.keep [(2, .pointer (some (⟨B_3, 0, none⟩ : Addr))), (3, .pointer (some (⟨B_11, 0, none⟩ : Addr))), (5, .int .i64 c_41)] ⟨rfl, rfl, rfl, trivial⟩
    refine then_normal ?_
    refine wp_seq ?_
    refine wp_seq ?_
    refine wp_region_lit ?_
    refine sq (opk_val hA196 rfl (r_move (hA196.get rfl)) fun a197 hA197 _ => ?_)
    refine sq (opk_val hA197 rfl (r_eql (hA197.get rfl) rfl) fun a198 hA198 _ => ?_)
    refine sq_end ?_
    have hA199 := hA198.keep [(2, .pointer (some (⟨B_3, 0, none⟩ : Addr))), (3, .pointer (some (⟨B_11, 0, none⟩ : Addr))), (5, .int .i64 c_41), (40, .bool (decide (c_41 = 0)))] ⟨rfl, rfl, rfl, rfl, trivial⟩
    refine then_normal ?_
    refine wp_cond_split (hA199.get rfl) (fun hc => ?_) (fun hc => ?_)
    · have ht200 := ht143.1 (of_decide_eq_true hc)
      clear hc
      refine wp_region_lit ?_
      refine sq (opk_val hA199 rfl (r_fieldAddr (hA199.get rfl) Try.underlying26 rfl ti_24 (by decide)) fun a202 hA202 _ => ?_)
      refine sq (opk_val hA202 rfl (r_load1 Try.underlying24 rfl (hA202.get rfl) (hB119.cell 4 _ rfl)) fun a203 hA203 _ => ?_)
      refine sq (opk_val hA203 rfl (r_len (hA203.get rfl) Try.underlying24) fun a204 hA204 _ => ?_)
      refine sq (opk_val hA204 rfl (r_fieldAddr (hA204.get rfl) Try.underlying26 rfl ti_24 (by decide)) fun a205 hA205 _ => ?_)
      refine sq (opk_val hA205 rfl (r_load1 Try.underlying24 rfl (hA205.get rfl) (hB120.cell 4 _ rfl)) fun a206 hA206 _ => ?_)
      refine sq (opk_val hA206 rfl (r_len (hA206.get rfl) Try.underlying24) fun a207 hA207 _ => ?_)
      refine sq (opk_val hA207 rfl (r_lss (hA207.get rfl) (hA207.get rfl)) fun a208 hA208 _ => ?_)
      refine sq (opk_val hA208 rfl (r_fieldAddr (hA208.get rfl) Try.underlying26 rfl ti_24 (by decide)) fun a209 hA209 _ => ?_)
      refine sq (opk_val hA209 rfl (r_load1 Try.underlying24 rfl (hA209.get rfl) (hB119.cell 4 _ rfl)) fun a210 hA210 _ => ?_)
      refine sq (opk_val hA210 rfl (r_len (hA210.get rfl) Try.underlying24) fun a211 hA211 _ => ?_)
      refine sq (opk_val hA211 rfl (r_fieldAddr (hA211.get rfl) Try.underlying26 rfl ti_24 (by decide)) fun a212 hA212 _ => ?_)
      refine sq (opk_val hA212 rfl (r_load1 Try.underlying24 rfl (hA212.get rfl) (hB120.cell 4 _ rfl)) fun a213 hA213 _ => ?_)
      refine sq (opk_val hA213 rfl (r_len (hA213.get rfl) Try.underlying24) fun a214 hA214 _ => ?_)
      refine sq (opk_val hA214 rfl (r_gtr (hA214.get rfl) (hA214.get rfl)) fun a215 hA215 _ => ?_)
      refine sq (opk_call hA215 rfl (r_call (args := #[.bool (decide ((a_1_Kids.n : Int) < (b_2_Kids.n : Int))), .bool (decide ((b_2_Kids.n : Int) < (a_1_Kids.n : Int)))]) Try.func46 (by decide) rfl (map_arr (ml_cons (hA215.get rfl) (ml_cons (hA215.get rfl) ml_nil))) rfl) ht200 fun a217 v223 w218 hA217 _ hn220 hz221 hK222 => ?_)
      obtain ⟨r_216, rfl, ht219⟩ := hK222
      have hB224 := hB119.kept hn220 (.head _)
      have hB225 := hB120.kept hn220 (.tail _ (.head _))
      refine sq (opk_val hA217 rfl (r_assign (hA217.get rfl)) fun a226 hA226 _ => ?_)
      refine sq_end ?_
      have hA227 := hA226.keep [(5, .int .i64 r_216)] ⟨rfl, trivial⟩
      refine then_normal ?_
      refine wp_seq ?_
      refine wp_region_lit ?_
      refine sq (opk_val hA227 rfl (r_move (hA227.get rfl)) fun a228 hA228 _ => ?_)
      refine sq (opk_val hA228 rfl (r_assign (hA228.get rfl)) fun a229 hA229 _ => ?_)
      refine sq_end ?_
      have hA230 := hA229.keep [(4, .int .i64 r_216)] ⟨rfl, trivial⟩
      refine then_normal ?_
      refine wp_ret ?_
      exact res_all (vs := [.int .i64 r_216]) rfl hA230 ⟨res_of_tmp hA230 rfl, trivial⟩ ht219
    · have ht201 := ht143.2 (of_decide_eq_false hc)
      clear hc
      refine wp_skip ?_
      refine then_normal ?_
      refine wp_seq ?_
      refine wp_region_lit ?_
      refine sq (opk_val hA199 rfl (r_move (hA199.get rfl)) fun a231 hA231 _ => ?_)
      refine sq (opk_val hA231 rfl (r_assign (hA231.get rfl)) fun a232 hA232 _ => ?_)
      refine sq_end ?_
      have hA233 := hA232.keep [(4, .int .i64 c_41)] ⟨rfl, trivial⟩
      refine then_normal ?_
      refine wp_ret ?_
      exact res_all (vs := [.int .i64 c_41]) rfl hA233 ⟨res_of_tmp hA233 rfl, trivial⟩ ht201

/-- The condition of topiary/topiaryref05.all. -/
def ref05_all.vc (t_1_Kind : Int) (t_1_Name : Str) (t_1_Text : Str) (t_1_Attrs : Sl) (t_1_Kids : Sl) (top_2 : Bool) (root_3 : Bool) (R : Value → World → Prop) (w : World) : Prop :=
∀ (w5 : World) (B_4 : Nat), New w B_4 w5 → Chg [] w w5 →
CallK Try.prog 50 #[.agg #[.int .i64 t_1_Kind, .string (Bs t_1_Name), .string (Bs t_1_Text), Sl.v t_1_Attrs, Sl.v t_1_Kids], .bool top_2, .bool root_3] w5 [B_4] (fun v w20 => ∃ (r_18 : Bool), v = .bool r_18 ∧
((r_18 = false) →
R (.bool false) w20) ∧
((r_18 = true) →
∃ (J_37 : Int → World → Prop) (mu_38 : Int → World → Nat),
J_37 0 w20 ∧
(∀ (i_35 : Int) (w36 : World), J_37 i_35 w36 →
((i_35 < (t_1_Kids.n : Int)) →
∀ (w107 : World), Chg [] w36 w107 →
∃ p_115 : Addr, (((0 : Int) ≤ i_35 ∧ i_35 < (t_1_Kids.n : Int)) ∧ t_1_Kids.a = some p_115) ∧
∃ (x_119_Kind : Int) (x_119_Name : Str) (x_119_Text : Str) (x_119_Attrs : Sl) (x_119_Kids : Sl), (Cells w107 (p_115.add (i_35.toNat * 5)) [.int .i64 x_119_Kind, .string (Bs x_119_Name), .string (Bs x_119_Text), Sl.v x_119_Attrs, Sl.v x_119_Kids]) ∧
∃ (r_126 : Bool), (∀ w' : World, Ext w107 w' → Calls Try.prog 43 #[.agg #[.int .i64 x_119_Kind, .string (Bs x_119_Name), .string (Bs x_119_Text), Sl.v x_119_Attrs, Sl.v x_119_Kids], .bool false, .bool (decide (t_1_Kind = 1))] w' (Ret fun v w'' => Ext w' w'' ∧ v = .bool r_126)) ∧
((r_126 = false) →
∀ (w131 : World), Chg [] w107 w131 →
R (.bool false) w131) ∧
((r_126 = true) →
(I64 (i_35 + 1)) ∧
∀ (w131 : World), Chg [] w107 w131 →
J_37 (i_35 + 1) w131 ∧ mu_38 (i_35 + 1) w131 < mu_38 i_35 w36)) ∧
((¬ (i_35 < (t_1_Kids.n : Int))) →
R (.bool true) w36))))
set_option maxHeartbeats 1000000 in
set_option maxRecDepth 10000 in
theorem ref05_all.ok (t_1_Kind : Int) (t_1_Name : Str) (t_1_Text : Str) (t_1_Attrs : Sl) (t_1_Kids : Sl) (top_2 : Bool) (root_3 : Bool) {R : Value → World → Prop} {w : World} (ht0 : ref05_all.vc t_1_Kind t_1_Name t_1_Text t_1_Attrs t_1_Kids top_2 root_3 R w) : Calls Try.prog 43 #[.agg #[.int .i64 t_1_Kind, .string (Bs t_1_Name), .string (Bs t_1_Text), Sl.v t_1_Attrs, Sl.v t_1_Kids], .bool top_2, .bool root_3] w (Ret R) := by
  refine enter [.agg #[.int .i64 t_1_Kind, .string (Bs t_1_Name), .string (Bs t_1_Text), Sl.v t_1_Attrs, Sl.v t_1_Kids], .bool top_2, .bool root_3] Try.func43 rfl Try.ntmps43 rfl ?_
  intro a0 hA0
  unfold ref05_all.vc at ht0
  refine wp_seq ?_
  refine wp_region_lit ?_
  refine sq (opk_new (fun B => .pointer (some ⟨B, 0, none⟩)) hA0 rfl (r_box (cs := [.int .i64 t_1_Kind, .string (Bs t_1_Name), .string (Bs t_1_Text), Sl.v t_1_Attrs, Sl.v t_1_Kids]) (hA0.get rfl) rfl) fun a6 w5 B_4 hE7 hN8 hB9 hA6 _ => ?_)
  have hN10 : New w B_4 w5 := hN8
  have hC11 : Chg [] w w5 := hE7
  refine sq (opk_val hA6 rfl (r_assign rfl) fun a12 hA12 _ => ?_)
  refine sq_end ?_
  have hA13 := hA12.keep [(1, .bool top_2), (2, .bool root_3), (3, .pointer (some (⟨B_4, 0, none⟩ : Addr)))] ⟨rfl, rfl, rfl, trivial⟩
  refine then_normal ?_
  refine wp_seq ?_
  refine wp_seq ?_
  refine wp_region_lit ?_
  refine sq (opk_val hA13 rfl (r_loadN (cs := [.int .i64 t_1_Kind, .string (Bs t_1_Name), .string (Bs t_1_Text), Sl.v t_1_Attrs, Sl.v t_1_Kids]) Try.underlying26 rfl ti_26 (hA13.get rfl) (hB9.part 0 _ rfl)) fun a14 hA14 _ => ?_)
  refine sq (opk_val hA14 rfl (r_move (hA14.get rfl)) fun a15 hA15 _ => ?_)
  refine sq (opk_val hA15 rfl (r_move (hA15.get rfl)) fun a16 hA16 _ => ?_)
  have ht17 := ht0 w5 B_4 hN10  hC11
  refine sq (opk_call hA16 rfl (r_call (args := #[.agg #[.int .i64 t_1_Kind, .string (Bs t_1_Name), .string (Bs t_1_Text), Sl.v t_1_Attrs, Sl.v t_1_Kids], .bool top_2, .bool root_3]) Try.func50 (by decide) rfl (map_arr (ml_cons (hA16.get rfl) (ml_cons (hA16.get rfl) (ml_cons (hA16.get rfl) ml_nil)))) rfl) ht17 fun a19 v25 w20 hA19 _ hn22 hz23 hK24 => ?_)
  obtain ⟨r_18, rfl, ht21⟩ := hK24
  have hB26 := hB9.kept hn22 (.head _)
  refine sq (opk_val hA19 rfl (r_not (hA19.get rfl)) fun a27 hA27 _ => ?_)
  refine sq_end ?_
  have hA28 := hA27.keep [(3, .pointer (some (⟨B_4, 0, none⟩ : Addr))), (12, .bool (!r_18))] ⟨rfl, rfl, trivial⟩
  refine then_normal ?_
  refine wp_cond_split (hA28.get rfl) (fun hc => ?_) (fun hc => ?_)
  · have ht29 := ht21.1 (b_not_t hc)
    clear hc
    refine wp_seq ?_
    refine wp_region_lit ?_
    refine sq (opk_val hA28 rfl (r_assign rfl) fun a31 hA31 _ => ?_)
    refine sq_end ?_
    have hA32 := hA31.keep [(6, .bool false)] ⟨rfl, trivial⟩
    refine then_normal ?_
    refine wp_ret ?_
    refine then_ret ?_
    exact res_all (vs := [.bool false]) rfl hA32 ⟨res_of_tmp hA32 rfl, trivial⟩ ht29
  · have ht30 := ht21.2 (b_not_f hc)
    clear hc
    refine wp_skip ?_
    refine then_normal ?_
    refine wp_seq ?_
    refine wp_seq ?_
    refine wp_region_lit ?_
    refine sq (opk_val hA28 rfl (r_assign rfl) fun a33 hA33 _ => ?_)
    refine sq_end ?_
    have hA34 := hA33.keep [(3, .pointer (some (⟨B_4, 0, none⟩ : Addr))), (7, .int .i64 0)] ⟨rfl, rfl, trivial⟩
    refine then_normal ?_
    refine wp_block ?_
    obtain ⟨J_37, mu_38, h096, ht95⟩ := ht30
    refine wp_loop_st (σ := Int × World) (fun s a w => Ag 30 a [(3, .pointer (some (⟨B_4, 0, none⟩ : Addr))), (7, .int .i64 s.1)] ∧ Box w B_4 26 [.int .i64 t_1_Kind, .string (Bs t_1_Name), .string (Bs t_1_Text), Sl.v t_1_Attrs, Sl.v t_1_Kids] ∧ w = s.2 ∧ J_37 s.1 s.2) (fun s => mu_38 s.1 s.2) (0, w20) ⟨hA34.keep [(3, .pointer (some (⟨B_4, 0, none⟩ : Addr))), (7, .int .i64 0)] ⟨rfl, rfl, trivial⟩, hB26, rfl, h096⟩ ?_
    rintro ⟨i_35, w36⟩ a93 w_ ⟨hA93, hB94, hw_, hJ98⟩
    have hw_ : w36 = w_ := hw_.symm
    subst hw_
    have ht97 := ht95 i_35 _ hJ98
    refine wp_seq ?_
    refine wp_seq ?_
    refine wp_region_lit ?_
    refine sq (opk_val hA93 rfl (r_move (hA93.get rfl)) fun a99 hA99 _ => ?_)
    refine sq (opk_val hA99 rfl (r_fieldAddr (hA99.get rfl) Try.underlying26 rfl ti_24 (by decide)) fun a100 hA100 _ => ?_)
    refine sq (opk_val hA100 rfl (r_load1 Try.underlying24 rfl (hA100.get rfl) (hB94.cell 4 _ rfl)) fun a101 hA101 _ => ?_)
    refine sq (opk_val hA101 rfl (r_len (hA101.get rfl) Try.underlying24) fun a102 hA102 _ => ?_)
    refine sq (opk_val hA102 rfl (r_lss (hA102.get rfl) (hA102.get rfl)) fun a103 hA103 _ => ?_)
    refine sq_end ?_
    have hA104 := hA103.keep [(3, .pointer (some (⟨B_4, 0, none⟩ : Addr))), (7, .int .i64 i_35), (17, .bool (decide (i_35 < (t_1_Kids.n : Int))))] ⟨rfl, rfl, rfl, trivial⟩
    refine then_normal ?_
    refine wp_cond_split (hA104.get rfl) (fun hc => ?_) (fun hc => ?_)
    · have ht105 := ht97.1 (of_decide_eq_true hc)
      clear hc
      refine wp_skip ?_
      refine then_normal ?_
      refine wp_seq ?_
      refine wp_block ?_
      refine wp_seq ?_
      refine draw' (by kernel_rfl) fun w107 hE108 => ?_
      have hB109 := hB94.ext hE108
      have hC110 : Chg [] w36 w107 := hE108
      have ht111 := ht105 w107    hC110
      obtain ⟨p_115, hp116, ht117⟩ := ht111
      obtain ⟨x_119_Kind, x_119_Name, x_119_Text, x_119_Attrs, x_119_Kids, hx120, ht121⟩ := ht117
      obtain ⟨r_126, hc127, ht128⟩ := ht121
      refine par (D := [[], [0], [], [0, 1, 2], [0, 1, 2, 3], [], [5], [5, 6], [0, 1, 2, 3, 4, 5, 6, 7], [0, 1, 2, 3, 4, 5, 6, 7, 8]]) (S := [0, 1, 2, 3, 4, 5, 6, 7, 8, 9]) (F := []) (V := VL [(0, fun v _ => v = .pointer (some (⟨B_4, 4, none⟩ : Addr))), (1, fun v _ => v = Sl.v t_1_Kids), (2, fun v _ => v = .int .i64 i_35), (3, fun v _ => v = .pointer (some (p_115.add (i_35.toNat * 5)))), (4, fun v _ => v = .agg #[.int .i64 x_119_Kind, .string (Bs x_119_Name), .string (Bs x_119_Text), Sl.v x_119_Attrs, Sl.v x_119_Kids]), (5, fun v _ => v = .pointer (some (⟨B_4, 0, none⟩ : Addr))), (6, fun v _ => v = .int .i64 t_1_Kind), (7, fun v _ => v = .bool (decide (t_1_Kind = 1))), (8, fun v _ => v = .bool r_126), (9, fun v _ => v = .bool (!r_126))]) hA104 (by kernel_rfl) ⟨fun _ _ _ _ h => by first | exact h | (change _ = _ at h; change _ = _; exact h), fun _ _ _ _ h => by first | exact h | (change _ = _ at h; change _ = _; exact h), fun _ _ _ _ h => by first | exact h | (change _ = _ at h; change _ = _; exact h), fun _ _ _ _ h => by first | exact h | (change _ = _ at h; change _ = _; exact h), fun _ _ _ _ h => by first | exact h | (change _ = _ at h; change _ = _; exact h), fun _ _ _ _ h => by first | exact h | (change _ = _ at h; change _ = _; exact h), fun _ _ _ _ h => by first | exact h | (change _ = _ at h; change _ = _; exact h), fun _ _ _ _ h => by first | exact h | (change _ = _ at h; change _ = _; exact h), fun _ _ _ _ h => by first | exact h | (change _ = _ at h; change _ = _; exact h), fun _ _ _ _ h => by first | exact h | (change _ = _ at h; change _ = _; exact h), trivial⟩ ⟨?_, ?_, ?_, ?_, ?_, ?_, ?_, ?_, ?_, ?_, trivial⟩ ?_
      · intro a w hT
        have hAp := hT.ag hA104 [(3, .pointer (some (⟨B_4, 0, none⟩ : Addr)))] ⟨rfl, trivial⟩ (by kernel_rfl)
        exact opk_val hAp rfl (r_fieldAddr (hAp.get rfl) Try.underlying26 rfl ti_24 (by decide)) fun _ _ e => ⟨_, e, Chg.refl _ _, fun _ => Eq.refl _⟩
      · intro a w hT
        have hAp := hT.ag hA104 [] trivial (by kernel_rfl)
        have e112 : a.tmps.getD 20 undef = .pointer (some (⟨B_4, 4, none⟩ : Addr)) := hT.vals 0 rfl 20 rfl
        have hAp := hAp.add e112
        exact opk_val hAp rfl (r_load1 Try.underlying24 rfl (hAp.get rfl) ((hB109.ext hT.chg).cell 4 _ rfl)) fun _ _ e => ⟨_, e, Chg.refl _ _, fun _ => Eq.refl _⟩
      · intro a w hT
        have hAp := hT.ag hA104 [(7, .int .i64 i_35)] ⟨rfl, trivial⟩ (by kernel_rfl)
        exact opk_val hAp rfl (r_move (hAp.get rfl)) fun _ _ e => ⟨_, e, Chg.refl _ _, fun _ => Eq.refl _⟩
      · intro a w hT
        have hAp := hT.ag hA104 [] trivial (by kernel_rfl)
        have e113 : a.tmps.getD 21 undef = Sl.v t_1_Kids := hT.vals 1 rfl 21 rfl
        have hAp := hAp.add e113
        have e114 : a.tmps.getD 22 undef = .int .i64 i_35 := hT.vals 2 rfl 22 rfl
        have hAp := hAp.add e114
        exact opk_val hAp rfl (r_indexAddr (hAp.get rfl) (hAp.get rfl) Try.underlying24 ti_26 hp116.1 hp116.2) fun _ _ e => ⟨_, e, Chg.refl _ _, fun _ => Eq.refl _⟩
      · intro a w hT
        have hAp := hT.ag hA104 [] trivial (by kernel_rfl)
        have e118 : a.tmps.getD 23 undef = .pointer (some (p_115.add (i_35.toNat * 5))) := hT.vals 3 rfl 23 rfl
        have hAp := hAp.add e118
        exact opk_val hAp rfl (r_loadN Try.underlying26 rfl ti_26 (hAp.get rfl) (hx120.ext hT.chg)) fun _ _ e => ⟨_, e, Chg.refl _ _, fun _ => Eq.refl _⟩
      · intro a w hT
        have hAp := hT.ag hA104 [(3, .pointer (some (⟨B_4, 0, none⟩ : Addr)))] ⟨rfl, trivial⟩ (by kernel_rfl)
        exact opk_val hAp rfl (r_fieldAddr (hAp.get rfl) Try.underlying26 rfl ti_3 (by decide)) fun _ _ e => ⟨_, e, Chg.refl _ _, fun _ => Eq.refl _⟩
      · intro a w hT
        have hAp := hT.ag hA104 [] trivial (by kernel_rfl)
        have e122 : a.tmps.getD 25 undef = .pointer (some (⟨B_4, 0, none⟩ : Addr)) := hT.vals 5 rfl 25 rfl
        have hAp := hAp.add e122
        exact opk_val hAp rfl (r_load1 Try.underlying3 rfl (hAp.get rfl) ((hB109.ext hT.chg).cell 0 _ rfl)) fun _ _ e => ⟨_, e, Chg.refl _ _, fun _ => Eq.refl _⟩
      · intro a w hT
        have hAp := hT.ag hA104 [] trivial (by kernel_rfl)
        have e123 : a.tmps.getD 26 undef = .int .i64 t_1_Kind := hT.vals 6 rfl 26 rfl
        have hAp := hAp.add e123
        exact opk_val hAp rfl (r_eql (hAp.get rfl) rfl) fun _ _ e => ⟨_, e, Chg.refl _ _, fun _ => Eq.refl _⟩
      · intro a w hT
        have hAp := hT.ag hA104 [] trivial (by kernel_rfl)
        have e124 : a.tmps.getD 24 undef = .agg #[.int .i64 x_119_Kind, .string (Bs x_119_Name), .string (Bs x_119_Text), Sl.v x_119_Attrs, Sl.v x_119_Kids] := hT.vals 4 rfl 24 rfl
        have hAp := hAp.add e124
        have e125 : a.tmps.getD 27 undef = .bool (decide (t_1_Kind = 1)) := hT.vals 7 rfl 27 rfl
        have hAp := hAp.add e125
        exact opk_callX hAp rfl (r_call (args := #[.agg #[.int .i64 x_119_Kind, .string (Bs x_119_Name), .string (Bs x_119_Text), Sl.v x_119_Attrs, Sl.v x_119_Kids], .bool false, .bool (decide (t_1_Kind = 1))]) Try.func43 (by decide) rfl (map_arr (ml_cons (hAp.get rfl) (ml_cons rfl (ml_cons (hAp.get rfl) ml_nil)))) rfl) (hc127 w hT.chg) fun _ _ _ _ e hR => ⟨_, e, hR.1, fun _ => hR.2⟩
      · intro a w hT
        have hAp := hT.ag hA104 [] trivial (by kernel_rfl)
        have e129 : a.tmps.getD 28 undef = .bool r_126 := hT.vals 8 rfl 28 rfl
        have hAp := hAp.add e129
        exact opk_val hAp rfl (r_not (hAp.get rfl)) fun _ _ e => ⟨_, e, Chg.refl _ _, fun _ => Eq.refl _⟩
      · intro a130 w131 hE132 hag133 hv134
        have hA130 := hag133 [(3, .pointer (some (⟨B_4, 0, none⟩ : Addr))), (7, .int .i64 i_35)] ⟨rfl, rfl, trivial⟩ (by kernel_rfl)
        have e136 : a130.tmps.getD 29 undef = .bool (!r_126) := hv134 9 rfl 29 rfl
        have hA137 := hA130.add e136
        have hB138 := hB109.ext hE132
        have hC139 : Chg [] w107 w131 := hE132
        refine PR_end (by kernel_rfl) ?_
        have hA140 := hA137.keep [(3, .pointer (some (⟨B_4, 0, none⟩ : Addr))), (7, .int .i64 i_35), (29, .bool (!r_126))] ⟨rfl, rfl, rfl, trivial⟩
        refine then_normal ?_
        refine wp_cond_split (hA140.get rfl) (fun hc => ?_) (fun hc => ?_)
        · have ht141 := ht128.1 (b_not_t hc)
          clear hc
          refine wp_seq ?_
          refine wp_region_lit ?_
          refine sq (opk_val hA140 rfl (r_assign rfl) fun a143 hA143 _ => ?_)
          refine sq_end ?_
          have hA144 := hA143.keep [(6, .bool false)] ⟨rfl, trivial⟩
          refine then_normal ?_
          refine wp_ret ?_
          refine block_ret ?_
          refine then_ret ?_
          refine then_ret ?_
          refine block_ret ?_
          refine then_ret ?_
          have ht145 := ht141 w131    hC139
          exact res_all (vs := [.bool false]) rfl hA144 ⟨res_of_tmp hA144 rfl, trivial⟩ ht145
        · have ht142 := ht128.2 (b_not_f hc)
          clear hc
          refine wp_skip ?_
          refine block_normal ?_
          refine then_normal ?_
          refine wp_region_lit ?_
          refine sq (opk_val hA140 rfl (r_move (hA140.get rfl)) fun a146 hA146 _ => ?_)
          obtain ⟨hS148, ht149⟩ := ht142
          refine sq (opk_val hA146 rfl (r_addI (hA146.get rfl) rfl hS148) fun a147 hA147 _ => ?_)
          refine sq (opk_val hA147 rfl (r_assign (hA147.get rfl)) fun a150 hA150 _ => ?_)
          refine sq_end ?_
          have hA151 := hA150.keep [(3, .pointer (some (⟨B_4, 0, none⟩ : Addr))), (7, .int .i64 (i_35 + 1))] ⟨rfl, rfl, trivial⟩
          have ht152 := ht149 w131    hC139
          have hA153 := hA151.keep [(3, .pointer (some (⟨B_4, 0, none⟩ : Addr))), (7, .int .i64 (i_35 + 1))] ⟨rfl, rfl, trivial⟩
          exact then_normal ⟨(i_35 + 1, w131), ⟨hA153, hB138, rfl, ht152.1⟩, ht152.2⟩
    · have ht106 := ht97.2 (of_decide_eq_false hc)
      clear hc
      refine wp_exit ?_
      refine then_exit ?_
      refine then_exit ?_
      refine block_hit ?_
      have hA154 := hA104.keep [] trivial
      refine then_normal ?_
      refine wp_seq ?_
      refine wp_region_lit ?_
      refine sq (opk_val hA154 rfl (r_assign rfl) fun a155 hA155 _ => ?_)
      refine sq_end ?_
      have hA156 := hA155.keep [(6, .bool true)] ⟨rfl, trivial⟩
      refine then_normal ?_
      refine wp_ret ?_
      exact res_all (vs := [.bool true]) rfl hA156 ⟨res_of_tmp hA156 rfl, trivial⟩ ht106

end Go.Proofs.Ytpacegmmbabhjaa
