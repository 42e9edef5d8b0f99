/-
  PRINTED BY PROGRAM: for each function its condition (vc), and that this suffices (ok).
-/
import Derived.Test.YteohbfaechfliaaGT
namespace Go.Proofs.Yteohbfaechfliaa
open Go.RowKit
set_option linter.unusedVariables false

/-- The condition of topiary/topiarylaw25.SlotsNone. -/
def law25_SlotsNone.vc (l_1 : Sl) (R : Value → World → Prop) (w : World) : Prop :=
CallK Try.prog 8 #[Sl.v l_1] w [] (fun v w7 => ∃ (r_5_Kind : Int) (r_5_Name : Str) (r_5_Text : Str) (r_5_Attrs : Sl) (r_5_Kids : Sl), v = .agg #[.int .i64 r_5_Kind, .string (Bs r_5_Name), .string (Bs r_5_Text), Sl.v r_5_Attrs, Sl.v r_5_Kids] ∧
∀ (w21 : World) (B_13 : Nat), New w7 B_13 w21 → Chg [] w7 w21 →
CallK Try.prog 11 #[.agg #[.int .i64 r_5_Kind, .string (Bs r_5_Name), .string (Bs r_5_Text), Sl.v r_5_Attrs, Sl.v r_5_Kids]] w21 [B_13] (fun v w33 => ∃ (r_31 : Sl), v = Sl.v r_31 ∧
∃ (J_50 : Sl → Int → World → Prop) (mu_51 : Sl → Int → World → Nat),
J_50 Sl.nil 0 w33 ∧
(∀ (p_47 : Sl) (i_48 : Int) (w49 : World), J_50 p_47 i_48 w49 →
((i_48 < (r_31.n : Int)) →
∀ (w110 : World) (B_109 : Nat), New w49 B_109 w110 → Chg [] w49 w110 →
∀ (_ : Box w110 B_109 40 [.int .i64 i_48, .int .i64 i_48]),
RunK Try.prog (Builtin.append_ #[29, 29] 29 #[Sl.v p_47, Sl.v (Sl.mk (some ⟨B_109, 0, none⟩) 1 1)]) w110 [B_13] (fun v w122 => ∃ (r_128 : Sl), v = Sl.v r_128 ∧
(I64 (i_48 + 1)) ∧
J_50 r_128 (i_48 + 1) w122 ∧ mu_51 r_128 (i_48 + 1) w122 < mu_51 p_47 i_48 w49)) ∧
((¬ (i_48 < (r_31.n : Int))) →
∀ (w140 : World), Chg [] w49 w140 →
∃ V_147 : Int → Str → Str → Sl → Sl → World → Prop, (∀ r_146_Kind : Int, ∀ r_146_Name : Str, ∀ r_146_Text : Str, ∀ r_146_Attrs : Sl, ∀ r_146_Kids : Sl, ∀ w' w'' : World, Ext w' w'' → V_147 r_146_Kind r_146_Name r_146_Text r_146_Attrs r_146_Kids w' → V_147 r_146_Kind r_146_Name r_146_Text r_146_Attrs r_146_Kids w'') ∧
(∀ w' : World, Ext w140 w' → Calls Try.prog 19 #[.agg #[.int .i64 r_5_Kind, .string (Bs r_5_Name), .string (Bs r_5_Text), Sl.v r_5_Attrs, Sl.v r_5_Kids]] w' (Ret fun v w'' => Ext w' w'' ∧ ∃ r_146_Kind : Int, ∃ r_146_Name : Str, ∃ r_146_Text : Str, ∃ r_146_Attrs : Sl, ∃ r_146_Kids : Sl, v = .agg #[.int .i64 r_146_Kind, .string (Bs r_146_Name), .string (Bs r_146_Text), Sl.v r_146_Attrs, Sl.v r_146_Kids] ∧ V_147 r_146_Kind r_146_Name r_146_Text r_146_Attrs r_146_Kids w'')) ∧
∀ (w152 : World) (r_146_Kind : Int) (r_146_Name : Str) (r_146_Text : Str) (r_146_Attrs : Sl) (r_146_Kids : Sl), Ext w140 w152 → V_147 r_146_Kind r_146_Name r_146_Text r_146_Attrs r_146_Kids w152 → 
CallK Try.prog 12 #[.agg #[.int .i64 r_5_Kind, .string (Bs r_5_Name), .string (Bs r_5_Text), Sl.v r_5_Attrs, Sl.v r_5_Kids], .agg #[.int .i64 r_146_Kind, .string (Bs r_146_Name), .string (Bs r_146_Text), Sl.v r_146_Attrs, Sl.v r_146_Kids], Sl.v p_47] w152 [B_13] (fun v w170 => ∃ (r_0_167 : Sl) (r_1_168 : Int), v = .tuple #[Sl.v r_0_167, .int .i64 r_1_168] ∧
(((r_1_168 ≠ 0) ∨ ((r_0_167.n : Int) ≠ (r_31.n : Int))) →
∀ (w180 : World), Chg [] w170 w180 →
R (.bool false) w180) ∧
(((¬ (r_1_168 ≠ 0)) ∧ (¬ ((r_0_167.n : Int) ≠ (r_31.n : Int)))) →
∀ (w180 : World), Chg [] w170 w180 →
∃ (J_211 : Int → World → Prop) (mu_212 : Int → World → Nat),
J_211 0 w180 ∧
(∀ (i_209 : Int) (w210 : World), J_211 i_209 w210 →
((i_209 < (r_31.n : Int)) →
∀ (w342 : World), Chg [] w210 w342 →
((0 : Int) ≤ i_209 ∧ i_209 < (r_0_167.n : Int)) ∧ ∃ p_359 : Addr, r_0_167.a = some p_359 ∧
∀ (w348 : World), Chg [] w342 w348 →
∃ (x_367 : Bool), (w348.cell? ((p_359.add (i_209.toNat * 6)).add 0) = some (.bool x_367)) ∧
∀ (w372 : World), Chg [] w348 w372 →
∃ (r_386 : Bool), (((x_367 = false)) → Calls Try.prog 16 #[.agg #[.int .i64 r_5_Kind, .string (Bs r_5_Name), .string (Bs r_5_Text), Sl.v r_5_Attrs, Sl.v r_5_Kids], Sl.v r_0_167, .int .i64 i_209] w372 (Ret fun v w' => Ext w372 w' ∧ v = .bool r_386)) ∧
(∀ w388 : World, Ext w372 w388 →
∃ p_399 : Addr, ((((x_367 = false) ∧ (r_386 = false))) → ((0 : Int) ≤ i_209 ∧ i_209 < (r_0_167.n : Int)) ∧ r_0_167.a = some p_399) ∧
∃ (x_404 : Sl), ((((x_367 = false) ∧ (r_386 = false))) → w388.cell? ((p_399.add (i_209.toNat * 6)).add 5) = some (Sl.v x_404)) ∧
∃ V_410 : Sl → World → Prop, (∀ r_409 : Sl, ∀ w' w'' : World, Ext w' w'' → V_410 r_409 w' → V_410 r_409 w'') ∧
((((x_367 = false) ∧ (r_386 = false))) → ∀ w' : World, Ext w388 w' → Calls Try.prog 24 #[.agg #[.int .i64 r_5_Kind, .string (Bs r_5_Name), .string (Bs r_5_Text), Sl.v r_5_Attrs, Sl.v r_5_Kids], .int .i64 i_209] w' (Ret fun v w'' => Ext w' w'' ∧ ∃ r_409 : Sl, v = Sl.v r_409 ∧ V_410 r_409 w'')) ∧
∀ (w415 : World) (r_409 : Sl), Ext w388 w415 → ((((x_367 = false) ∧ (r_386 = false))) → V_410 r_409 w415) → 
∃ (r_428 : Bool), ((((x_367 = false) ∧ (r_386 = false))) → Calls Try.prog 23 #[Sl.v x_404, Sl.v r_409] w415 (Ret fun v w' => Ext w415 w' ∧ v = .bool r_428)) ∧
(∀ w430 : World, Ext w415 w430 →
((((x_367 = true) ∨ (r_386 = true)) ∨ (r_428 = false)) →
R (.bool false) w430) ∧
((((x_367 = false) ∧ (r_386 = false)) ∧ (r_428 = true)) →
(I64 (i_209 + 1)) ∧
J_211 (i_209 + 1) w430 ∧ mu_212 (i_209 + 1) w430 < mu_212 i_209 w210)))) ∧
((¬ (i_209 < (r_31.n : Int))) →
CallK Try.prog 14 #[] w210 [] (fun v w454 => ∃ (r_452 : Bool), v = .bool r_452 ∧
R (.bool r_452) w454)))))))))
set_option maxHeartbeats 1000000 in
set_option maxRecDepth 10000 in
theorem law25_SlotsNone.ok (l_1 : Sl) {R : Value → World → Prop} {w : World} (ht0 : law25_SlotsNone.vc l_1 R w) : Calls Try.prog 7 #[Sl.v l_1] w (Ret R) := by
  refine enter [Sl.v l_1] Try.func7 rfl Try.ntmps7 rfl ?_
  intro a0 hA0
  unfold law25_SlotsNone.vc at ht0
  refine wp_seq ?_
  refine wp_region_lit ?_
  refine sq (opk_val hA0 rfl (r_assign rfl) fun a2 hA2 _ => ?_)
  refine sq_end ?_
  have hA3 := hA2.keep [(0, Sl.v l_1)] ⟨rfl, trivial⟩
  refine then_normal ?_
  refine wp_seq ?_
  refine wp_region_lit ?_
  refine sq (opk_val hA3 rfl (r_move (hA3.get rfl)) fun a4 hA4 _ => ?_)
  refine sq (opk_call hA4 rfl (r_call (args := #[Sl.v l_1]) Try.func8 (by decide) rfl (map_arr (ml_cons (hA4.get rfl) ml_nil)) rfl) ht0 fun a6 v12 w7 hA6 _ hn9 hz10 hK11 => ?_)
  obtain ⟨r_5_Kind, r_5_Name, r_5_Text, r_5_Attrs, r_5_Kids, rfl, ht8⟩ := hK11
  refine sq (opk_new (fun B => .pointer (some ⟨B, 0, none⟩)) hA6 rfl (r_alloc (cs := [.int .i64 0, .string (Bs ([] : Str)), .string (Bs ([] : Str)), Sl.v Sl.nil, Sl.v Sl.nil]) ti_26 rfl) fun a15 w14 B_13 hE16 hN17 hB18 hA15 _ => ?_)
  have hN19 : New w7 B_13 w14 := hN17
  have hC20 : Chg [] w7 w14 := hE16
  refine sq (opk_store hA15 hB18 (r_store (vs := [.int .i64 r_5_Kind, .string (Bs r_5_Name), .string (Bs r_5_Text), Sl.v r_5_Attrs, Sl.v r_5_Kids]) (hA15.get rfl) (hA15.get rfl) rfl ti_26 hB18 rfl (ones_all [.int .i64 r_5_Kind, .string (Bs r_5_Name), .string (Bs r_5_Text), Sl.v r_5_Attrs, Sl.v r_5_Kids] rfl)) fun a22 w21 hS23 hB24 hA22 => ?_)
  have hB25 : Box w21 B_13 26 [.int .i64 r_5_Kind, .string (Bs r_5_Name), .string (Bs r_5_Text), Sl.v r_5_Attrs, Sl.v r_5_Kids] := hB24
  have hC26 := hC20.storeNew hN19 hS23
  have hN27 := hN19.up hS23.size
  refine sq_end ?_
  have hA28 := hA22.keep [(3, .pointer (some (⟨B_13, 0, none⟩ : Addr)))] ⟨rfl, trivial⟩
  refine then_normal ?_
  refine wp_seq ?_
  refine wp_region_lit ?_
  refine sq (opk_val hA28 rfl (r_loadN (cs := [.int .i64 r_5_Kind, .string (Bs r_5_Name), .string (Bs r_5_Text), Sl.v r_5_Attrs, Sl.v r_5_Kids]) Try.underlying26 rfl ti_26 (hA28.get rfl) (hB25.part 0 _ rfl)) fun a29 hA29 _ => ?_)
  have ht30 := ht8 w21 B_13 hN27  hC26
  refine sq (opk_call hA29 rfl (r_call (args := #[.agg #[.int .i64 r_5_Kind, .string (Bs r_5_Name), .string (Bs r_5_Text), Sl.v r_5_Attrs, Sl.v r_5_Kids]]) Try.func11 (by decide) rfl (map_arr (ml_cons (hA29.get rfl) ml_nil)) rfl) ht30 fun a32 v38 w33 hA32 _ hn35 hz36 hK37 => ?_)
  obtain ⟨r_31, rfl, ht34⟩ := hK37
  have hB39 := hB25.kept hn35 (.head _)
  refine sq (opk_val hA32 rfl (r_len (hA32.get rfl) Try.underlying31) fun a40 hA40 _ => ?_)
  refine sq (opk_val hA40 rfl (r_assign (hA40.get rfl)) fun a41 hA41 _ => ?_)
  refine sq_end ?_
  have hA42 := hA41.keep [(3, .pointer (some (⟨B_13, 0, none⟩ : Addr))), (4, .int .i64 (r_31.n : Int))] ⟨rfl, rfl, trivial⟩
  refine then_normal ?_
  refine wp_seq ?_
  refine wp_region_lit ?_
  refine sq (opk_val hA42 rfl (r_assign rfl) fun a43 hA43 _ => ?_)
  refine sq_end ?_
  have hA44 := hA43.keep [(3, .pointer (some (⟨B_13, 0, none⟩ : Addr))), (4, .int .i64 (r_31.n : Int)), (5, Sl.v Sl.nil)] ⟨rfl, rfl, rfl, trivial⟩
  refine then_normal ?_
  refine wp_seq ?_
  refine wp_seq ?_
  refine wp_region_lit ?_
  refine sq (opk_val hA44 rfl (r_assign rfl) fun a45 hA45 _ => ?_)
  refine sq_end ?_
  have hA46 := hA45.keep [(3, .pointer (some (⟨B_13, 0, none⟩ : Addr))), (4, .int .i64 (r_31.n : Int)), (5, Sl.v Sl.nil), (6, .int .i64 0)] ⟨rfl, rfl, rfl, rfl, trivial⟩
  refine then_normal ?_
  refine wp_block ?_
  obtain ⟨J_50, mu_51, h096, ht95⟩ := ht34
  refine wp_loop_st (σ := Sl × Int × World) (fun s a w => Ag 71 a [(3, .pointer (some (⟨B_13, 0, none⟩ : Addr))), (4, .int .i64 (r_31.n : Int)), (5, Sl.v s.1), (6, .int .i64 s.2.1)] ∧ Box w B_13 26 [.int .i64 r_5_Kind, .string (Bs r_5_Name), .string (Bs r_5_Text), Sl.v r_5_Attrs, Sl.v r_5_Kids] ∧ w = s.2.2 ∧ J_50 s.1 s.2.1 s.2.2) (fun s => mu_51 s.1 s.2.1 s.2.2) (Sl.nil, 0, w33) ⟨hA46.keep [(3, .pointer (some (⟨B_13, 0, none⟩ : Addr))), (4, .int .i64 (r_31.n : Int)), (5, Sl.v Sl.nil), (6, .int .i64 0)] ⟨rfl, rfl, rfl, rfl, trivial⟩, hB39, rfl, h096⟩ ?_
  rintro ⟨p_47, i_48, w49⟩ a93 w_ ⟨hA93, hB94, hw_, hJ98⟩
  have hw_ : w49 = w_ := hw_.symm
  subst hw_
  have ht97 := ht95 p_47 i_48 _ hJ98
  refine wp_seq ?_
  refine wp_seq ?_
  refine wp_region_lit ?_
  refine sq (opk_val hA93 rfl (r_move (hA93.get rfl)) fun a99 hA99 _ => ?_)
  refine sq (opk_val hA99 rfl (r_move (hA99.get rfl)) fun a100 hA100 _ => ?_)
  refine sq (opk_val hA100 rfl (r_lss (hA100.get rfl) (hA100.get rfl)) fun a101 hA101 _ => ?_)
  refine sq_end ?_
  have hA102 := hA101.keep [(3, .pointer (some (⟨B_13, 0, none⟩ : Addr))), (4, .int .i64 (r_31.n : Int)), (5, Sl.v p_47), (6, .int .i64 i_48), (17, .bool (decide (i_48 < (r_31.n : Int))))] ⟨rfl, rfl, rfl, rfl, rfl, trivial⟩
  refine then_normal ?_
  refine wp_cond_split (hA102.get rfl) (fun hc => ?_) (fun hc => ?_)
  · have ht103 := ht97.1 (of_decide_eq_true hc)
    clear hc
    refine wp_skip ?_
    refine then_normal ?_
    refine wp_seq ?_
    refine wp_block ?_
    refine wp_region_lit ?_
    refine sq (opk_val hA102 rfl (r_move (hA102.get rfl)) fun a105 hA105 _ => ?_)
    refine sq (opk_val hA105 rfl (r_move (hA105.get rfl)) fun a106 hA106 _ => ?_)
    refine sq (opk_val hA106 rfl (r_move (hA106.get rfl)) fun a107 hA107 _ => ?_)
    refine sq (opk_val hA107 rfl (r_build (vs := #[(0, .int .i64 i_48), (1, .int .i64 i_48)]) (cells := #[.int .i64 i_48, .int .i64 i_48]) (map_arr2 (ml2_cons (hA107.get rfl) (ml2_cons (hA107.get rfl) (ml2_nil)))) ti_40 Try.underlying40 pl_40 (by kernel_rfl)) fun a108 hA108 _ => ?_)
    refine sq (opk_new (fun B => .slice (some ⟨B, 0, none⟩) 1 1) hA108 rfl (r_buildSlice (vs := #[(0, .agg #[.int .i64 i_48, .int .i64 i_48])]) (cs := [.int .i64 i_48, .int .i64 i_48]) (map_arr2 (ml2_cons (hA108.get rfl) (ml2_nil))) Try.underlying29 ti_40 rfl rfl (by kernel_rfl)) fun a111 w110 B_109 hE112 hN113 hB114 hA111 _ => ?_)
    have hne115 : B_13 ≠ B_109 := Nat.ne_of_lt (Nat.lt_of_lt_of_le hB94.lt hN113.ge)
    have hN116 : New w49 B_109 w110 := hN113
    have hB117 := hB94.ext hE112
    have hC118 : Chg [] w49 w110 := hE112
    have ht119 := ht103 w110 B_109 hN116  hC118
    have ht120 := ht119 hB114
    refine sq (opk_run hA111 rfl (fun _ _ hr => r_append (hA111.get rfl) (hA111.get rfl) hr) ht120 fun a121 v127 w122 hA121 _ hn124 hz125 hK126 => ?_)
    obtain ⟨r_128, rfl, ht123⟩ := hK126
    have hB129 := hB117.kept hn124 (.head _)
    refine sq (opk_val hA121 rfl (r_assign (hA121.get rfl)) fun a130 hA130 _ => ?_)
    refine sq_end ?_
    have hA131 := hA130.keep [(3, .pointer (some (⟨B_13, 0, none⟩ : Addr))), (4, .int .i64 (r_31.n : Int)), (5, Sl.v r_128), (6, .int .i64 i_48)] ⟨rfl, rfl, rfl, rfl, trivial⟩
    refine block_normal ?_
    refine then_normal ?_
    refine wp_region_lit ?_
    refine sq (opk_val hA131 rfl (r_move (hA131.get rfl)) fun a132 hA132 _ => ?_)
    obtain ⟨hS134, ht135⟩ := ht123
    refine sq (opk_val hA132 rfl (r_addI (hA132.get rfl) rfl hS134) fun a133 hA133 _ => ?_)
    refine sq (opk_val hA133 rfl (r_assign (hA133.get rfl)) fun a136 hA136 _ => ?_)
    refine sq_end ?_
    have hA137 := hA136.keep [(3, .pointer (some (⟨B_13, 0, none⟩ : Addr))), (4, .int .i64 (r_31.n : Int)), (5, Sl.v r_128), (6, .int .i64 (i_48 + 1))] ⟨rfl, rfl, rfl, rfl, trivial⟩
    have hA138 := hA137.keep [(3, .pointer (some (⟨B_13, 0, none⟩ : Addr))), (4, .int .i64 (r_31.n : Int)), (5, Sl.v r_128), (6, .int .i64 (i_48 + 1))] ⟨rfl, rfl, rfl, rfl, trivial⟩
    exact then_normal ⟨(r_128, i_48 + 1, w122), ⟨hA138, hB129, rfl, ht135.1⟩, ht135.2⟩
  · have ht104 := ht97.2 (of_decide_eq_false hc)
    clear hc
    refine wp_exit ?_
    refine then_exit ?_
    refine then_exit ?_
    refine block_hit ?_
    have hA139 := hA102.keep [(3, .pointer (some (⟨B_13, 0, none⟩ : Addr))), (4, .int .i64 (r_31.n : Int)), (5, Sl.v p_47)] ⟨rfl, rfl, rfl, trivial⟩
    refine then_normal ?_
    refine wp_seq ?_
    refine draw' (by kernel_rfl) fun w140 hE141 => ?_
    have hB142 := hB94.ext hE141
    have hC143 : Chg [] w49 w140 := hE141
    have ht144 := ht104 w140    hC143
    obtain ⟨V_147, hst148, hc149, ht150⟩ := ht144
    refine par (D := [[], [], [1], [], [0, 1, 2, 3], [0, 1, 2, 3, 4], [0, 1, 2, 3, 4, 5], [0, 1, 2, 3, 4, 5], [0, 1, 2, 3, 4, 5, 6], [0, 1, 2, 3, 4, 5, 6, 7, 8]]) (S := [0, 1, 2, 3]) (F := []) (V := VL [(0, fun v _ => v = .agg #[.int .i64 r_5_Kind, .string (Bs r_5_Name), .string (Bs r_5_Text), Sl.v r_5_Attrs, Sl.v r_5_Kids]), (1, fun v _ => v = .agg #[.int .i64 r_5_Kind, .string (Bs r_5_Name), .string (Bs r_5_Text), Sl.v r_5_Attrs, Sl.v r_5_Kids]), (2, fun v w' => ∃ r_146_Kind : Int, ∃ r_146_Name : Str, ∃ r_146_Text : Str, ∃ r_146_Attrs : Sl, ∃ r_146_Kids : Sl, V_147 r_146_Kind r_146_Name r_146_Text r_146_Attrs r_146_Kids w' ∧ v = .agg #[.int .i64 r_146_Kind, .string (Bs r_146_Name), .string (Bs r_146_Text), Sl.v r_146_Attrs, Sl.v r_146_Kids]), (3, fun v _ => v = Sl.v p_47)]) hA139 (by kernel_rfl) ⟨fun _ _ _ _ h => by first | exact h | (change _ = _ at h; change _ = _; exact h), fun _ _ _ _ h => by first | exact h | (change _ = _ at h; change _ = _; exact h), fun _ _ _ hE ⟨r_146_Kind, r_146_Name, r_146_Text, r_146_Attrs, r_146_Kids, h0_, e⟩ => ⟨r_146_Kind, r_146_Name, r_146_Text, r_146_Attrs, r_146_Kids, (hst148 r_146_Kind r_146_Name r_146_Text r_146_Attrs r_146_Kids _ _ hE h0_), e⟩, fun _ _ _ _ h => by first | exact h | (change _ = _ at h; change _ = _; exact h), trivial⟩ ⟨?_, ?_, ?_, ?_, trivial⟩ ?_
    · intro a w hT
      have hAp := hT.ag hA139 [(3, .pointer (some (⟨B_13, 0, none⟩ : Addr)))] ⟨rfl, trivial⟩ (by kernel_rfl)
      exact opk_val hAp rfl (r_loadN (cs := [.int .i64 r_5_Kind, .string (Bs r_5_Name), .string (Bs r_5_Text), Sl.v r_5_Attrs, Sl.v r_5_Kids]) Try.underlying26 rfl ti_26 (hAp.get rfl) ((hB142.ext hT.chg).part 0 _ rfl)) fun _ _ e => ⟨_, e, Chg.refl _ _, fun _ => Eq.refl _⟩
    · intro a w hT
      have hAp := hT.ag hA139 [(3, .pointer (some (⟨B_13, 0, none⟩ : Addr)))] ⟨rfl, trivial⟩ (by kernel_rfl)
      exact opk_val hAp rfl (r_loadN (cs := [.int .i64 r_5_Kind, .string (Bs r_5_Name), .string (Bs r_5_Text), Sl.v r_5_Attrs, Sl.v r_5_Kids]) Try.underlying26 rfl ti_26 (hAp.get rfl) ((hB142.ext hT.chg).part 0 _ rfl)) fun _ _ e => ⟨_, e, Chg.refl _ _, fun _ => Eq.refl _⟩
    · intro a w hT
      have hAp := hT.ag hA139 [] trivial (by kernel_rfl)
      have e145 : a.tmps.getD 28 undef = .agg #[.int .i64 r_5_Kind, .string (Bs r_5_Name), .string (Bs r_5_Text), Sl.v r_5_Attrs, Sl.v r_5_Kids] := hT.vals 1 rfl 28 rfl
      have hAp := hAp.add e145
      exact opk_callX hAp rfl (r_call (args := #[.agg #[.int .i64 r_5_Kind, .string (Bs r_5_Name), .string (Bs r_5_Text), Sl.v r_5_Attrs, Sl.v r_5_Kids]]) Try.func19 (by decide) rfl (map_arr (ml_cons (hAp.get rfl) ml_nil)) rfl) (hc149 w hT.chg) fun _ _ _ _ e ⟨hE, r_146_Kind, r_146_Name, r_146_Text, r_146_Attrs, r_146_Kids, he, hV⟩ => ⟨_, e, hE, fun _ => ⟨r_146_Kind, r_146_Name, r_146_Text, r_146_Attrs, r_146_Kids, hV, he⟩⟩
    · intro a w hT
      have hAp := hT.ag hA139 [(5, Sl.v p_47)] ⟨rfl, trivial⟩ (by kernel_rfl)
      exact opk_val hAp rfl (r_move (hAp.get rfl)) fun _ _ e => ⟨_, e, Chg.refl _ _, fun _ => Eq.refl _⟩
    · intro a151 w152 hE153 hag154 hv155
      have hA151 := hag154 [(3, .pointer (some (⟨B_13, 0, none⟩ : Addr))), (4, .int .i64 (r_31.n : Int))] ⟨rfl, rfl, trivial⟩ (by kernel_rfl)
      have e157 : a151.tmps.getD 27 undef = .agg #[.int .i64 r_5_Kind, .string (Bs r_5_Name), .string (Bs r_5_Text), Sl.v r_5_Attrs, Sl.v r_5_Kids] := hv155 0 rfl 27 rfl
      have hA158 := hA151.add e157
      obtain ⟨r_146_Kind, r_146_Name, r_146_Text, r_146_Attrs, r_146_Kids, hf161, e159⟩ := hv155 2 rfl 29 rfl
      have hA160 := hA158.add e159
      have e162 : a151.tmps.getD 30 undef = Sl.v p_47 := hv155 3 rfl 30 rfl
      have hA163 := hA160.add e162
      have hB164 := hB142.ext hE153
      have hC165 : Chg [] w140 w152 := hE153
      have ht166 := ht150 w152 r_146_Kind r_146_Name r_146_Text r_146_Attrs r_146_Kids hE153 hf161
      refine one (D := [[], [], [1], [], [0, 1, 2, 3], [0, 1, 2, 3, 4], [0, 1, 2, 3, 4, 5], [0, 1, 2, 3, 4, 5], [0, 1, 2, 3, 4, 5, 6], [0, 1, 2, 3, 4, 5, 6, 7, 8]]) (i := 4) rfl (by kernel_rfl) (opk_call hA163 rfl (r_call (args := #[.agg #[.int .i64 r_5_Kind, .string (Bs r_5_Name), .string (Bs r_5_Text), Sl.v r_5_Attrs, Sl.v r_5_Kids], .agg #[.int .i64 r_146_Kind, .string (Bs r_146_Name), .string (Bs r_146_Text), Sl.v r_146_Attrs, Sl.v r_146_Kids], Sl.v p_47]) Try.func12 (by decide) rfl (map_arr (ml_cons (hA163.get rfl) (ml_cons (hA163.get rfl) (ml_cons (hA163.get rfl) ml_nil)))) rfl) ht166 fun a169 v175 w170 hA169 _ hn172 hz173 hK174 => ?_)
      obtain ⟨r_0_167, r_1_168, rfl, ht171⟩ := hK174
      have hB176 := hB164.kept hn172 (.head _)
      refine one (D := [[], [], [1], [], [0, 1, 2, 3], [0, 1, 2, 3, 4], [0, 1, 2, 3, 4, 5], [0, 1, 2, 3, 4, 5], [0, 1, 2, 3, 4, 5, 6], [0, 1, 2, 3, 4, 5, 6, 7, 8]]) (i := 5) rfl (by kernel_rfl) (opk_val hA169 rfl (r_move (hA169.get rfl)) fun a177 hA177 _ => ?_)
      refine par (D := [[], [], [1], [], [0, 1, 2, 3], [0, 1, 2, 3, 4], [0, 1, 2, 3, 4, 5], [0, 1, 2, 3, 4, 5], [0, 1, 2, 3, 4, 5, 6], [0, 1, 2, 3, 4, 5, 6, 7, 8]]) (S := [6, 7, 8]) (F := []) (V := VL [(6, fun v _ => v = Sl.v r_0_167), (7, fun v _ => v = .int .i64 r_1_168), (8, fun v _ => v = Sl.v r_0_167)]) hA177 (by kernel_rfl) ⟨fun _ _ _ _ h => by first | exact h | (change _ = _ at h; change _ = _; exact h), fun _ _ _ _ h => by first | exact h | (change _ = _ at h; change _ = _; exact h), fun _ _ _ _ h => by first | exact h | (change _ = _ at h; change _ = _; exact h), trivial⟩ ⟨?_, ?_, ?_, trivial⟩ ?_
      · intro a w hT
        have hAp := hT.ag hA177 [(26, .tuple #[Sl.v r_0_167, .int .i64 r_1_168])] ⟨rfl, trivial⟩ (by kernel_rfl)
        exact opk_val hAp rfl (r_extract (hAp.get rfl) rfl) fun _ _ e => ⟨_, e, Chg.refl _ _, fun _ => Eq.refl _⟩
      · intro a w hT
        have hAp := hT.ag hA177 [(26, .tuple #[Sl.v r_0_167, .int .i64 r_1_168])] ⟨rfl, trivial⟩ (by kernel_rfl)
        exact opk_val hAp rfl (r_extract (hAp.get rfl) rfl) fun _ _ e => ⟨_, e, Chg.refl _ _, fun _ => Eq.refl _⟩
      · intro a w hT
        have hAp := hT.ag hA177 [] trivial (by kernel_rfl)
        have e178 : a.tmps.getD 32 undef = Sl.v r_0_167 := hT.vals 6 rfl 32 rfl
        have hAp := hAp.add e178
        exact opk_val hAp rfl (r_assign (hAp.get rfl)) fun _ _ e => ⟨_, e, Chg.refl _ _, fun _ => Eq.refl _⟩
      · intro a179 w180 hE181 hag182 hv183
        have hA179 := hag182 [(3, .pointer (some (⟨B_13, 0, none⟩ : Addr))), (4, .int .i64 (r_31.n : Int))] ⟨rfl, rfl, trivial⟩ (by kernel_rfl)
        have e185 : a179.tmps.getD 33 undef = .int .i64 r_1_168 := hv183 7 rfl 33 rfl
        have hA186 := hA179.add e185
        have e187 : a179.tmps.getD 7 undef = Sl.v r_0_167 := hv183 8 rfl 7 rfl
        have hA188 := hA186.add e187
        have hB189 := hB176.ext hE181
        have hC190 : Chg [] w170 w180 := hE181
        refine one (D := [[], [], [1], [], [0, 1, 2, 3], [0, 1, 2, 3, 4], [0, 1, 2, 3, 4, 5], [0, 1, 2, 3, 4, 5], [0, 1, 2, 3, 4, 5, 6], [0, 1, 2, 3, 4, 5, 6, 7, 8]]) (i := 9) rfl (by kernel_rfl) (opk_val hA188 rfl (r_assign (hA188.get rfl)) fun a191 hA191 _ => ?_)
        refine PR_end (by kernel_rfl) ?_
        have hA192 := hA191.keep [(3, .pointer (some (⟨B_13, 0, none⟩ : Addr))), (4, .int .i64 (r_31.n : Int)), (7, Sl.v r_0_167), (8, .int .i64 r_1_168)] ⟨rfl, rfl, rfl, rfl, trivial⟩
        refine then_normal ?_
        refine wp_seq ?_
        refine wp_seq ?_
        refine wp_region_lit ?_
        refine sq (opk_val hA192 rfl (r_move (hA192.get rfl)) fun a193 hA193 _ => ?_)
        refine sq (opk_val hA193 rfl (r_neq (hA193.get rfl) rfl) fun a194 hA194 _ => ?_)
        refine sq (opk_val hA194 rfl (r_move (hA194.get rfl)) fun a195 hA195 _ => ?_)
        refine sq (opk_gval hA195 rfl rfl (g := true) (e := (decide (r_1_168 ≠ 0))) rfl (fun hg => r_move (hA195.get rfl)) fun a196 hA196 _ => ?_)
        refine sq (opk_gval hA196 rfl rfl (g := true) (e := (decide (r_1_168 ≠ 0))) rfl (fun hg => r_len (cv_get (hA196.get rfl) hg) Try.underlying33) fun a197 hA197 _ => ?_)
        refine sq (opk_gval hA197 rfl rfl (g := true) (e := (decide (r_1_168 ≠ 0))) rfl (fun hg => r_move (hA197.get rfl)) fun a198 hA198 _ => ?_)
        refine sq (opk_gval hA198 rfl rfl (g := true) (e := (decide (r_1_168 ≠ 0))) rfl (fun hg => r_neq (cv_get (hA198.get rfl) hg) (cv_get (hA198.get rfl) hg)) fun a199 hA199 _ => ?_)
        refine sq (opk_val hA199 rfl (r_pick_or (g := (true && ((decide (r_1_168 ≠ 0)) == false))) (hA199.get rfl) (hA199.get rfl) (fun he => g_mkf rfl he)) fun a200 hA200 _ => ?_)
        refine sq_end ?_
        have hA201 := hA200.keep [(3, .pointer (some (⟨B_13, 0, none⟩ : Addr))), (4, .int .i64 (r_31.n : Int)), (7, Sl.v r_0_167), (41, .bool ((decide (r_1_168 ≠ 0)) || (decide ((r_0_167.n : Int) ≠ (r_31.n : Int)))))] ⟨rfl, rfl, rfl, rfl, trivial⟩
        refine then_normal ?_
        refine wp_cond_split (hA201.get rfl) (fun hc => ?_) (fun hc => ?_)
        · have ht202 := ht171.1 ((b_or_t hc).imp (fun h => (of_decide_eq_true h)) (fun h => (of_decide_eq_true h)))
          clear hc
          refine wp_seq ?_
          refine wp_region_lit ?_
          refine sq (opk_val hA201 rfl (r_assign rfl) fun a204 hA204 _ => ?_)
          refine sq_end ?_
          have hA205 := hA204.keep [(2, .bool false)] ⟨rfl, trivial⟩
          refine then_normal ?_
          refine wp_ret ?_
          refine then_ret ?_
          have ht206 := ht202 w180    hC190
          exact res_all (vs := [.bool false]) rfl hA205 ⟨res_of_tmp hA205 rfl, trivial⟩ ht206
        · have ht203 := ht171.2 ⟨(of_decide_eq_false (b_or_f hc).1), (of_decide_eq_false (b_or_f hc).2)⟩
          clear hc
          refine wp_skip ?_
          refine then_normal ?_
          refine wp_seq ?_
          refine wp_seq ?_
          refine wp_region_lit ?_
          refine sq (opk_val hA201 rfl (r_assign rfl) fun a207 hA207 _ => ?_)
          refine sq_end ?_
          have hA208 := hA207.keep [(3, .pointer (some (⟨B_13, 0, none⟩ : Addr))), (4, .int .i64 (r_31.n : Int)), (7, Sl.v r_0_167), (9, .int .i64 0)] ⟨rfl, rfl, rfl, rfl, trivial⟩
          refine then_normal ?_
          refine wp_block ?_
          have ht329 := ht203 w180    hC190
          obtain ⟨J_211, mu_212, h0333, ht332⟩ := ht329
          refine wp_loop_st (σ := Int × World) (fun s a w => Ag 71 a [(3, .pointer (some (⟨B_13, 0, none⟩ : Addr))), (4, .int .i64 (r_31.n : Int)), (7, Sl.v r_0_167), (9, .int .i64 s.1)] ∧ Box w B_13 26 [.int .i64 r_5_Kind, .string (Bs r_5_Name), .string (Bs r_5_Text), Sl.v r_5_Attrs, Sl.v r_5_Kids] ∧ w = s.2 ∧ J_211 s.1 s.2) (fun s => mu_212 s.1 s.2) (0, w180) ⟨hA208.keep [(3, .pointer (some (⟨B_13, 0, none⟩ : Addr))), (4, .int .i64 (r_31.n : Int)), (7, Sl.v r_0_167), (9, .int .i64 0)] ⟨rfl, rfl, rfl, rfl, trivial⟩, hB189, rfl, h0333⟩ ?_
          rintro ⟨i_209, w210⟩ a330 w_ ⟨hA330, hB331, hw_, hJ335⟩
          have hw_ : w210 = w_ := hw_.symm
          subst hw_
          have ht334 := ht332 i_209 _ hJ335
          refine wp_seq ?_
          refine wp_seq ?_
          refine wp_region_lit ?_
          refine sq (opk_val hA330 rfl (r_move (hA330.get rfl)) fun a336 hA336 _ => ?_)
          refine sq (opk_val hA336 rfl (r_move (hA336.get rfl)) fun a337 hA337 _ => ?_)
          refine sq (opk_val hA337 rfl (r_lss (hA337.get rfl) (hA337.get rfl)) fun a338 hA338 _ => ?_)
          refine sq_end ?_
          have hA339 := hA338.keep [(3, .pointer (some (⟨B_13, 0, none⟩ : Addr))), (4, .int .i64 (r_31.n : Int)), (7, Sl.v r_0_167), (9, .int .i64 i_209), (44, .bool (decide (i_209 < (r_31.n : Int))))] ⟨rfl, rfl, rfl, rfl, rfl, trivial⟩
          refine then_normal ?_
          refine wp_cond_split (hA339.get rfl) (fun hc => ?_) (fun hc => ?_)
          · have ht340 := ht334.1 (of_decide_eq_true hc)
            clear hc
            refine wp_skip ?_
            refine then_normal ?_
            refine wp_seq ?_
            refine wp_block ?_
            refine wp_seq ?_
            refine draw' (by kernel_rfl) fun w342 hE343 => ?_
            have hB344 := hB331.ext hE343
            have hC345 : Chg [] w210 w342 := hE343
            have ht346 := ht340 w342    hC345
            refine par (D := [[], [], [0, 1], [0, 1, 2], [0, 1, 2, 3], [0, 1, 2, 3, 4], [0, 1, 2, 3, 4, 5], [0, 1, 2, 3, 4, 5], [0, 1, 2, 3, 4, 5], [0, 1, 2, 3, 4, 5, 6, 7, 8], [0, 1, 2, 3, 4, 5, 6, 7, 8, 9], [0, 1, 2, 3, 4, 5, 6, 7, 8, 9, 10], [0, 1, 2, 3, 4, 5, 6, 7, 8, 9, 10, 11], [0, 1, 2, 3, 4, 5, 6, 7, 8, 9, 10, 11], [0, 1, 2, 3, 4, 5, 6, 7, 8, 9, 10, 11, 12, 13], [0, 1, 2, 3, 4, 5, 6, 7, 8, 9, 10, 11, 12, 13, 14], [0, 1, 2, 3, 4, 5, 6, 7, 8, 9, 10, 11, 12, 13, 14, 15], [0, 1, 2, 3, 4, 5, 6, 7, 8, 9, 10, 11], [0, 1, 2, 3, 4, 5, 6, 7, 8, 9, 10, 11], [0, 1, 2, 3, 4, 5, 6, 7, 8, 9, 10, 11, 17, 18], [0, 1, 2, 3, 4, 5, 6, 7, 8, 9, 10, 11, 12, 13, 14, 15, 16, 17, 18, 19], [0, 1, 2, 3, 4, 5, 6, 7, 8, 9, 10, 11, 12, 13, 14, 15, 16, 17, 18, 19, 20], [0, 1, 2, 3, 4, 5, 6, 7, 8, 9, 10, 11, 12, 13, 14, 15, 16, 17, 18, 19, 20, 21]]) (S := [0, 1]) (F := []) (V := VL [(0, fun v _ => v = Sl.v r_0_167), (1, fun v _ => v = .int .i64 i_209)]) hA339 (by kernel_rfl) ⟨fun _ _ _ _ h => by first | exact h | (change _ = _ at h; change _ = _; exact h), fun _ _ _ _ h => by first | exact h | (change _ = _ at h; change _ = _; exact h), trivial⟩ ⟨?_, ?_, trivial⟩ ?_
            · intro a w hT
              have hAp := hT.ag hA339 [(7, Sl.v r_0_167)] ⟨rfl, trivial⟩ (by kernel_rfl)
              exact opk_val hAp rfl (r_move (hAp.get rfl)) fun _ _ e => ⟨_, e, Chg.refl _ _, fun _ => Eq.refl _⟩
            · intro a w hT
              have hAp := hT.ag hA339 [(9, .int .i64 i_209)] ⟨rfl, trivial⟩ (by kernel_rfl)
              exact opk_val hAp rfl (r_move (hAp.get rfl)) fun _ _ e => ⟨_, e, Chg.refl _ _, fun _ => Eq.refl _⟩
            · intro a347 w348 hE349 hag350 hv351
              have hA347 := hag350 [(3, .pointer (some (⟨B_13, 0, none⟩ : Addr))), (4, .int .i64 (r_31.n : Int)), (7, Sl.v r_0_167), (9, .int .i64 i_209)] ⟨rfl, rfl, rfl, rfl, trivial⟩ (by kernel_rfl)
              have e353 : a347.tmps.getD 47 undef = Sl.v r_0_167 := hv351 0 rfl 47 rfl
              have hA354 := hA347.add e353
              have e355 : a347.tmps.getD 48 undef = .int .i64 i_209 := hv351 1 rfl 48 rfl
              have hA356 := hA354.add e355
              have hB357 := hB344.ext hE349
              have hC358 : Chg [] w342 w348 := hE349
              obtain ⟨hb360, p_359, hp361, ht362⟩ := ht346
              refine one (D := [[], [], [0, 1], [0, 1, 2], [0, 1, 2, 3], [0, 1, 2, 3, 4], [0, 1, 2, 3, 4, 5], [0, 1, 2, 3, 4, 5], [0, 1, 2, 3, 4, 5], [0, 1, 2, 3, 4, 5, 6, 7, 8], [0, 1, 2, 3, 4, 5, 6, 7, 8, 9], [0, 1, 2, 3, 4, 5, 6, 7, 8, 9, 10], [0, 1, 2, 3, 4, 5, 6, 7, 8, 9, 10, 11], [0, 1, 2, 3, 4, 5, 6, 7, 8, 9, 10, 11], [0, 1, 2, 3, 4, 5, 6, 7, 8, 9, 10, 11, 12, 13], [0, 1, 2, 3, 4, 5, 6, 7, 8, 9, 10, 11, 12, 13, 14], [0, 1, 2, 3, 4, 5, 6, 7, 8, 9, 10, 11, 12, 13, 14, 15], [0, 1, 2, 3, 4, 5, 6, 7, 8, 9, 10, 11], [0, 1, 2, 3, 4, 5, 6, 7, 8, 9, 10, 11], [0, 1, 2, 3, 4, 5, 6, 7, 8, 9, 10, 11, 17, 18], [0, 1, 2, 3, 4, 5, 6, 7, 8, 9, 10, 11, 12, 13, 14, 15, 16, 17, 18, 19], [0, 1, 2, 3, 4, 5, 6, 7, 8, 9, 10, 11, 12, 13, 14, 15, 16, 17, 18, 19, 20], [0, 1, 2, 3, 4, 5, 6, 7, 8, 9, 10, 11, 12, 13, 14, 15, 16, 17, 18, 19, 20, 21]]) (i := 2) rfl (by kernel_rfl) (opk_val hA356 rfl (r_indexAddr (hA356.get rfl) (hA356.get rfl) Try.underlying33 ti_43 hb360 hp361) fun a363 hA363 _ => ?_)
              refine one (D := [[], [], [0, 1], [0, 1, 2], [0, 1, 2, 3], [0, 1, 2, 3, 4], [0, 1, 2, 3, 4, 5], [0, 1, 2, 3, 4, 5], [0, 1, 2, 3, 4, 5], [0, 1, 2, 3, 4, 5, 6, 7, 8], [0, 1, 2, 3, 4, 5, 6, 7, 8, 9], [0, 1, 2, 3, 4, 5, 6, 7, 8, 9, 10], [0, 1, 2, 3, 4, 5, 6, 7, 8, 9, 10, 11], [0, 1, 2, 3, 4, 5, 6, 7, 8, 9, 10, 11], [0, 1, 2, 3, 4, 5, 6, 7, 8, 9, 10, 11, 12, 13], [0, 1, 2, 3, 4, 5, 6, 7, 8, 9, 10, 11, 12, 13, 14], [0, 1, 2, 3, 4, 5, 6, 7, 8, 9, 10, 11, 12, 13, 14, 15], [0, 1, 2, 3, 4, 5, 6, 7, 8, 9, 10, 11], [0, 1, 2, 3, 4, 5, 6, 7, 8, 9, 10, 11], [0, 1, 2, 3, 4, 5, 6, 7, 8, 9, 10, 11, 17, 18], [0, 1, 2, 3, 4, 5, 6, 7, 8, 9, 10, 11, 12, 13, 14, 15, 16, 17, 18, 19], [0, 1, 2, 3, 4, 5, 6, 7, 8, 9, 10, 11, 12, 13, 14, 15, 16, 17, 18, 19, 20], [0, 1, 2, 3, 4, 5, 6, 7, 8, 9, 10, 11, 12, 13, 14, 15, 16, 17, 18, 19, 20, 21]]) (i := 3) rfl (by kernel_rfl) (opk_val hA363 rfl (r_fieldAddr (hA363.get rfl) Try.underlying43 rfl ti_4 (by decide)) fun a364 hA364 _ => ?_)
              have ht366 := ht362 w348    hC358
              obtain ⟨x_367, hx368, ht369⟩ := ht366
              refine one (D := [[], [], [0, 1], [0, 1, 2], [0, 1, 2, 3], [0, 1, 2, 3, 4], [0, 1, 2, 3, 4, 5], [0, 1, 2, 3, 4, 5], [0, 1, 2, 3, 4, 5], [0, 1, 2, 3, 4, 5, 6, 7, 8], [0, 1, 2, 3, 4, 5, 6, 7, 8, 9], [0, 1, 2, 3, 4, 5, 6, 7, 8, 9, 10], [0, 1, 2, 3, 4, 5, 6, 7, 8, 9, 10, 11], [0, 1, 2, 3, 4, 5, 6, 7, 8, 9, 10, 11], [0, 1, 2, 3, 4, 5, 6, 7, 8, 9, 10, 11, 12, 13], [0, 1, 2, 3, 4, 5, 6, 7, 8, 9, 10, 11, 12, 13, 14], [0, 1, 2, 3, 4, 5, 6, 7, 8, 9, 10, 11, 12, 13, 14, 15], [0, 1, 2, 3, 4, 5, 6, 7, 8, 9, 10, 11], [0, 1, 2, 3, 4, 5, 6, 7, 8, 9, 10, 11], [0, 1, 2, 3, 4, 5, 6, 7, 8, 9, 10, 11, 17, 18], [0, 1, 2, 3, 4, 5, 6, 7, 8, 9, 10, 11, 12, 13, 14, 15, 16, 17, 18, 19], [0, 1, 2, 3, 4, 5, 6, 7, 8, 9, 10, 11, 12, 13, 14, 15, 16, 17, 18, 19, 20], [0, 1, 2, 3, 4, 5, 6, 7, 8, 9, 10, 11, 12, 13, 14, 15, 16, 17, 18, 19, 20, 21]]) (i := 4) rfl (by kernel_rfl) (opk_val hA364 rfl (r_load1 Try.underlying4 rfl (hA364.get rfl) hx368) fun a365 hA365 _ => ?_)
              refine one (D := [[], [], [0, 1], [0, 1, 2], [0, 1, 2, 3], [0, 1, 2, 3, 4], [0, 1, 2, 3, 4, 5], [0, 1, 2, 3, 4, 5], [0, 1, 2, 3, 4, 5], [0, 1, 2, 3, 4, 5, 6, 7, 8], [0, 1, 2, 3, 4, 5, 6, 7, 8, 9], [0, 1, 2, 3, 4, 5, 6, 7, 8, 9, 10], [0, 1, 2, 3, 4, 5, 6, 7, 8, 9, 10, 11], [0, 1, 2, 3, 4, 5, 6, 7, 8, 9, 10, 11], [0, 1, 2, 3, 4, 5, 6, 7, 8, 9, 10, 11, 12, 13], [0, 1, 2, 3, 4, 5, 6, 7, 8, 9, 10, 11, 12, 13, 14], [0, 1, 2, 3, 4, 5, 6, 7, 8, 9, 10, 11, 12, 13, 14, 15], [0, 1, 2, 3, 4, 5, 6, 7, 8, 9, 10, 11], [0, 1, 2, 3, 4, 5, 6, 7, 8, 9, 10, 11], [0, 1, 2, 3, 4, 5, 6, 7, 8, 9, 10, 11, 17, 18], [0, 1, 2, 3, 4, 5, 6, 7, 8, 9, 10, 11, 12, 13, 14, 15, 16, 17, 18, 19], [0, 1, 2, 3, 4, 5, 6, 7, 8, 9, 10, 11, 12, 13, 14, 15, 16, 17, 18, 19, 20], [0, 1, 2, 3, 4, 5, 6, 7, 8, 9, 10, 11, 12, 13, 14, 15, 16, 17, 18, 19, 20, 21]]) (i := 5) rfl (by kernel_rfl) (opk_val hA365 rfl (r_move (hA365.get rfl)) fun a370 hA370 _ => ?_)
              refine par (D := [[], [], [0, 1], [0, 1, 2], [0, 1, 2, 3], [0, 1, 2, 3, 4], [0, 1, 2, 3, 4, 5], [0, 1, 2, 3, 4, 5], [0, 1, 2, 3, 4, 5], [0, 1, 2, 3, 4, 5, 6, 7, 8], [0, 1, 2, 3, 4, 5, 6, 7, 8, 9], [0, 1, 2, 3, 4, 5, 6, 7, 8, 9, 10], [0, 1, 2, 3, 4, 5, 6, 7, 8, 9, 10, 11], [0, 1, 2, 3, 4, 5, 6, 7, 8, 9, 10, 11], [0, 1, 2, 3, 4, 5, 6, 7, 8, 9, 10, 11, 12, 13], [0, 1, 2, 3, 4, 5, 6, 7, 8, 9, 10, 11, 12, 13, 14], [0, 1, 2, 3, 4, 5, 6, 7, 8, 9, 10, 11, 12, 13, 14, 15], [0, 1, 2, 3, 4, 5, 6, 7, 8, 9, 10, 11], [0, 1, 2, 3, 4, 5, 6, 7, 8, 9, 10, 11], [0, 1, 2, 3, 4, 5, 6, 7, 8, 9, 10, 11, 17, 18], [0, 1, 2, 3, 4, 5, 6, 7, 8, 9, 10, 11, 12, 13, 14, 15, 16, 17, 18, 19], [0, 1, 2, 3, 4, 5, 6, 7, 8, 9, 10, 11, 12, 13, 14, 15, 16, 17, 18, 19, 20], [0, 1, 2, 3, 4, 5, 6, 7, 8, 9, 10, 11, 12, 13, 14, 15, 16, 17, 18, 19, 20, 21]]) (S := [6, 7, 8]) (F := []) (V := VL [(6, fun v _ => v = cV (true && (x_367 == false)) (.agg #[.int .i64 r_5_Kind, .string (Bs r_5_Name), .string (Bs r_5_Text), Sl.v r_5_Attrs, Sl.v r_5_Kids])), (7, fun v _ => v = cV (true && (x_367 == false)) (Sl.v r_0_167)), (8, fun v _ => v = cV (true && (x_367 == false)) (.int .i64 i_209))]) hA370 (by kernel_rfl) ⟨fun _ _ _ _ h => by first | exact h | (change _ = _ at h; change _ = _; exact h), fun _ _ _ _ h => by first | exact h | (change _ = _ at h; change _ = _; exact h), fun _ _ _ _ h => by first | exact h | (change _ = _ at h; change _ = _; exact h), trivial⟩ ⟨?_, ?_, ?_, trivial⟩ ?_
              · intro a w hT
                have hAp := hT.ag hA370 [(3, .pointer (some (⟨B_13, 0, none⟩ : Addr))), (52, .bool x_367)] ⟨rfl, rfl, trivial⟩ (by kernel_rfl)
                exact opk_gval hAp rfl rfl (g := true) (e := x_367) rfl (fun hg => r_loadN (cs := [.int .i64 r_5_Kind, .string (Bs r_5_Name), .string (Bs r_5_Text), Sl.v r_5_Attrs, Sl.v r_5_Kids]) Try.underlying26 rfl ti_26 (hAp.get rfl) ((hB357.ext hT.chg).part 0 _ rfl)) fun _ _ e => ⟨_, e, Chg.refl _ _, fun _ => Eq.refl _⟩
              · intro a w hT
                have hAp := hT.ag hA370 [(7, Sl.v r_0_167), (52, .bool x_367)] ⟨rfl, rfl, trivial⟩ (by kernel_rfl)
                exact opk_gval hAp rfl rfl (g := true) (e := x_367) rfl (fun hg => r_move (hAp.get rfl)) fun _ _ e => ⟨_, e, Chg.refl _ _, fun _ => Eq.refl _⟩
              · intro a w hT
                have hAp := hT.ag hA370 [(9, .int .i64 i_209), (52, .bool x_367)] ⟨rfl, rfl, trivial⟩ (by kernel_rfl)
                exact opk_gval hAp rfl rfl (g := true) (e := x_367) rfl (fun hg => r_move (hAp.get rfl)) fun _ _ e => ⟨_, e, Chg.refl _ _, fun _ => Eq.refl _⟩
              · intro a371 w372 hE373 hag374 hv375
                have hA371 := hag374 [(3, .pointer (some (⟨B_13, 0, none⟩ : Addr))), (4, .int .i64 (r_31.n : Int)), (7, Sl.v r_0_167), (9, .int .i64 i_209), (52, .bool x_367)] ⟨rfl, rfl, rfl, rfl, rfl, trivial⟩ (by kernel_rfl)
                have e377 : a371.tmps.getD 53 undef = cV (true && (x_367 == false)) (.agg #[.int .i64 r_5_Kind, .string (Bs r_5_Name), .string (Bs r_5_Text), Sl.v r_5_Attrs, Sl.v r_5_Kids]) := hv375 6 rfl 53 rfl
                have hA378 := hA371.add e377
                have e379 : a371.tmps.getD 54 undef = cV (true && (x_367 == false)) (Sl.v r_0_167) := hv375 7 rfl 54 rfl
                have hA380 := hA378.add e379
                have e381 : a371.tmps.getD 55 undef = cV (true && (x_367 == false)) (.int .i64 i_209) := hv375 8 rfl 55 rfl
                have hA382 := hA380.add e381
                have hB383 := hB357.ext hE373
                have hC384 : Chg [] w348 w372 := hE373
                have ht385 := ht369 w372    hC384
                obtain ⟨r_386, hc390, ht389⟩ := ht385
                refine one (D := [[], [], [0, 1], [0, 1, 2], [0, 1, 2, 3], [0, 1, 2, 3, 4], [0, 1, 2, 3, 4, 5], [0, 1, 2, 3, 4, 5], [0, 1, 2, 3, 4, 5], [0, 1, 2, 3, 4, 5, 6, 7, 8], [0, 1, 2, 3, 4, 5, 6, 7, 8, 9], [0, 1, 2, 3, 4, 5, 6, 7, 8, 9, 10], [0, 1, 2, 3, 4, 5, 6, 7, 8, 9, 10, 11], [0, 1, 2, 3, 4, 5, 6, 7, 8, 9, 10, 11], [0, 1, 2, 3, 4, 5, 6, 7, 8, 9, 10, 11, 12, 13], [0, 1, 2, 3, 4, 5, 6, 7, 8, 9, 10, 11, 12, 13, 14], [0, 1, 2, 3, 4, 5, 6, 7, 8, 9, 10, 11, 12, 13, 14, 15], [0, 1, 2, 3, 4, 5, 6, 7, 8, 9, 10, 11], [0, 1, 2, 3, 4, 5, 6, 7, 8, 9, 10, 11], [0, 1, 2, 3, 4, 5, 6, 7, 8, 9, 10, 11, 17, 18], [0, 1, 2, 3, 4, 5, 6, 7, 8, 9, 10, 11, 12, 13, 14, 15, 16, 17, 18, 19], [0, 1, 2, 3, 4, 5, 6, 7, 8, 9, 10, 11, 12, 13, 14, 15, 16, 17, 18, 19, 20], [0, 1, 2, 3, 4, 5, 6, 7, 8, 9, 10, 11, 12, 13, 14, 15, 16, 17, 18, 19, 20, 21]]) (i := 9) rfl (by kernel_rfl) (opk_gcall hA382 rfl rfl (g := true) (e := x_367) rfl (fun hg => r_call (args := #[.agg #[.int .i64 r_5_Kind, .string (Bs r_5_Name), .string (Bs r_5_Text), Sl.v r_5_Attrs, Sl.v r_5_Kids], Sl.v r_0_167, .int .i64 i_209]) Try.func16 (by decide) rfl (map_arr (ml_cons (cv_get (hA382.get rfl) hg) (ml_cons (cv_get (hA382.get rfl) hg) (ml_cons (cv_get (hA382.get rfl) hg) ml_nil)))) rfl) (fun hg => hc390 (g_f hg)) fun a387 w388 hA387 _ hE391 => ?_)
                have hB392 := hB383.ext hE391
                have hC393 : Chg [] w372 w388 := hE391
                have ht394 := ht389 w388 hE391
                refine one (D := [[], [], [0, 1], [0, 1, 2], [0, 1, 2, 3], [0, 1, 2, 3, 4], [0, 1, 2, 3, 4, 5], [0, 1, 2, 3, 4, 5], [0, 1, 2, 3, 4, 5], [0, 1, 2, 3, 4, 5, 6, 7, 8], [0, 1, 2, 3, 4, 5, 6, 7, 8, 9], [0, 1, 2, 3, 4, 5, 6, 7, 8, 9, 10], [0, 1, 2, 3, 4, 5, 6, 7, 8, 9, 10, 11], [0, 1, 2, 3, 4, 5, 6, 7, 8, 9, 10, 11], [0, 1, 2, 3, 4, 5, 6, 7, 8, 9, 10, 11, 12, 13], [0, 1, 2, 3, 4, 5, 6, 7, 8, 9, 10, 11, 12, 13, 14], [0, 1, 2, 3, 4, 5, 6, 7, 8, 9, 10, 11, 12, 13, 14, 15], [0, 1, 2, 3, 4, 5, 6, 7, 8, 9, 10, 11], [0, 1, 2, 3, 4, 5, 6, 7, 8, 9, 10, 11], [0, 1, 2, 3, 4, 5, 6, 7, 8, 9, 10, 11, 17, 18], [0, 1, 2, 3, 4, 5, 6, 7, 8, 9, 10, 11, 12, 13, 14, 15, 16, 17, 18, 19], [0, 1, 2, 3, 4, 5, 6, 7, 8, 9, 10, 11, 12, 13, 14, 15, 16, 17, 18, 19, 20], [0, 1, 2, 3, 4, 5, 6, 7, 8, 9, 10, 11, 12, 13, 14, 15, 16, 17, 18, 19, 20, 21]]) (i := 10) rfl (by kernel_rfl) (opk_val hA387 rfl (r_pick_or (g := (true && (x_367 == false))) (hA387.get rfl) (hA387.get rfl) (fun he => g_mkf rfl he)) fun a395 hA395 _ => ?_)
                refine one (D := [[], [], [0, 1], [0, 1, 2], [0, 1, 2, 3], [0, 1, 2, 3, 4], [0, 1, 2, 3, 4, 5], [0, 1, 2, 3, 4, 5], [0, 1, 2, 3, 4, 5], [0, 1, 2, 3, 4, 5, 6, 7, 8], [0, 1, 2, 3, 4, 5, 6, 7, 8, 9], [0, 1, 2, 3, 4, 5, 6, 7, 8, 9, 10], [0, 1, 2, 3, 4, 5, 6, 7, 8, 9, 10, 11], [0, 1, 2, 3, 4, 5, 6, 7, 8, 9, 10, 11], [0, 1, 2, 3, 4, 5, 6, 7, 8, 9, 10, 11, 12, 13], [0, 1, 2, 3, 4, 5, 6, 7, 8, 9, 10, 11, 12, 13, 14], [0, 1, 2, 3, 4, 5, 6, 7, 8, 9, 10, 11, 12, 13, 14, 15], [0, 1, 2, 3, 4, 5, 6, 7, 8, 9, 10, 11], [0, 1, 2, 3, 4, 5, 6, 7, 8, 9, 10, 11], [0, 1, 2, 3, 4, 5, 6, 7, 8, 9, 10, 11, 17, 18], [0, 1, 2, 3, 4, 5, 6, 7, 8, 9, 10, 11, 12, 13, 14, 15, 16, 17, 18, 19], [0, 1, 2, 3, 4, 5, 6, 7, 8, 9, 10, 11, 12, 13, 14, 15, 16, 17, 18, 19, 20], [0, 1, 2, 3, 4, 5, 6, 7, 8, 9, 10, 11, 12, 13, 14, 15, 16, 17, 18, 19, 20, 21]]) (i := 11) rfl (by kernel_rfl) (opk_val hA395 rfl (r_move (hA395.get rfl)) fun a396 hA396 _ => ?_)
                obtain ⟨p_399, hp400, ht401⟩ := ht394
                obtain ⟨x_404, hx405, ht406⟩ := ht401
                obtain ⟨V_410, hst411, hc412, ht413⟩ := ht406
                refine par (D := [[], [], [0, 1], [0, 1, 2], [0, 1, 2, 3], [0, 1, 2, 3, 4], [0, 1, 2, 3, 4, 5], [0, 1, 2, 3, 4, 5], [0, 1, 2, 3, 4, 5], [0, 1, 2, 3, 4, 5, 6, 7, 8], [0, 1, 2, 3, 4, 5, 6, 7, 8, 9], [0, 1, 2, 3, 4, 5, 6, 7, 8, 9, 10], [0, 1, 2, 3, 4, 5, 6, 7, 8, 9, 10, 11], [0, 1, 2, 3, 4, 5, 6, 7, 8, 9, 10, 11], [0, 1, 2, 3, 4, 5, 6, 7, 8, 9, 10, 11, 12, 13], [0, 1, 2, 3, 4, 5, 6, 7, 8, 9, 10, 11, 12, 13, 14], [0, 1, 2, 3, 4, 5, 6, 7, 8, 9, 10, 11, 12, 13, 14, 15], [0, 1, 2, 3, 4, 5, 6, 7, 8, 9, 10, 11], [0, 1, 2, 3, 4, 5, 6, 7, 8, 9, 10, 11], [0, 1, 2, 3, 4, 5, 6, 7, 8, 9, 10, 11, 17, 18], [0, 1, 2, 3, 4, 5, 6, 7, 8, 9, 10, 11, 12, 13, 14, 15, 16, 17, 18, 19], [0, 1, 2, 3, 4, 5, 6, 7, 8, 9, 10, 11, 12, 13, 14, 15, 16, 17, 18, 19, 20], [0, 1, 2, 3, 4, 5, 6, 7, 8, 9, 10, 11, 12, 13, 14, 15, 16, 17, 18, 19, 20, 21]]) (S := [12, 13, 14, 15, 16, 17, 18, 19]) (F := []) (V := VL [(12, fun v _ => v = cV (true && ((x_367 || r_386) == false)) (Sl.v r_0_167)), (13, fun v _ => v = cV (true && ((x_367 || r_386) == false)) (.int .i64 i_209)), (14, fun v _ => v = cV (true && ((x_367 || r_386) == false)) (.pointer (some (p_399.add (i_209.toNat * 6))))), (15, fun v _ => v = cV (true && ((x_367 || r_386) == false)) (.pointer (some ((p_399.add (i_209.toNat * 6)).add 5)))), (16, fun v _ => v = cV (true && ((x_367 || r_386) == false)) (Sl.v x_404)), (17, fun v _ => v = cV (true && ((x_367 || r_386) == false)) (.agg #[.int .i64 r_5_Kind, .string (Bs r_5_Name), .string (Bs r_5_Text), Sl.v r_5_Attrs, Sl.v r_5_Kids])), (18, fun v _ => v = cV (true && ((x_367 || r_386) == false)) (.int .i64 i_209)), (19, fun v w' => ∃ r_409 : Sl, ((((x_367 = false) ∧ (r_386 = false))) → V_410 r_409 w') ∧ v = cV (true && ((x_367 || r_386) == false)) (Sl.v r_409))]) hA396 (by kernel_rfl) ⟨fun _ _ _ _ h => by first | exact h | (change _ = _ at h; change _ = _; exact h), fun _ _ _ _ h => by first | exact h | (change _ = _ at h; change _ = _; exact h), fun _ _ _ _ h => by first | exact h | (change _ = _ at h; change _ = _; exact h), fun _ _ _ _ h => by first | exact h | (change _ = _ at h; change _ = _; exact h), fun _ _ _ _ h => by first | exact h | (change _ = _ at h; change _ = _; exact h), fun _ _ _ _ h => by first | exact h | (change _ = _ at h; change _ = _; exact h), fun _ _ _ _ h => by first | exact h | (change _ = _ at h; change _ = _; exact h), fun _ _ _ hE ⟨r_409, h0_, e⟩ => ⟨r_409, (fun hp => hst411 r_409 _ _ hE (h0_ hp)), e⟩, trivial⟩ ⟨?_, ?_, ?_, ?_, ?_, ?_, ?_, ?_, trivial⟩ ?_
                · intro a w hT
                  have hAp := hT.ag hA396 [(7, Sl.v r_0_167), (58, .bool (x_367 || r_386))] ⟨rfl, rfl, trivial⟩ (by kernel_rfl)
                  exact opk_gval hAp rfl rfl (g := true) (e := (x_367 || r_386)) rfl (fun hg => r_move (hAp.get rfl)) fun _ _ e => ⟨_, e, Chg.refl _ _, fun _ => Eq.refl _⟩
                · intro a w hT
                  have hAp := hT.ag hA396 [(9, .int .i64 i_209), (58, .bool (x_367 || r_386))] ⟨rfl, rfl, trivial⟩ (by kernel_rfl)
                  exact opk_gval hAp rfl rfl (g := true) (e := (x_367 || r_386)) rfl (fun hg => r_move (hAp.get rfl)) fun _ _ e => ⟨_, e, Chg.refl _ _, fun _ => Eq.refl _⟩
                · intro a w hT
                  have hAp := hT.ag hA396 [(58, .bool (x_367 || r_386))] ⟨rfl, trivial⟩ (by kernel_rfl)
                  have e397 : a.tmps.getD 59 undef = cV (true && ((x_367 || r_386) == false)) (Sl.v r_0_167) := hT.vals 12 rfl 59 rfl
                  have hAp := hAp.add e397
                  have e398 : a.tmps.getD 60 undef = cV (true && ((x_367 || r_386) == false)) (.int .i64 i_209) := hT.vals 13 rfl 60 rfl
                  have hAp := hAp.add e398
                  exact opk_gval hAp rfl rfl (g := true) (e := (x_367 || r_386)) rfl (fun hg => r_indexAddr (cv_get (hAp.get rfl) hg) (cv_get (hAp.get rfl) hg) Try.underlying33 ti_43 (hp400 ⟨(b_or_f (g_f hg)).1, (b_or_f (g_f hg)).2⟩).1 (hp400 ⟨(b_or_f (g_f hg)).1, (b_or_f (g_f hg)).2⟩).2) fun _ _ e => ⟨_, e, Chg.refl _ _, fun _ => Eq.refl _⟩
                · intro a w hT
                  have hAp := hT.ag hA396 [(58, .bool (x_367 || r_386))] ⟨rfl, trivial⟩ (by kernel_rfl)
                  have e402 : a.tmps.getD 61 undef = cV (true && ((x_367 || r_386) == false)) (.pointer (some (p_399.add (i_209.toNat * 6)))) := hT.vals 14 rfl 61 rfl
                  have hAp := hAp.add e402
                  exact opk_gval hAp rfl rfl (g := true) (e := (x_367 || r_386)) rfl (fun hg => r_fieldAddr (cv_get (hAp.get rfl) hg) Try.underlying43 rfl ti_22 (by decide)) fun _ _ e => ⟨_, e, Chg.refl _ _, fun _ => Eq.refl _⟩
                · intro a w hT
                  have hAp := hT.ag hA396 [(58, .bool (x_367 || r_386))] ⟨rfl, trivial⟩ (by kernel_rfl)
                  have e403 : a.tmps.getD 62 undef = cV (true && ((x_367 || r_386) == false)) (.pointer (some ((p_399.add (i_209.toNat * 6)).add 5))) := hT.vals 15 rfl 62 rfl
                  have hAp := hAp.add e403
                  exact opk_gval hAp rfl rfl (g := true) (e := (x_367 || r_386)) rfl (fun hg => r_load1 Try.underlying22 rfl (cv_get (hAp.get rfl) hg) (Ext.cell hT.chg (hx405 ⟨(b_or_f (g_f hg)).1, (b_or_f (g_f hg)).2⟩))) fun _ _ e => ⟨_, e, Chg.refl _ _, fun _ => Eq.refl _⟩
                · intro a w hT
                  have hAp := hT.ag hA396 [(3, .pointer (some (⟨B_13, 0, none⟩ : Addr))), (58, .bool (x_367 || r_386))] ⟨rfl, rfl, trivial⟩ (by kernel_rfl)
                  exact opk_gval hAp rfl rfl (g := true) (e := (x_367 || r_386)) rfl (fun hg => r_loadN (cs := [.int .i64 r_5_Kind, .string (Bs r_5_Name), .string (Bs r_5_Text), Sl.v r_5_Attrs, Sl.v r_5_Kids]) Try.underlying26 rfl ti_26 (hAp.get rfl) ((hB392.ext hT.chg).part 0 _ rfl)) fun _ _ e => ⟨_, e, Chg.refl _ _, fun _ => Eq.refl _⟩
                · intro a w hT
                  have hAp := hT.ag hA396 [(9, .int .i64 i_209), (58, .bool (x_367 || r_386))] ⟨rfl, rfl, trivial⟩ (by kernel_rfl)
                  exact opk_gval hAp rfl rfl (g := true) (e := (x_367 || r_386)) rfl (fun hg => r_move (hAp.get rfl)) fun _ _ e => ⟨_, e, Chg.refl _ _, fun _ => Eq.refl _⟩
                · intro a w hT
                  have hAp := hT.ag hA396 [(58, .bool (x_367 || r_386))] ⟨rfl, trivial⟩ (by kernel_rfl)
                  have e407 : a.tmps.getD 64 undef = cV (true && ((x_367 || r_386) == false)) (.agg #[.int .i64 r_5_Kind, .string (Bs r_5_Name), .string (Bs r_5_Text), Sl.v r_5_Attrs, Sl.v r_5_Kids]) := hT.vals 17 rfl 64 rfl
                  have hAp := hAp.add e407
                  have e408 : a.tmps.getD 65 undef = cV (true && ((x_367 || r_386) == false)) (.int .i64 i_209) := hT.vals 18 rfl 65 rfl
                  have hAp := hAp.add e408
                  exact opk_gcallM hAp rfl rfl (g := true) (e := (x_367 || r_386)) rfl (fun hg => r_call (args := #[.agg #[.int .i64 r_5_Kind, .string (Bs r_5_Name), .string (Bs r_5_Text), Sl.v r_5_Attrs, Sl.v r_5_Kids], .int .i64 i_209]) Try.func24 (by decide) rfl (map_arr (ml_cons (cv_get (hAp.get rfl) hg) (ml_cons (cv_get (hAp.get rfl) hg) ml_nil))) rfl) (fun hg => hc412 ⟨(b_or_f (g_f hg)).1, (b_or_f (g_f hg)).2⟩ w hT.chg) fun _ _ _ _ e hE hR => ⟨_, e, hE, fun _ => by obtain ⟨r_409, hx, hV⟩ := cvty (α := Sl) (fun s => Sl.v s) (fun s w => V_410 s w) (fun hg => by obtain ⟨r_409, h1, h2⟩ := hR hg; exact ⟨r_409, h1, h2⟩); exact ⟨r_409, fun hp => hV (g_mkf rfl (b_or_mkf ⟨hp.1, hp.2⟩)), hx⟩⟩
                · intro a414 w415 hE416 hag417 hv418
                  have hA414 := hag417 [(3, .pointer (some (⟨B_13, 0, none⟩ : Addr))), (4, .int .i64 (r_31.n : Int)), (7, Sl.v r_0_167), (9, .int .i64 i_209), (58, .bool (x_367 || r_386))] ⟨rfl, rfl, rfl, rfl, rfl, trivial⟩ (by kernel_rfl)
                  have e420 : a414.tmps.getD 63 undef = cV (true && ((x_367 || r_386) == false)) (Sl.v x_404) := hv418 16 rfl 63 rfl
                  have hA421 := hA414.add e420
                  obtain ⟨r_409, hf424, e422⟩ := hv418 19 rfl 66 rfl
                  have hA423 := hA421.add e422
                  have hB425 := hB392.ext hE416
                  have hC426 : Chg [] w388 w415 := hE416
                  have ht427 := ht413 w415 r_409 hE416 hf424
                  obtain ⟨r_428, hc432, ht431⟩ := ht427
                  refine one (D := [[], [], [0, 1], [0, 1, 2], [0, 1, 2, 3], [0, 1, 2, 3, 4], [0, 1, 2, 3, 4, 5], [0, 1, 2, 3, 4, 5], [0, 1, 2, 3, 4, 5], [0, 1, 2, 3, 4, 5, 6, 7, 8], [0, 1, 2, 3, 4, 5, 6, 7, 8, 9], [0, 1, 2, 3, 4, 5, 6, 7, 8, 9, 10], [0, 1, 2, 3, 4, 5, 6, 7, 8, 9, 10, 11], [0, 1, 2, 3, 4, 5, 6, 7, 8, 9, 10, 11], [0, 1, 2, 3, 4, 5, 6, 7, 8, 9, 10, 11, 12, 13], [0, 1, 2, 3, 4, 5, 6, 7, 8, 9, 10, 11, 12, 13, 14], [0, 1, 2, 3, 4, 5, 6, 7, 8, 9, 10, 11, 12, 13, 14, 15], [0, 1, 2, 3, 4, 5, 6, 7, 8, 9, 10, 11], [0, 1, 2, 3, 4, 5, 6, 7, 8, 9, 10, 11], [0, 1, 2, 3, 4, 5, 6, 7, 8, 9, 10, 11, 17, 18], [0, 1, 2, 3, 4, 5, 6, 7, 8, 9, 10, 11, 12, 13, 14, 15, 16, 17, 18, 19], [0, 1, 2, 3, 4, 5, 6, 7, 8, 9, 10, 11, 12, 13, 14, 15, 16, 17, 18, 19, 20], [0, 1, 2, 3, 4, 5, 6, 7, 8, 9, 10, 11, 12, 13, 14, 15, 16, 17, 18, 19, 20, 21]]) (i := 20) rfl (by kernel_rfl) (opk_gcall hA423 rfl rfl (g := true) (e := (x_367 || r_386)) rfl (fun hg => r_call (args := #[Sl.v x_404, Sl.v r_409]) Try.func23 (by decide) rfl (map_arr (ml_cons (cv_get (hA423.get rfl) hg) (ml_cons (cv_get (hA423.get rfl) hg) ml_nil))) rfl) (fun hg => hc432 ⟨(b_or_f (g_f hg)).1, (b_or_f (g_f hg)).2⟩) fun a429 w430 hA429 _ hE433 => ?_)
                  have hB434 := hB425.ext hE433
                  have hC435 : Chg [] w415 w430 := hE433
                  have ht436 := ht431 w430 hE433
                  refine one (D := [[], [], [0, 1], [0, 1, 2], [0, 1, 2, 3], [0, 1, 2, 3, 4], [0, 1, 2, 3, 4, 5], [0, 1, 2, 3, 4, 5], [0, 1, 2, 3, 4, 5], [0, 1, 2, 3, 4, 5, 6, 7, 8], [0, 1, 2, 3, 4, 5, 6, 7, 8, 9], [0, 1, 2, 3, 4, 5, 6, 7, 8, 9, 10], [0, 1, 2, 3, 4, 5, 6, 7, 8, 9, 10, 11], [0, 1, 2, 3, 4, 5, 6, 7, 8, 9, 10, 11], [0, 1, 2, 3, 4, 5, 6, 7, 8, 9, 10, 11, 12, 13], [0, 1, 2, 3, 4, 5, 6, 7, 8, 9, 10, 11, 12, 13, 14], [0, 1, 2, 3, 4, 5, 6, 7, 8, 9, 10, 11, 12, 13, 14, 15], [0, 1, 2, 3, 4, 5, 6, 7, 8, 9, 10, 11], [0, 1, 2, 3, 4, 5, 6, 7, 8, 9, 10, 11], [0, 1, 2, 3, 4, 5, 6, 7, 8, 9, 10, 11, 17, 18], [0, 1, 2, 3, 4, 5, 6, 7, 8, 9, 10, 11, 12, 13, 14, 15, 16, 17, 18, 19], [0, 1, 2, 3, 4, 5, 6, 7, 8, 9, 10, 11, 12, 13, 14, 15, 16, 17, 18, 19, 20], [0, 1, 2, 3, 4, 5, 6, 7, 8, 9, 10, 11, 12, 13, 14, 15, 16, 17, 18, 19, 20, 21]]) (i := 21) rfl (by kernel_rfl) (opk_gval hA429 rfl rfl (g := true) (e := (x_367 || r_386)) rfl (fun hg => r_not (cv_get (hA429.get rfl) hg)) fun a437 hA437 _ => ?_)
                  refine one (D := [[], [], [0, 1], [0, 1, 2], [0, 1, 2, 3], [0, 1, 2, 3, 4], [0, 1, 2, 3, 4, 5], [0, 1, 2, 3, 4, 5], [0, 1, 2, 3, 4, 5], [0, 1, 2, 3, 4, 5, 6, 7, 8], [0, 1, 2, 3, 4, 5, 6, 7, 8, 9], [0, 1, 2, 3, 4, 5, 6, 7, 8, 9, 10], [0, 1, 2, 3, 4, 5, 6, 7, 8, 9, 10, 11], [0, 1, 2, 3, 4, 5, 6, 7, 8, 9, 10, 11], [0, 1, 2, 3, 4, 5, 6, 7, 8, 9, 10, 11, 12, 13], [0, 1, 2, 3, 4, 5, 6, 7, 8, 9, 10, 11, 12, 13, 14], [0, 1, 2, 3, 4, 5, 6, 7, 8, 9, 10, 11, 12, 13, 14, 15], [0, 1, 2, 3, 4, 5, 6, 7, 8, 9, 10, 11], [0, 1, 2, 3, 4, 5, 6, 7, 8, 9, 10, 11], [0, 1, 2, 3, 4, 5, 6, 7, 8, 9, 10, 11, 17, 18], [0, 1, 2, 3, 4, 5, 6, 7, 8, 9, 10, 11, 12, 13, 14, 15, 16, 17, 18, 19], [0, 1, 2, 3, 4, 5, 6, 7, 8, 9, 10, 11, 12, 13, 14, 15, 16, 17, 18, 19, 20], [0, 1, 2, 3, 4, 5, 6, 7, 8, 9, 10, 11, 12, 13, 14, 15, 16, 17, 18, 19, 20, 21]]) (i := 22) rfl (by kernel_rfl) (opk_val hA437 rfl (r_pick_or (g := (true && ((x_367 || r_386) == false))) (hA437.get rfl) (hA437.get rfl) (fun he => g_mkf rfl he)) fun a438 hA438 _ => ?_)
                  refine PR_end (by kernel_rfl) ?_
                  have hA439 := hA438.keep [(3, .pointer (some (⟨B_13, 0, none⟩ : Addr))), (4, .int .i64 (r_31.n : Int)), (7, Sl.v r_0_167), (9, .int .i64 i_209), (69, .bool ((x_367 || r_386) || (!r_428)))] ⟨rfl, rfl, rfl, rfl, rfl, trivial⟩
                  refine then_normal ?_
                  refine wp_cond_split (hA439.get rfl) (fun hc => ?_) (fun hc => ?_)
                  · have ht440 := ht436.1 ((b_or_t hc).imp (fun h => ((b_or_t h).imp (fun h => h) (fun h => h))) (fun h => (b_not_t h)))
                    clear hc
                    refine wp_seq ?_
                    refine wp_region_lit ?_
                    refine sq (opk_val hA439 rfl (r_assign rfl) fun a442 hA442 _ => ?_)
                    refine sq_end ?_
                    have hA443 := hA442.keep [(2, .bool false)] ⟨rfl, trivial⟩
                    refine then_normal ?_
                    refine wp_ret ?_
                    refine block_ret ?_
                    refine then_ret ?_
                    refine then_ret ?_
                    refine block_ret ?_
                    refine then_ret ?_
                    exact res_all (vs := [.bool false]) rfl hA443 ⟨res_of_tmp hA443 rfl, trivial⟩ ht440
                  · have ht441 := ht436.2 ⟨⟨(b_or_f (b_or_f hc).1).1, (b_or_f (b_or_f hc).1).2⟩, (b_not_f (b_or_f hc).2)⟩
                    clear hc
                    refine wp_skip ?_
                    refine block_normal ?_
                    refine then_normal ?_
                    refine wp_region_lit ?_
                    refine sq (opk_val hA439 rfl (r_move (hA439.get rfl)) fun a444 hA444 _ => ?_)
                    obtain ⟨hS446, ht447⟩ := ht441
                    refine sq (opk_val hA444 rfl (r_addI (hA444.get rfl) rfl hS446) fun a445 hA445 _ => ?_)
                    refine sq (opk_val hA445 rfl (r_assign (hA445.get rfl)) fun a448 hA448 _ => ?_)
                    refine sq_end ?_
                    have hA449 := hA448.keep [(3, .pointer (some (⟨B_13, 0, none⟩ : Addr))), (4, .int .i64 (r_31.n : Int)), (7, Sl.v r_0_167), (9, .int .i64 (i_209 + 1))] ⟨rfl, rfl, rfl, rfl, trivial⟩
                    have hA450 := hA449.keep [(3, .pointer (some (⟨B_13, 0, none⟩ : Addr))), (4, .int .i64 (r_31.n : Int)), (7, Sl.v r_0_167), (9, .int .i64 (i_209 + 1))] ⟨rfl, rfl, rfl, rfl, trivial⟩
                    exact then_normal ⟨(i_209 + 1, w430), ⟨hA450, hB434, rfl, ht447.1⟩, ht447.2⟩
          · have ht341 := ht334.2 (of_decide_eq_false hc)
            clear hc
            refine wp_exit ?_
            refine then_exit ?_
            refine then_exit ?_
            refine block_hit ?_
            have hA451 := hA339.keep [] trivial
            refine then_normal ?_
            refine wp_seq ?_
            refine wp_region_lit ?_
            refine sq (opk_call hA451 rfl (r_call (args := #[]) Try.func14 (by decide) rfl (map_arr ml_nil) rfl) ht341 fun a453 v459 w454 hA453 _ hn456 hz457 hK458 => ?_)
            obtain ⟨r_452, rfl, ht455⟩ := hK458
            refine sq (opk_val hA453 rfl (r_assign (hA453.get rfl)) fun a460 hA460 _ => ?_)
            refine sq_end ?_
            have hA461 := hA460.keep [(2, .bool r_452)] ⟨rfl, trivial⟩
            refine then_normal ?_
            refine wp_ret ?_
            exact res_all (vs := [.bool r_452]) rfl hA461 ⟨res_of_tmp hA461 rfl, trivial⟩ ht455

end Go.Proofs.Yteohbfaechfliaa
