/-
  PRINTED BY PROGRAM: for each function its condition (vc), and that this suffices (ok).
-/
import Derived.Test.YtpacegmmbabhjaaGT
namespace Go.Proofs.Ytpacegmmbabhjaa
open Go.RowKit
set_option linter.unusedVariables false

/-- The condition of topiary/topiarylaw05.TreeAttrs. -/
def law05_TreeAttrs.vc (l_1 : Sl) (name_2 : Str) (R : Value → World → Prop) (w : World) : Prop :=
CallK Try.prog 11 #[Sl.v l_1] w [] (fun v w8 => ∃ (r_6_Kind : Int) (r_6_Name : Str) (r_6_Text : Str) (r_6_Attrs : Sl) (r_6_Kids : Sl), v = .agg #[.int .i64 r_6_Kind, .string (Bs r_6_Name), .string (Bs r_6_Text), Sl.v r_6_Attrs, Sl.v r_6_Kids] ∧
∀ (w22 : World) (B_14 : Nat), New w8 B_14 w22 → Chg [] w8 w22 →
∃ (J_34 : Int → World → Prop) (mu_35 : Int → World → Nat),
J_34 0 w22 ∧
(∀ (i_32 : Int) (w33 : World), J_34 i_32 w33 →
((i_32 < (r_6_Kids.n : Int)) →
((0 : Int) ≤ i_32 ∧ i_32 < (r_6_Kids.n : Int)) ∧ ∃ p_352 : Addr, r_6_Kids.a = some p_352 ∧
∃ (x_358_Kind : Int) (x_358_Name : Str) (x_358_Text : Str) (x_358_Attrs : Sl) (x_358_Kids : Sl), (Cells w33 (p_352.add (i_32.toNat * 5)) [.int .i64 x_358_Kind, .string (Bs x_358_Name), .string (Bs x_358_Text), Sl.v x_358_Attrs, Sl.v x_358_Kids]) ∧
∀ (w371 : World) (B_361 : Nat), New w33 B_361 w371 → Chg [] w33 w371 →
∃ (J_387 : Bool → Int → World → Prop) (mu_388 : Bool → Int → World → Nat),
J_387 false 0 w371 ∧
(∀ (in_384 : Bool) (j_385 : Int) (w386 : World), J_387 in_384 j_385 w386 →
((j_385 < (x_358_Attrs.n : Int)) →
∀ (w509 : World), Chg [] w386 w509 →
∃ p_518 : Addr, (((0 : Int) ≤ j_385 ∧ j_385 < (x_358_Attrs.n : Int)) ∧ x_358_Attrs.a = some p_518) ∧
∃ (x_523 : Str), (w509.cell? ((p_518.add (j_385.toNat * 2)).add 0) = some (.string (Bs x_523))) ∧
∃ (r_0_528 : Str) (r_1_529 : Bool), (∀ w' : World, Ext w509 w' → Calls Try.prog 23 #[.agg #[.int .i64 x_358_Kind, .string (Bs x_358_Name), .string (Bs x_358_Text), Sl.v x_358_Attrs, Sl.v x_358_Kids], .string (Bs x_523)] w' (Ret fun v w'' => Ext w' w'' ∧ v = .tuple #[.string (Bs r_0_528), .bool r_1_529])) ∧
∃ p_558 : Addr, (((r_1_529 = true)) → ((0 : Int) ≤ j_385 ∧ j_385 < (x_358_Attrs.n : Int)) ∧  x_358_Attrs.a = some p_558) ∧
∀ (w538 : World), Chg [] w509 w538 →
∃ (x_566 : Str), (((r_1_529 = true)) → w538.cell? ((p_558.add (j_385.toNat * 2)).add 1) = some (.string (Bs x_566))) ∧
(((r_1_529 = false) ∨ (r_0_528 ≠ x_566)) →
R (.bool false) w538) ∧
(((r_1_529 = true) ∧ (¬ (r_0_528 ≠ x_566))) →
∃ p_581 : Addr, (((in_384 = false)) → ((0 : Int) ≤ j_385 ∧ j_385 < (x_358_Attrs.n : Int)) ∧  x_358_Attrs.a = some p_581) ∧
∃ (x_588 : Str), (((in_384 = false)) → w538.cell? ((p_581.add (j_385.toNat * 2)).add 0) = some (.string (Bs x_588))) ∧
(I64 (j_385 + 1)) ∧
J_387 (in_384 || (decide (x_588 = name_2))) (j_385 + 1) w538 ∧ mu_388 (in_384 || (decide (x_588 = name_2))) (j_385 + 1) w538 < mu_388 in_384 j_385 w386)) ∧
((¬ (j_385 < (x_358_Attrs.n : Int))) →
CallK Try.prog 23 #[.agg #[.int .i64 x_358_Kind, .string (Bs x_358_Name), .string (Bs x_358_Text), Sl.v x_358_Attrs, Sl.v x_358_Kids], .string (Bs name_2)] w386 [B_14, B_361] (fun v w609 => ∃ (r_0_606 : Str) (r_1_607 : Bool), v = .tuple #[.string (Bs r_0_606), .bool r_1_607] ∧
(((r_1_607 == in_384) = false) →
R (.bool false) w609) ∧
(((r_1_607 == in_384) = true) →
(I64 (i_32 + 1)) ∧
J_34 (i_32 + 1) w609 ∧ mu_35 (i_32 + 1) w609 < mu_35 i_32 w33))))) ∧
((¬ (i_32 < (r_6_Kids.n : Int))) →
CallK Try.prog 23 #[.agg #[.int .i64 0, .string (Bs ([] : Str)), .string (Bs ([] : Str)), Sl.v Sl.nil, Sl.v Sl.nil], .string (Bs name_2)] w33 [] (fun v w644 => ∃ (r_0_641 : Str) (r_1_642 : Bool), v = .tuple #[.string (Bs r_0_641), .bool r_1_642] ∧
∃ (r_659 : Bool), (((r_1_642 = false)) → Calls Try.prog 15 #[] w644 (Ret fun v w' => Ext w644 w' ∧ v = .bool r_659)) ∧
(∀ w661 : World, Ext w644 w661 →
R (.bool ((!r_1_642) && r_659)) w661)))))
set_option maxHeartbeats 1000000 in
set_option maxRecDepth 10000 in
theorem law05_TreeAttrs.ok (l_1 : Sl) (name_2 : Str) {R : Value → World → Prop} {w : World} (ht0 : law05_TreeAttrs.vc l_1 name_2 R w) : Calls Try.prog 7 #[Sl.v l_1, .string (Bs name_2)] w (Ret R) := by
  refine enter [Sl.v l_1, .string (Bs name_2)] Try.func7 rfl Try.ntmps7 rfl ?_
  intro a0 hA0
  unfold law05_TreeAttrs.vc at ht0
  refine wp_seq ?_
  refine wp_region_lit ?_
  refine sq (opk_val hA0 rfl (r_assign rfl) fun a3 hA3 _ => ?_)
  refine sq_end ?_
  have hA4 := hA3.keep [(0, Sl.v l_1), (1, .string (Bs name_2))] ⟨rfl, rfl, trivial⟩
  refine then_normal ?_
  refine wp_seq ?_
  refine wp_region_lit ?_
  refine sq (opk_val hA4 rfl (r_move (hA4.get rfl)) fun a5 hA5 _ => ?_)
  refine sq (opk_call hA5 rfl (r_call (args := #[Sl.v l_1]) Try.func11 (by decide) rfl (map_arr (ml_cons (hA5.get rfl) ml_nil)) rfl) ht0 fun a7 v13 w8 hA7 _ hn10 hz11 hK12 => ?_)
  obtain ⟨r_6_Kind, r_6_Name, r_6_Text, r_6_Attrs, r_6_Kids, rfl, ht9⟩ := hK12
  refine sq (opk_new (fun B => .pointer (some ⟨B, 0, none⟩)) hA7 rfl (r_alloc (cs := [.int .i64 0, .string (Bs ([] : Str)), .string (Bs ([] : Str)), Sl.v Sl.nil, Sl.v Sl.nil]) ti_26 rfl) fun a16 w15 B_14 hE17 hN18 hB19 hA16 _ => ?_)
  have hN20 : New w8 B_14 w15 := hN18
  have hC21 : Chg [] w8 w15 := hE17
  refine sq (opk_store hA16 hB19 (r_store (vs := [.int .i64 r_6_Kind, .string (Bs r_6_Name), .string (Bs r_6_Text), Sl.v r_6_Attrs, Sl.v r_6_Kids]) (hA16.get rfl) (hA16.get rfl) rfl ti_26 hB19 rfl (ones_all [.int .i64 r_6_Kind, .string (Bs r_6_Name), .string (Bs r_6_Text), Sl.v r_6_Attrs, Sl.v r_6_Kids] rfl)) fun a23 w22 hS24 hB25 hA23 => ?_)
  have hB26 : Box w22 B_14 26 [.int .i64 r_6_Kind, .string (Bs r_6_Name), .string (Bs r_6_Text), Sl.v r_6_Attrs, Sl.v r_6_Kids] := hB25
  have hC27 := hC21.storeNew hN20 hS24
  have hN28 := hN20.up hS24.size
  refine sq_end ?_
  have hA29 := hA23.keep [(1, .string (Bs name_2)), (5, .pointer (some (⟨B_14, 0, none⟩ : Addr)))] ⟨rfl, rfl, trivial⟩
  refine then_normal ?_
  refine wp_seq ?_
  refine wp_seq ?_
  refine wp_region_lit ?_
  refine sq (opk_val hA29 rfl (r_assign rfl) fun a30 hA30 _ => ?_)
  refine sq_end ?_
  have hA31 := hA30.keep [(1, .string (Bs name_2)), (5, .pointer (some (⟨B_14, 0, none⟩ : Addr))), (6, .int .i64 0)] ⟨rfl, rfl, rfl, trivial⟩
  refine then_normal ?_
  refine wp_block ?_
  have ht334 := ht9 w22 B_14 hN28  hC27
  obtain ⟨J_34, mu_35, h0338, ht337⟩ := ht334
  refine wp_loop_st (σ := Int × World) (fun s a w => Ag 91 a [(1, .string (Bs name_2)), (5, .pointer (some (⟨B_14, 0, none⟩ : Addr))), (6, .int .i64 s.1)] ∧ Box w B_14 26 [.int .i64 r_6_Kind, .string (Bs r_6_Name), .string (Bs r_6_Text), Sl.v r_6_Attrs, Sl.v r_6_Kids] ∧ w = s.2 ∧ J_34 s.1 s.2) (fun s => mu_35 s.1 s.2) (0, w22) ⟨hA31.keep [(1, .string (Bs name_2)), (5, .pointer (some (⟨B_14, 0, none⟩ : Addr))), (6, .int .i64 0)] ⟨rfl, rfl, rfl, trivial⟩, hB26, rfl, h0338⟩ ?_
  rintro ⟨i_32, w33⟩ a335 w_ ⟨hA335, hB336, hw_, hJ340⟩
  have hw_ : w33 = w_ := hw_.symm
  subst hw_
  have ht339 := ht337 i_32 _ hJ340
  refine wp_seq ?_
  refine wp_seq ?_
  refine wp_region_lit ?_
  refine sq (opk_val hA335 rfl (r_move (hA335.get rfl)) fun a341 hA341 _ => ?_)
  refine sq (opk_val hA341 rfl (r_fieldAddr (hA341.get rfl) Try.underlying26 rfl ti_24 (by decide)) fun a342 hA342 _ => ?_)
  refine sq (opk_val hA342 rfl (r_load1 Try.underlying24 rfl (hA342.get rfl) (hB336.cell 4 _ rfl)) fun a343 hA343 _ => ?_)
  refine sq (opk_val hA343 rfl (r_len (hA343.get rfl) Try.underlying24) fun a344 hA344 _ => ?_)
  refine sq (opk_val hA344 rfl (r_lss (hA344.get rfl) (hA344.get rfl)) fun a345 hA345 _ => ?_)
  refine sq_end ?_
  have hA346 := hA345.keep [(1, .string (Bs name_2)), (5, .pointer (some (⟨B_14, 0, none⟩ : Addr))), (6, .int .i64 i_32), (22, .bool (decide (i_32 < (r_6_Kids.n : Int))))] ⟨rfl, rfl, rfl, rfl, trivial⟩
  refine then_normal ?_
  refine wp_cond_split (hA346.get rfl) (fun hc => ?_) (fun hc => ?_)
  · have ht347 := ht339.1 (of_decide_eq_true hc)
    clear hc
    refine wp_skip ?_
    refine then_normal ?_
    refine wp_seq ?_
    refine wp_block ?_
    refine wp_seq ?_
    refine wp_region_lit ?_
    refine sq (opk_val hA346 rfl (r_fieldAddr (hA346.get rfl) Try.underlying26 rfl ti_24 (by decide)) fun a349 hA349 _ => ?_)
    refine sq (opk_val hA349 rfl (r_load1 Try.underlying24 rfl (hA349.get rfl) (hB336.cell 4 _ rfl)) fun a350 hA350 _ => ?_)
    refine sq (opk_val hA350 rfl (r_move (hA350.get rfl)) fun a351 hA351 _ => ?_)
    obtain ⟨hb353, p_352, hp354, ht355⟩ := ht347
    refine sq (opk_val hA351 rfl (r_indexAddr (hA351.get rfl) (hA351.get rfl) Try.underlying24 ti_26 hb353 hp354) fun a356 hA356 _ => ?_)
    obtain ⟨x_358_Kind, x_358_Name, x_358_Text, x_358_Attrs, x_358_Kids, hx359, ht360⟩ := ht355
    refine sq (opk_val hA356 rfl (r_loadN Try.underlying26 rfl ti_26 (hA356.get rfl) hx359) fun a357 hA357 _ => ?_)
    refine sq (opk_new (fun B => .pointer (some ⟨B, 0, none⟩)) hA357 rfl (r_alloc (cs := [.int .i64 0, .string (Bs ([] : Str)), .string (Bs ([] : Str)), Sl.v Sl.nil, Sl.v Sl.nil]) ti_26 rfl) fun a363 w362 B_361 hE364 hN365 hB366 hA363 _ => ?_)
    have hne367 : B_14 ≠ B_361 := Nat.ne_of_lt (Nat.lt_of_lt_of_le hB336.lt hN365.ge)
    have hN368 : New w33 B_361 w362 := hN365
    have hB369 := hB336.ext hE364
    have hC370 : Chg [] w33 w362 := hE364
    refine sq (opk_store hA363 hB366 (r_store (vs := [.int .i64 x_358_Kind, .string (Bs x_358_Name), .string (Bs x_358_Text), Sl.v x_358_Attrs, Sl.v x_358_Kids]) (hA363.get rfl) (hA363.get rfl) rfl ti_26 hB366 rfl (ones_all [.int .i64 x_358_Kind, .string (Bs x_358_Name), .string (Bs x_358_Text), Sl.v x_358_Attrs, Sl.v x_358_Kids] rfl)) fun a372 w371 hS373 hB374 hA372 => ?_)
    have hB375 : Box w371 B_361 26 [.int .i64 x_358_Kind, .string (Bs x_358_Name), .string (Bs x_358_Text), Sl.v x_358_Attrs, Sl.v x_358_Kids] := hB374
    have hB376 := hB369.keep hS373 (by simpa using hne367)
    have hC377 := hC370.storeNew hN368 hS373
    have hN378 := hN368.up hS373.size
    refine sq_end ?_
    have hA379 := hA372.keep [(1, .string (Bs name_2)), (5, .pointer (some (⟨B_14, 0, none⟩ : Addr))), (6, .int .i64 i_32), (7, .pointer (some (⟨B_361, 0, none⟩ : Addr)))] ⟨rfl, rfl, rfl, rfl, trivial⟩
    refine then_normal ?_
    refine wp_seq ?_
    refine wp_region_lit ?_
    refine sq (opk_val hA379 rfl (r_assign rfl) fun a380 hA380 _ => ?_)
    refine sq_end ?_
    have hA381 := hA380.keep [(1, .string (Bs name_2)), (5, .pointer (some (⟨B_14, 0, none⟩ : Addr))), (6, .int .i64 i_32), (7, .pointer (some (⟨B_361, 0, none⟩ : Addr))), (8, .bool false)] ⟨rfl, rfl, rfl, rfl, rfl, trivial⟩
    refine then_normal ?_
    refine wp_seq ?_
    refine wp_seq ?_
    refine wp_region_lit ?_
    refine sq (opk_val hA381 rfl (r_assign rfl) fun a382 hA382 _ => ?_)
    refine sq_end ?_
    have hA383 := hA382.keep [(1, .string (Bs name_2)), (5, .pointer (some (⟨B_14, 0, none⟩ : Addr))), (6, .int .i64 i_32), (7, .pointer (some (⟨B_361, 0, none⟩ : Addr))), (8, .bool false), (9, .int .i64 0)] ⟨rfl, rfl, rfl, rfl, rfl, rfl, trivial⟩
    refine then_normal ?_
    refine wp_block ?_
    have ht493 := ht360 w371 B_361 hN378  hC377
    obtain ⟨J_387, mu_388, h0498, ht497⟩ := ht493
    refine wp_loop_st (σ := Bool × Int × World) (fun s a w => Ag 91 a [(1, .string (Bs name_2)), (5, .pointer (some (⟨B_14, 0, none⟩ : Addr))), (6, .int .i64 i_32), (7, .pointer (some (⟨B_361, 0, none⟩ : Addr))), (8, .bool s.1), (9, .int .i64 s.2.1)] ∧ Box w B_14 26 [.int .i64 r_6_Kind, .string (Bs r_6_Name), .string (Bs r_6_Text), Sl.v r_6_Attrs, Sl.v r_6_Kids] ∧ Box w B_361 26 [.int .i64 x_358_Kind, .string (Bs x_358_Name), .string (Bs x_358_Text), Sl.v x_358_Attrs, Sl.v x_358_Kids] ∧ w = s.2.2 ∧ J_387 s.1 s.2.1 s.2.2) (fun s => mu_388 s.1 s.2.1 s.2.2) (false, 0, w371) ⟨hA383.keep [(1, .string (Bs name_2)), (5, .pointer (some (⟨B_14, 0, none⟩ : Addr))), (6, .int .i64 i_32), (7, .pointer (some (⟨B_361, 0, none⟩ : Addr))), (8, .bool false), (9, .int .i64 0)] ⟨rfl, rfl, rfl, rfl, rfl, rfl, trivial⟩, hB376, hB375, rfl, h0498⟩ ?_
    rintro ⟨in_384, j_385, w386⟩ a494 w_ ⟨hA494, hB495, hB496, hw_, hJ500⟩
    have hw_ : w386 = w_ := hw_.symm
    subst hw_
    have ht499 := ht497 in_384 j_385 _ hJ500
    refine wp_seq ?_
    refine wp_seq ?_
    refine wp_region_lit ?_
    refine sq (opk_val hA494 rfl (r_move (hA494.get rfl)) fun a501 hA501 _ => ?_)
    refine sq (opk_val hA501 rfl (r_fieldAddr (hA501.get rfl) Try.underlying26 rfl ti_23 (by decide)) fun a502 hA502 _ => ?_)
    refine sq (opk_val hA502 rfl (r_load1 Try.underlying23 rfl (hA502.get rfl) (hB496.cell 3 _ rfl)) fun a503 hA503 _ => ?_)
    refine sq (opk_val hA503 rfl (r_len (hA503.get rfl) Try.underlying23) fun a504 hA504 _ => ?_)
    refine sq (opk_val hA504 rfl (r_lss (hA504.get rfl) (hA504.get rfl)) fun a505 hA505 _ => ?_)
    refine sq_end ?_
    have hA506 := hA505.keep [(1, .string (Bs name_2)), (5, .pointer (some (⟨B_14, 0, none⟩ : Addr))), (6, .int .i64 i_32), (7, .pointer (some (⟨B_361, 0, none⟩ : Addr))), (8, .bool in_384), (9, .int .i64 j_385), (34, .bool (decide (j_385 < (x_358_Attrs.n : Int))))] ⟨rfl, rfl, rfl, rfl, rfl, rfl, rfl, trivial⟩
    refine then_normal ?_
    refine wp_cond_split (hA506.get rfl) (fun hc => ?_) (fun hc => ?_)
    · have ht507 := ht499.1 (of_decide_eq_true hc)
      clear hc
      refine wp_skip ?_
      refine then_normal ?_
      refine wp_seq ?_
      refine wp_block ?_
      refine wp_seq ?_
      refine draw' (by kernel_rfl) fun w509 hE510 => ?_
      have hB511 := hB495.ext hE510
      have hB512 := hB496.ext hE510
      have hC513 : Chg [] w386 w509 := hE510
      have ht514 := ht507 w509    hC513
      obtain ⟨p_518, hp519, ht520⟩ := ht514
      obtain ⟨x_523, hx524, ht525⟩ := ht520
      obtain ⟨r_0_528, r_1_529, hc530, ht531⟩ := ht525
      refine par (D := [[], [], [1], [], [1, 2, 3], [1, 2, 3, 4], [1, 2, 3, 4, 5], [0, 1, 2, 3, 4, 5, 6], [0, 1, 2, 3, 4, 5, 6, 7], [0, 1, 2, 3, 4, 5, 6, 7, 8], [0, 1, 2, 3, 4, 5, 6, 7, 8], [0, 1, 2, 3, 4, 5, 6, 7, 8, 9], [0, 1, 2, 3, 4, 5, 6, 7, 8, 9, 10, 11]]) (S := [0, 1, 2, 3, 4, 5, 6, 7, 8, 9, 10, 11, 12]) (F := []) (V := VL [(0, fun v _ => v = .agg #[.int .i64 x_358_Kind, .string (Bs x_358_Name), .string (Bs x_358_Text), Sl.v x_358_Attrs, Sl.v x_358_Kids]), (1, fun v _ => v = .pointer (some (⟨B_361, 3, none⟩ : Addr))), (2, fun v _ => v = Sl.v x_358_Attrs), (3, fun v _ => v = .int .i64 j_385), (4, fun v _ => v = .pointer (some (p_518.add (j_385.toNat * 2)))), (5, fun v _ => v = .pointer (some ((p_518.add (j_385.toNat * 2)).add 0))), (6, fun v _ => v = .string (Bs x_523)), (7, fun v _ => v = .tuple #[.string (Bs r_0_528), .bool r_1_529]), (8, fun v _ => v = .tuple #[.string (Bs r_0_528), .bool r_1_529]), (9, fun v _ => v = .string (Bs r_0_528)), (10, fun v _ => v = .bool r_1_529), (11, fun v _ => v = .string (Bs r_0_528)), (12, fun v _ => v = .bool r_1_529)]) hA506 (by kernel_rfl) ⟨fun _ _ _ _ h => by first | exact h | (change _ = _ at h; change _ = _; exact h), fun _ _ _ _ h => by first | exact h | (change _ = _ at h; change _ = _; exact h), fun _ _ _ _ h => by first | exact h | (change _ = _ at h; change _ = _; exact h), fun _ _ _ _ h => by first | exact h | (change _ = _ at h; change _ = _; exact h), fun _ _ _ _ h => by first | exact h | (change _ = _ at h; change _ = _; exact h), fun _ _ _ _ h => by first | exact h | (change _ = _ at h; change _ = _; exact h), fun _ _ _ _ h => by first | exact h | (change _ = _ at h; change _ = _; exact h), fun _ _ _ _ h => by first | exact h | (change _ = _ at h; change _ = _; exact h), fun _ _ _ _ h => by first | exact h | (change _ = _ at h; change _ = _; exact h), fun _ _ _ _ h => by first | exact h | (change _ = _ at h; change _ = _; exact h), fun _ _ _ _ h => by first | exact h | (change _ = _ at h; change _ = _; exact h), fun _ _ _ _ h => by first | exact h | (change _ = _ at h; change _ = _; exact h), fun _ _ _ _ h => by first | exact h | (change _ = _ at h; change _ = _; exact h), trivial⟩ ⟨?_, ?_, ?_, ?_, ?_, ?_, ?_, ?_, ?_, ?_, ?_, ?_, ?_, trivial⟩ ?_
      · intro a w hT
        have hAp := hT.ag hA506 [(7, .pointer (some (⟨B_361, 0, none⟩ : Addr)))] ⟨rfl, trivial⟩ (by kernel_rfl)
        exact opk_val hAp rfl (r_loadN (cs := [.int .i64 x_358_Kind, .string (Bs x_358_Name), .string (Bs x_358_Text), Sl.v x_358_Attrs, Sl.v x_358_Kids]) Try.underlying26 rfl ti_26 (hAp.get rfl) ((hB512.ext hT.chg).part 0 _ rfl)) fun _ _ e => ⟨_, e, Chg.refl _ _, fun _ => Eq.refl _⟩
      · intro a w hT
        have hAp := hT.ag hA506 [(7, .pointer (some (⟨B_361, 0, none⟩ : Addr)))] ⟨rfl, trivial⟩ (by kernel_rfl)
        exact opk_val hAp rfl (r_fieldAddr (hAp.get rfl) Try.underlying26 rfl ti_23 (by decide)) fun _ _ e => ⟨_, e, Chg.refl _ _, fun _ => Eq.refl _⟩
      · intro a w hT
        have hAp := hT.ag hA506 [] trivial (by kernel_rfl)
        have e515 : a.tmps.getD 39 undef = .pointer (some (⟨B_361, 3, none⟩ : Addr)) := hT.vals 1 rfl 39 rfl
        have hAp := hAp.add e515
        exact opk_val hAp rfl (r_load1 Try.underlying23 rfl (hAp.get rfl) ((hB512.ext hT.chg).cell 3 _ rfl)) fun _ _ e => ⟨_, e, Chg.refl _ _, fun _ => Eq.refl _⟩
      · intro a w hT
        have hAp := hT.ag hA506 [(9, .int .i64 j_385)] ⟨rfl, trivial⟩ (by kernel_rfl)
        exact opk_val hAp rfl (r_move (hAp.get rfl)) fun _ _ e => ⟨_, e, Chg.refl _ _, fun _ => Eq.refl _⟩
      · intro a w hT
        have hAp := hT.ag hA506 [] trivial (by kernel_rfl)
        have e516 : a.tmps.getD 40 undef = Sl.v x_358_Attrs := hT.vals 2 rfl 40 rfl
        have hAp := hAp.add e516
        have e517 : a.tmps.getD 41 undef = .int .i64 j_385 := hT.vals 3 rfl 41 rfl
        have hAp := hAp.add e517
        exact opk_val hAp rfl (r_indexAddr (hAp.get rfl) (hAp.get rfl) Try.underlying23 ti_33 hp519.1 hp519.2) fun _ _ e => ⟨_, e, Chg.refl _ _, fun _ => Eq.refl _⟩
      · intro a w hT
        have hAp := hT.ag hA506 [] trivial (by kernel_rfl)
        have e521 : a.tmps.getD 42 undef = .pointer (some (p_518.add (j_385.toNat * 2))) := hT.vals 4 rfl 42 rfl
        have hAp := hAp.add e521
        exact opk_val hAp rfl (r_fieldAddr (hAp.get rfl) Try.underlying33 rfl ti_9 (by decide)) fun _ _ e => ⟨_, e, Chg.refl _ _, fun _ => Eq.refl _⟩
      · intro a w hT
        have hAp := hT.ag hA506 [] trivial (by kernel_rfl)
        have e522 : a.tmps.getD 43 undef = .pointer (some ((p_518.add (j_385.toNat * 2)).add 0)) := hT.vals 5 rfl 43 rfl
        have hAp := hAp.add e522
        exact opk_val hAp rfl (r_load1 Try.underlying9 rfl (hAp.get rfl) (Ext.cell hT.chg hx524)) fun _ _ e => ⟨_, e, Chg.refl _ _, fun _ => Eq.refl _⟩
      · intro a w hT
        have hAp := hT.ag hA506 [] trivial (by kernel_rfl)
        have e526 : a.tmps.getD 38 undef = .agg #[.int .i64 x_358_Kind, .string (Bs x_358_Name), .string (Bs x_358_Text), Sl.v x_358_Attrs, Sl.v x_358_Kids] := hT.vals 0 rfl 38 rfl
        have hAp := hAp.add e526
        have e527 : a.tmps.getD 44 undef = .string (Bs x_523) := hT.vals 6 rfl 44 rfl
        have hAp := hAp.add e527
        exact opk_callX hAp rfl (r_call (args := #[.agg #[.int .i64 x_358_Kind, .string (Bs x_358_Name), .string (Bs x_358_Text), Sl.v x_358_Attrs, Sl.v x_358_Kids], .string (Bs x_523)]) Try.func23 (by decide) rfl (map_arr (ml_cons (hAp.get rfl) (ml_cons (hAp.get rfl) ml_nil))) rfl) (hc530 w hT.chg) fun _ _ _ _ e hR => ⟨_, e, hR.1, fun _ => hR.2⟩
      · intro a w hT
        have hAp := hT.ag hA506 [] trivial (by kernel_rfl)
        have e532 : a.tmps.getD 45 undef = .tuple #[.string (Bs r_0_528), .bool r_1_529] := hT.vals 7 rfl 45 rfl
        have hAp := hAp.add e532
        exact opk_val hAp rfl (r_move (hAp.get rfl)) fun _ _ e => ⟨_, e, Chg.refl _ _, fun _ => Eq.refl _⟩
      · intro a w hT
        have hAp := hT.ag hA506 [] trivial (by kernel_rfl)
        have e533 : a.tmps.getD 37 undef = .tuple #[.string (Bs r_0_528), .bool r_1_529] := hT.vals 8 rfl 37 rfl
        have hAp := hAp.add e533
        exact opk_val hAp rfl (r_extract (hAp.get rfl) rfl) fun _ _ e => ⟨_, e, Chg.refl _ _, fun _ => Eq.refl _⟩
      · intro a w hT
        have hAp := hT.ag hA506 [] trivial (by kernel_rfl)
        have e534 : a.tmps.getD 37 undef = .tuple #[.string (Bs r_0_528), .bool r_1_529] := hT.vals 8 rfl 37 rfl
        have hAp := hAp.add e534
        exact opk_val hAp rfl (r_extract (hAp.get rfl) rfl) fun _ _ e => ⟨_, e, Chg.refl _ _, fun _ => Eq.refl _⟩
      · intro a w hT
        have hAp := hT.ag hA506 [] trivial (by kernel_rfl)
        have e535 : a.tmps.getD 46 undef = .string (Bs r_0_528) := hT.vals 9 rfl 46 rfl
        have hAp := hAp.add e535
        exact opk_val hAp rfl (r_assign (hAp.get rfl)) fun _ _ e => ⟨_, e, Chg.refl _ _, fun _ => Eq.refl _⟩
      · intro a w hT
        have hAp := hT.ag hA506 [] trivial (by kernel_rfl)
        have e536 : a.tmps.getD 47 undef = .bool r_1_529 := hT.vals 10 rfl 47 rfl
        have hAp := hAp.add e536
        exact opk_val hAp rfl (r_assign (hAp.get rfl)) fun _ _ e => ⟨_, e, Chg.refl _ _, fun _ => Eq.refl _⟩
      · intro a537 w538 hE539 hag540 hv541
        have hA537 := hag540 [(1, .string (Bs name_2)), (5, .pointer (some (⟨B_14, 0, none⟩ : Addr))), (6, .int .i64 i_32), (7, .pointer (some (⟨B_361, 0, none⟩ : Addr))), (8, .bool in_384), (9, .int .i64 j_385)] ⟨rfl, rfl, rfl, rfl, rfl, rfl, trivial⟩ (by kernel_rfl)
        have e543 : a537.tmps.getD 10 undef = .string (Bs r_0_528) := hv541 11 rfl 10 rfl
        have hA544 := hA537.add e543
        have e545 : a537.tmps.getD 11 undef = .bool r_1_529 := hv541 12 rfl 11 rfl
        have hA546 := hA544.add e545
        have hB547 := hB511.ext hE539
        have hB548 := hB512.ext hE539
        have hC549 : Chg [] w509 w538 := hE539
        refine PR_end (by kernel_rfl) ?_
        have hA550 := hA546.keep [(1, .string (Bs name_2)), (5, .pointer (some (⟨B_14, 0, none⟩ : Addr))), (6, .int .i64 i_32), (7, .pointer (some (⟨B_361, 0, none⟩ : Addr))), (8, .bool in_384), (9, .int .i64 j_385), (10, .string (Bs r_0_528)), (11, .bool r_1_529)] ⟨rfl, rfl, rfl, rfl, rfl, rfl, rfl, rfl, trivial⟩
        refine then_normal ?_
        refine wp_seq ?_
        refine wp_seq ?_
        refine wp_region_lit ?_
        refine sq (opk_val hA550 rfl (r_move (hA550.get rfl)) fun a551 hA551 _ => ?_)
        refine sq (opk_val hA551 rfl (r_not (hA551.get rfl)) fun a552 hA552 _ => ?_)
        refine sq (opk_val hA552 rfl (r_move (hA552.get rfl)) fun a553 hA553 _ => ?_)
        refine sq (opk_gval hA553 rfl rfl (g := true) (e := (!r_1_529)) rfl (fun hg => r_move (hA553.get rfl)) fun a554 hA554 _ => ?_)
        refine sq (opk_gval hA554 rfl rfl (g := true) (e := (!r_1_529)) rfl (fun hg => r_fieldAddr (hA554.get rfl) Try.underlying26 rfl ti_23 (by decide)) fun a555 hA555 _ => ?_)
        refine sq (opk_gval hA555 rfl rfl (g := true) (e := (!r_1_529)) rfl (fun hg => r_load1 Try.underlying23 rfl (cv_get (hA555.get rfl) hg) (hB548.cell 3 _ rfl)) fun a556 hA556 _ => ?_)
        refine sq (opk_gval hA556 rfl rfl (g := true) (e := (!r_1_529)) rfl (fun hg => r_move (hA556.get rfl)) fun a557 hA557 _ => ?_)
        obtain ⟨p_558, hp560, ht561⟩ := ht531
        refine sq (opk_gval hA557 rfl rfl (g := true) (e := (!r_1_529)) rfl (fun hg => r_indexAddr (cv_get (hA557.get rfl) hg) (cv_get (hA557.get rfl) hg) Try.underlying23 ti_33 (hp560 (b_not_f (g_f hg))).1 (hp560 (b_not_f (g_f hg))).2) fun a562 hA562 _ => ?_)
        refine sq (opk_gval hA562 rfl rfl (g := true) (e := (!r_1_529)) rfl (fun hg => r_fieldAddr (cv_get (hA562.get rfl) hg) Try.underlying33 rfl ti_9 (by decide)) fun a563 hA563 _ => ?_)
        have ht565 := ht561 w538    hC549
        obtain ⟨x_566, hx567, ht568⟩ := ht565
        refine sq (opk_gval hA563 rfl rfl (g := true) (e := (!r_1_529)) rfl (fun hg => r_load1 Try.underlying9 rfl (cv_get (hA563.get rfl) hg) (hx567 (b_not_f (g_f hg)))) fun a564 hA564 _ => ?_)
        refine sq (opk_gval hA564 rfl rfl (g := true) (e := (!r_1_529)) rfl (fun hg => r_sneq (cv_get (hA564.get rfl) hg) (cv_get (hA564.get rfl) hg)) fun a569 hA569 _ => ?_)
        refine sq (opk_val hA569 rfl (r_pick_or (g := (true && ((!r_1_529) == false))) (hA569.get rfl) (hA569.get rfl) (fun he => g_mkf rfl he)) fun a570 hA570 _ => ?_)
        refine sq_end ?_
        have hA571 := hA570.keep [(1, .string (Bs name_2)), (5, .pointer (some (⟨B_14, 0, none⟩ : Addr))), (6, .int .i64 i_32), (7, .pointer (some (⟨B_361, 0, none⟩ : Addr))), (8, .bool in_384), (9, .int .i64 j_385), (59, .bool ((!r_1_529) || (decide (r_0_528 ≠ x_566))))] ⟨rfl, rfl, rfl, rfl, rfl, rfl, rfl, trivial⟩
        refine then_normal ?_
        refine wp_cond_split (hA571.get rfl) (fun hc => ?_) (fun hc => ?_)
        · have ht572 := ht568.1 ((b_or_t hc).imp (fun h => (b_not_t h)) (fun h => (of_decide_eq_true h)))
          clear hc
          refine wp_seq ?_
          refine wp_region_lit ?_
          refine sq (opk_val hA571 rfl (r_assign rfl) fun a574 hA574 _ => ?_)
          refine sq_end ?_
          have hA575 := hA574.keep [(4, .bool false)] ⟨rfl, trivial⟩
          refine then_normal ?_
          refine wp_ret ?_
          refine then_ret ?_
          refine block_ret ?_
          refine then_ret ?_
          refine then_ret ?_
          refine block_ret ?_
          refine then_ret ?_
          refine block_ret ?_
          refine then_ret ?_
          refine then_ret ?_
          refine block_ret ?_
          refine then_ret ?_
          exact res_all (vs := [.bool false]) rfl hA575 ⟨res_of_tmp hA575 rfl, trivial⟩ ht572
        · have ht573 := ht568.2 ⟨(b_not_f (b_or_f hc).1), (of_decide_eq_false (b_or_f hc).2)⟩
          clear hc
          refine wp_skip ?_
          refine then_normal ?_
          refine wp_region_lit ?_
          refine sq (opk_val hA571 rfl (r_move (hA571.get rfl)) fun a576 hA576 _ => ?_)
          refine sq (opk_val hA576 rfl (r_move (hA576.get rfl)) fun a577 hA577 _ => ?_)
          refine sq (opk_gval hA577 rfl rfl (g := true) (e := in_384) rfl (fun hg => r_fieldAddr (hA577.get rfl) Try.underlying26 rfl ti_23 (by decide)) fun a578 hA578 _ => ?_)
          refine sq (opk_gval hA578 rfl rfl (g := true) (e := in_384) rfl (fun hg => r_load1 Try.underlying23 rfl (cv_get (hA578.get rfl) hg) (hB548.cell 3 _ rfl)) fun a579 hA579 _ => ?_)
          refine sq (opk_gval hA579 rfl rfl (g := true) (e := in_384) rfl (fun hg => r_move (hA579.get rfl)) fun a580 hA580 _ => ?_)
          obtain ⟨p_581, hp583, ht584⟩ := ht573
          refine sq (opk_gval hA580 rfl rfl (g := true) (e := in_384) rfl (fun hg => r_indexAddr (cv_get (hA580.get rfl) hg) (cv_get (hA580.get rfl) hg) Try.underlying23 ti_33 (hp583 (g_f hg)).1 (hp583 (g_f hg)).2) fun a585 hA585 _ => ?_)
          refine sq (opk_gval hA585 rfl rfl (g := true) (e := in_384) rfl (fun hg => r_fieldAddr (cv_get (hA585.get rfl) hg) Try.underlying33 rfl ti_9 (by decide)) fun a586 hA586 _ => ?_)
          obtain ⟨x_588, hx589, ht590⟩ := ht584
          refine sq (opk_gval hA586 rfl rfl (g := true) (e := in_384) rfl (fun hg => r_load1 Try.underlying9 rfl (cv_get (hA586.get rfl) hg) (hx589 (g_f hg))) fun a587 hA587 _ => ?_)
          refine sq (opk_gval hA587 rfl rfl (g := true) (e := in_384) rfl (fun hg => r_move (hA587.get rfl)) fun a591 hA591 _ => ?_)
          refine sq (opk_gval hA591 rfl rfl (g := true) (e := in_384) rfl (fun hg => r_seql (cv_get (hA591.get rfl) hg) (cv_get (hA591.get rfl) hg)) fun a592 hA592 _ => ?_)
          refine sq (opk_val hA592 rfl (r_pick_or (g := (true && (in_384 == false))) (hA592.get rfl) (hA592.get rfl) (fun he => g_mkf rfl he)) fun a593 hA593 _ => ?_)
          refine sq (opk_val hA593 rfl (r_assign (hA593.get rfl)) fun a594 hA594 _ => ?_)
          refine sq_end ?_
          have hA595 := hA594.keep [(1, .string (Bs name_2)), (5, .pointer (some (⟨B_14, 0, none⟩ : Addr))), (6, .int .i64 i_32), (7, .pointer (some (⟨B_361, 0, none⟩ : Addr))), (8, .bool (in_384 || (decide (x_588 = name_2)))), (9, .int .i64 j_385)] ⟨rfl, rfl, rfl, rfl, rfl, rfl, trivial⟩
          refine block_normal ?_
          refine then_normal ?_
          refine wp_region_lit ?_
          refine sq (opk_val hA595 rfl (r_move (hA595.get rfl)) fun a596 hA596 _ => ?_)
          obtain ⟨hS598, ht599⟩ := ht590
          refine sq (opk_val hA596 rfl (r_addI (hA596.get rfl) rfl hS598) fun a597 hA597 _ => ?_)
          refine sq (opk_val hA597 rfl (r_assign (hA597.get rfl)) fun a600 hA600 _ => ?_)
          refine sq_end ?_
          have hA601 := hA600.keep [(1, .string (Bs name_2)), (5, .pointer (some (⟨B_14, 0, none⟩ : Addr))), (6, .int .i64 i_32), (7, .pointer (some (⟨B_361, 0, none⟩ : Addr))), (8, .bool (in_384 || (decide (x_588 = name_2)))), (9, .int .i64 (j_385 + 1))] ⟨rfl, rfl, rfl, rfl, rfl, rfl, trivial⟩
          have hA602 := hA601.keep [(1, .string (Bs name_2)), (5, .pointer (some (⟨B_14, 0, none⟩ : Addr))), (6, .int .i64 i_32), (7, .pointer (some (⟨B_361, 0, none⟩ : Addr))), (8, .bool (in_384 || (decide (x_588 = name_2)))), (9, .int .i64 (j_385 + 1))] ⟨rfl, rfl, rfl, rfl, rfl, rfl, trivial⟩
          exact then_normal ⟨((in_384 || (decide (x_588 = name_2))), j_385 + 1, w538), ⟨hA602, hB547, hB548, rfl, ht599.1⟩, ht599.2⟩
    · have ht508 := ht499.2 (of_decide_eq_false hc)
      clear hc
      refine wp_exit ?_
      refine then_exit ?_
      refine then_exit ?_
      refine block_hit ?_
      have hA603 := hA506.keep [(1, .string (Bs name_2)), (5, .pointer (some (⟨B_14, 0, none⟩ : Addr))), (6, .int .i64 i_32), (7, .pointer (some (⟨B_361, 0, none⟩ : Addr))), (8, .bool in_384)] ⟨rfl, rfl, rfl, rfl, rfl, trivial⟩
      refine then_normal ?_
      refine wp_seq ?_
      refine wp_region_lit ?_
      refine sq (opk_val hA603 rfl (r_loadN (cs := [.int .i64 x_358_Kind, .string (Bs x_358_Name), .string (Bs x_358_Text), Sl.v x_358_Attrs, Sl.v x_358_Kids]) Try.underlying26 rfl ti_26 (hA603.get rfl) (hB496.part 0 _ rfl)) fun a604 hA604 _ => ?_)
      refine sq (opk_val hA604 rfl (r_move (hA604.get rfl)) fun a605 hA605 _ => ?_)
      refine sq (opk_call hA605 rfl (r_call (args := #[.agg #[.int .i64 x_358_Kind, .string (Bs x_358_Name), .string (Bs x_358_Text), Sl.v x_358_Attrs, Sl.v x_358_Kids], .string (Bs name_2)]) Try.func23 (by decide) rfl (map_arr (ml_cons (hA605.get rfl) (ml_cons (hA605.get rfl) ml_nil))) rfl) ht508 fun a608 v614 w609 hA608 _ hn611 hz612 hK613 => ?_)
      obtain ⟨r_0_606, r_1_607, rfl, ht610⟩ := hK613
      have hB615 := hB495.kept hn611 (.head _)
      have hB616 := hB496.kept hn611 (.tail _ (.head _))
      refine sq (opk_val hA608 rfl (r_move (hA608.get rfl)) fun a617 hA617 _ => ?_)
      refine sq (opk_val hA617 rfl (r_extract (hA617.get rfl) rfl) fun a618 hA618 _ => ?_)
      refine sq (opk_val hA618 rfl (r_extract (hA618.get rfl) rfl) fun a619 hA619 _ => ?_)
      refine sq (opk_val hA619 rfl (r_assign (hA619.get rfl)) fun a620 hA620 _ => ?_)
      refine sq (opk_val hA620 rfl (r_assign (hA620.get rfl)) fun a621 hA621 _ => ?_)
      refine sq_end ?_
      have hA622 := hA621.keep [(1, .string (Bs name_2)), (5, .pointer (some (⟨B_14, 0, none⟩ : Addr))), (6, .int .i64 i_32), (8, .bool in_384), (13, .bool r_1_607)] ⟨rfl, rfl, rfl, rfl, rfl, trivial⟩
      refine then_normal ?_
      refine wp_seq ?_
      refine wp_region_lit ?_
      refine sq (opk_val hA622 rfl (r_move (hA622.get rfl)) fun a623 hA623 _ => ?_)
      refine sq (opk_val hA623 rfl (r_move (hA623.get rfl)) fun a624 hA624 _ => ?_)
      refine sq (opk_val hA624 rfl (r_bneq (hA624.get rfl) (hA624.get rfl) Try.underlying4) fun a625 hA625 _ => ?_)
      refine sq_end ?_
      have hA626 := hA625.keep [(1, .string (Bs name_2)), (5, .pointer (some (⟨B_14, 0, none⟩ : Addr))), (6, .int .i64 i_32), (79, .bool (!(r_1_607 == in_384)))] ⟨rfl, rfl, rfl, rfl, trivial⟩
      refine then_normal ?_
      refine wp_cond_split (hA626.get rfl) (fun hc => ?_) (fun hc => ?_)
      · have ht627 := ht610.1 (b_not_t hc)
        clear hc
        refine wp_seq ?_
        refine wp_region_lit ?_
        refine sq (opk_val hA626 rfl (r_assign rfl) fun a629 hA629 _ => ?_)
        refine sq_end ?_
        have hA630 := hA629.keep [(4, .bool false)] ⟨rfl, trivial⟩
        refine then_normal ?_
        refine wp_ret ?_
        refine block_ret ?_
        refine then_ret ?_
        refine then_ret ?_
        refine block_ret ?_
        refine then_ret ?_
        exact res_all (vs := [.bool false]) rfl hA630 ⟨res_of_tmp hA630 rfl, trivial⟩ ht627
      · have ht628 := ht610.2 (b_not_f hc)
        clear hc
        refine wp_skip ?_
        refine block_normal ?_
        refine then_normal ?_
        refine wp_region_lit ?_
        refine sq (opk_val hA626 rfl (r_move (hA626.get rfl)) fun a631 hA631 _ => ?_)
        obtain ⟨hS633, ht634⟩ := ht628
        refine sq (opk_val hA631 rfl (r_addI (hA631.get rfl) rfl hS633) fun a632 hA632 _ => ?_)
        refine sq (opk_val hA632 rfl (r_assign (hA632.get rfl)) fun a635 hA635 _ => ?_)
        refine sq_end ?_
        have hA636 := hA635.keep [(1, .string (Bs name_2)), (5, .pointer (some (⟨B_14, 0, none⟩ : Addr))), (6, .int .i64 (i_32 + 1))] ⟨rfl, rfl, rfl, trivial⟩
        have hA637 := hA636.keep [(1, .string (Bs name_2)), (5, .pointer (some (⟨B_14, 0, none⟩ : Addr))), (6, .int .i64 (i_32 + 1))] ⟨rfl, rfl, rfl, trivial⟩
        exact then_normal ⟨(i_32 + 1, w609), ⟨hA637, hB615, rfl, ht634.1⟩, ht634.2⟩
  · have ht348 := ht339.2 (of_decide_eq_false hc)
    clear hc
    refine wp_exit ?_
    refine then_exit ?_
    refine then_exit ?_
    refine block_hit ?_
    have hA638 := hA346.keep [(1, .string (Bs name_2))] ⟨rfl, trivial⟩
    refine then_normal ?_
    refine wp_seq ?_
    refine wp_region_lit ?_
    refine sq (opk_val hA638 rfl (r_build (vs := #[]) (cells := #[.int .i64 0, .string (Bs ([] : Str)), .string (Bs ([] : Str)), Sl.v Sl.nil, Sl.v Sl.nil]) (map_arr2 ml2_nil) ti_26 Try.underlying26 pl_26 (by kernel_rfl)) fun a639 hA639 _ => ?_)
    refine sq (opk_val hA639 rfl (r_move (hA639.get rfl)) fun a640 hA640 _ => ?_)
    refine sq (opk_call hA640 rfl (r_call (args := #[.agg #[.int .i64 0, .string (Bs ([] : Str)), .string (Bs ([] : Str)), Sl.v Sl.nil, Sl.v Sl.nil], .string (Bs name_2)]) Try.func23 (by decide) rfl (map_arr (ml_cons (hA640.get rfl) (ml_cons (hA640.get rfl) ml_nil))) rfl) ht348 fun a643 v649 w644 hA643 _ hn646 hz647 hK648 => ?_)
    obtain ⟨r_0_641, r_1_642, rfl, ht645⟩ := hK648
    refine sq (opk_val hA643 rfl (r_move (hA643.get rfl)) fun a650 hA650 _ => ?_)
    refine sq (opk_val hA650 rfl (r_extract (hA650.get rfl) rfl) fun a651 hA651 _ => ?_)
    refine sq (opk_val hA651 rfl (r_extract (hA651.get rfl) rfl) fun a652 hA652 _ => ?_)
    refine sq (opk_val hA652 rfl (r_assign (hA652.get rfl)) fun a653 hA653 _ => ?_)
    refine sq (opk_val hA653 rfl (r_assign (hA653.get rfl)) fun a654 hA654 _ => ?_)
    refine sq_end ?_
    have hA655 := hA654.keep [(15, .bool r_1_642)] ⟨rfl, trivial⟩
    refine then_normal ?_
    refine wp_seq ?_
    refine wp_region_lit ?_
    refine sq (opk_val hA655 rfl (r_move (hA655.get rfl)) fun a656 hA656 _ => ?_)
    refine sq (opk_val hA656 rfl (r_not (hA656.get rfl)) fun a657 hA657 _ => ?_)
    refine sq (opk_val hA657 rfl (r_move (hA657.get rfl)) fun a658 hA658 _ => ?_)
    obtain ⟨r_659, hc663, ht662⟩ := ht645
    refine sq (opk_gcall hA658 rfl rfl (g := true) (e := (!r_1_642)) rfl (fun hg => r_call (args := #[]) Try.func15 (by decide) rfl (map_arr ml_nil) rfl) (fun hg => hc663 (b_not_t (g_t hg))) fun a660 w661 hA660 _ hE664 => ?_)
    have hC665 : Chg [] w644 w661 := hE664
    have ht666 := ht662 w661 hE664
    refine sq (opk_val hA660 rfl (r_pick_and (g := (true && ((!r_1_642) == true))) (hA660.get rfl) (hA660.get rfl) (fun he => g_mkt rfl he)) fun a667 hA667 _ => ?_)
    refine sq (opk_val hA667 rfl (r_assign (hA667.get rfl)) fun a668 hA668 _ => ?_)
    refine sq_end ?_
    have hA669 := hA668.keep [(4, .bool ((!r_1_642) && r_659))] ⟨rfl, trivial⟩
    refine then_normal ?_
    refine wp_ret ?_
    exact res_all (vs := [.bool ((!r_1_642) && r_659)]) rfl hA669 ⟨res_of_tmp hA669 rfl, trivial⟩ ht666

end Go.Proofs.Ytpacegmmbabhjaa
