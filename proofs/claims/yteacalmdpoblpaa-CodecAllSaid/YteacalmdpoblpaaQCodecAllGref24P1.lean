/-
  PRINTED BY PROGRAM: for each function its condition (vc), and that this suffices (ok).
-/
import Derived.Test.YteacalmdpoblpaaQCodecAllGT
namespace Go.Proofs.Yteacalmdpoblpaa
open Go.RowKit
set_option linter.unusedVariables false

/-- The condition of topiary/topiaryref24.Encode. -/
def ref24_Encode.vc (base_1 : Int) (target_2 : Int) (l_3 : Sl) (R : Value → World → Prop) (w : World) : Prop :=
((1500 < (l_3.n : Int)) →
R (.tuple #[Sl.v Sl.nil, .int .i64 2]) w) ∧
((¬ (1500 < (l_3.n : Int))) →
∃ (J_23 : Sl → Int → World → Prop) (mu_24 : Sl → Int → World → Nat),
J_23 Sl.nil 0 w ∧
(∀ (strings_20 : Sl) (i_21 : Int) (w22 : World), J_23 strings_20 i_21 w22 →
((i_21 < (l_3.n : Int)) →
((0 : Int) ≤ i_21 ∧ i_21 < (l_3.n : Int)) ∧ ∃ p_296 : Addr, l_3.a = some p_296 ∧
∃ (x_302_Kind : Int) (x_302_ID : Int) (x_302_Parent : Int) (x_302_At : Int) (x_302_What : Int) (x_302_Name : Str) (x_302_Text : Str), (Cells w22 (p_296.add (i_21.toNat * 7)) [.int .i64 x_302_Kind, .int .i64 x_302_ID, .int .i64 x_302_Parent, .int .i64 x_302_At, .int .i64 x_302_What, .string (Bs x_302_Name), .string (Bs x_302_Text)]) ∧
CallK Try.prog 27 #[.agg #[.int .i64 x_302_Kind, .int .i64 x_302_ID, .int .i64 x_302_Parent, .int .i64 x_302_At, .int .i64 x_302_What, .string (Bs x_302_Name), .string (Bs x_302_Text)]] w22 [] (fun v w307 => ∃ (r_305 : Bool), v = .bool r_305 ∧
∃ p_317 : Addr, (((r_305 = true)) → ((0 : Int) ≤ i_21 ∧ i_21 < (l_3.n : Int)) ∧  l_3.a = some p_317) ∧
∃ (x_324 : Int), (((r_305 = true)) → w307.cell? ((p_317.add (i_21.toNat * 7)).add 2) = some (.int .i64 x_324)) ∧
∃ p_332 : Addr, ((((r_305 = true) ∧ (¬ (x_324 < 0)))) → ((0 : Int) ≤ i_21 ∧ i_21 < (l_3.n : Int)) ∧  l_3.a = some p_332) ∧
∃ (x_339 : Int), ((((r_305 = true) ∧ (¬ (x_324 < 0)))) → w307.cell? ((p_332.add (i_21.toNat * 7)).add 3) = some (.int .i64 x_339)) ∧
((((r_305 = false) ∨ (x_324 < 0)) ∨ (x_339 < 0)) →
R (.tuple #[Sl.v Sl.nil, .int .i64 15]) w307) ∧
((((r_305 = true) ∧ (¬ (x_324 < 0))) ∧ (¬ (x_339 < 0))) →
((0 : Int) ≤ i_21 ∧ i_21 < (l_3.n : Int)) ∧ ∃ p_352 : Addr, l_3.a = some p_352 ∧
∃ (x_358_Kind : Int) (x_358_ID : Int) (x_358_Parent : Int) (x_358_At : Int) (x_358_What : Int) (x_358_Name : Str) (x_358_Text : Str), (Cells w307 (p_352.add (i_21.toNat * 7)) [.int .i64 x_358_Kind, .int .i64 x_358_ID, .int .i64 x_358_Parent, .int .i64 x_358_At, .int .i64 x_358_What, .string (Bs x_358_Name), .string (Bs x_358_Text)]) ∧
CallK Try.prog 28 #[.agg #[.int .i64 x_358_Kind, .int .i64 x_358_ID, .int .i64 x_358_Parent, .int .i64 x_358_At, .int .i64 x_358_What, .string (Bs x_358_Name), .string (Bs x_358_Text)]] w307 [] (fun v w363 => ∃ (r_361 : Sl), v = Sl.v r_361 ∧
∃ (J_376 : Sl → Int → World → Prop) (mu_377 : Sl → Int → World → Nat),
J_376 strings_20 0 w363 ∧
(∀ (strings_373 : Sl) (k_374 : Int) (w375 : World), J_376 strings_373 k_374 w375 →
((k_374 < (r_361.n : Int)) →
((0 : Int) ≤ k_374 ∧ k_374 < (r_361.n : Int)) ∧ ∃ p_469 : Addr, r_361.a = some p_469 ∧
∃ (x_475 : Str), (w375.cell? (p_469.add (k_374.toNat * 1)) = some (.string (Bs x_475))) ∧
CallK Try.prog 29 #[Sl.v strings_373, .string (Bs x_475)] w375 [] (fun v w480 => ∃ (r_478 : Int), v = .int .i64 r_478 ∧
((r_478 < 0) →
((0 : Int) ≤ k_374 ∧ k_374 < (r_361.n : Int)) ∧ ∃ p_493 : Addr, r_361.a = some p_493 ∧
∃ (x_499 : Str), (w480.cell? (p_493.add (k_374.toNat * 1)) = some (.string (Bs x_499))) ∧
∀ (w503 : World) (B_502 : Nat), New w480 B_502 w503 → Chg [] w480 w503 →
∀ (_ : Box w503 B_502 9 [.string (Bs x_499)]),
RunK Try.prog (Builtin.append_ #[46, 46] 46 #[Sl.v strings_373, Sl.v (Sl.mk (some ⟨B_502, 0, none⟩) 1 1)]) w503 [] (fun v w513 => ∃ (r_519 : Sl), v = Sl.v r_519 ∧
(I64 (k_374 + 1)) ∧
J_376 r_519 (k_374 + 1) w513 ∧ mu_377 r_519 (k_374 + 1) w513 < mu_377 strings_373 k_374 w375)) ∧
((¬ (r_478 < 0)) →
(I64 (k_374 + 1)) ∧
J_376 strings_373 (k_374 + 1) w480 ∧ mu_377 strings_373 (k_374 + 1) w480 < mu_377 strings_373 k_374 w375))) ∧
((¬ (k_374 < (r_361.n : Int))) →
(I64 (i_21 + 1)) ∧
J_23 strings_373 (i_21 + 1) w375 ∧ mu_24 strings_373 (i_21 + 1) w375 < mu_24 strings_20 i_21 w22)))))) ∧
((¬ (i_21 < (l_3.n : Int))) →
∀ (w546 : World) (B_545 : Nat), New w22 B_545 w546 → Chg [] w22 w546 →
∀ (_ : Box w546 B_545 5 [.int .u8 116, .int .u8 112, .int .u8 121, .int .u8 49]),
RunK Try.prog (convert 24 24 (Sl.v (Sl.mk (some ⟨B_545, 0, none⟩) 4 4))) w546 [] (fun v w556 => ∃ (r_562 : Sl), v = Sl.v r_562 ∧
CallK Try.prog 30 #[.int .u64 base_1] w556 [] (fun v w566 => ∃ (r_564 : Sl), v = Sl.v r_564 ∧
RunK Try.prog (Builtin.append_ #[24, 24] 24 #[Sl.v r_562, Sl.v r_564]) w566 [] (fun v w573 => ∃ (r_579 : Sl), v = Sl.v r_579 ∧
CallK Try.prog 30 #[.int .u64 target_2] w573 [] (fun v w586 => ∃ (r_584 : Sl), v = Sl.v r_584 ∧
RunK Try.prog (Builtin.append_ #[24, 24] 24 #[Sl.v r_579, Sl.v r_584]) w586 [] (fun v w593 => ∃ (r_599 : Sl), v = Sl.v r_599 ∧
CallK Try.prog 31 #[Sl.v r_599, .int .i64 (strings_20.n : Int)] w593 [] (fun v w604 => ∃ (r_602 : Sl), v = Sl.v r_602 ∧
∃ (J_617 : Sl → Int → World → Prop) (mu_618 : Sl → Int → World → Nat),
J_617 r_602 0 w604 ∧
(∀ (b_614 : Sl) (i_615 : Int) (w616 : World), J_617 b_614 i_615 w616 →
((i_615 < (strings_20.n : Int)) →
∀ (w737 : World), Chg [] w616 w737 →
∃ p_741 : Addr, (((0 : Int) ≤ i_615 ∧ i_615 < (strings_20.n : Int)) ∧ strings_20.a = some p_741) ∧
∃ (x_744 : Str), (w737.cell? (p_741.add (i_615.toNat * 1)) = some (.string (Bs x_744))) ∧
∃ p_747 : Addr, (((0 : Int) ≤ i_615 ∧ i_615 < (strings_20.n : Int)) ∧ strings_20.a = some p_747) ∧
∃ (x_750 : Str), (w737.cell? (p_747.add (i_615.toNat * 1)) = some (.string (Bs x_750))) ∧
∀ (w761 : World), Chg [] w737 w761 →
CallK Try.prog 31 #[Sl.v b_614, .int .i64 (x_744.length : Int)] w761 [] (fun v w784 => ∃ (r_782 : Sl), v = Sl.v r_782 ∧
(w784.cell? (p_741.add (i_615.toNat * 1)) = some (.string (Bs x_744))) ∧
(w784.cell? (p_747.add (i_615.toNat * 1)) = some (.string (Bs x_750))) ∧
∀ (w801 : World), Chg [] w784 w801 →
RunK Try.prog (Builtin.append_ #[24, 9] 24 #[Sl.v r_782, .string (Bs x_750)]) w801 [] (fun v w811 => ∃ (r_817 : Sl), v = Sl.v r_817 ∧
(I64 (i_615 + 1)) ∧
∀ (w819 : World), Chg [] w811 w819 →
J_617 r_817 (i_615 + 1) w819 ∧ mu_618 r_817 (i_615 + 1) w819 < mu_618 b_614 i_615 w616))) ∧
((¬ (i_615 < (strings_20.n : Int))) →
CallK Try.prog 31 #[Sl.v b_614, .int .i64 (l_3.n : Int)] w616 [] (fun v w843 => ∃ (r_841 : Sl), v = Sl.v r_841 ∧
∃ (J_856 : Sl → Int → World → Prop) (mu_857 : Sl → Int → World → Nat),
J_856 r_841 0 w843 ∧
(∀ (b_853 : Sl) (i_854 : Int) (w855 : World), J_856 b_853 i_854 w855 →
((i_854 < (l_3.n : Int)) →
((0 : Int) ≤ i_854 ∧ i_854 < (l_3.n : Int)) ∧ ∃ p_910 : Addr, l_3.a = some p_910 ∧
∃ (x_916_Kind : Int) (x_916_ID : Int) (x_916_Parent : Int) (x_916_At : Int) (x_916_What : Int) (x_916_Name : Str) (x_916_Text : Str), (Cells w855 (p_910.add (i_854.toNat * 7)) [.int .i64 x_916_Kind, .int .i64 x_916_ID, .int .i64 x_916_Parent, .int .i64 x_916_At, .int .i64 x_916_What, .string (Bs x_916_Name), .string (Bs x_916_Text)]) ∧
CallK Try.prog 32 #[Sl.v b_853, .agg #[.int .i64 x_916_Kind, .int .i64 x_916_ID, .int .i64 x_916_Parent, .int .i64 x_916_At, .int .i64 x_916_What, .string (Bs x_916_Name), .string (Bs x_916_Text)], Sl.v strings_20] w855 [] (fun v w922 => ∃ (r_920 : Sl), v = Sl.v r_920 ∧
(I64 (i_854 + 1)) ∧
J_856 r_920 (i_854 + 1) w922 ∧ mu_857 r_920 (i_854 + 1) w922 < mu_857 b_853 i_854 w855)) ∧
((¬ (i_854 < (l_3.n : Int))) →
CallK Try.prog 18 #[.int .u32 0, Sl.v b_853] w855 [] (fun v w942 => ∃ (r_940 : Int), v = .int .u32 r_940 ∧
CallK Try.prog 17 #[.int .u32 r_940] w942 [] (fun v w950 => ∃ (r_948 : Sl), v = Sl.v r_948 ∧
RunK Try.prog (Builtin.append_ #[24, 24] 24 #[Sl.v b_853, Sl.v r_948]) w950 [] (fun v w957 => ∃ (r_963 : Sl), v = Sl.v r_963 ∧
((65536 < (r_963.n : Int)) →
R (.tuple #[Sl.v Sl.nil, .int .i64 2]) w957) ∧
((¬ (65536 < (r_963.n : Int))) →
R (.tuple #[Sl.v r_963, .int .i64 0]) w957))))))))))))))))))
set_option maxHeartbeats 1000000 in
set_option maxRecDepth 10000 in
theorem ref24_Encode.ok (base_1 : Int) (target_2 : Int) (l_3 : Sl) {R : Value → World → Prop} {w : World} (ht0 : ref24_Encode.vc base_1 target_2 l_3 R w) : Calls Try.prog 12 #[.int .u64 base_1, .int .u64 target_2, Sl.v l_3] w (Ret R) := by
  refine enter [.int .u64 base_1, .int .u64 target_2, Sl.v l_3] Try.func12 rfl Try.ntmps12 rfl ?_
  intro a0 hA0
  unfold ref24_Encode.vc at ht0
  refine wp_seq ?_
  refine wp_region_lit ?_
  refine sq (opk_val hA0 rfl (r_assign rfl) fun a4 hA4 _ => ?_)
  refine sq (opk_val hA4 rfl (r_assign rfl) fun a5 hA5 _ => ?_)
  refine sq_end ?_
  have hA6 := hA5.keep [(0, .int .u64 base_1), (1, .int .u64 target_2), (2, Sl.v l_3)] ⟨rfl, rfl, rfl, trivial⟩
  refine then_normal ?_
  refine wp_seq ?_
  refine wp_seq ?_
  refine wp_region_lit ?_
  refine sq (opk_val hA6 rfl (r_move (hA6.get rfl)) fun a7 hA7 _ => ?_)
  refine sq (opk_val hA7 rfl (r_len (hA7.get rfl) Try.underlying23) fun a8 hA8 _ => ?_)
  refine sq (opk_val hA8 rfl (r_gtr (hA8.get rfl) rfl) fun a9 hA9 _ => ?_)
  refine sq_end ?_
  have hA10 := hA9.keep [(0, .int .u64 base_1), (1, .int .u64 target_2), (2, Sl.v l_3), (17, .bool (decide (1500 < (l_3.n : Int))))] ⟨rfl, rfl, rfl, rfl, trivial⟩
  refine then_normal ?_
  refine wp_cond_split (hA10.get rfl) (fun hc => ?_) (fun hc => ?_)
  · have ht11 := ht0.1 (of_decide_eq_true hc)
    clear hc
    refine wp_seq ?_
    refine wp_region_lit ?_
    refine sq (opk_val hA10 rfl (r_assign rfl) fun a13 hA13 _ => ?_)
    refine sq (opk_val hA13 rfl (r_assign rfl) fun a14 hA14 _ => ?_)
    refine sq_end ?_
    have hA15 := hA14.keep [(6, Sl.v Sl.nil), (7, .int .i64 2)] ⟨rfl, rfl, trivial⟩
    refine then_normal ?_
    refine wp_ret ?_
    refine then_ret ?_
    exact res_all (vs := [Sl.v Sl.nil, .int .i64 2]) rfl hA15 ⟨res_of_tmp hA15 rfl, res_of_tmp hA15 rfl, trivial⟩ ht11
  · have ht12 := ht0.2 (of_decide_eq_false hc)
    clear hc
    refine wp_skip ?_
    refine then_normal ?_
    refine wp_seq ?_
    refine wp_region_lit ?_
    refine sq (opk_val hA10 rfl (r_assign rfl) fun a16 hA16 _ => ?_)
    refine sq_end ?_
    have hA17 := hA16.keep [(0, .int .u64 base_1), (1, .int .u64 target_2), (2, Sl.v l_3), (8, Sl.v Sl.nil)] ⟨rfl, rfl, rfl, rfl, trivial⟩
    refine then_normal ?_
    refine wp_seq ?_
    refine wp_seq ?_
    refine wp_region_lit ?_
    refine sq (opk_val hA17 rfl (r_assign rfl) fun a18 hA18 _ => ?_)
    refine sq_end ?_
    have hA19 := hA18.keep [(0, .int .u64 base_1), (1, .int .u64 target_2), (2, Sl.v l_3), (8, Sl.v Sl.nil), (9, .int .i64 0)] ⟨rfl, rfl, rfl, rfl, rfl, trivial⟩
    refine then_normal ?_
    refine wp_block ?_
    obtain ⟨J_23, mu_24, h0284, ht283⟩ := ht12
    refine wp_loop_st (σ := Sl × Int × World) (fun s a w => Ag 127 a [(0, .int .u64 base_1), (1, .int .u64 target_2), (2, Sl.v l_3), (8, Sl.v s.1), (9, .int .i64 s.2.1)] ∧ w = s.2.2 ∧ J_23 s.1 s.2.1 s.2.2) (fun s => mu_24 s.1 s.2.1 s.2.2) (Sl.nil, 0, w) ⟨hA19.keep [(0, .int .u64 base_1), (1, .int .u64 target_2), (2, Sl.v l_3), (8, Sl.v Sl.nil), (9, .int .i64 0)] ⟨rfl, rfl, rfl, rfl, rfl, trivial⟩, rfl, h0284⟩ ?_
    rintro ⟨strings_20, i_21, w22⟩ a282 w_ ⟨hA282, hw_, hJ286⟩
    have hw_ : w22 = w_ := hw_.symm
    subst hw_
    have ht285 := ht283 strings_20 i_21 _ hJ286
    refine wp_seq ?_
    refine wp_seq ?_
    refine wp_region_lit ?_
    refine sq (opk_val hA282 rfl (r_move (hA282.get rfl)) fun a287 hA287 _ => ?_)
    refine sq (opk_val hA287 rfl (r_move (hA287.get rfl)) fun a288 hA288 _ => ?_)
    refine sq (opk_val hA288 rfl (r_len (hA288.get rfl) Try.underlying23) fun a289 hA289 _ => ?_)
    refine sq (opk_val hA289 rfl (r_lss (hA289.get rfl) (hA289.get rfl)) fun a290 hA290 _ => ?_)
    refine sq_end ?_
    have hA291 := hA290.keep [(0, .int .u64 base_1), (1, .int .u64 target_2), (2, Sl.v l_3), (8, Sl.v strings_20), (9, .int .i64 i_21), (21, .bool (decide (i_21 < (l_3.n : Int))))] ⟨rfl, rfl, rfl, rfl, rfl, rfl, trivial⟩
    refine then_normal ?_
    refine wp_cond_split (hA291.get rfl) (fun hc => ?_) (fun hc => ?_)
    · have ht292 := ht285.1 (of_decide_eq_true hc)
      clear hc
      refine wp_skip ?_
      refine then_normal ?_
      refine wp_seq ?_
      refine wp_block ?_
      refine wp_seq ?_
      refine wp_seq ?_
      refine wp_region_lit ?_
      refine sq (opk_val hA291 rfl (r_move (hA291.get rfl)) fun a294 hA294 _ => ?_)
      refine sq (opk_val hA294 rfl (r_move (hA294.get rfl)) fun a295 hA295 _ => ?_)
      obtain ⟨hb297, p_296, hp298, ht299⟩ := ht292
      refine sq (opk_val hA295 rfl (r_indexAddr (hA295.get rfl) (hA295.get rfl) Try.underlying23 ti_42 hb297 hp298) fun a300 hA300 _ => ?_)
      obtain ⟨x_302_Kind, x_302_ID, x_302_Parent, x_302_At, x_302_What, x_302_Name, x_302_Text, hx303, ht304⟩ := ht299
      refine sq (opk_val hA300 rfl (r_loadN Try.underlying42 rfl ti_42 (hA300.get rfl) hx303) fun a301 hA301 _ => ?_)
      refine sq (opk_call hA301 rfl (r_call (args := #[.agg #[.int .i64 x_302_Kind, .int .i64 x_302_ID, .int .i64 x_302_Parent, .int .i64 x_302_At, .int .i64 x_302_What, .string (Bs x_302_Name), .string (Bs x_302_Text)]]) Try.func27 (by decide) rfl (map_arr (ml_cons (hA301.get rfl) ml_nil)) rfl) ht304 fun a306 v312 w307 hA306 _ hn309 hz310 hK311 => ?_)
      obtain ⟨r_305, rfl, ht308⟩ := hK311
      refine sq (opk_val hA306 rfl (r_not (hA306.get rfl)) fun a313 hA313 _ => ?_)
      refine sq (opk_val hA313 rfl (r_move (hA313.get rfl)) fun a314 hA314 _ => ?_)
      refine sq (opk_gval hA314 rfl rfl (g := true) (e := (!r_305)) rfl (fun hg => r_move (hA314.get rfl)) fun a315 hA315 _ => ?_)
      refine sq (opk_gval hA315 rfl rfl (g := true) (e := (!r_305)) rfl (fun hg => r_move (hA315.get rfl)) fun a316 hA316 _ => ?_)
      obtain ⟨p_317, hp319, ht320⟩ := ht308
      refine sq (opk_gval hA316 rfl rfl (g := true) (e := (!r_305)) rfl (fun hg => r_indexAddr (cv_get (hA316.get rfl) hg) (cv_get (hA316.get rfl) hg) Try.underlying23 ti_42 (hp319 (b_not_f (g_f hg))).1 (hp319 (b_not_f (g_f hg))).2) fun a321 hA321 _ => ?_)
      refine sq (opk_gval hA321 rfl rfl (g := true) (e := (!r_305)) rfl (fun hg => r_fieldAddr (cv_get (hA321.get rfl) hg) Try.underlying42 rfl ti_3 (by decide)) fun a322 hA322 _ => ?_)
      obtain ⟨x_324, hx325, ht326⟩ := ht320
      refine sq (opk_gval hA322 rfl rfl (g := true) (e := (!r_305)) rfl (fun hg => r_load1 Try.underlying3 rfl (cv_get (hA322.get rfl) hg) (hx325 (b_not_f (g_f hg)))) fun a323 hA323 _ => ?_)
      refine sq (opk_gval hA323 rfl rfl (g := true) (e := (!r_305)) rfl (fun hg => r_lss (cv_get (hA323.get rfl) hg) rfl) fun a327 hA327 _ => ?_)
      refine sq (opk_val hA327 rfl (r_pick_or (g := (true && ((!r_305) == false))) (hA327.get rfl) (hA327.get rfl) (fun he => g_mkf rfl he)) fun a328 hA328 _ => ?_)
      refine sq (opk_val hA328 rfl (r_move (hA328.get rfl)) fun a329 hA329 _ => ?_)
      refine sq (opk_gval hA329 rfl rfl (g := true) (e := ((!r_305) || (decide (x_324 < 0)))) rfl (fun hg => r_move (hA329.get rfl)) fun a330 hA330 _ => ?_)
      refine sq (opk_gval hA330 rfl rfl (g := true) (e := ((!r_305) || (decide (x_324 < 0)))) rfl (fun hg => r_move (hA330.get rfl)) fun a331 hA331 _ => ?_)
      obtain ⟨p_332, hp334, ht335⟩ := ht326
      refine sq (opk_gval hA331 rfl rfl (g := true) (e := ((!r_305) || (decide (x_324 < 0)))) rfl (fun hg => r_indexAddr (cv_get (hA331.get rfl) hg) (cv_get (hA331.get rfl) hg) Try.underlying23 ti_42 (hp334 ⟨(b_not_f (b_or_f (g_f hg)).1), (of_decide_eq_false (b_or_f (g_f hg)).2)⟩).1 (hp334 ⟨(b_not_f (b_or_f (g_f hg)).1), (of_decide_eq_false (b_or_f (g_f hg)).2)⟩).2) fun a336 hA336 _ => ?_)
      refine sq (opk_gval hA336 rfl rfl (g := true) (e := ((!r_305) || (decide (x_324 < 0)))) rfl (fun hg => r_fieldAddr (cv_get (hA336.get rfl) hg) Try.underlying42 rfl ti_3 (by decide)) fun a337 hA337 _ => ?_)
      obtain ⟨x_339, hx340, ht341⟩ := ht335
      refine sq (opk_gval hA337 rfl rfl (g := true) (e := ((!r_305) || (decide (x_324 < 0)))) rfl (fun hg => r_load1 Try.underlying3 rfl (cv_get (hA337.get rfl) hg) (hx340 ⟨(b_not_f (b_or_f (g_f hg)).1), (of_decide_eq_false (b_or_f (g_f hg)).2)⟩)) fun a338 hA338 _ => ?_)
      refine sq (opk_gval hA338 rfl rfl (g := true) (e := ((!r_305) || (decide (x_324 < 0)))) rfl (fun hg => r_lss (cv_get (hA338.get rfl) hg) rfl) fun a342 hA342 _ => ?_)
      refine sq (opk_val hA342 rfl (r_pick_or (g := (true && (((!r_305) || (decide (x_324 < 0))) == false))) (hA342.get rfl) (hA342.get rfl) (fun he => g_mkf rfl he)) fun a343 hA343 _ => ?_)
      refine sq_end ?_
      have hA344 := hA343.keep [(0, .int .u64 base_1), (1, .int .u64 target_2), (2, Sl.v l_3), (8, Sl.v strings_20), (9, .int .i64 i_21), (45, .bool (((!r_305) || (decide (x_324 < 0))) || (decide (x_339 < 0))))] ⟨rfl, rfl, rfl, rfl, rfl, rfl, trivial⟩
      refine then_normal ?_
      refine wp_cond_split (hA344.get rfl) (fun hc => ?_) (fun hc => ?_)
      · have ht345 := ht341.1 ((b_or_t hc).imp (fun h => ((b_or_t h).imp (fun h => (b_not_t h)) (fun h => (of_decide_eq_true h)))) (fun h => (of_decide_eq_true h)))
        clear hc
        refine wp_seq ?_
        refine wp_region_lit ?_
        refine sq (opk_val hA344 rfl (r_assign rfl) fun a347 hA347 _ => ?_)
        refine sq (opk_val hA347 rfl (r_assign rfl) fun a348 hA348 _ => ?_)
        refine sq_end ?_
        have hA349 := hA348.keep [(6, Sl.v Sl.nil), (7, .int .i64 15)] ⟨rfl, rfl, trivial⟩
        refine then_normal ?_
        refine wp_ret ?_
        refine then_ret ?_
        refine block_ret ?_
        refine then_ret ?_
        refine then_ret ?_
        refine block_ret ?_
        refine then_ret ?_
        exact res_all (vs := [Sl.v Sl.nil, .int .i64 15]) rfl hA349 ⟨res_of_tmp hA349 rfl, res_of_tmp hA349 rfl, trivial⟩ ht345
      · have ht346 := ht341.2 ⟨⟨(b_not_f (b_or_f (b_or_f hc).1).1), (of_decide_eq_false (b_or_f (b_or_f hc).1).2)⟩, (of_decide_eq_false (b_or_f hc).2)⟩
        clear hc
        refine wp_skip ?_
        refine then_normal ?_
        refine wp_seq ?_
        refine wp_region_lit ?_
        refine sq (opk_val hA344 rfl (r_move (hA344.get rfl)) fun a350 hA350 _ => ?_)
        refine sq (opk_val hA350 rfl (r_move (hA350.get rfl)) fun a351 hA351 _ => ?_)
        obtain ⟨hb353, p_352, hp354, ht355⟩ := ht346
        refine sq (opk_val hA351 rfl (r_indexAddr (hA351.get rfl) (hA351.get rfl) Try.underlying23 ti_42 hb353 hp354) fun a356 hA356 _ => ?_)
        obtain ⟨x_358_Kind, x_358_ID, x_358_Parent, x_358_At, x_358_What, x_358_Name, x_358_Text, hx359, ht360⟩ := ht355
        refine sq (opk_val hA356 rfl (r_loadN Try.underlying42 rfl ti_42 (hA356.get rfl) hx359) fun a357 hA357 _ => ?_)
        refine sq (opk_call hA357 rfl (r_call (args := #[.agg #[.int .i64 x_358_Kind, .int .i64 x_358_ID, .int .i64 x_358_Parent, .int .i64 x_358_At, .int .i64 x_358_What, .string (Bs x_358_Name), .string (Bs x_358_Text)]]) Try.func28 (by decide) rfl (map_arr (ml_cons (hA357.get rfl) ml_nil)) rfl) ht360 fun a362 v368 w363 hA362 _ hn365 hz366 hK367 => ?_)
        obtain ⟨r_361, rfl, ht364⟩ := hK367
        refine sq (opk_val hA362 rfl (r_assign (hA362.get rfl)) fun a369 hA369 _ => ?_)
        refine sq_end ?_
        have hA370 := hA369.keep [(0, .int .u64 base_1), (1, .int .u64 target_2), (2, Sl.v l_3), (8, Sl.v strings_20), (9, .int .i64 i_21), (10, Sl.v r_361)] ⟨rfl, rfl, rfl, rfl, rfl, rfl, trivial⟩
        refine then_normal ?_
        refine wp_seq ?_
        refine wp_region_lit ?_
        refine sq (opk_val hA370 rfl (r_assign rfl) fun a371 hA371 _ => ?_)
        refine sq_end ?_
        have hA372 := hA371.keep [(0, .int .u64 base_1), (1, .int .u64 target_2), (2, Sl.v l_3), (8, Sl.v strings_20), (9, .int .i64 i_21), (10, Sl.v r_361), (11, .int .i64 0)] ⟨rfl, rfl, rfl, rfl, rfl, rfl, rfl, trivial⟩
        refine then_normal ?_
        refine wp_block ?_
        obtain ⟨J_376, mu_377, h0456, ht455⟩ := ht364
        refine wp_loop_st (σ := Sl × Int × World) (fun s a w => Ag 127 a [(0, .int .u64 base_1), (1, .int .u64 target_2), (2, Sl.v l_3), (8, Sl.v s.1), (9, .int .i64 i_21), (10, Sl.v r_361), (11, .int .i64 s.2.1)] ∧ w = s.2.2 ∧ J_376 s.1 s.2.1 s.2.2) (fun s => mu_377 s.1 s.2.1 s.2.2) (strings_20, 0, w363) ⟨hA372.keep [(0, .int .u64 base_1), (1, .int .u64 target_2), (2, Sl.v l_3), (8, Sl.v strings_20), (9, .int .i64 i_21), (10, Sl.v r_361), (11, .int .i64 0)] ⟨rfl, rfl, rfl, rfl, rfl, rfl, rfl, trivial⟩, rfl, h0456⟩ ?_
        rintro ⟨strings_373, k_374, w375⟩ a454 w_ ⟨hA454, hw_, hJ458⟩
        have hw_ : w375 = w_ := hw_.symm
        subst hw_
        have ht457 := ht455 strings_373 k_374 _ hJ458
        refine wp_seq ?_
        refine wp_seq ?_
        refine wp_region_lit ?_
        refine sq (opk_val hA454 rfl (r_move (hA454.get rfl)) fun a459 hA459 _ => ?_)
        refine sq (opk_val hA459 rfl (r_move (hA459.get rfl)) fun a460 hA460 _ => ?_)
        refine sq (opk_val hA460 rfl (r_len (hA460.get rfl) Try.underlying46) fun a461 hA461 _ => ?_)
        refine sq (opk_val hA461 rfl (r_lss (hA461.get rfl) (hA461.get rfl)) fun a462 hA462 _ => ?_)
        refine sq_end ?_
        have hA463 := hA462.keep [(0, .int .u64 base_1), (1, .int .u64 target_2), (2, Sl.v l_3), (8, Sl.v strings_373), (9, .int .i64 i_21), (10, Sl.v r_361), (11, .int .i64 k_374), (54, .bool (decide (k_374 < (r_361.n : Int))))] ⟨rfl, rfl, rfl, rfl, rfl, rfl, rfl, rfl, trivial⟩
        refine then_normal ?_
        refine wp_cond_split (hA463.get rfl) (fun hc => ?_) (fun hc => ?_)
        · have ht464 := ht457.1 (of_decide_eq_true hc)
          clear hc
          refine wp_skip ?_
          refine then_normal ?_
          refine wp_seq ?_
          refine wp_block ?_
          refine wp_seq ?_
          refine wp_region_lit ?_
          refine sq (opk_val hA463 rfl (r_move (hA463.get rfl)) fun a466 hA466 _ => ?_)
          refine sq (opk_val hA466 rfl (r_move (hA466.get rfl)) fun a467 hA467 _ => ?_)
          refine sq (opk_val hA467 rfl (r_move (hA467.get rfl)) fun a468 hA468 _ => ?_)
          obtain ⟨hb470, p_469, hp471, ht472⟩ := ht464
          refine sq (opk_val hA468 rfl (r_indexAddr (hA468.get rfl) (hA468.get rfl) Try.underlying46 ti_9 hb470 hp471) fun a473 hA473 _ => ?_)
          obtain ⟨x_475, hx476, ht477⟩ := ht472
          refine sq (opk_val hA473 rfl (r_load1 Try.underlying9 rfl (hA473.get rfl) hx476) fun a474 hA474 _ => ?_)
          refine sq (opk_call hA474 rfl (r_call (args := #[Sl.v strings_373, .string (Bs x_475)]) Try.func29 (by decide) rfl (map_arr (ml_cons (hA474.get rfl) (ml_cons (hA474.get rfl) ml_nil))) rfl) ht477 fun a479 v485 w480 hA479 _ hn482 hz483 hK484 => ?_)
          obtain ⟨r_478, rfl, ht481⟩ := hK484
          refine sq (opk_val hA479 rfl (r_lss (hA479.get rfl) rfl) fun a486 hA486 _ => ?_)
          refine sq_end ?_
          have hA487 := hA486.keep [(0, .int .u64 base_1), (1, .int .u64 target_2), (2, Sl.v l_3), (8, Sl.v strings_373), (9, .int .i64 i_21), (10, Sl.v r_361), (11, .int .i64 k_374), (63, .bool (decide (r_478 < 0)))] ⟨rfl, rfl, rfl, rfl, rfl, rfl, rfl, rfl, trivial⟩
          refine then_normal ?_
          refine wp_cond_split (hA487.get rfl) (fun hc => ?_) (fun hc => ?_)
          · have ht488 := ht481.1 (of_decide_eq_true hc)
            clear hc
            refine wp_region_lit ?_
            refine sq (opk_val hA487 rfl (r_move (hA487.get rfl)) fun a490 hA490 _ => ?_)
            refine sq (opk_val hA490 rfl (r_move (hA490.get rfl)) fun a491 hA491 _ => ?_)
            refine sq (opk_val hA491 rfl (r_move (hA491.get rfl)) fun a492 hA492 _ => ?_)
            obtain ⟨hb494, p_493, hp495, ht496⟩ := ht488
            refine sq (opk_val hA492 rfl (r_indexAddr (hA492.get rfl) (hA492.get rfl) Try.underlying46 ti_9 hb494 hp495) fun a497 hA497 _ => ?_)
            obtain ⟨x_499, hx500, ht501⟩ := ht496
            refine sq (opk_val hA497 rfl (r_load1 Try.underlying9 rfl (hA497.get rfl) hx500) fun a498 hA498 _ => ?_)
            refine sq (opk_new (fun B => .slice (some ⟨B, 0, none⟩) 1 1) hA498 rfl (r_buildSlice (vs := #[(0, .string (Bs x_499))]) (cs := [.string (Bs x_499)]) (map_arr2 (ml2_cons (hA498.get rfl) (ml2_nil))) Try.underlying46 ti_9 rfl rfl (by kernel_rfl)) fun a504 w503 B_502 hE505 hN506 hB507 hA504 _ => ?_)
            have hN508 : New w480 B_502 w503 := hN506
            have hC509 : Chg [] w480 w503 := hE505
            have ht510 := ht501 w503 B_502 hN508  hC509
            have ht511 := ht510 hB507
            refine sq (opk_run hA504 rfl (fun _ _ hr => r_append (hA504.get rfl) (hA504.get rfl) hr) ht511 fun a512 v518 w513 hA512 _ hn515 hz516 hK517 => ?_)
            obtain ⟨r_519, rfl, ht514⟩ := hK517
            refine sq (opk_val hA512 rfl (r_assign (hA512.get rfl)) fun a520 hA520 _ => ?_)
            refine sq_end ?_
            have hA521 := hA520.keep [(0, .int .u64 base_1), (1, .int .u64 target_2), (2, Sl.v l_3), (8, Sl.v r_519), (9, .int .i64 i_21), (10, Sl.v r_361), (11, .int .i64 k_374)] ⟨rfl, rfl, rfl, rfl, rfl, rfl, rfl, trivial⟩
            refine block_normal ?_
            refine then_normal ?_
            refine wp_region_lit ?_
            refine sq (opk_val hA521 rfl (r_move (hA521.get rfl)) fun a522 hA522 _ => ?_)
            obtain ⟨hS524, ht525⟩ := ht514
            refine sq (opk_val hA522 rfl (r_addI (hA522.get rfl) rfl hS524) fun a523 hA523 _ => ?_)
            refine sq (opk_val hA523 rfl (r_assign (hA523.get rfl)) fun a526 hA526 _ => ?_)
            refine sq_end ?_
            have hA527 := hA526.keep [(0, .int .u64 base_1), (1, .int .u64 target_2), (2, Sl.v l_3), (8, Sl.v r_519), (9, .int .i64 i_21), (10, Sl.v r_361), (11, .int .i64 (k_374 + 1))] ⟨rfl, rfl, rfl, rfl, rfl, rfl, rfl, trivial⟩
            have hA528 := hA527.keep [(0, .int .u64 base_1), (1, .int .u64 target_2), (2, Sl.v l_3), (8, Sl.v r_519), (9, .int .i64 i_21), (10, Sl.v r_361), (11, .int .i64 (k_374 + 1))] ⟨rfl, rfl, rfl, rfl, rfl, rfl, rfl, trivial⟩
            exact then_normal ⟨(r_519, k_374 + 1, w513), ⟨hA528, rfl, ht525.1⟩, ht525.2⟩
          · have ht489 := ht481.2 (of_decide_eq_false hc)
            clear hc
            refine wp_skip ?_
            refine block_normal ?_
            refine then_normal ?_
            refine wp_region_lit ?_
            refine sq (opk_val hA487 rfl (r_move (hA487.get rfl)) fun a529 hA529 _ => ?_)
            obtain ⟨hS531, ht532⟩ := ht489
            refine sq (opk_val hA529 rfl (r_addI (hA529.get rfl) rfl hS531) fun a530 hA530 _ => ?_)
            refine sq (opk_val hA530 rfl (r_assign (hA530.get rfl)) fun a533 hA533 _ => ?_)
            refine sq_end ?_
            have hA534 := hA533.keep [(0, .int .u64 base_1), (1, .int .u64 target_2), (2, Sl.v l_3), (8, Sl.v strings_373), (9, .int .i64 i_21), (10, Sl.v r_361), (11, .int .i64 (k_374 + 1))] ⟨rfl, rfl, rfl, rfl, rfl, rfl, rfl, trivial⟩
            have hA535 := hA534.keep [(0, .int .u64 base_1), (1, .int .u64 target_2), (2, Sl.v l_3), (8, Sl.v strings_373), (9, .int .i64 i_21), (10, Sl.v r_361), (11, .int .i64 (k_374 + 1))] ⟨rfl, rfl, rfl, rfl, rfl, rfl, rfl, trivial⟩
            exact then_normal ⟨(strings_373, k_374 + 1, w480), ⟨hA535, rfl, ht532.1⟩, ht532.2⟩
        · have ht465 := ht457.2 (of_decide_eq_false hc)
          clear hc
          refine wp_exit ?_
          refine then_exit ?_
          refine then_exit ?_
          refine block_hit ?_
          have hA536 := hA463.keep [(0, .int .u64 base_1), (1, .int .u64 target_2), (2, Sl.v l_3), (8, Sl.v strings_373), (9, .int .i64 i_21)] ⟨rfl, rfl, rfl, rfl, rfl, trivial⟩
          refine block_normal ?_
          refine then_normal ?_
          refine wp_region_lit ?_
          refine sq (opk_val hA536 rfl (r_move (hA536.get rfl)) fun a537 hA537 _ => ?_)
          obtain ⟨hS539, ht540⟩ := ht465
          refine sq (opk_val hA537 rfl (r_addI (hA537.get rfl) rfl hS539) fun a538 hA538 _ => ?_)
          refine sq (opk_val hA538 rfl (r_assign (hA538.get rfl)) fun a541 hA541 _ => ?_)
          refine sq_end ?_
          have hA542 := hA541.keep [(0, .int .u64 base_1), (1, .int .u64 target_2), (2, Sl.v l_3), (8, Sl.v strings_373), (9, .int .i64 (i_21 + 1))] ⟨rfl, rfl, rfl, rfl, rfl, trivial⟩
          have hA543 := hA542.keep [(0, .int .u64 base_1), (1, .int .u64 target_2), (2, Sl.v l_3), (8, Sl.v strings_373), (9, .int .i64 (i_21 + 1))] ⟨rfl, rfl, rfl, rfl, rfl, trivial⟩
          exact then_normal ⟨(strings_373, i_21 + 1, w375), ⟨hA543, rfl, ht540.1⟩, ht540.2⟩
    · have ht293 := ht285.2 (of_decide_eq_false hc)
      clear hc
      refine wp_exit ?_
      refine then_exit ?_
      refine then_exit ?_
      refine block_hit ?_
      have hA544 := hA291.keep [(0, .int .u64 base_1), (1, .int .u64 target_2), (2, Sl.v l_3), (8, Sl.v strings_20)] ⟨rfl, rfl, rfl, rfl, trivial⟩
      refine then_normal ?_
      refine wp_seq ?_
      refine wp_region_lit ?_
      refine sq (opk_new (fun B => .slice (some ⟨B, 0, none⟩) 4 4) hA544 rfl (r_buildSlice (vs := #[(0, .int .u8 116), (1, .int .u8 112), (2, .int .u8 121), (3, .int .u8 49)]) (cs := [.int .u8 116, .int .u8 112, .int .u8 121, .int .u8 49]) (map_arr2 (ml2_cons rfl (ml2_cons rfl (ml2_cons rfl (ml2_cons rfl (ml2_nil)))))) Try.underlying24 ti_5 rfl rfl (by kernel_rfl)) fun a547 w546 B_545 hE548 hN549 hB550 hA547 _ => ?_)
      have hN551 : New w22 B_545 w546 := hN549
      have hC552 : Chg [] w22 w546 := hE548
      have ht553 := ht293 w546 B_545 hN551  hC552
      have ht554 := ht553 hB550
      refine sq (opk_run hA547 rfl (fun _ _ hr => r_convR (hA547.get rfl) hr) ht554 fun a555 v561 w556 hA555 _ hn558 hz559 hK560 => ?_)
      obtain ⟨r_562, rfl, ht557⟩ := hK560
      refine sq (opk_val hA555 rfl (r_move (hA555.get rfl)) fun a563 hA563 _ => ?_)
      refine sq (opk_call hA563 rfl (r_call (args := #[.int .u64 base_1]) Try.func30 (by decide) rfl (map_arr (ml_cons (hA563.get rfl) ml_nil)) rfl) ht557 fun a565 v571 w566 hA565 _ hn568 hz569 hK570 => ?_)
      obtain ⟨r_564, rfl, ht567⟩ := hK570
      refine sq (opk_run hA565 rfl (fun _ _ hr => r_append (hA565.get rfl) (hA565.get rfl) hr) ht567 fun a572 v578 w573 hA572 _ hn575 hz576 hK577 => ?_)
      obtain ⟨r_579, rfl, ht574⟩ := hK577
      refine sq (opk_val hA572 rfl (r_assign (hA572.get rfl)) fun a580 hA580 _ => ?_)
      refine sq_end ?_
      have hA581 := hA580.keep [(1, .int .u64 target_2), (2, Sl.v l_3), (8, Sl.v strings_20), (12, Sl.v r_579)] ⟨rfl, rfl, rfl, rfl, trivial⟩
      refine then_normal ?_
      refine wp_seq ?_
      refine wp_region_lit ?_
      refine sq (opk_val hA581 rfl (r_move (hA581.get rfl)) fun a582 hA582 _ => ?_)
      refine sq (opk_val hA582 rfl (r_move (hA582.get rfl)) fun a583 hA583 _ => ?_)
      refine sq (opk_call hA583 rfl (r_call (args := #[.int .u64 target_2]) Try.func30 (by decide) rfl (map_arr (ml_cons (hA583.get rfl) ml_nil)) rfl) ht574 fun a585 v591 w586 hA585 _ hn588 hz589 hK590 => ?_)
      obtain ⟨r_584, rfl, ht587⟩ := hK590
      refine sq (opk_run hA585 rfl (fun _ _ hr => r_append (hA585.get rfl) (hA585.get rfl) hr) ht587 fun a592 v598 w593 hA592 _ hn595 hz596 hK597 => ?_)
      obtain ⟨r_599, rfl, ht594⟩ := hK597
      refine sq (opk_val hA592 rfl (r_move (hA592.get rfl)) fun a600 hA600 _ => ?_)
      refine sq (opk_val hA600 rfl (r_len (hA600.get rfl) Try.underlying46) fun a601 hA601 _ => ?_)
      refine sq (opk_call hA601 rfl (r_call (args := #[Sl.v r_599, .int .i64 (strings_20.n : Int)]) Try.func31 (by decide) rfl (map_arr (ml_cons (hA601.get rfl) (ml_cons (hA601.get rfl) ml_nil))) rfl) ht594 fun a603 v609 w604 hA603 _ hn606 hz607 hK608 => ?_)
      obtain ⟨r_602, rfl, ht605⟩ := hK608
      refine sq (opk_val hA603 rfl (r_assign (hA603.get rfl)) fun a610 hA610 _ => ?_)
      refine sq_end ?_
      have hA611 := hA610.keep [(2, Sl.v l_3), (8, Sl.v strings_20), (12, Sl.v r_602)] ⟨rfl, rfl, rfl, trivial⟩
      refine then_normal ?_
      refine wp_seq ?_
      refine wp_seq ?_
      refine wp_region_lit ?_
      refine sq (opk_val hA611 rfl (r_assign rfl) fun a612 hA612 _ => ?_)
      refine sq_end ?_
      have hA613 := hA612.keep [(2, Sl.v l_3), (8, Sl.v strings_20), (12, Sl.v r_602), (13, .int .i64 0)] ⟨rfl, rfl, rfl, rfl, trivial⟩
      refine then_normal ?_
      refine wp_block ?_
      obtain ⟨J_617, mu_618, h0727, ht726⟩ := ht605
      refine wp_loop_st (σ := Sl × Int × World) (fun s a w => Ag 127 a [(2, Sl.v l_3), (8, Sl.v strings_20), (12, Sl.v s.1), (13, .int .i64 s.2.1)] ∧ w = s.2.2 ∧ J_617 s.1 s.2.1 s.2.2) (fun s => mu_618 s.1 s.2.1 s.2.2) (r_602, 0, w604) ⟨hA613.keep [(2, Sl.v l_3), (8, Sl.v strings_20), (12, Sl.v r_602), (13, .int .i64 0)] ⟨rfl, rfl, rfl, rfl, trivial⟩, rfl, h0727⟩ ?_
      rintro ⟨b_614, i_615, w616⟩ a725 w_ ⟨hA725, hw_, hJ729⟩
      have hw_ : w616 = w_ := hw_.symm
      subst hw_
      have ht728 := ht726 b_614 i_615 _ hJ729
      refine wp_seq ?_
      refine wp_seq ?_
      refine wp_region_lit ?_
      refine sq (opk_val hA725 rfl (r_move (hA725.get rfl)) fun a730 hA730 _ => ?_)
      refine sq (opk_val hA730 rfl (r_move (hA730.get rfl)) fun a731 hA731 _ => ?_)
      refine sq (opk_val hA731 rfl (r_len (hA731.get rfl) Try.underlying46) fun a732 hA732 _ => ?_)
      refine sq (opk_val hA732 rfl (r_lss (hA732.get rfl) (hA732.get rfl)) fun a733 hA733 _ => ?_)
      refine sq_end ?_
      have hA734 := hA733.keep [(2, Sl.v l_3), (8, Sl.v strings_20), (12, Sl.v b_614), (13, .int .i64 i_615), (86, .bool (decide (i_615 < (strings_20.n : Int))))] ⟨rfl, rfl, rfl, rfl, rfl, trivial⟩
      refine then_normal ?_
      refine wp_cond_split (hA734.get rfl) (fun hc => ?_) (fun hc => ?_)
      · have ht735 := ht728.1 (of_decide_eq_true hc)
        clear hc
        refine wp_skip ?_
        refine then_normal ?_
        refine wp_seq ?_
        refine wp_block ?_
        refine draw' (by kernel_rfl) fun w737 hE738 => ?_
        have hC739 : Chg [] w616 w737 := hE738
        have ht740 := ht735 w737    hC739
        obtain ⟨p_741, hp742, ht743⟩ := ht740
        obtain ⟨x_744, hx745, ht746⟩ := ht743
        obtain ⟨p_747, hp748, ht749⟩ := ht746
        obtain ⟨x_750, hx751, ht752⟩ := ht749
        refine startF (D := [[], [], [], [1, 2], [1, 2, 3], [1, 2, 3, 4], [0, 1, 2, 3, 4, 5], [], [], [7, 8], [7, 8, 9], [0, 1, 2, 3, 4, 5, 6, 7, 8, 9, 10], [0, 1, 2, 3, 4, 5, 6, 7, 8, 9, 10, 11]]) (Fs := [1, 2, 3, 4, 5, 7, 8, 9, 10]) (Ef := [(1, fun v _ => v = Sl.v strings_20), (2, fun v _ => v = .int .i64 i_615), (3, fun v _ => v = .pointer (some (p_741.add (i_615.toNat * 1)))), (4, fun v _ => v = .string (Bs x_744)), (5, fun v _ => v = .int .i64 (x_744.length : Int)), (7, fun v _ => v = Sl.v strings_20), (8, fun v _ => v = .int .i64 i_615), (9, fun v _ => v = .pointer (some (p_747.add (i_615.toNat * 1)))), (10, fun v _ => v = .string (Bs x_750))]) (by kernel_rfl) ?_
        refine parF (D := [[], [], [], [1, 2], [1, 2, 3], [1, 2, 3, 4], [0, 1, 2, 3, 4, 5], [], [], [7, 8], [7, 8, 9], [0, 1, 2, 3, 4, 5, 6, 7, 8, 9, 10], [0, 1, 2, 3, 4, 5, 6, 7, 8, 9, 10, 11]]) (S := [0]) (F := []) (KE := [0]) (E := [(0, fun v _ => v = Sl.v b_614)]) hA734 rfl (by kernel_rfl) ⟨fun _ _ _ _ h => by first | exact h | (change _ = _ at h; change _ = _; exact h), fun _ _ _ _ h => by first | exact h | (change _ = _ at h; change _ = _; exact h), fun _ _ _ _ h => by first | exact h | (change _ = _ at h; change _ = _; exact h), fun _ _ _ _ h => by first | exact h | (change _ = _ at h; change _ = _; exact h), fun _ _ _ _ h => by first | exact h | (change _ = _ at h; change _ = _; exact h), fun _ _ _ _ h => by first | exact h | (change _ = _ at h; change _ = _; exact h), fun _ _ _ _ h => by first | exact h | (change _ = _ at h; change _ = _; exact h), fun _ _ _ _ h => by first | exact h | (change _ = _ at h; change _ = _; exact h), fun _ _ _ _ h => by first | exact h | (change _ = _ at h; change _ = _; exact h), fun _ _ _ _ h => by first | exact h | (change _ = _ at h; change _ = _; exact h), trivial⟩ ⟨?_, ?_, ?_, ?_, ?_, ?_, ?_, ?_, ?_, ?_, trivial⟩ ?_
        · intro a w hT
          have hAp := hT.ag hA734 [(12, Sl.v b_614)] ⟨rfl, trivial⟩ (by kernel_rfl)
          exact opk_val hAp rfl (r_move (hAp.get rfl)) fun _ _ e => ⟨_, e, Chg.refl _ _, fun _ => Eq.refl _⟩
        · intro a w hT
          have hAp := hT.ag hA734 [(8, Sl.v strings_20)] ⟨rfl, trivial⟩ (by kernel_rfl)
          exact opk_val hAp rfl (r_move (hAp.get rfl)) fun _ _ e => ⟨_, e, Chg.refl _ _, fun _ => Eq.refl _⟩
        · intro a w hT
          have hAp := hT.ag hA734 [(13, .int .i64 i_615)] ⟨rfl, trivial⟩ (by kernel_rfl)
          exact opk_val hAp rfl (r_move (hAp.get rfl)) fun _ _ e => ⟨_, e, Chg.refl _ _, fun _ => Eq.refl _⟩
        · intro a w hT
          have hAp := hT.ag hA734 [] trivial (by kernel_rfl)
          have e753 : a.tmps.getD 90 undef = Sl.v strings_20 := hT.vals 1 rfl 90 rfl
          have hAp := hAp.add e753
          have e754 : a.tmps.getD 91 undef = .int .i64 i_615 := hT.vals 2 rfl 91 rfl
          have hAp := hAp.add e754
          exact opk_val hAp rfl (r_indexAddr (hAp.get rfl) (hAp.get rfl) Try.underlying46 ti_9 hp742.1 hp742.2) fun _ _ e => ⟨_, e, Chg.refl _ _, fun _ => Eq.refl _⟩
        · intro a w hT
          have hAp := hT.ag hA734 [] trivial (by kernel_rfl)
          have e755 : a.tmps.getD 92 undef = .pointer (some (p_741.add (i_615.toNat * 1))) := hT.vals 3 rfl 92 rfl
          have hAp := hAp.add e755
          exact opk_val hAp rfl (r_load1 Try.underlying9 rfl (hAp.get rfl) (Ext.cell hT.chg hx745)) fun _ _ e => ⟨_, e, Chg.refl _ _, fun _ => Eq.refl _⟩
        · intro a w hT
          have hAp := hT.ag hA734 [] trivial (by kernel_rfl)
          have e756 : a.tmps.getD 93 undef = .string (Bs x_744) := hT.vals 4 rfl 93 rfl
          have hAp := hAp.add e756
          exact opk_val hAp rfl (r_slen (hAp.get rfl) Try.underlying9) fun _ _ e => ⟨_, e, Chg.refl _ _, fun _ => Eq.refl _⟩
        · intro a w hT
          have hAp := hT.ag hA734 [(8, Sl.v strings_20)] ⟨rfl, trivial⟩ (by kernel_rfl)
          exact opk_val hAp rfl (r_move (hAp.get rfl)) fun _ _ e => ⟨_, e, Chg.refl _ _, fun _ => Eq.refl _⟩
        · intro a w hT
          have hAp := hT.ag hA734 [(13, .int .i64 i_615)] ⟨rfl, trivial⟩ (by kernel_rfl)
          exact opk_val hAp rfl (r_move (hAp.get rfl)) fun _ _ e => ⟨_, e, Chg.refl _ _, fun _ => Eq.refl _⟩
        · intro a w hT
          have hAp := hT.ag hA734 [] trivial (by kernel_rfl)
          have e757 : a.tmps.getD 96 undef = Sl.v strings_20 := hT.vals 7 rfl 96 rfl
          have hAp := hAp.add e757
          have e758 : a.tmps.getD 97 undef = .int .i64 i_615 := hT.vals 8 rfl 97 rfl
          have hAp := hAp.add e758
          exact opk_val hAp rfl (r_indexAddr (hAp.get rfl) (hAp.get rfl) Try.underlying46 ti_9 hp748.1 hp748.2) fun _ _ e => ⟨_, e, Chg.refl _ _, fun _ => Eq.refl _⟩
        · intro a w hT
          have hAp := hT.ag hA734 [] trivial (by kernel_rfl)
          have e759 : a.tmps.getD 98 undef = .pointer (some (p_747.add (i_615.toNat * 1))) := hT.vals 9 rfl 98 rfl
          have hAp := hAp.add e759
          exact opk_val hAp rfl (r_load1 Try.underlying9 rfl (hAp.get rfl) (Ext.cell hT.chg hx751)) fun _ _ e => ⟨_, e, Chg.refl _ _, fun _ => Eq.refl _⟩
        · intro a760 w761 hE762 hag763 hv764
          have hA760 := hag763 [(2, Sl.v l_3), (8, Sl.v strings_20), (12, Sl.v b_614), (13, .int .i64 i_615)] ⟨rfl, rfl, rfl, rfl, trivial⟩ (by kernel_rfl)
          have e766 : a760.tmps.getD 89 undef = Sl.v b_614 := hv764 0 rfl 89 rfl
          have hA767 := hA760.add e766
          have hC768 : Chg [] w737 w761 := hE762
          have hf769 := Ext.cell hE762 hx745
          have hf770 := Ext.cell hE762 hx751
          refine oneF (c := 6) hA767 rfl (by kernel_rfl) (constF ⟨fun _ _ _ h => by first | exact h | (change _ = _ at h; change _ = _; exact h), fun _ _ _ h => by first | exact h | (change _ = _ at h; change _ = _; exact h), fun _ _ _ h => by first | exact h | (change _ = _ at h; change _ = _; exact h), fun _ _ _ h => by first | exact h | (change _ = _ at h; change _ = _; exact h), fun _ _ _ h => by first | exact h | (change _ = _ at h; change _ = _; exact h), fun _ _ _ h => by first | exact h | (change _ = _ at h; change _ = _; exact h), fun _ _ _ h => by first | exact h | (change _ = _ at h; change _ = _; exact h), fun _ _ _ h => by first | exact h | (change _ = _ at h; change _ = _; exact h), fun _ _ _ h => by first | exact h | (change _ = _ at h; change _ = _; exact h), trivial⟩) ⟨?_, ?_, ?_, ?_, ?_, ?_, ?_, ?_, ?_, trivial⟩ ?_
          · intro a hT
            have hAp := hT.ag hA767 [(8, Sl.v strings_20)] ⟨rfl, trivial⟩ (by kernel_rfl)
            exact opk_val hAp rfl (r_move (hAp.get rfl)) fun _ _ e => ⟨_, e, rfl, fun _ => Eq.refl _⟩
          · intro a hT
            have hAp := hT.ag hA767 [(13, .int .i64 i_615)] ⟨rfl, trivial⟩ (by kernel_rfl)
            exact opk_val hAp rfl (r_move (hAp.get rfl)) fun _ _ e => ⟨_, e, rfl, fun _ => Eq.refl _⟩
          · intro a hT
            have hAp := hT.ag hA767 [] trivial (by kernel_rfl)
            have e771 : a.tmps.getD 90 undef = Sl.v strings_20 := hT.vals 1 rfl 90 rfl
            have hAp := hAp.add e771
            have e772 : a.tmps.getD 91 undef = .int .i64 i_615 := hT.vals 2 rfl 91 rfl
            have hAp := hAp.add e772
            exact opk_val hAp rfl (r_indexAddr (hAp.get rfl) (hAp.get rfl) Try.underlying46 ti_9 hp742.1 hp742.2) fun _ _ e => ⟨_, e, rfl, fun _ => Eq.refl _⟩
          · intro a hT
            have hAp := hT.ag hA767 [] trivial (by kernel_rfl)
            have e773 : a.tmps.getD 92 undef = .pointer (some (p_741.add (i_615.toNat * 1))) := hT.vals 3 rfl 92 rfl
            have hAp := hAp.add e773
            exact opk_val hAp rfl (r_load1 Try.underlying9 rfl (hAp.get rfl) (Ext.cell hT.chg hf769)) fun _ _ e => ⟨_, e, rfl, fun _ => Eq.refl _⟩
          · intro a hT
            have hAp := hT.ag hA767 [] trivial (by kernel_rfl)
            have e774 : a.tmps.getD 93 undef = .string (Bs x_744) := hT.vals 4 rfl 93 rfl
            have hAp := hAp.add e774
            exact opk_val hAp rfl (r_slen (hAp.get rfl) Try.underlying9) fun _ _ e => ⟨_, e, rfl, fun _ => Eq.refl _⟩
          · intro a hT
            have hAp := hT.ag hA767 [(8, Sl.v strings_20)] ⟨rfl, trivial⟩ (by kernel_rfl)
            exact opk_val hAp rfl (r_move (hAp.get rfl)) fun _ _ e => ⟨_, e, rfl, fun _ => Eq.refl _⟩
          · intro a hT
            have hAp := hT.ag hA767 [(13, .int .i64 i_615)] ⟨rfl, trivial⟩ (by kernel_rfl)
            exact opk_val hAp rfl (r_move (hAp.get rfl)) fun _ _ e => ⟨_, e, rfl, fun _ => Eq.refl _⟩
          · intro a hT
            have hAp := hT.ag hA767 [] trivial (by kernel_rfl)
            have e775 : a.tmps.getD 96 undef = Sl.v strings_20 := hT.vals 7 rfl 96 rfl
            have hAp := hAp.add e775
            have e776 : a.tmps.getD 97 undef = .int .i64 i_615 := hT.vals 8 rfl 97 rfl
            have hAp := hAp.add e776
            exact opk_val hAp rfl (r_indexAddr (hAp.get rfl) (hAp.get rfl) Try.underlying46 ti_9 hp748.1 hp748.2) fun _ _ e => ⟨_, e, rfl, fun _ => Eq.refl _⟩
          · intro a hT
            have hAp := hT.ag hA767 [] trivial (by kernel_rfl)
            have e777 : a.tmps.getD 98 undef = .pointer (some (p_747.add (i_615.toNat * 1))) := hT.vals 9 rfl 98 rfl
            have hAp := hAp.add e777
            exact opk_val hAp rfl (r_load1 Try.underlying9 rfl (hAp.get rfl) (Ext.cell hT.chg hf770)) fun _ _ e => ⟨_, e, rfl, fun _ => Eq.refl _⟩
          · intro a778 hT
            have hA778 := hT.ag hA767 [(2, Sl.v l_3), (8, Sl.v strings_20), (12, Sl.v b_614), (13, .int .i64 i_615), (89, Sl.v b_614)] ⟨rfl, rfl, rfl, rfl, rfl, trivial⟩ (by kernel_rfl)
            have e779 : a778.tmps.getD 94 undef = .int .i64 (x_744.length : Int) := hT.vals 5 rfl 94 rfl
            have hA780 := hA778.add e779
            have ht781 := ht752 w761    hC768
            refine (opk_call hA780 rfl (r_call (args := #[Sl.v b_614, .int .i64 (x_744.length : Int)]) Try.func31 (by decide) rfl (map_arr (ml_cons (hA780.get rfl) (ml_cons (hA780.get rfl) ml_nil))) rfl) ht781 fun a783 v789 w784 hA783 heq836 hn786 hz787 hK788 => ?_)
            refine ⟨_, heq836, ?_⟩
            obtain ⟨r_782, rfl, ht785⟩ := hK788
            obtain ⟨hf790, ht791⟩ := ht785
            obtain ⟨hf792, ht793⟩ := ht791
            refine PRF_drop (X := [1, 2, 3, 4, 5]) (Fs' := [7, 8, 9, 10]) hA783 (by kernel_rfl) fun a794 hag795 hv796 => ?_
            have hA794 := hag795 [(2, Sl.v l_3), (8, Sl.v strings_20), (12, Sl.v b_614), (13, .int .i64 i_615), (95, Sl.v r_782)] ⟨rfl, rfl, rfl, rfl, rfl, trivial⟩ (by kernel_rfl)
            refine joinF hA794 (by kernel_rfl) ⟨fun _ _ _ _ h => by first | exact h | (change _ = _ at h; change _ = _; exact h), fun _ _ _ _ h => by first | exact h | (change _ = _ at h; change _ = _; exact h), fun _ _ _ _ h => by first | exact h | (change _ = _ at h; change _ = _; exact h), fun _ _ _ _ h => by first | exact h | (change _ = _ at h; change _ = _; exact h), trivial⟩ ⟨?_, ?_, ?_, ?_, trivial⟩ ?_
            · intro a w hT
              have hAp := hT.ag hA794 [(8, Sl.v strings_20)] ⟨rfl, trivial⟩ (by kernel_rfl)
              exact opk_val hAp rfl (r_move (hAp.get rfl)) fun _ _ e => ⟨_, e, Chg.refl _ _, fun _ => Eq.refl _⟩
            · intro a w hT
              have hAp := hT.ag hA794 [(13, .int .i64 i_615)] ⟨rfl, trivial⟩ (by kernel_rfl)
              exact opk_val hAp rfl (r_move (hAp.get rfl)) fun _ _ e => ⟨_, e, Chg.refl _ _, fun _ => Eq.refl _⟩
            · intro a w hT
              have hAp := hT.ag hA794 [] trivial (by kernel_rfl)
              have e797 : a.tmps.getD 96 undef = Sl.v strings_20 := hT.vals 7 rfl 96 rfl
              have hAp := hAp.add e797
              have e798 : a.tmps.getD 97 undef = .int .i64 i_615 := hT.vals 8 rfl 97 rfl
              have hAp := hAp.add e798
              exact opk_val hAp rfl (r_indexAddr (hAp.get rfl) (hAp.get rfl) Try.underlying46 ti_9 hp748.1 hp748.2) fun _ _ e => ⟨_, e, Chg.refl _ _, fun _ => Eq.refl _⟩
            · intro a w hT
              have hAp := hT.ag hA794 [] trivial (by kernel_rfl)
              have e799 : a.tmps.getD 98 undef = .pointer (some (p_747.add (i_615.toNat * 1))) := hT.vals 9 rfl 98 rfl
              have hAp := hAp.add e799
              exact opk_val hAp rfl (r_load1 Try.underlying9 rfl (hAp.get rfl) (Ext.cell hT.chg hf792)) fun _ _ e => ⟨_, e, Chg.refl _ _, fun _ => Eq.refl _⟩
            · intro a800 w801 hE802 hag803 hv804
              have hA800 := hag803 [(2, Sl.v l_3), (8, Sl.v strings_20), (12, Sl.v b_614), (13, .int .i64 i_615), (95, Sl.v r_782)] ⟨rfl, rfl, rfl, rfl, rfl, trivial⟩ (by kernel_rfl)
              have e805 : a800.tmps.getD 99 undef = .string (Bs x_750) := hv804 10 rfl 99 rfl
              have hA806 := hA800.add e805
              have hC807 : Chg [] w784 w801 := hE802
              have hf808 := Ext.cell hE802 hf792
              have ht809 := ht793 w801    hC807
              refine one (D := [[], [], [], [1, 2], [1, 2, 3], [1, 2, 3, 4], [0, 1, 2, 3, 4, 5], [], [], [7, 8], [7, 8, 9], [0, 1, 2, 3, 4, 5, 6, 7, 8, 9, 10], [0, 1, 2, 3, 4, 5, 6, 7, 8, 9, 10, 11]]) (i := 11) rfl (by kernel_rfl) (opk_run hA806 rfl (fun _ _ hr => r_append (hA806.get rfl) (hA806.get rfl) hr) ht809 fun a810 v816 w811 hA810 _ hn813 hz814 hK815 => ?_)
              obtain ⟨r_817, rfl, ht812⟩ := hK815
              refine par (D := [[], [], [], [1, 2], [1, 2, 3], [1, 2, 3, 4], [0, 1, 2, 3, 4, 5], [], [], [7, 8], [7, 8, 9], [0, 1, 2, 3, 4, 5, 6, 7, 8, 9, 10], [0, 1, 2, 3, 4, 5, 6, 7, 8, 9, 10, 11]]) (S := [12]) (F := []) (V := VL [(12, fun v _ => v = Sl.v r_817)]) hA810 (by kernel_rfl) ⟨fun _ _ _ _ h => by first | exact h | (change _ = _ at h; change _ = _; exact h), trivial⟩ ⟨?_, trivial⟩ ?_
              · intro a w hT
                have hAp := hT.ag hA810 [(100, Sl.v r_817)] ⟨rfl, trivial⟩ (by kernel_rfl)
                exact opk_val hAp rfl (r_assign (hAp.get rfl)) fun _ _ e => ⟨_, e, Chg.refl _ _, fun _ => Eq.refl _⟩
              · intro a818 w819 hE820 hag821 hv822
                have hA818 := hag821 [(2, Sl.v l_3), (8, Sl.v strings_20), (13, .int .i64 i_615)] ⟨rfl, rfl, rfl, trivial⟩ (by kernel_rfl)
                have e824 : a818.tmps.getD 12 undef = Sl.v r_817 := hv822 12 rfl 12 rfl
                have hA825 := hA818.add e824
                have hC826 : Chg [] w811 w819 := hE820
                refine PR_end (by kernel_rfl) ?_
                have hA827 := hA825.keep [(2, Sl.v l_3), (8, Sl.v strings_20), (12, Sl.v r_817), (13, .int .i64 i_615)] ⟨rfl, rfl, rfl, rfl, trivial⟩
                refine block_normal ?_
                refine then_normal ?_
                refine wp_region_lit ?_
                refine sq (opk_val hA827 rfl (r_move (hA827.get rfl)) fun a828 hA828 _ => ?_)
                obtain ⟨hS830, ht831⟩ := ht812
                refine sq (opk_val hA828 rfl (r_addI (hA828.get rfl) rfl hS830) fun a829 hA829 _ => ?_)
                refine sq (opk_val hA829 rfl (r_assign (hA829.get rfl)) fun a832 hA832 _ => ?_)
                refine sq_end ?_
                have hA833 := hA832.keep [(2, Sl.v l_3), (8, Sl.v strings_20), (12, Sl.v r_817), (13, .int .i64 (i_615 + 1))] ⟨rfl, rfl, rfl, rfl, trivial⟩
                have ht834 := ht831 w819    hC826
                have hA835 := hA833.keep [(2, Sl.v l_3), (8, Sl.v strings_20), (12, Sl.v r_817), (13, .int .i64 (i_615 + 1))] ⟨rfl, rfl, rfl, rfl, trivial⟩
                exact then_normal ⟨(r_817, i_615 + 1, w819), ⟨hA835, rfl, ht834.1⟩, ht834.2⟩
      · have ht736 := ht728.2 (of_decide_eq_false hc)
        clear hc
        refine wp_exit ?_
        refine then_exit ?_
        refine then_exit ?_
        refine block_hit ?_
        have hA837 := hA734.keep [(2, Sl.v l_3), (8, Sl.v strings_20), (12, Sl.v b_614)] ⟨rfl, rfl, rfl, trivial⟩
        refine then_normal ?_
        refine wp_seq ?_
        refine wp_region_lit ?_
        refine sq (opk_val hA837 rfl (r_move (hA837.get rfl)) fun a838 hA838 _ => ?_)
        refine sq (opk_val hA838 rfl (r_move (hA838.get rfl)) fun a839 hA839 _ => ?_)
        refine sq (opk_val hA839 rfl (r_len (hA839.get rfl) Try.underlying23) fun a840 hA840 _ => ?_)
        refine sq (opk_call hA840 rfl (r_call (args := #[Sl.v b_614, .int .i64 (l_3.n : Int)]) Try.func31 (by decide) rfl (map_arr (ml_cons (hA840.get rfl) (ml_cons (hA840.get rfl) ml_nil))) rfl) ht736 fun a842 v848 w843 hA842 _ hn845 hz846 hK847 => ?_)
        obtain ⟨r_841, rfl, ht844⟩ := hK847
        refine sq (opk_val hA842 rfl (r_assign (hA842.get rfl)) fun a849 hA849 _ => ?_)
        refine sq_end ?_
        have hA850 := hA849.keep [(2, Sl.v l_3), (8, Sl.v strings_20), (12, Sl.v r_841)] ⟨rfl, rfl, rfl, trivial⟩
        refine then_normal ?_
        refine wp_seq ?_
        refine wp_seq ?_
        refine wp_region_lit ?_
        refine sq (opk_val hA850 rfl (r_assign rfl) fun a851 hA851 _ => ?_)
        refine sq_end ?_
        have hA852 := hA851.keep [(2, Sl.v l_3), (8, Sl.v strings_20), (12, Sl.v r_841), (14, .int .i64 0)] ⟨rfl, rfl, rfl, rfl, trivial⟩
        refine then_normal ?_
        refine wp_block ?_
        obtain ⟨J_856, mu_857, h0897, ht896⟩ := ht844
        refine wp_loop_st (σ := Sl × Int × World) (fun s a w => Ag 127 a [(2, Sl.v l_3), (8, Sl.v strings_20), (12, Sl.v s.1), (14, .int .i64 s.2.1)] ∧ w = s.2.2 ∧ J_856 s.1 s.2.1 s.2.2) (fun s => mu_857 s.1 s.2.1 s.2.2) (r_841, 0, w843) ⟨hA852.keep [(2, Sl.v l_3), (8, Sl.v strings_20), (12, Sl.v r_841), (14, .int .i64 0)] ⟨rfl, rfl, rfl, rfl, trivial⟩, rfl, h0897⟩ ?_
        rintro ⟨b_853, i_854, w855⟩ a895 w_ ⟨hA895, hw_, hJ899⟩
        have hw_ : w855 = w_ := hw_.symm
        subst hw_
        have ht898 := ht896 b_853 i_854 _ hJ899
        refine wp_seq ?_
        refine wp_seq ?_
        refine wp_region_lit ?_
        refine sq (opk_val hA895 rfl (r_move (hA895.get rfl)) fun a900 hA900 _ => ?_)
        refine sq (opk_val hA900 rfl (r_move (hA900.get rfl)) fun a901 hA901 _ => ?_)
        refine sq (opk_val hA901 rfl (r_len (hA901.get rfl) Try.underlying23) fun a902 hA902 _ => ?_)
        refine sq (opk_val hA902 rfl (r_lss (hA902.get rfl) (hA902.get rfl)) fun a903 hA903 _ => ?_)
        refine sq_end ?_
        have hA904 := hA903.keep [(2, Sl.v l_3), (8, Sl.v strings_20), (12, Sl.v b_853), (14, .int .i64 i_854), (108, .bool (decide (i_854 < (l_3.n : Int))))] ⟨rfl, rfl, rfl, rfl, rfl, trivial⟩
        refine then_normal ?_
        refine wp_cond_split (hA904.get rfl) (fun hc => ?_) (fun hc => ?_)
        · have ht905 := ht898.1 (of_decide_eq_true hc)
          clear hc
          refine wp_skip ?_
          refine then_normal ?_
          refine wp_seq ?_
          refine wp_block ?_
          refine wp_region_lit ?_
          refine sq (opk_val hA904 rfl (r_move (hA904.get rfl)) fun a907 hA907 _ => ?_)
          refine sq (opk_val hA907 rfl (r_move (hA907.get rfl)) fun a908 hA908 _ => ?_)
          refine sq (opk_val hA908 rfl (r_move (hA908.get rfl)) fun a909 hA909 _ => ?_)
          obtain ⟨hb911, p_910, hp912, ht913⟩ := ht905
          refine sq (opk_val hA909 rfl (r_indexAddr (hA909.get rfl) (hA909.get rfl) Try.underlying23 ti_42 hb911 hp912) fun a914 hA914 _ => ?_)
          obtain ⟨x_916_Kind, x_916_ID, x_916_Parent, x_916_At, x_916_What, x_916_Name, x_916_Text, hx917, ht918⟩ := ht913
          refine sq (opk_val hA914 rfl (r_loadN Try.underlying42 rfl ti_42 (hA914.get rfl) hx917) fun a915 hA915 _ => ?_)
          refine sq (opk_val hA915 rfl (r_move (hA915.get rfl)) fun a919 hA919 _ => ?_)
          refine sq (opk_call hA919 rfl (r_call (args := #[Sl.v b_853, .agg #[.int .i64 x_916_Kind, .int .i64 x_916_ID, .int .i64 x_916_Parent, .int .i64 x_916_At, .int .i64 x_916_What, .string (Bs x_916_Name), .string (Bs x_916_Text)], Sl.v strings_20]) Try.func32 (by decide) rfl (map_arr (ml_cons (hA919.get rfl) (ml_cons (hA919.get rfl) (ml_cons (hA919.get rfl) ml_nil)))) rfl) ht918 fun a921 v927 w922 hA921 _ hn924 hz925 hK926 => ?_)
          obtain ⟨r_920, rfl, ht923⟩ := hK926
          refine sq (opk_val hA921 rfl (r_assign (hA921.get rfl)) fun a928 hA928 _ => ?_)
          refine sq_end ?_
          have hA929 := hA928.keep [(2, Sl.v l_3), (8, Sl.v strings_20), (12, Sl.v r_920), (14, .int .i64 i_854)] ⟨rfl, rfl, rfl, rfl, trivial⟩
          refine block_normal ?_
          refine then_normal ?_
          refine wp_region_lit ?_
          refine sq (opk_val hA929 rfl (r_move (hA929.get rfl)) fun a930 hA930 _ => ?_)
          obtain ⟨hS932, ht933⟩ := ht923
          refine sq (opk_val hA930 rfl (r_addI (hA930.get rfl) rfl hS932) fun a931 hA931 _ => ?_)
          refine sq (opk_val hA931 rfl (r_assign (hA931.get rfl)) fun a934 hA934 _ => ?_)
          refine sq_end ?_
          have hA935 := hA934.keep [(2, Sl.v l_3), (8, Sl.v strings_20), (12, Sl.v r_920), (14, .int .i64 (i_854 + 1))] ⟨rfl, rfl, rfl, rfl, trivial⟩
          have hA936 := hA935.keep [(2, Sl.v l_3), (8, Sl.v strings_20), (12, Sl.v r_920), (14, .int .i64 (i_854 + 1))] ⟨rfl, rfl, rfl, rfl, trivial⟩
          exact then_normal ⟨(r_920, i_854 + 1, w922), ⟨hA936, rfl, ht933.1⟩, ht933.2⟩
        · have ht906 := ht898.2 (of_decide_eq_false hc)
          clear hc
          refine wp_exit ?_
          refine then_exit ?_
          refine then_exit ?_
          refine block_hit ?_
          have hA937 := hA904.keep [(12, Sl.v b_853)] ⟨rfl, trivial⟩
          refine then_normal ?_
          refine wp_seq ?_
          refine wp_region_lit ?_
          refine sq (opk_val hA937 rfl (r_move (hA937.get rfl)) fun a938 hA938 _ => ?_)
          refine sq (opk_val hA938 rfl (r_move (hA938.get rfl)) fun a939 hA939 _ => ?_)
          refine sq (opk_call hA939 rfl (r_call (args := #[.int .u32 0, Sl.v b_853]) Try.func18 (by decide) rfl (map_arr (ml_cons rfl (ml_cons (hA939.get rfl) ml_nil))) rfl) ht906 fun a941 v947 w942 hA941 _ hn944 hz945 hK946 => ?_)
          obtain ⟨r_940, rfl, ht943⟩ := hK946
          refine sq (opk_call hA941 rfl (r_call (args := #[.int .u32 r_940]) Try.func17 (by decide) rfl (map_arr (ml_cons (hA941.get rfl) ml_nil)) rfl) ht943 fun a949 v955 w950 hA949 _ hn952 hz953 hK954 => ?_)
          obtain ⟨r_948, rfl, ht951⟩ := hK954
          refine sq (opk_run hA949 rfl (fun _ _ hr => r_append (hA949.get rfl) (hA949.get rfl) hr) ht951 fun a956 v962 w957 hA956 _ hn959 hz960 hK961 => ?_)
          obtain ⟨r_963, rfl, ht958⟩ := hK961
          refine sq (opk_val hA956 rfl (r_assign (hA956.get rfl)) fun a964 hA964 _ => ?_)
          refine sq_end ?_
          have hA965 := hA964.keep [(12, Sl.v r_963)] ⟨rfl, trivial⟩
          refine then_normal ?_
          refine wp_seq ?_
          refine wp_seq ?_
          refine wp_region_lit ?_
          refine sq (opk_val hA965 rfl (r_move (hA965.get rfl)) fun a966 hA966 _ => ?_)
          refine sq (opk_val hA966 rfl (r_len (hA966.get rfl) Try.underlying24) fun a967 hA967 _ => ?_)
          refine sq (opk_val hA967 rfl (r_gtr (hA967.get rfl) rfl) fun a968 hA968 _ => ?_)
          refine sq_end ?_
          have hA969 := hA968.keep [(12, Sl.v r_963), (125, .bool (decide (65536 < (r_963.n : Int))))] ⟨rfl, rfl, trivial⟩
          refine then_normal ?_
          refine wp_cond_split (hA969.get rfl) (fun hc => ?_) (fun hc => ?_)
          · have ht970 := ht958.1 (of_decide_eq_true hc)
            clear hc
            refine wp_seq ?_
            refine wp_region_lit ?_
            refine sq (opk_val hA969 rfl (r_assign rfl) fun a972 hA972 _ => ?_)
            refine sq (opk_val hA972 rfl (r_assign rfl) fun a973 hA973 _ => ?_)
            refine sq_end ?_
            have hA974 := hA973.keep [(6, Sl.v Sl.nil), (7, .int .i64 2)] ⟨rfl, rfl, trivial⟩
            refine then_normal ?_
            refine wp_ret ?_
            refine then_ret ?_
            exact res_all (vs := [Sl.v Sl.nil, .int .i64 2]) rfl hA974 ⟨res_of_tmp hA974 rfl, res_of_tmp hA974 rfl, trivial⟩ ht970
          · have ht971 := ht958.2 (of_decide_eq_false hc)
            clear hc
            refine wp_skip ?_
            refine then_normal ?_
            refine wp_seq ?_
            refine wp_region_lit ?_
            refine sq (opk_val hA969 rfl (r_move (hA969.get rfl)) fun a975 hA975 _ => ?_)
            refine sq (opk_val hA975 rfl (r_assign (hA975.get rfl)) fun a976 hA976 _ => ?_)
            refine sq (opk_val hA976 rfl (r_assign rfl) fun a977 hA977 _ => ?_)
            refine sq_end ?_
            have hA978 := hA977.keep [(6, Sl.v r_963), (7, .int .i64 0)] ⟨rfl, rfl, trivial⟩
            refine then_normal ?_
            refine wp_ret ?_
            exact res_all (vs := [Sl.v r_963, .int .i64 0]) rfl hA978 ⟨res_of_tmp hA978 rfl, res_of_tmp hA978 rfl, trivial⟩ ht971

/-- The condition of topiary/topiaryref24.Decode. -/
def ref24_Decode.vc (p_1 : Sl) (R : Value → World → Prop) (w : World) : Prop :=
(I64 ((p_1.n : Int) - 4)) ∧
((65536 < (p_1.n : Int)) →
R (.tuple #[.int .u64 0, .int .u64 0, Sl.v Sl.nil, .int .i64 2]) w) ∧
((¬ (65536 < (p_1.n : Int))) →
(((p_1.n : Int) < 26) →
R (.tuple #[.int .u64 0, .int .u64 0, Sl.v Sl.nil, .int .i64 9]) w) ∧
((¬ ((p_1.n : Int) < 26)) →
∀ (w38 : World), Chg [] w w38 →
((0 : Int) ≤ (p_1.n : Int) - 4 ∧ (p_1.n : Int) - 4 ≤ (p_1.n : Int)) ∧
∃ s_47 : Str, (∀ w' : World, Ext w38 w' → (convert 24 9 (Sl.v (Sl.cut p_1 1 ((p_1.n : Int) - 4).toNat p_1.n p_1.c))).run Try.prog w' = .ok (.string (Bs s_47)) w') ∧
((0 : Int) ≤ (p_1.n : Int) - 4 ∧ (p_1.n : Int) - 4 ≤ (p_1.c : Int)) ∧
∃ (r_55 : Int), (∀ w' : World, Ext w38 w' → Calls Try.prog 18 #[.int .u32 0, Sl.v (Sl.cut p_1 1 0 ((p_1.n : Int) - 4).toNat p_1.c)] w' (Ret fun v w'' => Ext w' w'' ∧ v = .int .u32 r_55)) ∧
∃ V_60 : Sl → World → Prop, (∀ r_59 : Sl, ∀ w' w'' : World, Ext w' w'' → V_60 r_59 w' → V_60 r_59 w'') ∧
(∀ w' : World, Ext w38 w' → Calls Try.prog 17 #[.int .u32 r_55] w' (Ret fun v w'' => Ext w' w'' ∧ ∃ r_59 : Sl, v = Sl.v r_59 ∧ V_60 r_59 w'')) ∧
∃ s_66 : Str, (∀ r_59 : Sl, ∀ w' : World, Ext w38 w' → V_60 r_59 w' → (convert 24 9 (Sl.v r_59)).run Try.prog w' = .ok (.string (Bs s_66)) w') ∧
((s_47 ≠ s_66) →
∀ (w73 : World), Chg [] w38 w73 →
R (.tuple #[.int .u64 0, .int .u64 0, Sl.v Sl.nil, .int .i64 11]) w73) ∧
((¬ (s_47 ≠ s_66)) →
∀ (w90 : World), Chg [] w38 w90 →
((0 : Int) ≤ 4 ∧ (4 : Int) ≤ 12 ∧ 12 ≤ (p_1.c : Int)) ∧
∃ (r_98 : Int), (∀ w' : World, Ext w90 w' → Calls Try.prog 37 #[Sl.v (Sl.cut p_1 1 4 12 p_1.c)] w' (Ret fun v w'' => Ext w' w'' ∧ v = .int .u64 r_98)) ∧
((0 : Int) ≤ 12 ∧ (12 : Int) ≤ 20 ∧ 20 ≤ (p_1.c : Int)) ∧
∃ (r_105 : Int), (∀ w' : World, Ext w90 w' → Calls Try.prog 37 #[Sl.v (Sl.cut p_1 1 12 20 p_1.c)] w' (Ret fun v w'' => Ext w' w'' ∧ v = .int .u64 r_105)) ∧
((0 : Int) ≤ (p_1.n : Int) - 4 ∧ (p_1.n : Int) - 4 ≤ (p_1.c : Int)) ∧
∀ (w129 : World) (B_128 : Nat), New w90 B_128 w129 → Chg [] w90 w129 →
∀ (_ : Box w129 B_128 70 [Sl.v (Sl.cut p_1 1 0 ((p_1.n : Int) - 4).toNat p_1.c), .int .i64 20, .bool false]),
CallK Try.prog 38 #[.pointer (some (⟨B_128, 0, none⟩ : Addr)), .int .i64 (p_1.n : Int)] w129 [] (fun v w147 => ∃ (r_145 : Int), v = .int .i64 r_145 ∧
∃ J_437 : Sl → World → Prop,
(∃ (J_443 : Sl → Int → World → Prop) (mu_444 : Sl → Int → World → Nat),
J_443 Sl.nil r_145 w147 ∧
(∀ (strings_440 : Sl) (k_441 : Int) (w442 : World), J_443 strings_440 k_441 w442 →
∃ (x_591 : Bool), (((0 < k_441)) → w442.cell? ((⟨B_128, 0, none⟩ : Addr).add 2) = some (.bool x_591)) ∧
(((0 < k_441) ∧ (x_591 = false)) →
∀ (w599 : World), Chg [] w442 w599 →
∃ (x_606 : Sl), (w599.cell? ((⟨B_128, 0, none⟩ : Addr).add 0) = some (Sl.v x_606)) ∧
∃ (x_612 : Int), (w599.cell? ((⟨B_128, 0, none⟩ : Addr).add 1) = some (.int .i64 x_612)) ∧
∃ (r_0_619 : Str) (r_1_620 : Int) (r_2_621 : Int), (∀ w' : World, Ext w599 w' → Calls Try.prog 39 #[Sl.v x_606, .int .i64 x_612, .int .i64 (p_1.n : Int)] w' (Ret fun v w'' => Ext w' w'' ∧ v = .tuple #[.string (Bs r_0_619), .int .i64 r_1_620, .int .i64 r_2_621])) ∧
((r_2_621 ≠ 0) →
∀ (w632 : World), Chg [] w599 w632 →
∃ (B_658 o_659 : Nat) (T_660 : TypeId) (cs_661 : List Value), ((⟨B_128, 0, none⟩ : Addr).add 2) = ⟨B_658, o_659, none⟩ ∧ Box w632 B_658 T_660 cs_661 ∧ o_659 + 1 ≤ cs_661.length ∧ (∀ b ∈ [], b ≠ B_658) ∧
(∀ w653 : World, Chg [B_658] w632 w653 → Box w653 B_658 T_660 (putAt cs_661 o_659 [.bool true]) →
J_437 strings_440 w653)) ∧
((¬ (r_2_621 ≠ 0)) →
∀ (w632 : World), Chg [] w599 w632 →
∃ (B_680 o_681 : Nat) (T_682 : TypeId) (cs_683 : List Value), ((⟨B_128, 0, none⟩ : Addr).add 1) = ⟨B_680, o_681, none⟩ ∧ Box w632 B_680 T_682 cs_683 ∧ o_681 + 1 ≤ cs_683.length ∧ (∀ b ∈ [], b ≠ B_680) ∧
(∀ w675 : World, Chg [B_680] w632 w675 → Box w675 B_680 T_682 (putAt cs_683 o_681 [.int .i64 r_1_620]) →
∀ (w694 : World) (B_693 : Nat), New w675 B_693 w694 → Chg [] w675 w694 →
∀ (_ : Box w694 B_693 9 [.string (Bs r_0_619)]),
RunK Try.prog (Builtin.append_ #[46, 46] 46 #[Sl.v strings_440, Sl.v (Sl.mk (some ⟨B_693, 0, none⟩) 1 1)]) w694 [] (fun v w704 => ∃ (r_710 : Sl), v = Sl.v r_710 ∧
(I64 (k_441 - 1)) ∧
J_443 r_710 (k_441 - 1) w704 ∧ mu_444 r_710 (k_441 - 1) w704 < mu_444 strings_440 k_441 w442)))) ∧
(((¬ (0 < k_441)) ∨ (x_591 = true)) →
J_437 strings_440 w442))) ∧
(∀ (strings_435 : Sl) (w436 : World), J_437 strings_435 w436 →
CallK Try.prog 38 #[.pointer (some (⟨B_128, 0, none⟩ : Addr)), .int .i64 1500] w436 [] (fun v w729 => ∃ (r_727 : Int), v = .int .i64 r_727 ∧
∃ (J_740 : Sl → Int → World → Prop) (mu_741 : Sl → Int → World → Nat),
J_740 Sl.nil r_727 w729 ∧
(∀ (l_737 : Sl) (k_738 : Int) (w739 : World), J_740 l_737 k_738 w739 →
∃ (x_807 : Bool), (((0 < k_738)) → w739.cell? ((⟨B_128, 0, none⟩ : Addr).add 2) = some (.bool x_807)) ∧
(((0 < k_738) ∧ (x_807 = false)) →
CallK Try.prog 40 #[.pointer (some (⟨B_128, 0, none⟩ : Addr)), Sl.v strings_435] w739 [] (fun v w820 => ∃ (r_818_Kind : Int) (r_818_ID : Int) (r_818_Parent : Int) (r_818_At : Int) (r_818_What : Int) (r_818_Name : Str) (r_818_Text : Str), v = .agg #[.int .i64 r_818_Kind, .int .i64 r_818_ID, .int .i64 r_818_Parent, .int .i64 r_818_At, .int .i64 r_818_What, .string (Bs r_818_Name), .string (Bs r_818_Text)] ∧
∀ (w827 : World) (B_826 : Nat), New w820 B_826 w827 → Chg [] w820 w827 →
∀ (_ : Box w827 B_826 42 [.int .i64 r_818_Kind, .int .i64 r_818_ID, .int .i64 r_818_Parent, .int .i64 r_818_At, .int .i64 r_818_What, .string (Bs r_818_Name), .string (Bs r_818_Text)]),
RunK Try.prog (Builtin.append_ #[23, 23] 23 #[Sl.v l_737, Sl.v (Sl.mk (some ⟨B_826, 0, none⟩) 1 1)]) w827 [] (fun v w837 => ∃ (r_843 : Sl), v = Sl.v r_843 ∧
(I64 (k_738 - 1)) ∧
J_740 r_843 (k_738 - 1) w837 ∧ mu_741 r_843 (k_738 - 1) w837 < mu_741 l_737 k_738 w739))) ∧
(((¬ (0 < k_738)) ∨ (x_807 = true)) →
CallK Try.prog 12 #[.int .u64 r_98, .int .u64 r_105, Sl.v l_737] w739 [] (fun v w860 => ∃ (r_0_857 : Sl) (r_1_858 : Int), v = .tuple #[Sl.v r_0_857, .int .i64 r_1_858] ∧
∃ (x_876 : Bool), (w860.cell? ((⟨B_128, 0, none⟩ : Addr).add 2) = some (.bool x_876)) ∧
∃ s_885 : Str, ((((x_876 = false) ∧ (¬ (r_1_858 ≠ 0)))) → (convert 24 9 (Sl.v r_0_857)).run Try.prog w860 = .ok (.string (Bs s_885)) w860) ∧
∃ s_890 : Str, ((((x_876 = false) ∧ (¬ (r_1_858 ≠ 0)))) → (convert 24 9 (Sl.v p_1)).run Try.prog w860 = .ok (.string (Bs s_890)) w860) ∧
((((x_876 = true) ∨ (r_1_858 ≠ 0)) ∨ (s_885 ≠ s_890)) →
R (.tuple #[.int .u64 0, .int .u64 0, Sl.v Sl.nil, .int .i64 10]) w860) ∧
((((x_876 = false) ∧ (¬ (r_1_858 ≠ 0))) ∧ (¬ (s_885 ≠ s_890))) →
R (.tuple #[.int .u64 r_98, .int .u64 r_105, Sl.v l_737, .int .i64 0]) w860))))))))))
set_option maxHeartbeats 1000000 in
set_option maxRecDepth 10000 in
theorem ref24_Decode.ok (p_1 : Sl) {R : Value → World → Prop} {w : World} (ht0 : ref24_Decode.vc p_1 R w) : Calls Try.prog 15 #[Sl.v p_1] w (Ret R) := by
  refine enter [Sl.v p_1] Try.func15 rfl Try.ntmps15 rfl ?_
  intro a0 hA0
  unfold ref24_Decode.vc at ht0
  refine wp_seq ?_
  refine wp_region_lit ?_
  refine sq (opk_val hA0 rfl (r_assign rfl) fun a2 hA2 _ => ?_)
  refine sq (opk_val hA2 rfl (r_assign rfl) fun a3 hA3 _ => ?_)
  refine sq (opk_val hA3 rfl (r_assign rfl) fun a4 hA4 _ => ?_)
  refine sq (opk_val hA4 rfl (r_assign rfl) fun a5 hA5 _ => ?_)
  refine sq_end ?_
  have hA6 := hA5.keep [(0, Sl.v p_1)] ⟨rfl, trivial⟩
  refine then_normal ?_
  refine wp_seq ?_
  refine wp_region_lit ?_
  refine sq (opk_val hA6 rfl (r_move (hA6.get rfl)) fun a7 hA7 _ => ?_)
  refine sq (opk_val hA7 rfl (r_len (hA7.get rfl) Try.underlying24) fun a8 hA8 _ => ?_)
  obtain ⟨hS10, ht11⟩ := ht0
  refine sq (opk_val hA8 rfl (r_subI (hA8.get rfl) rfl hS10) fun a9 hA9 _ => ?_)
  refine sq (opk_val hA9 rfl (r_assign (hA9.get rfl)) fun a12 hA12 _ => ?_)
  refine sq_end ?_
  have hA13 := hA12.keep [(0, Sl.v p_1), (6, .int .i64 ((p_1.n : Int) - 4))] ⟨rfl, rfl, trivial⟩
  refine then_normal ?_
  refine wp_seq ?_
  refine wp_block ?_
  refine wp_seq ?_
  refine wp_region_lit ?_
  refine sq (opk_val hA13 rfl (r_move (hA13.get rfl)) fun a14 hA14 _ => ?_)
  refine sq (opk_val hA14 rfl (r_len (hA14.get rfl) Try.underlying24) fun a15 hA15 _ => ?_)
  refine sq (opk_val hA15 rfl (r_gtr (hA15.get rfl) rfl) fun a16 hA16 _ => ?_)
  refine sq (opk_val hA16 rfl (r_assign (hA16.get rfl)) fun a17 hA17 _ => ?_)
  refine sq_end ?_
  have hA18 := hA17.keep [(0, Sl.v p_1), (6, .int .i64 ((p_1.n : Int) - 4)), (22, .bool (decide (65536 < (p_1.n : Int))))] ⟨rfl, rfl, rfl, trivial⟩
  refine then_normal ?_
  refine wp_cond_split (hA18.get rfl) (fun hc => ?_) (fun hc => ?_)
  · have ht19 := ht11.1 (of_decide_eq_true hc)
    clear hc
    refine wp_seq ?_
    refine wp_region_lit ?_
    refine sq (opk_val hA18 rfl (r_assign rfl) fun a21 hA21 _ => ?_)
    refine sq (opk_val hA21 rfl (r_assign rfl) fun a22 hA22 _ => ?_)
    refine sq (opk_val hA22 rfl (r_assign rfl) fun a23 hA23 _ => ?_)
    refine sq (opk_val hA23 rfl (r_assign rfl) fun a24 hA24 _ => ?_)
    refine sq_end ?_
    have hA25 := hA24.keep [(2, .int .u64 0), (3, .int .u64 0), (4, Sl.v Sl.nil), (5, .int .i64 2)] ⟨rfl, rfl, rfl, rfl, trivial⟩
    refine then_normal ?_
    refine wp_ret ?_
    refine block_ret ?_
    refine then_ret ?_
    exact res_all (vs := [.int .u64 0, .int .u64 0, Sl.v Sl.nil, .int .i64 2]) rfl hA25 ⟨res_of_tmp hA25 rfl, res_of_tmp hA25 rfl, res_of_tmp hA25 rfl, res_of_tmp hA25 rfl, trivial⟩ ht19
  · have ht20 := ht11.2 (of_decide_eq_false hc)
    clear hc
    refine wp_seq ?_
    refine wp_region_lit ?_
    refine sq (opk_val hA18 rfl (r_move (hA18.get rfl)) fun a26 hA26 _ => ?_)
    refine sq (opk_val hA26 rfl (r_len (hA26.get rfl) Try.underlying24) fun a27 hA27 _ => ?_)
    refine sq (opk_val hA27 rfl (r_lss (hA27.get rfl) rfl) fun a28 hA28 _ => ?_)
    refine sq (opk_val hA28 rfl (r_assign (hA28.get rfl)) fun a29 hA29 _ => ?_)
    refine sq_end ?_
    have hA30 := hA29.keep [(0, Sl.v p_1), (6, .int .i64 ((p_1.n : Int) - 4)), (26, .bool (decide ((p_1.n : Int) < 26)))] ⟨rfl, rfl, rfl, trivial⟩
    refine then_normal ?_
    refine wp_cond_split (hA30.get rfl) (fun hc => ?_) (fun hc => ?_)
    · have ht31 := ht20.1 (of_decide_eq_true hc)
      clear hc
      refine wp_seq ?_
      refine wp_region_lit ?_
      refine sq (opk_val hA30 rfl (r_assign rfl) fun a33 hA33 _ => ?_)
      refine sq (opk_val hA33 rfl (r_assign rfl) fun a34 hA34 _ => ?_)
      refine sq (opk_val hA34 rfl (r_assign rfl) fun a35 hA35 _ => ?_)
      refine sq (opk_val hA35 rfl (r_assign rfl) fun a36 hA36 _ => ?_)
      refine sq_end ?_
      have hA37 := hA36.keep [(2, .int .u64 0), (3, .int .u64 0), (4, Sl.v Sl.nil), (5, .int .i64 9)] ⟨rfl, rfl, rfl, rfl, trivial⟩
      refine then_normal ?_
      refine wp_ret ?_
      refine block_ret ?_
      refine then_ret ?_
      exact res_all (vs := [.int .u64 0, .int .u64 0, Sl.v Sl.nil, .int .i64 9]) rfl hA37 ⟨res_of_tmp hA37 rfl, res_of_tmp hA37 rfl, res_of_tmp hA37 rfl, res_of_tmp hA37 rfl, trivial⟩ ht31
    · have ht32 := ht20.2 (of_decide_eq_false hc)
      clear hc
      refine wp_seq ?_
      refine draw' (by kernel_rfl) fun w38 hE39 => ?_
      have hC40 : Chg [] w w38 := hE39
      have ht41 := ht32 w38    hC40
      obtain ⟨hS44, ht45⟩ := ht41
      obtain ⟨s_47, hx48, ht49⟩ := ht45
      obtain ⟨hS52, ht53⟩ := ht49
      obtain ⟨r_55, hc56, ht57⟩ := ht53
      obtain ⟨V_60, hst61, hc62, ht63⟩ := ht57
      obtain ⟨s_66, hx67, ht68⟩ := ht63
      refine par (D := [[], [], [0, 1], [0, 1, 2], [], [], [4, 5], [4, 5, 6], [4, 5, 6, 7], [4, 5, 6, 7, 8], [0, 1, 2, 3, 4, 5, 6, 7, 8, 9], [0, 1, 2, 3, 4, 5, 6, 7, 8, 9, 10]]) (S := [0, 1, 2, 3, 4, 5, 6, 7, 8, 9, 10, 11]) (F := []) (V := VL [(0, fun v _ => v = Sl.v p_1), (1, fun v _ => v = .int .i64 ((p_1.n : Int) - 4)), (2, fun v _ => v = Sl.v (Sl.cut p_1 1 ((p_1.n : Int) - 4).toNat p_1.n p_1.c)), (3, fun v _ => v = .string (Bs s_47)), (4, fun v _ => v = Sl.v p_1), (5, fun v _ => v = .int .i64 ((p_1.n : Int) - 4)), (6, fun v _ => v = Sl.v (Sl.cut p_1 1 0 ((p_1.n : Int) - 4).toNat p_1.c)), (7, fun v _ => v = .int .u32 r_55), (8, fun v w' => ∃ r_59 : Sl, V_60 r_59 w' ∧ v = Sl.v r_59), (9, fun v _ => v = .string (Bs s_66)), (10, fun v _ => v = .bool (decide (s_47 ≠ s_66))), (11, fun v _ => v = .bool (decide (s_47 ≠ s_66)))]) hA30 (by kernel_rfl) ⟨fun _ _ _ _ h => by first | exact h | (change _ = _ at h; change _ = _; exact h), fun _ _ _ _ h => by first | exact h | (change _ = _ at h; change _ = _; exact h), fun _ _ _ _ h => by first | exact h | (change _ = _ at h; change _ = _; exact h), fun _ _ _ _ h => by first | exact h | (change _ = _ at h; change _ = _; exact h), fun _ _ _ _ h => by first | exact h | (change _ = _ at h; change _ = _; exact h), fun _ _ _ _ h => by first | exact h | (change _ = _ at h; change _ = _; exact h), fun _ _ _ _ h => by first | exact h | (change _ = _ at h; change _ = _; exact h), fun _ _ _ _ h => by first | exact h | (change _ = _ at h; change _ = _; exact h), fun _ _ _ hE ⟨r_59, h0_, e⟩ => ⟨r_59, (hst61 r_59 _ _ hE h0_), e⟩, fun _ _ _ _ h => by first | exact h | (change _ = _ at h; change _ = _; exact h), fun _ _ _ _ h => by first | exact h | (change _ = _ at h; change _ = _; exact h), fun _ _ _ _ h => by first | exact h | (change _ = _ at h; change _ = _; exact h), trivial⟩ ⟨?_, ?_, ?_, ?_, ?_, ?_, ?_, ?_, ?_, ?_, ?_, ?_, trivial⟩ ?_
      · intro a w hT
        have hAp := hT.ag hA30 [(0, Sl.v p_1)] ⟨rfl, trivial⟩ (by kernel_rfl)
        exact opk_val hAp rfl (r_move (hAp.get rfl)) fun _ _ e => ⟨_, e, Chg.refl _ _, fun _ => Eq.refl _⟩
      · intro a w hT
        have hAp := hT.ag hA30 [(6, .int .i64 ((p_1.n : Int) - 4))] ⟨rfl, trivial⟩ (by kernel_rfl)
        exact opk_val hAp rfl (r_move (hAp.get rfl)) fun _ _ e => ⟨_, e, Chg.refl _ _, fun _ => Eq.refl _⟩
      · intro a w hT
        have hAp := hT.ag hA30 [] trivial (by kernel_rfl)
        have e42 : a.tmps.getD 31 undef = Sl.v p_1 := hT.vals 0 rfl 31 rfl
        have hAp := hAp.add e42
        have e43 : a.tmps.getD 32 undef = .int .i64 ((p_1.n : Int) - 4) := hT.vals 1 rfl 32 rfl
        have hAp := hAp.add e43
        exact opk_val hAp rfl (r_sliceL (hAp.get rfl) (hAp.get rfl) Try.underlying24 ti_5 hS44) fun _ _ e => ⟨_, e, Chg.refl _ _, fun _ => Eq.refl _⟩
      · intro a w hT
        have hAp := hT.ag hA30 [] trivial (by kernel_rfl)
        have e46 : a.tmps.getD 33 undef = Sl.v (Sl.cut p_1 1 ((p_1.n : Int) - 4).toNat p_1.n p_1.c) := hT.vals 2 rfl 33 rfl
        have hAp := hAp.add e46
        exact opk_val hAp rfl (r_convR (hAp.get rfl) (hx48 w hT.chg)) fun _ _ e => ⟨_, e, Chg.refl _ _, fun _ => Eq.refl _⟩
      · intro a w hT
        have hAp := hT.ag hA30 [(0, Sl.v p_1)] ⟨rfl, trivial⟩ (by kernel_rfl)
        exact opk_val hAp rfl (r_move (hAp.get rfl)) fun _ _ e => ⟨_, e, Chg.refl _ _, fun _ => Eq.refl _⟩
      · intro a w hT
        have hAp := hT.ag hA30 [(6, .int .i64 ((p_1.n : Int) - 4))] ⟨rfl, trivial⟩ (by kernel_rfl)
        exact opk_val hAp rfl (r_move (hAp.get rfl)) fun _ _ e => ⟨_, e, Chg.refl _ _, fun _ => Eq.refl _⟩
      · intro a w hT
        have hAp := hT.ag hA30 [] trivial (by kernel_rfl)
        have e50 : a.tmps.getD 35 undef = Sl.v p_1 := hT.vals 4 rfl 35 rfl
        have hAp := hAp.add e50
        have e51 : a.tmps.getD 36 undef = .int .i64 ((p_1.n : Int) - 4) := hT.vals 5 rfl 36 rfl
        have hAp := hAp.add e51
        exact opk_val hAp rfl (r_sliceH (hAp.get rfl) (hAp.get rfl) Try.underlying24 ti_5 hS52) fun _ _ e => ⟨_, e, Chg.refl _ _, fun _ => Eq.refl _⟩
      · intro a w hT
        have hAp := hT.ag hA30 [] trivial (by kernel_rfl)
        have e54 : a.tmps.getD 37 undef = Sl.v (Sl.cut p_1 1 0 ((p_1.n : Int) - 4).toNat p_1.c) := hT.vals 6 rfl 37 rfl
        have hAp := hAp.add e54
        exact opk_callX hAp rfl (r_call (args := #[.int .u32 0, Sl.v (Sl.cut p_1 1 0 ((p_1.n : Int) - 4).toNat p_1.c)]) Try.func18 (by decide) rfl (map_arr (ml_cons rfl (ml_cons (hAp.get rfl) ml_nil))) rfl) (hc56 w hT.chg) fun _ _ _ _ e hR => ⟨_, e, hR.1, fun _ => hR.2⟩
      · intro a w hT
        have hAp := hT.ag hA30 [] trivial (by kernel_rfl)
        have e58 : a.tmps.getD 38 undef = .int .u32 r_55 := hT.vals 7 rfl 38 rfl
        have hAp := hAp.add e58
        exact opk_callX hAp rfl (r_call (args := #[.int .u32 r_55]) Try.func17 (by decide) rfl (map_arr (ml_cons (hAp.get rfl) ml_nil)) rfl) (hc62 w hT.chg) fun _ _ _ _ e ⟨hE, r_59, he, hV⟩ => ⟨_, e, hE, fun _ => ⟨r_59, hV, he⟩⟩
      · intro a w hT
        have hAp := hT.ag hA30 [] trivial (by kernel_rfl)
        obtain ⟨r_59, hf65, e64⟩ := hT.vals 8 rfl 39 rfl
        have hAp := hAp.add e64
        exact opk_val hAp rfl (r_convR (hAp.get rfl) (hx67 r_59 w hT.chg hf65)) fun _ _ e => ⟨_, e, Chg.refl _ _, fun _ => Eq.refl _⟩
      · intro a w hT
        have hAp := hT.ag hA30 [] trivial (by kernel_rfl)
        have e69 : a.tmps.getD 34 undef = .string (Bs s_47) := hT.vals 3 rfl 34 rfl
        have hAp := hAp.add e69
        have e70 : a.tmps.getD 40 undef = .string (Bs s_66) := hT.vals 9 rfl 40 rfl
        have hAp := hAp.add e70
        exact opk_val hAp rfl (r_sneq (hAp.get rfl) (hAp.get rfl)) fun _ _ e => ⟨_, e, Chg.refl _ _, fun _ => Eq.refl _⟩
      · intro a w hT
        have hAp := hT.ag hA30 [] trivial (by kernel_rfl)
        have e71 : a.tmps.getD 41 undef = .bool (decide (s_47 ≠ s_66)) := hT.vals 10 rfl 41 rfl
        have hAp := hAp.add e71
        exact opk_val hAp rfl (r_assign (hAp.get rfl)) fun _ _ e => ⟨_, e, Chg.refl _ _, fun _ => Eq.refl _⟩
      · intro a72 w73 hE74 hag75 hv76
        have hA72 := hag75 [(0, Sl.v p_1), (6, .int .i64 ((p_1.n : Int) - 4))] ⟨rfl, rfl, trivial⟩ (by kernel_rfl)
        have e78 : a72.tmps.getD 30 undef = .bool (decide (s_47 ≠ s_66)) := hv76 11 rfl 30 rfl
        have hA79 := hA72.add e78
        have hC80 : Chg [] w38 w73 := hE74
        refine PR_end (by kernel_rfl) ?_
        have hA81 := hA79.keep [(0, Sl.v p_1), (6, .int .i64 ((p_1.n : Int) - 4)), (30, .bool (decide (s_47 ≠ s_66)))] ⟨rfl, rfl, rfl, trivial⟩
        refine then_normal ?_
        refine wp_cond_split (hA81.get rfl) (fun hc => ?_) (fun hc => ?_)
        · have ht82 := ht68.1 (of_decide_eq_true hc)
          clear hc
          refine wp_seq ?_
          refine wp_region_lit ?_
          refine sq (opk_val hA81 rfl (r_assign rfl) fun a84 hA84 _ => ?_)
          refine sq (opk_val hA84 rfl (r_assign rfl) fun a85 hA85 _ => ?_)
          refine sq (opk_val hA85 rfl (r_assign rfl) fun a86 hA86 _ => ?_)
          refine sq (opk_val hA86 rfl (r_assign rfl) fun a87 hA87 _ => ?_)
          refine sq_end ?_
          have hA88 := hA87.keep [(2, .int .u64 0), (3, .int .u64 0), (4, Sl.v Sl.nil), (5, .int .i64 11)] ⟨rfl, rfl, rfl, rfl, trivial⟩
          refine then_normal ?_
          refine wp_ret ?_
          refine block_ret ?_
          refine then_ret ?_
          have ht89 := ht82 w73    hC80
          exact res_all (vs := [.int .u64 0, .int .u64 0, Sl.v Sl.nil, .int .i64 11]) rfl hA88 ⟨res_of_tmp hA88 rfl, res_of_tmp hA88 rfl, res_of_tmp hA88 rfl, res_of_tmp hA88 rfl, trivial⟩ ht89
        · have ht83 := ht68.2 (of_decide_eq_false hc)
          clear hc
          refine wp_skip ?_
          refine block_normal ?_
          refine then_normal ?_
          refine wp_seq ?_
          refine draw' (by kernel_rfl) fun w90 hE91 => ?_
          have hC92 := hC80.more hE91
          have ht93 := ht83 w90    hC92
          obtain ⟨hS95, ht96⟩ := ht93
          obtain ⟨r_98, hc99, ht100⟩ := ht96
          obtain ⟨hS102, ht103⟩ := ht100
          obtain ⟨r_105, hc106, ht107⟩ := ht103
          refine par (D := [[], [0], [0, 1], [], [3], [0, 1, 2, 3, 4], [0, 1, 2, 3, 4, 5], [0, 1, 2, 3, 4, 5, 6]]) (S := [0, 1, 2, 3, 4, 5, 6, 7]) (F := []) (V := VL [(0, fun v _ => v = Sl.v p_1), (1, fun v _ => v = Sl.v (Sl.cut p_1 1 4 12 p_1.c)), (2, fun v _ => v = .int .u64 r_98), (3, fun v _ => v = Sl.v p_1), (4, fun v _ => v = Sl.v (Sl.cut p_1 1 12 20 p_1.c)), (5, fun v _ => v = .int .u64 r_105), (6, fun v _ => v = .int .u64 r_98), (7, fun v _ => v = .int .u64 r_105)]) hA81 (by kernel_rfl) ⟨fun _ _ _ _ h => by first | exact h | (change _ = _ at h; change _ = _; exact h), fun _ _ _ _ h => by first | exact h | (change _ = _ at h; change _ = _; exact h), fun _ _ _ _ h => by first | exact h | (change _ = _ at h; change _ = _; exact h), fun _ _ _ _ h => by first | exact h | (change _ = _ at h; change _ = _; exact h), fun _ _ _ _ h => by first | exact h | (change _ = _ at h; change _ = _; exact h), fun _ _ _ _ h => by first | exact h | (change _ = _ at h; change _ = _; exact h), fun _ _ _ _ h => by first | exact h | (change _ = _ at h; change _ = _; exact h), fun _ _ _ _ h => by first | exact h | (change _ = _ at h; change _ = _; exact h), trivial⟩ ⟨?_, ?_, ?_, ?_, ?_, ?_, ?_, ?_, trivial⟩ ?_
          · intro a w hT
            have hAp := hT.ag hA81 [(0, Sl.v p_1)] ⟨rfl, trivial⟩ (by kernel_rfl)
            exact opk_val hAp rfl (r_move (hAp.get rfl)) fun _ _ e => ⟨_, e, Chg.refl _ _, fun _ => Eq.refl _⟩
          · intro a w hT
            have hAp := hT.ag hA81 [] trivial (by kernel_rfl)
            have e94 : a.tmps.getD 42 undef = Sl.v p_1 := hT.vals 0 rfl 42 rfl
            have hAp := hAp.add e94
            exact opk_val hAp rfl (r_slice2 (hAp.get rfl) rfl rfl Try.underlying24 ti_5 hS95) fun _ _ e => ⟨_, e, Chg.refl _ _, fun _ => Eq.refl _⟩
          · intro a w hT
            have hAp := hT.ag hA81 [] trivial (by kernel_rfl)
            have e97 : a.tmps.getD 43 undef = Sl.v (Sl.cut p_1 1 4 12 p_1.c) := hT.vals 1 rfl 43 rfl
            have hAp := hAp.add e97
            exact opk_callX hAp rfl (r_call (args := #[Sl.v (Sl.cut p_1 1 4 12 p_1.c)]) Try.func37 (by decide) rfl (map_arr (ml_cons (hAp.get rfl) ml_nil)) rfl) (hc99 w hT.chg) fun _ _ _ _ e hR => ⟨_, e, hR.1, fun _ => hR.2⟩
          · intro a w hT
            have hAp := hT.ag hA81 [(0, Sl.v p_1)] ⟨rfl, trivial⟩ (by kernel_rfl)
            exact opk_val hAp rfl (r_move (hAp.get rfl)) fun _ _ e => ⟨_, e, Chg.refl _ _, fun _ => Eq.refl _⟩
          · intro a w hT
            have hAp := hT.ag hA81 [] trivial (by kernel_rfl)
            have e101 : a.tmps.getD 45 undef = Sl.v p_1 := hT.vals 3 rfl 45 rfl
            have hAp := hAp.add e101
            exact opk_val hAp rfl (r_slice2 (hAp.get rfl) rfl rfl Try.underlying24 ti_5 hS102) fun _ _ e => ⟨_, e, Chg.refl _ _, fun _ => Eq.refl _⟩
          · intro a w hT
            have hAp := hT.ag hA81 [] trivial (by kernel_rfl)
            have e104 : a.tmps.getD 46 undef = Sl.v (Sl.cut p_1 1 12 20 p_1.c) := hT.vals 4 rfl 46 rfl
            have hAp := hAp.add e104
            exact opk_callX hAp rfl (r_call (args := #[Sl.v (Sl.cut p_1 1 12 20 p_1.c)]) Try.func37 (by decide) rfl (map_arr (ml_cons (hAp.get rfl) ml_nil)) rfl) (hc106 w hT.chg) fun _ _ _ _ e hR => ⟨_, e, hR.1, fun _ => hR.2⟩
          · intro a w hT
            have hAp := hT.ag hA81 [] trivial (by kernel_rfl)
            have e108 : a.tmps.getD 44 undef = .int .u64 r_98 := hT.vals 2 rfl 44 rfl
            have hAp := hAp.add e108
            exact opk_val hAp rfl (r_assign (hAp.get rfl)) fun _ _ e => ⟨_, e, Chg.refl _ _, fun _ => Eq.refl _⟩
          · intro a w hT
            have hAp := hT.ag hA81 [] trivial (by kernel_rfl)
            have e109 : a.tmps.getD 47 undef = .int .u64 r_105 := hT.vals 5 rfl 47 rfl
            have hAp := hAp.add e109
            exact opk_val hAp rfl (r_assign (hAp.get rfl)) fun _ _ e => ⟨_, e, Chg.refl _ _, fun _ => Eq.refl _⟩
          · intro a110 w111 hE112 hag113 hv114
            have hA110 := hag113 [(0, Sl.v p_1), (6, .int .i64 ((p_1.n : Int) - 4))] ⟨rfl, rfl, trivial⟩ (by kernel_rfl)
            have e116 : a110.tmps.getD 7 undef = .int .u64 r_98 := hv114 6 rfl 7 rfl
            have hA117 := hA110.add e116
            have e118 : a110.tmps.getD 8 undef = .int .u64 r_105 := hv114 7 rfl 8 rfl
            have hA119 := hA117.add e118
            have hC120 : Chg [] w90 w111 := hE112
            refine PR_end (by kernel_rfl) ?_
            have hA121 := hA119.keep [(0, Sl.v p_1), (6, .int .i64 ((p_1.n : Int) - 4)), (7, .int .u64 r_98), (8, .int .u64 r_105)] ⟨rfl, rfl, rfl, rfl, trivial⟩
            refine then_normal ?_
            refine wp_seq ?_
            refine wp_region_lit ?_
            refine sq (opk_val hA121 rfl (r_move (hA121.get rfl)) fun a122 hA122 _ => ?_)
            refine sq (opk_val hA122 rfl (r_move (hA122.get rfl)) fun a123 hA123 _ => ?_)
            obtain ⟨hS125, ht126⟩ := ht107
            refine sq (opk_val hA123 rfl (r_sliceH (hA123.get rfl) (hA123.get rfl) Try.underlying24 ti_5 hS125) fun a124 hA124 _ => ?_)
            refine sq (opk_val hA124 rfl (r_build (vs := #[(0, Sl.v (Sl.cut p_1 1 0 ((p_1.n : Int) - 4).toNat p_1.c)), (1, .int .i64 20)]) (cells := #[Sl.v (Sl.cut p_1 1 0 ((p_1.n : Int) - 4).toNat p_1.c), .int .i64 20, .bool false]) (map_arr2 (ml2_cons (hA124.get rfl) (ml2_cons rfl (ml2_nil)))) ti_70 Try.underlying70 pl_70 (by kernel_rfl)) fun a127 hA127 _ => ?_)
            refine sq (opk_new (fun B => .pointer (some ⟨B, 0, none⟩)) hA127 rfl (r_box (cs := [Sl.v (Sl.cut p_1 1 0 ((p_1.n : Int) - 4).toNat p_1.c), .int .i64 20, .bool false]) (hA127.get rfl) rfl) fun a130 w129 B_128 hE131 hN132 hB133 hA130 _ => ?_)
            have hN134 := New.of hC120 hN132
            have hC135 := hC120.more hE131
            refine sq (opk_val hA130 rfl (r_assign (hA130.get rfl)) fun a136 hA136 _ => ?_)
            refine sq_end ?_
            have hA137 := hA136.keep [(0, Sl.v p_1), (7, .int .u64 r_98), (8, .int .u64 r_105), (9, .pointer (some (⟨B_128, 0, none⟩ : Addr)))] ⟨rfl, rfl, rfl, rfl, trivial⟩
            refine then_normal ?_
            refine wp_seq ?_
            refine wp_region_lit ?_
            refine sq (opk_val hA137 rfl (r_assign rfl) fun a138 hA138 _ => ?_)
            refine sq_end ?_
            have hA139 := hA138.keep [(0, Sl.v p_1), (7, .int .u64 r_98), (8, .int .u64 r_105), (9, .pointer (some (⟨B_128, 0, none⟩ : Addr))), (10, Sl.v Sl.nil)] ⟨rfl, rfl, rfl, rfl, rfl, trivial⟩
            refine then_normal ?_
            refine wp_seq ?_
            refine wp_seq ?_
            refine wp_region_lit ?_
            refine sq (opk_val hA139 rfl (r_move (hA139.get rfl)) fun a140 hA140 _ => ?_)
            refine sq (opk_val hA140 rfl (r_move (hA140.get rfl)) fun a141 hA141 _ => ?_)
            refine sq (opk_val hA141 rfl (r_len (hA141.get rfl) Try.underlying24) fun a142 hA142 _ => ?_)
            have ht143 := ht126 w129 B_128 hN134  hC135
            have ht144 := ht143 hB133
            refine sq (opk_call hA142 rfl (r_call (args := #[.pointer (some (⟨B_128, 0, none⟩ : Addr)), .int .i64 (p_1.n : Int)]) Try.func38 (by decide) rfl (map_arr (ml_cons (hA142.get rfl) (ml_cons (hA142.get rfl) ml_nil))) rfl) ht144 fun a146 v152 w147 hA146 _ hn149 hz150 hK151 => ?_)
            obtain ⟨r_145, rfl, ht148⟩ := hK151
            refine sq (opk_val hA146 rfl (r_assign (hA146.get rfl)) fun a153 hA153 _ => ?_)
            refine sq_end ?_
            have hA154 := hA153.keep [(0, Sl.v p_1), (7, .int .u64 r_98), (8, .int .u64 r_105), (9, .pointer (some (⟨B_128, 0, none⟩ : Addr))), (10, Sl.v Sl.nil), (11, .int .i64 r_145)] ⟨rfl, rfl, rfl, rfl, rfl, rfl, trivial⟩
            refine then_normal ?_
            obtain ⟨J_437, ht438, hr439⟩ := ht148
            refine wp_meet (fun a w => ∃ strings_435 : Sl, Ag 140 a [(0, Sl.v p_1), (7, .int .u64 r_98), (8, .int .u64 r_105), (9, .pointer (some (⟨B_128, 0, none⟩ : Addr))), (10, Sl.v strings_435)] ∧ J_437 strings_435 w) ?_ ?_
            · refine wp_block ?_
              obtain ⟨J_443, mu_444, h0581, ht580⟩ := ht438
              refine wp_loop_st (σ := Sl × Int × World) (fun s a w => Ag 140 a [(0, Sl.v p_1), (7, .int .u64 r_98), (8, .int .u64 r_105), (9, .pointer (some (⟨B_128, 0, none⟩ : Addr))), (10, Sl.v s.1), (11, .int .i64 s.2.1)] ∧ w = s.2.2 ∧ J_443 s.1 s.2.1 s.2.2) (fun s => mu_444 s.1 s.2.1 s.2.2) (Sl.nil, r_145, w147) ⟨hA154.keep [(0, Sl.v p_1), (7, .int .u64 r_98), (8, .int .u64 r_105), (9, .pointer (some (⟨B_128, 0, none⟩ : Addr))), (10, Sl.v Sl.nil), (11, .int .i64 r_145)] ⟨rfl, rfl, rfl, rfl, rfl, rfl, trivial⟩, rfl, h0581⟩ ?_
              rintro ⟨strings_440, k_441, w442⟩ a579 w_ ⟨hA579, hw_, hJ583⟩
              have hw_ : w442 = w_ := hw_.symm
              subst hw_
              have ht582 := ht580 strings_440 k_441 _ hJ583
              refine wp_seq ?_
              refine wp_seq ?_
              refine wp_region_lit ?_
              refine sq (opk_val hA579 rfl (r_move (hA579.get rfl)) fun a584 hA584 _ => ?_)
              refine sq (opk_val hA584 rfl (r_gtr (hA584.get rfl) rfl) fun a585 hA585 _ => ?_)
              refine sq (opk_val hA585 rfl (r_move (hA585.get rfl)) fun a586 hA586 _ => ?_)
              refine sq (opk_gval hA586 rfl rfl (g := true) (e := (decide (0 < k_441))) rfl (fun hg => r_move (hA586.get rfl)) fun a587 hA587 _ => ?_)
              refine sq (opk_gval hA587 rfl rfl (g := true) (e := (decide (0 < k_441))) rfl (fun hg => r_nilCheck (cv_get (hA587.get rfl) hg)) fun a588 hA588 _ => ?_)
              refine sq (opk_gval hA588 rfl rfl (g := true) (e := (decide (0 < k_441))) rfl (fun hg => r_fieldAddr (cv_get (hA588.get rfl) hg) Try.underlying70 rfl ti_4 (by decide)) fun a589 hA589 _ => ?_)
              obtain ⟨x_591, hx592, ht593⟩ := ht582
              refine sq (opk_gval hA589 rfl rfl (g := true) (e := (decide (0 < k_441))) rfl (fun hg => r_load1 Try.underlying4 rfl (cv_get (hA589.get rfl) hg) (hx592 (of_decide_eq_true (g_t hg)))) fun a590 hA590 _ => ?_)
              refine sq (opk_gval hA590 rfl rfl (g := true) (e := (decide (0 < k_441))) rfl (fun hg => r_not (cv_get (hA590.get rfl) hg)) fun a594 hA594 _ => ?_)
              refine sq (opk_val hA594 rfl (r_pick_and (g := (true && ((decide (0 < k_441)) == true))) (hA594.get rfl) (hA594.get rfl) (fun he => g_mkt rfl he)) fun a595 hA595 _ => ?_)
              refine sq_end ?_
              have hA596 := hA595.keep [(0, Sl.v p_1), (7, .int .u64 r_98), (8, .int .u64 r_105), (9, .pointer (some (⟨B_128, 0, none⟩ : Addr))), (10, Sl.v strings_440), (11, .int .i64 k_441), (65, .bool ((decide (0 < k_441)) && (!x_591)))] ⟨rfl, rfl, rfl, rfl, rfl, rfl, rfl, trivial⟩
              refine then_normal ?_
              refine wp_cond_split (hA596.get rfl) (fun hc => ?_) (fun hc => ?_)
              · have ht597 := ht593.1 ⟨(of_decide_eq_true (b_and_t hc).1), (b_not_t (b_and_t hc).2)⟩
                clear hc
                refine wp_skip ?_
                refine then_normal ?_
                refine wp_seq ?_
                refine wp_block ?_
                refine wp_seq ?_
                refine draw' (by kernel_rfl) fun w599 hE600 => ?_
                have hC601 : Chg [] w442 w599 := hE600
                have ht602 := ht597 w599    hC601
                obtain ⟨x_606, hx607, ht608⟩ := ht602
                obtain ⟨x_612, hx613, ht614⟩ := ht608
                obtain ⟨r_0_619, r_1_620, r_2_621, hc622, ht623⟩ := ht614
                refine par (D := [[], [0], [0, 1], [0, 1, 2], [], [4], [4, 5], [4, 5, 6], [], [8], [0, 1, 2, 3, 4, 5, 6, 7, 8, 9], [0, 1, 2, 3, 4, 5, 6, 7, 8, 9, 10], [0, 1, 2, 3, 4, 5, 6, 7, 8, 9, 10, 11], [0, 1, 2, 3, 4, 5, 6, 7, 8, 9, 10, 11], [0, 1, 2, 3, 4, 5, 6, 7, 8, 9, 10, 11], [0, 1, 2, 3, 4, 5, 6, 7, 8, 9, 10, 11, 12], [0, 1, 2, 3, 4, 5, 6, 7, 8, 9, 10, 11, 12, 13, 15], [0, 1, 2, 3, 4, 5, 6, 7, 8, 9, 10, 11, 12, 13, 14, 15, 16]]) (S := [0, 1, 2, 3, 4, 5, 6, 7, 8, 9, 10, 11, 12, 13, 14, 15, 16, 17]) (F := []) (V := VL [(0, fun v _ => v = .pointer (some (⟨B_128, 0, none⟩ : Addr))), (1, fun v _ => v = .pointer (some (⟨B_128, 0, none⟩ : Addr))), (2, fun v _ => v = .pointer (some ((⟨B_128, 0, none⟩ : Addr).add 0))), (3, fun v _ => v = Sl.v x_606), (4, fun v _ => v = .pointer (some (⟨B_128, 0, none⟩ : Addr))), (5, fun v _ => v = .pointer (some (⟨B_128, 0, none⟩ : Addr))), (6, fun v _ => v = .pointer (some ((⟨B_128, 0, none⟩ : Addr).add 1))), (7, fun v _ => v = .int .i64 x_612), (8, fun v _ => v = Sl.v p_1), (9, fun v _ => v = .int .i64 (p_1.n : Int)), (10, fun v _ => v = .tuple #[.string (Bs r_0_619), .int .i64 r_1_620, .int .i64 r_2_621]), (11, fun v _ => v = .tuple #[.string (Bs r_0_619), .int .i64 r_1_620, .int .i64 r_2_621]), (12, fun v _ => v = .string (Bs r_0_619)), (13, fun v _ => v = .int .i64 r_1_620), (14, fun v _ => v = .int .i64 r_2_621), (15, fun v _ => v = .string (Bs r_0_619)), (16, fun v _ => v = .int .i64 r_1_620), (17, fun v _ => v = .int .i64 r_2_621)]) hA596 (by kernel_rfl) ⟨fun _ _ _ _ h => by first | exact h | (change _ = _ at h; change _ = _; exact h), fun _ _ _ _ h => by first | exact h | (change _ = _ at h; change _ = _; exact h), fun _ _ _ _ h => by first | exact h | (change _ = _ at h; change _ = _; exact h), fun _ _ _ _ h => by first | exact h | (change _ = _ at h; change _ = _; exact h), fun _ _ _ _ h => by first | exact h | (change _ = _ at h; change _ = _; exact h), fun _ _ _ _ h => by first | exact h | (change _ = _ at h; change _ = _; exact h), fun _ _ _ _ h => by first | exact h | (change _ = _ at h; change _ = _; exact h), fun _ _ _ _ h => by first | exact h | (change _ = _ at h; change _ = _; exact h), fun _ _ _ _ h => by first | exact h | (change _ = _ at h; change _ = _; exact h), fun _ _ _ _ h => by first | exact h | (change _ = _ at h; change _ = _; exact h), fun _ _ _ _ h => by first | exact h | (change _ = _ at h; change _ = _; exact h), fun _ _ _ _ h => by first | exact h | (change _ = _ at h; change _ = _; exact h), fun _ _ _ _ h => by first | exact h | (change _ = _ at h; change _ = _; exact h), fun _ _ _ _ h => by first | exact h | (change _ = _ at h; change _ = _; exact h), fun _ _ _ _ h => by first | exact h | (change _ = _ at h; change _ = _; exact h), fun _ _ _ _ h => by first | exact h | (change _ = _ at h; change _ = _; exact h), fun _ _ _ _ h => by first | exact h | (change _ = _ at h; change _ = _; exact h), fun _ _ _ _ h => by first | exact h | (change _ = _ at h; change _ = _; exact h), trivial⟩ ⟨?_, ?_, ?_, ?_, ?_, ?_, ?_, ?_, ?_, ?_, ?_, ?_, ?_, ?_, ?_, ?_, ?_, ?_, trivial⟩ ?_
                · intro a w hT
                  have hAp := hT.ag hA596 [(9, .pointer (some (⟨B_128, 0, none⟩ : Addr)))] ⟨rfl, trivial⟩ (by kernel_rfl)
                  exact opk_val hAp rfl (r_move (hAp.get rfl)) fun _ _ e => ⟨_, e, Chg.refl _ _, fun _ => Eq.refl _⟩
                · intro a w hT
                  have hAp := hT.ag hA596 [] trivial (by kernel_rfl)
                  have e603 : a.tmps.getD 69 undef = .pointer (some (⟨B_128, 0, none⟩ : Addr)) := hT.vals 0 rfl 69 rfl
                  have hAp := hAp.add e603
                  exact opk_val hAp rfl (r_nilCheck (hAp.get rfl)) fun _ _ e => ⟨_, e, Chg.refl _ _, fun _ => Eq.refl _⟩
                · intro a w hT
                  have hAp := hT.ag hA596 [] trivial (by kernel_rfl)
                  have e604 : a.tmps.getD 70 undef = .pointer (some (⟨B_128, 0, none⟩ : Addr)) := hT.vals 1 rfl 70 rfl
                  have hAp := hAp.add e604
                  exact opk_val hAp rfl (r_fieldAddr (hAp.get rfl) Try.underlying70 rfl ti_24 (by decide)) fun _ _ e => ⟨_, e, Chg.refl _ _, fun _ => Eq.refl _⟩
                · intro a w hT
                  have hAp := hT.ag hA596 [] trivial (by kernel_rfl)
                  have e605 : a.tmps.getD 71 undef = .pointer (some ((⟨B_128, 0, none⟩ : Addr).add 0)) := hT.vals 2 rfl 71 rfl
                  have hAp := hAp.add e605
                  exact opk_val hAp rfl (r_load1 Try.underlying24 rfl (hAp.get rfl) (Ext.cell hT.chg hx607)) fun _ _ e => ⟨_, e, Chg.refl _ _, fun _ => Eq.refl _⟩
                · intro a w hT
                  have hAp := hT.ag hA596 [(9, .pointer (some (⟨B_128, 0, none⟩ : Addr)))] ⟨rfl, trivial⟩ (by kernel_rfl)
                  exact opk_val hAp rfl (r_move (hAp.get rfl)) fun _ _ e => ⟨_, e, Chg.refl _ _, fun _ => Eq.refl _⟩
                · intro a w hT
                  have hAp := hT.ag hA596 [] trivial (by kernel_rfl)
                  have e609 : a.tmps.getD 73 undef = .pointer (some (⟨B_128, 0, none⟩ : Addr)) := hT.vals 4 rfl 73 rfl
                  have hAp := hAp.add e609
                  exact opk_val hAp rfl (r_nilCheck (hAp.get rfl)) fun _ _ e => ⟨_, e, Chg.refl _ _, fun _ => Eq.refl _⟩
                · intro a w hT
                  have hAp := hT.ag hA596 [] trivial (by kernel_rfl)
                  have e610 : a.tmps.getD 74 undef = .pointer (some (⟨B_128, 0, none⟩ : Addr)) := hT.vals 5 rfl 74 rfl
                  have hAp := hAp.add e610
                  exact opk_val hAp rfl (r_fieldAddr (hAp.get rfl) Try.underlying70 rfl ti_3 (by decide)) fun _ _ e => ⟨_, e, Chg.refl _ _, fun _ => Eq.refl _⟩
                · intro a w hT
                  have hAp := hT.ag hA596 [] trivial (by kernel_rfl)
                  have e611 : a.tmps.getD 75 undef = .pointer (some ((⟨B_128, 0, none⟩ : Addr).add 1)) := hT.vals 6 rfl 75 rfl
                  have hAp := hAp.add e611
                  exact opk_val hAp rfl (r_load1 Try.underlying3 rfl (hAp.get rfl) (Ext.cell hT.chg hx613)) fun _ _ e => ⟨_, e, Chg.refl _ _, fun _ => Eq.refl _⟩
                · intro a w hT
                  have hAp := hT.ag hA596 [(0, Sl.v p_1)] ⟨rfl, trivial⟩ (by kernel_rfl)
                  exact opk_val hAp rfl (r_move (hAp.get rfl)) fun _ _ e => ⟨_, e, Chg.refl _ _, fun _ => Eq.refl _⟩
                · intro a w hT
                  have hAp := hT.ag hA596 [] trivial (by kernel_rfl)
                  have e615 : a.tmps.getD 77 undef = Sl.v p_1 := hT.vals 8 rfl 77 rfl
                  have hAp := hAp.add e615
                  exact opk_val hAp rfl (r_len (hAp.get rfl) Try.underlying24) fun _ _ e => ⟨_, e, Chg.refl _ _, fun _ => Eq.refl _⟩
                · intro a w hT
                  have hAp := hT.ag hA596 [] trivial (by kernel_rfl)
                  have e616 : a.tmps.getD 72 undef = Sl.v x_606 := hT.vals 3 rfl 72 rfl
                  have hAp := hAp.add e616
                  have e617 : a.tmps.getD 76 undef = .int .i64 x_612 := hT.vals 7 rfl 76 rfl
                  have hAp := hAp.add e617
                  have e618 : a.tmps.getD 78 undef = .int .i64 (p_1.n : Int) := hT.vals 9 rfl 78 rfl
                  have hAp := hAp.add e618
                  exact opk_callX hAp rfl (r_call (args := #[Sl.v x_606, .int .i64 x_612, .int .i64 (p_1.n : Int)]) Try.func39 (by decide) rfl (map_arr (ml_cons (hAp.get rfl) (ml_cons (hAp.get rfl) (ml_cons (hAp.get rfl) ml_nil)))) rfl) (hc622 w hT.chg) fun _ _ _ _ e hR => ⟨_, e, hR.1, fun _ => hR.2⟩
                · intro a w hT
                  have hAp := hT.ag hA596 [] trivial (by kernel_rfl)
                  have e624 : a.tmps.getD 79 undef = .tuple #[.string (Bs r_0_619), .int .i64 r_1_620, .int .i64 r_2_621] := hT.vals 10 rfl 79 rfl
                  have hAp := hAp.add e624
                  exact opk_val hAp rfl (r_move (hAp.get rfl)) fun _ _ e => ⟨_, e, Chg.refl _ _, fun _ => Eq.refl _⟩
                · intro a w hT
                  have hAp := hT.ag hA596 [] trivial (by kernel_rfl)
                  have e625 : a.tmps.getD 68 undef = .tuple #[.string (Bs r_0_619), .int .i64 r_1_620, .int .i64 r_2_621] := hT.vals 11 rfl 68 rfl
                  have hAp := hAp.add e625
                  exact opk_val hAp rfl (r_extract (hAp.get rfl) rfl) fun _ _ e => ⟨_, e, Chg.refl _ _, fun _ => Eq.refl _⟩
                · intro a w hT
                  have hAp := hT.ag hA596 [] trivial (by kernel_rfl)
                  have e626 : a.tmps.getD 68 undef = .tuple #[.string (Bs r_0_619), .int .i64 r_1_620, .int .i64 r_2_621] := hT.vals 11 rfl 68 rfl
                  have hAp := hAp.add e626
                  exact opk_val hAp rfl (r_extract (hAp.get rfl) rfl) fun _ _ e => ⟨_, e, Chg.refl _ _, fun _ => Eq.refl _⟩
                · intro a w hT
                  have hAp := hT.ag hA596 [] trivial (by kernel_rfl)
                  have e627 : a.tmps.getD 68 undef = .tuple #[.string (Bs r_0_619), .int .i64 r_1_620, .int .i64 r_2_621] := hT.vals 11 rfl 68 rfl
                  have hAp := hAp.add e627
                  exact opk_val hAp rfl (r_extract (hAp.get rfl) rfl) fun _ _ e => ⟨_, e, Chg.refl _ _, fun _ => Eq.refl _⟩
                · intro a w hT
                  have hAp := hT.ag hA596 [] trivial (by kernel_rfl)
                  have e628 : a.tmps.getD 80 undef = .string (Bs r_0_619) := hT.vals 12 rfl 80 rfl
                  have hAp := hAp.add e628
                  exact opk_val hAp rfl (r_assign (hAp.get rfl)) fun _ _ e => ⟨_, e, Chg.refl _ _, fun _ => Eq.refl _⟩
                · intro a w hT
                  have hAp := hT.ag hA596 [] trivial (by kernel_rfl)
                  have e629 : a.tmps.getD 81 undef = .int .i64 r_1_620 := hT.vals 13 rfl 81 rfl
                  have hAp := hAp.add e629
                  exact opk_val hAp rfl (r_assign (hAp.get rfl)) fun _ _ e => ⟨_, e, Chg.refl _ _, fun _ => Eq.refl _⟩
                · intro a w hT
                  have hAp := hT.ag hA596 [] trivial (by kernel_rfl)
                  have e630 : a.tmps.getD 82 undef = .int .i64 r_2_621 := hT.vals 14 rfl 82 rfl
                  have hAp := hAp.add e630
                  exact opk_val hAp rfl (r_assign (hAp.get rfl)) fun _ _ e => ⟨_, e, Chg.refl _ _, fun _ => Eq.refl _⟩
                · intro a631 w632 hE633 hag634 hv635
                  have hA631 := hag634 [(0, Sl.v p_1), (7, .int .u64 r_98), (8, .int .u64 r_105), (9, .pointer (some (⟨B_128, 0, none⟩ : Addr))), (10, Sl.v strings_440), (11, .int .i64 k_441)] ⟨rfl, rfl, rfl, rfl, rfl, rfl, trivial⟩ (by kernel_rfl)
                  have e637 : a631.tmps.getD 12 undef = .string (Bs r_0_619) := hv635 15 rfl 12 rfl
                  have hA638 := hA631.add e637
                  have e639 : a631.tmps.getD 13 undef = .int .i64 r_1_620 := hv635 16 rfl 13 rfl
                  have hA640 := hA638.add e639
                  have e641 : a631.tmps.getD 14 undef = .int .i64 r_2_621 := hv635 17 rfl 14 rfl
                  have hA642 := hA640.add e641
                  have hC643 : Chg [] w599 w632 := hE633
                  refine PR_end (by kernel_rfl) ?_
                  have hA644 := hA642.keep [(0, Sl.v p_1), (7, .int .u64 r_98), (8, .int .u64 r_105), (9, .pointer (some (⟨B_128, 0, none⟩ : Addr))), (10, Sl.v strings_440), (11, .int .i64 k_441), (12, .string (Bs r_0_619)), (13, .int .i64 r_1_620), (14, .int .i64 r_2_621)] ⟨rfl, rfl, rfl, rfl, rfl, rfl, rfl, rfl, rfl, trivial⟩
                  refine then_normal ?_
                  refine wp_seq ?_
                  refine wp_seq ?_
                  refine wp_region_lit ?_
                  refine sq (opk_val hA644 rfl (r_move (hA644.get rfl)) fun a645 hA645 _ => ?_)
                  refine sq (opk_val hA645 rfl (r_neq (hA645.get rfl) rfl) fun a646 hA646 _ => ?_)
                  refine sq_end ?_
                  have hA647 := hA646.keep [(0, Sl.v p_1), (7, .int .u64 r_98), (8, .int .u64 r_105), (9, .pointer (some (⟨B_128, 0, none⟩ : Addr))), (10, Sl.v strings_440), (11, .int .i64 k_441), (12, .string (Bs r_0_619)), (13, .int .i64 r_1_620), (84, .bool (decide (r_2_621 ≠ 0)))] ⟨rfl, rfl, rfl, rfl, rfl, rfl, rfl, rfl, rfl, trivial⟩
                  refine then_normal ?_
                  refine wp_cond_split (hA647.get rfl) (fun hc => ?_) (fun hc => ?_)
                  · have ht648 := ht623.1 (of_decide_eq_true hc)
                    clear hc
                    refine wp_seq ?_
                    refine wp_region_lit ?_
                    refine sq (opk_val hA647 rfl (r_move (hA647.get rfl)) fun a650 hA650 _ => ?_)
                    refine sq (opk_val hA650 rfl (r_nilCheck (hA650.get rfl)) fun a651 hA651 _ => ?_)
                    refine sq (opk_val hA651 rfl (r_fieldAddr (hA651.get rfl) Try.underlying70 rfl ti_4 (by decide)) fun a652 hA652 _ => ?_)
                    have ht657 := ht648 w632    hC643
                    obtain ⟨B_658, o_659, T_660, cs_661, he662, hb663, hl664, hx665, ht666⟩ := ht657
                    refine sq (opk_store hA652 hb663 (r_store (vs := [.bool true]) (((hA652.get rfl)).trans (congrArg (fun a => Value.pointer (some a)) he662)) rfl rfl ti_4 hb663 (Nat.ble_eq_true_of_le hl664) (ones_all [.bool true] rfl)) fun a654 w653 hS655 hB656 hA654 => ?_)
                    have ht667 := ht666 w653 hS655 hB656
                    refine sq_end ?_
                    have hA668 := hA654.keep [(0, Sl.v p_1), (7, .int .u64 r_98), (8, .int .u64 r_105), (9, .pointer (some (⟨B_128, 0, none⟩ : Addr))), (10, Sl.v strings_440)] ⟨rfl, rfl, rfl, rfl, rfl, trivial⟩
                    refine then_normal ?_
                    refine wp_exit ?_
                    refine then_exit ?_
                    refine block_miss rfl ?_
                    refine then_exit ?_
                    refine then_exit ?_
                    refine block_hit ?_
                    have hA669 := hA668.keep [(0, Sl.v p_1), (7, .int .u64 r_98), (8, .int .u64 r_105), (9, .pointer (some (⟨B_128, 0, none⟩ : Addr))), (10, Sl.v strings_440)] ⟨rfl, rfl, rfl, rfl, rfl, trivial⟩
                    have hA670 := hA669.keep [(0, Sl.v p_1), (7, .int .u64 r_98), (8, .int .u64 r_105), (9, .pointer (some (⟨B_128, 0, none⟩ : Addr))), (10, Sl.v strings_440)] ⟨rfl, rfl, rfl, rfl, rfl, trivial⟩
                    exact then_normal ⟨strings_440, hA670, ht667⟩
                  · have ht649 := ht623.2 (of_decide_eq_false hc)
                    clear hc
                    refine wp_skip ?_
                    refine then_normal ?_
                    refine wp_seq ?_
                    refine wp_region_lit ?_
                    refine sq (opk_val hA647 rfl (r_move (hA647.get rfl)) fun a671 hA671 _ => ?_)
                    refine sq (opk_val hA671 rfl (r_move (hA671.get rfl)) fun a672 hA672 _ => ?_)
                    refine sq (opk_val hA672 rfl (r_nilCheck (hA672.get rfl)) fun a673 hA673 _ => ?_)
                    refine sq (opk_val hA673 rfl (r_fieldAddr (hA673.get rfl) Try.underlying70 rfl ti_3 (by decide)) fun a674 hA674 _ => ?_)
                    have ht679 := ht649 w632    hC643
                    obtain ⟨B_680, o_681, T_682, cs_683, he684, hb685, hl686, hx687, ht688⟩ := ht679
                    refine sq (opk_store hA674 hb685 (r_store (vs := [.int .i64 r_1_620]) (((hA674.get rfl)).trans (congrArg (fun a => Value.pointer (some a)) he684)) (hA674.get rfl) rfl ti_3 hb685 (Nat.ble_eq_true_of_le hl686) (ones_all [.int .i64 r_1_620] rfl)) fun a676 w675 hS677 hB678 hA676 => ?_)
                    have ht689 := ht688 w675 hS677 hB678
                    refine sq_end ?_
                    have hA690 := hA676.keep [(0, Sl.v p_1), (7, .int .u64 r_98), (8, .int .u64 r_105), (9, .pointer (some (⟨B_128, 0, none⟩ : Addr))), (10, Sl.v strings_440), (11, .int .i64 k_441), (12, .string (Bs r_0_619))] ⟨rfl, rfl, rfl, rfl, rfl, rfl, rfl, trivial⟩
                    refine then_normal ?_
                    refine wp_region_lit ?_
                    refine sq (opk_val hA690 rfl (r_move (hA690.get rfl)) fun a691 hA691 _ => ?_)
                    refine sq (opk_val hA691 rfl (r_move (hA691.get rfl)) fun a692 hA692 _ => ?_)
                    refine sq (opk_new (fun B => .slice (some ⟨B, 0, none⟩) 1 1) hA692 rfl (r_buildSlice (vs := #[(0, .string (Bs r_0_619))]) (cs := [.string (Bs r_0_619)]) (map_arr2 (ml2_cons (hA692.get rfl) (ml2_nil))) Try.underlying46 ti_9 rfl rfl (by kernel_rfl)) fun a695 w694 B_693 hE696 hN697 hB698 hA695 _ => ?_)
                    have hN699 : New w675 B_693 w694 := hN697
                    have hC700 : Chg [] w675 w694 := hE696
                    have ht701 := ht689 w694 B_693 hN699  hC700
                    have ht702 := ht701 hB698
                    refine sq (opk_run hA695 rfl (fun _ _ hr => r_append (hA695.get rfl) (hA695.get rfl) hr) ht702 fun a703 v709 w704 hA703 _ hn706 hz707 hK708 => ?_)
                    obtain ⟨r_710, rfl, ht705⟩ := hK708
                    refine sq (opk_val hA703 rfl (r_assign (hA703.get rfl)) fun a711 hA711 _ => ?_)
                    refine sq_end ?_
                    have hA712 := hA711.keep [(0, Sl.v p_1), (7, .int .u64 r_98), (8, .int .u64 r_105), (9, .pointer (some (⟨B_128, 0, none⟩ : Addr))), (10, Sl.v r_710), (11, .int .i64 k_441)] ⟨rfl, rfl, rfl, rfl, rfl, rfl, trivial⟩
                    refine block_normal ?_
                    refine then_normal ?_
                    refine wp_region_lit ?_
                    refine sq (opk_val hA712 rfl (r_move (hA712.get rfl)) fun a713 hA713 _ => ?_)
                    obtain ⟨hS715, ht716⟩ := ht705
                    refine sq (opk_val hA713 rfl (r_subI (hA713.get rfl) rfl hS715) fun a714 hA714 _ => ?_)
                    refine sq (opk_val hA714 rfl (r_assign (hA714.get rfl)) fun a717 hA717 _ => ?_)
                    refine sq_end ?_
                    have hA718 := hA717.keep [(0, Sl.v p_1), (7, .int .u64 r_98), (8, .int .u64 r_105), (9, .pointer (some (⟨B_128, 0, none⟩ : Addr))), (10, Sl.v r_710), (11, .int .i64 (k_441 - 1))] ⟨rfl, rfl, rfl, rfl, rfl, rfl, trivial⟩
                    have hA719 := hA718.keep [(0, Sl.v p_1), (7, .int .u64 r_98), (8, .int .u64 r_105), (9, .pointer (some (⟨B_128, 0, none⟩ : Addr))), (10, Sl.v r_710), (11, .int .i64 (k_441 - 1))] ⟨rfl, rfl, rfl, rfl, rfl, rfl, trivial⟩
                    exact then_normal ⟨(r_710, k_441 - 1, w704), ⟨hA719, rfl, ht716.1⟩, ht716.2⟩
              · have ht598 := ht593.2 ((b_and_f hc).imp (fun h => (of_decide_eq_false h)) (fun h => (b_not_f h)))
                clear hc
                refine wp_exit ?_
                refine then_exit ?_
                refine then_exit ?_
                refine block_hit ?_
                have hA720 := hA596.keep [(0, Sl.v p_1), (7, .int .u64 r_98), (8, .int .u64 r_105), (9, .pointer (some (⟨B_128, 0, none⟩ : Addr))), (10, Sl.v strings_440)] ⟨rfl, rfl, rfl, rfl, rfl, trivial⟩
                have hA721 := hA720.keep [(0, Sl.v p_1), (7, .int .u64 r_98), (8, .int .u64 r_105), (9, .pointer (some (⟨B_128, 0, none⟩ : Addr))), (10, Sl.v strings_440)] ⟨rfl, rfl, rfl, rfl, rfl, trivial⟩
                exact then_normal ⟨strings_440, hA721, ht598⟩
            · intro a722 w436 hm
              obtain ⟨strings_435, hA722, hJ912⟩ := hm
              have ht723 := hr439 strings_435 w436 hJ912
              refine then_normal ?_
              refine wp_seq ?_
              refine wp_region_lit ?_
              refine sq (opk_val hA722 rfl (r_assign rfl) fun a724 hA724 _ => ?_)
              refine sq_end ?_
              have hA725 := hA724.keep [(0, Sl.v p_1), (7, .int .u64 r_98), (8, .int .u64 r_105), (9, .pointer (some (⟨B_128, 0, none⟩ : Addr))), (10, Sl.v strings_435), (15, Sl.v Sl.nil)] ⟨rfl, rfl, rfl, rfl, rfl, rfl, trivial⟩
              refine then_normal ?_
              refine wp_seq ?_
              refine wp_seq ?_
              refine wp_region_lit ?_
              refine sq (opk_val hA725 rfl (r_move (hA725.get rfl)) fun a726 hA726 _ => ?_)
              refine sq (opk_call hA726 rfl (r_call (args := #[.pointer (some (⟨B_128, 0, none⟩ : Addr)), .int .i64 1500]) Try.func38 (by decide) rfl (map_arr (ml_cons (hA726.get rfl) (ml_cons rfl ml_nil))) rfl) ht723 fun a728 v734 w729 hA728 _ hn731 hz732 hK733 => ?_)
              obtain ⟨r_727, rfl, ht730⟩ := hK733
              refine sq (opk_val hA728 rfl (r_assign (hA728.get rfl)) fun a735 hA735 _ => ?_)
              refine sq_end ?_
              have hA736 := hA735.keep [(0, Sl.v p_1), (7, .int .u64 r_98), (8, .int .u64 r_105), (9, .pointer (some (⟨B_128, 0, none⟩ : Addr))), (10, Sl.v strings_435), (15, Sl.v Sl.nil), (16, .int .i64 r_727)] ⟨rfl, rfl, rfl, rfl, rfl, rfl, rfl, trivial⟩
              refine then_normal ?_
              refine wp_block ?_
              obtain ⟨J_740, mu_741, h0797, ht796⟩ := ht730
              refine wp_loop_st (σ := Sl × Int × World) (fun s a w => Ag 140 a [(0, Sl.v p_1), (7, .int .u64 r_98), (8, .int .u64 r_105), (9, .pointer (some (⟨B_128, 0, none⟩ : Addr))), (10, Sl.v strings_435), (15, Sl.v s.1), (16, .int .i64 s.2.1)] ∧ w = s.2.2 ∧ J_740 s.1 s.2.1 s.2.2) (fun s => mu_741 s.1 s.2.1 s.2.2) (Sl.nil, r_727, w729) ⟨hA736.keep [(0, Sl.v p_1), (7, .int .u64 r_98), (8, .int .u64 r_105), (9, .pointer (some (⟨B_128, 0, none⟩ : Addr))), (10, Sl.v strings_435), (15, Sl.v Sl.nil), (16, .int .i64 r_727)] ⟨rfl, rfl, rfl, rfl, rfl, rfl, rfl, trivial⟩, rfl, h0797⟩ ?_
              rintro ⟨l_737, k_738, w739⟩ a795 w_ ⟨hA795, hw_, hJ799⟩
              have hw_ : w739 = w_ := hw_.symm
              subst hw_
              have ht798 := ht796 l_737 k_738 _ hJ799
              refine wp_seq ?_
              refine wp_seq ?_
              refine wp_region_lit ?_
              refine sq (opk_val hA795 rfl (r_move (hA795.get rfl)) fun a800 hA800 _ => ?_)
              refine sq (opk_val hA800 rfl (r_gtr (hA800.get rfl) rfl) fun a801 hA801 _ => ?_)
              refine sq (opk_val hA801 rfl (r_move (hA801.get rfl)) fun a802 hA802 _ => ?_)
              refine sq (opk_gval hA802 rfl rfl (g := true) (e := (decide (0 < k_738))) rfl (fun hg => r_move (hA802.get rfl)) fun a803 hA803 _ => ?_)
              refine sq (opk_gval hA803 rfl rfl (g := true) (e := (decide (0 < k_738))) rfl (fun hg => r_nilCheck (cv_get (hA803.get rfl) hg)) fun a804 hA804 _ => ?_)
              refine sq (opk_gval hA804 rfl rfl (g := true) (e := (decide (0 < k_738))) rfl (fun hg => r_fieldAddr (cv_get (hA804.get rfl) hg) Try.underlying70 rfl ti_4 (by decide)) fun a805 hA805 _ => ?_)
              obtain ⟨x_807, hx808, ht809⟩ := ht798
              refine sq (opk_gval hA805 rfl rfl (g := true) (e := (decide (0 < k_738))) rfl (fun hg => r_load1 Try.underlying4 rfl (cv_get (hA805.get rfl) hg) (hx808 (of_decide_eq_true (g_t hg)))) fun a806 hA806 _ => ?_)
              refine sq (opk_gval hA806 rfl rfl (g := true) (e := (decide (0 < k_738))) rfl (fun hg => r_not (cv_get (hA806.get rfl) hg)) fun a810 hA810 _ => ?_)
              refine sq (opk_val hA810 rfl (r_pick_and (g := (true && ((decide (0 < k_738)) == true))) (hA810.get rfl) (hA810.get rfl) (fun he => g_mkt rfl he)) fun a811 hA811 _ => ?_)
              refine sq_end ?_
              have hA812 := hA811.keep [(0, Sl.v p_1), (7, .int .u64 r_98), (8, .int .u64 r_105), (9, .pointer (some (⟨B_128, 0, none⟩ : Addr))), (10, Sl.v strings_435), (15, Sl.v l_737), (16, .int .i64 k_738), (106, .bool ((decide (0 < k_738)) && (!x_807)))] ⟨rfl, rfl, rfl, rfl, rfl, rfl, rfl, rfl, trivial⟩
              refine then_normal ?_
              refine wp_cond_split (hA812.get rfl) (fun hc => ?_) (fun hc => ?_)
              · have ht813 := ht809.1 ⟨(of_decide_eq_true (b_and_t hc).1), (b_not_t (b_and_t hc).2)⟩
                clear hc
                refine wp_skip ?_
                refine then_normal ?_
                refine wp_seq ?_
                refine wp_block ?_
                refine wp_region_lit ?_
                refine sq (opk_val hA812 rfl (r_move (hA812.get rfl)) fun a815 hA815 _ => ?_)
                refine sq (opk_val hA815 rfl (r_move (hA815.get rfl)) fun a816 hA816 _ => ?_)
                refine sq (opk_val hA816 rfl (r_move (hA816.get rfl)) fun a817 hA817 _ => ?_)
                refine sq (opk_call hA817 rfl (r_call (args := #[.pointer (some (⟨B_128, 0, none⟩ : Addr)), Sl.v strings_435]) Try.func40 (by decide) rfl (map_arr (ml_cons (hA817.get rfl) (ml_cons (hA817.get rfl) ml_nil))) rfl) ht813 fun a819 v825 w820 hA819 _ hn822 hz823 hK824 => ?_)
                obtain ⟨r_818_Kind, r_818_ID, r_818_Parent, r_818_At, r_818_What, r_818_Name, r_818_Text, rfl, ht821⟩ := hK824
                refine sq (opk_new (fun B => .slice (some ⟨B, 0, none⟩) 1 1) hA819 rfl (r_buildSlice (vs := #[(0, .agg #[.int .i64 r_818_Kind, .int .i64 r_818_ID, .int .i64 r_818_Parent, .int .i64 r_818_At, .int .i64 r_818_What, .string (Bs r_818_Name), .string (Bs r_818_Text)])]) (cs := [.int .i64 r_818_Kind, .int .i64 r_818_ID, .int .i64 r_818_Parent, .int .i64 r_818_At, .int .i64 r_818_What, .string (Bs r_818_Name), .string (Bs r_818_Text)]) (map_arr2 (ml2_cons (hA819.get rfl) (ml2_nil))) Try.underlying23 ti_42 rfl rfl (by kernel_rfl)) fun a828 w827 B_826 hE829 hN830 hB831 hA828 _ => ?_)
                have hN832 : New w820 B_826 w827 := hN830
                have hC833 : Chg [] w820 w827 := hE829
                have ht834 := ht821 w827 B_826 hN832  hC833
                have ht835 := ht834 hB831
                refine sq (opk_run hA828 rfl (fun _ _ hr => r_append (hA828.get rfl) (hA828.get rfl) hr) ht835 fun a836 v842 w837 hA836 _ hn839 hz840 hK841 => ?_)
                obtain ⟨r_843, rfl, ht838⟩ := hK841
                refine sq (opk_val hA836 rfl (r_assign (hA836.get rfl)) fun a844 hA844 _ => ?_)
                refine sq_end ?_
                have hA845 := hA844.keep [(0, Sl.v p_1), (7, .int .u64 r_98), (8, .int .u64 r_105), (9, .pointer (some (⟨B_128, 0, none⟩ : Addr))), (10, Sl.v strings_435), (15, Sl.v r_843), (16, .int .i64 k_738)] ⟨rfl, rfl, rfl, rfl, rfl, rfl, rfl, trivial⟩
                refine block_normal ?_
                refine then_normal ?_
                refine wp_region_lit ?_
                refine sq (opk_val hA845 rfl (r_move (hA845.get rfl)) fun a846 hA846 _ => ?_)
                obtain ⟨hS848, ht849⟩ := ht838
                refine sq (opk_val hA846 rfl (r_subI (hA846.get rfl) rfl hS848) fun a847 hA847 _ => ?_)
                refine sq (opk_val hA847 rfl (r_assign (hA847.get rfl)) fun a850 hA850 _ => ?_)
                refine sq_end ?_
                have hA851 := hA850.keep [(0, Sl.v p_1), (7, .int .u64 r_98), (8, .int .u64 r_105), (9, .pointer (some (⟨B_128, 0, none⟩ : Addr))), (10, Sl.v strings_435), (15, Sl.v r_843), (16, .int .i64 (k_738 - 1))] ⟨rfl, rfl, rfl, rfl, rfl, rfl, rfl, trivial⟩
                have hA852 := hA851.keep [(0, Sl.v p_1), (7, .int .u64 r_98), (8, .int .u64 r_105), (9, .pointer (some (⟨B_128, 0, none⟩ : Addr))), (10, Sl.v strings_435), (15, Sl.v r_843), (16, .int .i64 (k_738 - 1))] ⟨rfl, rfl, rfl, rfl, rfl, rfl, rfl, trivial⟩
                exact then_normal ⟨(r_843, k_738 - 1, w837), ⟨hA852, rfl, ht849.1⟩, ht849.2⟩
              · have ht814 := ht809.2 ((b_and_f hc).imp (fun h => (of_decide_eq_false h)) (fun h => (b_not_f h)))
                clear hc
                refine wp_exit ?_
                refine then_exit ?_
                refine then_exit ?_
                refine block_hit ?_
                have hA853 := hA812.keep [(0, Sl.v p_1), (7, .int .u64 r_98), (8, .int .u64 r_105), (9, .pointer (some (⟨B_128, 0, none⟩ : Addr))), (15, Sl.v l_737)] ⟨rfl, rfl, rfl, rfl, rfl, trivial⟩
                refine then_normal ?_
                refine wp_seq ?_
                refine wp_region_lit ?_
                refine sq (opk_val hA853 rfl (r_move (hA853.get rfl)) fun a854 hA854 _ => ?_)
                refine sq (opk_val hA854 rfl (r_move (hA854.get rfl)) fun a855 hA855 _ => ?_)
                refine sq (opk_val hA855 rfl (r_move (hA855.get rfl)) fun a856 hA856 _ => ?_)
                refine sq (opk_call hA856 rfl (r_call (args := #[.int .u64 r_98, .int .u64 r_105, Sl.v l_737]) Try.func12 (by decide) rfl (map_arr (ml_cons (hA856.get rfl) (ml_cons (hA856.get rfl) (ml_cons (hA856.get rfl) ml_nil)))) rfl) ht814 fun a859 v865 w860 hA859 _ hn862 hz863 hK864 => ?_)
                obtain ⟨r_0_857, r_1_858, rfl, ht861⟩ := hK864
                refine sq (opk_val hA859 rfl (r_move (hA859.get rfl)) fun a866 hA866 _ => ?_)
                refine sq (opk_val hA866 rfl (r_extract (hA866.get rfl) rfl) fun a867 hA867 _ => ?_)
                refine sq (opk_val hA867 rfl (r_extract (hA867.get rfl) rfl) fun a868 hA868 _ => ?_)
                refine sq (opk_val hA868 rfl (r_assign (hA868.get rfl)) fun a869 hA869 _ => ?_)
                refine sq (opk_val hA869 rfl (r_assign (hA869.get rfl)) fun a870 hA870 _ => ?_)
                refine sq_end ?_
                have hA871 := hA870.keep [(0, Sl.v p_1), (7, .int .u64 r_98), (8, .int .u64 r_105), (9, .pointer (some (⟨B_128, 0, none⟩ : Addr))), (15, Sl.v l_737), (17, Sl.v r_0_857), (18, .int .i64 r_1_858)] ⟨rfl, rfl, rfl, rfl, rfl, rfl, rfl, trivial⟩
                refine then_normal ?_
                refine wp_seq ?_
                refine wp_seq ?_
                refine wp_region_lit ?_
                refine sq (opk_val hA871 rfl (r_move (hA871.get rfl)) fun a872 hA872 _ => ?_)
                refine sq (opk_val hA872 rfl (r_nilCheck (hA872.get rfl)) fun a873 hA873 _ => ?_)
                refine sq (opk_val hA873 rfl (r_fieldAddr (hA873.get rfl) Try.underlying70 rfl ti_4 (by decide)) fun a874 hA874 _ => ?_)
                obtain ⟨x_876, hx877, ht878⟩ := ht861
                refine sq (opk_val hA874 rfl (r_load1 Try.underlying4 rfl (hA874.get rfl) hx877) fun a875 hA875 _ => ?_)
                refine sq (opk_val hA875 rfl (r_move (hA875.get rfl)) fun a879 hA879 _ => ?_)
                refine sq (opk_gval hA879 rfl rfl (g := true) (e := x_876) rfl (fun hg => r_move (hA879.get rfl)) fun a880 hA880 _ => ?_)
                refine sq (opk_gval hA880 rfl rfl (g := true) (e := x_876) rfl (fun hg => r_neq (cv_get (hA880.get rfl) hg) rfl) fun a881 hA881 _ => ?_)
                refine sq (opk_val hA881 rfl (r_pick_or (g := (true && (x_876 == false))) (hA881.get rfl) (hA881.get rfl) (fun he => g_mkf rfl he)) fun a882 hA882 _ => ?_)
                refine sq (opk_val hA882 rfl (r_move (hA882.get rfl)) fun a883 hA883 _ => ?_)
                refine sq (opk_gval hA883 rfl rfl (g := true) (e := (x_876 || (decide (r_1_858 ≠ 0)))) rfl (fun hg => r_move (hA883.get rfl)) fun a884 hA884 _ => ?_)
                obtain ⟨s_885, hx886, ht887⟩ := ht878
                refine sq (opk_gval hA884 rfl rfl (g := true) (e := (x_876 || (decide (r_1_858 ≠ 0)))) rfl (fun hg => r_convR (cv_get (hA884.get rfl) hg) (hx886 ⟨(b_or_f (g_f hg)).1, (of_decide_eq_false (b_or_f (g_f hg)).2)⟩)) fun a888 hA888 _ => ?_)
                refine sq (opk_gval hA888 rfl rfl (g := true) (e := (x_876 || (decide (r_1_858 ≠ 0)))) rfl (fun hg => r_move (hA888.get rfl)) fun a889 hA889 _ => ?_)
                obtain ⟨s_890, hx891, ht892⟩ := ht887
                refine sq (opk_gval hA889 rfl rfl (g := true) (e := (x_876 || (decide (r_1_858 ≠ 0)))) rfl (fun hg => r_convR (cv_get (hA889.get rfl) hg) (hx891 ⟨(b_or_f (g_f hg)).1, (of_decide_eq_false (b_or_f (g_f hg)).2)⟩)) fun a893 hA893 _ => ?_)
                refine sq (opk_gval hA893 rfl rfl (g := true) (e := (x_876 || (decide (r_1_858 ≠ 0)))) rfl (fun hg => r_sneq (cv_get (hA893.get rfl) hg) (cv_get (hA893.get rfl) hg)) fun a894 hA894 _ => ?_)
                refine sq (opk_val hA894 rfl (r_pick_or (g := (true && ((x_876 || (decide (r_1_858 ≠ 0))) == false))) (hA894.get rfl) (hA894.get rfl) (fun he => g_mkf rfl he)) fun a895 hA895 _ => ?_)
                refine sq_end ?_
                have hA896 := hA895.keep [(7, .int .u64 r_98), (8, .int .u64 r_105), (15, Sl.v l_737), (136, .bool ((x_876 || (decide (r_1_858 ≠ 0))) || (decide (s_885 ≠ s_890))))] ⟨rfl, rfl, rfl, rfl, trivial⟩
                refine then_normal ?_
                refine wp_cond_split (hA896.get rfl) (fun hc => ?_) (fun hc => ?_)
                · have ht897 := ht892.1 ((b_or_t hc).imp (fun h => ((b_or_t h).imp (fun h => h) (fun h => (of_decide_eq_true h)))) (fun h => (of_decide_eq_true h)))
                  clear hc
                  refine wp_seq ?_
                  refine wp_region_lit ?_
                  refine sq (opk_val hA896 rfl (r_assign rfl) fun a899 hA899 _ => ?_)
                  refine sq (opk_val hA899 rfl (r_assign rfl) fun a900 hA900 _ => ?_)
                  refine sq (opk_val hA900 rfl (r_assign rfl) fun a901 hA901 _ => ?_)
                  refine sq (opk_val hA901 rfl (r_assign rfl) fun a902 hA902 _ => ?_)
                  refine sq_end ?_
                  have hA903 := hA902.keep [(2, .int .u64 0), (3, .int .u64 0), (4, Sl.v Sl.nil), (5, .int .i64 10)] ⟨rfl, rfl, rfl, rfl, trivial⟩
                  refine then_normal ?_
                  refine wp_ret ?_
                  refine then_ret ?_
                  exact res_all (vs := [.int .u64 0, .int .u64 0, Sl.v Sl.nil, .int .i64 10]) rfl hA903 ⟨res_of_tmp hA903 rfl, res_of_tmp hA903 rfl, res_of_tmp hA903 rfl, res_of_tmp hA903 rfl, trivial⟩ ht897
                · have ht898 := ht892.2 ⟨⟨(b_or_f (b_or_f hc).1).1, (of_decide_eq_false (b_or_f (b_or_f hc).1).2)⟩, (of_decide_eq_false (b_or_f hc).2)⟩
                  clear hc
                  refine wp_skip ?_
                  refine then_normal ?_
                  refine wp_seq ?_
                  refine wp_region_lit ?_
                  refine sq (opk_val hA896 rfl (r_move (hA896.get rfl)) fun a904 hA904 _ => ?_)
                  refine sq (opk_val hA904 rfl (r_move (hA904.get rfl)) fun a905 hA905 _ => ?_)
                  refine sq (opk_val hA905 rfl (r_move (hA905.get rfl)) fun a906 hA906 _ => ?_)
                  refine sq (opk_val hA906 rfl (r_assign (hA906.get rfl)) fun a907 hA907 _ => ?_)
                  refine sq (opk_val hA907 rfl (r_assign (hA907.get rfl)) fun a908 hA908 _ => ?_)
                  refine sq (opk_val hA908 rfl (r_assign (hA908.get rfl)) fun a909 hA909 _ => ?_)
                  refine sq (opk_val hA909 rfl (r_assign rfl) fun a910 hA910 _ => ?_)
                  refine sq_end ?_
                  have hA911 := hA910.keep [(2, .int .u64 r_98), (3, .int .u64 r_105), (4, Sl.v l_737), (5, .int .i64 0)] ⟨rfl, rfl, rfl, rfl, trivial⟩
                  refine then_normal ?_
                  refine wp_ret ?_
                  exact res_all (vs := [.int .u64 r_98, .int .u64 r_105, Sl.v l_737, .int .i64 0]) rfl hA911 ⟨res_of_tmp hA911 rfl, res_of_tmp hA911 rfl, res_of_tmp hA911 rfl, res_of_tmp hA911 rfl, trivial⟩ ht898

/-- The condition of topiary/topiaryref24.needs. -/
def ref24_needs.vc (o_1_Kind : Int) (o_1_ID : Int) (o_1_Parent : Int) (o_1_At : Int) (o_1_What : Int) (o_1_Name : Str) (o_1_Text : Str) (R : Value → World → Prop) (w : World) : Prop :=
(((o_1_Kind = 1) ∨ (o_1_Kind = 4)) →
∀ (w34 : World) (B_2 : Nat) (B_33 : Nat), New w B_2 w34 → New w B_33 w34 → B_2 ≠ B_33 → Chg [] w w34 →
∀ (_ : Box w34 B_33 9 [.string (Bs o_1_Name), .string (Bs o_1_Text)]),
R (Sl.v (Sl.mk (some ⟨B_33, 0, none⟩) 2 2)) w34) ∧
(((¬ (o_1_Kind = 1)) ∧ (¬ (o_1_Kind = 4))) →
((o_1_Kind = 5) →
∀ (w56 : World) (B_2 : Nat) (B_55 : Nat), New w B_2 w56 → New w B_55 w56 → B_2 ≠ B_55 → Chg [] w w56 →
∀ (_ : Box w56 B_55 9 [.string (Bs o_1_Name)]),
R (Sl.v (Sl.mk (some ⟨B_55, 0, none⟩) 1 1)) w56) ∧
((¬ (o_1_Kind = 5)) →
((o_1_Kind = 6) →
∀ (w78 : World) (B_2 : Nat) (B_77 : Nat), New w B_2 w78 → New w B_77 w78 → B_2 ≠ B_77 → Chg [] w w78 →
∀ (_ : Box w78 B_77 9 [.string (Bs o_1_Text)]),
R (Sl.v (Sl.mk (some ⟨B_77, 0, none⟩) 1 1)) w78) ∧
((¬ (o_1_Kind = 6)) →
∀ (w3 : World) (B_2 : Nat), New w B_2 w3 → Chg [] w w3 →
R (Sl.v Sl.nil) w3)))
set_option maxHeartbeats 1000000 in
set_option maxRecDepth 10000 in
theorem ref24_needs.ok (o_1_Kind : Int) (o_1_ID : Int) (o_1_Parent : Int) (o_1_At : Int) (o_1_What : Int) (o_1_Name : Str) (o_1_Text : Str) {R : Value → World → Prop} {w : World} (ht0 : ref24_needs.vc o_1_Kind o_1_ID o_1_Parent o_1_At o_1_What o_1_Name o_1_Text R w) : Calls Try.prog 28 #[.agg #[.int .i64 o_1_Kind, .int .i64 o_1_ID, .int .i64 o_1_Parent, .int .i64 o_1_At, .int .i64 o_1_What, .string (Bs o_1_Name), .string (Bs o_1_Text)]] w (Ret R) := by
  refine enter [.agg #[.int .i64 o_1_Kind, .int .i64 o_1_ID, .int .i64 o_1_Parent, .int .i64 o_1_At, .int .i64 o_1_What, .string (Bs o_1_Name), .string (Bs o_1_Text)]] Try.func28 rfl Try.ntmps28 rfl ?_
  intro a0 hA0
  unfold ref24_needs.vc at ht0
  refine wp_seq ?_
  refine wp_region_lit ?_
  refine sq (opk_new (fun B => .pointer (some ⟨B, 0, none⟩)) hA0 rfl (r_box (cs := [.int .i64 o_1_Kind, .int .i64 o_1_ID, .int .i64 o_1_Parent, .int .i64 o_1_At, .int .i64 o_1_What, .string (Bs o_1_Name), .string (Bs o_1_Text)]) (hA0.get rfl) rfl) fun a4 w3 B_2 hE5 hN6 hB7 hA4 _ => ?_)
  have hN8 : New w B_2 w3 := hN6
  have hC9 : Chg [] w w3 := hE5
  refine sq (opk_val hA4 rfl (r_assign rfl) fun a10 hA10 _ => ?_)
  refine sq_end ?_
  have hA11 := hA10.keep [(1, .pointer (some (⟨B_2, 0, none⟩ : Addr)))] ⟨rfl, trivial⟩
  refine then_normal ?_
  refine wp_seq ?_
  refine wp_seq ?_
  refine wp_region_lit ?_
  refine sq (opk_val hA11 rfl (r_fieldAddr (hA11.get rfl) Try.underlying42 rfl ti_3 (by decide)) fun a12 hA12 _ => ?_)
  refine sq (opk_val hA12 rfl (r_load1 Try.underlying3 rfl (hA12.get rfl) (hB7.cell 0 _ rfl)) fun a13 hA13 _ => ?_)
  refine sq_end ?_
  have hA14 := hA13.keep [(1, .pointer (some (⟨B_2, 0, none⟩ : Addr))), (4, .int .i64 o_1_Kind)] ⟨rfl, rfl, trivial⟩
  refine then_normal ?_
  refine wp_block ?_
  refine wp_seq ?_
  refine wp_seq ?_
  refine wp_region_lit ?_
  refine sq (opk_val hA14 rfl (r_eql (hA14.get rfl) rfl) fun a15 hA15 _ => ?_)
  refine sq (opk_val hA15 rfl (r_assign (hA15.get rfl)) fun a16 hA16 _ => ?_)
  refine sq_end ?_
  have hA17 := hA16.keep [(1, .pointer (some (⟨B_2, 0, none⟩ : Addr))), (4, .int .i64 o_1_Kind), (5, .bool (decide (o_1_Kind = 1)))] ⟨rfl, rfl, rfl, trivial⟩
  refine then_normal ?_
  refine wp_meet (fun a wq => Ag 23 a [(1, .pointer (some (⟨B_2, 0, none⟩ : Addr))), (4, .int .i64 o_1_Kind), (5, .bool ((decide (o_1_Kind = 1)) || (decide (o_1_Kind = 4))))] ∧ wq = w3) ?_ ?_
  · refine wp_cond_split (hA17.get rfl) (fun hc => ?_) (fun hc => ?_)
    · refine wp_skip ?_
      have hA21 := hA17.say (t := 5) rfl (.bool ((decide (o_1_Kind = 1)) || (decide (o_1_Kind = 4)))) (by rw [hc]; rfl)
      exact then_normal ⟨hA21.keep [(1, .pointer (some (⟨B_2, 0, none⟩ : Addr))), (4, .int .i64 o_1_Kind), (5, .bool ((decide (o_1_Kind = 1)) || (decide (o_1_Kind = 4))))] ⟨rfl, rfl, rfl, trivial⟩, rfl⟩
    · refine wp_region_lit ?_
      refine sq (opk_val hA17 rfl (r_eql (hA17.get rfl) rfl) fun a22 hA22 _ => ?_)
      refine sq (opk_val hA22 rfl (r_assign (hA22.get rfl)) fun a23 hA23 _ => ?_)
      refine sq_end ?_
      have hA24 := hA23.keep [(1, .pointer (some (⟨B_2, 0, none⟩ : Addr))), (4, .int .i64 o_1_Kind), (5, .bool (decide (o_1_Kind = 4)))] ⟨rfl, rfl, rfl, trivial⟩
      have hA25 := hA24.say (t := 5) rfl (.bool ((decide (o_1_Kind = 1)) || (decide (o_1_Kind = 4)))) (by rw [hc]; rfl)
      exact then_normal ⟨hA25.keep [(1, .pointer (some (⟨B_2, 0, none⟩ : Addr))), (4, .int .i64 o_1_Kind), (5, .bool ((decide (o_1_Kind = 1)) || (decide (o_1_Kind = 4))))] ⟨rfl, rfl, rfl, trivial⟩, rfl⟩
  · rintro a26 w_ ⟨hA26, hw_⟩
    have hw_ : w3 = w_ := hw_.symm
    subst hw_
    refine then_normal ?_
    refine wp_cond_split (hA26.get rfl) (fun hc => ?_) (fun hc => ?_)
    · have ht27 := ht0.1 ((b_or_t hc).imp (fun h => (of_decide_eq_true h)) (fun h => (of_decide_eq_true h)))
      clear hc
      refine wp_seq ?_
      refine wp_region_lit ?_
      refine sq (opk_val hA26 rfl (r_fieldAddr (hA26.get rfl) Try.underlying42 rfl ti_9 (by decide)) fun a29 hA29 _ => ?_)
      refine sq (opk_val hA29 rfl (r_load1 Try.underlying9 rfl (hA29.get rfl) (hB7.cell 5 _ rfl)) fun a30 hA30 _ => ?_)
      refine sq (opk_val hA30 rfl (r_fieldAddr (hA30.get rfl) Try.underlying42 rfl ti_9 (by decide)) fun a31 hA31 _ => ?_)
      refine sq (opk_val hA31 rfl (r_load1 Try.underlying9 rfl (hA31.get rfl) (hB7.cell 6 _ rfl)) fun a32 hA32 _ => ?_)
      refine sq (opk_new (fun B => .slice (some ⟨B, 0, none⟩) 2 2) hA32 rfl (r_buildSlice (vs := #[(0, .string (Bs o_1_Name)), (1, .string (Bs o_1_Text))]) (cs := [.string (Bs o_1_Name), .string (Bs o_1_Text)]) (map_arr2 (ml2_cons (hA32.get rfl) (ml2_cons (hA32.get rfl) (ml2_nil)))) Try.underlying46 ti_9 rfl rfl (by kernel_rfl)) fun a35 w34 B_33 hE36 hN37 hB38 hA35 _ => ?_)
      have hne39 : B_2 ≠ B_33 := Nat.ne_of_lt (Nat.lt_of_lt_of_le hB7.lt hN37.ge)
      have hN40 := New.of hC9 hN37
      have hB41 := hB7.ext hE36
      have hC42 := hC9.more hE36
      have hN43 := hN8.up hE36.size
      refine sq (opk_val hA35 rfl (r_assign (hA35.get rfl)) fun a44 hA44 _ => ?_)
      refine sq_end ?_
      have hA45 := hA44.keep [(2, Sl.v (Sl.mk (some ⟨B_33, 0, none⟩) 2 2))] ⟨rfl, trivial⟩
      refine then_normal ?_
      refine wp_ret ?_
      refine block_ret ?_
      refine then_ret ?_
      have ht46 := ht27 w34 B_2 B_33 hN43 hN40 hne39 hC42
      have ht47 := ht46 hB38
      exact res_all (vs := [Sl.v (Sl.mk (some ⟨B_33, 0, none⟩) 2 2)]) rfl hA45 ⟨res_of_tmp hA45 rfl, trivial⟩ ht47
    · have ht28 := ht0.2 ⟨(of_decide_eq_false (b_or_f hc).1), (of_decide_eq_false (b_or_f hc).2)⟩
      clear hc
      refine wp_seq ?_
      refine wp_region_lit ?_
      refine sq (opk_val hA26 rfl (r_eql (hA26.get rfl) rfl) fun a48 hA48 _ => ?_)
      refine sq (opk_val hA48 rfl (r_assign (hA48.get rfl)) fun a49 hA49 _ => ?_)
      refine sq_end ?_
      have hA50 := hA49.keep [(1, .pointer (some (⟨B_2, 0, none⟩ : Addr))), (4, .int .i64 o_1_Kind), (13, .bool (decide (o_1_Kind = 5)))] ⟨rfl, rfl, rfl, trivial⟩
      refine then_normal ?_
      refine wp_cond_split (hA50.get rfl) (fun hc => ?_) (fun hc => ?_)
      · have ht51 := ht28.1 (of_decide_eq_true hc)
        clear hc
        refine wp_seq ?_
        refine wp_region_lit ?_
        refine sq (opk_val hA50 rfl (r_fieldAddr (hA50.get rfl) Try.underlying42 rfl ti_9 (by decide)) fun a53 hA53 _ => ?_)
        refine sq (opk_val hA53 rfl (r_load1 Try.underlying9 rfl (hA53.get rfl) (hB7.cell 5 _ rfl)) fun a54 hA54 _ => ?_)
        refine sq (opk_new (fun B => .slice (some ⟨B, 0, none⟩) 1 1) hA54 rfl (r_buildSlice (vs := #[(0, .string (Bs o_1_Name))]) (cs := [.string (Bs o_1_Name)]) (map_arr2 (ml2_cons (hA54.get rfl) (ml2_nil))) Try.underlying46 ti_9 rfl rfl (by kernel_rfl)) fun a57 w56 B_55 hE58 hN59 hB60 hA57 _ => ?_)
        have hne61 : B_2 ≠ B_55 := Nat.ne_of_lt (Nat.lt_of_lt_of_le hB7.lt hN59.ge)
        have hN62 := New.of hC9 hN59
        have hB63 := hB7.ext hE58
        have hC64 := hC9.more hE58
        have hN65 := hN8.up hE58.size
        refine sq (opk_val hA57 rfl (r_assign (hA57.get rfl)) fun a66 hA66 _ => ?_)
        refine sq_end ?_
        have hA67 := hA66.keep [(2, Sl.v (Sl.mk (some ⟨B_55, 0, none⟩) 1 1))] ⟨rfl, trivial⟩
        refine then_normal ?_
        refine wp_ret ?_
        refine block_ret ?_
        refine then_ret ?_
        have ht68 := ht51 w56 B_2 B_55 hN65 hN62 hne61 hC64
        have ht69 := ht68 hB60
        exact res_all (vs := [Sl.v (Sl.mk (some ⟨B_55, 0, none⟩) 1 1)]) rfl hA67 ⟨res_of_tmp hA67 rfl, trivial⟩ ht69
      · have ht52 := ht28.2 (of_decide_eq_false hc)
        clear hc
        refine wp_seq ?_
        refine wp_region_lit ?_
        refine sq (opk_val hA50 rfl (r_eql (hA50.get rfl) rfl) fun a70 hA70 _ => ?_)
        refine sq (opk_val hA70 rfl (r_assign (hA70.get rfl)) fun a71 hA71 _ => ?_)
        refine sq_end ?_
        have hA72 := hA71.keep [(1, .pointer (some (⟨B_2, 0, none⟩ : Addr))), (18, .bool (decide (o_1_Kind = 6)))] ⟨rfl, rfl, trivial⟩
        refine then_normal ?_
        refine wp_cond_split (hA72.get rfl) (fun hc => ?_) (fun hc => ?_)
        · have ht73 := ht52.1 (of_decide_eq_true hc)
          clear hc
          refine wp_seq ?_
          refine wp_region_lit ?_
          refine sq (opk_val hA72 rfl (r_fieldAddr (hA72.get rfl) Try.underlying42 rfl ti_9 (by decide)) fun a75 hA75 _ => ?_)
          refine sq (opk_val hA75 rfl (r_load1 Try.underlying9 rfl (hA75.get rfl) (hB7.cell 6 _ rfl)) fun a76 hA76 _ => ?_)
          refine sq (opk_new (fun B => .slice (some ⟨B, 0, none⟩) 1 1) hA76 rfl (r_buildSlice (vs := #[(0, .string (Bs o_1_Text))]) (cs := [.string (Bs o_1_Text)]) (map_arr2 (ml2_cons (hA76.get rfl) (ml2_nil))) Try.underlying46 ti_9 rfl rfl (by kernel_rfl)) fun a79 w78 B_77 hE80 hN81 hB82 hA79 _ => ?_)
          have hne83 : B_2 ≠ B_77 := Nat.ne_of_lt (Nat.lt_of_lt_of_le hB7.lt hN81.ge)
          have hN84 := New.of hC9 hN81
          have hB85 := hB7.ext hE80
          have hC86 := hC9.more hE80
          have hN87 := hN8.up hE80.size
          refine sq (opk_val hA79 rfl (r_assign (hA79.get rfl)) fun a88 hA88 _ => ?_)
          refine sq_end ?_
          have hA89 := hA88.keep [(2, Sl.v (Sl.mk (some ⟨B_77, 0, none⟩) 1 1))] ⟨rfl, trivial⟩
          refine then_normal ?_
          refine wp_ret ?_
          refine block_ret ?_
          refine then_ret ?_
          have ht90 := ht73 w78 B_2 B_77 hN87 hN84 hne83 hC86
          have ht91 := ht90 hB82
          exact res_all (vs := [Sl.v (Sl.mk (some ⟨B_77, 0, none⟩) 1 1)]) rfl hA89 ⟨res_of_tmp hA89 rfl, trivial⟩ ht91
        · have ht74 := ht52.2 (of_decide_eq_false hc)
          clear hc
          refine wp_skip ?_
          refine block_normal ?_
          refine then_normal ?_
          refine wp_seq ?_
          refine wp_region_lit ?_
          refine sq (opk_val hA72 rfl (r_assign rfl) fun a92 hA92 _ => ?_)
          refine sq_end ?_
          have hA93 := hA92.keep [(2, Sl.v Sl.nil)] ⟨rfl, trivial⟩
          refine then_normal ?_
          refine wp_ret ?_
          have ht94 := ht74 w3 B_2 hN8  hC9
          exact res_all (vs := [Sl.v Sl.nil]) rfl hA93 ⟨res_of_tmp hA93 rfl, trivial⟩ ht94

/-- The condition of topiary/topiaryref24.place. -/
def ref24_place.vc (l_1 : Sl) (s_2 : Str) (R : Value → World → Prop) (w : World) : Prop :=
∃ (J_9 : Int → World → Prop) (mu_10 : Int → World → Nat),
J_9 0 w ∧
(∀ (i_7 : Int) (w8 : World), J_9 i_7 w8 →
((i_7 < (l_1.n : Int)) →
((0 : Int) ≤ i_7 ∧ i_7 < (l_1.n : Int)) ∧ ∃ p_58 : Addr, l_1.a = some p_58 ∧
∃ (x_64 : Str), (w8.cell? (p_58.add (i_7.toNat * 1)) = some (.string (Bs x_64))) ∧
((x_64 = s_2) →
R (.int .i64 i_7) w8) ∧
((¬ (x_64 = s_2)) →
(I64 (i_7 + 1)) ∧
J_9 (i_7 + 1) w8 ∧ mu_10 (i_7 + 1) w8 < mu_10 i_7 w8)) ∧
((¬ (i_7 < (l_1.n : Int))) →
R (.int .i64 (-1)) w8))
set_option maxHeartbeats 1000000 in
set_option maxRecDepth 10000 in
theorem ref24_place.ok (l_1 : Sl) (s_2 : Str) {R : Value → World → Prop} {w : World} (ht0 : ref24_place.vc l_1 s_2 R w) : Calls Try.prog 29 #[Sl.v l_1, .string (Bs s_2)] w (Ret R) := by
  refine enter [Sl.v l_1, .string (Bs s_2)] Try.func29 rfl Try.ntmps29 rfl ?_
  intro a0 hA0
  unfold ref24_place.vc at ht0
  refine wp_seq ?_
  refine wp_region_lit ?_
  refine sq (opk_val hA0 rfl (r_assign rfl) fun a3 hA3 _ => ?_)
  refine sq_end ?_
  have hA4 := hA3.keep [(0, Sl.v l_1), (1, .string (Bs s_2))] ⟨rfl, rfl, trivial⟩
  refine then_normal ?_
  refine wp_seq ?_
  refine wp_seq ?_
  refine wp_region_lit ?_
  refine sq (opk_val hA4 rfl (r_assign rfl) fun a5 hA5 _ => ?_)
  refine sq_end ?_
  have hA6 := hA5.keep [(0, Sl.v l_1), (1, .string (Bs s_2)), (5, .int .i64 0)] ⟨rfl, rfl, rfl, trivial⟩
  refine then_normal ?_
  refine wp_block ?_
  obtain ⟨J_9, mu_10, h046, ht45⟩ := ht0
  refine wp_loop_st (σ := Int × World) (fun s a w => Ag 19 a [(0, Sl.v l_1), (1, .string (Bs s_2)), (5, .int .i64 s.1)] ∧ w = s.2 ∧ J_9 s.1 s.2) (fun s => mu_10 s.1 s.2) (0, w) ⟨hA6.keep [(0, Sl.v l_1), (1, .string (Bs s_2)), (5, .int .i64 0)] ⟨rfl, rfl, rfl, trivial⟩, rfl, h046⟩ ?_
  rintro ⟨i_7, w8⟩ a44 w_ ⟨hA44, hw_, hJ48⟩
  have hw_ : w8 = w_ := hw_.symm
  subst hw_
  have ht47 := ht45 i_7 _ hJ48
  refine wp_seq ?_
  refine wp_seq ?_
  refine wp_region_lit ?_
  refine sq (opk_val hA44 rfl (r_move (hA44.get rfl)) fun a49 hA49 _ => ?_)
  refine sq (opk_val hA49 rfl (r_move (hA49.get rfl)) fun a50 hA50 _ => ?_)
  refine sq (opk_val hA50 rfl (r_len (hA50.get rfl) Try.underlying46) fun a51 hA51 _ => ?_)
  refine sq (opk_val hA51 rfl (r_lss (hA51.get rfl) (hA51.get rfl)) fun a52 hA52 _ => ?_)
  refine sq_end ?_
  have hA53 := hA52.keep [(0, Sl.v l_1), (1, .string (Bs s_2)), (5, .int .i64 i_7), (9, .bool (decide (i_7 < (l_1.n : Int))))] ⟨rfl, rfl, rfl, rfl, trivial⟩
  refine then_normal ?_
  refine wp_cond_split (hA53.get rfl) (fun hc => ?_) (fun hc => ?_)
  · have ht54 := ht47.1 (of_decide_eq_true hc)
    clear hc
    refine wp_skip ?_
    refine then_normal ?_
    refine wp_seq ?_
    refine wp_block ?_
    refine wp_seq ?_
    refine wp_region_lit ?_
    refine sq (opk_val hA53 rfl (r_move (hA53.get rfl)) fun a56 hA56 _ => ?_)
    refine sq (opk_val hA56 rfl (r_move (hA56.get rfl)) fun a57 hA57 _ => ?_)
    obtain ⟨hb59, p_58, hp60, ht61⟩ := ht54
    refine sq (opk_val hA57 rfl (r_indexAddr (hA57.get rfl) (hA57.get rfl) Try.underlying46 ti_9 hb59 hp60) fun a62 hA62 _ => ?_)
    obtain ⟨x_64, hx65, ht66⟩ := ht61
    refine sq (opk_val hA62 rfl (r_load1 Try.underlying9 rfl (hA62.get rfl) hx65) fun a63 hA63 _ => ?_)
    refine sq (opk_val hA63 rfl (r_move (hA63.get rfl)) fun a67 hA67 _ => ?_)
    refine sq (opk_val hA67 rfl (r_seql (hA67.get rfl) (hA67.get rfl)) fun a68 hA68 _ => ?_)
    refine sq_end ?_
    have hA69 := hA68.keep [(0, Sl.v l_1), (1, .string (Bs s_2)), (5, .int .i64 i_7), (17, .bool (decide (x_64 = s_2)))] ⟨rfl, rfl, rfl, rfl, trivial⟩
    refine then_normal ?_
    refine wp_cond_split (hA69.get rfl) (fun hc => ?_) (fun hc => ?_)
    · have ht70 := ht66.1 (of_decide_eq_true hc)
      clear hc
      refine wp_seq ?_
      refine wp_region_lit ?_
      refine sq (opk_val hA69 rfl (r_move (hA69.get rfl)) fun a72 hA72 _ => ?_)
      refine sq (opk_val hA72 rfl (r_assign (hA72.get rfl)) fun a73 hA73 _ => ?_)
      refine sq_end ?_
      have hA74 := hA73.keep [(4, .int .i64 i_7)] ⟨rfl, trivial⟩
      refine then_normal ?_
      refine wp_ret ?_
      refine block_ret ?_
      refine then_ret ?_
      refine then_ret ?_
      refine block_ret ?_
      refine then_ret ?_
      exact res_all (vs := [.int .i64 i_7]) rfl hA74 ⟨res_of_tmp hA74 rfl, trivial⟩ ht70
    · have ht71 := ht66.2 (of_decide_eq_false hc)
      clear hc
      refine wp_skip ?_
      refine block_normal ?_
      refine then_normal ?_
      refine wp_region_lit ?_
      refine sq (opk_val hA69 rfl (r_move (hA69.get rfl)) fun a75 hA75 _ => ?_)
      obtain ⟨hS77, ht78⟩ := ht71
      refine sq (opk_val hA75 rfl (r_addI (hA75.get rfl) rfl hS77) fun a76 hA76 _ => ?_)
      refine sq (opk_val hA76 rfl (r_assign (hA76.get rfl)) fun a79 hA79 _ => ?_)
      refine sq_end ?_
      have hA80 := hA79.keep [(0, Sl.v l_1), (1, .string (Bs s_2)), (5, .int .i64 (i_7 + 1))] ⟨rfl, rfl, rfl, trivial⟩
      have hA81 := hA80.keep [(0, Sl.v l_1), (1, .string (Bs s_2)), (5, .int .i64 (i_7 + 1))] ⟨rfl, rfl, rfl, trivial⟩
      exact then_normal ⟨(i_7 + 1, w8), ⟨hA81, rfl, ht78.1⟩, ht78.2⟩
  · have ht55 := ht47.2 (of_decide_eq_false hc)
    clear hc
    refine wp_exit ?_
    refine then_exit ?_
    refine then_exit ?_
    refine block_hit ?_
    have hA82 := hA53.keep [] trivial
    refine then_normal ?_
    refine wp_seq ?_
    refine wp_region_lit ?_
    refine sq (opk_val hA82 rfl (r_assign rfl) fun a83 hA83 _ => ?_)
    refine sq_end ?_
    have hA84 := hA83.keep [(4, .int .i64 (-1))] ⟨rfl, trivial⟩
    refine then_normal ?_
    refine wp_ret ?_
    exact res_all (vs := [.int .i64 (-1)]) rfl hA84 ⟨res_of_tmp hA84 rfl, trivial⟩ ht55

/-- The condition of topiary/topiaryref24.put. -/
def ref24_put.vc (b_1 : Sl) (v_2 : Int) (R : Value → World → Prop) (w : World) : Prop :=
CallK Try.prog 43 #[.int .u64 (IntKind.u64.wrap v_2)] w [] (fun v w10 => ∃ (r_8 : Sl), v = Sl.v r_8 ∧
RunK Try.prog (Builtin.append_ #[24, 24] 24 #[Sl.v b_1, Sl.v r_8]) w10 [] (fun v w17 => ∃ (r_23 : Sl), v = Sl.v r_23 ∧
R (Sl.v r_23) w17))
set_option maxHeartbeats 1000000 in
set_option maxRecDepth 10000 in
theorem ref24_put.ok (b_1 : Sl) (v_2 : Int) {R : Value → World → Prop} {w : World} (ht0 : ref24_put.vc b_1 v_2 R w) : Calls Try.prog 31 #[Sl.v b_1, .int .i64 v_2] w (Ret R) := by
  refine enter [Sl.v b_1, .int .i64 v_2] Try.func31 rfl Try.ntmps31 rfl ?_
  intro a0 hA0
  unfold ref24_put.vc at ht0
  refine wp_seq ?_
  refine wp_region_lit ?_
  refine sq (opk_val hA0 rfl (r_assign rfl) fun a3 hA3 _ => ?_)
  refine sq_end ?_
  have hA4 := hA3.keep [(0, Sl.v b_1), (1, .int .i64 v_2)] ⟨rfl, rfl, trivial⟩
  refine then_normal ?_
  refine wp_seq ?_
  refine wp_region_lit ?_
  refine sq (opk_val hA4 rfl (r_move (hA4.get rfl)) fun a5 hA5 _ => ?_)
  refine sq (opk_val hA5 rfl (r_move (hA5.get rfl)) fun a6 hA6 _ => ?_)
  refine sq (opk_val hA6 rfl (r_conv (hA6.get rfl) rfl Try.underlying22) fun a7 hA7 _ => ?_)
  refine sq (opk_call hA7 rfl (r_call (args := #[.int .u64 (IntKind.u64.wrap v_2)]) Try.func43 (by decide) rfl (map_arr (ml_cons (hA7.get rfl) ml_nil)) rfl) ht0 fun a9 v15 w10 hA9 _ hn12 hz13 hK14 => ?_)
  obtain ⟨r_8, rfl, ht11⟩ := hK14
  refine sq (opk_run hA9 rfl (fun _ _ hr => r_append (hA9.get rfl) (hA9.get rfl) hr) ht11 fun a16 v22 w17 hA16 _ hn19 hz20 hK21 => ?_)
  obtain ⟨r_23, rfl, ht18⟩ := hK21
  refine sq (opk_val hA16 rfl (r_assign (hA16.get rfl)) fun a24 hA24 _ => ?_)
  refine sq_end ?_
  have hA25 := hA24.keep [(4, Sl.v r_23)] ⟨rfl, trivial⟩
  refine then_normal ?_
  refine wp_ret ?_
  exact res_all (vs := [Sl.v r_23]) rfl hA25 ⟨res_of_tmp hA25 rfl, trivial⟩ ht18

end Go.Proofs.Yteacalmdpoblpaa
