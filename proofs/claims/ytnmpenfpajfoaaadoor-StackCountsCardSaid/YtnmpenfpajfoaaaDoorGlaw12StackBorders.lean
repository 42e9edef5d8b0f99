/-
  PRINTED BY PROGRAM: for each function its condition (vc), and that this suffices (ok).
-/
import Derived.Test.YtnmpenfpajfoaaaDoorGT
namespace Go.Proofs.YtnmpenfpajfoaaaDoor
open Go.RowKit
set_option linter.unusedVariables false

/-- The condition of topiary/topiarylaw12.StackBorders. -/
def law12_StackBorders.vc  (R : Value → World → Prop) (w : World) : Prop :=
∀ (w12 : World) (B_4 : Nat), New w B_4 w12 → Chg [] w w12 →
∃ (J_24 : Int → World → Prop) (mu_25 : Int → World → Nat),
J_24 0 w12 ∧
(∀ (i_22 : Int) (w23 : World), J_24 i_22 w23 →
((i_22 < 10) →
((0 : Int) ≤ i_22 ∧ i_22 < 10) ∧
∀ (w319 : World) (B_277 : Nat) (B_306 : Nat), New w23 B_277 w319 → New w23 B_306 w319 → B_277 ≠ B_306 → Chg [] w23 w319 →
∀ (_ : Box w319 B_277 9 [.string (Bs ([104, 116, 109, 108] : Str)), .string (Bs ([112] : Str)), .string (Bs (([([97, 112, 112, 108, 101, 116] : Str), ([99, 97, 112, 116, 105, 111, 110] : Str), ([116, 100] : Str), ([116, 104] : Str), ([109, 97, 114, 113, 117, 101, 101] : Str), ([111, 98, 106, 101, 99, 116] : Str), ([111, 108] : Str), ([117, 108] : Str), ([98, 117, 116, 116, 111, 110] : Str), ([116, 97, 98, 108, 101] : Str)] : List Str).getD i_22.toNat []))]),
∃ (J_390 : Int → World → Prop) (mu_391 : Int → World → Nat),
J_390 1 w319 ∧
(∀ (s_388 : Int) (w389 : World), J_390 s_388 w389 →
((s_388 ≤ 4) →
∀ (w451 : World), Chg [] w389 w451 →
∃ (r_459 : Bool), (∀ w' : World, Ext w451 w' → Calls Tryd.prog 14 #[Sl.v (Sl.mk (some ⟨B_277, 0, none⟩) 3 3), .string (Bs ([112] : Str)), .int .i64 s_388] w' (Ret fun v w'' => Ext w' w'' ∧ v = .bool r_459)) ∧
((0 : Int) ≤ s_388 ∧ s_388 < 5) ∧
(((r_459 == (([false, ((decide (5 < i_22)) && (decide (i_22 < 9))), (decide (i_22 = 8)), ((decide (5 < i_22)) && (decide (i_22 < 8))), (decide (i_22 < 9))] : List Bool).getD s_388.toNat false)) = false) →
∀ (w469 : World), Chg [] w451 w469 →
R (.bool false) w469) ∧
(((r_459 == (([false, ((decide (5 < i_22)) && (decide (i_22 < 9))), (decide (i_22 = 8)), ((decide (5 < i_22)) && (decide (i_22 < 8))), (decide (i_22 < 9))] : List Bool).getD s_388.toNat false)) = true) →
(I64 (s_388 + 1)) ∧
∀ (w469 : World), Chg [] w451 w469 →
J_390 (s_388 + 1) w469 ∧ mu_391 (s_388 + 1) w469 < mu_391 s_388 w389)) ∧
((¬ (s_388 ≤ 4)) →
(I64 (i_22 + 1)) ∧
J_24 (i_22 + 1) w389 ∧ mu_25 (i_22 + 1) w389 < mu_25 i_22 w23))) ∧
((¬ (i_22 < 10)) →
∀ (w503 : World) (B_502 : Nat), New w23 B_502 w503 → Chg [] w23 w503 →
∀ (_ : Box w503 B_502 9 [.string (Bs ([116, 97, 98, 108, 101] : Str))]),
CallK Tryd.prog 14 #[Sl.v (Sl.mk (some ⟨B_502, 0, none⟩) 1 1), .string (Bs ([116, 97, 98, 108, 101] : Str)), .int .i64 1] w503 [] (fun v w514 => ∃ (r_512 : Bool), v = .bool r_512 ∧
∃ (r_521 : Bool), (((r_512 = true)) → Calls Tryd.prog 14 #[Sl.v Sl.nil, .string (Bs ([112] : Str)), .int .i64 1] w514 (Ret fun v w' => Ext w514 w' ∧ v = .bool r_521)) ∧
(∀ w523 : World, Ext w514 w523 →
∃ (r_532 : Bool), ((((r_512 = true) ∧ (r_521 = false))) → Calls Tryd.prog 11 #[] w523 (Ret fun v w' => Ext w523 w' ∧ v = .bool r_532)) ∧
(∀ w534 : World, Ext w523 w534 →
R (.bool ((r_512 && (!r_521)) && r_532)) w534)))))
set_option maxHeartbeats 1000000 in
set_option maxRecDepth 10000 in
theorem law12_StackBorders.ok  {R : Value → World → Prop} {w : World} (ht0 : law12_StackBorders.vc  R w) : Calls Tryd.prog 5 #[] w (Ret R) := by
  refine enter [] Tryd.func5 rfl Tryd.ntmps5 rfl ?_
  intro a0 hA0
  unfold law12_StackBorders.vc at ht0
  refine wp_seq ?_
  refine wp_region_lit ?_
  refine sq (opk_val hA0 rfl (r_assign rfl) fun a1 hA1 _ => ?_)
  refine sq_end ?_
  have hA2 := hA1.keep [] trivial
  refine then_normal ?_
  refine wp_seq ?_
  refine wp_region_lit ?_
  refine sq (opk_val hA2 rfl (r_buildA (vs := #[(0, .string (Bs ([97, 112, 112, 108, 101, 116] : Str))), (1, .string (Bs ([99, 97, 112, 116, 105, 111, 110] : Str))), (2, .string (Bs ([116, 100] : Str))), (3, .string (Bs ([116, 104] : Str))), (4, .string (Bs ([109, 97, 114, 113, 117, 101, 101] : Str))), (5, .string (Bs ([111, 98, 106, 101, 99, 116] : Str))), (6, .string (Bs ([111, 108] : Str))), (7, .string (Bs ([117, 108] : Str))), (8, .string (Bs ([98, 117, 116, 116, 111, 110] : Str))), (9, .string (Bs ([116, 97, 98, 108, 101] : Str)))]) (cells := #[.string (Bs ([97, 112, 112, 108, 101, 116] : Str)), .string (Bs ([99, 97, 112, 116, 105, 111, 110] : Str)), .string (Bs ([116, 100] : Str)), .string (Bs ([116, 104] : Str)), .string (Bs ([109, 97, 114, 113, 117, 101, 101] : Str)), .string (Bs ([111, 98, 106, 101, 99, 116] : Str)), .string (Bs ([111, 108] : Str)), .string (Bs ([117, 108] : Str)), .string (Bs ([98, 117, 116, 116, 111, 110] : Str)), .string (Bs ([116, 97, 98, 108, 101] : Str))]) (map_arr2 (ml2_cons rfl (ml2_cons rfl (ml2_cons rfl (ml2_cons rfl (ml2_cons rfl (ml2_cons rfl (ml2_cons rfl (ml2_cons rfl (ml2_cons rfl (ml2_cons rfl (ml2_nil)))))))))))) ti_30 Tryd.underlying30 ti_9 (by kernel_rfl)) fun a3 hA3 _ => ?_)
  refine sq (opk_new (fun B => .pointer (some ⟨B, 0, none⟩)) hA3 rfl (r_alloc (cs := [.string (Bs ([] : Str)), .string (Bs ([] : Str)), .string (Bs ([] : Str)), .string (Bs ([] : Str)), .string (Bs ([] : Str)), .string (Bs ([] : Str)), .string (Bs ([] : Str)), .string (Bs ([] : Str)), .string (Bs ([] : Str)), .string (Bs ([] : Str))]) ti_30 rfl) fun a6 w5 B_4 hE7 hN8 hB9 hA6 _ => ?_)
  have hN10 : New w B_4 w5 := hN8
  have hC11 : Chg [] w w5 := hE7
  refine sq (opk_store hA6 hB9 (r_store (vs := [.string (Bs ([97, 112, 112, 108, 101, 116] : Str)), .string (Bs ([99, 97, 112, 116, 105, 111, 110] : Str)), .string (Bs ([116, 100] : Str)), .string (Bs ([116, 104] : Str)), .string (Bs ([109, 97, 114, 113, 117, 101, 101] : Str)), .string (Bs ([111, 98, 106, 101, 99, 116] : Str)), .string (Bs ([111, 108] : Str)), .string (Bs ([117, 108] : Str)), .string (Bs ([98, 117, 116, 116, 111, 110] : Str)), .string (Bs ([116, 97, 98, 108, 101] : Str))]) (hA6.get rfl) (hA6.get rfl) rfl ti_30 hB9 rfl (ones_all [.string (Bs ([97, 112, 112, 108, 101, 116] : Str)), .string (Bs ([99, 97, 112, 116, 105, 111, 110] : Str)), .string (Bs ([116, 100] : Str)), .string (Bs ([116, 104] : Str)), .string (Bs ([109, 97, 114, 113, 117, 101, 101] : Str)), .string (Bs ([111, 98, 106, 101, 99, 116] : Str)), .string (Bs ([111, 108] : Str)), .string (Bs ([117, 108] : Str)), .string (Bs ([98, 117, 116, 116, 111, 110] : Str)), .string (Bs ([116, 97, 98, 108, 101] : Str))] rfl)) fun a13 w12 hS14 hB15 hA13 => ?_)
  have hB16 : Box w12 B_4 30 [.string (Bs ([97, 112, 112, 108, 101, 116] : Str)), .string (Bs ([99, 97, 112, 116, 105, 111, 110] : Str)), .string (Bs ([116, 100] : Str)), .string (Bs ([116, 104] : Str)), .string (Bs ([109, 97, 114, 113, 117, 101, 101] : Str)), .string (Bs ([111, 98, 106, 101, 99, 116] : Str)), .string (Bs ([111, 108] : Str)), .string (Bs ([117, 108] : Str)), .string (Bs ([98, 117, 116, 116, 111, 110] : Str)), .string (Bs ([116, 97, 98, 108, 101] : Str))] := hB15
  have hC17 := hC11.storeNew hN10 hS14
  have hN18 := hN10.up hS14.size
  refine sq_end ?_
  have hA19 := hA13.keep [(1, .pointer (some ⟨B_4, 0, none⟩))] ⟨rfl, trivial⟩
  refine then_normal ?_
  refine wp_seq ?_
  refine wp_seq ?_
  refine wp_region_lit ?_
  refine sq (opk_val hA19 rfl (r_assign rfl) fun a20 hA20 _ => ?_)
  refine sq_end ?_
  have hA21 := hA20.keep [(1, .pointer (some ⟨B_4, 0, none⟩)), (2, .int .i64 0)] ⟨rfl, rfl, trivial⟩
  refine then_normal ?_
  refine wp_block ?_
  have ht260 := ht0 w12 B_4 hN18  hC17
  obtain ⟨J_24, mu_25, h0264, ht263⟩ := ht260
  refine wp_loop_st (σ := Int × World) (fun s a w => Ag 52 a [(1, .pointer (some ⟨B_4, 0, none⟩)), (2, .int .i64 s.1)] ∧ Box w B_4 30 [.string (Bs ([97, 112, 112, 108, 101, 116] : Str)), .string (Bs ([99, 97, 112, 116, 105, 111, 110] : Str)), .string (Bs ([116, 100] : Str)), .string (Bs ([116, 104] : Str)), .string (Bs ([109, 97, 114, 113, 117, 101, 101] : Str)), .string (Bs ([111, 98, 106, 101, 99, 116] : Str)), .string (Bs ([111, 108] : Str)), .string (Bs ([117, 108] : Str)), .string (Bs ([98, 117, 116, 116, 111, 110] : Str)), .string (Bs ([116, 97, 98, 108, 101] : Str))] ∧ w = s.2 ∧ J_24 s.1 s.2) (fun s => mu_25 s.1 s.2) (0, w12) ⟨hA21.keep [(1, .pointer (some ⟨B_4, 0, none⟩)), (2, .int .i64 0)] ⟨rfl, rfl, trivial⟩, hB16, rfl, h0264⟩ ?_
  rintro ⟨i_22, w23⟩ a261 w_ ⟨hA261, hB262, hw_, hJ266⟩
  have hw_ : w23 = w_ := hw_.symm
  subst hw_
  have ht265 := ht263 i_22 _ hJ266
  refine wp_seq ?_
  refine wp_seq ?_
  refine wp_region_lit ?_
  refine sq (opk_val hA261 rfl (r_move (hA261.get rfl)) fun a267 hA267 _ => ?_)
  refine sq (opk_val hA267 rfl (r_lss (hA267.get rfl) rfl) fun a268 hA268 _ => ?_)
  refine sq_end ?_
  have hA269 := hA268.keep [(1, .pointer (some ⟨B_4, 0, none⟩)), (2, .int .i64 i_22), (8, .bool (decide (i_22 < 10)))] ⟨rfl, rfl, rfl, trivial⟩
  refine then_normal ?_
  refine wp_cond_split (hA269.get rfl) (fun hc => ?_) (fun hc => ?_)
  · have ht270 := ht265.1 (of_decide_eq_true hc)
    clear hc
    refine wp_skip ?_
    refine then_normal ?_
    refine wp_seq ?_
    refine wp_block ?_
    refine wp_seq ?_
    refine wp_region_lit ?_
    refine sq (opk_val hA269 rfl (r_move (hA269.get rfl)) fun a272 hA272 _ => ?_)
    obtain ⟨hS274, ht275⟩ := ht270
    refine sq (opk_val hA272 rfl (r_indexAddrA (hA272.get rfl) (hA272.get rfl) Tryd.underlying30 ti_9 hS274) fun a273 hA273 _ => ?_)
    refine sq (opk_val hA273 rfl (r_load1 Tryd.underlying9 rfl (hA273.get rfl) (Box.cellA ([([97, 112, 112, 108, 101, 116] : Str), ([99, 97, 112, 116, 105, 111, 110] : Str), ([116, 100] : Str), ([116, 104] : Str), ([109, 97, 114, 113, 117, 101, 101] : Str), ([111, 98, 106, 101, 99, 116] : Str), ([111, 108] : Str), ([117, 108] : Str), ([98, 117, 116, 116, 111, 110] : Str), ([116, 97, 98, 108, 101] : Str)] : List Str) (fun s => Value.string (Bs s)) [] hB262 rfl rfl hS274)) fun a276 hA276 _ => ?_)
    refine sq (opk_new (fun B => .slice (some ⟨B, 0, none⟩) 3 3) hA276 rfl (r_buildSlice (vs := #[(0, .string (Bs ([104, 116, 109, 108] : Str))), (1, .string (Bs ([112] : Str))), (2, .string (Bs (([([97, 112, 112, 108, 101, 116] : Str), ([99, 97, 112, 116, 105, 111, 110] : Str), ([116, 100] : Str), ([116, 104] : Str), ([109, 97, 114, 113, 117, 101, 101] : Str), ([111, 98, 106, 101, 99, 116] : Str), ([111, 108] : Str), ([117, 108] : Str), ([98, 117, 116, 116, 111, 110] : Str), ([116, 97, 98, 108, 101] : Str)] : List Str).getD i_22.toNat [])))]) (cs := [.string (Bs ([104, 116, 109, 108] : Str)), .string (Bs ([112] : Str)), .string (Bs (([([97, 112, 112, 108, 101, 116] : Str), ([99, 97, 112, 116, 105, 111, 110] : Str), ([116, 100] : Str), ([116, 104] : Str), ([109, 97, 114, 113, 117, 101, 101] : Str), ([111, 98, 106, 101, 99, 116] : Str), ([111, 108] : Str), ([117, 108] : Str), ([98, 117, 116, 116, 111, 110] : Str), ([116, 97, 98, 108, 101] : Str)] : List Str).getD i_22.toNat []))]) (map_arr2 (ml2_cons rfl (ml2_cons rfl (ml2_cons (hA276.get rfl) (ml2_nil))))) Tryd.underlying22 ti_9 rfl rfl (by kernel_rfl)) fun a279 w278 B_277 hE280 hN281 hB282 hA279 _ => ?_)
    have hne283 : B_4 ≠ B_277 := Nat.ne_of_lt (Nat.lt_of_lt_of_le hB262.lt hN281.ge)
    have hN284 : New w23 B_277 w278 := hN281
    have hB285 := hB262.ext hE280
    have hC286 : Chg [] w23 w278 := hE280
    refine sq (opk_val hA279 rfl (r_assign (hA279.get rfl)) fun a287 hA287 _ => ?_)
    refine sq_end ?_
    have hA288 := hA287.keep [(1, .pointer (some ⟨B_4, 0, none⟩)), (2, .int .i64 i_22), (3, Sl.v (Sl.mk (some ⟨B_277, 0, none⟩) 3 3))] ⟨rfl, rfl, rfl, trivial⟩
    refine then_normal ?_
    refine wp_seq ?_
    refine wp_region_lit ?_
    refine sq (opk_val hA288 rfl (r_move (hA288.get rfl)) fun a289 hA289 _ => ?_)
    refine sq (opk_val hA289 rfl (r_gtr (hA289.get rfl) rfl) fun a290 hA290 _ => ?_)
    refine sq (opk_val hA290 rfl (r_move (hA290.get rfl)) fun a291 hA291 _ => ?_)
    refine sq (opk_gval hA291 rfl rfl (g := true) (e := (decide (5 < i_22))) rfl (fun hg => r_move (hA291.get rfl)) fun a292 hA292 _ => ?_)
    refine sq (opk_gval hA292 rfl rfl (g := true) (e := (decide (5 < i_22))) rfl (fun hg => r_lss (cv_get (hA292.get rfl) hg) rfl) fun a293 hA293 _ => ?_)
    refine sq (opk_val hA293 rfl (r_pick_and (g := (true && ((decide (5 < i_22)) == true))) (hA293.get rfl) (hA293.get rfl) (fun he => g_mkt rfl he)) fun a294 hA294 _ => ?_)
    refine sq (opk_val hA294 rfl (r_move (hA294.get rfl)) fun a295 hA295 _ => ?_)
    refine sq (opk_val hA295 rfl (r_eql (hA295.get rfl) rfl) fun a296 hA296 _ => ?_)
    refine sq (opk_val hA296 rfl (r_move (hA296.get rfl)) fun a297 hA297 _ => ?_)
    refine sq (opk_val hA297 rfl (r_gtr (hA297.get rfl) rfl) fun a298 hA298 _ => ?_)
    refine sq (opk_val hA298 rfl (r_move (hA298.get rfl)) fun a299 hA299 _ => ?_)
    refine sq (opk_gval hA299 rfl rfl (g := true) (e := (decide (5 < i_22))) rfl (fun hg => r_move (hA299.get rfl)) fun a300 hA300 _ => ?_)
    refine sq (opk_gval hA300 rfl rfl (g := true) (e := (decide (5 < i_22))) rfl (fun hg => r_lss (cv_get (hA300.get rfl) hg) rfl) fun a301 hA301 _ => ?_)
    refine sq (opk_val hA301 rfl (r_pick_and (g := (true && ((decide (5 < i_22)) == true))) (hA301.get rfl) (hA301.get rfl) (fun he => g_mkt rfl he)) fun a302 hA302 _ => ?_)
    refine sq (opk_val hA302 rfl (r_move (hA302.get rfl)) fun a303 hA303 _ => ?_)
    refine sq (opk_val hA303 rfl (r_lss (hA303.get rfl) rfl) fun a304 hA304 _ => ?_)
    refine sq (opk_val hA304 rfl (r_buildA (vs := #[(0, .bool false), (1, .bool ((decide (5 < i_22)) && (decide (i_22 < 9)))), (2, .bool (decide (i_22 = 8))), (3, .bool ((decide (5 < i_22)) && (decide (i_22 < 8)))), (4, .bool (decide (i_22 < 9)))]) (cells := #[.bool false, .bool ((decide (5 < i_22)) && (decide (i_22 < 9))), .bool (decide (i_22 = 8)), .bool ((decide (5 < i_22)) && (decide (i_22 < 8))), .bool (decide (i_22 < 9))]) (map_arr2 (ml2_cons rfl (ml2_cons (hA304.get rfl) (ml2_cons (hA304.get rfl) (ml2_cons (hA304.get rfl) (ml2_cons (hA304.get rfl) (ml2_nil))))))) ti_31 Tryd.underlying31 ti_4 (by kernel_rfl)) fun a305 hA305 _ => ?_)
    refine sq (opk_new (fun B => .pointer (some ⟨B, 0, none⟩)) hA305 rfl (r_alloc (cs := [.bool false, .bool false, .bool false, .bool false, .bool false]) ti_31 rfl) fun a308 w307 B_306 hE309 hN310 hB311 hA308 _ => ?_)
    have hne312 : B_4 ≠ B_306 := Nat.ne_of_lt (Nat.lt_of_lt_of_le hB285.lt hN310.ge)
    have hne313 : B_277 ≠ B_306 := Nat.ne_of_lt (Nat.lt_of_lt_of_le hB282.lt hN310.ge)
    have hN314 := New.of hC286 hN310
    have hB315 := hB285.ext hE309
    have hB316 := hB282.ext hE309
    have hC317 := hC286.more hE309
    have hN318 := hN284.up hE309.size
    refine sq (opk_store hA308 hB311 (r_store (vs := [.bool false, .bool ((decide (5 < i_22)) && (decide (i_22 < 9))), .bool (decide (i_22 = 8)), .bool ((decide (5 < i_22)) && (decide (i_22 < 8))), .bool (decide (i_22 < 9))]) (hA308.get rfl) (hA308.get rfl) rfl ti_31 hB311 rfl (ones_all [.bool false, .bool ((decide (5 < i_22)) && (decide (i_22 < 9))), .bool (decide (i_22 = 8)), .bool ((decide (5 < i_22)) && (decide (i_22 < 8))), .bool (decide (i_22 < 9))] rfl)) fun a320 w319 hS321 hB322 hA320 => ?_)
    have hB323 : Box w319 B_306 31 [.bool false, .bool ((decide (5 < i_22)) && (decide (i_22 < 9))), .bool (decide (i_22 = 8)), .bool ((decide (5 < i_22)) && (decide (i_22 < 8))), .bool (decide (i_22 < 9))] := hB322
    have hB324 := hB315.keep hS321 (by simpa using hne312)
    have hB325 := hB316.keep hS321 (by simpa using hne313)
    have hC326 := hC317.storeNew hN314 hS321
    have hN327 := hN318.up hS321.size
    have hN328 := hN314.up hS321.size
    refine sq_end ?_
    have hA329 := hA320.keep [(1, .pointer (some ⟨B_4, 0, none⟩)), (2, .int .i64 i_22), (3, Sl.v (Sl.mk (some ⟨B_277, 0, none⟩) 3 3)), (4, .pointer (some ⟨B_306, 0, none⟩))] ⟨rfl, rfl, rfl, rfl, trivial⟩
    refine then_normal ?_
    refine wp_seq ?_
    refine wp_region_lit ?_
    refine sq (opk_val hA329 rfl (r_assign rfl) fun a330 hA330 _ => ?_)
    refine sq_end ?_
    have hA331 := hA330.keep [(1, .pointer (some ⟨B_4, 0, none⟩)), (2, .int .i64 i_22), (3, Sl.v (Sl.mk (some ⟨B_277, 0, none⟩) 3 3)), (4, .pointer (some ⟨B_306, 0, none⟩)), (5, .int .i64 1)] ⟨rfl, rfl, rfl, rfl, rfl, trivial⟩
    refine then_normal ?_
    refine wp_block ?_
    have ht386 := ht275 w319 B_277 B_306 hN327 hN328 hne313 hC326
    have ht387 := ht386 hB325
    obtain ⟨J_390, mu_391, h0443, ht442⟩ := ht387
    refine wp_loop_st (σ := Int × World) (fun s a w => Ag 52 a [(1, .pointer (some ⟨B_4, 0, none⟩)), (2, .int .i64 i_22), (3, Sl.v (Sl.mk (some ⟨B_277, 0, none⟩) 3 3)), (4, .pointer (some ⟨B_306, 0, none⟩)), (5, .int .i64 s.1)] ∧ Box w B_4 30 [.string (Bs ([97, 112, 112, 108, 101, 116] : Str)), .string (Bs ([99, 97, 112, 116, 105, 111, 110] : Str)), .string (Bs ([116, 100] : Str)), .string (Bs ([116, 104] : Str)), .string (Bs ([109, 97, 114, 113, 117, 101, 101] : Str)), .string (Bs ([111, 98, 106, 101, 99, 116] : Str)), .string (Bs ([111, 108] : Str)), .string (Bs ([117, 108] : Str)), .string (Bs ([98, 117, 116, 116, 111, 110] : Str)), .string (Bs ([116, 97, 98, 108, 101] : Str))] ∧ Box w B_306 31 [.bool false, .bool ((decide (5 < i_22)) && (decide (i_22 < 9))), .bool (decide (i_22 = 8)), .bool ((decide (5 < i_22)) && (decide (i_22 < 8))), .bool (decide (i_22 < 9))] ∧ w = s.2 ∧ J_390 s.1 s.2) (fun s => mu_391 s.1 s.2) (1, w319) ⟨hA331.keep [(1, .pointer (some ⟨B_4, 0, none⟩)), (2, .int .i64 i_22), (3, Sl.v (Sl.mk (some ⟨B_277, 0, none⟩) 3 3)), (4, .pointer (some ⟨B_306, 0, none⟩)), (5, .int .i64 1)] ⟨rfl, rfl, rfl, rfl, rfl, trivial⟩, hB324, hB323, rfl, h0443⟩ ?_
    rintro ⟨s_388, w389⟩ a439 w_ ⟨hA439, hB440, hB441, hw_, hJ445⟩
    have hw_ : w389 = w_ := hw_.symm
    subst hw_
    have ht444 := ht442 s_388 _ hJ445
    refine wp_seq ?_
    refine wp_seq ?_
    refine wp_region_lit ?_
    refine sq (opk_val hA439 rfl (r_move (hA439.get rfl)) fun a446 hA446 _ => ?_)
    refine sq (opk_val hA446 rfl (r_leq (hA446.get rfl) rfl) fun a447 hA447 _ => ?_)
    refine sq_end ?_
    have hA448 := hA447.keep [(1, .pointer (some ⟨B_4, 0, none⟩)), (2, .int .i64 i_22), (3, Sl.v (Sl.mk (some ⟨B_277, 0, none⟩) 3 3)), (4, .pointer (some ⟨B_306, 0, none⟩)), (5, .int .i64 s_388), (33, .bool (decide (s_388 ≤ 4)))] ⟨rfl, rfl, rfl, rfl, rfl, rfl, trivial⟩
    refine then_normal ?_
    refine wp_cond_split (hA448.get rfl) (fun hc => ?_) (fun hc => ?_)
    · have ht449 := ht444.1 (of_decide_eq_true hc)
      clear hc
      refine wp_skip ?_
      refine then_normal ?_
      refine wp_seq ?_
      refine wp_block ?_
      refine wp_seq ?_
      refine draw' (by kernel_rfl) fun w451 hE452 => ?_
      have hB453 := hB440.ext hE452
      have hB454 := hB441.ext hE452
      have hC455 : Chg [] w389 w451 := hE452
      have ht456 := ht449 w451    hC455
      obtain ⟨r_459, hc460, ht461⟩ := ht456
      obtain ⟨hS463, ht464⟩ := ht461
      refine par (D := [[], [], [0, 1], [], [3], [3, 4], [0, 1, 2, 3, 4, 5]]) (S := [0, 1, 2, 3, 4, 5, 6]) (F := []) (V := VL [(0, fun v _ => v = Sl.v (Sl.mk (some ⟨B_277, 0, none⟩) 3 3)), (1, fun v _ => v = .int .i64 s_388), (2, fun v _ => v = .bool r_459), (3, fun v _ => v = .int .i64 s_388), (4, fun v _ => v = .pointer (some ((⟨B_306, 0, none⟩ : Addr).add (s_388.toNat * 1)))), (5, fun v _ => v = .bool (([false, ((decide (5 < i_22)) && (decide (i_22 < 9))), (decide (i_22 = 8)), ((decide (5 < i_22)) && (decide (i_22 < 8))), (decide (i_22 < 9))] : List Bool).getD s_388.toNat false)), (6, fun v _ => v = .bool (!(r_459 == (([false, ((decide (5 < i_22)) && (decide (i_22 < 9))), (decide (i_22 = 8)), ((decide (5 < i_22)) && (decide (i_22 < 8))), (decide (i_22 < 9))] : List Bool).getD s_388.toNat false))))]) hA448 (by kernel_rfl) ⟨fun _ _ _ _ h => by first | exact h | (change _ = _ at h; change _ = _; exact h), fun _ _ _ _ h => by first | exact h | (change _ = _ at h; change _ = _; exact h), fun _ _ _ _ h => by first | exact h | (change _ = _ at h; change _ = _; exact h), fun _ _ _ _ h => by first | exact h | (change _ = _ at h; change _ = _; exact h), fun _ _ _ _ h => by first | exact h | (change _ = _ at h; change _ = _; exact h), fun _ _ _ _ h => by first | exact h | (change _ = _ at h; change _ = _; exact h), fun _ _ _ _ h => by first | exact h | (change _ = _ at h; change _ = _; exact h), trivial⟩ ⟨?_, ?_, ?_, ?_, ?_, ?_, ?_, trivial⟩ ?_
      · intro a w hT
        have hAp := hT.ag hA448 [(3, Sl.v (Sl.mk (some ⟨B_277, 0, none⟩) 3 3))] ⟨rfl, trivial⟩ (by kernel_rfl)
        exact opk_val hAp rfl (r_move (hAp.get rfl)) fun _ _ e => ⟨_, e, Chg.refl _ _, fun _ => Eq.refl _⟩
      · intro a w hT
        have hAp := hT.ag hA448 [(5, .int .i64 s_388)] ⟨rfl, trivial⟩ (by kernel_rfl)
        exact opk_val hAp rfl (r_move (hAp.get rfl)) fun _ _ e => ⟨_, e, Chg.refl _ _, fun _ => Eq.refl _⟩
      · intro a w hT
        have hAp := hT.ag hA448 [] trivial (by kernel_rfl)
        have e457 : a.tmps.getD 36 undef = Sl.v (Sl.mk (some ⟨B_277, 0, none⟩) 3 3) := hT.vals 0 rfl 36 rfl
        have hAp := hAp.add e457
        have e458 : a.tmps.getD 37 undef = .int .i64 s_388 := hT.vals 1 rfl 37 rfl
        have hAp := hAp.add e458
        exact opk_callX hAp rfl (r_call (args := #[Sl.v (Sl.mk (some ⟨B_277, 0, none⟩) 3 3), .string (Bs ([112] : Str)), .int .i64 s_388]) Tryd.func14 (by decide) rfl (map_arr (ml_cons (hAp.get rfl) (ml_cons rfl (ml_cons (hAp.get rfl) ml_nil)))) rfl) (hc460 w hT.chg) fun _ _ _ _ e hR => ⟨_, e, hR.1, fun _ => hR.2⟩
      · intro a w hT
        have hAp := hT.ag hA448 [(5, .int .i64 s_388)] ⟨rfl, trivial⟩ (by kernel_rfl)
        exact opk_val hAp rfl (r_move (hAp.get rfl)) fun _ _ e => ⟨_, e, Chg.refl _ _, fun _ => Eq.refl _⟩
      · intro a w hT
        have hAp := hT.ag hA448 [(4, .pointer (some ⟨B_306, 0, none⟩))] ⟨rfl, trivial⟩ (by kernel_rfl)
        have e462 : a.tmps.getD 39 undef = .int .i64 s_388 := hT.vals 3 rfl 39 rfl
        have hAp := hAp.add e462
        exact opk_val hAp rfl (r_indexAddrA (hAp.get rfl) (hAp.get rfl) Tryd.underlying31 ti_4 hS463) fun _ _ e => ⟨_, e, Chg.refl _ _, fun _ => Eq.refl _⟩
      · intro a w hT
        have hAp := hT.ag hA448 [] trivial (by kernel_rfl)
        have e465 : a.tmps.getD 40 undef = .pointer (some ((⟨B_306, 0, none⟩ : Addr).add (s_388.toNat * 1))) := hT.vals 4 rfl 40 rfl
        have hAp := hAp.add e465
        exact opk_val hAp rfl (r_load1 Tryd.underlying4 rfl (hAp.get rfl) (Box.cellA ([false, ((decide (5 < i_22)) && (decide (i_22 < 9))), (decide (i_22 = 8)), ((decide (5 < i_22)) && (decide (i_22 < 8))), (decide (i_22 < 9))] : List Bool) (fun z => Value.bool z) false (hB454.ext hT.chg) rfl rfl hS463)) fun _ _ e => ⟨_, e, Chg.refl _ _, fun _ => Eq.refl _⟩
      · intro a w hT
        have hAp := hT.ag hA448 [] trivial (by kernel_rfl)
        have e466 : a.tmps.getD 38 undef = .bool r_459 := hT.vals 2 rfl 38 rfl
        have hAp := hAp.add e466
        have e467 : a.tmps.getD 41 undef = .bool (([false, ((decide (5 < i_22)) && (decide (i_22 < 9))), (decide (i_22 = 8)), ((decide (5 < i_22)) && (decide (i_22 < 8))), (decide (i_22 < 9))] : List Bool).getD s_388.toNat false) := hT.vals 5 rfl 41 rfl
        have hAp := hAp.add e467
        exact opk_val hAp rfl (r_bneq (hAp.get rfl) (hAp.get rfl) Tryd.underlying4) fun _ _ e => ⟨_, e, Chg.refl _ _, fun _ => Eq.refl _⟩
      · intro a468 w469 hE470 hag471 hv472
        have hA468 := hag471 [(1, .pointer (some ⟨B_4, 0, none⟩)), (2, .int .i64 i_22), (3, Sl.v (Sl.mk (some ⟨B_277, 0, none⟩) 3 3)), (4, .pointer (some ⟨B_306, 0, none⟩)), (5, .int .i64 s_388)] ⟨rfl, rfl, rfl, rfl, rfl, trivial⟩ (by kernel_rfl)
        have e474 : a468.tmps.getD 42 undef = .bool (!(r_459 == (([false, ((decide (5 < i_22)) && (decide (i_22 < 9))), (decide (i_22 = 8)), ((decide (5 < i_22)) && (decide (i_22 < 8))), (decide (i_22 < 9))] : List Bool).getD s_388.toNat false))) := hv472 6 rfl 42 rfl
        have hA475 := hA468.add e474
        have hB476 := hB453.ext hE470
        have hB477 := hB454.ext hE470
        have hC478 : Chg [] w451 w469 := hE470
        refine PR_end (by kernel_rfl) ?_
        have hA479 := hA475.keep [(1, .pointer (some ⟨B_4, 0, none⟩)), (2, .int .i64 i_22), (3, Sl.v (Sl.mk (some ⟨B_277, 0, none⟩) 3 3)), (4, .pointer (some ⟨B_306, 0, none⟩)), (5, .int .i64 s_388), (42, .bool (!(r_459 == (([false, ((decide (5 < i_22)) && (decide (i_22 < 9))), (decide (i_22 = 8)), ((decide (5 < i_22)) && (decide (i_22 < 8))), (decide (i_22 < 9))] : List Bool).getD s_388.toNat false))))] ⟨rfl, rfl, rfl, rfl, rfl, rfl, trivial⟩
        refine then_normal ?_
        refine wp_cond_split (hA479.get rfl) (fun hc => ?_) (fun hc => ?_)
        · have ht480 := ht464.1 (b_not_t hc)
          clear hc
          refine wp_seq ?_
          refine wp_region_lit ?_
          refine sq (opk_val hA479 rfl (r_assign rfl) fun a482 hA482 _ => ?_)
          refine sq_end ?_
          have hA483 := hA482.keep [(0, .bool false)] ⟨rfl, trivial⟩
          refine then_normal ?_
          refine wp_ret ?_
          refine block_ret ?_
          refine then_ret ?_
          refine then_ret ?_
          refine block_ret ?_
          refine block_ret ?_
          refine then_ret ?_
          refine then_ret ?_
          refine block_ret ?_
          refine then_ret ?_
          have ht484 := ht480 w469    hC478
          exact res_all (vs := [.bool false]) rfl hA483 ⟨res_of_tmp hA483 rfl, trivial⟩ ht484
        · have ht481 := ht464.2 (b_not_f hc)
          clear hc
          refine wp_skip ?_
          refine block_normal ?_
          refine then_normal ?_
          refine wp_region_lit ?_
          refine sq (opk_val hA479 rfl (r_move (hA479.get rfl)) fun a485 hA485 _ => ?_)
          obtain ⟨hS487, ht488⟩ := ht481
          refine sq (opk_val hA485 rfl (r_addI (hA485.get rfl) rfl hS487) fun a486 hA486 _ => ?_)
          refine sq (opk_val hA486 rfl (r_assign (hA486.get rfl)) fun a489 hA489 _ => ?_)
          refine sq_end ?_
          have hA490 := hA489.keep [(1, .pointer (some ⟨B_4, 0, none⟩)), (2, .int .i64 i_22), (3, Sl.v (Sl.mk (some ⟨B_277, 0, none⟩) 3 3)), (4, .pointer (some ⟨B_306, 0, none⟩)), (5, .int .i64 (s_388 + 1))] ⟨rfl, rfl, rfl, rfl, rfl, trivial⟩
          have ht491 := ht488 w469    hC478
          have hA492 := hA490.keep [(1, .pointer (some ⟨B_4, 0, none⟩)), (2, .int .i64 i_22), (3, Sl.v (Sl.mk (some ⟨B_277, 0, none⟩) 3 3)), (4, .pointer (some ⟨B_306, 0, none⟩)), (5, .int .i64 (s_388 + 1))] ⟨rfl, rfl, rfl, rfl, rfl, trivial⟩
          exact then_normal ⟨(s_388 + 1, w469), ⟨hA492, hB476, hB477, rfl, ht491.1⟩, ht491.2⟩
    · have ht450 := ht444.2 (of_decide_eq_false hc)
      clear hc
      refine wp_exit ?_
      refine then_exit ?_
      refine then_exit ?_
      refine block_hit ?_
      have hA493 := hA448.keep [(1, .pointer (some ⟨B_4, 0, none⟩)), (2, .int .i64 i_22)] ⟨rfl, rfl, trivial⟩
      refine block_normal ?_
      refine then_normal ?_
      refine wp_region_lit ?_
      refine sq (opk_val hA493 rfl (r_move (hA493.get rfl)) fun a494 hA494 _ => ?_)
      obtain ⟨hS496, ht497⟩ := ht450
      refine sq (opk_val hA494 rfl (r_addI (hA494.get rfl) rfl hS496) fun a495 hA495 _ => ?_)
      refine sq (opk_val hA495 rfl (r_assign (hA495.get rfl)) fun a498 hA498 _ => ?_)
      refine sq_end ?_
      have hA499 := hA498.keep [(1, .pointer (some ⟨B_4, 0, none⟩)), (2, .int .i64 (i_22 + 1))] ⟨rfl, rfl, trivial⟩
      have hA500 := hA499.keep [(1, .pointer (some ⟨B_4, 0, none⟩)), (2, .int .i64 (i_22 + 1))] ⟨rfl, rfl, trivial⟩
      exact then_normal ⟨(i_22 + 1, w389), ⟨hA500, hB440, rfl, ht497.1⟩, ht497.2⟩
  · have ht271 := ht265.2 (of_decide_eq_false hc)
    clear hc
    refine wp_exit ?_
    refine then_exit ?_
    refine then_exit ?_
    refine block_hit ?_
    have hA501 := hA269.keep [] trivial
    refine then_normal ?_
    refine wp_seq ?_
    refine wp_region_lit ?_
    refine sq (opk_new (fun B => .slice (some ⟨B, 0, none⟩) 1 1) hA501 rfl (r_buildSlice (vs := #[(0, .string (Bs ([116, 97, 98, 108, 101] : Str)))]) (cs := [.string (Bs ([116, 97, 98, 108, 101] : Str))]) (map_arr2 (ml2_cons rfl (ml2_nil))) Tryd.underlying22 ti_9 rfl rfl (by kernel_rfl)) fun a504 w503 B_502 hE505 hN506 hB507 hA504 _ => ?_)
    have hN508 : New w23 B_502 w503 := hN506
    have hC509 : Chg [] w23 w503 := hE505
    have ht510 := ht271 w503 B_502 hN508  hC509
    have ht511 := ht510 hB507
    refine sq (opk_call hA504 rfl (r_call (args := #[Sl.v (Sl.mk (some ⟨B_502, 0, none⟩) 1 1), .string (Bs ([116, 97, 98, 108, 101] : Str)), .int .i64 1]) Tryd.func14 (by decide) rfl (map_arr (ml_cons (hA504.get rfl) (ml_cons rfl (ml_cons rfl ml_nil)))) rfl) ht511 fun a513 v519 w514 hA513 _ hn516 hz517 hK518 => ?_)
    obtain ⟨r_512, rfl, ht515⟩ := hK518
    refine sq (opk_val hA513 rfl (r_move (hA513.get rfl)) fun a520 hA520 _ => ?_)
    obtain ⟨r_521, hc525, ht524⟩ := ht515
    refine sq (opk_gcall hA520 rfl rfl (g := true) (e := r_512) rfl (fun hg => r_call (args := #[Sl.v Sl.nil, .string (Bs ([112] : Str)), .int .i64 1]) Tryd.func14 (by decide) rfl (map_arr (ml_cons rfl (ml_cons rfl (ml_cons rfl ml_nil)))) rfl) (fun hg => hc525 (g_t hg)) fun a522 w523 hA522 _ hE526 => ?_)
    have hC527 : Chg [] w514 w523 := hE526
    have ht528 := ht524 w523 hE526
    refine sq (opk_gval hA522 rfl rfl (g := true) (e := r_512) rfl (fun hg => r_not (cv_get (hA522.get rfl) hg)) fun a529 hA529 _ => ?_)
    refine sq (opk_val hA529 rfl (r_pick_and (g := (true && (r_512 == true))) (hA529.get rfl) (hA529.get rfl) (fun he => g_mkt rfl he)) fun a530 hA530 _ => ?_)
    refine sq (opk_val hA530 rfl (r_move (hA530.get rfl)) fun a531 hA531 _ => ?_)
    obtain ⟨r_532, hc536, ht535⟩ := ht528
    refine sq (opk_gcall hA531 rfl rfl (g := true) (e := (r_512 && (!r_521))) rfl (fun hg => r_call (args := #[]) Tryd.func11 (by decide) rfl (map_arr ml_nil) rfl) (fun hg => hc536 ⟨(b_and_t (g_t hg)).1, (b_not_t (b_and_t (g_t hg)).2)⟩) fun a533 w534 hA533 _ hE537 => ?_)
    have hC538 : Chg [] w523 w534 := hE537
    have ht539 := ht535 w534 hE537
    refine sq (opk_val hA533 rfl (r_pick_and (g := (true && ((r_512 && (!r_521)) == true))) (hA533.get rfl) (hA533.get rfl) (fun he => g_mkt rfl he)) fun a540 hA540 _ => ?_)
    refine sq (opk_val hA540 rfl (r_assign (hA540.get rfl)) fun a541 hA541 _ => ?_)
    refine sq_end ?_
    have hA542 := hA541.keep [(0, .bool ((r_512 && (!r_521)) && r_532))] ⟨rfl, trivial⟩
    refine then_normal ?_
    refine wp_ret ?_
    exact res_all (vs := [.bool ((r_512 && (!r_521)) && r_532)]) rfl hA542 ⟨res_of_tmp hA542 rfl, trivial⟩ ht539

end Go.Proofs.YtnmpenfpajfoaaaDoor
