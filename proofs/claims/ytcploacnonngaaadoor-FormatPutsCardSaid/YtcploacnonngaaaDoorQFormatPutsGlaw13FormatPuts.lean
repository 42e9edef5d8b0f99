/-
  PRINTED BY PROGRAM: for each function its condition (vc), and that this suffices (ok).
-/
import Derived.Test.YtcploacnonngaaaDoorQFormatPutsGT
namespace Go.Proofs.YtcploacnonngaaaDoor
open Go.RowKit
set_option linter.unusedVariables false

/-- The condition of topiary/topiarylaw13.FormatPuts. -/
def law13_FormatPuts.vc (n_1 : Int) (at_2 : Int) (R : Value → World → Prop) (w : World) : Prop :=
CallK Tryd.prog 6 #[] w [] (fun v w7 => ∃ (r_5 : Option Addr), v = .pointer r_5 ∧
(((Option.isNone r_5) = true) →
R (.bool false) w7) ∧
(((Option.isNone r_5) = false) →
CallK Tryd.prog 7 #[.int .i64 n_1, .int .i64 12] w7 [] (fun v w25 => ∃ (r_23 : Int), v = .int .i64 r_23 ∧
∃ (J_37 : Int → World → Prop) (mu_38 : Int → World → Nat),
J_37 1 w25 ∧
(∀ (i_35 : Int) (w36 : World), J_37 i_35 w36 →
((i_35 ≤ r_23) →
(I64 (i_35 - 1)) ∧
((0 : Int) ≤ i_35 - 1 ∧ (i_35 - 1 : Int) ≤ i_35 ∧ i_35 ≤ (([97, 98, 99, 100, 101, 102, 103, 104, 105, 106, 107, 108] : Str).length : Int)) ∧
CallK Tryd.prog 9 #[.pointer r_5, .agg #[.int .i64 i_35, .string (Bs ((List.drop (i_35 - 1).toNat ([97, 98, 99, 100, 101, 102, 103, 104, 105, 106, 107, 108] : Str)).take (i_35.toNat - (i_35 - 1).toNat))), Sl.v Sl.nil]] w36 [] (fun v w94 => v = .tuple #[] ∧
(I64 (i_35 + 1)) ∧
J_37 (i_35 + 1) w94 ∧ mu_38 (i_35 + 1) w94 < mu_38 i_35 w36)) ∧
((¬ (i_35 ≤ r_23)) →
(I64 (r_23 + 1)) ∧
CallK Tryd.prog 7 #[.int .i64 at_2, .int .i64 (r_23 + 1)] w36 [] (fun v w116 => ∃ (r_114 : Int), v = .int .i64 r_114 ∧
CallK Tryd.prog 17 #[.pointer r_5, .int .i64 r_114, .agg #[.int .i64 50, .string (Bs ([122] : Str)), Sl.v Sl.nil]] w116 [] (fun v w129 => ∃ (r_127 : Bool), v = .bool r_127 ∧
∃ (r_138 : Int), (((r_127 = true)) → Calls Tryd.prog 10 #[.pointer r_5, .int .i64 50] w129 (Ret fun v w' => Ext w129 w' ∧ v = .int .i64 r_138)) ∧
(∀ w140 : World, Ext w129 w140 →
∃ (r_151 : Int), ((((r_127 = true) ∧ (¬ (r_138 ≠ r_114)))) → Calls Tryd.prog 13 #[.pointer r_5] w140 (Ret fun v w' => Ext w140 w' ∧ v = .int .i64 r_151)) ∧
(∀ w153 : World, Ext w140 w153 →
((((r_127 = true) ∧ (¬ (r_138 ≠ r_114)))) → I64 (r_23 + 1)) ∧
∃ J_172 : Bool → World → Prop, (((((r_127 = true) ∧ (¬ (r_138 ≠ r_114))) ∧ (¬ (r_151 ≠ (r_23 + 1))))) → CallK Tryd.prog 17 #[.pointer r_5, .int .i64 (-1), .agg #[.int .i64 51, .string (Bs ([] : Str)), Sl.v Sl.nil]] w153 [] (fun v w170 => ∃ r_168 : Bool, v = .bool r_168 ∧ J_172 r_168 w170)) ∧
((¬ ((((r_127 = true) ∧ (¬ (r_138 ≠ r_114))) ∧ (¬ (r_151 ≠ (r_23 + 1)))))) → ∃ r_168 : Bool, J_172 r_168 w153) ∧
(∀ (r_168 : Bool) (w170 : World), J_172 r_168 w170 →
((((((r_127 = true) ∧ (¬ (r_138 ≠ r_114))) ∧ (¬ (r_151 ≠ (r_23 + 1)))) ∧ (r_168 = false))) → I64 (r_23 + 2)) ∧
∃ J_191 : Bool → World → Prop, ((((((r_127 = true) ∧ (¬ (r_138 ≠ r_114))) ∧ (¬ (r_151 ≠ (r_23 + 1)))) ∧ (r_168 = false))) → CallK Tryd.prog 17 #[.pointer r_5, .int .i64 (r_23 + 2), .agg #[.int .i64 51, .string (Bs ([] : Str)), Sl.v Sl.nil]] w170 [] (fun v w189 => ∃ r_187 : Bool, v = .bool r_187 ∧ J_191 r_187 w189)) ∧
((¬ (((((r_127 = true) ∧ (¬ (r_138 ≠ r_114))) ∧ (¬ (r_151 ≠ (r_23 + 1)))) ∧ (r_168 = false)))) → ∃ r_187 : Bool, J_191 r_187 w170) ∧
(∀ (r_187 : Bool) (w189 : World), J_191 r_187 w189 →
((((((r_127 = false) ∨ (r_138 ≠ r_114)) ∨ (r_151 ≠ (r_23 + 1))) ∨ (r_168 = true)) ∨ (r_187 = true)) →
R (.bool false) w189) ∧
((((((r_127 = true) ∧ (¬ (r_138 ≠ r_114))) ∧ (¬ (r_151 ≠ (r_23 + 1)))) ∧ (r_168 = false)) ∧ (r_187 = false)) →
CallK Tryd.prog 18 #[.pointer r_5, .int .i64 r_114] w189 [] (fun v w209 => ∃ (r_0_206_ID : Int) (r_0_206_Name : Str) (r_0_206_Attrs : Sl) (r_1_207 : Bool), v = .tuple #[.agg #[.int .i64 r_0_206_ID, .string (Bs r_0_206_Name), Sl.v r_0_206_Attrs], .bool r_1_207] ∧
∀ (w226 : World) (B_218 : Nat), New w209 B_218 w226 → Chg [] w209 w226 →
∃ J_250 : Bool → World → Prop, ((((r_1_207 = true) ∧ (¬ (r_0_206_ID ≠ 50)))) → CallK Tryd.prog 19 #[.pointer r_5, .int .i64 50, .agg #[.int .i64 60, .string (Bs ([121] : Str)), Sl.v Sl.nil]] w226 [B_218] (fun v w248 => ∃ r_246 : Bool, v = .bool r_246 ∧ J_250 r_246 w248)) ∧
((¬ (((r_1_207 = true) ∧ (¬ (r_0_206_ID ≠ 50))))) → ∃ r_246 : Bool, J_250 r_246 w226) ∧
(∀ (r_246 : Bool) (w248 : World), J_250 r_246 w248 →
∃ (r_262 : Int), (((((r_1_207 = true) ∧ (¬ (r_0_206_ID ≠ 50))) ∧ (r_246 = true))) → Calls Tryd.prog 10 #[.pointer r_5, .int .i64 60] w248 (Ret fun v w' => Ext w248 w' ∧ v = .int .i64 r_262)) ∧
(∀ w264 : World, Ext w248 w264 →
∃ J_281 : Bool → World → Prop, ((((((r_1_207 = true) ∧ (¬ (r_0_206_ID ≠ 50))) ∧ (r_246 = true)) ∧ (¬ (r_262 ≠ r_114)))) → CallK Tryd.prog 19 #[.pointer r_5, .int .i64 50, .agg #[.int .i64 61, .string (Bs ([] : Str)), Sl.v Sl.nil]] w264 [B_218] (fun v w279 => ∃ r_277 : Bool, v = .bool r_277 ∧ J_281 r_277 w279)) ∧
((¬ (((((r_1_207 = true) ∧ (¬ (r_0_206_ID ≠ 50))) ∧ (r_246 = true)) ∧ (¬ (r_262 ≠ r_114))))) → ∃ r_277 : Bool, J_281 r_277 w264) ∧
(∀ (r_277 : Bool) (w279 : World), J_281 r_277 w279 →
∃ J_296 : Bool → World → Prop, (((((((r_1_207 = true) ∧ (¬ (r_0_206_ID ≠ 50))) ∧ (r_246 = true)) ∧ (¬ (r_262 ≠ r_114))) ∧ (r_277 = false))) → CallK Tryd.prog 20 #[.pointer r_5, .int .i64 60] w279 [B_218] (fun v w294 => ∃ r_292 : Bool, v = .bool r_292 ∧ J_296 r_292 w294)) ∧
((¬ ((((((r_1_207 = true) ∧ (¬ (r_0_206_ID ≠ 50))) ∧ (r_246 = true)) ∧ (¬ (r_262 ≠ r_114))) ∧ (r_277 = false)))) → ∃ r_292 : Bool, J_296 r_292 w279) ∧
(∀ (r_292 : Bool) (w294 : World), J_296 r_292 w294 →
∃ J_312 : Bool → World → Prop, ((((((((r_1_207 = true) ∧ (¬ (r_0_206_ID ≠ 50))) ∧ (r_246 = true)) ∧ (¬ (r_262 ≠ r_114))) ∧ (r_277 = false)) ∧ (r_292 = true))) → CallK Tryd.prog 20 #[.pointer r_5, .int .i64 60] w294 [B_218] (fun v w310 => ∃ r_308 : Bool, v = .bool r_308 ∧ J_312 r_308 w310)) ∧
((¬ (((((((r_1_207 = true) ∧ (¬ (r_0_206_ID ≠ 50))) ∧ (r_246 = true)) ∧ (¬ (r_262 ≠ r_114))) ∧ (r_277 = false)) ∧ (r_292 = true)))) → ∃ r_308 : Bool, J_312 r_308 w294) ∧
(∀ (r_308 : Bool) (w310 : World), J_312 r_308 w310 →
((((((((r_1_207 = false) ∨ (r_0_206_ID ≠ 50)) ∨ (r_246 = false)) ∨ (r_262 ≠ r_114)) ∨ (r_277 = true)) ∨ (r_292 = false)) ∨ (r_308 = true)) →
R (.bool false) w310) ∧
((((((((r_1_207 = true) ∧ (¬ (r_0_206_ID ≠ 50))) ∧ (r_246 = true)) ∧ (¬ (r_262 ≠ r_114))) ∧ (r_277 = false)) ∧ (r_292 = true)) ∧ (r_308 = false)) →
∃ (J_330 : Int → World → Prop) (mu_331 : Int → World → Nat),
J_330 1 w310 ∧
(∀ (i_328 : Int) (w329 : World), J_330 i_328 w329 →
((i_328 ≤ r_23) →
CallK Tryd.prog 10 #[.pointer r_5, .int .i64 i_328] w329 [] (fun v w380 => ∃ (r_378 : Int), v = .int .i64 r_378 ∧
(I64 (i_328 - 1)) ∧
((r_378 ≠ (i_328 - 1)) →
R (.bool false) w380) ∧
((¬ (r_378 ≠ (i_328 - 1))) →
(I64 (i_328 + 1)) ∧
J_330 (i_328 + 1) w380 ∧ mu_331 (i_328 + 1) w380 < mu_331 i_328 w329))) ∧
((¬ (i_328 ≤ r_23)) →
CallK Tryd.prog 13 #[.pointer r_5] w329 [] (fun v w407 => ∃ (r_405 : Int), v = .int .i64 r_405 ∧
∃ (r_416 : Bool), (((r_405 = r_23)) → Calls Tryd.prog 11 #[] w407 (Ret fun v w' => Ext w407 w' ∧ v = .bool r_416)) ∧
(∀ w418 : World, Ext w407 w418 →
R (.bool ((decide (r_405 = r_23)) && r_416)) w418)))))))))))))))))))))))
set_option maxHeartbeats 1000000 in
set_option maxRecDepth 10000 in
theorem law13_FormatPuts.ok (n_1 : Int) (at_2 : Int) {R : Value → World → Prop} {w : World} (ht0 : law13_FormatPuts.vc n_1 at_2 R w) : Calls Tryd.prog 5 #[.int .i64 n_1, .int .i64 at_2] w (Ret R) := by
  refine enter [.int .i64 n_1, .int .i64 at_2] Tryd.func5 rfl Tryd.ntmps5 rfl ?_
  intro a0 hA0
  unfold law13_FormatPuts.vc at ht0
  refine wp_seq ?_
  refine wp_region_lit ?_
  refine sq (opk_val hA0 rfl (r_assign rfl) fun a3 hA3 _ => ?_)
  refine sq_end ?_
  have hA4 := hA3.keep [(0, .int .i64 n_1), (1, .int .i64 at_2)] ⟨rfl, rfl, trivial⟩
  refine then_normal ?_
  refine wp_seq ?_
  refine wp_region_lit ?_
  refine sq (opk_call hA4 rfl (r_call (args := #[]) Tryd.func6 (by decide) rfl (map_arr ml_nil) rfl) ht0 fun a6 v12 w7 hA6 _ hn9 hz10 hK11 => ?_)
  obtain ⟨r_5, rfl, ht8⟩ := hK11
  refine sq (opk_val hA6 rfl (r_assign (hA6.get rfl)) fun a13 hA13 _ => ?_)
  refine sq_end ?_
  have hA14 := hA13.keep [(0, .int .i64 n_1), (1, .int .i64 at_2), (5, .pointer r_5)] ⟨rfl, rfl, rfl, trivial⟩
  refine then_normal ?_
  refine wp_seq ?_
  refine wp_seq ?_
  refine wp_region_lit ?_
  refine sq (opk_val hA14 rfl (r_move (hA14.get rfl)) fun a15 hA15 _ => ?_)
  refine sq (opk_val hA15 rfl (r_pnil (o := r_5) (hA15.get rfl) rfl Tryd.underlying23) fun a16 hA16 _ => ?_)
  refine sq_end ?_
  have hA17 := hA16.keep [(0, .int .i64 n_1), (1, .int .i64 at_2), (5, .pointer r_5), (14, .bool (Option.isNone r_5))] ⟨rfl, rfl, rfl, rfl, trivial⟩
  refine then_normal ?_
  refine wp_cond_split (hA17.get rfl) (fun hc => ?_) (fun hc => ?_)
  · have ht18 := ht8.1 hc
    clear hc
    refine wp_seq ?_
    refine wp_region_lit ?_
    refine sq (opk_val hA17 rfl (r_assign rfl) fun a20 hA20 _ => ?_)
    refine sq_end ?_
    have hA21 := hA20.keep [(4, .bool false)] ⟨rfl, trivial⟩
    refine then_normal ?_
    refine wp_ret ?_
    refine then_ret ?_
    exact res_all (vs := [.bool false]) rfl hA21 ⟨res_of_tmp hA21 rfl, trivial⟩ ht18
  · have ht19 := ht8.2 hc
    clear hc
    refine wp_skip ?_
    refine then_normal ?_
    refine wp_seq ?_
    refine wp_region_lit ?_
    refine sq (opk_val hA17 rfl (r_move (hA17.get rfl)) fun a22 hA22 _ => ?_)
    refine sq (opk_call hA22 rfl (r_call (args := #[.int .i64 n_1, .int .i64 12]) Tryd.func7 (by decide) rfl (map_arr (ml_cons (hA22.get rfl) (ml_cons rfl ml_nil))) rfl) ht19 fun a24 v30 w25 hA24 _ hn27 hz28 hK29 => ?_)
    obtain ⟨r_23, rfl, ht26⟩ := hK29
    refine sq (opk_val hA24 rfl (r_assign (hA24.get rfl)) fun a31 hA31 _ => ?_)
    refine sq_end ?_
    have hA32 := hA31.keep [(1, .int .i64 at_2), (5, .pointer r_5), (6, .int .i64 r_23)] ⟨rfl, rfl, rfl, trivial⟩
    refine then_normal ?_
    refine wp_seq ?_
    refine wp_seq ?_
    refine wp_region_lit ?_
    refine sq (opk_val hA32 rfl (r_assign rfl) fun a33 hA33 _ => ?_)
    refine sq_end ?_
    have hA34 := hA33.keep [(1, .int .i64 at_2), (5, .pointer r_5), (6, .int .i64 r_23), (7, .int .i64 1)] ⟨rfl, rfl, rfl, rfl, trivial⟩
    refine then_normal ?_
    refine wp_block ?_
    obtain ⟨J_37, mu_38, h073, ht72⟩ := ht26
    refine wp_loop_st (σ := Int × World) (fun s a w => Ag 121 a [(1, .int .i64 at_2), (5, .pointer r_5), (6, .int .i64 r_23), (7, .int .i64 s.1)] ∧ w = s.2 ∧ J_37 s.1 s.2) (fun s => mu_38 s.1 s.2) (1, w25) ⟨hA34.keep [(1, .int .i64 at_2), (5, .pointer r_5), (6, .int .i64 r_23), (7, .int .i64 1)] ⟨rfl, rfl, rfl, rfl, trivial⟩, rfl, h073⟩ ?_
    rintro ⟨i_35, w36⟩ a71 w_ ⟨hA71, hw_, hJ75⟩
    have hw_ : w36 = w_ := hw_.symm
    subst hw_
    have ht74 := ht72 i_35 _ hJ75
    refine wp_seq ?_
    refine wp_seq ?_
    refine wp_region_lit ?_
    refine sq (opk_val hA71 rfl (r_move (hA71.get rfl)) fun a76 hA76 _ => ?_)
    refine sq (opk_val hA76 rfl (r_move (hA76.get rfl)) fun a77 hA77 _ => ?_)
    refine sq (opk_val hA77 rfl (r_leq (hA77.get rfl) (hA77.get rfl)) fun a78 hA78 _ => ?_)
    refine sq_end ?_
    have hA79 := hA78.keep [(1, .int .i64 at_2), (5, .pointer r_5), (6, .int .i64 r_23), (7, .int .i64 i_35), (19, .bool (decide (i_35 ≤ r_23)))] ⟨rfl, rfl, rfl, rfl, rfl, trivial⟩
    refine then_normal ?_
    refine wp_cond_split (hA79.get rfl) (fun hc => ?_) (fun hc => ?_)
    · have ht80 := ht74.1 (of_decide_eq_true hc)
      clear hc
      refine wp_skip ?_
      refine then_normal ?_
      refine wp_seq ?_
      refine wp_block ?_
      refine wp_region_lit ?_
      refine sq (opk_val hA79 rfl (r_move (hA79.get rfl)) fun a82 hA82 _ => ?_)
      refine sq (opk_val hA82 rfl (r_move (hA82.get rfl)) fun a83 hA83 _ => ?_)
      refine sq (opk_val hA83 rfl (r_move (hA83.get rfl)) fun a84 hA84 _ => ?_)
      obtain ⟨hS86, ht87⟩ := ht80
      refine sq (opk_val hA84 rfl (r_subI (hA84.get rfl) rfl hS86) fun a85 hA85 _ => ?_)
      refine sq (opk_val hA85 rfl (r_move (hA85.get rfl)) fun a88 hA88 _ => ?_)
      obtain ⟨hS90, ht91⟩ := ht87
      refine sq (opk_val hA88 rfl (r_sslice2 rfl (hA88.get rfl) (hA88.get rfl) Tryd.underlying9 hS90) fun a89 hA89 _ => ?_)
      refine sq (opk_val hA89 rfl (r_build (vs := #[(0, .int .i64 i_35), (1, .string (Bs ((List.drop (i_35 - 1).toNat ([97, 98, 99, 100, 101, 102, 103, 104, 105, 106, 107, 108] : Str)).take (i_35.toNat - (i_35 - 1).toNat))))]) (cells := #[.int .i64 i_35, .string (Bs ((List.drop (i_35 - 1).toNat ([97, 98, 99, 100, 101, 102, 103, 104, 105, 106, 107, 108] : Str)).take (i_35.toNat - (i_35 - 1).toNat))), Sl.v Sl.nil]) (map_arr2 (ml2_cons (hA89.get rfl) (ml2_cons (hA89.get rfl) (ml2_nil)))) ti_31 Tryd.underlying31 pl_31 (by kernel_rfl)) fun a92 hA92 _ => ?_)
      refine sq (opk_call hA92 rfl (r_call (args := #[.pointer r_5, .agg #[.int .i64 i_35, .string (Bs ((List.drop (i_35 - 1).toNat ([97, 98, 99, 100, 101, 102, 103, 104, 105, 106, 107, 108] : Str)).take (i_35.toNat - (i_35 - 1).toNat))), Sl.v Sl.nil]]) Tryd.func9 (by decide) rfl (map_arr (ml_cons (hA92.get rfl) (ml_cons (hA92.get rfl) ml_nil))) rfl) ht91 fun a93 v99 w94 hA93 _ hn96 hz97 hK98 => ?_)
      obtain ⟨rfl, ht95⟩ := hK98
      refine sq_end ?_
      have hA100 := hA93.keep [(1, .int .i64 at_2), (5, .pointer r_5), (6, .int .i64 r_23), (7, .int .i64 i_35)] ⟨rfl, rfl, rfl, rfl, trivial⟩
      refine block_normal ?_
      refine then_normal ?_
      refine wp_region_lit ?_
      refine sq (opk_val hA100 rfl (r_move (hA100.get rfl)) fun a101 hA101 _ => ?_)
      obtain ⟨hS103, ht104⟩ := ht95
      refine sq (opk_val hA101 rfl (r_addI (hA101.get rfl) rfl hS103) fun a102 hA102 _ => ?_)
      refine sq (opk_val hA102 rfl (r_assign (hA102.get rfl)) fun a105 hA105 _ => ?_)
      refine sq_end ?_
      have hA106 := hA105.keep [(1, .int .i64 at_2), (5, .pointer r_5), (6, .int .i64 r_23), (7, .int .i64 (i_35 + 1))] ⟨rfl, rfl, rfl, rfl, trivial⟩
      have hA107 := hA106.keep [(1, .int .i64 at_2), (5, .pointer r_5), (6, .int .i64 r_23), (7, .int .i64 (i_35 + 1))] ⟨rfl, rfl, rfl, rfl, trivial⟩
      exact then_normal ⟨(i_35 + 1, w94), ⟨hA107, rfl, ht104.1⟩, ht104.2⟩
    · have ht81 := ht74.2 (of_decide_eq_false hc)
      clear hc
      refine wp_exit ?_
      refine then_exit ?_
      refine then_exit ?_
      refine block_hit ?_
      have hA108 := hA79.keep [(1, .int .i64 at_2), (5, .pointer r_5), (6, .int .i64 r_23)] ⟨rfl, rfl, rfl, trivial⟩
      refine then_normal ?_
      refine wp_seq ?_
      refine wp_region_lit ?_
      refine sq (opk_val hA108 rfl (r_move (hA108.get rfl)) fun a109 hA109 _ => ?_)
      refine sq (opk_val hA109 rfl (r_move (hA109.get rfl)) fun a110 hA110 _ => ?_)
      obtain ⟨hS112, ht113⟩ := ht81
      refine sq (opk_val hA110 rfl (r_addI (hA110.get rfl) rfl hS112) fun a111 hA111 _ => ?_)
      refine sq (opk_call hA111 rfl (r_call (args := #[.int .i64 at_2, .int .i64 (r_23 + 1)]) Tryd.func7 (by decide) rfl (map_arr (ml_cons (hA111.get rfl) (ml_cons (hA111.get rfl) ml_nil))) rfl) ht113 fun a115 v121 w116 hA115 _ hn118 hz119 hK120 => ?_)
      obtain ⟨r_114, rfl, ht117⟩ := hK120
      refine sq (opk_val hA115 rfl (r_assign (hA115.get rfl)) fun a122 hA122 _ => ?_)
      refine sq_end ?_
      have hA123 := hA122.keep [(5, .pointer r_5), (6, .int .i64 r_23), (8, .int .i64 r_114)] ⟨rfl, rfl, rfl, trivial⟩
      refine then_normal ?_
      refine wp_seq ?_
      refine wp_seq ?_
      refine wp_region_lit ?_
      refine sq (opk_val hA123 rfl (r_move (hA123.get rfl)) fun a124 hA124 _ => ?_)
      refine sq (opk_val hA124 rfl (r_move (hA124.get rfl)) fun a125 hA125 _ => ?_)
      refine sq (opk_val hA125 rfl (r_build (vs := #[(0, .int .i64 50), (1, .string (Bs ([122] : Str)))]) (cells := #[.int .i64 50, .string (Bs ([122] : Str)), Sl.v Sl.nil]) (map_arr2 (ml2_cons rfl (ml2_cons rfl (ml2_nil)))) ti_31 Tryd.underlying31 pl_31 (by kernel_rfl)) fun a126 hA126 _ => ?_)
      refine sq (opk_call hA126 rfl (r_call (args := #[.pointer r_5, .int .i64 r_114, .agg #[.int .i64 50, .string (Bs ([122] : Str)), Sl.v Sl.nil]]) Tryd.func17 (by decide) rfl (map_arr (ml_cons (hA126.get rfl) (ml_cons (hA126.get rfl) (ml_cons (hA126.get rfl) ml_nil)))) rfl) ht117 fun a128 v134 w129 hA128 _ hn131 hz132 hK133 => ?_)
      obtain ⟨r_127, rfl, ht130⟩ := hK133
      refine sq (opk_val hA128 rfl (r_not (hA128.get rfl)) fun a135 hA135 _ => ?_)
      refine sq (opk_val hA135 rfl (r_move (hA135.get rfl)) fun a136 hA136 _ => ?_)
      refine sq (opk_gval hA136 rfl rfl (g := true) (e := (!r_127)) rfl (fun hg => r_move (hA136.get rfl)) fun a137 hA137 _ => ?_)
      obtain ⟨r_138, hc142, ht141⟩ := ht130
      refine sq (opk_gcall hA137 rfl rfl (g := true) (e := (!r_127)) rfl (fun hg => r_call (args := #[.pointer r_5, .int .i64 50]) Tryd.func10 (by decide) rfl (map_arr (ml_cons (cv_get (hA137.get rfl) hg) (ml_cons rfl ml_nil))) rfl) (fun hg => hc142 (b_not_f (g_f hg))) fun a139 w140 hA139 _ hE143 => ?_)
      have hC144 : Chg [] w129 w140 := hE143
      have ht145 := ht141 w140 hE143
      refine sq (opk_gval hA139 rfl rfl (g := true) (e := (!r_127)) rfl (fun hg => r_move (hA139.get rfl)) fun a146 hA146 _ => ?_)
      refine sq (opk_gval hA146 rfl rfl (g := true) (e := (!r_127)) rfl (fun hg => r_neq (cv_get (hA146.get rfl) hg) (cv_get (hA146.get rfl) hg)) fun a147 hA147 _ => ?_)
      refine sq (opk_val hA147 rfl (r_pick_or (g := (true && ((!r_127) == false))) (hA147.get rfl) (hA147.get rfl) (fun he => g_mkf rfl he)) fun a148 hA148 _ => ?_)
      refine sq (opk_val hA148 rfl (r_move (hA148.get rfl)) fun a149 hA149 _ => ?_)
      refine sq (opk_gval hA149 rfl rfl (g := true) (e := ((!r_127) || (decide (r_138 ≠ r_114)))) rfl (fun hg => r_move (hA149.get rfl)) fun a150 hA150 _ => ?_)
      obtain ⟨r_151, hc155, ht154⟩ := ht145
      refine sq (opk_gcall hA150 rfl rfl (g := true) (e := ((!r_127) || (decide (r_138 ≠ r_114)))) rfl (fun hg => r_call (args := #[.pointer r_5]) Tryd.func13 (by decide) rfl (map_arr (ml_cons (cv_get (hA150.get rfl) hg) ml_nil)) rfl) (fun hg => hc155 ⟨(b_not_f (b_or_f (g_f hg)).1), (of_decide_eq_false (b_or_f (g_f hg)).2)⟩) fun a152 w153 hA152 _ hE156 => ?_)
      have hC157 : Chg [] w140 w153 := hE156
      have ht158 := ht154 w153 hE156
      refine sq (opk_gval hA152 rfl rfl (g := true) (e := ((!r_127) || (decide (r_138 ≠ r_114)))) rfl (fun hg => r_move (hA152.get rfl)) fun a159 hA159 _ => ?_)
      obtain ⟨hS161, ht162⟩ := ht158
      refine sq (opk_gval hA159 rfl rfl (g := true) (e := ((!r_127) || (decide (r_138 ≠ r_114)))) rfl (fun hg => r_addI (cv_get (hA159.get rfl) hg) rfl (hS161 ⟨(b_not_f (b_or_f (g_f hg)).1), (of_decide_eq_false (b_or_f (g_f hg)).2)⟩)) fun a160 hA160 _ => ?_)
      refine sq (opk_gval hA160 rfl rfl (g := true) (e := ((!r_127) || (decide (r_138 ≠ r_114)))) rfl (fun hg => r_neq (cv_get (hA160.get rfl) hg) (cv_get (hA160.get rfl) hg)) fun a163 hA163 _ => ?_)
      refine sq (opk_val hA163 rfl (r_pick_or (g := (true && (((!r_127) || (decide (r_138 ≠ r_114))) == false))) (hA163.get rfl) (hA163.get rfl) (fun he => g_mkf rfl he)) fun a164 hA164 _ => ?_)
      refine sq (opk_val hA164 rfl (r_move (hA164.get rfl)) fun a165 hA165 _ => ?_)
      refine sq (opk_gval hA165 rfl rfl (g := true) (e := (((!r_127) || (decide (r_138 ≠ r_114))) || (decide (r_151 ≠ (r_23 + 1))))) rfl (fun hg => r_move (hA165.get rfl)) fun a166 hA166 _ => ?_)
      refine sq (opk_gval hA166 rfl rfl (g := true) (e := (((!r_127) || (decide (r_138 ≠ r_114))) || (decide (r_151 ≠ (r_23 + 1))))) rfl (fun hg => r_build (vs := #[(0, .int .i64 51)]) (cells := #[.int .i64 51, .string (Bs ([] : Str)), Sl.v Sl.nil]) (map_arr2 (ml2_cons rfl (ml2_nil))) ti_31 Tryd.underlying31 pl_31 (by kernel_rfl)) fun a167 hA167 _ => ?_)
      obtain ⟨J_172, hc173, hno174, ht171⟩ := ht162
      refine sq (opk_gcallJ (val := fun r_168 => .bool r_168) (J := J_172) hA167 rfl rfl (g := true) (e := (((!r_127) || (decide (r_138 ≠ r_114))) || (decide (r_151 ≠ (r_23 + 1))))) rfl (fun hg => r_call (args := #[.pointer r_5, .int .i64 (-1), .agg #[.int .i64 51, .string (Bs ([] : Str)), Sl.v Sl.nil]]) Tryd.func17 (by decide) rfl (map_arr (ml_cons (cv_get (hA167.get rfl) hg) (ml_cons rfl (ml_cons (cv_get (hA167.get rfl) hg) ml_nil)))) rfl) (fun hg => hc173 ⟨⟨(b_not_f (b_or_f (b_or_f (g_f hg)).1).1), (of_decide_eq_false (b_or_f (b_or_f (g_f hg)).1).2)⟩, (of_decide_eq_false (b_or_f (g_f hg)).2)⟩) (fun hg => hno174 (fun hp => absurd ((g_mkf rfl (b_or_mkf ⟨(b_or_mkf ⟨(b_not_mkf hp.1.1), (decide_eq_false hp.1.2)⟩), (decide_eq_false hp.2)⟩))) (by rw [hg]; decide))) fun a169 w170 r_168 hA169 _ hn175 hz176 hJ177 => ?_)
      have ht178 := ht171 r_168 w170 hJ177
      refine sq (opk_val hA169 rfl (r_pick_or (g := (true && ((((!r_127) || (decide (r_138 ≠ r_114))) || (decide (r_151 ≠ (r_23 + 1)))) == false))) (hA169.get rfl) (hA169.get rfl) (fun he => g_mkf rfl he)) fun a179 hA179 _ => ?_)
      refine sq (opk_val hA179 rfl (r_move (hA179.get rfl)) fun a180 hA180 _ => ?_)
      refine sq (opk_gval hA180 rfl rfl (g := true) (e := ((((!r_127) || (decide (r_138 ≠ r_114))) || (decide (r_151 ≠ (r_23 + 1)))) || r_168)) rfl (fun hg => r_move (hA180.get rfl)) fun a181 hA181 _ => ?_)
      refine sq (opk_gval hA181 rfl rfl (g := true) (e := ((((!r_127) || (decide (r_138 ≠ r_114))) || (decide (r_151 ≠ (r_23 + 1)))) || r_168)) rfl (fun hg => r_move (hA181.get rfl)) fun a182 hA182 _ => ?_)
      obtain ⟨hS184, ht185⟩ := ht178
      refine sq (opk_gval hA182 rfl rfl (g := true) (e := ((((!r_127) || (decide (r_138 ≠ r_114))) || (decide (r_151 ≠ (r_23 + 1)))) || r_168)) rfl (fun hg => r_addI (cv_get (hA182.get rfl) hg) rfl (hS184 ⟨⟨⟨(b_not_f (b_or_f (b_or_f (b_or_f (g_f hg)).1).1).1), (of_decide_eq_false (b_or_f (b_or_f (b_or_f (g_f hg)).1).1).2)⟩, (of_decide_eq_false (b_or_f (b_or_f (g_f hg)).1).2)⟩, (b_or_f (g_f hg)).2⟩)) fun a183 hA183 _ => ?_)
      refine sq (opk_gval hA183 rfl rfl (g := true) (e := ((((!r_127) || (decide (r_138 ≠ r_114))) || (decide (r_151 ≠ (r_23 + 1)))) || r_168)) rfl (fun hg => r_build (vs := #[(0, .int .i64 51)]) (cells := #[.int .i64 51, .string (Bs ([] : Str)), Sl.v Sl.nil]) (map_arr2 (ml2_cons rfl (ml2_nil))) ti_31 Tryd.underlying31 pl_31 (by kernel_rfl)) fun a186 hA186 _ => ?_)
      obtain ⟨J_191, hc192, hno193, ht190⟩ := ht185
      refine sq (opk_gcallJ (val := fun r_187 => .bool r_187) (J := J_191) hA186 rfl rfl (g := true) (e := ((((!r_127) || (decide (r_138 ≠ r_114))) || (decide (r_151 ≠ (r_23 + 1)))) || r_168)) rfl (fun hg => r_call (args := #[.pointer r_5, .int .i64 (r_23 + 2), .agg #[.int .i64 51, .string (Bs ([] : Str)), Sl.v Sl.nil]]) Tryd.func17 (by decide) rfl (map_arr (ml_cons (cv_get (hA186.get rfl) hg) (ml_cons (cv_get (hA186.get rfl) hg) (ml_cons (cv_get (hA186.get rfl) hg) ml_nil)))) rfl) (fun hg => hc192 ⟨⟨⟨(b_not_f (b_or_f (b_or_f (b_or_f (g_f hg)).1).1).1), (of_decide_eq_false (b_or_f (b_or_f (b_or_f (g_f hg)).1).1).2)⟩, (of_decide_eq_false (b_or_f (b_or_f (g_f hg)).1).2)⟩, (b_or_f (g_f hg)).2⟩) (fun hg => hno193 (fun hp => absurd ((g_mkf rfl (b_or_mkf ⟨(b_or_mkf ⟨(b_or_mkf ⟨(b_not_mkf hp.1.1.1), (decide_eq_false hp.1.1.2)⟩), (decide_eq_false hp.1.2)⟩), hp.2⟩))) (by rw [hg]; decide))) fun a188 w189 r_187 hA188 _ hn194 hz195 hJ196 => ?_)
      have ht197 := ht190 r_187 w189 hJ196
      refine sq (opk_val hA188 rfl (r_pick_or (g := (true && (((((!r_127) || (decide (r_138 ≠ r_114))) || (decide (r_151 ≠ (r_23 + 1)))) || r_168) == false))) (hA188.get rfl) (hA188.get rfl) (fun he => g_mkf rfl he)) fun a198 hA198 _ => ?_)
      refine sq_end ?_
      have hA199 := hA198.keep [(5, .pointer r_5), (6, .int .i64 r_23), (8, .int .i64 r_114), (63, .bool (((((!r_127) || (decide (r_138 ≠ r_114))) || (decide (r_151 ≠ (r_23 + 1)))) || r_168) || r_187))] ⟨rfl, rfl, rfl, rfl, trivial⟩
      refine then_normal ?_
      refine wp_cond_split (hA199.get rfl) (fun hc => ?_) (fun hc => ?_)
      · have ht200 := ht197.1 ((b_or_t hc).imp (fun h => ((b_or_t h).imp (fun h => ((b_or_t h).imp (fun h => ((b_or_t h).imp (fun h => (b_not_t h)) (fun h => (of_decide_eq_true h)))) (fun h => (of_decide_eq_true h)))) (fun h => h))) (fun h => h))
        clear hc
        refine wp_seq ?_
        refine wp_region_lit ?_
        refine sq (opk_val hA199 rfl (r_assign rfl) fun a202 hA202 _ => ?_)
        refine sq_end ?_
        have hA203 := hA202.keep [(4, .bool false)] ⟨rfl, trivial⟩
        refine then_normal ?_
        refine wp_ret ?_
        refine then_ret ?_
        exact res_all (vs := [.bool false]) rfl hA203 ⟨res_of_tmp hA203 rfl, trivial⟩ ht200
      · have ht201 := ht197.2 ⟨⟨⟨⟨(b_not_f (b_or_f (b_or_f (b_or_f (b_or_f hc).1).1).1).1), (of_decide_eq_false (b_or_f (b_or_f (b_or_f (b_or_f hc).1).1).1).2)⟩, (of_decide_eq_false (b_or_f (b_or_f (b_or_f hc).1).1).2)⟩, (b_or_f (b_or_f hc).1).2⟩, (b_or_f hc).2⟩
        clear hc
        refine wp_skip ?_
        refine then_normal ?_
        refine wp_seq ?_
        refine wp_region_lit ?_
        refine sq (opk_val hA199 rfl (r_move (hA199.get rfl)) fun a204 hA204 _ => ?_)
        refine sq (opk_val hA204 rfl (r_move (hA204.get rfl)) fun a205 hA205 _ => ?_)
        refine sq (opk_call hA205 rfl (r_call (args := #[.pointer r_5, .int .i64 r_114]) Tryd.func18 (by decide) rfl (map_arr (ml_cons (hA205.get rfl) (ml_cons (hA205.get rfl) ml_nil))) rfl) ht201 fun a208 v214 w209 hA208 _ hn211 hz212 hK213 => ?_)
        obtain ⟨r_0_206_ID, r_0_206_Name, r_0_206_Attrs, r_1_207, rfl, ht210⟩ := hK213
        refine sq (opk_val hA208 rfl (r_move (hA208.get rfl)) fun a215 hA215 _ => ?_)
        refine sq (opk_val hA215 rfl (r_extract (hA215.get rfl) rfl) fun a216 hA216 _ => ?_)
        refine sq (opk_val hA216 rfl (r_extract (hA216.get rfl) rfl) fun a217 hA217 _ => ?_)
        refine sq (opk_new (fun B => .pointer (some ⟨B, 0, none⟩)) hA217 rfl (r_alloc (cs := [.int .i64 0, .string (Bs ([] : Str)), Sl.v Sl.nil]) ti_31 rfl) fun a220 w219 B_218 hE221 hN222 hB223 hA220 _ => ?_)
        have hN224 : New w209 B_218 w219 := hN222
        have hC225 : Chg [] w209 w219 := hE221
        refine sq (opk_store hA220 hB223 (r_store (vs := [.int .i64 r_0_206_ID, .string (Bs r_0_206_Name), Sl.v r_0_206_Attrs]) (hA220.get rfl) (hA220.get rfl) rfl ti_31 hB223 rfl (ones_all [.int .i64 r_0_206_ID, .string (Bs r_0_206_Name), Sl.v r_0_206_Attrs] rfl)) fun a227 w226 hS228 hB229 hA227 => ?_)
        have hB230 : Box w226 B_218 31 [.int .i64 r_0_206_ID, .string (Bs r_0_206_Name), Sl.v r_0_206_Attrs] := hB229
        have hC231 := hC225.storeNew hN224 hS228
        have hN232 := hN224.up hS228.size
        refine sq (opk_val hA227 rfl (r_assign (hA227.get rfl)) fun a233 hA233 _ => ?_)
        refine sq_end ?_
        have hA234 := hA233.keep [(5, .pointer r_5), (6, .int .i64 r_23), (8, .int .i64 r_114), (9, .pointer (some (⟨B_218, 0, none⟩ : Addr))), (10, .bool r_1_207)] ⟨rfl, rfl, rfl, rfl, rfl, trivial⟩
        refine then_normal ?_
        refine wp_seq ?_
        refine wp_seq ?_
        refine wp_region_lit ?_
        refine sq (opk_val hA234 rfl (r_move (hA234.get rfl)) fun a235 hA235 _ => ?_)
        refine sq (opk_val hA235 rfl (r_not (hA235.get rfl)) fun a236 hA236 _ => ?_)
        refine sq (opk_val hA236 rfl (r_move (hA236.get rfl)) fun a237 hA237 _ => ?_)
        refine sq (opk_gval hA237 rfl rfl (g := true) (e := (!r_1_207)) rfl (fun hg => r_fieldAddr (hA237.get rfl) Tryd.underlying31 rfl ti_3 (by decide)) fun a238 hA238 _ => ?_)
        refine sq (opk_gval hA238 rfl rfl (g := true) (e := (!r_1_207)) rfl (fun hg => r_load1 Tryd.underlying3 rfl (cv_get (hA238.get rfl) hg) (hB230.cell 0 _ rfl)) fun a239 hA239 _ => ?_)
        refine sq (opk_gval hA239 rfl rfl (g := true) (e := (!r_1_207)) rfl (fun hg => r_neq (cv_get (hA239.get rfl) hg) rfl) fun a240 hA240 _ => ?_)
        refine sq (opk_val hA240 rfl (r_pick_or (g := (true && ((!r_1_207) == false))) (hA240.get rfl) (hA240.get rfl) (fun he => g_mkf rfl he)) fun a241 hA241 _ => ?_)
        refine sq (opk_val hA241 rfl (r_move (hA241.get rfl)) fun a242 hA242 _ => ?_)
        refine sq (opk_gval hA242 rfl rfl (g := true) (e := ((!r_1_207) || (decide (r_0_206_ID ≠ 50)))) rfl (fun hg => r_move (hA242.get rfl)) fun a243 hA243 _ => ?_)
        refine sq (opk_gval hA243 rfl rfl (g := true) (e := ((!r_1_207) || (decide (r_0_206_ID ≠ 50)))) rfl (fun hg => r_build (vs := #[(0, .int .i64 60), (1, .string (Bs ([121] : Str)))]) (cells := #[.int .i64 60, .string (Bs ([121] : Str)), Sl.v Sl.nil]) (map_arr2 (ml2_cons rfl (ml2_cons rfl (ml2_nil)))) ti_31 Tryd.underlying31 pl_31 (by kernel_rfl)) fun a244 hA244 _ => ?_)
        have ht245 := ht210 w226 B_218 hN232  hC231
        obtain ⟨J_250, hc251, hno252, ht249⟩ := ht245
        refine sq (opk_gcallJ (val := fun r_246 => .bool r_246) (J := J_250) hA244 rfl rfl (g := true) (e := ((!r_1_207) || (decide (r_0_206_ID ≠ 50)))) rfl (fun hg => r_call (args := #[.pointer r_5, .int .i64 50, .agg #[.int .i64 60, .string (Bs ([121] : Str)), Sl.v Sl.nil]]) Tryd.func19 (by decide) rfl (map_arr (ml_cons (cv_get (hA244.get rfl) hg) (ml_cons rfl (ml_cons (cv_get (hA244.get rfl) hg) ml_nil)))) rfl) (fun hg => hc251 ⟨(b_not_f (b_or_f (g_f hg)).1), (of_decide_eq_false (b_or_f (g_f hg)).2)⟩) (fun hg => hno252 (fun hp => absurd ((g_mkf rfl (b_or_mkf ⟨(b_not_mkf hp.1), (decide_eq_false hp.2)⟩))) (by rw [hg]; decide))) fun a247 w248 r_246 hA247 _ hn253 hz254 hJ255 => ?_)
        have hB256 := hB230.kept hn253 (.head _)
        have ht257 := ht249 r_246 w248 hJ255
        refine sq (opk_gval hA247 rfl rfl (g := true) (e := ((!r_1_207) || (decide (r_0_206_ID ≠ 50)))) rfl (fun hg => r_not (cv_get (hA247.get rfl) hg)) fun a258 hA258 _ => ?_)
        refine sq (opk_val hA258 rfl (r_pick_or (g := (true && (((!r_1_207) || (decide (r_0_206_ID ≠ 50))) == false))) (hA258.get rfl) (hA258.get rfl) (fun he => g_mkf rfl he)) fun a259 hA259 _ => ?_)
        refine sq (opk_val hA259 rfl (r_move (hA259.get rfl)) fun a260 hA260 _ => ?_)
        refine sq (opk_gval hA260 rfl rfl (g := true) (e := (((!r_1_207) || (decide (r_0_206_ID ≠ 50))) || (!r_246))) rfl (fun hg => r_move (hA260.get rfl)) fun a261 hA261 _ => ?_)
        obtain ⟨r_262, hc266, ht265⟩ := ht257
        refine sq (opk_gcall hA261 rfl rfl (g := true) (e := (((!r_1_207) || (decide (r_0_206_ID ≠ 50))) || (!r_246))) rfl (fun hg => r_call (args := #[.pointer r_5, .int .i64 60]) Tryd.func10 (by decide) rfl (map_arr (ml_cons (cv_get (hA261.get rfl) hg) (ml_cons rfl ml_nil))) rfl) (fun hg => hc266 ⟨⟨(b_not_f (b_or_f (b_or_f (g_f hg)).1).1), (of_decide_eq_false (b_or_f (b_or_f (g_f hg)).1).2)⟩, (b_not_f (b_or_f (g_f hg)).2)⟩) fun a263 w264 hA263 _ hE267 => ?_)
        have hB268 := hB256.ext hE267
        have hC269 : Chg [] w248 w264 := hE267
        have ht270 := ht265 w264 hE267
        refine sq (opk_gval hA263 rfl rfl (g := true) (e := (((!r_1_207) || (decide (r_0_206_ID ≠ 50))) || (!r_246))) rfl (fun hg => r_move (hA263.get rfl)) fun a271 hA271 _ => ?_)
        refine sq (opk_gval hA271 rfl rfl (g := true) (e := (((!r_1_207) || (decide (r_0_206_ID ≠ 50))) || (!r_246))) rfl (fun hg => r_neq (cv_get (hA271.get rfl) hg) (cv_get (hA271.get rfl) hg)) fun a272 hA272 _ => ?_)
        refine sq (opk_val hA272 rfl (r_pick_or (g := (true && ((((!r_1_207) || (decide (r_0_206_ID ≠ 50))) || (!r_246)) == false))) (hA272.get rfl) (hA272.get rfl) (fun he => g_mkf rfl he)) fun a273 hA273 _ => ?_)
        refine sq (opk_val hA273 rfl (r_move (hA273.get rfl)) fun a274 hA274 _ => ?_)
        refine sq (opk_gval hA274 rfl rfl (g := true) (e := ((((!r_1_207) || (decide (r_0_206_ID ≠ 50))) || (!r_246)) || (decide (r_262 ≠ r_114)))) rfl (fun hg => r_move (hA274.get rfl)) fun a275 hA275 _ => ?_)
        refine sq (opk_gval hA275 rfl rfl (g := true) (e := ((((!r_1_207) || (decide (r_0_206_ID ≠ 50))) || (!r_246)) || (decide (r_262 ≠ r_114)))) rfl (fun hg => r_build (vs := #[(0, .int .i64 61)]) (cells := #[.int .i64 61, .string (Bs ([] : Str)), Sl.v Sl.nil]) (map_arr2 (ml2_cons rfl (ml2_nil))) ti_31 Tryd.underlying31 pl_31 (by kernel_rfl)) fun a276 hA276 _ => ?_)
        obtain ⟨J_281, hc282, hno283, ht280⟩ := ht270
        refine sq (opk_gcallJ (val := fun r_277 => .bool r_277) (J := J_281) hA276 rfl rfl (g := true) (e := ((((!r_1_207) || (decide (r_0_206_ID ≠ 50))) || (!r_246)) || (decide (r_262 ≠ r_114)))) rfl (fun hg => r_call (args := #[.pointer r_5, .int .i64 50, .agg #[.int .i64 61, .string (Bs ([] : Str)), Sl.v Sl.nil]]) Tryd.func19 (by decide) rfl (map_arr (ml_cons (cv_get (hA276.get rfl) hg) (ml_cons rfl (ml_cons (cv_get (hA276.get rfl) hg) ml_nil)))) rfl) (fun hg => hc282 ⟨⟨⟨(b_not_f (b_or_f (b_or_f (b_or_f (g_f hg)).1).1).1), (of_decide_eq_false (b_or_f (b_or_f (b_or_f (g_f hg)).1).1).2)⟩, (b_not_f (b_or_f (b_or_f (g_f hg)).1).2)⟩, (of_decide_eq_false (b_or_f (g_f hg)).2)⟩) (fun hg => hno283 (fun hp => absurd ((g_mkf rfl (b_or_mkf ⟨(b_or_mkf ⟨(b_or_mkf ⟨(b_not_mkf hp.1.1.1), (decide_eq_false hp.1.1.2)⟩), (b_not_mkf hp.1.2)⟩), (decide_eq_false hp.2)⟩))) (by rw [hg]; decide))) fun a278 w279 r_277 hA278 _ hn284 hz285 hJ286 => ?_)
        have hB287 := hB268.kept hn284 (.head _)
        have ht288 := ht280 r_277 w279 hJ286
        refine sq (opk_val hA278 rfl (r_pick_or (g := (true && (((((!r_1_207) || (decide (r_0_206_ID ≠ 50))) || (!r_246)) || (decide (r_262 ≠ r_114))) == false))) (hA278.get rfl) (hA278.get rfl) (fun he => g_mkf rfl he)) fun a289 hA289 _ => ?_)
        refine sq (opk_val hA289 rfl (r_move (hA289.get rfl)) fun a290 hA290 _ => ?_)
        refine sq (opk_gval hA290 rfl rfl (g := true) (e := (((((!r_1_207) || (decide (r_0_206_ID ≠ 50))) || (!r_246)) || (decide (r_262 ≠ r_114))) || r_277)) rfl (fun hg => r_move (hA290.get rfl)) fun a291 hA291 _ => ?_)
        obtain ⟨J_296, hc297, hno298, ht295⟩ := ht288
        refine sq (opk_gcallJ (val := fun r_292 => .bool r_292) (J := J_296) hA291 rfl rfl (g := true) (e := (((((!r_1_207) || (decide (r_0_206_ID ≠ 50))) || (!r_246)) || (decide (r_262 ≠ r_114))) || r_277)) rfl (fun hg => r_call (args := #[.pointer r_5, .int .i64 60]) Tryd.func20 (by decide) rfl (map_arr (ml_cons (cv_get (hA291.get rfl) hg) (ml_cons rfl ml_nil))) rfl) (fun hg => hc297 ⟨⟨⟨⟨(b_not_f (b_or_f (b_or_f (b_or_f (b_or_f (g_f hg)).1).1).1).1), (of_decide_eq_false (b_or_f (b_or_f (b_or_f (b_or_f (g_f hg)).1).1).1).2)⟩, (b_not_f (b_or_f (b_or_f (b_or_f (g_f hg)).1).1).2)⟩, (of_decide_eq_false (b_or_f (b_or_f (g_f hg)).1).2)⟩, (b_or_f (g_f hg)).2⟩) (fun hg => hno298 (fun hp => absurd ((g_mkf rfl (b_or_mkf ⟨(b_or_mkf ⟨(b_or_mkf ⟨(b_or_mkf ⟨(b_not_mkf hp.1.1.1.1), (decide_eq_false hp.1.1.1.2)⟩), (b_not_mkf hp.1.1.2)⟩), (decide_eq_false hp.1.2)⟩), hp.2⟩))) (by rw [hg]; decide))) fun a293 w294 r_292 hA293 _ hn299 hz300 hJ301 => ?_)
        have hB302 := hB287.kept hn299 (.head _)
        have ht303 := ht295 r_292 w294 hJ301
        refine sq (opk_gval hA293 rfl rfl (g := true) (e := (((((!r_1_207) || (decide (r_0_206_ID ≠ 50))) || (!r_246)) || (decide (r_262 ≠ r_114))) || r_277)) rfl (fun hg => r_not (cv_get (hA293.get rfl) hg)) fun a304 hA304 _ => ?_)
        refine sq (opk_val hA304 rfl (r_pick_or (g := (true && ((((((!r_1_207) || (decide (r_0_206_ID ≠ 50))) || (!r_246)) || (decide (r_262 ≠ r_114))) || r_277) == false))) (hA304.get rfl) (hA304.get rfl) (fun he => g_mkf rfl he)) fun a305 hA305 _ => ?_)
        refine sq (opk_val hA305 rfl (r_move (hA305.get rfl)) fun a306 hA306 _ => ?_)
        refine sq (opk_gval hA306 rfl rfl (g := true) (e := ((((((!r_1_207) || (decide (r_0_206_ID ≠ 50))) || (!r_246)) || (decide (r_262 ≠ r_114))) || r_277) || (!r_292))) rfl (fun hg => r_move (hA306.get rfl)) fun a307 hA307 _ => ?_)
        obtain ⟨J_312, hc313, hno314, ht311⟩ := ht303
        refine sq (opk_gcallJ (val := fun r_308 => .bool r_308) (J := J_312) hA307 rfl rfl (g := true) (e := ((((((!r_1_207) || (decide (r_0_206_ID ≠ 50))) || (!r_246)) || (decide (r_262 ≠ r_114))) || r_277) || (!r_292))) rfl (fun hg => r_call (args := #[.pointer r_5, .int .i64 60]) Tryd.func20 (by decide) rfl (map_arr (ml_cons (cv_get (hA307.get rfl) hg) (ml_cons rfl ml_nil))) rfl) (fun hg => hc313 ⟨⟨⟨⟨⟨(b_not_f (b_or_f (b_or_f (b_or_f (b_or_f (b_or_f (g_f hg)).1).1).1).1).1), (of_decide_eq_false (b_or_f (b_or_f (b_or_f (b_or_f (b_or_f (g_f hg)).1).1).1).1).2)⟩, (b_not_f (b_or_f (b_or_f (b_or_f (b_or_f (g_f hg)).1).1).1).2)⟩, (of_decide_eq_false (b_or_f (b_or_f (b_or_f (g_f hg)).1).1).2)⟩, (b_or_f (b_or_f (g_f hg)).1).2⟩, (b_not_f (b_or_f (g_f hg)).2)⟩) (fun hg => hno314 (fun hp => absurd ((g_mkf rfl (b_or_mkf ⟨(b_or_mkf ⟨(b_or_mkf ⟨(b_or_mkf ⟨(b_or_mkf ⟨(b_not_mkf hp.1.1.1.1.1), (decide_eq_false hp.1.1.1.1.2)⟩), (b_not_mkf hp.1.1.1.2)⟩), (decide_eq_false hp.1.1.2)⟩), hp.1.2⟩), (b_not_mkf hp.2)⟩))) (by rw [hg]; decide))) fun a309 w310 r_308 hA309 _ hn315 hz316 hJ317 => ?_)
        have hB318 := hB302.kept hn315 (.head _)
        have ht319 := ht311 r_308 w310 hJ317
        refine sq (opk_val hA309 rfl (r_pick_or (g := (true && (((((((!r_1_207) || (decide (r_0_206_ID ≠ 50))) || (!r_246)) || (decide (r_262 ≠ r_114))) || r_277) || (!r_292)) == false))) (hA309.get rfl) (hA309.get rfl) (fun he => g_mkf rfl he)) fun a320 hA320 _ => ?_)
        refine sq_end ?_
        have hA321 := hA320.keep [(5, .pointer r_5), (6, .int .i64 r_23), (102, .bool (((((((!r_1_207) || (decide (r_0_206_ID ≠ 50))) || (!r_246)) || (decide (r_262 ≠ r_114))) || r_277) || (!r_292)) || r_308))] ⟨rfl, rfl, rfl, trivial⟩
        refine then_normal ?_
        refine wp_cond_split (hA321.get rfl) (fun hc => ?_) (fun hc => ?_)
        · have ht322 := ht319.1 ((b_or_t hc).imp (fun h => ((b_or_t h).imp (fun h => ((b_or_t h).imp (fun h => ((b_or_t h).imp (fun h => ((b_or_t h).imp (fun h => ((b_or_t h).imp (fun h => (b_not_t h)) (fun h => (of_decide_eq_true h)))) (fun h => (b_not_t h)))) (fun h => (of_decide_eq_true h)))) (fun h => h))) (fun h => (b_not_t h)))) (fun h => h))
          clear hc
          refine wp_seq ?_
          refine wp_region_lit ?_
          refine sq (opk_val hA321 rfl (r_assign rfl) fun a324 hA324 _ => ?_)
          refine sq_end ?_
          have hA325 := hA324.keep [(4, .bool false)] ⟨rfl, trivial⟩
          refine then_normal ?_
          refine wp_ret ?_
          refine then_ret ?_
          exact res_all (vs := [.bool false]) rfl hA325 ⟨res_of_tmp hA325 rfl, trivial⟩ ht322
        · have ht323 := ht319.2 ⟨⟨⟨⟨⟨⟨(b_not_f (b_or_f (b_or_f (b_or_f (b_or_f (b_or_f (b_or_f hc).1).1).1).1).1).1), (of_decide_eq_false (b_or_f (b_or_f (b_or_f (b_or_f (b_or_f (b_or_f hc).1).1).1).1).1).2)⟩, (b_not_f (b_or_f (b_or_f (b_or_f (b_or_f (b_or_f hc).1).1).1).1).2)⟩, (of_decide_eq_false (b_or_f (b_or_f (b_or_f (b_or_f hc).1).1).1).2)⟩, (b_or_f (b_or_f (b_or_f hc).1).1).2⟩, (b_not_f (b_or_f (b_or_f hc).1).2)⟩, (b_or_f hc).2⟩
          clear hc
          refine wp_skip ?_
          refine then_normal ?_
          refine wp_seq ?_
          refine wp_seq ?_
          refine wp_region_lit ?_
          refine sq (opk_val hA321 rfl (r_assign rfl) fun a326 hA326 _ => ?_)
          refine sq_end ?_
          have hA327 := hA326.keep [(5, .pointer r_5), (6, .int .i64 r_23), (11, .int .i64 1)] ⟨rfl, rfl, rfl, trivial⟩
          refine then_normal ?_
          refine wp_block ?_
          obtain ⟨J_330, mu_331, h0367, ht366⟩ := ht323
          refine wp_loop_st (σ := Int × World) (fun s a w => Ag 121 a [(5, .pointer r_5), (6, .int .i64 r_23), (11, .int .i64 s.1)] ∧ w = s.2 ∧ J_330 s.1 s.2) (fun s => mu_331 s.1 s.2) (1, w310) ⟨hA327.keep [(5, .pointer r_5), (6, .int .i64 r_23), (11, .int .i64 1)] ⟨rfl, rfl, rfl, trivial⟩, rfl, h0367⟩ ?_
          rintro ⟨i_328, w329⟩ a365 w_ ⟨hA365, hw_, hJ369⟩
          have hw_ : w329 = w_ := hw_.symm
          subst hw_
          have ht368 := ht366 i_328 _ hJ369
          refine wp_seq ?_
          refine wp_seq ?_
          refine wp_region_lit ?_
          refine sq (opk_val hA365 rfl (r_move (hA365.get rfl)) fun a370 hA370 _ => ?_)
          refine sq (opk_val hA370 rfl (r_move (hA370.get rfl)) fun a371 hA371 _ => ?_)
          refine sq (opk_val hA371 rfl (r_leq (hA371.get rfl) (hA371.get rfl)) fun a372 hA372 _ => ?_)
          refine sq_end ?_
          have hA373 := hA372.keep [(5, .pointer r_5), (6, .int .i64 r_23), (11, .int .i64 i_328), (105, .bool (decide (i_328 ≤ r_23)))] ⟨rfl, rfl, rfl, rfl, trivial⟩
          refine then_normal ?_
          refine wp_cond_split (hA373.get rfl) (fun hc => ?_) (fun hc => ?_)
          · have ht374 := ht368.1 (of_decide_eq_true hc)
            clear hc
            refine wp_skip ?_
            refine then_normal ?_
            refine wp_seq ?_
            refine wp_block ?_
            refine wp_seq ?_
            refine wp_region_lit ?_
            refine sq (opk_val hA373 rfl (r_move (hA373.get rfl)) fun a376 hA376 _ => ?_)
            refine sq (opk_val hA376 rfl (r_move (hA376.get rfl)) fun a377 hA377 _ => ?_)
            refine sq (opk_call hA377 rfl (r_call (args := #[.pointer r_5, .int .i64 i_328]) Tryd.func10 (by decide) rfl (map_arr (ml_cons (hA377.get rfl) (ml_cons (hA377.get rfl) ml_nil))) rfl) ht374 fun a379 v385 w380 hA379 _ hn382 hz383 hK384 => ?_)
            obtain ⟨r_378, rfl, ht381⟩ := hK384
            refine sq (opk_val hA379 rfl (r_move (hA379.get rfl)) fun a386 hA386 _ => ?_)
            obtain ⟨hS388, ht389⟩ := ht381
            refine sq (opk_val hA386 rfl (r_subI (hA386.get rfl) rfl hS388) fun a387 hA387 _ => ?_)
            refine sq (opk_val hA387 rfl (r_neq (hA387.get rfl) (hA387.get rfl)) fun a390 hA390 _ => ?_)
            refine sq_end ?_
            have hA391 := hA390.keep [(5, .pointer r_5), (6, .int .i64 r_23), (11, .int .i64 i_328), (113, .bool (decide (r_378 ≠ (i_328 - 1))))] ⟨rfl, rfl, rfl, rfl, trivial⟩
            refine then_normal ?_
            refine wp_cond_split (hA391.get rfl) (fun hc => ?_) (fun hc => ?_)
            · have ht392 := ht389.1 (of_decide_eq_true hc)
              clear hc
              refine wp_seq ?_
              refine wp_region_lit ?_
              refine sq (opk_val hA391 rfl (r_assign rfl) fun a394 hA394 _ => ?_)
              refine sq_end ?_
              have hA395 := hA394.keep [(4, .bool false)] ⟨rfl, trivial⟩
              refine then_normal ?_
              refine wp_ret ?_
              refine block_ret ?_
              refine then_ret ?_
              refine then_ret ?_
              refine block_ret ?_
              refine then_ret ?_
              exact res_all (vs := [.bool false]) rfl hA395 ⟨res_of_tmp hA395 rfl, trivial⟩ ht392
            · have ht393 := ht389.2 (of_decide_eq_false hc)
              clear hc
              refine wp_skip ?_
              refine block_normal ?_
              refine then_normal ?_
              refine wp_region_lit ?_
              refine sq (opk_val hA391 rfl (r_move (hA391.get rfl)) fun a396 hA396 _ => ?_)
              obtain ⟨hS398, ht399⟩ := ht393
              refine sq (opk_val hA396 rfl (r_addI (hA396.get rfl) rfl hS398) fun a397 hA397 _ => ?_)
              refine sq (opk_val hA397 rfl (r_assign (hA397.get rfl)) fun a400 hA400 _ => ?_)
              refine sq_end ?_
              have hA401 := hA400.keep [(5, .pointer r_5), (6, .int .i64 r_23), (11, .int .i64 (i_328 + 1))] ⟨rfl, rfl, rfl, trivial⟩
              have hA402 := hA401.keep [(5, .pointer r_5), (6, .int .i64 r_23), (11, .int .i64 (i_328 + 1))] ⟨rfl, rfl, rfl, trivial⟩
              exact then_normal ⟨(i_328 + 1, w380), ⟨hA402, rfl, ht399.1⟩, ht399.2⟩
          · have ht375 := ht368.2 (of_decide_eq_false hc)
            clear hc
            refine wp_exit ?_
            refine then_exit ?_
            refine then_exit ?_
            refine block_hit ?_
            have hA403 := hA373.keep [(5, .pointer r_5), (6, .int .i64 r_23)] ⟨rfl, rfl, trivial⟩
            refine then_normal ?_
            refine wp_seq ?_
            refine wp_region_lit ?_
            refine sq (opk_val hA403 rfl (r_move (hA403.get rfl)) fun a404 hA404 _ => ?_)
            refine sq (opk_call hA404 rfl (r_call (args := #[.pointer r_5]) Tryd.func13 (by decide) rfl (map_arr (ml_cons (hA404.get rfl) ml_nil)) rfl) ht375 fun a406 v412 w407 hA406 _ hn409 hz410 hK411 => ?_)
            obtain ⟨r_405, rfl, ht408⟩ := hK411
            refine sq (opk_val hA406 rfl (r_move (hA406.get rfl)) fun a413 hA413 _ => ?_)
            refine sq (opk_val hA413 rfl (r_eql (hA413.get rfl) (hA413.get rfl)) fun a414 hA414 _ => ?_)
            refine sq (opk_val hA414 rfl (r_move (hA414.get rfl)) fun a415 hA415 _ => ?_)
            obtain ⟨r_416, hc420, ht419⟩ := ht408
            refine sq (opk_gcall hA415 rfl rfl (g := true) (e := (decide (r_405 = r_23))) rfl (fun hg => r_call (args := #[]) Tryd.func11 (by decide) rfl (map_arr ml_nil) rfl) (fun hg => hc420 (of_decide_eq_true (g_t hg))) fun a417 w418 hA417 _ hE421 => ?_)
            have hC422 : Chg [] w407 w418 := hE421
            have ht423 := ht419 w418 hE421
            refine sq (opk_val hA417 rfl (r_pick_and (g := (true && ((decide (r_405 = r_23)) == true))) (hA417.get rfl) (hA417.get rfl) (fun he => g_mkt rfl he)) fun a424 hA424 _ => ?_)
            refine sq (opk_val hA424 rfl (r_assign (hA424.get rfl)) fun a425 hA425 _ => ?_)
            refine sq_end ?_
            have hA426 := hA425.keep [(4, .bool ((decide (r_405 = r_23)) && r_416))] ⟨rfl, trivial⟩
            refine then_normal ?_
            refine wp_ret ?_
            exact res_all (vs := [.bool ((decide (r_405 = r_23)) && r_416)]) rfl hA426 ⟨res_of_tmp hA426 rfl, trivial⟩ ht423

end Go.Proofs.YtcploacnonngaaaDoor
