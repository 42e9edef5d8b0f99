/-
  PRINTED BY PROGRAM: for each function its condition (vc), and that this suffices (ok).
-/
import Derived.Test.YtghmgfkdnolcdaaQDomLimitsGT
namespace Go.Proofs.Ytghmgfkdnolcdaa
open Go.RowKit
set_option linter.unusedVariables false

/-- The condition of topiary/topiarylaw06.DomLimits. -/
def law06_DomLimits.vc  (R : Value → World → Prop) (w : World) : Prop :=
CallK Try.prog 13 #[.agg #[.int .i64 1, .string (Bs ([] : Str)), .string (Bs ([] : Str)), Sl.v Sl.nil, Sl.v Sl.nil]] w [] (fun v w7 => ∃ (r_0_4 : Option Addr) (r_1_5 : Int), v = .tuple #[.pointer r_0_4, .int .i64 r_1_5] ∧
((r_1_5 ≠ 0) →
R (.bool false) w7) ∧
((¬ (r_1_5 ≠ 0)) →
∃ (J_30 : Int → World → Prop) (mu_31 : Int → World → Nat),
J_30 1 w7 ∧
(∀ (i_28 : Int) (w29 : World), J_30 i_28 w29 →
((i_28 < 60) →
(I64 (i_28 - 1)) ∧
CallK Try.prog 14 #[.pointer r_0_4, .int .i64 i_28, .int .i64 (i_28 - 1), .int .i64 0, .agg #[.int .i64 2, .string (Bs ([97] : Str)), .string (Bs ([] : Str)), Sl.v Sl.nil, Sl.v Sl.nil]] w29 [] (fun v w84 => ∃ (r_82 : Int), v = .int .i64 r_82 ∧
((r_82 ≠ 0) →
R (.bool false) w84) ∧
((¬ (r_82 ≠ 0)) →
(I64 (i_28 + 1)) ∧
J_30 (i_28 + 1) w84 ∧ mu_31 (i_28 + 1) w84 < mu_31 i_28 w29))) ∧
((¬ (i_28 < 60)) →
CallK Try.prog 14 #[.pointer r_0_4, .int .i64 900, .int .i64 59, .int .i64 0, .agg #[.int .i64 3, .string (Bs ([] : Str)), .string (Bs ([116] : Str)), Sl.v Sl.nil, Sl.v Sl.nil]] w29 [] (fun v w108 => ∃ (r_106 : Int), v = .int .i64 r_106 ∧
∃ (J_120 : Int → World → Prop) (mu_121 : Int → World → Nat),
J_120 60 w108 ∧
(∀ (i_118 : Int) (w119 : World), J_120 i_118 w119 →
((i_118 < 300) →
CallK Try.prog 14 #[.pointer r_0_4, .int .i64 i_118, .int .i64 0, .int .i64 0, .agg #[.int .i64 4, .string (Bs ([] : Str)), .string (Bs ([] : Str)), Sl.v Sl.nil, Sl.v Sl.nil]] w119 [] (fun v w166 => ∃ (r_164 : Int), v = .int .i64 r_164 ∧
((r_164 ≠ 0) →
R (.bool false) w166) ∧
((¬ (r_164 ≠ 0)) →
(I64 (i_118 + 1)) ∧
J_120 (i_118 + 1) w166 ∧ mu_121 (i_118 + 1) w166 < mu_121 i_118 w119))) ∧
((¬ (i_118 < 300)) →
CallK Try.prog 14 #[.pointer r_0_4, .int .i64 901, .int .i64 0, .int .i64 0, .agg #[.int .i64 4, .string (Bs ([] : Str)), .string (Bs ([] : Str)), Sl.v Sl.nil, Sl.v Sl.nil]] w119 [] (fun v w190 => ∃ (r_188 : Int), v = .int .i64 r_188 ∧
∃ (J_202 : Int → World → Prop) (mu_203 : Int → World → Nat),
J_202 0 w190 ∧
(∀ (i_200 : Int) (w201 : World), J_202 i_200 w201 →
((i_200 < 12) →
(I64 (i_200 + 1)) ∧
((0 : Int) ≤ i_200 ∧ (i_200 : Int) ≤ i_200 + 1 ∧ i_200 + 1 ≤ (([97, 98, 99, 100, 101, 102, 103, 104, 105, 106, 107, 108, 109, 110, 111, 112] : Str).length : Int)) ∧
(List.length ([120] : Str) + List.length ((List.drop i_200.toNat ([97, 98, 99, 100, 101, 102, 103, 104, 105, 106, 107, 108, 109, 110, 111, 112] : Str)).take ((i_200 + 1).toNat - i_200.toNat)) ≤ 9223372036854775807) ∧
CallK Try.prog 15 #[.pointer r_0_4, .int .i64 1, .string (Bs (([120] : Str) ++ ((List.drop i_200.toNat ([97, 98, 99, 100, 101, 102, 103, 104, 105, 106, 107, 108, 109, 110, 111, 112] : Str)).take ((i_200 + 1).toNat - i_200.toNat)))), .string (Bs ([118] : Str))] w201 [] (fun v w266 => ∃ (r_264 : Int), v = .int .i64 r_264 ∧
((r_264 ≠ 0) →
R (.bool false) w266) ∧
((¬ (r_264 ≠ 0)) →
(I64 (i_200 + 1)) ∧
J_202 (i_200 + 1) w266 ∧ mu_203 (i_200 + 1) w266 < mu_203 i_200 w201))) ∧
((¬ (i_200 < 12)) →
∃ J_298 : Int → World → Prop, ((((r_106 = 2) ∧ (r_188 = 2))) → CallK Try.prog 15 #[.pointer r_0_4, .int .i64 1, .string (Bs ([121] : Str)), .string (Bs ([118] : Str))] w201 [] (fun v w296 => ∃ r_294 : Int, v = .int .i64 r_294 ∧ J_298 r_294 w296)) ∧
((¬ (((r_106 = 2) ∧ (r_188 = 2)))) → ∃ r_294 : Int, J_298 r_294 w201) ∧
(∀ (r_294 : Int) (w296 : World), J_298 r_294 w296 →
∃ J_313 : Int → World → Prop, (((((r_106 = 2) ∧ (r_188 = 2)) ∧ (r_294 = 2))) → CallK Try.prog 15 #[.pointer r_0_4, .int .i64 1, .string (Bs ([120, 97] : Str)), .string (Bs ([119] : Str))] w296 [] (fun v w311 => ∃ r_309 : Int, v = .int .i64 r_309 ∧ J_313 r_309 w311)) ∧
((¬ ((((r_106 = 2) ∧ (r_188 = 2)) ∧ (r_294 = 2)))) → ∃ r_309 : Int, J_313 r_309 w296) ∧
(∀ (r_309 : Int) (w311 : World), J_313 r_309 w311 →
∃ (r_324 : Int), ((((((r_106 = 2) ∧ (r_188 = 2)) ∧ (r_294 = 2)) ∧ (r_309 = 0))) → Calls Try.prog 16 #[.pointer r_0_4] w311 (Ret fun v w' => Ext w311 w' ∧ v = .int .i64 r_324)) ∧
(∀ w326 : World, Ext w311 w326 →
∃ V_340 : Int → Str → Str → Sl → Sl → World → Prop, (((((((r_106 = 2) ∧ (r_188 = 2)) ∧ (r_294 = 2)) ∧ (r_309 = 0)) ∧ (r_324 = 300))) → Calls Try.prog 18 #[.pointer r_0_4] w326 (Ret fun v w' => Ext w326 w' ∧ ∃ r_336_Kind : Int, ∃ r_336_Name : Str, ∃ r_336_Text : Str, ∃ r_336_Attrs : Sl, ∃ r_336_Kids : Sl, v = .agg #[.int .i64 r_336_Kind, .string (Bs r_336_Name), .string (Bs r_336_Text), Sl.v r_336_Attrs, Sl.v r_336_Kids] ∧ V_340 r_336_Kind r_336_Name r_336_Text r_336_Attrs r_336_Kids w')) ∧
(∀ (r_336_Kind : Int) (r_336_Name : Str) (r_336_Text : Str) (r_336_Attrs : Sl) (r_336_Kids : Sl) (w338 : World), Ext w326 w338 → (((((((r_106 = 2) ∧ (r_188 = 2)) ∧ (r_294 = 2)) ∧ (r_309 = 0)) ∧ (r_324 = 300))) → V_340 r_336_Kind r_336_Name r_336_Text r_336_Attrs r_336_Kids w338) →
∃ (r_349 : Int), (((((((r_106 = 2) ∧ (r_188 = 2)) ∧ (r_294 = 2)) ∧ (r_309 = 0)) ∧ (r_324 = 300))) → Calls Try.prog 17 #[.agg #[.int .i64 r_336_Kind, .string (Bs r_336_Name), .string (Bs r_336_Text), Sl.v r_336_Attrs, Sl.v r_336_Kids]] w338 (Ret fun v w' => Ext w338 w' ∧ v = .int .i64 r_349)) ∧
(∀ w351 : World, Ext w338 w351 →
∃ (r_360 : Bool), ((((((((r_106 = 2) ∧ (r_188 = 2)) ∧ (r_294 = 2)) ∧ (r_309 = 0)) ∧ (r_324 = 300)) ∧ (r_349 = 60))) → Calls Try.prog 19 #[] w351 (Ret fun v w' => Ext w351 w' ∧ v = .bool r_360)) ∧
(∀ w362 : World, Ext w351 w362 →
R (.bool (((((((decide (r_106 = 2)) && (decide (r_188 = 2))) && (decide (r_294 = 2))) && (decide (r_309 = 0))) && (decide (r_324 = 300))) && (decide (r_349 = 60))) && r_360)) w362))))))))))))))))
set_option maxHeartbeats 1000000 in
set_option maxRecDepth 10000 in
theorem law06_DomLimits.ok  {R : Value → World → Prop} {w : World} (ht0 : law06_DomLimits.vc  R w) : Calls Try.prog 3 #[] w (Ret R) := by
  refine enter [] Try.func3 rfl Try.ntmps3 rfl ?_
  intro a0 hA0
  unfold law06_DomLimits.vc at ht0
  refine wp_seq ?_
  refine wp_region_lit ?_
  refine sq (opk_val hA0 rfl (r_assign rfl) fun a1 hA1 _ => ?_)
  refine sq_end ?_
  have hA2 := hA1.keep [] trivial
  refine then_normal ?_
  refine wp_seq ?_
  refine wp_region_lit ?_
  refine sq (opk_val hA2 rfl (r_build (vs := #[(0, .int .i64 1)]) (cells := #[.int .i64 1, .string (Bs ([] : Str)), .string (Bs ([] : Str)), Sl.v Sl.nil, Sl.v Sl.nil]) (map_arr2 (ml2_cons rfl (ml2_nil))) ti_29 Try.underlying29 pl_29 (by kernel_rfl)) fun a3 hA3 _ => ?_)
  refine sq (opk_call hA3 rfl (r_call (args := #[.agg #[.int .i64 1, .string (Bs ([] : Str)), .string (Bs ([] : Str)), Sl.v Sl.nil, Sl.v Sl.nil]]) Try.func13 (by decide) rfl (map_arr (ml_cons (hA3.get rfl) ml_nil)) rfl) ht0 fun a6 v12 w7 hA6 _ hn9 hz10 hK11 => ?_)
  obtain ⟨r_0_4, r_1_5, rfl, ht8⟩ := hK11
  refine sq (opk_val hA6 rfl (r_move (hA6.get rfl)) fun a13 hA13 _ => ?_)
  refine sq (opk_val hA13 rfl (r_extract (hA13.get rfl) rfl) fun a14 hA14 _ => ?_)
  refine sq (opk_val hA14 rfl (r_extract (hA14.get rfl) rfl) fun a15 hA15 _ => ?_)
  refine sq (opk_val hA15 rfl (r_assign (hA15.get rfl)) fun a16 hA16 _ => ?_)
  refine sq (opk_val hA16 rfl (r_assign (hA16.get rfl)) fun a17 hA17 _ => ?_)
  refine sq_end ?_
  have hA18 := hA17.keep [(1, .pointer r_0_4), (2, .int .i64 r_1_5)] ⟨rfl, rfl, trivial⟩
  refine then_normal ?_
  refine wp_seq ?_
  refine wp_seq ?_
  refine wp_region_lit ?_
  refine sq (opk_val hA18 rfl (r_move (hA18.get rfl)) fun a19 hA19 _ => ?_)
  refine sq (opk_val hA19 rfl (r_neq (hA19.get rfl) rfl) fun a20 hA20 _ => ?_)
  refine sq_end ?_
  have hA21 := hA20.keep [(1, .pointer r_0_4), (14, .bool (decide (r_1_5 ≠ 0)))] ⟨rfl, rfl, trivial⟩
  refine then_normal ?_
  refine wp_cond_split (hA21.get rfl) (fun hc => ?_) (fun hc => ?_)
  · have ht22 := ht8.1 (of_decide_eq_true hc)
    clear hc
    refine wp_seq ?_
    refine wp_region_lit ?_
    refine sq (opk_val hA21 rfl (r_assign rfl) fun a24 hA24 _ => ?_)
    refine sq_end ?_
    have hA25 := hA24.keep [(0, .bool false)] ⟨rfl, trivial⟩
    refine then_normal ?_
    refine wp_ret ?_
    refine then_ret ?_
    exact res_all (vs := [.bool false]) rfl hA25 ⟨res_of_tmp hA25 rfl, trivial⟩ ht22
  · have ht23 := ht8.2 (of_decide_eq_false hc)
    clear hc
    refine wp_skip ?_
    refine then_normal ?_
    refine wp_seq ?_
    refine wp_seq ?_
    refine wp_region_lit ?_
    refine sq (opk_val hA21 rfl (r_assign rfl) fun a26 hA26 _ => ?_)
    refine sq_end ?_
    have hA27 := hA26.keep [(1, .pointer r_0_4), (3, .int .i64 1)] ⟨rfl, rfl, trivial⟩
    refine then_normal ?_
    refine wp_block ?_
    obtain ⟨J_30, mu_31, h067, ht66⟩ := ht23
    refine wp_loop_st (σ := Int × World) (fun s a w => Ag 83 a [(1, .pointer r_0_4), (3, .int .i64 s.1)] ∧ w = s.2 ∧ J_30 s.1 s.2) (fun s => mu_31 s.1 s.2) (1, w7) ⟨hA27.keep [(1, .pointer r_0_4), (3, .int .i64 1)] ⟨rfl, rfl, trivial⟩, rfl, h067⟩ ?_
    rintro ⟨i_28, w29⟩ a65 w_ ⟨hA65, hw_, hJ69⟩
    have hw_ : w29 = w_ := hw_.symm
    subst hw_
    have ht68 := ht66 i_28 _ hJ69
    refine wp_seq ?_
    refine wp_seq ?_
    refine wp_region_lit ?_
    refine sq (opk_val hA65 rfl (r_move (hA65.get rfl)) fun a70 hA70 _ => ?_)
    refine sq (opk_val hA70 rfl (r_lss (hA70.get rfl) rfl) fun a71 hA71 _ => ?_)
    refine sq_end ?_
    have hA72 := hA71.keep [(1, .pointer r_0_4), (3, .int .i64 i_28), (16, .bool (decide (i_28 < 60)))] ⟨rfl, rfl, rfl, trivial⟩
    refine then_normal ?_
    refine wp_cond_split (hA72.get rfl) (fun hc => ?_) (fun hc => ?_)
    · have ht73 := ht68.1 (of_decide_eq_true hc)
      clear hc
      refine wp_skip ?_
      refine then_normal ?_
      refine wp_seq ?_
      refine wp_block ?_
      refine wp_seq ?_
      refine wp_region_lit ?_
      refine sq (opk_val hA72 rfl (r_move (hA72.get rfl)) fun a75 hA75 _ => ?_)
      refine sq (opk_val hA75 rfl (r_move (hA75.get rfl)) fun a76 hA76 _ => ?_)
      refine sq (opk_val hA76 rfl (r_move (hA76.get rfl)) fun a77 hA77 _ => ?_)
      obtain ⟨hS79, ht80⟩ := ht73
      refine sq (opk_val hA77 rfl (r_subI (hA77.get rfl) rfl hS79) fun a78 hA78 _ => ?_)
      refine sq (opk_val hA78 rfl (r_build (vs := #[(0, .int .i64 2), (1, .string (Bs ([97] : Str)))]) (cells := #[.int .i64 2, .string (Bs ([97] : Str)), .string (Bs ([] : Str)), Sl.v Sl.nil, Sl.v Sl.nil]) (map_arr2 (ml2_cons rfl (ml2_cons rfl (ml2_nil)))) ti_29 Try.underlying29 pl_29 (by kernel_rfl)) fun a81 hA81 _ => ?_)
      refine sq (opk_call hA81 rfl (r_call (args := #[.pointer r_0_4, .int .i64 i_28, .int .i64 (i_28 - 1), .int .i64 0, .agg #[.int .i64 2, .string (Bs ([97] : Str)), .string (Bs ([] : Str)), Sl.v Sl.nil, Sl.v Sl.nil]]) Try.func14 (by decide) rfl (map_arr (ml_cons (hA81.get rfl) (ml_cons (hA81.get rfl) (ml_cons (hA81.get rfl) (ml_cons rfl (ml_cons (hA81.get rfl) ml_nil)))))) rfl) ht80 fun a83 v89 w84 hA83 _ hn86 hz87 hK88 => ?_)
      obtain ⟨r_82, rfl, ht85⟩ := hK88
      refine sq (opk_val hA83 rfl (r_neq (hA83.get rfl) rfl) fun a90 hA90 _ => ?_)
      refine sq_end ?_
      have hA91 := hA90.keep [(1, .pointer r_0_4), (3, .int .i64 i_28), (25, .bool (decide (r_82 ≠ 0)))] ⟨rfl, rfl, rfl, trivial⟩
      refine then_normal ?_
      refine wp_cond_split (hA91.get rfl) (fun hc => ?_) (fun hc => ?_)
      · have ht92 := ht85.1 (of_decide_eq_true hc)
        clear hc
        refine wp_seq ?_
        refine wp_region_lit ?_
        refine sq (opk_val hA91 rfl (r_assign rfl) fun a94 hA94 _ => ?_)
        refine sq_end ?_
        have hA95 := hA94.keep [(0, .bool false)] ⟨rfl, trivial⟩
        refine then_normal ?_
        refine wp_ret ?_
        refine block_ret ?_
        refine then_ret ?_
        refine then_ret ?_
        refine block_ret ?_
        refine then_ret ?_
        exact res_all (vs := [.bool false]) rfl hA95 ⟨res_of_tmp hA95 rfl, trivial⟩ ht92
      · have ht93 := ht85.2 (of_decide_eq_false hc)
        clear hc
        refine wp_skip ?_
        refine block_normal ?_
        refine then_normal ?_
        refine wp_region_lit ?_
        refine sq (opk_val hA91 rfl (r_move (hA91.get rfl)) fun a96 hA96 _ => ?_)
        obtain ⟨hS98, ht99⟩ := ht93
        refine sq (opk_val hA96 rfl (r_addI (hA96.get rfl) rfl hS98) fun a97 hA97 _ => ?_)
        refine sq (opk_val hA97 rfl (r_assign (hA97.get rfl)) fun a100 hA100 _ => ?_)
        refine sq_end ?_
        have hA101 := hA100.keep [(1, .pointer r_0_4), (3, .int .i64 (i_28 + 1))] ⟨rfl, rfl, trivial⟩
        have hA102 := hA101.keep [(1, .pointer r_0_4), (3, .int .i64 (i_28 + 1))] ⟨rfl, rfl, trivial⟩
        exact then_normal ⟨(i_28 + 1, w84), ⟨hA102, rfl, ht99.1⟩, ht99.2⟩
    · have ht74 := ht68.2 (of_decide_eq_false hc)
      clear hc
      refine wp_exit ?_
      refine then_exit ?_
      refine then_exit ?_
      refine block_hit ?_
      have hA103 := hA72.keep [(1, .pointer r_0_4)] ⟨rfl, trivial⟩
      refine then_normal ?_
      refine wp_seq ?_
      refine wp_region_lit ?_
      refine sq (opk_val hA103 rfl (r_move (hA103.get rfl)) fun a104 hA104 _ => ?_)
      refine sq (opk_val hA104 rfl (r_build (vs := #[(0, .int .i64 3), (2, .string (Bs ([116] : Str)))]) (cells := #[.int .i64 3, .string (Bs ([] : Str)), .string (Bs ([116] : Str)), Sl.v Sl.nil, Sl.v Sl.nil]) (map_arr2 (ml2_cons rfl (ml2_cons rfl (ml2_nil)))) ti_29 Try.underlying29 pl_29 (by kernel_rfl)) fun a105 hA105 _ => ?_)
      refine sq (opk_call hA105 rfl (r_call (args := #[.pointer r_0_4, .int .i64 900, .int .i64 59, .int .i64 0, .agg #[.int .i64 3, .string (Bs ([] : Str)), .string (Bs ([116] : Str)), Sl.v Sl.nil, Sl.v Sl.nil]]) Try.func14 (by decide) rfl (map_arr (ml_cons (hA105.get rfl) (ml_cons rfl (ml_cons rfl (ml_cons rfl (ml_cons (hA105.get rfl) ml_nil)))))) rfl) ht74 fun a107 v113 w108 hA107 _ hn110 hz111 hK112 => ?_)
      obtain ⟨r_106, rfl, ht109⟩ := hK112
      refine sq (opk_val hA107 rfl (r_assign (hA107.get rfl)) fun a114 hA114 _ => ?_)
      refine sq_end ?_
      have hA115 := hA114.keep [(1, .pointer r_0_4), (4, .int .i64 r_106)] ⟨rfl, rfl, trivial⟩
      refine then_normal ?_
      refine wp_seq ?_
      refine wp_seq ?_
      refine wp_region_lit ?_
      refine sq (opk_val hA115 rfl (r_assign rfl) fun a116 hA116 _ => ?_)
      refine sq_end ?_
      have hA117 := hA116.keep [(1, .pointer r_0_4), (4, .int .i64 r_106), (5, .int .i64 60)] ⟨rfl, rfl, rfl, trivial⟩
      refine then_normal ?_
      refine wp_block ?_
      obtain ⟨J_120, mu_121, h0153, ht152⟩ := ht109
      refine wp_loop_st (σ := Int × World) (fun s a w => Ag 83 a [(1, .pointer r_0_4), (4, .int .i64 r_106), (5, .int .i64 s.1)] ∧ w = s.2 ∧ J_120 s.1 s.2) (fun s => mu_121 s.1 s.2) (60, w108) ⟨hA117.keep [(1, .pointer r_0_4), (4, .int .i64 r_106), (5, .int .i64 60)] ⟨rfl, rfl, rfl, trivial⟩, rfl, h0153⟩ ?_
      rintro ⟨i_118, w119⟩ a151 w_ ⟨hA151, hw_, hJ155⟩
      have hw_ : w119 = w_ := hw_.symm
      subst hw_
      have ht154 := ht152 i_118 _ hJ155
      refine wp_seq ?_
      refine wp_seq ?_
      refine wp_region_lit ?_
      refine sq (opk_val hA151 rfl (r_move (hA151.get rfl)) fun a156 hA156 _ => ?_)
      refine sq (opk_val hA156 rfl (r_lss (hA156.get rfl) rfl) fun a157 hA157 _ => ?_)
      refine sq_end ?_
      have hA158 := hA157.keep [(1, .pointer r_0_4), (4, .int .i64 r_106), (5, .int .i64 i_118), (30, .bool (decide (i_118 < 300)))] ⟨rfl, rfl, rfl, rfl, trivial⟩
      refine then_normal ?_
      refine wp_cond_split (hA158.get rfl) (fun hc => ?_) (fun hc => ?_)
      · have ht159 := ht154.1 (of_decide_eq_true hc)
        clear hc
        refine wp_skip ?_
        refine then_normal ?_
        refine wp_seq ?_
        refine wp_block ?_
        refine wp_seq ?_
        refine wp_region_lit ?_
        refine sq (opk_val hA158 rfl (r_move (hA158.get rfl)) fun a161 hA161 _ => ?_)
        refine sq (opk_val hA161 rfl (r_move (hA161.get rfl)) fun a162 hA162 _ => ?_)
        refine sq (opk_val hA162 rfl (r_build (vs := #[(0, .int .i64 4)]) (cells := #[.int .i64 4, .string (Bs ([] : Str)), .string (Bs ([] : Str)), Sl.v Sl.nil, Sl.v Sl.nil]) (map_arr2 (ml2_cons rfl (ml2_nil))) ti_29 Try.underlying29 pl_29 (by kernel_rfl)) fun a163 hA163 _ => ?_)
        refine sq (opk_call hA163 rfl (r_call (args := #[.pointer r_0_4, .int .i64 i_118, .int .i64 0, .int .i64 0, .agg #[.int .i64 4, .string (Bs ([] : Str)), .string (Bs ([] : Str)), Sl.v Sl.nil, Sl.v Sl.nil]]) Try.func14 (by decide) rfl (map_arr (ml_cons (hA163.get rfl) (ml_cons (hA163.get rfl) (ml_cons rfl (ml_cons rfl (ml_cons (hA163.get rfl) ml_nil)))))) rfl) ht159 fun a165 v171 w166 hA165 _ hn168 hz169 hK170 => ?_)
        obtain ⟨r_164, rfl, ht167⟩ := hK170
        refine sq (opk_val hA165 rfl (r_neq (hA165.get rfl) rfl) fun a172 hA172 _ => ?_)
        refine sq_end ?_
        have hA173 := hA172.keep [(1, .pointer r_0_4), (4, .int .i64 r_106), (5, .int .i64 i_118), (37, .bool (decide (r_164 ≠ 0)))] ⟨rfl, rfl, rfl, rfl, trivial⟩
        refine then_normal ?_
        refine wp_cond_split (hA173.get rfl) (fun hc => ?_) (fun hc => ?_)
        · have ht174 := ht167.1 (of_decide_eq_true hc)
          clear hc
          refine wp_seq ?_
          refine wp_region_lit ?_
          refine sq (opk_val hA173 rfl (r_assign rfl) fun a176 hA176 _ => ?_)
          refine sq_end ?_
          have hA177 := hA176.keep [(0, .bool false)] ⟨rfl, trivial⟩
          refine then_normal ?_
          refine wp_ret ?_
          refine block_ret ?_
          refine then_ret ?_
          refine then_ret ?_
          refine block_ret ?_
          refine then_ret ?_
          exact res_all (vs := [.bool false]) rfl hA177 ⟨res_of_tmp hA177 rfl, trivial⟩ ht174
        · have ht175 := ht167.2 (of_decide_eq_false hc)
          clear hc
          refine wp_skip ?_
          refine block_normal ?_
          refine then_normal ?_
          refine wp_region_lit ?_
          refine sq (opk_val hA173 rfl (r_move (hA173.get rfl)) fun a178 hA178 _ => ?_)
          obtain ⟨hS180, ht181⟩ := ht175
          refine sq (opk_val hA178 rfl (r_addI (hA178.get rfl) rfl hS180) fun a179 hA179 _ => ?_)
          refine sq (opk_val hA179 rfl (r_assign (hA179.get rfl)) fun a182 hA182 _ => ?_)
          refine sq_end ?_
          have hA183 := hA182.keep [(1, .pointer r_0_4), (4, .int .i64 r_106), (5, .int .i64 (i_118 + 1))] ⟨rfl, rfl, rfl, trivial⟩
          have hA184 := hA183.keep [(1, .pointer r_0_4), (4, .int .i64 r_106), (5, .int .i64 (i_118 + 1))] ⟨rfl, rfl, rfl, trivial⟩
          exact then_normal ⟨(i_118 + 1, w166), ⟨hA184, rfl, ht181.1⟩, ht181.2⟩
      · have ht160 := ht154.2 (of_decide_eq_false hc)
        clear hc
        refine wp_exit ?_
        refine then_exit ?_
        refine then_exit ?_
        refine block_hit ?_
        have hA185 := hA158.keep [(1, .pointer r_0_4), (4, .int .i64 r_106)] ⟨rfl, rfl, trivial⟩
        refine then_normal ?_
        refine wp_seq ?_
        refine wp_region_lit ?_
        refine sq (opk_val hA185 rfl (r_move (hA185.get rfl)) fun a186 hA186 _ => ?_)
        refine sq (opk_val hA186 rfl (r_build (vs := #[(0, .int .i64 4)]) (cells := #[.int .i64 4, .string (Bs ([] : Str)), .string (Bs ([] : Str)), Sl.v Sl.nil, Sl.v Sl.nil]) (map_arr2 (ml2_cons rfl (ml2_nil))) ti_29 Try.underlying29 pl_29 (by kernel_rfl)) fun a187 hA187 _ => ?_)
        refine sq (opk_call hA187 rfl (r_call (args := #[.pointer r_0_4, .int .i64 901, .int .i64 0, .int .i64 0, .agg #[.int .i64 4, .string (Bs ([] : Str)), .string (Bs ([] : Str)), Sl.v Sl.nil, Sl.v Sl.nil]]) Try.func14 (by decide) rfl (map_arr (ml_cons (hA187.get rfl) (ml_cons rfl (ml_cons rfl (ml_cons rfl (ml_cons (hA187.get rfl) ml_nil)))))) rfl) ht160 fun a189 v195 w190 hA189 _ hn192 hz193 hK194 => ?_)
        obtain ⟨r_188, rfl, ht191⟩ := hK194
        refine sq (opk_val hA189 rfl (r_assign (hA189.get rfl)) fun a196 hA196 _ => ?_)
        refine sq_end ?_
        have hA197 := hA196.keep [(1, .pointer r_0_4), (4, .int .i64 r_106), (6, .int .i64 r_188)] ⟨rfl, rfl, rfl, trivial⟩
        refine then_normal ?_
        refine wp_seq ?_
        refine wp_seq ?_
        refine wp_region_lit ?_
        refine sq (opk_val hA197 rfl (r_assign rfl) fun a198 hA198 _ => ?_)
        refine sq_end ?_
        have hA199 := hA198.keep [(1, .pointer r_0_4), (4, .int .i64 r_106), (6, .int .i64 r_188), (7, .int .i64 0)] ⟨rfl, rfl, rfl, rfl, trivial⟩
        refine then_normal ?_
        refine wp_block ?_
        obtain ⟨J_202, mu_203, h0244, ht243⟩ := ht191
        refine wp_loop_st (σ := Int × World) (fun s a w => Ag 83 a [(1, .pointer r_0_4), (4, .int .i64 r_106), (6, .int .i64 r_188), (7, .int .i64 s.1)] ∧ w = s.2 ∧ J_202 s.1 s.2) (fun s => mu_203 s.1 s.2) (0, w190) ⟨hA199.keep [(1, .pointer r_0_4), (4, .int .i64 r_106), (6, .int .i64 r_188), (7, .int .i64 0)] ⟨rfl, rfl, rfl, rfl, trivial⟩, rfl, h0244⟩ ?_
        rintro ⟨i_200, w201⟩ a242 w_ ⟨hA242, hw_, hJ246⟩
        have hw_ : w201 = w_ := hw_.symm
        subst hw_
        have ht245 := ht243 i_200 _ hJ246
        refine wp_seq ?_
        refine wp_seq ?_
        refine wp_region_lit ?_
        refine sq (opk_val hA242 rfl (r_move (hA242.get rfl)) fun a247 hA247 _ => ?_)
        refine sq (opk_val hA247 rfl (r_lss (hA247.get rfl) rfl) fun a248 hA248 _ => ?_)
        refine sq_end ?_
        have hA249 := hA248.keep [(1, .pointer r_0_4), (4, .int .i64 r_106), (6, .int .i64 r_188), (7, .int .i64 i_200), (42, .bool (decide (i_200 < 12)))] ⟨rfl, rfl, rfl, rfl, rfl, trivial⟩
        refine then_normal ?_
        refine wp_cond_split (hA249.get rfl) (fun hc => ?_) (fun hc => ?_)
        · have ht250 := ht245.1 (of_decide_eq_true hc)
          clear hc
          refine wp_skip ?_
          refine then_normal ?_
          refine wp_seq ?_
          refine wp_block ?_
          refine wp_seq ?_
          refine wp_region_lit ?_
          refine sq (opk_val hA249 rfl (r_move (hA249.get rfl)) fun a252 hA252 _ => ?_)
          refine sq (opk_val hA252 rfl (r_move (hA252.get rfl)) fun a253 hA253 _ => ?_)
          refine sq (opk_val hA253 rfl (r_move (hA253.get rfl)) fun a254 hA254 _ => ?_)
          obtain ⟨hS256, ht257⟩ := ht250
          refine sq (opk_val hA254 rfl (r_addI (hA254.get rfl) rfl hS256) fun a255 hA255 _ => ?_)
          obtain ⟨hS259, ht260⟩ := ht257
          refine sq (opk_val hA255 rfl (r_sslice2 rfl (hA255.get rfl) (hA255.get rfl) Try.underlying9 hS259) fun a258 hA258 _ => ?_)
          obtain ⟨hS262, ht263⟩ := ht260
          refine sq (opk_val hA258 rfl (r_sadd rfl (hA258.get rfl) hS262) fun a261 hA261 _ => ?_)
          refine sq (opk_call hA261 rfl (r_call (args := #[.pointer r_0_4, .int .i64 1, .string (Bs (([120] : Str) ++ ((List.drop i_200.toNat ([97, 98, 99, 100, 101, 102, 103, 104, 105, 106, 107, 108, 109, 110, 111, 112] : Str)).take ((i_200 + 1).toNat - i_200.toNat)))), .string (Bs ([118] : Str))]) Try.func15 (by decide) rfl (map_arr (ml_cons (hA261.get rfl) (ml_cons rfl (ml_cons (hA261.get rfl) (ml_cons rfl ml_nil))))) rfl) ht263 fun a265 v271 w266 hA265 _ hn268 hz269 hK270 => ?_)
          obtain ⟨r_264, rfl, ht267⟩ := hK270
          refine sq (opk_val hA265 rfl (r_neq (hA265.get rfl) rfl) fun a272 hA272 _ => ?_)
          refine sq_end ?_
          have hA273 := hA272.keep [(1, .pointer r_0_4), (4, .int .i64 r_106), (6, .int .i64 r_188), (7, .int .i64 i_200), (52, .bool (decide (r_264 ≠ 0)))] ⟨rfl, rfl, rfl, rfl, rfl, trivial⟩
          refine then_normal ?_
          refine wp_cond_split (hA273.get rfl) (fun hc => ?_) (fun hc => ?_)
          · have ht274 := ht267.1 (of_decide_eq_true hc)
            clear hc
            refine wp_seq ?_
            refine wp_region_lit ?_
            refine sq (opk_val hA273 rfl (r_assign rfl) fun a276 hA276 _ => ?_)
            refine sq_end ?_
            have hA277 := hA276.keep [(0, .bool false)] ⟨rfl, trivial⟩
            refine then_normal ?_
            refine wp_ret ?_
            refine block_ret ?_
            refine then_ret ?_
            refine then_ret ?_
            refine block_ret ?_
            refine then_ret ?_
            exact res_all (vs := [.bool false]) rfl hA277 ⟨res_of_tmp hA277 rfl, trivial⟩ ht274
          · have ht275 := ht267.2 (of_decide_eq_false hc)
            clear hc
            refine wp_skip ?_
            refine block_normal ?_
            refine then_normal ?_
            refine wp_region_lit ?_
            refine sq (opk_val hA273 rfl (r_move (hA273.get rfl)) fun a278 hA278 _ => ?_)
            obtain ⟨hS280, ht281⟩ := ht275
            refine sq (opk_val hA278 rfl (r_addI (hA278.get rfl) rfl hS280) fun a279 hA279 _ => ?_)
            refine sq (opk_val hA279 rfl (r_assign (hA279.get rfl)) fun a282 hA282 _ => ?_)
            refine sq_end ?_
            have hA283 := hA282.keep [(1, .pointer r_0_4), (4, .int .i64 r_106), (6, .int .i64 r_188), (7, .int .i64 (i_200 + 1))] ⟨rfl, rfl, rfl, rfl, trivial⟩
            have hA284 := hA283.keep [(1, .pointer r_0_4), (4, .int .i64 r_106), (6, .int .i64 r_188), (7, .int .i64 (i_200 + 1))] ⟨rfl, rfl, rfl, rfl, trivial⟩
            exact then_normal ⟨(i_200 + 1, w266), ⟨hA284, rfl, ht281.1⟩, ht281.2⟩
        · have ht251 := ht245.2 (of_decide_eq_false hc)
          clear hc
          refine wp_exit ?_
          refine then_exit ?_
          refine then_exit ?_
          refine block_hit ?_
          have hA285 := hA249.keep [(1, .pointer r_0_4), (4, .int .i64 r_106), (6, .int .i64 r_188)] ⟨rfl, rfl, rfl, trivial⟩
          refine then_normal ?_
          refine wp_seq ?_
          refine wp_region_lit ?_
          refine sq (opk_val hA285 rfl (r_move (hA285.get rfl)) fun a286 hA286 _ => ?_)
          refine sq (opk_val hA286 rfl (r_eql (hA286.get rfl) rfl) fun a287 hA287 _ => ?_)
          refine sq (opk_val hA287 rfl (r_move (hA287.get rfl)) fun a288 hA288 _ => ?_)
          refine sq (opk_gval hA288 rfl rfl (g := true) (e := (decide (r_106 = 2))) rfl (fun hg => r_move (hA288.get rfl)) fun a289 hA289 _ => ?_)
          refine sq (opk_gval hA289 rfl rfl (g := true) (e := (decide (r_106 = 2))) rfl (fun hg => r_eql (cv_get (hA289.get rfl) hg) rfl) fun a290 hA290 _ => ?_)
          refine sq (opk_val hA290 rfl (r_pick_and (g := (true && ((decide (r_106 = 2)) == true))) (hA290.get rfl) (hA290.get rfl) (fun he => g_mkt rfl he)) fun a291 hA291 _ => ?_)
          refine sq (opk_val hA291 rfl (r_move (hA291.get rfl)) fun a292 hA292 _ => ?_)
          refine sq (opk_gval hA292 rfl rfl (g := true) (e := ((decide (r_106 = 2)) && (decide (r_188 = 2)))) rfl (fun hg => r_move (hA292.get rfl)) fun a293 hA293 _ => ?_)
          obtain ⟨J_298, hc299, hno300, ht297⟩ := ht251
          refine sq (opk_gcallJ (val := fun r_294 => .int .i64 r_294) (J := J_298) hA293 rfl rfl (g := true) (e := ((decide (r_106 = 2)) && (decide (r_188 = 2)))) rfl (fun hg => r_call (args := #[.pointer r_0_4, .int .i64 1, .string (Bs ([121] : Str)), .string (Bs ([118] : Str))]) Try.func15 (by decide) rfl (map_arr (ml_cons (cv_get (hA293.get rfl) hg) (ml_cons rfl (ml_cons rfl (ml_cons rfl ml_nil))))) rfl) (fun hg => hc299 ⟨(of_decide_eq_true (b_and_t (g_t hg)).1), (of_decide_eq_true (b_and_t (g_t hg)).2)⟩) (fun hg => hno300 (fun hp => absurd ((g_mkt rfl (b_and_mk ⟨(decide_eq_true hp.1), (decide_eq_true hp.2)⟩))) (by rw [hg]; decide))) fun a295 w296 r_294 hA295 _ hn301 hz302 hJ303 => ?_)
          have ht304 := ht297 r_294 w296 hJ303
          refine sq (opk_gval hA295 rfl rfl (g := true) (e := ((decide (r_106 = 2)) && (decide (r_188 = 2)))) rfl (fun hg => r_eql (cv_get (hA295.get rfl) hg) rfl) fun a305 hA305 _ => ?_)
          refine sq (opk_val hA305 rfl (r_pick_and (g := (true && (((decide (r_106 = 2)) && (decide (r_188 = 2))) == true))) (hA305.get rfl) (hA305.get rfl) (fun he => g_mkt rfl he)) fun a306 hA306 _ => ?_)
          refine sq (opk_val hA306 rfl (r_move (hA306.get rfl)) fun a307 hA307 _ => ?_)
          refine sq (opk_gval hA307 rfl rfl (g := true) (e := (((decide (r_106 = 2)) && (decide (r_188 = 2))) && (decide (r_294 = 2)))) rfl (fun hg => r_move (hA307.get rfl)) fun a308 hA308 _ => ?_)
          obtain ⟨J_313, hc314, hno315, ht312⟩ := ht304
          refine sq (opk_gcallJ (val := fun r_309 => .int .i64 r_309) (J := J_313) hA308 rfl rfl (g := true) (e := (((decide (r_106 = 2)) && (decide (r_188 = 2))) && (decide (r_294 = 2)))) rfl (fun hg => r_call (args := #[.pointer r_0_4, .int .i64 1, .string (Bs ([120, 97] : Str)), .string (Bs ([119] : Str))]) Try.func15 (by decide) rfl (map_arr (ml_cons (cv_get (hA308.get rfl) hg) (ml_cons rfl (ml_cons rfl (ml_cons rfl ml_nil))))) rfl) (fun hg => hc314 ⟨⟨(of_decide_eq_true (b_and_t (b_and_t (g_t hg)).1).1), (of_decide_eq_true (b_and_t (b_and_t (g_t hg)).1).2)⟩, (of_decide_eq_true (b_and_t (g_t hg)).2)⟩) (fun hg => hno315 (fun hp => absurd ((g_mkt rfl (b_and_mk ⟨(b_and_mk ⟨(decide_eq_true hp.1.1), (decide_eq_true hp.1.2)⟩), (decide_eq_true hp.2)⟩))) (by rw [hg]; decide))) fun a310 w311 r_309 hA310 _ hn316 hz317 hJ318 => ?_)
          have ht319 := ht312 r_309 w311 hJ318
          refine sq (opk_gval hA310 rfl rfl (g := true) (e := (((decide (r_106 = 2)) && (decide (r_188 = 2))) && (decide (r_294 = 2)))) rfl (fun hg => r_eql (cv_get (hA310.get rfl) hg) rfl) fun a320 hA320 _ => ?_)
          refine sq (opk_val hA320 rfl (r_pick_and (g := (true && ((((decide (r_106 = 2)) && (decide (r_188 = 2))) && (decide (r_294 = 2))) == true))) (hA320.get rfl) (hA320.get rfl) (fun he => g_mkt rfl he)) fun a321 hA321 _ => ?_)
          refine sq (opk_val hA321 rfl (r_move (hA321.get rfl)) fun a322 hA322 _ => ?_)
          refine sq (opk_gval hA322 rfl rfl (g := true) (e := ((((decide (r_106 = 2)) && (decide (r_188 = 2))) && (decide (r_294 = 2))) && (decide (r_309 = 0)))) rfl (fun hg => r_move (hA322.get rfl)) fun a323 hA323 _ => ?_)
          obtain ⟨r_324, hc328, ht327⟩ := ht319
          refine sq (opk_gcall hA323 rfl rfl (g := true) (e := ((((decide (r_106 = 2)) && (decide (r_188 = 2))) && (decide (r_294 = 2))) && (decide (r_309 = 0)))) rfl (fun hg => r_call (args := #[.pointer r_0_4]) Try.func16 (by decide) rfl (map_arr (ml_cons (cv_get (hA323.get rfl) hg) ml_nil)) rfl) (fun hg => hc328 ⟨⟨⟨(of_decide_eq_true (b_and_t (b_and_t (b_and_t (g_t hg)).1).1).1), (of_decide_eq_true (b_and_t (b_and_t (b_and_t (g_t hg)).1).1).2)⟩, (of_decide_eq_true (b_and_t (b_and_t (g_t hg)).1).2)⟩, (of_decide_eq_true (b_and_t (g_t hg)).2)⟩) fun a325 w326 hA325 _ hE329 => ?_)
          have hC330 : Chg [] w311 w326 := hE329
          have ht331 := ht327 w326 hE329
          refine sq (opk_gval hA325 rfl rfl (g := true) (e := ((((decide (r_106 = 2)) && (decide (r_188 = 2))) && (decide (r_294 = 2))) && (decide (r_309 = 0)))) rfl (fun hg => r_eql (cv_get (hA325.get rfl) hg) rfl) fun a332 hA332 _ => ?_)
          refine sq (opk_val hA332 rfl (r_pick_and (g := (true && (((((decide (r_106 = 2)) && (decide (r_188 = 2))) && (decide (r_294 = 2))) && (decide (r_309 = 0))) == true))) (hA332.get rfl) (hA332.get rfl) (fun he => g_mkt rfl he)) fun a333 hA333 _ => ?_)
          refine sq (opk_val hA333 rfl (r_move (hA333.get rfl)) fun a334 hA334 _ => ?_)
          refine sq (opk_gval hA334 rfl rfl (g := true) (e := (((((decide (r_106 = 2)) && (decide (r_188 = 2))) && (decide (r_294 = 2))) && (decide (r_309 = 0))) && (decide (r_324 = 300)))) rfl (fun hg => r_move (hA334.get rfl)) fun a335 hA335 _ => ?_)
          obtain ⟨V_340, hc341, ht339⟩ := ht331
          refine sq (opk_gcallM hA335 rfl rfl (g := true) (e := (((((decide (r_106 = 2)) && (decide (r_188 = 2))) && (decide (r_294 = 2))) && (decide (r_309 = 0))) && (decide (r_324 = 300)))) rfl (fun hg => r_call (args := #[.pointer r_0_4]) Try.func18 (by decide) rfl (map_arr (ml_cons (cv_get (hA335.get rfl) hg) ml_nil)) rfl) (fun hg => hc341 ⟨⟨⟨⟨(of_decide_eq_true (b_and_t (b_and_t (b_and_t (b_and_t (g_t hg)).1).1).1).1), (of_decide_eq_true (b_and_t (b_and_t (b_and_t (b_and_t (g_t hg)).1).1).1).2)⟩, (of_decide_eq_true (b_and_t (b_and_t (b_and_t (g_t hg)).1).1).2)⟩, (of_decide_eq_true (b_and_t (b_and_t (g_t hg)).1).2)⟩, (of_decide_eq_true (b_and_t (g_t hg)).2)⟩) fun a337 v344 w338 hA337 _ hE342 hR343 => ?_)
          obtain ⟨⟨r_336_Kind, r_336_Name, r_336_Text, r_336_Attrs, r_336_Kids⟩, hx345, hV346⟩ := cvty (α := Int × Str × Str × Sl × Sl) (fun s => .agg #[.int .i64 s.1, .string (Bs s.2.1), .string (Bs s.2.2.1), Sl.v s.2.2.2.1, Sl.v s.2.2.2.2]) (fun s w => V_340 s.1 s.2.1 s.2.2.1 s.2.2.2.1 s.2.2.2.2 w) (fun hg => by obtain ⟨r_336_Kind, r_336_Name, r_336_Text, r_336_Attrs, r_336_Kids, h1, h2⟩ := hR343 hg; exact ⟨(r_336_Kind, r_336_Name, r_336_Text, r_336_Attrs, r_336_Kids), h1, h2⟩)
          rw [hx345] at hA337
          have hC347 : Chg [] w326 w338 := hE342
          have ht348 := ht339 r_336_Kind r_336_Name r_336_Text r_336_Attrs r_336_Kids w338 hE342 (fun hp => hV346 (g_mkt rfl (b_and_mk ⟨(b_and_mk ⟨(b_and_mk ⟨(b_and_mk ⟨(decide_eq_true hp.1.1.1.1), (decide_eq_true hp.1.1.1.2)⟩), (decide_eq_true hp.1.1.2)⟩), (decide_eq_true hp.1.2)⟩), (decide_eq_true hp.2)⟩)))
          obtain ⟨r_349, hc353, ht352⟩ := ht348
          refine sq (opk_gcall hA337 rfl rfl (g := true) (e := (((((decide (r_106 = 2)) && (decide (r_188 = 2))) && (decide (r_294 = 2))) && (decide (r_309 = 0))) && (decide (r_324 = 300)))) rfl (fun hg => r_call (args := #[.agg #[.int .i64 r_336_Kind, .string (Bs r_336_Name), .string (Bs r_336_Text), Sl.v r_336_Attrs, Sl.v r_336_Kids]]) Try.func17 (by decide) rfl (map_arr (ml_cons (cv_get (hA337.get rfl) hg) ml_nil)) rfl) (fun hg => hc353 ⟨⟨⟨⟨(of_decide_eq_true (b_and_t (b_and_t (b_and_t (b_and_t (g_t hg)).1).1).1).1), (of_decide_eq_true (b_and_t (b_and_t (b_and_t (b_and_t (g_t hg)).1).1).1).2)⟩, (of_decide_eq_true (b_and_t (b_and_t (b_and_t (g_t hg)).1).1).2)⟩, (of_decide_eq_true (b_and_t (b_and_t (g_t hg)).1).2)⟩, (of_decide_eq_true (b_and_t (g_t hg)).2)⟩) fun a350 w351 hA350 _ hE354 => ?_)
          have hC355 : Chg [] w338 w351 := hE354
          have ht356 := ht352 w351 hE354
          refine sq (opk_gval hA350 rfl rfl (g := true) (e := (((((decide (r_106 = 2)) && (decide (r_188 = 2))) && (decide (r_294 = 2))) && (decide (r_309 = 0))) && (decide (r_324 = 300)))) rfl (fun hg => r_eql (cv_get (hA350.get rfl) hg) rfl) fun a357 hA357 _ => ?_)
          refine sq (opk_val hA357 rfl (r_pick_and (g := (true && ((((((decide (r_106 = 2)) && (decide (r_188 = 2))) && (decide (r_294 = 2))) && (decide (r_309 = 0))) && (decide (r_324 = 300))) == true))) (hA357.get rfl) (hA357.get rfl) (fun he => g_mkt rfl he)) fun a358 hA358 _ => ?_)
          refine sq (opk_val hA358 rfl (r_move (hA358.get rfl)) fun a359 hA359 _ => ?_)
          obtain ⟨r_360, hc364, ht363⟩ := ht356
          refine sq (opk_gcall hA359 rfl rfl (g := true) (e := ((((((decide (r_106 = 2)) && (decide (r_188 = 2))) && (decide (r_294 = 2))) && (decide (r_309 = 0))) && (decide (r_324 = 300))) && (decide (r_349 = 60)))) rfl (fun hg => r_call (args := #[]) Try.func19 (by decide) rfl (map_arr ml_nil) rfl) (fun hg => hc364 ⟨⟨⟨⟨⟨(of_decide_eq_true (b_and_t (b_and_t (b_and_t (b_and_t (b_and_t (g_t hg)).1).1).1).1).1), (of_decide_eq_true (b_and_t (b_and_t (b_and_t (b_and_t (b_and_t (g_t hg)).1).1).1).1).2)⟩, (of_decide_eq_true (b_and_t (b_and_t (b_and_t (b_and_t (g_t hg)).1).1).1).2)⟩, (of_decide_eq_true (b_and_t (b_and_t (b_and_t (g_t hg)).1).1).2)⟩, (of_decide_eq_true (b_and_t (b_and_t (g_t hg)).1).2)⟩, (of_decide_eq_true (b_and_t (g_t hg)).2)⟩) fun a361 w362 hA361 _ hE365 => ?_)
          have hC366 : Chg [] w351 w362 := hE365
          have ht367 := ht363 w362 hE365
          refine sq (opk_val hA361 rfl (r_pick_and (g := (true && (((((((decide (r_106 = 2)) && (decide (r_188 = 2))) && (decide (r_294 = 2))) && (decide (r_309 = 0))) && (decide (r_324 = 300))) && (decide (r_349 = 60))) == true))) (hA361.get rfl) (hA361.get rfl) (fun he => g_mkt rfl he)) fun a368 hA368 _ => ?_)
          refine sq (opk_val hA368 rfl (r_assign (hA368.get rfl)) fun a369 hA369 _ => ?_)
          refine sq_end ?_
          have hA370 := hA369.keep [(0, .bool (((((((decide (r_106 = 2)) && (decide (r_188 = 2))) && (decide (r_294 = 2))) && (decide (r_309 = 0))) && (decide (r_324 = 300))) && (decide (r_349 = 60))) && r_360))] ⟨rfl, trivial⟩
          refine then_normal ?_
          refine wp_ret ?_
          exact res_all (vs := [.bool (((((((decide (r_106 = 2)) && (decide (r_188 = 2))) && (decide (r_294 = 2))) && (decide (r_309 = 0))) && (decide (r_324 = 300))) && (decide (r_349 = 60))) && r_360)]) rfl hA370 ⟨res_of_tmp hA370 rfl, trivial⟩ ht367

end Go.Proofs.Ytghmgfkdnolcdaa
