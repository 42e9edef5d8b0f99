/-
  PRINTED BY PROGRAM: for each function its condition (vc), and that this suffices (ok).
-/
import Derived.Test.YteohbfaechfliaaGT
namespace Go.Proofs.Yteohbfaechfliaa
open Go.RowKit
set_option linter.unusedVariables false

/-- The condition of slices.Equal[[]intint]. -/
def slices_Equal__int_int_.vc (s1_1 : Sl) (s2_2 : Sl) (R : Value → World → Prop) (w : World) : Prop :=
(((s1_1.n : Int) ≠ (s2_2.n : Int)) →
R (.bool false) w) ∧
((¬ ((s1_1.n : Int) ≠ (s2_2.n : Int))) →
∃ (J_21 : Int → World → Prop) (mu_22 : Int → World → Nat),
J_21 0 w ∧
(∀ (x_19 : Int) (w20 : World), J_21 x_19 w20 →
((x_19 < (s1_1.n : Int)) →
∀ (w86 : World), Chg [] w20 w86 →
∃ p_92 : Addr, (((0 : Int) ≤ x_19 ∧ x_19 < (s1_1.n : Int)) ∧ s1_1.a = some p_92) ∧
∃ (x_96 : Int), (w86.cell? (p_92.add (x_19.toNat * 1)) = some (.int .i64 x_96)) ∧
∃ p_101 : Addr, (((0 : Int) ≤ x_19 ∧ x_19 < (s2_2.n : Int)) ∧ s2_2.a = some p_101) ∧
∃ (x_105 : Int), (w86.cell? (p_101.add (x_19.toNat * 1)) = some (.int .i64 x_105)) ∧
((x_96 ≠ x_105) →
∀ (w111 : World), Chg [] w86 w111 →
R (.bool false) w111) ∧
((¬ (x_96 ≠ x_105)) →
(I64 (x_19 + 1)) ∧
∀ (w111 : World), Chg [] w86 w111 →
J_21 (x_19 + 1) w111 ∧ mu_22 (x_19 + 1) w111 < mu_22 x_19 w20)) ∧
((¬ (x_19 < (s1_1.n : Int))) →
R (.bool true) w20)))
set_option maxHeartbeats 1000000 in
set_option maxRecDepth 10000 in
theorem slices_Equal__int_int_.ok (s1_1 : Sl) (s2_2 : Sl) {R : Value → World → Prop} {w : World} (ht0 : slices_Equal__int_int_.vc s1_1 s2_2 R w) : Calls Try.prog 40 #[Sl.v s1_1, Sl.v s2_2] w (Ret R) := by
  refine enter [Sl.v s1_1, Sl.v s2_2] Try.func40 rfl Try.ntmps40 rfl ?_
  intro a0 hA0
  unfold slices_Equal__int_int_.vc at ht0
  refine wp_seq ?_
  refine wp_region_lit ?_
  refine sq (opk_val hA0 rfl (r_assign rfl) fun a3 hA3 _ => ?_)
  refine sq_end ?_
  have hA4 := hA3.keep [(0, Sl.v s1_1), (1, Sl.v s2_2)] ⟨rfl, rfl, trivial⟩
  refine then_normal ?_
  refine wp_seq ?_
  refine wp_seq ?_
  refine wp_region_lit ?_
  refine sq (opk_val hA4 rfl (r_move (hA4.get rfl)) fun a5 hA5 _ => ?_)
  refine sq (opk_val hA5 rfl (r_len (hA5.get rfl) Try.underlying22) fun a6 hA6 _ => ?_)
  refine sq (opk_val hA6 rfl (r_move (hA6.get rfl)) fun a7 hA7 _ => ?_)
  refine sq (opk_val hA7 rfl (r_len (hA7.get rfl) Try.underlying22) fun a8 hA8 _ => ?_)
  refine sq (opk_val hA8 rfl (r_neq (hA8.get rfl) (hA8.get rfl)) fun a9 hA9 _ => ?_)
  refine sq_end ?_
  have hA10 := hA9.keep [(0, Sl.v s1_1), (1, Sl.v s2_2), (10, .bool (decide ((s1_1.n : Int) ≠ (s2_2.n : Int))))] ⟨rfl, rfl, rfl, trivial⟩
  refine then_normal ?_
  refine wp_cond_split (hA10.get rfl) (fun hc => ?_) (fun hc => ?_)
  · have ht11 := ht0.1 (of_decide_eq_true hc)
    clear hc
    refine wp_seq ?_
    refine wp_region_lit ?_
    refine sq (opk_val hA10 rfl (r_assign rfl) fun a13 hA13 _ => ?_)
    refine sq_end ?_
    have hA14 := hA13.keep [(4, .bool false)] ⟨rfl, trivial⟩
    refine then_normal ?_
    refine wp_ret ?_
    refine then_ret ?_
    exact res_all (vs := [.bool false]) rfl hA14 ⟨res_of_tmp hA14 rfl, trivial⟩ ht11
  · have ht12 := ht0.2 (of_decide_eq_false hc)
    clear hc
    refine wp_skip ?_
    refine then_normal ?_
    refine wp_seq ?_
    refine wp_seq ?_
    refine wp_region_lit ?_
    refine sq (opk_val hA10 rfl (r_move (hA10.get rfl)) fun a15 hA15 _ => ?_)
    refine sq (opk_val hA15 rfl (r_len (hA15.get rfl) Try.underlying22) fun a16 hA16 _ => ?_)
    refine sq (opk_val hA16 rfl (r_move rfl) fun a17 hA17 _ => ?_)
    refine sq_end ?_
    have hA18 := hA17.keep [(0, Sl.v s1_1), (1, Sl.v s2_2), (12, .int .i64 (s1_1.n : Int)), (13, .int .i64 0)] ⟨rfl, rfl, rfl, rfl, trivial⟩
    refine then_normal ?_
    refine wp_block ?_
    obtain ⟨J_21, mu_22, h076, ht75⟩ := ht12
    refine wp_loop_st (σ := Int × World) (fun s a w => Ag 26 a [(0, Sl.v s1_1), (1, Sl.v s2_2), (12, .int .i64 (s1_1.n : Int)), (13, .int .i64 s.1)] ∧ w = s.2 ∧ J_21 s.1 s.2) (fun s => mu_22 s.1 s.2) (0, w) ⟨hA18.keep [(0, Sl.v s1_1), (1, Sl.v s2_2), (12, .int .i64 (s1_1.n : Int)), (13, .int .i64 0)] ⟨rfl, rfl, rfl, rfl, trivial⟩, rfl, h076⟩ ?_
    rintro ⟨x_19, w20⟩ a74 w_ ⟨hA74, hw_, hJ78⟩
    have hw_ : w20 = w_ := hw_.symm
    subst hw_
    have ht77 := ht75 x_19 _ hJ78
    refine wp_seq ?_
    refine wp_region_lit ?_
    refine sq (opk_val hA74 rfl (r_lss (hA74.get rfl) (hA74.get rfl)) fun a79 hA79 _ => ?_)
    refine sq_end ?_
    have hA80 := hA79.keep [(0, Sl.v s1_1), (1, Sl.v s2_2), (12, .int .i64 (s1_1.n : Int)), (13, .int .i64 x_19), (14, .bool (decide (x_19 < (s1_1.n : Int))))] ⟨rfl, rfl, rfl, rfl, rfl, trivial⟩
    refine then_normal ?_
    refine wp_seq ?_
    refine wp_cond_split (hA80.get rfl) (fun hc => ?_) (fun hc => ?_)
    · have ht81 := ht77.1 (of_decide_eq_true hc)
      clear hc
      refine wp_skip ?_
      refine then_normal ?_
      refine wp_seq ?_
      refine wp_block ?_
      refine wp_seq ?_
      refine wp_region_lit ?_
      refine sq (opk_val hA80 rfl (r_move (hA80.get rfl)) fun a83 hA83 _ => ?_)
      refine sq (opk_val hA83 rfl (r_assign (hA83.get rfl)) fun a84 hA84 _ => ?_)
      refine sq_end ?_
      have hA85 := hA84.keep [(0, Sl.v s1_1), (1, Sl.v s2_2), (5, .int .i64 x_19), (12, .int .i64 (s1_1.n : Int)), (13, .int .i64 x_19)] ⟨rfl, rfl, rfl, rfl, rfl, trivial⟩
      refine then_normal ?_
      refine wp_seq ?_
      refine draw' (by kernel_rfl) fun w86 hE87 => ?_
      have hC88 : Chg [] w20 w86 := hE87
      have ht89 := ht81 w86    hC88
      obtain ⟨p_92, hp93, ht94⟩ := ht89
      obtain ⟨x_96, hx97, ht98⟩ := ht94
      obtain ⟨p_101, hp102, ht103⟩ := ht98
      obtain ⟨x_105, hx106, ht107⟩ := ht103
      refine par (D := [[], [], [0, 1], [0, 1, 2], [], [], [4, 5], [4, 5, 6], [0, 1, 2, 3, 4, 5, 6, 7]]) (S := [0, 1, 2, 3, 4, 5, 6, 7, 8]) (F := []) (V := VL [(0, fun v _ => v = Sl.v s1_1), (1, fun v _ => v = .int .i64 x_19), (2, fun v _ => v = .pointer (some (p_92.add (x_19.toNat * 1)))), (3, fun v _ => v = .int .i64 x_96), (4, fun v _ => v = Sl.v s2_2), (5, fun v _ => v = .int .i64 x_19), (6, fun v _ => v = .pointer (some (p_101.add (x_19.toNat * 1)))), (7, fun v _ => v = .int .i64 x_105), (8, fun v _ => v = .bool (decide (x_96 ≠ x_105)))]) hA85 (by kernel_rfl) ⟨fun _ _ _ _ h => by first | exact h | (change _ = _ at h; change _ = _; exact h), fun _ _ _ _ h => by first | exact h | (change _ = _ at h; change _ = _; exact h), fun _ _ _ _ h => by first | exact h | (change _ = _ at h; change _ = _; exact h), fun _ _ _ _ h => by first | exact h | (change _ = _ at h; change _ = _; exact h), fun _ _ _ _ h => by first | exact h | (change _ = _ at h; change _ = _; exact h), fun _ _ _ _ h => by first | exact h | (change _ = _ at h; change _ = _; exact h), fun _ _ _ _ h => by first | exact h | (change _ = _ at h; change _ = _; exact h), fun _ _ _ _ h => by first | exact h | (change _ = _ at h; change _ = _; exact h), fun _ _ _ _ h => by first | exact h | (change _ = _ at h; change _ = _; exact h), trivial⟩ ⟨?_, ?_, ?_, ?_, ?_, ?_, ?_, ?_, ?_, trivial⟩ ?_
      · intro a w hT
        have hAp := hT.ag hA85 [(0, Sl.v s1_1)] ⟨rfl, trivial⟩ (by kernel_rfl)
        exact opk_val hAp rfl (r_move (hAp.get rfl)) fun _ _ e => ⟨_, e, Chg.refl _ _, fun _ => Eq.refl _⟩
      · intro a w hT
        have hAp := hT.ag hA85 [(5, .int .i64 x_19)] ⟨rfl, trivial⟩ (by kernel_rfl)
        exact opk_val hAp rfl (r_move (hAp.get rfl)) fun _ _ e => ⟨_, e, Chg.refl _ _, fun _ => Eq.refl _⟩
      · intro a w hT
        have hAp := hT.ag hA85 [] trivial (by kernel_rfl)
        have e90 : a.tmps.getD 16 undef = Sl.v s1_1 := hT.vals 0 rfl 16 rfl
        have hAp := hAp.add e90
        have e91 : a.tmps.getD 17 undef = .int .i64 x_19 := hT.vals 1 rfl 17 rfl
        have hAp := hAp.add e91
        exact opk_val hAp rfl (r_indexAddr (hAp.get rfl) (hAp.get rfl) Try.underlying22 ti_3 hp93.1 hp93.2) fun _ _ e => ⟨_, e, Chg.refl _ _, fun _ => Eq.refl _⟩
      · intro a w hT
        have hAp := hT.ag hA85 [] trivial (by kernel_rfl)
        have e95 : a.tmps.getD 18 undef = .pointer (some (p_92.add (x_19.toNat * 1))) := hT.vals 2 rfl 18 rfl
        have hAp := hAp.add e95
        exact opk_val hAp rfl (r_load1 Try.underlying3 rfl (hAp.get rfl) (Ext.cell hT.chg hx97)) fun _ _ e => ⟨_, e, Chg.refl _ _, fun _ => Eq.refl _⟩
      · intro a w hT
        have hAp := hT.ag hA85 [(1, Sl.v s2_2)] ⟨rfl, trivial⟩ (by kernel_rfl)
        exact opk_val hAp rfl (r_move (hAp.get rfl)) fun _ _ e => ⟨_, e, Chg.refl _ _, fun _ => Eq.refl _⟩
      · intro a w hT
        have hAp := hT.ag hA85 [(5, .int .i64 x_19)] ⟨rfl, trivial⟩ (by kernel_rfl)
        exact opk_val hAp rfl (r_move (hAp.get rfl)) fun _ _ e => ⟨_, e, Chg.refl _ _, fun _ => Eq.refl _⟩
      · intro a w hT
        have hAp := hT.ag hA85 [] trivial (by kernel_rfl)
        have e99 : a.tmps.getD 20 undef = Sl.v s2_2 := hT.vals 4 rfl 20 rfl
        have hAp := hAp.add e99
        have e100 : a.tmps.getD 21 undef = .int .i64 x_19 := hT.vals 5 rfl 21 rfl
        have hAp := hAp.add e100
        exact opk_val hAp rfl (r_indexAddr (hAp.get rfl) (hAp.get rfl) Try.underlying22 ti_3 hp102.1 hp102.2) fun _ _ e => ⟨_, e, Chg.refl _ _, fun _ => Eq.refl _⟩
      · intro a w hT
        have hAp := hT.ag hA85 [] trivial (by kernel_rfl)
        have e104 : a.tmps.getD 22 undef = .pointer (some (p_101.add (x_19.toNat * 1))) := hT.vals 6 rfl 22 rfl
        have hAp := hAp.add e104
        exact opk_val hAp rfl (r_load1 Try.underlying3 rfl (hAp.get rfl) (Ext.cell hT.chg hx106)) fun _ _ e => ⟨_, e, Chg.refl _ _, fun _ => Eq.refl _⟩
      · intro a w hT
        have hAp := hT.ag hA85 [] trivial (by kernel_rfl)
        have e108 : a.tmps.getD 19 undef = .int .i64 x_96 := hT.vals 3 rfl 19 rfl
        have hAp := hAp.add e108
        have e109 : a.tmps.getD 23 undef = .int .i64 x_105 := hT.vals 7 rfl 23 rfl
        have hAp := hAp.add e109
        exact opk_val hAp rfl (r_neq (hAp.get rfl) (hAp.get rfl)) fun _ _ e => ⟨_, e, Chg.refl _ _, fun _ => Eq.refl _⟩
      · intro a110 w111 hE112 hag113 hv114
        have hA110 := hag113 [(0, Sl.v s1_1), (1, Sl.v s2_2), (12, .int .i64 (s1_1.n : Int)), (13, .int .i64 x_19)] ⟨rfl, rfl, rfl, rfl, trivial⟩ (by kernel_rfl)
        have e116 : a110.tmps.getD 24 undef = .bool (decide (x_96 ≠ x_105)) := hv114 8 rfl 24 rfl
        have hA117 := hA110.add e116
        have hC118 : Chg [] w86 w111 := hE112
        refine PR_end (by kernel_rfl) ?_
        have hA119 := hA117.keep [(0, Sl.v s1_1), (1, Sl.v s2_2), (12, .int .i64 (s1_1.n : Int)), (13, .int .i64 x_19), (24, .bool (decide (x_96 ≠ x_105)))] ⟨rfl, rfl, rfl, rfl, rfl, trivial⟩
        refine then_normal ?_
        refine wp_cond_split (hA119.get rfl) (fun hc => ?_) (fun hc => ?_)
        · have ht120 := ht107.1 (of_decide_eq_true hc)
          clear hc
          refine wp_seq ?_
          refine wp_region_lit ?_
          refine sq (opk_val hA119 rfl (r_assign rfl) fun a122 hA122 _ => ?_)
          refine sq_end ?_
          have hA123 := hA122.keep [(4, .bool false)] ⟨rfl, trivial⟩
          refine then_normal ?_
          refine wp_ret ?_
          refine block_ret ?_
          refine then_ret ?_
          refine then_ret ?_
          refine block_ret ?_
          refine then_ret ?_
          have ht124 := ht120 w111    hC118
          exact res_all (vs := [.bool false]) rfl hA123 ⟨res_of_tmp hA123 rfl, trivial⟩ ht124
        · have ht121 := ht107.2 (of_decide_eq_false hc)
          clear hc
          refine wp_skip ?_
          refine block_normal ?_
          refine then_normal ?_
          refine wp_region_lit ?_
          obtain ⟨hS126, ht127⟩ := ht121
          refine sq (opk_val hA119 rfl (r_addI (hA119.get rfl) rfl hS126) fun a125 hA125 _ => ?_)
          refine sq (opk_val hA125 rfl (r_move (hA125.get rfl)) fun a128 hA128 _ => ?_)
          refine sq_end ?_
          have hA129 := hA128.keep [(0, Sl.v s1_1), (1, Sl.v s2_2), (12, .int .i64 (s1_1.n : Int)), (13, .int .i64 (x_19 + 1))] ⟨rfl, rfl, rfl, rfl, trivial⟩
          have ht130 := ht127 w111    hC118
          have hA131 := hA129.keep [(0, Sl.v s1_1), (1, Sl.v s2_2), (12, .int .i64 (s1_1.n : Int)), (13, .int .i64 (x_19 + 1))] ⟨rfl, rfl, rfl, rfl, trivial⟩
          exact then_normal ⟨(x_19 + 1, w111), ⟨hA131, rfl, ht130.1⟩, ht130.2⟩
    · have ht82 := ht77.2 (of_decide_eq_false hc)
      clear hc
      refine wp_exit ?_
      refine then_exit ?_
      refine then_exit ?_
      refine block_hit ?_
      have hA132 := hA80.keep [] trivial
      refine then_normal ?_
      refine wp_seq ?_
      refine wp_region_lit ?_
      refine sq (opk_val hA132 rfl (r_assign rfl) fun a133 hA133 _ => ?_)
      refine sq_end ?_
      have hA134 := hA133.keep [(4, .bool true)] ⟨rfl, trivial⟩
      refine then_normal ?_
      refine wp_ret ?_
      exact res_all (vs := [.bool true]) rfl hA134 ⟨res_of_tmp hA134 rfl, trivial⟩ ht82

/-- The condition of slices.Clone[[]topiary/api.Attrtopiary/api.Attr]. -/
def slices_Clone__api_Attr_api_Attr_.vc (s_1 : Sl) (R : Value → World → Prop) (w : World) : Prop :=
((s_1.a.isNone = true) →
R (Sl.v Sl.nil) w) ∧
((s_1.a.isNone = false) →
∀ (w12 : World) (B_11 : Nat), New w B_11 w12 → Chg [] w w12 →
∀ (_ : Box w12 B_11 47 []),
RunK Try.prog (Builtin.append_ #[23, 23] 23 #[Sl.v (Sl.mk (some ⟨B_11, 0, none⟩) 0 0), Sl.v s_1]) w12 [] (fun v w23 => ∃ (r_29 : Sl), v = Sl.v r_29 ∧
R (Sl.v r_29) w23))
set_option maxHeartbeats 1000000 in
set_option maxRecDepth 10000 in
theorem slices_Clone__api_Attr_api_Attr_.ok (s_1 : Sl) {R : Value → World → Prop} {w : World} (ht0 : slices_Clone__api_Attr_api_Attr_.vc s_1 R w) : Calls Try.prog 64 #[Sl.v s_1] w (Ret R) := by
  refine enter [Sl.v s_1] Try.func64 rfl Try.ntmps64 rfl ?_
  intro a0 hA0
  unfold slices_Clone__api_Attr_api_Attr_.vc at ht0
  refine wp_seq ?_
  refine wp_region_lit ?_
  refine sq (opk_val hA0 rfl (r_assign rfl) fun a2 hA2 _ => ?_)
  refine sq_end ?_
  have hA3 := hA2.keep [(0, Sl.v s_1)] ⟨rfl, trivial⟩
  refine then_normal ?_
  refine wp_seq ?_
  refine wp_seq ?_
  refine wp_region_lit ?_
  refine sq (opk_val hA3 rfl (r_move (hA3.get rfl)) fun a4 hA4 _ => ?_)
  refine sq (opk_val hA4 rfl (r_slnil (hA4.get rfl) rfl Try.underlying23) fun a5 hA5 _ => ?_)
  refine sq_end ?_
  have hA6 := hA5.keep [(0, Sl.v s_1), (4, .bool s_1.a.isNone)] ⟨rfl, rfl, trivial⟩
  refine then_normal ?_
  refine wp_cond_split (hA6.get rfl) (fun hc => ?_) (fun hc => ?_)
  · have ht7 := ht0.1 hc
    clear hc
    refine wp_seq ?_
    refine wp_region_lit ?_
    refine sq (opk_val hA6 rfl (r_assign rfl) fun a9 hA9 _ => ?_)
    refine sq_end ?_
    have hA10 := hA9.keep [(2, Sl.v Sl.nil)] ⟨rfl, trivial⟩
    refine then_normal ?_
    refine wp_ret ?_
    refine then_ret ?_
    exact res_all (vs := [Sl.v Sl.nil]) rfl hA10 ⟨res_of_tmp hA10 rfl, trivial⟩ ht7
  · have ht8 := ht0.2 hc
    clear hc
    refine wp_skip ?_
    refine then_normal ?_
    refine wp_seq ?_
    refine wp_region_lit ?_
    refine sq (opk_new (fun B => .slice (some ⟨B, 0, none⟩) 0 0) hA6 rfl (r_buildSlice0 Try.underlying23 ti_47) fun a13 w12 B_11 hE14 hN15 hB16 hA13 _ => ?_)
    have hN17 : New w B_11 w12 := hN15
    have hC18 : Chg [] w w12 := hE14
    refine sq (opk_val hA13 rfl (r_move (hA13.get rfl)) fun a19 hA19 _ => ?_)
    have ht20 := ht8 w12 B_11 hN17  hC18
    have ht21 := ht20 hB16
    refine sq (opk_run hA19 rfl (fun _ _ hr => r_append (hA19.get rfl) (hA19.get rfl) hr) ht21 fun a22 v28 w23 hA22 _ hn25 hz26 hK27 => ?_)
    obtain ⟨r_29, rfl, ht24⟩ := hK27
    refine sq (opk_val hA22 rfl (r_assign (hA22.get rfl)) fun a30 hA30 _ => ?_)
    refine sq_end ?_
    have hA31 := hA30.keep [(2, Sl.v r_29)] ⟨rfl, trivial⟩
    refine then_normal ?_
    refine wp_ret ?_
    exact res_all (vs := [Sl.v r_29]) rfl hA31 ⟨res_of_tmp hA31 rfl, trivial⟩ ht24

end Go.Proofs.Yteohbfaechfliaa
