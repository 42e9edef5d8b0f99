/-
  PRINTED BY PROGRAM: for each function its condition (vc), and that this suffices (ok).
-/
import Derived.Test.YteacalmdpoblpaaQCodecAllGT
namespace Go.Proofs.Yteacalmdpoblpaa
open Go.RowKit
set_option linter.unusedVariables false

/-- The condition of topiary/topiarylaw00.Ops. -/
def law00_Ops.vc (l_1 : Sl) (R : Value → World → Prop) (w : World) : Prop :=
RunK Try.prog (Builtin.append_ #[23, 23] 23 #[Sl.v Sl.nil, Sl.v l_1]) w [] (fun v w6 => ∃ (r_12 : Sl), v = Sl.v r_12 ∧
R (Sl.v r_12) w6)
set_option maxHeartbeats 1000000 in
set_option maxRecDepth 10000 in
theorem law00_Ops.ok (l_1 : Sl) {R : Value → World → Prop} {w : World} (ht0 : law00_Ops.vc l_1 R w) : Calls Try.prog 11 #[Sl.v l_1] w (Ret R) := by
  refine enter [Sl.v l_1] Try.func11 rfl Try.ntmps11 rfl ?_
  intro a0 hA0
  unfold law00_Ops.vc at ht0
  refine wp_seq ?_
  refine wp_region_lit ?_
  refine sq (opk_val hA0 rfl (r_assign rfl) fun a2 hA2 _ => ?_)
  refine sq_end ?_
  have hA3 := hA2.keep [(0, Sl.v l_1)] ⟨rfl, trivial⟩
  refine then_normal ?_
  refine wp_seq ?_
  refine wp_region_lit ?_
  refine sq (opk_val hA3 rfl (r_move (hA3.get rfl)) fun a4 hA4 _ => ?_)
  refine sq (opk_run hA4 rfl (fun _ _ hr => r_append rfl (hA4.get rfl) hr) ht0 fun a5 v11 w6 hA5 _ hn8 hz9 hK10 => ?_)
  obtain ⟨r_12, rfl, ht7⟩ := hK10
  refine sq (opk_val hA5 rfl (r_assign (hA5.get rfl)) fun a13 hA13 _ => ?_)
  refine sq_end ?_
  have hA14 := hA13.keep [(2, Sl.v r_12)] ⟨rfl, trivial⟩
  refine then_normal ?_
  refine wp_ret ?_
  exact res_all (vs := [Sl.v r_12]) rfl hA14 ⟨res_of_tmp hA14 rfl, trivial⟩ ht7

/-- The condition of topiary/topiarylaw00.Bytes. -/
def law00_Bytes.vc (b_1 : Sl) (R : Value → World → Prop) (w : World) : Prop :=
RunK Try.prog (Builtin.append_ #[24, 24] 24 #[Sl.v Sl.nil, Sl.v b_1]) w [] (fun v w6 => ∃ (r_12 : Sl), v = Sl.v r_12 ∧
R (Sl.v r_12) w6)
set_option maxHeartbeats 1000000 in
set_option maxRecDepth 10000 in
theorem law00_Bytes.ok (b_1 : Sl) {R : Value → World → Prop} {w : World} (ht0 : law00_Bytes.vc b_1 R w) : Calls Try.prog 14 #[Sl.v b_1] w (Ret R) := by
  refine enter [Sl.v b_1] Try.func14 rfl Try.ntmps14 rfl ?_
  intro a0 hA0
  unfold law00_Bytes.vc at ht0
  refine wp_seq ?_
  refine wp_region_lit ?_
  refine sq (opk_val hA0 rfl (r_assign rfl) fun a2 hA2 _ => ?_)
  refine sq_end ?_
  have hA3 := hA2.keep [(0, Sl.v b_1)] ⟨rfl, trivial⟩
  refine then_normal ?_
  refine wp_seq ?_
  refine wp_region_lit ?_
  refine sq (opk_val hA3 rfl (r_move (hA3.get rfl)) fun a4 hA4 _ => ?_)
  refine sq (opk_run hA4 rfl (fun _ _ hr => r_append rfl (hA4.get rfl) hr) ht0 fun a5 v11 w6 hA5 _ hn8 hz9 hK10 => ?_)
  obtain ⟨r_12, rfl, ht7⟩ := hK10
  refine sq (opk_val hA5 rfl (r_assign (hA5.get rfl)) fun a13 hA13 _ => ?_)
  refine sq_end ?_
  have hA14 := hA13.keep [(2, Sl.v r_12)] ⟨rfl, trivial⟩
  refine then_normal ?_
  refine wp_ret ?_
  exact res_all (vs := [Sl.v r_12]) rfl hA14 ⟨res_of_tmp hA14 rfl, trivial⟩ ht7

/-- The condition of topiary/topiarylaw00.SameOps. -/
def law00_SameOps.vc (a_1 : Sl) (b_2 : Sl) (R : Value → World → Prop) (w : World) : Prop :=
(((a_1.n : Int) ≠ (b_2.n : Int)) →
R (.bool false) w) ∧
((¬ ((a_1.n : Int) ≠ (b_2.n : Int))) →
∃ (J_19 : Int → World → Prop) (mu_20 : Int → World → Nat),
J_19 0 w ∧
(∀ (i_17 : Int) (w18 : World), J_19 i_17 w18 →
((i_17 < (a_1.n : Int)) →
∀ (w85 : World), Chg [] w18 w85 →
∃ p_91 : Addr, (((0 : Int) ≤ i_17 ∧ i_17 < (a_1.n : Int)) ∧ a_1.a = some p_91) ∧
∃ (x_95_Kind : Int) (x_95_ID : Int) (x_95_Parent : Int) (x_95_At : Int) (x_95_What : Int) (x_95_Name : Str) (x_95_Text : Str), (Cells w85 (p_91.add (i_17.toNat * 7)) [.int .i64 x_95_Kind, .int .i64 x_95_ID, .int .i64 x_95_Parent, .int .i64 x_95_At, .int .i64 x_95_What, .string (Bs x_95_Name), .string (Bs x_95_Text)]) ∧
∃ p_100 : Addr, (((0 : Int) ≤ i_17 ∧ i_17 < (b_2.n : Int)) ∧ b_2.a = some p_100) ∧
∃ (x_104_Kind : Int) (x_104_ID : Int) (x_104_Parent : Int) (x_104_At : Int) (x_104_What : Int) (x_104_Name : Str) (x_104_Text : Str), (Cells w85 (p_100.add (i_17.toNat * 7)) [.int .i64 x_104_Kind, .int .i64 x_104_ID, .int .i64 x_104_Parent, .int .i64 x_104_At, .int .i64 x_104_What, .string (Bs x_104_Name), .string (Bs x_104_Text)]) ∧
((¬ (x_95_Kind = x_104_Kind ∧ x_95_ID = x_104_ID ∧ x_95_Parent = x_104_Parent ∧ x_95_At = x_104_At ∧ x_95_What = x_104_What ∧ x_95_Name = x_104_Name ∧ x_95_Text = x_104_Text)) →
∀ (w110 : World), Chg [] w85 w110 →
R (.bool false) w110) ∧
((¬ (¬ (x_95_Kind = x_104_Kind ∧ x_95_ID = x_104_ID ∧ x_95_Parent = x_104_Parent ∧ x_95_At = x_104_At ∧ x_95_What = x_104_What ∧ x_95_Name = x_104_Name ∧ x_95_Text = x_104_Text))) →
(I64 (i_17 + 1)) ∧
∀ (w110 : World), Chg [] w85 w110 →
J_19 (i_17 + 1) w110 ∧ mu_20 (i_17 + 1) w110 < mu_20 i_17 w18)) ∧
((¬ (i_17 < (a_1.n : Int))) →
R (.bool true) w18)))
set_option maxHeartbeats 1000000 in
set_option maxRecDepth 10000 in
theorem law00_SameOps.ok (a_1 : Sl) (b_2 : Sl) {R : Value → World → Prop} {w : World} (ht0 : law00_SameOps.vc a_1 b_2 R w) : Calls Try.prog 16 #[Sl.v a_1, Sl.v b_2] w (Ret R) := by
  refine enter [Sl.v a_1, Sl.v b_2] Try.func16 rfl Try.ntmps16 rfl ?_
  intro a0 hA0
  unfold law00_SameOps.vc at ht0
  refine wp_seq ?_
  refine wp_region_lit ?_
  refine sq (opk_val hA0 rfl (r_assign rfl) fun a3 hA3 _ => ?_)
  refine sq_end ?_
  have hA4 := hA3.keep [(0, Sl.v a_1), (1, Sl.v b_2)] ⟨rfl, rfl, trivial⟩
  refine then_normal ?_
  refine wp_seq ?_
  refine wp_seq ?_
  refine wp_region_lit ?_
  refine sq (opk_val hA4 rfl (r_move (hA4.get rfl)) fun a5 hA5 _ => ?_)
  refine sq (opk_val hA5 rfl (r_len (hA5.get rfl) Try.underlying23) fun a6 hA6 _ => ?_)
  refine sq (opk_val hA6 rfl (r_move (hA6.get rfl)) fun a7 hA7 _ => ?_)
  refine sq (opk_val hA7 rfl (r_len (hA7.get rfl) Try.underlying23) fun a8 hA8 _ => ?_)
  refine sq (opk_val hA8 rfl (r_neq (hA8.get rfl) (hA8.get rfl)) fun a9 hA9 _ => ?_)
  refine sq_end ?_
  have hA10 := hA9.keep [(0, Sl.v a_1), (1, Sl.v b_2), (10, .bool (decide ((a_1.n : Int) ≠ (b_2.n : Int))))] ⟨rfl, rfl, rfl, trivial⟩
  refine then_normal ?_
  refine wp_cond_split (hA10.get rfl) (fun hc => ?_) (fun hc => ?_)
  · have ht11 := ht0.1 (of_decide_eq_true hc)
    clear hc
    refine wp_seq ?_
    refine wp_region_lit ?_
    refine sq (opk_val hA10 rfl (r_assign rfl) fun a13 hA13 _ => ?_)
    refine sq_end ?_
    have hA14 := hA13.keep [(4, .bool false)] ⟨rfl, trivial⟩
    refine then_normal ?_
    refine wp_ret ?_
    refine then_ret ?_
    exact res_all (vs := [.bool false]) rfl hA14 ⟨res_of_tmp hA14 rfl, trivial⟩ ht11
  · have ht12 := ht0.2 (of_decide_eq_false hc)
    clear hc
    refine wp_skip ?_
    refine then_normal ?_
    refine wp_seq ?_
    refine wp_seq ?_
    refine wp_region_lit ?_
    refine sq (opk_val hA10 rfl (r_assign rfl) fun a15 hA15 _ => ?_)
    refine sq_end ?_
    have hA16 := hA15.keep [(0, Sl.v a_1), (1, Sl.v b_2), (5, .int .i64 0)] ⟨rfl, rfl, rfl, trivial⟩
    refine then_normal ?_
    refine wp_block ?_
    obtain ⟨J_19, mu_20, h075, ht74⟩ := ht12
    refine wp_loop_st (σ := Int × World) (fun s a w => Ag 26 a [(0, Sl.v a_1), (1, Sl.v b_2), (5, .int .i64 s.1)] ∧ w = s.2 ∧ J_19 s.1 s.2) (fun s => mu_20 s.1 s.2) (0, w) ⟨hA16.keep [(0, Sl.v a_1), (1, Sl.v b_2), (5, .int .i64 0)] ⟨rfl, rfl, rfl, trivial⟩, rfl, h075⟩ ?_
    rintro ⟨i_17, w18⟩ a73 w_ ⟨hA73, hw_, hJ77⟩
    have hw_ : w18 = w_ := hw_.symm
    subst hw_
    have ht76 := ht74 i_17 _ hJ77
    refine wp_seq ?_
    refine wp_seq ?_
    refine wp_region_lit ?_
    refine sq (opk_val hA73 rfl (r_move (hA73.get rfl)) fun a78 hA78 _ => ?_)
    refine sq (opk_val hA78 rfl (r_move (hA78.get rfl)) fun a79 hA79 _ => ?_)
    refine sq (opk_val hA79 rfl (r_len (hA79.get rfl) Try.underlying23) fun a80 hA80 _ => ?_)
    refine sq (opk_val hA80 rfl (r_lss (hA80.get rfl) (hA80.get rfl)) fun a81 hA81 _ => ?_)
    refine sq_end ?_
    have hA82 := hA81.keep [(0, Sl.v a_1), (1, Sl.v b_2), (5, .int .i64 i_17), (14, .bool (decide (i_17 < (a_1.n : Int))))] ⟨rfl, rfl, rfl, rfl, trivial⟩
    refine then_normal ?_
    refine wp_cond_split (hA82.get rfl) (fun hc => ?_) (fun hc => ?_)
    · have ht83 := ht76.1 (of_decide_eq_true hc)
      clear hc
      refine wp_skip ?_
      refine then_normal ?_
      refine wp_seq ?_
      refine wp_block ?_
      refine wp_seq ?_
      refine draw' (by kernel_rfl) fun w85 hE86 => ?_
      have hC87 : Chg [] w18 w85 := hE86
      have ht88 := ht83 w85    hC87
      obtain ⟨p_91, hp92, ht93⟩ := ht88
      obtain ⟨x_95_Kind, x_95_ID, x_95_Parent, x_95_At, x_95_What, x_95_Name, x_95_Text, hx96, ht97⟩ := ht93
      obtain ⟨p_100, hp101, ht102⟩ := ht97
      obtain ⟨x_104_Kind, x_104_ID, x_104_Parent, x_104_At, x_104_What, x_104_Name, x_104_Text, hx105, ht106⟩ := ht102
      refine par (D := [[], [], [0, 1], [0, 1, 2], [], [], [4, 5], [4, 5, 6], [0, 1, 2, 3, 4, 5, 6, 7]]) (S := [0, 1, 2, 3, 4, 5, 6, 7, 8]) (F := []) (V := VL [(0, fun v _ => v = Sl.v a_1), (1, fun v _ => v = .int .i64 i_17), (2, fun v _ => v = .pointer (some (p_91.add (i_17.toNat * 7)))), (3, fun v _ => v = .agg #[.int .i64 x_95_Kind, .int .i64 x_95_ID, .int .i64 x_95_Parent, .int .i64 x_95_At, .int .i64 x_95_What, .string (Bs x_95_Name), .string (Bs x_95_Text)]), (4, fun v _ => v = Sl.v b_2), (5, fun v _ => v = .int .i64 i_17), (6, fun v _ => v = .pointer (some (p_100.add (i_17.toNat * 7)))), (7, fun v _ => v = .agg #[.int .i64 x_104_Kind, .int .i64 x_104_ID, .int .i64 x_104_Parent, .int .i64 x_104_At, .int .i64 x_104_What, .string (Bs x_104_Name), .string (Bs x_104_Text)]), (8, fun v _ => v = .bool (decide (¬ (x_95_Kind = x_104_Kind ∧ x_95_ID = x_104_ID ∧ x_95_Parent = x_104_Parent ∧ x_95_At = x_104_At ∧ x_95_What = x_104_What ∧ x_95_Name = x_104_Name ∧ x_95_Text = x_104_Text))))]) hA82 (by kernel_rfl) ⟨fun _ _ _ _ h => by first | exact h | (change _ = _ at h; change _ = _; exact h), fun _ _ _ _ h => by first | exact h | (change _ = _ at h; change _ = _; exact h), fun _ _ _ _ h => by first | exact h | (change _ = _ at h; change _ = _; exact h), fun _ _ _ _ h => by first | exact h | (change _ = _ at h; change _ = _; exact h), fun _ _ _ _ h => by first | exact h | (change _ = _ at h; change _ = _; exact h), fun _ _ _ _ h => by first | exact h | (change _ = _ at h; change _ = _; exact h), fun _ _ _ _ h => by first | exact h | (change _ = _ at h; change _ = _; exact h), fun _ _ _ _ h => by first | exact h | (change _ = _ at h; change _ = _; exact h), fun _ _ _ _ h => by first | exact h | (change _ = _ at h; change _ = _; exact h), trivial⟩ ⟨?_, ?_, ?_, ?_, ?_, ?_, ?_, ?_, ?_, trivial⟩ ?_
      · intro a w hT
        have hAp := hT.ag hA82 [(0, Sl.v a_1)] ⟨rfl, trivial⟩ (by kernel_rfl)
        exact opk_val hAp rfl (r_move (hAp.get rfl)) fun _ _ e => ⟨_, e, Chg.refl _ _, fun _ => Eq.refl _⟩
      · intro a w hT
        have hAp := hT.ag hA82 [(5, .int .i64 i_17)] ⟨rfl, trivial⟩ (by kernel_rfl)
        exact opk_val hAp rfl (r_move (hAp.get rfl)) fun _ _ e => ⟨_, e, Chg.refl _ _, fun _ => Eq.refl _⟩
      · intro a w hT
        have hAp := hT.ag hA82 [] trivial (by kernel_rfl)
        have e89 : a.tmps.getD 17 undef = Sl.v a_1 := hT.vals 0 rfl 17 rfl
        have hAp := hAp.add e89
        have e90 : a.tmps.getD 18 undef = .int .i64 i_17 := hT.vals 1 rfl 18 rfl
        have hAp := hAp.add e90
        exact opk_val hAp rfl (r_indexAddr (hAp.get rfl) (hAp.get rfl) Try.underlying23 ti_42 hp92.1 hp92.2) fun _ _ e => ⟨_, e, Chg.refl _ _, fun _ => Eq.refl _⟩
      · intro a w hT
        have hAp := hT.ag hA82 [] trivial (by kernel_rfl)
        have e94 : a.tmps.getD 19 undef = .pointer (some (p_91.add (i_17.toNat * 7))) := hT.vals 2 rfl 19 rfl
        have hAp := hAp.add e94
        exact opk_val hAp rfl (r_loadN Try.underlying42 rfl ti_42 (hAp.get rfl) (hx96.ext hT.chg)) fun _ _ e => ⟨_, e, Chg.refl _ _, fun _ => Eq.refl _⟩
      · intro a w hT
        have hAp := hT.ag hA82 [(1, Sl.v b_2)] ⟨rfl, trivial⟩ (by kernel_rfl)
        exact opk_val hAp rfl (r_move (hAp.get rfl)) fun _ _ e => ⟨_, e, Chg.refl _ _, fun _ => Eq.refl _⟩
      · intro a w hT
        have hAp := hT.ag hA82 [(5, .int .i64 i_17)] ⟨rfl, trivial⟩ (by kernel_rfl)
        exact opk_val hAp rfl (r_move (hAp.get rfl)) fun _ _ e => ⟨_, e, Chg.refl _ _, fun _ => Eq.refl _⟩
      · intro a w hT
        have hAp := hT.ag hA82 [] trivial (by kernel_rfl)
        have e98 : a.tmps.getD 21 undef = Sl.v b_2 := hT.vals 4 rfl 21 rfl
        have hAp := hAp.add e98
        have e99 : a.tmps.getD 22 undef = .int .i64 i_17 := hT.vals 5 rfl 22 rfl
        have hAp := hAp.add e99
        exact opk_val hAp rfl (r_indexAddr (hAp.get rfl) (hAp.get rfl) Try.underlying23 ti_42 hp101.1 hp101.2) fun _ _ e => ⟨_, e, Chg.refl _ _, fun _ => Eq.refl _⟩
      · intro a w hT
        have hAp := hT.ag hA82 [] trivial (by kernel_rfl)
        have e103 : a.tmps.getD 23 undef = .pointer (some (p_100.add (i_17.toNat * 7))) := hT.vals 6 rfl 23 rfl
        have hAp := hAp.add e103
        exact opk_val hAp rfl (r_loadN Try.underlying42 rfl ti_42 (hAp.get rfl) (hx105.ext hT.chg)) fun _ _ e => ⟨_, e, Chg.refl _ _, fun _ => Eq.refl _⟩
      · intro a w hT
        have hAp := hT.ag hA82 [] trivial (by kernel_rfl)
        have e107 : a.tmps.getD 20 undef = .agg #[.int .i64 x_95_Kind, .int .i64 x_95_ID, .int .i64 x_95_Parent, .int .i64 x_95_At, .int .i64 x_95_What, .string (Bs x_95_Name), .string (Bs x_95_Text)] := hT.vals 3 rfl 20 rfl
        have hAp := hAp.add e107
        have e108 : a.tmps.getD 24 undef = .agg #[.int .i64 x_104_Kind, .int .i64 x_104_ID, .int .i64 x_104_Parent, .int .i64 x_104_At, .int .i64 x_104_What, .string (Bs x_104_Name), .string (Bs x_104_Text)] := hT.vals 7 rfl 24 rfl
        have hAp := hAp.add e108
        exact opk_val hAp rfl (r_aneqd (hAp.get rfl) (hAp.get rfl) (eq_42 _ _ _ _ _ _ _ _ _ _ _ _ _ _)) fun _ _ e => ⟨_, e, Chg.refl _ _, fun _ => Eq.refl _⟩
      · intro a109 w110 hE111 hag112 hv113
        have hA109 := hag112 [(0, Sl.v a_1), (1, Sl.v b_2), (5, .int .i64 i_17)] ⟨rfl, rfl, rfl, trivial⟩ (by kernel_rfl)
        have e115 : a109.tmps.getD 25 undef = .bool (decide (¬ (x_95_Kind = x_104_Kind ∧ x_95_ID = x_104_ID ∧ x_95_Parent = x_104_Parent ∧ x_95_At = x_104_At ∧ x_95_What = x_104_What ∧ x_95_Name = x_104_Name ∧ x_95_Text = x_104_Text))) := hv113 8 rfl 25 rfl
        have hA116 := hA109.add e115
        have hC117 : Chg [] w85 w110 := hE111
        refine PR_end (by kernel_rfl) ?_
        have hA118 := hA116.keep [(0, Sl.v a_1), (1, Sl.v b_2), (5, .int .i64 i_17), (25, .bool (decide (¬ (x_95_Kind = x_104_Kind ∧ x_95_ID = x_104_ID ∧ x_95_Parent = x_104_Parent ∧ x_95_At = x_104_At ∧ x_95_What = x_104_What ∧ x_95_Name = x_104_Name ∧ x_95_Text = x_104_Text))))] ⟨rfl, rfl, rfl, rfl, trivial⟩
        refine then_normal ?_
        refine wp_cond_split (hA118.get rfl) (fun hc => ?_) (fun hc => ?_)
        · have ht119 := ht106.1 (of_decide_eq_true hc)
          clear hc
          refine wp_seq ?_
          refine wp_region_lit ?_
          refine sq (opk_val hA118 rfl (r_assign rfl) fun a121 hA121 _ => ?_)
          refine sq_end ?_
          have hA122 := hA121.keep [(4, .bool false)] ⟨rfl, trivial⟩
          refine then_normal ?_
          refine wp_ret ?_
          refine block_ret ?_
          refine then_ret ?_
          refine then_ret ?_
          refine block_ret ?_
          refine then_ret ?_
          have ht123 := ht119 w110    hC117
          exact res_all (vs := [.bool false]) rfl hA122 ⟨res_of_tmp hA122 rfl, trivial⟩ ht123
        · have ht120 := ht106.2 (of_decide_eq_false hc)
          clear hc
          refine wp_skip ?_
          refine block_normal ?_
          refine then_normal ?_
          refine wp_region_lit ?_
          refine sq (opk_val hA118 rfl (r_move (hA118.get rfl)) fun a124 hA124 _ => ?_)
          obtain ⟨hS126, ht127⟩ := ht120
          refine sq (opk_val hA124 rfl (r_addI (hA124.get rfl) rfl hS126) fun a125 hA125 _ => ?_)
          refine sq (opk_val hA125 rfl (r_assign (hA125.get rfl)) fun a128 hA128 _ => ?_)
          refine sq_end ?_
          have hA129 := hA128.keep [(0, Sl.v a_1), (1, Sl.v b_2), (5, .int .i64 (i_17 + 1))] ⟨rfl, rfl, rfl, trivial⟩
          have ht130 := ht127 w110    hC117
          have hA131 := hA129.keep [(0, Sl.v a_1), (1, Sl.v b_2), (5, .int .i64 (i_17 + 1))] ⟨rfl, rfl, rfl, trivial⟩
          exact then_normal ⟨(i_17 + 1, w110), ⟨hA131, rfl, ht130.1⟩, ht130.2⟩
    · have ht84 := ht76.2 (of_decide_eq_false hc)
      clear hc
      refine wp_exit ?_
      refine then_exit ?_
      refine then_exit ?_
      refine block_hit ?_
      have hA132 := hA82.keep [] trivial
      refine then_normal ?_
      refine wp_seq ?_
      refine wp_region_lit ?_
      refine sq (opk_val hA132 rfl (r_assign rfl) fun a133 hA133 _ => ?_)
      refine sq_end ?_
      have hA134 := hA133.keep [(4, .bool true)] ⟨rfl, trivial⟩
      refine then_normal ?_
      refine wp_ret ?_
      exact res_all (vs := [.bool true]) rfl hA134 ⟨res_of_tmp hA134 rfl, trivial⟩ ht84

end Go.Proofs.Yteacalmdpoblpaa
