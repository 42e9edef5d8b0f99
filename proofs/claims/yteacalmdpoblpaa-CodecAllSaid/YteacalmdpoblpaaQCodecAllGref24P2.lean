/-
  PRINTED BY PROGRAM: for each function its condition (vc), and that this suffices (ok).
-/
import Derived.Test.YteacalmdpoblpaaQCodecAllGT
namespace Go.Proofs.Yteacalmdpoblpaa
open Go.RowKit
set_option linter.unusedVariables false

/-- The condition of topiary/topiaryref24.op. -/
def ref24_op.vc (b_1 : Sl) (o_2_Kind : Int) (o_2_ID : Int) (o_2_Parent : Int) (o_2_At : Int) (o_2_What : Int) (o_2_Name : Str) (o_2_Text : Str) (strings_3 : Sl) (R : Value → World → Prop) (w : World) : Prop :=
∀ (w14 : World) (B_4 : Nat), New w B_4 w14 → Chg [] w w14 →
∀ (w30 : World) (B_21 : Nat), Ext w14 w30 → w14.heap.size ≤ B_21 → Box w30 B_21 5 [.int .u8 (IntKind.u8.wrap o_2_Kind)] → 
∀ (_ : Box w30 B_21 5 [.int .u8 (IntKind.u8.wrap o_2_Kind)]),
RunK Try.prog (Builtin.append_ #[24, 24] 24 #[Sl.v b_1, Sl.v (Sl.mk (some ⟨B_21, 0, none⟩) 1 1)]) w30 [B_4] (fun v w52 => ∃ (r_58 : Sl), v = Sl.v r_58 ∧
∀ (w62 : World), Chg [] w52 w62 →
CallK Try.prog 31 #[Sl.v r_58, .int .i64 o_2_ID] w62 [B_4] (fun v w73 => ∃ (r_71 : Sl), v = Sl.v r_71 ∧
∃ J_171 : Sl → World → Prop,
((((o_2_Kind = 1) ∨ (o_2_Kind = 3)) →
∀ (w176 : World), Chg [] w73 w176 →
∀ (w184 : World), Chg [] w176 w184 →
CallK Try.prog 31 #[Sl.v r_71, .int .i64 o_2_Parent] w184 [B_4] (fun v w201 => ∃ (r_199 : Sl), v = Sl.v r_199 ∧
∀ (w213 : World), Chg [] w201 w213 →
CallK Try.prog 31 #[Sl.v r_199, .int .i64 o_2_At] w213 [B_4] (fun v w224 => ∃ (r_222 : Sl), v = Sl.v r_222 ∧
∀ (w232 : World), Chg [] w224 w232 →
J_171 r_222 w232))) ∧
(((¬ (o_2_Kind = 1)) ∧ (¬ (o_2_Kind = 3))) →
∀ (w81 : World), Chg [] w73 w81 →
J_171 r_71 w81)) ∧
(∀ (b_169 : Sl) (w170 : World), J_171 b_169 w170 →
∃ J_272 : Sl → World → Prop,
(((o_2_Kind = 1) →
CallK Try.prog 31 #[Sl.v b_169, .int .i64 o_2_What] w170 [B_4] (fun v w282 => ∃ (r_280 : Sl), v = Sl.v r_280 ∧
J_272 r_280 w282)) ∧
((¬ (o_2_Kind = 1)) →
J_272 b_169 w170)) ∧
(∀ (b_270 : Sl) (w271 : World), J_272 b_270 w271 →
CallK Try.prog 28 #[.agg #[.int .i64 o_2_Kind, .int .i64 o_2_ID, .int .i64 o_2_Parent, .int .i64 o_2_At, .int .i64 o_2_What, .string (Bs o_2_Name), .string (Bs o_2_Text)]] w271 [B_4] (fun v w299 => ∃ (r_297 : Sl), v = Sl.v r_297 ∧
∃ (J_313 : Sl → Int → World → Prop) (mu_314 : Sl → Int → World → Nat),
J_313 b_270 0 w299 ∧
(∀ (b_310 : Sl) (i_311 : Int) (w312 : World), J_313 b_310 i_311 w312 →
((i_311 < (r_297.n : Int)) →
((0 : Int) ≤ i_311 ∧ i_311 < (r_297.n : Int)) ∧ ∃ p_376 : Addr, r_297.a = some p_376 ∧
∃ (x_382 : Str), (w312.cell? (p_376.add (i_311.toNat * 1)) = some (.string (Bs x_382))) ∧
CallK Try.prog 29 #[Sl.v strings_3, .string (Bs x_382)] w312 [] (fun v w387 => ∃ (r_385 : Int), v = .int .i64 r_385 ∧
CallK Try.prog 31 #[Sl.v b_310, .int .i64 r_385] w387 [] (fun v w395 => ∃ (r_393 : Sl), v = Sl.v r_393 ∧
(I64 (i_311 + 1)) ∧
J_313 r_393 (i_311 + 1) w395 ∧ mu_314 r_393 (i_311 + 1) w395 < mu_314 b_310 i_311 w312))) ∧
((¬ (i_311 < (r_297.n : Int))) →
R (Sl.v b_310) w312)))))))
set_option maxHeartbeats 1000000 in
set_option maxRecDepth 10000 in
theorem ref24_op.ok (b_1 : Sl) (o_2_Kind : Int) (o_2_ID : Int) (o_2_Parent : Int) (o_2_At : Int) (o_2_What : Int) (o_2_Name : Str) (o_2_Text : Str) (strings_3 : Sl) {R : Value → World → Prop} {w : World} (ht0 : ref24_op.vc b_1 o_2_Kind o_2_ID o_2_Parent o_2_At o_2_What o_2_Name o_2_Text strings_3 R w) : Calls Try.prog 32 #[Sl.v b_1, .agg #[.int .i64 o_2_Kind, .int .i64 o_2_ID, .int .i64 o_2_Parent, .int .i64 o_2_At, .int .i64 o_2_What, .string (Bs o_2_Name), .string (Bs o_2_Text)], Sl.v strings_3] w (Ret R) := by
  refine enter [Sl.v b_1, .agg #[.int .i64 o_2_Kind, .int .i64 o_2_ID, .int .i64 o_2_Parent, .int .i64 o_2_At, .int .i64 o_2_What, .string (Bs o_2_Name), .string (Bs o_2_Text)], Sl.v strings_3] Try.func32 rfl Try.ntmps32 rfl ?_
  intro a0 hA0
  unfold ref24_op.vc at ht0
  refine wp_seq ?_
  refine wp_region_lit ?_
  refine sq (opk_new (fun B => .pointer (some ⟨B, 0, none⟩)) hA0 rfl (r_box (cs := [.int .i64 o_2_Kind, .int .i64 o_2_ID, .int .i64 o_2_Parent, .int .i64 o_2_At, .int .i64 o_2_What, .string (Bs o_2_Name), .string (Bs o_2_Text)]) (hA0.get rfl) rfl) fun a6 w5 B_4 hE7 hN8 hB9 hA6 _ => ?_)
  have hN10 : New w B_4 w5 := hN8
  have hC11 : Chg [] w w5 := hE7
  refine sq (opk_val hA6 rfl (r_assign rfl) fun a12 hA12 _ => ?_)
  refine sq_end ?_
  have hA13 := hA12.keep [(0, Sl.v b_1), (2, Sl.v strings_3), (4, .pointer (some (⟨B_4, 0, none⟩ : Addr)))] ⟨rfl, rfl, rfl, trivial⟩
  refine then_normal ?_
  refine wp_seq ?_
  refine draw' (by kernel_rfl) fun w14 hE15 => ?_
  have hB16 := hB9.ext hE15
  have hC17 := hC11.more hE15
  have hN18 := hN10.up hE15.size
  have ht19 := ht0 w14 B_4 hN18  hC17
  refine startF (D := [[], [], [1], [1, 2], [1, 2, 3], [0, 1, 2, 3, 4], [], [6], [0, 1, 2, 3, 4, 5, 6, 7], [0, 1, 2, 3, 4, 5, 6, 7, 8]]) (Fs := [1, 2, 3, 6, 7]) (Ef := [(1, fun v _ => v = .pointer (some (⟨B_4, 0, none⟩ : Addr))), (2, fun v _ => v = .int .i64 o_2_Kind), (3, fun v _ => v = .int .u8 (IntKind.u8.wrap o_2_Kind)), (6, fun v _ => v = .pointer (some (⟨B_4, 1, none⟩ : Addr))), (7, fun v _ => v = .int .i64 o_2_ID)]) (by kernel_rfl) ?_
  refine parF (D := [[], [], [1], [1, 2], [1, 2, 3], [0, 1, 2, 3, 4], [], [6], [0, 1, 2, 3, 4, 5, 6, 7], [0, 1, 2, 3, 4, 5, 6, 7, 8]]) (S := [0, 4]) (F := []) (KE := [0, 4]) (E := [(0, fun v _ => v = Sl.v b_1), (4, fun v w' => ∃ B_21 : Nat, w14.heap.size ≤ B_21 ∧ Box w' B_21 5 [.int .u8 (IntKind.u8.wrap o_2_Kind)] ∧ v = Sl.v (Sl.mk (some ⟨B_21, 0, none⟩) 1 1))]) hA13 rfl (by kernel_rfl) ⟨fun _ _ _ _ h => by first | exact h | (change _ = _ at h; change _ = _; exact h), fun _ _ _ hE ⟨B_21, h0_, h1_, e⟩ => ⟨B_21, h0_, (h1_.ext hE), e⟩, fun _ _ _ _ h => by first | exact h | (change _ = _ at h; change _ = _; exact h), fun _ _ _ _ h => by first | exact h | (change _ = _ at h; change _ = _; exact h), fun _ _ _ _ h => by first | exact h | (change _ = _ at h; change _ = _; exact h), fun _ _ _ _ h => by first | exact h | (change _ = _ at h; change _ = _; exact h), fun _ _ _ _ h => by first | exact h | (change _ = _ at h; change _ = _; exact h), trivial⟩ ⟨?_, ?_, ?_, ?_, ?_, ?_, ?_, trivial⟩ ?_
  · intro a w hT
    have hAp := hT.ag hA13 [(0, Sl.v b_1)] ⟨rfl, trivial⟩ (by kernel_rfl)
    exact opk_val hAp rfl (r_move (hAp.get rfl)) fun _ _ e => ⟨_, e, Chg.refl _ _, fun _ => Eq.refl _⟩
  · intro a w hT
    have hAp := hT.ag hA13 [] trivial (by kernel_rfl)
    have e20 : a.tmps.getD 12 undef = .int .u8 (IntKind.u8.wrap o_2_Kind) := hT.vals 3 rfl 12 rfl
    have hAp := hAp.add e20
    exact opk_new (fun B => .slice (some ⟨B, 0, none⟩) 1 1) hAp rfl (r_buildSlice (vs := #[(0, .int .u8 (IntKind.u8.wrap o_2_Kind))]) (cs := [.int .u8 (IntKind.u8.wrap o_2_Kind)]) (map_arr2 (ml2_cons (hAp.get rfl) (ml2_nil))) Try.underlying24 ti_5 rfl rfl (by kernel_rfl)) fun _ w22 B_21 hE23 hN24 hB25 _ e => ⟨_, e, hE23, fun _ => ⟨B_21, Nat.le_trans hT.chg.size hN24.ge, hB25, rfl⟩⟩
  · intro a w hT
    have hAp := hT.ag hA13 [(4, .pointer (some (⟨B_4, 0, none⟩ : Addr)))] ⟨rfl, trivial⟩ (by kernel_rfl)
    exact opk_val hAp rfl (r_fieldAddr (hAp.get rfl) Try.underlying42 rfl ti_3 (by decide)) fun _ _ e => ⟨_, e, Chg.refl _ _, fun _ => Eq.refl _⟩
  · intro a w hT
    have hAp := hT.ag hA13 [] trivial (by kernel_rfl)
    have e26 : a.tmps.getD 10 undef = .pointer (some (⟨B_4, 0, none⟩ : Addr)) := hT.vals 1 rfl 10 rfl
    have hAp := hAp.add e26
    exact opk_val hAp rfl (r_load1 Try.underlying3 rfl (hAp.get rfl) ((hB16.ext hT.chg).cell 0 _ rfl)) fun _ _ e => ⟨_, e, Chg.refl _ _, fun _ => Eq.refl _⟩
  · intro a w hT
    have hAp := hT.ag hA13 [] trivial (by kernel_rfl)
    have e27 : a.tmps.getD 11 undef = .int .i64 o_2_Kind := hT.vals 2 rfl 11 rfl
    have hAp := hAp.add e27
    exact opk_val hAp rfl (r_conv (hAp.get rfl) rfl Try.underlying5) fun _ _ e => ⟨_, e, Chg.refl _ _, fun _ => Eq.refl _⟩
  · intro a w hT
    have hAp := hT.ag hA13 [(4, .pointer (some (⟨B_4, 0, none⟩ : Addr)))] ⟨rfl, trivial⟩ (by kernel_rfl)
    exact opk_val hAp rfl (r_fieldAddr (hAp.get rfl) Try.underlying42 rfl ti_3 (by decide)) fun _ _ e => ⟨_, e, Chg.refl _ _, fun _ => Eq.refl _⟩
  · intro a w hT
    have hAp := hT.ag hA13 [] trivial (by kernel_rfl)
    have e28 : a.tmps.getD 15 undef = .pointer (some (⟨B_4, 1, none⟩ : Addr)) := hT.vals 6 rfl 15 rfl
    have hAp := hAp.add e28
    exact opk_val hAp rfl (r_load1 Try.underlying3 rfl (hAp.get rfl) ((hB16.ext hT.chg).cell 1 _ rfl)) fun _ _ e => ⟨_, e, Chg.refl _ _, fun _ => Eq.refl _⟩
  · intro a29 w30 hE31 hag32 hv33
    have hA29 := hag32 [(0, Sl.v b_1), (2, Sl.v strings_3), (4, .pointer (some (⟨B_4, 0, none⟩ : Addr)))] ⟨rfl, rfl, rfl, trivial⟩ (by kernel_rfl)
    have e35 : a29.tmps.getD 9 undef = Sl.v b_1 := hv33 0 rfl 9 rfl
    have hA36 := hA29.add e35
    obtain ⟨B_21, hf39, hf40, e37⟩ := hv33 4 rfl 13 rfl
    have hA38 := hA36.add e37
    have hB41 := hB16.ext hE31
    have hC42 : Chg [] w14 w30 := hE31
    have ht43 := ht19 w30 B_21 hE31 hf39 hf40
    have hne44 : B_4 ≠ B_21 := Nat.ne_of_lt (Nat.lt_of_lt_of_le hB16.lt hf39)
    refine PRF_drop (X := [1, 2, 3]) (Fs' := [6, 7]) hA38 (by kernel_rfl) fun a45 hag46 hv47 => ?_
    have hA45 := hag46 [(0, Sl.v b_1), (2, Sl.v strings_3), (4, .pointer (some (⟨B_4, 0, none⟩ : Addr))), (9, Sl.v b_1), (13, Sl.v (Sl.mk (some ⟨B_21, 0, none⟩) 1 1))] ⟨rfl, rfl, rfl, rfl, rfl, trivial⟩ (by kernel_rfl)
    refine oneF (c := 5) hA45 rfl (by kernel_rfl) (constF ⟨fun _ _ _ h => by first | exact h | (change _ = _ at h; change _ = _; exact h), fun _ _ _ h => by first | exact h | (change _ = _ at h; change _ = _; exact h), trivial⟩) ⟨?_, ?_, trivial⟩ ?_
    · intro a hT
      have hAp := hT.ag hA45 [(4, .pointer (some (⟨B_4, 0, none⟩ : Addr)))] ⟨rfl, trivial⟩ (by kernel_rfl)
      exact opk_val hAp rfl (r_fieldAddr (hAp.get rfl) Try.underlying42 rfl ti_3 (by decide)) fun _ _ e => ⟨_, e, rfl, fun _ => Eq.refl _⟩
    · intro a hT
      have hAp := hT.ag hA45 [] trivial (by kernel_rfl)
      have e48 : a.tmps.getD 15 undef = .pointer (some (⟨B_4, 1, none⟩ : Addr)) := hT.vals 6 rfl 15 rfl
      have hAp := hAp.add e48
      exact opk_val hAp rfl (r_load1 Try.underlying3 rfl (hAp.get rfl) ((hB41.ext hT.chg).cell 1 _ rfl)) fun _ _ e => ⟨_, e, rfl, fun _ => Eq.refl _⟩
    · intro a49 hT
      have hA49 := hT.ag hA45 [(0, Sl.v b_1), (2, Sl.v strings_3), (4, .pointer (some (⟨B_4, 0, none⟩ : Addr))), (9, Sl.v b_1), (13, Sl.v (Sl.mk (some ⟨B_21, 0, none⟩) 1 1))] ⟨rfl, rfl, rfl, rfl, rfl, trivial⟩ (by kernel_rfl)
      have ht50 := ht43 hf40
      refine (opk_run hA49 rfl (fun _ _ hr => r_append (hA49.get rfl) (hA49.get rfl) hr) ht50 fun a51 v57 w52 hA51 heq416 hn54 hz55 hK56 => ?_)
      refine ⟨_, heq416, ?_⟩
      obtain ⟨r_58, rfl, ht53⟩ := hK56
      have hB59 := hB41.kept hn54 (.head _)
      refine joinF hA51 (by kernel_rfl) ⟨fun _ _ _ _ h => by first | exact h | (change _ = _ at h; change _ = _; exact h), fun _ _ _ _ h => by first | exact h | (change _ = _ at h; change _ = _; exact h), trivial⟩ ⟨?_, ?_, trivial⟩ ?_
      · intro a w hT
        have hAp := hT.ag hA51 [(4, .pointer (some (⟨B_4, 0, none⟩ : Addr)))] ⟨rfl, trivial⟩ (by kernel_rfl)
        exact opk_val hAp rfl (r_fieldAddr (hAp.get rfl) Try.underlying42 rfl ti_3 (by decide)) fun _ _ e => ⟨_, e, Chg.refl _ _, fun _ => Eq.refl _⟩
      · intro a w hT
        have hAp := hT.ag hA51 [] trivial (by kernel_rfl)
        have e60 : a.tmps.getD 15 undef = .pointer (some (⟨B_4, 1, none⟩ : Addr)) := hT.vals 6 rfl 15 rfl
        have hAp := hAp.add e60
        exact opk_val hAp rfl (r_load1 Try.underlying3 rfl (hAp.get rfl) ((hB59.ext hT.chg).cell 1 _ rfl)) fun _ _ e => ⟨_, e, Chg.refl _ _, fun _ => Eq.refl _⟩
      · intro a61 w62 hE63 hag64 hv65
        have hA61 := hag64 [(0, Sl.v b_1), (2, Sl.v strings_3), (4, .pointer (some (⟨B_4, 0, none⟩ : Addr))), (14, Sl.v r_58)] ⟨rfl, rfl, rfl, rfl, trivial⟩ (by kernel_rfl)
        have e66 : a61.tmps.getD 16 undef = .int .i64 o_2_ID := hv65 7 rfl 16 rfl
        have hA67 := hA61.add e66
        have hB68 := hB59.ext hE63
        have hC69 : Chg [] w52 w62 := hE63
        have ht70 := ht53 w62    hC69
        refine one (D := [[], [], [1], [1, 2], [1, 2, 3], [0, 1, 2, 3, 4], [], [6], [0, 1, 2, 3, 4, 5, 6, 7], [0, 1, 2, 3, 4, 5, 6, 7, 8]]) (i := 8) rfl (by kernel_rfl) (opk_call hA67 rfl (r_call (args := #[Sl.v r_58, .int .i64 o_2_ID]) Try.func31 (by decide) rfl (map_arr (ml_cons (hA67.get rfl) (ml_cons (hA67.get rfl) ml_nil))) rfl) ht70 fun a72 v78 w73 hA72 _ hn75 hz76 hK77 => ?_)
        obtain ⟨r_71, rfl, ht74⟩ := hK77
        have hB79 := hB68.kept hn75 (.head _)
        refine par (D := [[], [], [1], [1, 2], [1, 2, 3], [0, 1, 2, 3, 4], [], [6], [0, 1, 2, 3, 4, 5, 6, 7], [0, 1, 2, 3, 4, 5, 6, 7, 8]]) (S := [9]) (F := []) (V := VL [(9, fun v _ => v = Sl.v r_71)]) hA72 (by kernel_rfl) ⟨fun _ _ _ _ h => by first | exact h | (change _ = _ at h; change _ = _; exact h), trivial⟩ ⟨?_, trivial⟩ ?_
        · intro a w hT
          have hAp := hT.ag hA72 [(17, Sl.v r_71)] ⟨rfl, trivial⟩ (by kernel_rfl)
          exact opk_val hAp rfl (r_assign (hAp.get rfl)) fun _ _ e => ⟨_, e, Chg.refl _ _, fun _ => Eq.refl _⟩
        · intro a80 w81 hE82 hag83 hv84
          have hA80 := hag83 [(2, Sl.v strings_3), (4, .pointer (some (⟨B_4, 0, none⟩ : Addr)))] ⟨rfl, rfl, trivial⟩ (by kernel_rfl)
          have e86 : a80.tmps.getD 0 undef = Sl.v r_71 := hv84 9 rfl 0 rfl
          have hA87 := hA80.add e86
          have hB88 := hB79.ext hE82
          have hC89 : Chg [] w73 w81 := hE82
          refine PR_end (by kernel_rfl) ?_
          have hA90 := hA87.keep [(0, Sl.v r_71), (2, Sl.v strings_3), (4, .pointer (some (⟨B_4, 0, none⟩ : Addr)))] ⟨rfl, rfl, rfl, trivial⟩
          refine then_normal ?_
          refine wp_seq ?_
          refine wp_seq ?_
          refine wp_region_lit ?_
          refine sq (opk_val hA90 rfl (r_fieldAddr (hA90.get rfl) Try.underlying42 rfl ti_3 (by decide)) fun a91 hA91 _ => ?_)
          refine sq (opk_val hA91 rfl (r_load1 Try.underlying3 rfl (hA91.get rfl) (hB88.cell 0 _ rfl)) fun a92 hA92 _ => ?_)
          refine sq (opk_val hA92 rfl (r_eql (hA92.get rfl) rfl) fun a93 hA93 _ => ?_)
          refine sq (opk_val hA93 rfl (r_move (hA93.get rfl)) fun a94 hA94 _ => ?_)
          refine sq (opk_gval hA94 rfl rfl (g := true) (e := (decide (o_2_Kind = 1))) rfl (fun hg => r_fieldAddr (hA94.get rfl) Try.underlying42 rfl ti_3 (by decide)) fun a95 hA95 _ => ?_)
          refine sq (opk_gval hA95 rfl rfl (g := true) (e := (decide (o_2_Kind = 1))) rfl (fun hg => r_load1 Try.underlying3 rfl (cv_get (hA95.get rfl) hg) (hB88.cell 0 _ rfl)) fun a96 hA96 _ => ?_)
          refine sq (opk_gval hA96 rfl rfl (g := true) (e := (decide (o_2_Kind = 1))) rfl (fun hg => r_eql (cv_get (hA96.get rfl) hg) rfl) fun a97 hA97 _ => ?_)
          refine sq (opk_val hA97 rfl (r_pick_or (g := (true && ((decide (o_2_Kind = 1)) == false))) (hA97.get rfl) (hA97.get rfl) (fun he => g_mkf rfl he)) fun a98 hA98 _ => ?_)
          refine sq_end ?_
          have hA99 := hA98.keep [(0, Sl.v r_71), (2, Sl.v strings_3), (4, .pointer (some (⟨B_4, 0, none⟩ : Addr))), (25, .bool ((decide (o_2_Kind = 1)) || (decide (o_2_Kind = 3))))] ⟨rfl, rfl, rfl, rfl, trivial⟩
          refine then_normal ?_
          obtain ⟨J_171, ht172, hr173⟩ := ht74
          refine wp_meet (fun a w => ∃ b_169 : Sl, Ag 57 a [(0, Sl.v b_169), (2, Sl.v strings_3), (4, .pointer (some (⟨B_4, 0, none⟩ : Addr)))] ∧ Box w B_4 42 [.int .i64 o_2_Kind, .int .i64 o_2_ID, .int .i64 o_2_Parent, .int .i64 o_2_At, .int .i64 o_2_What, .string (Bs o_2_Name), .string (Bs o_2_Text)] ∧ J_171 b_169 w) ?_ ?_
          · refine wp_cond_split (hA99.get rfl) (fun hc => ?_) (fun hc => ?_)
            · have ht174 := ht172.1 ((b_or_t hc).imp (fun h => (of_decide_eq_true h)) (fun h => (of_decide_eq_true h)))
              clear hc
              refine draw' (by kernel_rfl) fun w176 hE177 => ?_
              have hB178 := hB88.ext hE177
              have hC179 := hC89.more hE177
              have ht180 := ht174 w176    hC179
              refine startF (D := [[], [], [1], [0, 1, 2], [], [4], [0, 1, 2, 3, 4, 5], [0, 1, 2, 3, 4, 5, 6]]) (Fs := [1, 2, 4, 5]) (Ef := [(1, fun v _ => v = .pointer (some (⟨B_4, 2, none⟩ : Addr))), (2, fun v _ => v = .int .i64 o_2_Parent), (4, fun v _ => v = .pointer (some (⟨B_4, 3, none⟩ : Addr))), (5, fun v _ => v = .int .i64 o_2_At)]) (by kernel_rfl) ?_
              refine parF (D := [[], [], [1], [0, 1, 2], [], [4], [0, 1, 2, 3, 4, 5], [0, 1, 2, 3, 4, 5, 6]]) (S := [0]) (F := []) (KE := [0]) (E := [(0, fun v _ => v = Sl.v r_71)]) hA99 rfl (by kernel_rfl) ⟨fun _ _ _ _ h => by first | exact h | (change _ = _ at h; change _ = _; exact h), fun _ _ _ _ h => by first | exact h | (change _ = _ at h; change _ = _; exact h), fun _ _ _ _ h => by first | exact h | (change _ = _ at h; change _ = _; exact h), fun _ _ _ _ h => by first | exact h | (change _ = _ at h; change _ = _; exact h), fun _ _ _ _ h => by first | exact h | (change _ = _ at h; change _ = _; exact h), trivial⟩ ⟨?_, ?_, ?_, ?_, ?_, trivial⟩ ?_
              · intro a w hT
                have hAp := hT.ag hA99 [(0, Sl.v r_71)] ⟨rfl, trivial⟩ (by kernel_rfl)
                exact opk_val hAp rfl (r_move (hAp.get rfl)) fun _ _ e => ⟨_, e, Chg.refl _ _, fun _ => Eq.refl _⟩
              · intro a w hT
                have hAp := hT.ag hA99 [(4, .pointer (some (⟨B_4, 0, none⟩ : Addr)))] ⟨rfl, trivial⟩ (by kernel_rfl)
                exact opk_val hAp rfl (r_fieldAddr (hAp.get rfl) Try.underlying42 rfl ti_3 (by decide)) fun _ _ e => ⟨_, e, Chg.refl _ _, fun _ => Eq.refl _⟩
              · intro a w hT
                have hAp := hT.ag hA99 [] trivial (by kernel_rfl)
                have e181 : a.tmps.getD 27 undef = .pointer (some (⟨B_4, 2, none⟩ : Addr)) := hT.vals 1 rfl 27 rfl
                have hAp := hAp.add e181
                exact opk_val hAp rfl (r_load1 Try.underlying3 rfl (hAp.get rfl) ((hB178.ext hT.chg).cell 2 _ rfl)) fun _ _ e => ⟨_, e, Chg.refl _ _, fun _ => Eq.refl _⟩
              · intro a w hT
                have hAp := hT.ag hA99 [(4, .pointer (some (⟨B_4, 0, none⟩ : Addr)))] ⟨rfl, trivial⟩ (by kernel_rfl)
                exact opk_val hAp rfl (r_fieldAddr (hAp.get rfl) Try.underlying42 rfl ti_3 (by decide)) fun _ _ e => ⟨_, e, Chg.refl _ _, fun _ => Eq.refl _⟩
              · intro a w hT
                have hAp := hT.ag hA99 [] trivial (by kernel_rfl)
                have e182 : a.tmps.getD 30 undef = .pointer (some (⟨B_4, 3, none⟩ : Addr)) := hT.vals 4 rfl 30 rfl
                have hAp := hAp.add e182
                exact opk_val hAp rfl (r_load1 Try.underlying3 rfl (hAp.get rfl) ((hB178.ext hT.chg).cell 3 _ rfl)) fun _ _ e => ⟨_, e, Chg.refl _ _, fun _ => Eq.refl _⟩
              · intro a183 w184 hE185 hag186 hv187
                have hA183 := hag186 [(0, Sl.v r_71), (2, Sl.v strings_3), (4, .pointer (some (⟨B_4, 0, none⟩ : Addr)))] ⟨rfl, rfl, rfl, trivial⟩ (by kernel_rfl)
                have e189 : a183.tmps.getD 26 undef = Sl.v r_71 := hv187 0 rfl 26 rfl
                have hA190 := hA183.add e189
                have hB191 := hB178.ext hE185
                have hC192 : Chg [] w176 w184 := hE185
                refine oneF (c := 3) hA190 rfl (by kernel_rfl) (constF ⟨fun _ _ _ h => by first | exact h | (change _ = _ at h; change _ = _; exact h), fun _ _ _ h => by first | exact h | (change _ = _ at h; change _ = _; exact h), fun _ _ _ h => by first | exact h | (change _ = _ at h; change _ = _; exact h), fun _ _ _ h => by first | exact h | (change _ = _ at h; change _ = _; exact h), trivial⟩) ⟨?_, ?_, ?_, ?_, trivial⟩ ?_
                · intro a hT
                  have hAp := hT.ag hA190 [(4, .pointer (some (⟨B_4, 0, none⟩ : Addr)))] ⟨rfl, trivial⟩ (by kernel_rfl)
                  exact opk_val hAp rfl (r_fieldAddr (hAp.get rfl) Try.underlying42 rfl ti_3 (by decide)) fun _ _ e => ⟨_, e, rfl, fun _ => Eq.refl _⟩
                · intro a hT
                  have hAp := hT.ag hA190 [] trivial (by kernel_rfl)
                  have e193 : a.tmps.getD 27 undef = .pointer (some (⟨B_4, 2, none⟩ : Addr)) := hT.vals 1 rfl 27 rfl
                  have hAp := hAp.add e193
                  exact opk_val hAp rfl (r_load1 Try.underlying3 rfl (hAp.get rfl) ((hB191.ext hT.chg).cell 2 _ rfl)) fun _ _ e => ⟨_, e, rfl, fun _ => Eq.refl _⟩
                · intro a hT
                  have hAp := hT.ag hA190 [(4, .pointer (some (⟨B_4, 0, none⟩ : Addr)))] ⟨rfl, trivial⟩ (by kernel_rfl)
                  exact opk_val hAp rfl (r_fieldAddr (hAp.get rfl) Try.underlying42 rfl ti_3 (by decide)) fun _ _ e => ⟨_, e, rfl, fun _ => Eq.refl _⟩
                · intro a hT
                  have hAp := hT.ag hA190 [] trivial (by kernel_rfl)
                  have e194 : a.tmps.getD 30 undef = .pointer (some (⟨B_4, 3, none⟩ : Addr)) := hT.vals 4 rfl 30 rfl
                  have hAp := hAp.add e194
                  exact opk_val hAp rfl (r_load1 Try.underlying3 rfl (hAp.get rfl) ((hB191.ext hT.chg).cell 3 _ rfl)) fun _ _ e => ⟨_, e, rfl, fun _ => Eq.refl _⟩
                · intro a195 hT
                  have hA195 := hT.ag hA190 [(0, Sl.v r_71), (2, Sl.v strings_3), (4, .pointer (some (⟨B_4, 0, none⟩ : Addr))), (26, Sl.v r_71)] ⟨rfl, rfl, rfl, rfl, trivial⟩ (by kernel_rfl)
                  have e196 : a195.tmps.getD 28 undef = .int .i64 o_2_Parent := hT.vals 2 rfl 28 rfl
                  have hA197 := hA195.add e196
                  have ht198 := ht180 w184    hC192
                  refine (opk_call hA197 rfl (r_call (args := #[Sl.v r_71, .int .i64 o_2_Parent]) Try.func31 (by decide) rfl (map_arr (ml_cons (hA197.get rfl) (ml_cons (hA197.get rfl) ml_nil))) rfl) ht198 fun a200 v206 w201 hA200 heq244 hn203 hz204 hK205 => ?_)
                  refine ⟨_, heq244, ?_⟩
                  obtain ⟨r_199, rfl, ht202⟩ := hK205
                  have hB207 := hB191.kept hn203 (.head _)
                  refine PRF_drop (X := [1, 2]) (Fs' := [4, 5]) hA200 (by kernel_rfl) fun a208 hag209 hv210 => ?_
                  have hA208 := hag209 [(0, Sl.v r_71), (2, Sl.v strings_3), (4, .pointer (some (⟨B_4, 0, none⟩ : Addr))), (29, Sl.v r_199)] ⟨rfl, rfl, rfl, rfl, trivial⟩ (by kernel_rfl)
                  refine joinF hA208 (by kernel_rfl) ⟨fun _ _ _ _ h => by first | exact h | (change _ = _ at h; change _ = _; exact h), fun _ _ _ _ h => by first | exact h | (change _ = _ at h; change _ = _; exact h), trivial⟩ ⟨?_, ?_, trivial⟩ ?_
                  · intro a w hT
                    have hAp := hT.ag hA208 [(4, .pointer (some (⟨B_4, 0, none⟩ : Addr)))] ⟨rfl, trivial⟩ (by kernel_rfl)
                    exact opk_val hAp rfl (r_fieldAddr (hAp.get rfl) Try.underlying42 rfl ti_3 (by decide)) fun _ _ e => ⟨_, e, Chg.refl _ _, fun _ => Eq.refl _⟩
                  · intro a w hT
                    have hAp := hT.ag hA208 [] trivial (by kernel_rfl)
                    have e211 : a.tmps.getD 30 undef = .pointer (some (⟨B_4, 3, none⟩ : Addr)) := hT.vals 4 rfl 30 rfl
                    have hAp := hAp.add e211
                    exact opk_val hAp rfl (r_load1 Try.underlying3 rfl (hAp.get rfl) ((hB207.ext hT.chg).cell 3 _ rfl)) fun _ _ e => ⟨_, e, Chg.refl _ _, fun _ => Eq.refl _⟩
                  · intro a212 w213 hE214 hag215 hv216
                    have hA212 := hag215 [(0, Sl.v r_71), (2, Sl.v strings_3), (4, .pointer (some (⟨B_4, 0, none⟩ : Addr))), (29, Sl.v r_199)] ⟨rfl, rfl, rfl, rfl, trivial⟩ (by kernel_rfl)
                    have e217 : a212.tmps.getD 31 undef = .int .i64 o_2_At := hv216 5 rfl 31 rfl
                    have hA218 := hA212.add e217
                    have hB219 := hB207.ext hE214
                    have hC220 : Chg [] w201 w213 := hE214
                    have ht221 := ht202 w213    hC220
                    refine one (D := [[], [], [1], [0, 1, 2], [], [4], [0, 1, 2, 3, 4, 5], [0, 1, 2, 3, 4, 5, 6]]) (i := 6) rfl (by kernel_rfl) (opk_call hA218 rfl (r_call (args := #[Sl.v r_199, .int .i64 o_2_At]) Try.func31 (by decide) rfl (map_arr (ml_cons (hA218.get rfl) (ml_cons (hA218.get rfl) ml_nil))) rfl) ht221 fun a223 v229 w224 hA223 _ hn226 hz227 hK228 => ?_)
                    obtain ⟨r_222, rfl, ht225⟩ := hK228
                    have hB230 := hB219.kept hn226 (.head _)
                    refine par (D := [[], [], [1], [0, 1, 2], [], [4], [0, 1, 2, 3, 4, 5], [0, 1, 2, 3, 4, 5, 6]]) (S := [7]) (F := []) (V := VL [(7, fun v _ => v = Sl.v r_222)]) hA223 (by kernel_rfl) ⟨fun _ _ _ _ h => by first | exact h | (change _ = _ at h; change _ = _; exact h), trivial⟩ ⟨?_, trivial⟩ ?_
                    · intro a w hT
                      have hAp := hT.ag hA223 [(32, Sl.v r_222)] ⟨rfl, trivial⟩ (by kernel_rfl)
                      exact opk_val hAp rfl (r_assign (hAp.get rfl)) fun _ _ e => ⟨_, e, Chg.refl _ _, fun _ => Eq.refl _⟩
                    · intro a231 w232 hE233 hag234 hv235
                      have hA231 := hag234 [(2, Sl.v strings_3), (4, .pointer (some (⟨B_4, 0, none⟩ : Addr)))] ⟨rfl, rfl, trivial⟩ (by kernel_rfl)
                      have e237 : a231.tmps.getD 0 undef = Sl.v r_222 := hv235 7 rfl 0 rfl
                      have hA238 := hA231.add e237
                      have hB239 := hB230.ext hE233
                      have hC240 : Chg [] w224 w232 := hE233
                      refine PR_end (by kernel_rfl) ?_
                      have hA241 := hA238.keep [(0, Sl.v r_222), (2, Sl.v strings_3), (4, .pointer (some (⟨B_4, 0, none⟩ : Addr)))] ⟨rfl, rfl, rfl, trivial⟩
                      have ht242 := ht225 w232    hC240
                      have hA243 := hA241.keep [(0, Sl.v r_222), (2, Sl.v strings_3), (4, .pointer (some (⟨B_4, 0, none⟩ : Addr)))] ⟨rfl, rfl, rfl, trivial⟩
                      exact then_normal ⟨r_222, hA243, hB239, ht242⟩
            · have ht175 := ht172.2 ⟨(of_decide_eq_false (b_or_f hc).1), (of_decide_eq_false (b_or_f hc).2)⟩
              clear hc
              refine wp_skip ?_
              have ht245 := ht175 w81    hC89
              have hA246 := hA99.keep [(0, Sl.v r_71), (2, Sl.v strings_3), (4, .pointer (some (⟨B_4, 0, none⟩ : Addr)))] ⟨rfl, rfl, rfl, trivial⟩
              exact then_normal ⟨r_71, hA246, hB88, ht245⟩
          · intro a247 w170 hm
            obtain ⟨b_169, hA247, hB248, hJ415⟩ := hm
            have ht249 := hr173 b_169 w170 hJ415
            refine then_normal ?_
            refine wp_seq ?_
            refine wp_seq ?_
            refine wp_region_lit ?_
            refine sq (opk_val hA247 rfl (r_fieldAddr (hA247.get rfl) Try.underlying42 rfl ti_3 (by decide)) fun a250 hA250 _ => ?_)
            refine sq (opk_val hA250 rfl (r_load1 Try.underlying3 rfl (hA250.get rfl) (hB248.cell 0 _ rfl)) fun a251 hA251 _ => ?_)
            refine sq (opk_val hA251 rfl (r_eql (hA251.get rfl) rfl) fun a252 hA252 _ => ?_)
            refine sq_end ?_
            have hA253 := hA252.keep [(0, Sl.v b_169), (2, Sl.v strings_3), (4, .pointer (some (⟨B_4, 0, none⟩ : Addr))), (35, .bool (decide (o_2_Kind = 1)))] ⟨rfl, rfl, rfl, rfl, trivial⟩
            refine then_normal ?_
            obtain ⟨J_272, ht273, hr274⟩ := ht249
            refine wp_meet (fun a w => ∃ b_270 : Sl, Ag 57 a [(0, Sl.v b_270), (2, Sl.v strings_3), (4, .pointer (some (⟨B_4, 0, none⟩ : Addr)))] ∧ Box w B_4 42 [.int .i64 o_2_Kind, .int .i64 o_2_ID, .int .i64 o_2_Parent, .int .i64 o_2_At, .int .i64 o_2_What, .string (Bs o_2_Name), .string (Bs o_2_Text)] ∧ J_272 b_270 w) ?_ ?_
            · refine wp_cond_split (hA253.get rfl) (fun hc => ?_) (fun hc => ?_)
              · have ht275 := ht273.1 (of_decide_eq_true hc)
                clear hc
                refine wp_region_lit ?_
                refine sq (opk_val hA253 rfl (r_move (hA253.get rfl)) fun a277 hA277 _ => ?_)
                refine sq (opk_val hA277 rfl (r_fieldAddr (hA277.get rfl) Try.underlying42 rfl ti_3 (by decide)) fun a278 hA278 _ => ?_)
                refine sq (opk_val hA278 rfl (r_load1 Try.underlying3 rfl (hA278.get rfl) (hB248.cell 4 _ rfl)) fun a279 hA279 _ => ?_)
                refine sq (opk_call hA279 rfl (r_call (args := #[Sl.v b_169, .int .i64 o_2_What]) Try.func31 (by decide) rfl (map_arr (ml_cons (hA279.get rfl) (ml_cons (hA279.get rfl) ml_nil))) rfl) ht275 fun a281 v287 w282 hA281 _ hn284 hz285 hK286 => ?_)
                obtain ⟨r_280, rfl, ht283⟩ := hK286
                have hB288 := hB248.kept hn284 (.head _)
                refine sq (opk_val hA281 rfl (r_assign (hA281.get rfl)) fun a289 hA289 _ => ?_)
                refine sq_end ?_
                have hA290 := hA289.keep [(0, Sl.v r_280), (2, Sl.v strings_3), (4, .pointer (some (⟨B_4, 0, none⟩ : Addr)))] ⟨rfl, rfl, rfl, trivial⟩
                have hA291 := hA290.keep [(0, Sl.v r_280), (2, Sl.v strings_3), (4, .pointer (some (⟨B_4, 0, none⟩ : Addr)))] ⟨rfl, rfl, rfl, trivial⟩
                exact then_normal ⟨r_280, hA291, hB288, ht283⟩
              · have ht276 := ht273.2 (of_decide_eq_false hc)
                clear hc
                refine wp_skip ?_
                have hA292 := hA253.keep [(0, Sl.v b_169), (2, Sl.v strings_3), (4, .pointer (some (⟨B_4, 0, none⟩ : Addr)))] ⟨rfl, rfl, rfl, trivial⟩
                exact then_normal ⟨b_169, hA292, hB248, ht276⟩
            · intro a293 w271 hm
              obtain ⟨b_270, hA293, hB294, hJ414⟩ := hm
              have ht295 := hr274 b_270 w271 hJ414
              refine then_normal ?_
              refine wp_seq ?_
              refine wp_region_lit ?_
              refine sq (opk_val hA293 rfl (r_loadN (cs := [.int .i64 o_2_Kind, .int .i64 o_2_ID, .int .i64 o_2_Parent, .int .i64 o_2_At, .int .i64 o_2_What, .string (Bs o_2_Name), .string (Bs o_2_Text)]) Try.underlying42 rfl ti_42 (hA293.get rfl) (hB294.part 0 _ rfl)) fun a296 hA296 _ => ?_)
              refine sq (opk_call hA296 rfl (r_call (args := #[.agg #[.int .i64 o_2_Kind, .int .i64 o_2_ID, .int .i64 o_2_Parent, .int .i64 o_2_At, .int .i64 o_2_What, .string (Bs o_2_Name), .string (Bs o_2_Text)]]) Try.func28 (by decide) rfl (map_arr (ml_cons (hA296.get rfl) ml_nil)) rfl) ht295 fun a298 v304 w299 hA298 _ hn301 hz302 hK303 => ?_)
              obtain ⟨r_297, rfl, ht300⟩ := hK303
              have hB305 := hB294.kept hn301 (.head _)
              refine sq (opk_val hA298 rfl (r_assign (hA298.get rfl)) fun a306 hA306 _ => ?_)
              refine sq_end ?_
              have hA307 := hA306.keep [(0, Sl.v b_270), (2, Sl.v strings_3), (7, Sl.v r_297)] ⟨rfl, rfl, rfl, trivial⟩
              refine then_normal ?_
              refine wp_seq ?_
              refine wp_seq ?_
              refine wp_region_lit ?_
              refine sq (opk_val hA307 rfl (r_assign rfl) fun a308 hA308 _ => ?_)
              refine sq_end ?_
              have hA309 := hA308.keep [(0, Sl.v b_270), (2, Sl.v strings_3), (7, Sl.v r_297), (8, .int .i64 0)] ⟨rfl, rfl, rfl, rfl, trivial⟩
              refine then_normal ?_
              refine wp_block ?_
              obtain ⟨J_313, mu_314, h0362, ht361⟩ := ht300
              refine wp_loop_st (σ := Sl × Int × World) (fun s a w => Ag 57 a [(0, Sl.v s.1), (2, Sl.v strings_3), (7, Sl.v r_297), (8, .int .i64 s.2.1)] ∧ w = s.2.2 ∧ J_313 s.1 s.2.1 s.2.2) (fun s => mu_314 s.1 s.2.1 s.2.2) (b_270, 0, w299) ⟨hA309.keep [(0, Sl.v b_270), (2, Sl.v strings_3), (7, Sl.v r_297), (8, .int .i64 0)] ⟨rfl, rfl, rfl, rfl, trivial⟩, rfl, h0362⟩ ?_
              rintro ⟨b_310, i_311, w312⟩ a360 w_ ⟨hA360, hw_, hJ364⟩
              have hw_ : w312 = w_ := hw_.symm
              subst hw_
              have ht363 := ht361 b_310 i_311 _ hJ364
              refine wp_seq ?_
              refine wp_seq ?_
              refine wp_region_lit ?_
              refine sq (opk_val hA360 rfl (r_move (hA360.get rfl)) fun a365 hA365 _ => ?_)
              refine sq (opk_val hA365 rfl (r_move (hA365.get rfl)) fun a366 hA366 _ => ?_)
              refine sq (opk_val hA366 rfl (r_len (hA366.get rfl) Try.underlying46) fun a367 hA367 _ => ?_)
              refine sq (opk_val hA367 rfl (r_lss (hA367.get rfl) (hA367.get rfl)) fun a368 hA368 _ => ?_)
              refine sq_end ?_
              have hA369 := hA368.keep [(0, Sl.v b_310), (2, Sl.v strings_3), (7, Sl.v r_297), (8, .int .i64 i_311), (45, .bool (decide (i_311 < (r_297.n : Int))))] ⟨rfl, rfl, rfl, rfl, rfl, trivial⟩
              refine then_normal ?_
              refine wp_cond_split (hA369.get rfl) (fun hc => ?_) (fun hc => ?_)
              · have ht370 := ht363.1 (of_decide_eq_true hc)
                clear hc
                refine wp_skip ?_
                refine then_normal ?_
                refine wp_seq ?_
                refine wp_block ?_
                refine wp_region_lit ?_
                refine sq (opk_val hA369 rfl (r_move (hA369.get rfl)) fun a372 hA372 _ => ?_)
                refine sq (opk_val hA372 rfl (r_move (hA372.get rfl)) fun a373 hA373 _ => ?_)
                refine sq (opk_val hA373 rfl (r_move (hA373.get rfl)) fun a374 hA374 _ => ?_)
                refine sq (opk_val hA374 rfl (r_move (hA374.get rfl)) fun a375 hA375 _ => ?_)
                obtain ⟨hb377, p_376, hp378, ht379⟩ := ht370
                refine sq (opk_val hA375 rfl (r_indexAddr (hA375.get rfl) (hA375.get rfl) Try.underlying46 ti_9 hb377 hp378) fun a380 hA380 _ => ?_)
                obtain ⟨x_382, hx383, ht384⟩ := ht379
                refine sq (opk_val hA380 rfl (r_load1 Try.underlying9 rfl (hA380.get rfl) hx383) fun a381 hA381 _ => ?_)
                refine sq (opk_call hA381 rfl (r_call (args := #[Sl.v strings_3, .string (Bs x_382)]) Try.func29 (by decide) rfl (map_arr (ml_cons (hA381.get rfl) (ml_cons (hA381.get rfl) ml_nil))) rfl) ht384 fun a386 v392 w387 hA386 _ hn389 hz390 hK391 => ?_)
                obtain ⟨r_385, rfl, ht388⟩ := hK391
                refine sq (opk_call hA386 rfl (r_call (args := #[Sl.v b_310, .int .i64 r_385]) Try.func31 (by decide) rfl (map_arr (ml_cons (hA386.get rfl) (ml_cons (hA386.get rfl) ml_nil))) rfl) ht388 fun a394 v400 w395 hA394 _ hn397 hz398 hK399 => ?_)
                obtain ⟨r_393, rfl, ht396⟩ := hK399
                refine sq (opk_val hA394 rfl (r_assign (hA394.get rfl)) fun a401 hA401 _ => ?_)
                refine sq_end ?_
                have hA402 := hA401.keep [(0, Sl.v r_393), (2, Sl.v strings_3), (7, Sl.v r_297), (8, .int .i64 i_311)] ⟨rfl, rfl, rfl, rfl, trivial⟩
                refine block_normal ?_
                refine then_normal ?_
                refine wp_region_lit ?_
                refine sq (opk_val hA402 rfl (r_move (hA402.get rfl)) fun a403 hA403 _ => ?_)
                obtain ⟨hS405, ht406⟩ := ht396
                refine sq (opk_val hA403 rfl (r_addI (hA403.get rfl) rfl hS405) fun a404 hA404 _ => ?_)
                refine sq (opk_val hA404 rfl (r_assign (hA404.get rfl)) fun a407 hA407 _ => ?_)
                refine sq_end ?_
                have hA408 := hA407.keep [(0, Sl.v r_393), (2, Sl.v strings_3), (7, Sl.v r_297), (8, .int .i64 (i_311 + 1))] ⟨rfl, rfl, rfl, rfl, trivial⟩
                have hA409 := hA408.keep [(0, Sl.v r_393), (2, Sl.v strings_3), (7, Sl.v r_297), (8, .int .i64 (i_311 + 1))] ⟨rfl, rfl, rfl, rfl, trivial⟩
                exact then_normal ⟨(r_393, i_311 + 1, w395), ⟨hA409, rfl, ht406.1⟩, ht406.2⟩
              · have ht371 := ht363.2 (of_decide_eq_false hc)
                clear hc
                refine wp_exit ?_
                refine then_exit ?_
                refine then_exit ?_
                refine block_hit ?_
                have hA410 := hA369.keep [(0, Sl.v b_310)] ⟨rfl, trivial⟩
                refine then_normal ?_
                refine wp_seq ?_
                refine wp_region_lit ?_
                refine sq (opk_val hA410 rfl (r_move (hA410.get rfl)) fun a411 hA411 _ => ?_)
                refine sq (opk_val hA411 rfl (r_assign (hA411.get rfl)) fun a412 hA412 _ => ?_)
                refine sq_end ?_
                have hA413 := hA412.keep [(6, Sl.v b_310)] ⟨rfl, trivial⟩
                refine then_normal ?_
                refine wp_ret ?_
                exact res_all (vs := [Sl.v b_310]) rfl hA413 ⟨res_of_tmp hA413 rfl, trivial⟩ ht371

/-- The condition of (*topiary/topiaryref24.R).number. -/
def ref24_R_number.vc (r_1 : Addr) (most_2 : Int) (R : Value → World → Prop) (w : World) : Prop :=
∀ (w5 : World), Chg [] w w5 →
∃ (x_12 : Sl), (w5.cell? (r_1.add 0) = some (Sl.v x_12)) ∧
∃ (x_18 : Int), (w5.cell? (r_1.add 1) = some (.int .i64 x_18)) ∧
∃ (r_0_23 : Int) (r_1_24 : Int) (r_2_25 : Int), (∀ w' : World, Ext w5 w' → Calls Try.prog 49 #[Sl.v x_12, .int .i64 x_18] w' (Ret fun v w'' => Ext w' w'' ∧ v = .tuple #[.int .u64 r_0_23, .int .i64 r_1_24, .int .i64 r_2_25])) ∧
∀ (w36 : World), Chg [] w5 w36 →
∃ (x_54 : Bool), (w36.cell? (r_1.add 2) = some (.bool x_54)) ∧
((((x_54 = true) ∨ (r_2_25 ≠ 0)) ∨ ((IntKind.u64.wrap most_2) < r_0_23)) →
∃ (B_77 o_78 : Nat) (T_79 : TypeId) (cs_80 : List Value), (r_1.add 2) = ⟨B_77, o_78, none⟩ ∧ Box w36 B_77 T_79 cs_80 ∧ o_78 + 1 ≤ cs_80.length ∧ (∀ b ∈ [], b ≠ B_77) ∧
(∀ w73 : World, Chg [B_77] w36 w73 → Box w73 B_77 T_79 (putAt cs_80 o_78 [.bool true]) →
R (.int .i64 0) w73)) ∧
((((x_54 = false) ∧ (¬ (r_2_25 ≠ 0))) ∧ (¬ ((IntKind.u64.wrap most_2) < r_0_23))) →
∃ (B_98 o_99 : Nat) (T_100 : TypeId) (cs_101 : List Value), (r_1.add 1) = ⟨B_98, o_99, none⟩ ∧ Box w36 B_98 T_100 cs_101 ∧ o_99 + 1 ≤ cs_101.length ∧ (∀ b ∈ [], b ≠ B_98) ∧
(∀ w94 : World, Chg [B_98] w36 w94 → Box w94 B_98 T_100 (putAt cs_101 o_99 [.int .i64 r_1_24]) →
R (.int .i64 (IntKind.i64.wrap r_0_23)) w94))
set_option maxHeartbeats 1000000 in
set_option maxRecDepth 10000 in
theorem ref24_R_number.ok (r_1 : Addr) (most_2 : Int) {R : Value → World → Prop} {w : World} (ht0 : ref24_R_number.vc r_1 most_2 R w) : Calls Try.prog 38 #[.pointer (some r_1), .int .i64 most_2] w (Ret R) := by
  refine enter [.pointer (some r_1), .int .i64 most_2] Try.func38 rfl Try.ntmps38 rfl ?_
  intro a0 hA0
  unfold ref24_R_number.vc at ht0
  refine wp_seq ?_
  refine wp_region_lit ?_
  refine sq (opk_val hA0 rfl (r_assign rfl) fun a3 hA3 _ => ?_)
  refine sq_end ?_
  have hA4 := hA3.keep [(0, .pointer (some r_1)), (1, .int .i64 most_2)] ⟨rfl, rfl, trivial⟩
  refine then_normal ?_
  refine wp_seq ?_
  refine draw' (by kernel_rfl) fun w5 hE6 => ?_
  have hC7 : Chg [] w w5 := hE6
  have ht8 := ht0 w5    hC7
  obtain ⟨x_12, hx13, ht14⟩ := ht8
  obtain ⟨x_18, hx19, ht20⟩ := ht14
  obtain ⟨r_0_23, r_1_24, r_2_25, hc26, ht27⟩ := ht20
  refine par (D := [[], [0], [0, 1], [0, 1, 2], [], [4], [4, 5], [4, 5, 6], [0, 1, 2, 3, 4, 5, 6, 7], [0, 1, 2, 3, 4, 5, 6, 7, 8], [0, 1, 2, 3, 4, 5, 6, 7, 8, 9], [0, 1, 2, 3, 4, 5, 6, 7, 8, 9], [0, 1, 2, 3, 4, 5, 6, 7, 8, 9], [0, 1, 2, 3, 4, 5, 6, 7, 8, 9, 10], [0, 1, 2, 3, 4, 5, 6, 7, 8, 9, 10, 11, 13], [0, 1, 2, 3, 4, 5, 6, 7, 8, 9, 10, 11, 12, 13, 14]]) (S := [0, 1, 2, 3, 4, 5, 6, 7, 8, 9, 10, 11, 12, 13, 14, 15]) (F := []) (V := VL [(0, fun v _ => v = .pointer (some r_1)), (1, fun v _ => v = .pointer (some r_1)), (2, fun v _ => v = .pointer (some (r_1.add 0))), (3, fun v _ => v = Sl.v x_12), (4, fun v _ => v = .pointer (some r_1)), (5, fun v _ => v = .pointer (some r_1)), (6, fun v _ => v = .pointer (some (r_1.add 1))), (7, fun v _ => v = .int .i64 x_18), (8, fun v _ => v = .tuple #[.int .u64 r_0_23, .int .i64 r_1_24, .int .i64 r_2_25]), (9, fun v _ => v = .tuple #[.int .u64 r_0_23, .int .i64 r_1_24, .int .i64 r_2_25]), (10, fun v _ => v = .int .u64 r_0_23), (11, fun v _ => v = .int .i64 r_1_24), (12, fun v _ => v = .int .i64 r_2_25), (13, fun v _ => v = .int .u64 r_0_23), (14, fun v _ => v = .int .i64 r_1_24), (15, fun v _ => v = .int .i64 r_2_25)]) hA4 (by kernel_rfl) ⟨fun _ _ _ _ h => by first | exact h | (change _ = _ at h; change _ = _; exact h), fun _ _ _ _ h => by first | exact h | (change _ = _ at h; change _ = _; exact h), fun _ _ _ _ h => by first | exact h | (change _ = _ at h; change _ = _; exact h), fun _ _ _ _ h => by first | exact h | (change _ = _ at h; change _ = _; exact h), fun _ _ _ _ h => by first | exact h | (change _ = _ at h; change _ = _; exact h), fun _ _ _ _ h => by first | exact h | (change _ = _ at h; change _ = _; exact h), fun _ _ _ _ h => by first | exact h | (change _ = _ at h; change _ = _; exact h), fun _ _ _ _ h => by first | exact h | (change _ = _ at h; change _ = _; exact h), fun _ _ _ _ h => by first | exact h | (change _ = _ at h; change _ = _; exact h), fun _ _ _ _ h => by first | exact h | (change _ = _ at h; change _ = _; exact h), fun _ _ _ _ h => by first | exact h | (change _ = _ at h; change _ = _; exact h), fun _ _ _ _ h => by first | exact h | (change _ = _ at h; change _ = _; exact h), fun _ _ _ _ h => by first | exact h | (change _ = _ at h; change _ = _; exact h), fun _ _ _ _ h => by first | exact h | (change _ = _ at h; change _ = _; exact h), fun _ _ _ _ h => by first | exact h | (change _ = _ at h; change _ = _; exact h), fun _ _ _ _ h => by first | exact h | (change _ = _ at h; change _ = _; exact h), trivial⟩ ⟨?_, ?_, ?_, ?_, ?_, ?_, ?_, ?_, ?_, ?_, ?_, ?_, ?_, ?_, ?_, ?_, trivial⟩ ?_
  · intro a w hT
    have hAp := hT.ag hA4 [(0, .pointer (some r_1))] ⟨rfl, trivial⟩ (by kernel_rfl)
    exact opk_val hAp rfl (r_move (hAp.get rfl)) fun _ _ e => ⟨_, e, Chg.refl _ _, fun _ => Eq.refl _⟩
  · intro a w hT
    have hAp := hT.ag hA4 [] trivial (by kernel_rfl)
    have e9 : a.tmps.getD 9 undef = .pointer (some r_1) := hT.vals 0 rfl 9 rfl
    have hAp := hAp.add e9
    exact opk_val hAp rfl (r_nilCheck (hAp.get rfl)) fun _ _ e => ⟨_, e, Chg.refl _ _, fun _ => Eq.refl _⟩
  · intro a w hT
    have hAp := hT.ag hA4 [] trivial (by kernel_rfl)
    have e10 : a.tmps.getD 10 undef = .pointer (some r_1) := hT.vals 1 rfl 10 rfl
    have hAp := hAp.add e10
    exact opk_val hAp rfl (r_fieldAddr (hAp.get rfl) Try.underlying70 rfl ti_24 (by decide)) fun _ _ e => ⟨_, e, Chg.refl _ _, fun _ => Eq.refl _⟩
  · intro a w hT
    have hAp := hT.ag hA4 [] trivial (by kernel_rfl)
    have e11 : a.tmps.getD 11 undef = .pointer (some (r_1.add 0)) := hT.vals 2 rfl 11 rfl
    have hAp := hAp.add e11
    exact opk_val hAp rfl (r_load1 Try.underlying24 rfl (hAp.get rfl) (Ext.cell hT.chg hx13)) fun _ _ e => ⟨_, e, Chg.refl _ _, fun _ => Eq.refl _⟩
  · intro a w hT
    have hAp := hT.ag hA4 [(0, .pointer (some r_1))] ⟨rfl, trivial⟩ (by kernel_rfl)
    exact opk_val hAp rfl (r_move (hAp.get rfl)) fun _ _ e => ⟨_, e, Chg.refl _ _, fun _ => Eq.refl _⟩
  · intro a w hT
    have hAp := hT.ag hA4 [] trivial (by kernel_rfl)
    have e15 : a.tmps.getD 13 undef = .pointer (some r_1) := hT.vals 4 rfl 13 rfl
    have hAp := hAp.add e15
    exact opk_val hAp rfl (r_nilCheck (hAp.get rfl)) fun _ _ e => ⟨_, e, Chg.refl _ _, fun _ => Eq.refl _⟩
  · intro a w hT
    have hAp := hT.ag hA4 [] trivial (by kernel_rfl)
    have e16 : a.tmps.getD 14 undef = .pointer (some r_1) := hT.vals 5 rfl 14 rfl
    have hAp := hAp.add e16
    exact opk_val hAp rfl (r_fieldAddr (hAp.get rfl) Try.underlying70 rfl ti_3 (by decide)) fun _ _ e => ⟨_, e, Chg.refl _ _, fun _ => Eq.refl _⟩
  · intro a w hT
    have hAp := hT.ag hA4 [] trivial (by kernel_rfl)
    have e17 : a.tmps.getD 15 undef = .pointer (some (r_1.add 1)) := hT.vals 6 rfl 15 rfl
    have hAp := hAp.add e17
    exact opk_val hAp rfl (r_load1 Try.underlying3 rfl (hAp.get rfl) (Ext.cell hT.chg hx19)) fun _ _ e => ⟨_, e, Chg.refl _ _, fun _ => Eq.refl _⟩
  · intro a w hT
    have hAp := hT.ag hA4 [] trivial (by kernel_rfl)
    have e21 : a.tmps.getD 12 undef = Sl.v x_12 := hT.vals 3 rfl 12 rfl
    have hAp := hAp.add e21
    have e22 : a.tmps.getD 16 undef = .int .i64 x_18 := hT.vals 7 rfl 16 rfl
    have hAp := hAp.add e22
    exact opk_callX hAp rfl (r_call (args := #[Sl.v x_12, .int .i64 x_18]) Try.func49 (by decide) rfl (map_arr (ml_cons (hAp.get rfl) (ml_cons (hAp.get rfl) ml_nil))) rfl) (hc26 w hT.chg) fun _ _ _ _ e hR => ⟨_, e, hR.1, fun _ => hR.2⟩
  · intro a w hT
    have hAp := hT.ag hA4 [] trivial (by kernel_rfl)
    have e28 : a.tmps.getD 17 undef = .tuple #[.int .u64 r_0_23, .int .i64 r_1_24, .int .i64 r_2_25] := hT.vals 8 rfl 17 rfl
    have hAp := hAp.add e28
    exact opk_val hAp rfl (r_move (hAp.get rfl)) fun _ _ e => ⟨_, e, Chg.refl _ _, fun _ => Eq.refl _⟩
  · intro a w hT
    have hAp := hT.ag hA4 [] trivial (by kernel_rfl)
    have e29 : a.tmps.getD 8 undef = .tuple #[.int .u64 r_0_23, .int .i64 r_1_24, .int .i64 r_2_25] := hT.vals 9 rfl 8 rfl
    have hAp := hAp.add e29
    exact opk_val hAp rfl (r_extract (hAp.get rfl) rfl) fun _ _ e => ⟨_, e, Chg.refl _ _, fun _ => Eq.refl _⟩
  · intro a w hT
    have hAp := hT.ag hA4 [] trivial (by kernel_rfl)
    have e30 : a.tmps.getD 8 undef = .tuple #[.int .u64 r_0_23, .int .i64 r_1_24, .int .i64 r_2_25] := hT.vals 9 rfl 8 rfl
    have hAp := hAp.add e30
    exact opk_val hAp rfl (r_extract (hAp.get rfl) rfl) fun _ _ e => ⟨_, e, Chg.refl _ _, fun _ => Eq.refl _⟩
  · intro a w hT
    have hAp := hT.ag hA4 [] trivial (by kernel_rfl)
    have e31 : a.tmps.getD 8 undef = .tuple #[.int .u64 r_0_23, .int .i64 r_1_24, .int .i64 r_2_25] := hT.vals 9 rfl 8 rfl
    have hAp := hAp.add e31
    exact opk_val hAp rfl (r_extract (hAp.get rfl) rfl) fun _ _ e => ⟨_, e, Chg.refl _ _, fun _ => Eq.refl _⟩
  · intro a w hT
    have hAp := hT.ag hA4 [] trivial (by kernel_rfl)
    have e32 : a.tmps.getD 18 undef = .int .u64 r_0_23 := hT.vals 10 rfl 18 rfl
    have hAp := hAp.add e32
    exact opk_val hAp rfl (r_assign (hAp.get rfl)) fun _ _ e => ⟨_, e, Chg.refl _ _, fun _ => Eq.refl _⟩
  · intro a w hT
    have hAp := hT.ag hA4 [] trivial (by kernel_rfl)
    have e33 : a.tmps.getD 19 undef = .int .i64 r_1_24 := hT.vals 11 rfl 19 rfl
    have hAp := hAp.add e33
    exact opk_val hAp rfl (r_assign (hAp.get rfl)) fun _ _ e => ⟨_, e, Chg.refl _ _, fun _ => Eq.refl _⟩
  · intro a w hT
    have hAp := hT.ag hA4 [] trivial (by kernel_rfl)
    have e34 : a.tmps.getD 20 undef = .int .i64 r_2_25 := hT.vals 12 rfl 20 rfl
    have hAp := hAp.add e34
    exact opk_val hAp rfl (r_assign (hAp.get rfl)) fun _ _ e => ⟨_, e, Chg.refl _ _, fun _ => Eq.refl _⟩
  · intro a35 w36 hE37 hag38 hv39
    have hA35 := hag38 [(0, .pointer (some r_1)), (1, .int .i64 most_2)] ⟨rfl, rfl, trivial⟩ (by kernel_rfl)
    have e41 : a35.tmps.getD 5 undef = .int .u64 r_0_23 := hv39 13 rfl 5 rfl
    have hA42 := hA35.add e41
    have e43 : a35.tmps.getD 6 undef = .int .i64 r_1_24 := hv39 14 rfl 6 rfl
    have hA44 := hA42.add e43
    have e45 : a35.tmps.getD 7 undef = .int .i64 r_2_25 := hv39 15 rfl 7 rfl
    have hA46 := hA44.add e45
    have hC47 : Chg [] w5 w36 := hE37
    refine PR_end (by kernel_rfl) ?_
    have hA48 := hA46.keep [(0, .pointer (some r_1)), (1, .int .i64 most_2), (5, .int .u64 r_0_23), (6, .int .i64 r_1_24), (7, .int .i64 r_2_25)] ⟨rfl, rfl, rfl, rfl, rfl, trivial⟩
    refine then_normal ?_
    refine wp_seq ?_
    refine wp_seq ?_
    refine wp_region_lit ?_
    refine sq (opk_val hA48 rfl (r_move (hA48.get rfl)) fun a49 hA49 _ => ?_)
    refine sq (opk_val hA49 rfl (r_nilCheck (hA49.get rfl)) fun a50 hA50 _ => ?_)
    refine sq (opk_val hA50 rfl (r_fieldAddr (hA50.get rfl) Try.underlying70 rfl ti_4 (by decide)) fun a51 hA51 _ => ?_)
    have ht53 := ht27 w36    hC47
    obtain ⟨x_54, hx55, ht56⟩ := ht53
    refine sq (opk_val hA51 rfl (r_load1 Try.underlying4 rfl (hA51.get rfl) hx55) fun a52 hA52 _ => ?_)
    refine sq (opk_val hA52 rfl (r_move (hA52.get rfl)) fun a57 hA57 _ => ?_)
    refine sq (opk_gval hA57 rfl rfl (g := true) (e := x_54) rfl (fun hg => r_move (hA57.get rfl)) fun a58 hA58 _ => ?_)
    refine sq (opk_gval hA58 rfl rfl (g := true) (e := x_54) rfl (fun hg => r_neq (cv_get (hA58.get rfl) hg) rfl) fun a59 hA59 _ => ?_)
    refine sq (opk_val hA59 rfl (r_pick_or (g := (true && (x_54 == false))) (hA59.get rfl) (hA59.get rfl) (fun he => g_mkf rfl he)) fun a60 hA60 _ => ?_)
    refine sq (opk_val hA60 rfl (r_move (hA60.get rfl)) fun a61 hA61 _ => ?_)
    refine sq (opk_gval hA61 rfl rfl (g := true) (e := (x_54 || (decide (r_2_25 ≠ 0)))) rfl (fun hg => r_move (hA61.get rfl)) fun a62 hA62 _ => ?_)
    refine sq (opk_gval hA62 rfl rfl (g := true) (e := (x_54 || (decide (r_2_25 ≠ 0)))) rfl (fun hg => r_move (hA62.get rfl)) fun a63 hA63 _ => ?_)
    refine sq (opk_gval hA63 rfl rfl (g := true) (e := (x_54 || (decide (r_2_25 ≠ 0)))) rfl (fun hg => r_conv (cv_get (hA63.get rfl) hg) rfl Try.underlying22) fun a64 hA64 _ => ?_)
    refine sq (opk_gval hA64 rfl rfl (g := true) (e := (x_54 || (decide (r_2_25 ≠ 0)))) rfl (fun hg => r_gtr (cv_get (hA64.get rfl) hg) (cv_get (hA64.get rfl) hg)) fun a65 hA65 _ => ?_)
    refine sq (opk_val hA65 rfl (r_pick_or (g := (true && ((x_54 || (decide (r_2_25 ≠ 0))) == false))) (hA65.get rfl) (hA65.get rfl) (fun he => g_mkf rfl he)) fun a66 hA66 _ => ?_)
    refine sq_end ?_
    have hA67 := hA66.keep [(0, .pointer (some r_1)), (5, .int .u64 r_0_23), (6, .int .i64 r_1_24), (34, .bool ((x_54 || (decide (r_2_25 ≠ 0))) || (decide ((IntKind.u64.wrap most_2) < r_0_23))))] ⟨rfl, rfl, rfl, rfl, trivial⟩
    refine then_normal ?_
    refine wp_cond_split (hA67.get rfl) (fun hc => ?_) (fun hc => ?_)
    · have ht68 := ht56.1 ((b_or_t hc).imp (fun h => ((b_or_t h).imp (fun h => h) (fun h => (of_decide_eq_true h)))) (fun h => (of_decide_eq_true h)))
      clear hc
      refine wp_seq ?_
      refine wp_region_lit ?_
      refine sq (opk_val hA67 rfl (r_move (hA67.get rfl)) fun a70 hA70 _ => ?_)
      refine sq (opk_val hA70 rfl (r_nilCheck (hA70.get rfl)) fun a71 hA71 _ => ?_)
      refine sq (opk_val hA71 rfl (r_fieldAddr (hA71.get rfl) Try.underlying70 rfl ti_4 (by decide)) fun a72 hA72 _ => ?_)
      obtain ⟨B_77, o_78, T_79, cs_80, he81, hb82, hl83, hx84, ht85⟩ := ht68
      refine sq (opk_store hA72 hb82 (r_store (vs := [.bool true]) (((hA72.get rfl)).trans (congrArg (fun a => Value.pointer (some a)) he81)) rfl rfl ti_4 hb82 (Nat.ble_eq_true_of_le hl83) (ones_all [.bool true] rfl)) fun a74 w73 hS75 hB76 hA74 => ?_)
      have ht86 := ht85 w73 hS75 hB76
      refine sq_end ?_
      have hA87 := hA74.keep [] trivial
      refine then_normal ?_
      refine wp_seq ?_
      refine wp_region_lit ?_
      refine sq (opk_val hA87 rfl (r_assign rfl) fun a88 hA88 _ => ?_)
      refine sq_end ?_
      have hA89 := hA88.keep [(4, .int .i64 0)] ⟨rfl, trivial⟩
      refine then_normal ?_
      refine wp_ret ?_
      refine then_ret ?_
      exact res_all (vs := [.int .i64 0]) rfl hA89 ⟨res_of_tmp hA89 rfl, trivial⟩ ht86
    · have ht69 := ht56.2 ⟨⟨(b_or_f (b_or_f hc).1).1, (of_decide_eq_false (b_or_f (b_or_f hc).1).2)⟩, (of_decide_eq_false (b_or_f hc).2)⟩
      clear hc
      refine wp_skip ?_
      refine then_normal ?_
      refine wp_seq ?_
      refine wp_region_lit ?_
      refine sq (opk_val hA67 rfl (r_move (hA67.get rfl)) fun a90 hA90 _ => ?_)
      refine sq (opk_val hA90 rfl (r_move (hA90.get rfl)) fun a91 hA91 _ => ?_)
      refine sq (opk_val hA91 rfl (r_nilCheck (hA91.get rfl)) fun a92 hA92 _ => ?_)
      refine sq (opk_val hA92 rfl (r_fieldAddr (hA92.get rfl) Try.underlying70 rfl ti_3 (by decide)) fun a93 hA93 _ => ?_)
      obtain ⟨B_98, o_99, T_100, cs_101, he102, hb103, hl104, hx105, ht106⟩ := ht69
      refine sq (opk_store hA93 hb103 (r_store (vs := [.int .i64 r_1_24]) (((hA93.get rfl)).trans (congrArg (fun a => Value.pointer (some a)) he102)) (hA93.get rfl) rfl ti_3 hb103 (Nat.ble_eq_true_of_le hl104) (ones_all [.int .i64 r_1_24] rfl)) fun a95 w94 hS96 hB97 hA95 => ?_)
      have ht107 := ht106 w94 hS96 hB97
      refine sq_end ?_
      have hA108 := hA95.keep [(5, .int .u64 r_0_23)] ⟨rfl, trivial⟩
      refine then_normal ?_
      refine wp_seq ?_
      refine wp_region_lit ?_
      refine sq (opk_val hA108 rfl (r_move (hA108.get rfl)) fun a109 hA109 _ => ?_)
      refine sq (opk_val hA109 rfl (r_conv (hA109.get rfl) rfl Try.underlying3) fun a110 hA110 _ => ?_)
      refine sq (opk_val hA110 rfl (r_assign (hA110.get rfl)) fun a111 hA111 _ => ?_)
      refine sq_end ?_
      have hA112 := hA111.keep [(4, .int .i64 (IntKind.i64.wrap r_0_23))] ⟨rfl, trivial⟩
      refine then_normal ?_
      refine wp_ret ?_
      exact res_all (vs := [.int .i64 (IntKind.i64.wrap r_0_23)]) rfl hA112 ⟨res_of_tmp hA112 rfl, trivial⟩ ht107

/-- The condition of (*topiary/topiaryref24.R).one. -/
def ref24_R_one.vc (r_1 : Addr) (strings_2 : Sl) (R : Value → World → Prop) (w : World) : Prop :=
∀ (w4 : World) (B_3 : Nat), New w B_3 w4 → Chg [] w w4 →
CallK Try.prog 38 #[.pointer (some r_1), .int .i64 127] w4 [B_3] (fun v w16 => ∃ (r_14 : Int), v = .int .i64 r_14 ∧
CallK Try.prog 38 #[.pointer (some r_1), .int .i64 1048576] w16 [B_3] (fun v w26 => ∃ (r_24 : Int), v = .int .i64 r_24 ∧
∀ (w44 : World) (B_34 : Nat), New w26 B_34 w44 → Chg [] w26 w44 →
∃ J_107 : Int → Int → World → Prop,
((((r_14 = 1) ∨ (r_14 = 3)) →
CallK Try.prog 38 #[.pointer (some r_1), .int .i64 9223372036854775807] w44 [B_3, B_34] (fun v w115 => ∃ (r_113 : Int), v = .int .i64 r_113 ∧
CallK Try.prog 38 #[.pointer (some r_1), .int .i64 9223372036854775807] w115 [B_3, B_34] (fun v w126 => ∃ (r_124 : Int), v = .int .i64 r_124 ∧
∀ (w143 : World), Chg [B_34] w126 w143 →
J_107 r_113 r_124 w143))) ∧
(((¬ (r_14 = 1)) ∧ (¬ (r_14 = 3))) →
J_107 0 0 w44)) ∧
(∀ (c_104 : Int) (c_105 : Int) (w106 : World), J_107 c_104 c_105 w106 →
∃ J_186 : Int → World → Prop,
(((r_14 = 1) →
CallK Try.prog 38 #[.pointer (some r_1), .int .i64 5] w106 [B_3, B_34] (fun v w194 => ∃ (r_192 : Int), v = .int .i64 r_192 ∧
∀ (w203 : World), Chg [B_34] w194 w203 →
J_186 r_192 w203)) ∧
((¬ (r_14 = 1)) →
J_186 0 w106)) ∧
(∀ (c_184 : Int) (w185 : World), J_186 c_184 w185 →
∃ J_257 : Str → World → Prop,
(((((r_14 = 1) ∨ (r_14 = 4)) ∨ (r_14 = 5)) →
CallK Try.prog 50 #[.pointer (some r_1), Sl.v strings_2] w185 [B_3, B_34] (fun v w266 => ∃ (r_264 : Str), v = .string (Bs r_264) ∧
∀ (w275 : World), Chg [B_34] w266 w275 →
J_257 r_264 w275)) ∧
((((¬ (r_14 = 1)) ∧ (¬ (r_14 = 4))) ∧ (¬ (r_14 = 5))) →
J_257 ([] : Str) w185)) ∧
(∀ (c_255 : Str) (w256 : World), J_257 c_255 w256 →
((((r_14 = 1) ∨ (r_14 = 4)) ∨ (r_14 = 6)) →
CallK Try.prog 50 #[.pointer (some r_1), Sl.v strings_2] w256 [B_3, B_34] (fun v w310 => ∃ (r_308 : Str), v = .string (Bs r_308) ∧
∀ (w328 : World), Chg [B_3, B_34] w310 w328 →
R (.agg #[.int .i64 r_14, .int .i64 r_24, .int .i64 c_104, .int .i64 c_105, .int .i64 c_184, .string (Bs c_255), .string (Bs r_308)]) w328)) ∧
((((¬ (r_14 = 1)) ∧ (¬ (r_14 = 4))) ∧ (¬ (r_14 = 6))) →
∀ (w338 : World), Chg [B_3] w256 w338 →
R (.agg #[.int .i64 r_14, .int .i64 r_24, .int .i64 c_104, .int .i64 c_105, .int .i64 c_184, .string (Bs c_255), .string (Bs ([] : Str))]) w338))))))
set_option maxHeartbeats 1000000 in
set_option maxRecDepth 10000 in
theorem ref24_R_one.ok (r_1 : Addr) (strings_2 : Sl) {R : Value → World → Prop} {w : World} (ht0 : ref24_R_one.vc r_1 strings_2 R w) : Calls Try.prog 40 #[.pointer (some r_1), Sl.v strings_2] w (Ret R) := by
  refine enter [.pointer (some r_1), Sl.v strings_2] Try.func40 rfl Try.ntmps40 rfl ?_
  intro a0 hA0
  unfold ref24_R_one.vc at ht0
  refine wp_seq ?_
  refine wp_region_lit ?_
  refine sq (opk_new (fun B => .pointer (some ⟨B, 0, none⟩)) hA0 rfl (r_alloc (cs := [.int .i64 0, .int .i64 0, .int .i64 0, .int .i64 0, .int .i64 0, .string (Bs ([] : Str)), .string (Bs ([] : Str))]) ti_42 rfl) fun a5 w4 B_3 hE6 hN7 hB8 hA5 _ => ?_)
  have hN9 : New w B_3 w4 := hN7
  have hC10 : Chg [] w w4 := hE6
  refine sq_end ?_
  have hA11 := hA5.keep [(0, .pointer (some r_1)), (1, Sl.v strings_2), (4, .pointer (some (⟨B_3, 0, none⟩ : Addr)))] ⟨rfl, rfl, rfl, trivial⟩
  refine then_normal ?_
  refine wp_seq ?_
  refine wp_region_lit ?_
  refine sq (opk_val hA11 rfl (r_move (hA11.get rfl)) fun a12 hA12 _ => ?_)
  have ht13 := ht0 w4 B_3 hN9  hC10
  refine sq (opk_call hA12 rfl (r_call (args := #[.pointer (some r_1), .int .i64 127]) Try.func38 (by decide) rfl (map_arr (ml_cons (hA12.get rfl) (ml_cons rfl ml_nil))) rfl) ht13 fun a15 v21 w16 hA15 _ hn18 hz19 hK20 => ?_)
  obtain ⟨r_14, rfl, ht17⟩ := hK20
  have hB22 := hB8.kept hn18 (.head _)
  refine sq (opk_val hA15 rfl (r_move (hA15.get rfl)) fun a23 hA23 _ => ?_)
  refine sq (opk_call hA23 rfl (r_call (args := #[.pointer (some r_1), .int .i64 1048576]) Try.func38 (by decide) rfl (map_arr (ml_cons (hA23.get rfl) (ml_cons rfl ml_nil))) rfl) ht17 fun a25 v31 w26 hA25 _ hn28 hz29 hK30 => ?_)
  obtain ⟨r_24, rfl, ht27⟩ := hK30
  have hB32 := hB22.kept hn28 (.head _)
  refine sq (opk_val hA25 rfl (r_build (vs := #[(0, .int .i64 r_14), (1, .int .i64 r_24)]) (cells := #[.int .i64 r_14, .int .i64 r_24, .int .i64 0, .int .i64 0, .int .i64 0, .string (Bs ([] : Str)), .string (Bs ([] : Str))]) (map_arr2 (ml2_cons (hA25.get rfl) (ml2_cons (hA25.get rfl) (ml2_nil)))) ti_42 Try.underlying42 pl_42 (by kernel_rfl)) fun a33 hA33 _ => ?_)
  refine sq (opk_new (fun B => .pointer (some ⟨B, 0, none⟩)) hA33 rfl (r_alloc (cs := [.int .i64 0, .int .i64 0, .int .i64 0, .int .i64 0, .int .i64 0, .string (Bs ([] : Str)), .string (Bs ([] : Str))]) ti_42 rfl) fun a36 w35 B_34 hE37 hN38 hB39 hA36 _ => ?_)
  have hne40 : B_3 ≠ B_34 := Nat.ne_of_lt (Nat.lt_of_lt_of_le hB32.lt hN38.ge)
  have hN41 : New w26 B_34 w35 := hN38
  have hB42 := hB32.ext hE37
  have hC43 : Chg [] w26 w35 := hE37
  refine sq (opk_store hA36 hB39 (r_store (vs := [.int .i64 r_14, .int .i64 r_24, .int .i64 0, .int .i64 0, .int .i64 0, .string (Bs ([] : Str)), .string (Bs ([] : Str))]) (hA36.get rfl) (hA36.get rfl) rfl ti_42 hB39 rfl (ones_all [.int .i64 r_14, .int .i64 r_24, .int .i64 0, .int .i64 0, .int .i64 0, .string (Bs ([] : Str)), .string (Bs ([] : Str))] rfl)) fun a45 w44 hS46 hB47 hA45 => ?_)
  have hB48 : Box w44 B_34 42 [.int .i64 r_14, .int .i64 r_24, .int .i64 0, .int .i64 0, .int .i64 0, .string (Bs ([] : Str)), .string (Bs ([] : Str))] := hB47
  have hB49 := hB42.keep hS46 (by simpa using hne40)
  have hC50 := hC43.storeNew hN41 hS46
  have hN51 := hN41.up hS46.size
  refine sq_end ?_
  have hA52 := hA45.keep [(0, .pointer (some r_1)), (1, Sl.v strings_2), (4, .pointer (some (⟨B_3, 0, none⟩ : Addr))), (5, .pointer (some (⟨B_34, 0, none⟩ : Addr)))] ⟨rfl, rfl, rfl, rfl, trivial⟩
  refine then_normal ?_
  refine wp_seq ?_
  refine wp_seq ?_
  refine wp_region_lit ?_
  refine sq (opk_val hA52 rfl (r_fieldAddr (hA52.get rfl) Try.underlying42 rfl ti_3 (by decide)) fun a53 hA53 _ => ?_)
  refine sq (opk_val hA53 rfl (r_load1 Try.underlying3 rfl (hA53.get rfl) (hB48.cell 0 _ rfl)) fun a54 hA54 _ => ?_)
  refine sq (opk_val hA54 rfl (r_eql (hA54.get rfl) rfl) fun a55 hA55 _ => ?_)
  refine sq (opk_val hA55 rfl (r_move (hA55.get rfl)) fun a56 hA56 _ => ?_)
  refine sq (opk_gval hA56 rfl rfl (g := true) (e := (decide (r_14 = 1))) rfl (fun hg => r_fieldAddr (hA56.get rfl) Try.underlying42 rfl ti_3 (by decide)) fun a57 hA57 _ => ?_)
  refine sq (opk_gval hA57 rfl rfl (g := true) (e := (decide (r_14 = 1))) rfl (fun hg => r_load1 Try.underlying3 rfl (cv_get (hA57.get rfl) hg) (hB48.cell 0 _ rfl)) fun a58 hA58 _ => ?_)
  refine sq (opk_gval hA58 rfl rfl (g := true) (e := (decide (r_14 = 1))) rfl (fun hg => r_eql (cv_get (hA58.get rfl) hg) rfl) fun a59 hA59 _ => ?_)
  refine sq (opk_val hA59 rfl (r_pick_or (g := (true && ((decide (r_14 = 1)) == false))) (hA59.get rfl) (hA59.get rfl) (fun he => g_mkf rfl he)) fun a60 hA60 _ => ?_)
  refine sq_end ?_
  have hA61 := hA60.keep [(0, .pointer (some r_1)), (1, Sl.v strings_2), (4, .pointer (some (⟨B_3, 0, none⟩ : Addr))), (5, .pointer (some (⟨B_34, 0, none⟩ : Addr))), (18, .bool ((decide (r_14 = 1)) || (decide (r_14 = 3))))] ⟨rfl, rfl, rfl, rfl, rfl, trivial⟩
  refine then_normal ?_
  have ht62 := ht27 w44 B_34 hN51  hC50
  obtain ⟨J_107, ht108, hr109⟩ := ht62
  refine wp_meet (fun a w => ∃ c_104 : Int, ∃ c_105 : Int, Ag 66 a [(0, .pointer (some r_1)), (1, Sl.v strings_2), (4, .pointer (some (⟨B_3, 0, none⟩ : Addr))), (5, .pointer (some (⟨B_34, 0, none⟩ : Addr)))] ∧ Box w B_3 42 [.int .i64 0, .int .i64 0, .int .i64 0, .int .i64 0, .int .i64 0, .string (Bs ([] : Str)), .string (Bs ([] : Str))] ∧ Box w B_34 42 [.int .i64 r_14, .int .i64 r_24, .int .i64 c_104, .int .i64 c_105, .int .i64 0, .string (Bs ([] : Str)), .string (Bs ([] : Str))] ∧ J_107 c_104 c_105 w) ?_ ?_
  · refine wp_cond_split (hA61.get rfl) (fun hc => ?_) (fun hc => ?_)
    · have ht110 := ht108.1 ((b_or_t hc).imp (fun h => (of_decide_eq_true h)) (fun h => (of_decide_eq_true h)))
      clear hc
      refine wp_region_lit ?_
      refine sq (opk_val hA61 rfl (r_move (hA61.get rfl)) fun a112 hA112 _ => ?_)
      refine sq (opk_call hA112 rfl (r_call (args := #[.pointer (some r_1), .int .i64 9223372036854775807]) Try.func38 (by decide) rfl (map_arr (ml_cons (hA112.get rfl) (ml_cons rfl ml_nil))) rfl) ht110 fun a114 v120 w115 hA114 _ hn117 hz118 hK119 => ?_)
      obtain ⟨r_113, rfl, ht116⟩ := hK119
      have hB121 := hB49.kept hn117 (.head _)
      have hB122 := hB48.kept hn117 (.tail _ (.head _))
      refine sq (opk_val hA114 rfl (r_move (hA114.get rfl)) fun a123 hA123 _ => ?_)
      refine sq (opk_call hA123 rfl (r_call (args := #[.pointer (some r_1), .int .i64 9223372036854775807]) Try.func38 (by decide) rfl (map_arr (ml_cons (hA123.get rfl) (ml_cons rfl ml_nil))) rfl) ht116 fun a125 v131 w126 hA125 _ hn128 hz129 hK130 => ?_)
      obtain ⟨r_124, rfl, ht127⟩ := hK130
      have hB132 := hB121.kept hn128 (.head _)
      have hB133 := hB122.kept hn128 (.tail _ (.head _))
      refine sq (opk_val hA125 rfl (r_fieldAddr (hA125.get rfl) Try.underlying42 rfl ti_3 (by decide)) fun a134 hA134 _ => ?_)
      refine sq (opk_store hA134 hB133 (r_store (vs := [.int .i64 r_113]) (hA134.get rfl) (hA134.get rfl) rfl ti_3 hB133 rfl (ones_all [.int .i64 r_113] rfl)) fun a136 w135 hS137 hB138 hA136 => ?_)
      have hB139 : Box w135 B_34 42 [.int .i64 r_14, .int .i64 r_24, .int .i64 r_113, .int .i64 0, .int .i64 0, .string (Bs ([] : Str)), .string (Bs ([] : Str))] := hB138
      have hB140 := hB132.keep hS137 (by simpa using hne40)
      have hC141 : Chg [B_34] w126 w135 := hS137
      refine sq (opk_val hA136 rfl (r_fieldAddr (hA136.get rfl) Try.underlying42 rfl ti_3 (by decide)) fun a142 hA142 _ => ?_)
      refine sq (opk_store hA142 hB139 (r_store (vs := [.int .i64 r_124]) (hA142.get rfl) (hA142.get rfl) rfl ti_3 hB139 rfl (ones_all [.int .i64 r_124] rfl)) fun a144 w143 hS145 hB146 hA144 => ?_)
      have hB147 : Box w143 B_34 42 [.int .i64 r_14, .int .i64 r_24, .int .i64 r_113, .int .i64 r_124, .int .i64 0, .string (Bs ([] : Str)), .string (Bs ([] : Str))] := hB146
      have hB148 := hB140.keep hS145 (by simpa using hne40)
      have hC149 := hC141.storeIn (by simp) hS145
      refine sq_end ?_
      have hA150 := hA144.keep [(0, .pointer (some r_1)), (1, Sl.v strings_2), (4, .pointer (some (⟨B_3, 0, none⟩ : Addr))), (5, .pointer (some (⟨B_34, 0, none⟩ : Addr)))] ⟨rfl, rfl, rfl, rfl, trivial⟩
      have ht151 := ht127 w143    hC149
      have hA152 := hA150.keep [(0, .pointer (some r_1)), (1, Sl.v strings_2), (4, .pointer (some (⟨B_3, 0, none⟩ : Addr))), (5, .pointer (some (⟨B_34, 0, none⟩ : Addr)))] ⟨rfl, rfl, rfl, rfl, trivial⟩
      exact then_normal ⟨r_113, r_124, hA152, hB148, hB147, ht151⟩
    · have ht111 := ht108.2 ⟨(of_decide_eq_false (b_or_f hc).1), (of_decide_eq_false (b_or_f hc).2)⟩
      clear hc
      refine wp_skip ?_
      have hA153 := hA61.keep [(0, .pointer (some r_1)), (1, Sl.v strings_2), (4, .pointer (some (⟨B_3, 0, none⟩ : Addr))), (5, .pointer (some (⟨B_34, 0, none⟩ : Addr)))] ⟨rfl, rfl, rfl, rfl, trivial⟩
      exact then_normal ⟨0, 0, hA153, hB49, hB48, ht111⟩
  · intro a154 w106 hm
    obtain ⟨c_104, c_105, hA154, hB155, hB156, hJ349⟩ := hm
    have ht157 := hr109 c_104 c_105 w106 hJ349
    refine then_normal ?_
    refine wp_seq ?_
    refine wp_seq ?_
    refine wp_region_lit ?_
    refine sq (opk_val hA154 rfl (r_fieldAddr (hA154.get rfl) Try.underlying42 rfl ti_3 (by decide)) fun a158 hA158 _ => ?_)
    refine sq (opk_val hA158 rfl (r_load1 Try.underlying3 rfl (hA158.get rfl) (hB156.cell 0 _ rfl)) fun a159 hA159 _ => ?_)
    refine sq (opk_val hA159 rfl (r_eql (hA159.get rfl) rfl) fun a160 hA160 _ => ?_)
    refine sq_end ?_
    have hA161 := hA160.keep [(0, .pointer (some r_1)), (1, Sl.v strings_2), (4, .pointer (some (⟨B_3, 0, none⟩ : Addr))), (5, .pointer (some (⟨B_34, 0, none⟩ : Addr))), (27, .bool (decide (r_14 = 1)))] ⟨rfl, rfl, rfl, rfl, rfl, trivial⟩
    refine then_normal ?_
    obtain ⟨J_186, ht187, hr188⟩ := ht157
    refine wp_meet (fun a w => ∃ c_184 : Int, Ag 66 a [(0, .pointer (some r_1)), (1, Sl.v strings_2), (4, .pointer (some (⟨B_3, 0, none⟩ : Addr))), (5, .pointer (some (⟨B_34, 0, none⟩ : Addr)))] ∧ Box w B_3 42 [.int .i64 0, .int .i64 0, .int .i64 0, .int .i64 0, .int .i64 0, .string (Bs ([] : Str)), .string (Bs ([] : Str))] ∧ Box w B_34 42 [.int .i64 r_14, .int .i64 r_24, .int .i64 c_104, .int .i64 c_105, .int .i64 c_184, .string (Bs ([] : Str)), .string (Bs ([] : Str))] ∧ J_186 c_184 w) ?_ ?_
    · refine wp_cond_split (hA161.get rfl) (fun hc => ?_) (fun hc => ?_)
      · have ht189 := ht187.1 (of_decide_eq_true hc)
        clear hc
        refine wp_region_lit ?_
        refine sq (opk_val hA161 rfl (r_move (hA161.get rfl)) fun a191 hA191 _ => ?_)
        refine sq (opk_call hA191 rfl (r_call (args := #[.pointer (some r_1), .int .i64 5]) Try.func38 (by decide) rfl (map_arr (ml_cons (hA191.get rfl) (ml_cons rfl ml_nil))) rfl) ht189 fun a193 v199 w194 hA193 _ hn196 hz197 hK198 => ?_)
        obtain ⟨r_192, rfl, ht195⟩ := hK198
        have hB200 := hB155.kept hn196 (.head _)
        have hB201 := hB156.kept hn196 (.tail _ (.head _))
        refine sq (opk_val hA193 rfl (r_fieldAddr (hA193.get rfl) Try.underlying42 rfl ti_3 (by decide)) fun a202 hA202 _ => ?_)
        refine sq (opk_store hA202 hB201 (r_store (vs := [.int .i64 r_192]) (hA202.get rfl) (hA202.get rfl) rfl ti_3 hB201 rfl (ones_all [.int .i64 r_192] rfl)) fun a204 w203 hS205 hB206 hA204 => ?_)
        have hB207 : Box w203 B_34 42 [.int .i64 r_14, .int .i64 r_24, .int .i64 c_104, .int .i64 c_105, .int .i64 r_192, .string (Bs ([] : Str)), .string (Bs ([] : Str))] := hB206
        have hB208 := hB200.keep hS205 (by simpa using hne40)
        have hC209 : Chg [B_34] w194 w203 := hS205
        refine sq_end ?_
        have hA210 := hA204.keep [(0, .pointer (some r_1)), (1, Sl.v strings_2), (4, .pointer (some (⟨B_3, 0, none⟩ : Addr))), (5, .pointer (some (⟨B_34, 0, none⟩ : Addr)))] ⟨rfl, rfl, rfl, rfl, trivial⟩
        have ht211 := ht195 w203    hC209
        have hA212 := hA210.keep [(0, .pointer (some r_1)), (1, Sl.v strings_2), (4, .pointer (some (⟨B_3, 0, none⟩ : Addr))), (5, .pointer (some (⟨B_34, 0, none⟩ : Addr)))] ⟨rfl, rfl, rfl, rfl, trivial⟩
        exact then_normal ⟨r_192, hA212, hB208, hB207, ht211⟩
      · have ht190 := ht187.2 (of_decide_eq_false hc)
        clear hc
        refine wp_skip ?_
        have hA213 := hA161.keep [(0, .pointer (some r_1)), (1, Sl.v strings_2), (4, .pointer (some (⟨B_3, 0, none⟩ : Addr))), (5, .pointer (some (⟨B_34, 0, none⟩ : Addr)))] ⟨rfl, rfl, rfl, rfl, trivial⟩
        exact then_normal ⟨0, hA213, hB155, hB156, ht190⟩
    · intro a214 w185 hm
      obtain ⟨c_184, hA214, hB215, hB216, hJ348⟩ := hm
      have ht217 := hr188 c_184 w185 hJ348
      refine then_normal ?_
      refine wp_seq ?_
      refine wp_seq ?_
      refine wp_region_lit ?_
      refine sq (opk_val hA214 rfl (r_fieldAddr (hA214.get rfl) Try.underlying42 rfl ti_3 (by decide)) fun a218 hA218 _ => ?_)
      refine sq (opk_val hA218 rfl (r_load1 Try.underlying3 rfl (hA218.get rfl) (hB216.cell 0 _ rfl)) fun a219 hA219 _ => ?_)
      refine sq (opk_val hA219 rfl (r_eql (hA219.get rfl) rfl) fun a220 hA220 _ => ?_)
      refine sq (opk_val hA220 rfl (r_move (hA220.get rfl)) fun a221 hA221 _ => ?_)
      refine sq (opk_gval hA221 rfl rfl (g := true) (e := (decide (r_14 = 1))) rfl (fun hg => r_fieldAddr (hA221.get rfl) Try.underlying42 rfl ti_3 (by decide)) fun a222 hA222 _ => ?_)
      refine sq (opk_gval hA222 rfl rfl (g := true) (e := (decide (r_14 = 1))) rfl (fun hg => r_load1 Try.underlying3 rfl (cv_get (hA222.get rfl) hg) (hB216.cell 0 _ rfl)) fun a223 hA223 _ => ?_)
      refine sq (opk_gval hA223 rfl rfl (g := true) (e := (decide (r_14 = 1))) rfl (fun hg => r_eql (cv_get (hA223.get rfl) hg) rfl) fun a224 hA224 _ => ?_)
      refine sq (opk_val hA224 rfl (r_pick_or (g := (true && ((decide (r_14 = 1)) == false))) (hA224.get rfl) (hA224.get rfl) (fun he => g_mkf rfl he)) fun a225 hA225 _ => ?_)
      refine sq (opk_val hA225 rfl (r_move (hA225.get rfl)) fun a226 hA226 _ => ?_)
      refine sq (opk_gval hA226 rfl rfl (g := true) (e := ((decide (r_14 = 1)) || (decide (r_14 = 4)))) rfl (fun hg => r_fieldAddr (hA226.get rfl) Try.underlying42 rfl ti_3 (by decide)) fun a227 hA227 _ => ?_)
      refine sq (opk_gval hA227 rfl rfl (g := true) (e := ((decide (r_14 = 1)) || (decide (r_14 = 4)))) rfl (fun hg => r_load1 Try.underlying3 rfl (cv_get (hA227.get rfl) hg) (hB216.cell 0 _ rfl)) fun a228 hA228 _ => ?_)
      refine sq (opk_gval hA228 rfl rfl (g := true) (e := ((decide (r_14 = 1)) || (decide (r_14 = 4)))) rfl (fun hg => r_eql (cv_get (hA228.get rfl) hg) rfl) fun a229 hA229 _ => ?_)
      refine sq (opk_val hA229 rfl (r_pick_or (g := (true && (((decide (r_14 = 1)) || (decide (r_14 = 4))) == false))) (hA229.get rfl) (hA229.get rfl) (fun he => g_mkf rfl he)) fun a230 hA230 _ => ?_)
      refine sq_end ?_
      have hA231 := hA230.keep [(0, .pointer (some r_1)), (1, Sl.v strings_2), (4, .pointer (some (⟨B_3, 0, none⟩ : Addr))), (5, .pointer (some (⟨B_34, 0, none⟩ : Addr))), (43, .bool (((decide (r_14 = 1)) || (decide (r_14 = 4))) || (decide (r_14 = 5))))] ⟨rfl, rfl, rfl, rfl, rfl, trivial⟩
      refine then_normal ?_
      obtain ⟨J_257, ht258, hr259⟩ := ht217
      refine wp_meet (fun a w => ∃ c_255 : Str, Ag 66 a [(0, .pointer (some r_1)), (1, Sl.v strings_2), (4, .pointer (some (⟨B_3, 0, none⟩ : Addr))), (5, .pointer (some (⟨B_34, 0, none⟩ : Addr)))] ∧ Box w B_3 42 [.int .i64 0, .int .i64 0, .int .i64 0, .int .i64 0, .int .i64 0, .string (Bs ([] : Str)), .string (Bs ([] : Str))] ∧ Box w B_34 42 [.int .i64 r_14, .int .i64 r_24, .int .i64 c_104, .int .i64 c_105, .int .i64 c_184, .string (Bs c_255), .string (Bs ([] : Str))] ∧ J_257 c_255 w) ?_ ?_
      · refine wp_cond_split (hA231.get rfl) (fun hc => ?_) (fun hc => ?_)
        · have ht260 := ht258.1 ((b_or_t hc).imp (fun h => ((b_or_t h).imp (fun h => (of_decide_eq_true h)) (fun h => (of_decide_eq_true h)))) (fun h => (of_decide_eq_true h)))
          clear hc
          refine wp_region_lit ?_
          refine sq (opk_val hA231 rfl (r_move (hA231.get rfl)) fun a262 hA262 _ => ?_)
          refine sq (opk_val hA262 rfl (r_move (hA262.get rfl)) fun a263 hA263 _ => ?_)
          refine sq (opk_call hA263 rfl (r_call (args := #[.pointer (some r_1), Sl.v strings_2]) Try.func50 (by decide) rfl (map_arr (ml_cons (hA263.get rfl) (ml_cons (hA263.get rfl) ml_nil))) rfl) ht260 fun a265 v271 w266 hA265 _ hn268 hz269 hK270 => ?_)
          obtain ⟨r_264, rfl, ht267⟩ := hK270
          have hB272 := hB215.kept hn268 (.head _)
          have hB273 := hB216.kept hn268 (.tail _ (.head _))
          refine sq (opk_val hA265 rfl (r_fieldAddr (hA265.get rfl) Try.underlying42 rfl ti_9 (by decide)) fun a274 hA274 _ => ?_)
          refine sq (opk_store hA274 hB273 (r_store (vs := [.string (Bs r_264)]) (hA274.get rfl) (hA274.get rfl) rfl ti_9 hB273 rfl (ones_all [.string (Bs r_264)] rfl)) fun a276 w275 hS277 hB278 hA276 => ?_)
          have hB279 : Box w275 B_34 42 [.int .i64 r_14, .int .i64 r_24, .int .i64 c_104, .int .i64 c_105, .int .i64 c_184, .string (Bs r_264), .string (Bs ([] : Str))] := hB278
          have hB280 := hB272.keep hS277 (by simpa using hne40)
          have hC281 : Chg [B_34] w266 w275 := hS277
          refine sq_end ?_
          have hA282 := hA276.keep [(0, .pointer (some r_1)), (1, Sl.v strings_2), (4, .pointer (some (⟨B_3, 0, none⟩ : Addr))), (5, .pointer (some (⟨B_34, 0, none⟩ : Addr)))] ⟨rfl, rfl, rfl, rfl, trivial⟩
          have ht283 := ht267 w275    hC281
          have hA284 := hA282.keep [(0, .pointer (some r_1)), (1, Sl.v strings_2), (4, .pointer (some (⟨B_3, 0, none⟩ : Addr))), (5, .pointer (some (⟨B_34, 0, none⟩ : Addr)))] ⟨rfl, rfl, rfl, rfl, trivial⟩
          exact then_normal ⟨r_264, hA284, hB280, hB279, ht283⟩
        · have ht261 := ht258.2 ⟨⟨(of_decide_eq_false (b_or_f (b_or_f hc).1).1), (of_decide_eq_false (b_or_f (b_or_f hc).1).2)⟩, (of_decide_eq_false (b_or_f hc).2)⟩
          clear hc
          refine wp_skip ?_
          have hA285 := hA231.keep [(0, .pointer (some r_1)), (1, Sl.v strings_2), (4, .pointer (some (⟨B_3, 0, none⟩ : Addr))), (5, .pointer (some (⟨B_34, 0, none⟩ : Addr)))] ⟨rfl, rfl, rfl, rfl, trivial⟩
          exact then_normal ⟨([] : Str), hA285, hB215, hB216, ht261⟩
      · intro a286 w256 hm
        obtain ⟨c_255, hA286, hB287, hB288, hJ347⟩ := hm
        have ht289 := hr259 c_255 w256 hJ347
        refine then_normal ?_
        refine wp_seq ?_
        refine wp_seq ?_
        refine wp_region_lit ?_
        refine sq (opk_val hA286 rfl (r_fieldAddr (hA286.get rfl) Try.underlying42 rfl ti_3 (by decide)) fun a290 hA290 _ => ?_)
        refine sq (opk_val hA290 rfl (r_load1 Try.underlying3 rfl (hA290.get rfl) (hB288.cell 0 _ rfl)) fun a291 hA291 _ => ?_)
        refine sq (opk_val hA291 rfl (r_eql (hA291.get rfl) rfl) fun a292 hA292 _ => ?_)
        refine sq (opk_val hA292 rfl (r_move (hA292.get rfl)) fun a293 hA293 _ => ?_)
        refine sq (opk_gval hA293 rfl rfl (g := true) (e := (decide (r_14 = 1))) rfl (fun hg => r_fieldAddr (hA293.get rfl) Try.underlying42 rfl ti_3 (by decide)) fun a294 hA294 _ => ?_)
        refine sq (opk_gval hA294 rfl rfl (g := true) (e := (decide (r_14 = 1))) rfl (fun hg => r_load1 Try.underlying3 rfl (cv_get (hA294.get rfl) hg) (hB288.cell 0 _ rfl)) fun a295 hA295 _ => ?_)
        refine sq (opk_gval hA295 rfl rfl (g := true) (e := (decide (r_14 = 1))) rfl (fun hg => r_eql (cv_get (hA295.get rfl) hg) rfl) fun a296 hA296 _ => ?_)
        refine sq (opk_val hA296 rfl (r_pick_or (g := (true && ((decide (r_14 = 1)) == false))) (hA296.get rfl) (hA296.get rfl) (fun he => g_mkf rfl he)) fun a297 hA297 _ => ?_)
        refine sq (opk_val hA297 rfl (r_move (hA297.get rfl)) fun a298 hA298 _ => ?_)
        refine sq (opk_gval hA298 rfl rfl (g := true) (e := ((decide (r_14 = 1)) || (decide (r_14 = 4)))) rfl (fun hg => r_fieldAddr (hA298.get rfl) Try.underlying42 rfl ti_3 (by decide)) fun a299 hA299 _ => ?_)
        refine sq (opk_gval hA299 rfl rfl (g := true) (e := ((decide (r_14 = 1)) || (decide (r_14 = 4)))) rfl (fun hg => r_load1 Try.underlying3 rfl (cv_get (hA299.get rfl) hg) (hB288.cell 0 _ rfl)) fun a300 hA300 _ => ?_)
        refine sq (opk_gval hA300 rfl rfl (g := true) (e := ((decide (r_14 = 1)) || (decide (r_14 = 4)))) rfl (fun hg => r_eql (cv_get (hA300.get rfl) hg) rfl) fun a301 hA301 _ => ?_)
        refine sq (opk_val hA301 rfl (r_pick_or (g := (true && (((decide (r_14 = 1)) || (decide (r_14 = 4))) == false))) (hA301.get rfl) (hA301.get rfl) (fun he => g_mkf rfl he)) fun a302 hA302 _ => ?_)
        refine sq_end ?_
        have hA303 := hA302.keep [(0, .pointer (some r_1)), (1, Sl.v strings_2), (4, .pointer (some (⟨B_3, 0, none⟩ : Addr))), (5, .pointer (some (⟨B_34, 0, none⟩ : Addr))), (60, .bool (((decide (r_14 = 1)) || (decide (r_14 = 4))) || (decide (r_14 = 6))))] ⟨rfl, rfl, rfl, rfl, rfl, trivial⟩
        refine then_normal ?_
        refine wp_cond_split (hA303.get rfl) (fun hc => ?_) (fun hc => ?_)
        · have ht304 := ht289.1 ((b_or_t hc).imp (fun h => ((b_or_t h).imp (fun h => (of_decide_eq_true h)) (fun h => (of_decide_eq_true h)))) (fun h => (of_decide_eq_true h)))
          clear hc
          refine wp_region_lit ?_
          refine sq (opk_val hA303 rfl (r_move (hA303.get rfl)) fun a306 hA306 _ => ?_)
          refine sq (opk_val hA306 rfl (r_move (hA306.get rfl)) fun a307 hA307 _ => ?_)
          refine sq (opk_call hA307 rfl (r_call (args := #[.pointer (some r_1), Sl.v strings_2]) Try.func50 (by decide) rfl (map_arr (ml_cons (hA307.get rfl) (ml_cons (hA307.get rfl) ml_nil))) rfl) ht304 fun a309 v315 w310 hA309 _ hn312 hz313 hK314 => ?_)
          obtain ⟨r_308, rfl, ht311⟩ := hK314
          have hB316 := hB287.kept hn312 (.head _)
          have hB317 := hB288.kept hn312 (.tail _ (.head _))
          refine sq (opk_val hA309 rfl (r_fieldAddr (hA309.get rfl) Try.underlying42 rfl ti_9 (by decide)) fun a318 hA318 _ => ?_)
          refine sq (opk_store hA318 hB317 (r_store (vs := [.string (Bs r_308)]) (hA318.get rfl) (hA318.get rfl) rfl ti_9 hB317 rfl (ones_all [.string (Bs r_308)] rfl)) fun a320 w319 hS321 hB322 hA320 => ?_)
          have hB323 : Box w319 B_34 42 [.int .i64 r_14, .int .i64 r_24, .int .i64 c_104, .int .i64 c_105, .int .i64 c_184, .string (Bs c_255), .string (Bs r_308)] := hB322
          have hB324 := hB316.keep hS321 (by simpa using hne40)
          have hC325 : Chg [B_34] w310 w319 := hS321
          refine sq_end ?_
          have hA326 := hA320.keep [(4, .pointer (some (⟨B_3, 0, none⟩ : Addr))), (5, .pointer (some (⟨B_34, 0, none⟩ : Addr)))] ⟨rfl, rfl, trivial⟩
          refine then_normal ?_
          refine wp_seq ?_
          refine wp_region_lit ?_
          refine sq (opk_val hA326 rfl (r_loadN (cs := [.int .i64 r_14, .int .i64 r_24, .int .i64 c_104, .int .i64 c_105, .int .i64 c_184, .string (Bs c_255), .string (Bs r_308)]) Try.underlying42 rfl ti_42 (hA326.get rfl) (hB323.part 0 _ rfl)) fun a327 hA327 _ => ?_)
          refine sq (opk_store hA327 hB324 (r_store (vs := [.int .i64 r_14, .int .i64 r_24, .int .i64 c_104, .int .i64 c_105, .int .i64 c_184, .string (Bs c_255), .string (Bs r_308)]) (hA327.get rfl) (hA327.get rfl) rfl ti_42 hB324 rfl (ones_all [.int .i64 r_14, .int .i64 r_24, .int .i64 c_104, .int .i64 c_105, .int .i64 c_184, .string (Bs c_255), .string (Bs r_308)] rfl)) fun a329 w328 hS330 hB331 hA329 => ?_)
          have hB332 : Box w328 B_3 42 [.int .i64 r_14, .int .i64 r_24, .int .i64 c_104, .int .i64 c_105, .int .i64 c_184, .string (Bs c_255), .string (Bs r_308)] := hB331
          have hB333 := hB323.keep hS330 (by simpa using hne40.symm)
          have hC334 := hC325.storeOld hS330
          refine sq_end ?_
          have hA335 := hA329.keep [(4, .pointer (some (⟨B_3, 0, none⟩ : Addr)))] ⟨rfl, trivial⟩
          refine then_normal ?_
          refine wp_ret ?_
          have ht336 := ht311 w328    hC334
          exact res_all (vs := [.agg #[.int .i64 r_14, .int .i64 r_24, .int .i64 c_104, .int .i64 c_105, .int .i64 c_184, .string (Bs c_255), .string (Bs r_308)]]) rfl hA335 ⟨res_of_cell hA335 rfl hB332 Try.underlying42 rfl ti_42, trivial⟩ ht336
        · have ht305 := ht289.2 ⟨⟨(of_decide_eq_false (b_or_f (b_or_f hc).1).1), (of_decide_eq_false (b_or_f (b_or_f hc).1).2)⟩, (of_decide_eq_false (b_or_f hc).2)⟩
          clear hc
          refine wp_skip ?_
          refine then_normal ?_
          refine wp_seq ?_
          refine wp_region_lit ?_
          refine sq (opk_val hA303 rfl (r_loadN (cs := [.int .i64 r_14, .int .i64 r_24, .int .i64 c_104, .int .i64 c_105, .int .i64 c_184, .string (Bs c_255), .string (Bs ([] : Str))]) Try.underlying42 rfl ti_42 (hA303.get rfl) (hB288.part 0 _ rfl)) fun a337 hA337 _ => ?_)
          refine sq (opk_store hA337 hB287 (r_store (vs := [.int .i64 r_14, .int .i64 r_24, .int .i64 c_104, .int .i64 c_105, .int .i64 c_184, .string (Bs c_255), .string (Bs ([] : Str))]) (hA337.get rfl) (hA337.get rfl) rfl ti_42 hB287 rfl (ones_all [.int .i64 r_14, .int .i64 r_24, .int .i64 c_104, .int .i64 c_105, .int .i64 c_184, .string (Bs c_255), .string (Bs ([] : Str))] rfl)) fun a339 w338 hS340 hB341 hA339 => ?_)
          have hB342 : Box w338 B_3 42 [.int .i64 r_14, .int .i64 r_24, .int .i64 c_104, .int .i64 c_105, .int .i64 c_184, .string (Bs c_255), .string (Bs ([] : Str))] := hB341
          have hB343 := hB288.keep hS340 (by simpa using hne40.symm)
          have hC344 : Chg [B_3] w256 w338 := hS340
          refine sq_end ?_
          have hA345 := hA339.keep [(4, .pointer (some (⟨B_3, 0, none⟩ : Addr)))] ⟨rfl, trivial⟩
          refine then_normal ?_
          refine wp_ret ?_
          have ht346 := ht305 w338    hC344
          exact res_all (vs := [.agg #[.int .i64 r_14, .int .i64 r_24, .int .i64 c_104, .int .i64 c_105, .int .i64 c_184, .string (Bs c_255), .string (Bs ([] : Str))]]) rfl hA345 ⟨res_of_cell hA345 rfl hB342 Try.underlying42 rfl ti_42, trivial⟩ ht346

/-- The condition of (*topiary/topiaryref24.R).word. -/
def ref24_R_word.vc (r_1 : Addr) (strings_2 : Sl) (R : Value → World → Prop) (w : World) : Prop :=
(I64 ((strings_2.n : Int) - 1)) ∧
CallK Try.prog 38 #[.pointer (some r_1), .int .i64 ((strings_2.n : Int) - 1)] w [] (fun v w13 => ∃ (r_11 : Int), v = .int .i64 r_11 ∧
(((strings_2.n : Int) = 0) →
∃ (B_34 o_35 : Nat) (T_36 : TypeId) (cs_37 : List Value), (r_1.add 2) = ⟨B_34, o_35, none⟩ ∧ Box w13 B_34 T_36 cs_37 ∧ o_35 + 1 ≤ cs_37.length ∧ (∀ b ∈ [], b ≠ B_34) ∧
(∀ w30 : World, Chg [B_34] w13 w30 → Box w30 B_34 T_36 (putAt cs_37 o_35 [.bool true]) →
R (.string (Bs ([] : Str))) w30)) ∧
((¬ ((strings_2.n : Int) = 0)) →
((0 : Int) ≤ r_11 ∧ r_11 < (strings_2.n : Int)) ∧ ∃ p_49 : Addr, strings_2.a = some p_49 ∧
∃ (x_55 : Str), (w13.cell? (p_49.add (r_11.toNat * 1)) = some (.string (Bs x_55))) ∧
R (.string (Bs x_55)) w13))
set_option maxHeartbeats 1000000 in
set_option maxRecDepth 10000 in
theorem ref24_R_word.ok (r_1 : Addr) (strings_2 : Sl) {R : Value → World → Prop} {w : World} (ht0 : ref24_R_word.vc r_1 strings_2 R w) : Calls Try.prog 50 #[.pointer (some r_1), Sl.v strings_2] w (Ret R) := by
  refine enter [.pointer (some r_1), Sl.v strings_2] Try.func50 rfl Try.ntmps50 rfl ?_
  intro a0 hA0
  unfold ref24_R_word.vc at ht0
  refine wp_seq ?_
  refine wp_region_lit ?_
  refine sq (opk_val hA0 rfl (r_assign rfl) fun a3 hA3 _ => ?_)
  refine sq_end ?_
  have hA4 := hA3.keep [(0, .pointer (some r_1)), (1, Sl.v strings_2)] ⟨rfl, rfl, trivial⟩
  refine then_normal ?_
  refine wp_seq ?_
  refine wp_region_lit ?_
  refine sq (opk_val hA4 rfl (r_move (hA4.get rfl)) fun a5 hA5 _ => ?_)
  refine sq (opk_val hA5 rfl (r_move (hA5.get rfl)) fun a6 hA6 _ => ?_)
  refine sq (opk_val hA6 rfl (r_len (hA6.get rfl) Try.underlying46) fun a7 hA7 _ => ?_)
  obtain ⟨hS9, ht10⟩ := ht0
  refine sq (opk_val hA7 rfl (r_subI (hA7.get rfl) rfl hS9) fun a8 hA8 _ => ?_)
  refine sq (opk_call hA8 rfl (r_call (args := #[.pointer (some r_1), .int .i64 ((strings_2.n : Int) - 1)]) Try.func38 (by decide) rfl (map_arr (ml_cons (hA8.get rfl) (ml_cons (hA8.get rfl) ml_nil))) rfl) ht10 fun a12 v18 w13 hA12 _ hn15 hz16 hK17 => ?_)
  obtain ⟨r_11, rfl, ht14⟩ := hK17
  refine sq (opk_val hA12 rfl (r_assign (hA12.get rfl)) fun a19 hA19 _ => ?_)
  refine sq_end ?_
  have hA20 := hA19.keep [(0, .pointer (some r_1)), (1, Sl.v strings_2), (5, .int .i64 r_11)] ⟨rfl, rfl, rfl, trivial⟩
  refine then_normal ?_
  refine wp_seq ?_
  refine wp_seq ?_
  refine wp_region_lit ?_
  refine sq (opk_val hA20 rfl (r_move (hA20.get rfl)) fun a21 hA21 _ => ?_)
  refine sq (opk_val hA21 rfl (r_len (hA21.get rfl) Try.underlying46) fun a22 hA22 _ => ?_)
  refine sq (opk_val hA22 rfl (r_eql (hA22.get rfl) rfl) fun a23 hA23 _ => ?_)
  refine sq_end ?_
  have hA24 := hA23.keep [(0, .pointer (some r_1)), (1, Sl.v strings_2), (5, .int .i64 r_11), (13, .bool (decide ((strings_2.n : Int) = 0)))] ⟨rfl, rfl, rfl, rfl, trivial⟩
  refine then_normal ?_
  refine wp_cond_split (hA24.get rfl) (fun hc => ?_) (fun hc => ?_)
  · have ht25 := ht14.1 (of_decide_eq_true hc)
    clear hc
    refine wp_seq ?_
    refine wp_region_lit ?_
    refine sq (opk_val hA24 rfl (r_move (hA24.get rfl)) fun a27 hA27 _ => ?_)
    refine sq (opk_val hA27 rfl (r_nilCheck (hA27.get rfl)) fun a28 hA28 _ => ?_)
    refine sq (opk_val hA28 rfl (r_fieldAddr (hA28.get rfl) Try.underlying70 rfl ti_4 (by decide)) fun a29 hA29 _ => ?_)
    obtain ⟨B_34, o_35, T_36, cs_37, he38, hb39, hl40, hx41, ht42⟩ := ht25
    refine sq (opk_store hA29 hb39 (r_store (vs := [.bool true]) (((hA29.get rfl)).trans (congrArg (fun a => Value.pointer (some a)) he38)) rfl rfl ti_4 hb39 (Nat.ble_eq_true_of_le hl40) (ones_all [.bool true] rfl)) fun a31 w30 hS32 hB33 hA31 => ?_)
    have ht43 := ht42 w30 hS32 hB33
    refine sq_end ?_
    have hA44 := hA31.keep [] trivial
    refine then_normal ?_
    refine wp_seq ?_
    refine wp_region_lit ?_
    refine sq (opk_val hA44 rfl (r_assign rfl) fun a45 hA45 _ => ?_)
    refine sq_end ?_
    have hA46 := hA45.keep [(4, .string (Bs ([] : Str)))] ⟨rfl, trivial⟩
    refine then_normal ?_
    refine wp_ret ?_
    refine then_ret ?_
    exact res_all (vs := [.string (Bs ([] : Str))]) rfl hA46 ⟨res_of_tmp hA46 rfl, trivial⟩ ht43
  · have ht26 := ht14.2 (of_decide_eq_false hc)
    clear hc
    refine wp_skip ?_
    refine then_normal ?_
    refine wp_seq ?_
    refine wp_region_lit ?_
    refine sq (opk_val hA24 rfl (r_move (hA24.get rfl)) fun a47 hA47 _ => ?_)
    refine sq (opk_val hA47 rfl (r_move (hA47.get rfl)) fun a48 hA48 _ => ?_)
    obtain ⟨hb50, p_49, hp51, ht52⟩ := ht26
    refine sq (opk_val hA48 rfl (r_indexAddr (hA48.get rfl) (hA48.get rfl) Try.underlying46 ti_9 hb50 hp51) fun a53 hA53 _ => ?_)
    obtain ⟨x_55, hx56, ht57⟩ := ht52
    refine sq (opk_val hA53 rfl (r_load1 Try.underlying9 rfl (hA53.get rfl) hx56) fun a54 hA54 _ => ?_)
    refine sq (opk_val hA54 rfl (r_assign (hA54.get rfl)) fun a58 hA58 _ => ?_)
    refine sq_end ?_
    have hA59 := hA58.keep [(4, .string (Bs x_55))] ⟨rfl, trivial⟩
    refine then_normal ?_
    refine wp_ret ?_
    exact res_all (vs := [.string (Bs x_55)]) rfl hA59 ⟨res_of_tmp hA59 rfl, trivial⟩ ht57

end Go.Proofs.Yteacalmdpoblpaa
