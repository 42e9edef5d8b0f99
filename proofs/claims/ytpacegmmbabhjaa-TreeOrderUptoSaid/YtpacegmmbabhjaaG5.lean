/-
  PRINTED BY PROGRAM: for each function its condition (vc), and that this suffices (ok).
-/
import Derived.Test.YtpacegmmbabhjaaGT
namespace Go.Proofs.Ytpacegmmbabhjaa
open Go.RowKit
set_option linter.unusedVariables false

/-- The condition of strings.Compare. -/
def strings_Compare.vc (a_1 : Str) (b_2 : Str) (R : Value → World → Prop) (w : World) : Prop :=
CallK Try.prog 49 #[.string (Bs a_1), .string (Bs b_2)] w [] (fun v w9 => ∃ (r_7 : Int), v = .int .i64 r_7 ∧
R (.int .i64 r_7) w9)
set_option maxHeartbeats 1000000 in
set_option maxRecDepth 10000 in
theorem strings_Compare.ok (a_1 : Str) (b_2 : Str) {R : Value → World → Prop} {w : World} (ht0 : strings_Compare.vc a_1 b_2 R w) : Calls Try.prog 42 #[.string (Bs a_1), .string (Bs b_2)] w (Ret R) := by
  refine enter [.string (Bs a_1), .string (Bs b_2)] Try.func42 rfl Try.ntmps42 rfl ?_
  intro a0 hA0
  unfold strings_Compare.vc at ht0
  refine wp_seq ?_
  refine wp_region_lit ?_
  refine sq (opk_val hA0 rfl (r_assign rfl) fun a3 hA3 _ => ?_)
  refine sq_end ?_
  have hA4 := hA3.keep [(0, .string (Bs a_1)), (1, .string (Bs b_2))] ⟨rfl, rfl, trivial⟩
  refine then_normal ?_
  refine wp_seq ?_
  refine wp_region_lit ?_
  refine sq (opk_val hA4 rfl (r_move (hA4.get rfl)) fun a5 hA5 _ => ?_)
  refine sq (opk_val hA5 rfl (r_move (hA5.get rfl)) fun a6 hA6 _ => ?_)
  refine sq (opk_call hA6 rfl (r_call (args := #[.string (Bs a_1), .string (Bs b_2)]) Try.func49 (by decide) rfl (map_arr (ml_cons (hA6.get rfl) (ml_cons (hA6.get rfl) ml_nil))) rfl) ht0 fun a8 v14 w9 hA8 _ hn11 hz12 hK13 => ?_)
  obtain ⟨r_7, rfl, ht10⟩ := hK13
  refine sq (opk_val hA8 rfl (r_assign (hA8.get rfl)) fun a15 hA15 _ => ?_)
  refine sq_end ?_
  have hA16 := hA15.keep [(4, .int .i64 r_7)] ⟨rfl, trivial⟩
  refine then_normal ?_
  refine wp_ret ?_
  exact res_all (vs := [.int .i64 r_7]) rfl hA16 ⟨res_of_tmp hA16 rfl, trivial⟩ ht10

/-- The condition of topiary/topiaryref05.all. -/
def ref05_all.vc (t_1_Kind : Int) (t_1_Name : Str) (t_1_Text : Str) (t_1_Attrs : Sl) (t_1_Kids : Sl) (top_2 : Bool) (root_3 : Bool) (R : Value → World → Prop) (w : World) : Prop :=
∀ (w5 : World) (B_4 : Nat), New w B_4 w5 → Chg [] w w5 →
CallK Try.prog 50 #[.agg #[.int .i64 t_1_Kind, .string (Bs t_1_Name), .string (Bs t_1_Text), Sl.v t_1_Attrs, Sl.v t_1_Kids], .bool top_2, .bool root_3] w5 [B_4] (fun v w20 => ∃ (r_18 : Bool), v = .bool r_18 ∧
((r_18 = false) →
R (.bool false) w20) ∧
((r_18 = true) →
∃ (J_37 : Int → World → Prop) (mu_38 : Int → World → Nat),
J_37 0 w20 ∧
(∀ (i_35 : Int) (w36 : World), J_37 i_35 w36 →
((i_35 < (t_1_Kids.n : Int)) →
∀ (w106 : World), Chg [] w36 w106 →
∃ p_114 : Addr, (((0 : Int) ≤ i_35 ∧ i_35 < (t_1_Kids.n : Int)) ∧ t_1_Kids.a = some p_114) ∧
∃ (x_118_Kind : Int) (x_118_Name : Str) (x_118_Text : Str) (x_118_Attrs : Sl) (x_118_Kids : Sl), (Cells w106 (p_114.add (i_35.toNat * 5)) [.int .i64 x_118_Kind, .string (Bs x_118_Name), .string (Bs x_118_Text), Sl.v x_118_Attrs, Sl.v x_118_Kids]) ∧
∃ (r_125 : Bool), (∀ w' : World, Ext w106 w' → Calls Try.prog 43 #[.agg #[.int .i64 x_118_Kind, .string (Bs x_118_Name), .string (Bs x_118_Text), Sl.v x_118_Attrs, Sl.v x_118_Kids], .bool false, .bool (decide (t_1_Kind = 1))] w' (Ret fun v w'' => Ext w' w'' ∧ v = .bool r_125)) ∧
((r_125 = false) →
∀ (w130 : World), Chg [] w106 w130 →
R (.bool false) w130) ∧
((r_125 = true) →
(I64 (i_35 + 1)) ∧
∀ (w130 : World), Chg [] w106 w130 →
J_37 (i_35 + 1) w130 ∧ mu_38 (i_35 + 1) w130 < mu_38 i_35 w36)) ∧
((¬ (i_35 < (t_1_Kids.n : Int))) →
R (.bool true) w36))))
set_option maxHeartbeats 1000000 in
set_option maxRecDepth 10000 in
theorem ref05_all.ok (t_1_Kind : Int) (t_1_Name : Str) (t_1_Text : Str) (t_1_Attrs : Sl) (t_1_Kids : Sl) (top_2 : Bool) (root_3 : Bool) {R : Value → World → Prop} {w : World} (ht0 : ref05_all.vc t_1_Kind t_1_Name t_1_Text t_1_Attrs t_1_Kids top_2 root_3 R w) : Calls Try.prog 43 #[.agg #[.int .i64 t_1_Kind, .string (Bs t_1_Name), .string (Bs t_1_Text), Sl.v t_1_Attrs, Sl.v t_1_Kids], .bool top_2, .bool root_3] w (Ret R) := by
  refine enter [.agg #[.int .i64 t_1_Kind, .string (Bs t_1_Name), .string (Bs t_1_Text), Sl.v t_1_Attrs, Sl.v t_1_Kids], .bool top_2, .bool root_3] Try.func43 rfl Try.ntmps43 rfl ?_
  intro a0 hA0
  unfold ref05_all.vc at ht0
  refine wp_seq ?_
  refine wp_region_lit ?_
  refine sq (opk_new (fun B => .pointer (some ⟨B, 0, none⟩)) hA0 rfl (r_box (cs := [.int .i64 t_1_Kind, .string (Bs t_1_Name), .string (Bs t_1_Text), Sl.v t_1_Attrs, Sl.v t_1_Kids]) (hA0.get rfl) rfl) fun a6 w5 B_4 hE7 hN8 hB9 hA6 _ => ?_)
  have hN10 : New w B_4 w5 := hN8
  have hC11 : Chg [] w w5 := hE7
  refine sq (opk_val hA6 rfl (r_assign rfl) fun a12 hA12 _ => ?_)
  refine sq_end ?_
  have hA13 := hA12.keep [(1, .bool top_2), (2, .bool root_3), (3, .pointer (some ⟨B_4, 0, none⟩))] ⟨rfl, rfl, rfl, trivial⟩
  refine then_normal ?_
  refine wp_seq ?_
  refine wp_seq ?_
  refine wp_region_lit ?_
  refine sq (opk_val hA13 rfl (r_loadN (cs := [.int .i64 t_1_Kind, .string (Bs t_1_Name), .string (Bs t_1_Text), Sl.v t_1_Attrs, Sl.v t_1_Kids]) Try.underlying26 rfl ti_26 (hA13.get rfl) (hB9.part 0 _ rfl)) fun a14 hA14 _ => ?_)
  refine sq (opk_val hA14 rfl (r_move (hA14.get rfl)) fun a15 hA15 _ => ?_)
  refine sq (opk_val hA15 rfl (r_move (hA15.get rfl)) fun a16 hA16 _ => ?_)
  have ht17 := ht0 w5 B_4 hN10  hC11
  refine sq (opk_call hA16 rfl (r_call (args := #[.agg #[.int .i64 t_1_Kind, .string (Bs t_1_Name), .string (Bs t_1_Text), Sl.v t_1_Attrs, Sl.v t_1_Kids], .bool top_2, .bool root_3]) Try.func50 (by decide) rfl (map_arr (ml_cons (hA16.get rfl) (ml_cons (hA16.get rfl) (ml_cons (hA16.get rfl) ml_nil)))) rfl) ht17 fun a19 v25 w20 hA19 _ hn22 hz23 hK24 => ?_)
  obtain ⟨r_18, rfl, ht21⟩ := hK24
  have hB26 := hB9.kept hn22 (.head _)
  refine sq (opk_val hA19 rfl (r_not (hA19.get rfl)) fun a27 hA27 _ => ?_)
  refine sq_end ?_
  have hA28 := hA27.keep [(3, .pointer (some ⟨B_4, 0, none⟩)), (12, .bool (!r_18))] ⟨rfl, rfl, trivial⟩
  refine then_normal ?_
  refine wp_cond_split (hA28.get rfl) (fun hc => ?_) (fun hc => ?_)
  · have ht29 := ht21.1 (b_not_t hc)
    clear hc
    refine wp_seq ?_
    refine wp_region_lit ?_
    refine sq (opk_val hA28 rfl (r_assign rfl) fun a31 hA31 _ => ?_)
    refine sq_end ?_
    have hA32 := hA31.keep [(6, .bool false)] ⟨rfl, trivial⟩
    refine then_normal ?_
    refine wp_ret ?_
    refine then_ret ?_
    exact res_all (vs := [.bool false]) rfl hA32 ⟨res_of_tmp hA32 rfl, trivial⟩ ht29
  · have ht30 := ht21.2 (b_not_f hc)
    clear hc
    refine wp_skip ?_
    refine then_normal ?_
    refine wp_seq ?_
    refine wp_seq ?_
    refine wp_region_lit ?_
    refine sq (opk_val hA28 rfl (r_assign rfl) fun a33 hA33 _ => ?_)
    refine sq_end ?_
    have hA34 := hA33.keep [(3, .pointer (some ⟨B_4, 0, none⟩)), (7, .int .i64 0)] ⟨rfl, rfl, trivial⟩
    refine then_normal ?_
    refine wp_block ?_
    obtain ⟨J_37, mu_38, h095, ht94⟩ := ht30
    refine wp_loop_st (σ := Int × World) (fun s a w => Ag 30 a [(3, .pointer (some ⟨B_4, 0, none⟩)), (7, .int .i64 s.1)] ∧ Box w B_4 26 [.int .i64 t_1_Kind, .string (Bs t_1_Name), .string (Bs t_1_Text), Sl.v t_1_Attrs, Sl.v t_1_Kids] ∧ w = s.2 ∧ J_37 s.1 s.2) (fun s => mu_38 s.1 s.2) (0, w20) ⟨hA34.keep [(3, .pointer (some ⟨B_4, 0, none⟩)), (7, .int .i64 0)] ⟨rfl, rfl, trivial⟩, hB26, rfl, h095⟩ ?_
    rintro ⟨i_35, w36⟩ a92 w_ ⟨hA92, hB93, hw_, hJ97⟩
    have hw_ : w36 = w_ := hw_.symm
    subst hw_
    have ht96 := ht94 i_35 _ hJ97
    refine wp_seq ?_
    refine wp_seq ?_
    refine wp_region_lit ?_
    refine sq (opk_val hA92 rfl (r_move (hA92.get rfl)) fun a98 hA98 _ => ?_)
    refine sq (opk_val hA98 rfl (r_fieldAddr (hA98.get rfl) Try.underlying26 rfl ti_24 (by decide)) fun a99 hA99 _ => ?_)
    refine sq (opk_val hA99 rfl (r_load1 Try.underlying24 rfl (hA99.get rfl) (hB93.cell 4 _ rfl)) fun a100 hA100 _ => ?_)
    refine sq (opk_val hA100 rfl (r_len (hA100.get rfl) Try.underlying24) fun a101 hA101 _ => ?_)
    refine sq (opk_val hA101 rfl (r_lss (hA101.get rfl) (hA101.get rfl)) fun a102 hA102 _ => ?_)
    refine sq_end ?_
    have hA103 := hA102.keep [(3, .pointer (some ⟨B_4, 0, none⟩)), (7, .int .i64 i_35), (17, .bool (decide (i_35 < (t_1_Kids.n : Int))))] ⟨rfl, rfl, rfl, trivial⟩
    refine then_normal ?_
    refine wp_cond_split (hA103.get rfl) (fun hc => ?_) (fun hc => ?_)
    · have ht104 := ht96.1 (of_decide_eq_true hc)
      clear hc
      refine wp_skip ?_
      refine then_normal ?_
      refine wp_seq ?_
      refine wp_block ?_
      refine wp_seq ?_
      refine draw' (by kernel_rfl) fun w106 hE107 => ?_
      have hB108 := hB93.ext hE107
      have hC109 : Chg [] w36 w106 := hE107
      have ht110 := ht104 w106    hC109
      obtain ⟨p_114, hp115, ht116⟩ := ht110
      obtain ⟨x_118_Kind, x_118_Name, x_118_Text, x_118_Attrs, x_118_Kids, hx119, ht120⟩ := ht116
      obtain ⟨r_125, hc126, ht127⟩ := ht120
      refine par (D := [[], [0], [], [0, 1, 2], [0, 1, 2, 3], [], [5], [5, 6], [0, 1, 2, 3, 4, 5, 6, 7], [0, 1, 2, 3, 4, 5, 6, 7, 8]]) (S := [0, 1, 2, 3, 4, 5, 6, 7, 8, 9]) (F := []) (V := VL [(0, fun v _ => v = .pointer (some ⟨B_4, 4, none⟩)), (1, fun v _ => v = Sl.v t_1_Kids), (2, fun v _ => v = .int .i64 i_35), (3, fun v _ => v = .pointer (some (p_114.add (i_35.toNat * 5)))), (4, fun v _ => v = .agg #[.int .i64 x_118_Kind, .string (Bs x_118_Name), .string (Bs x_118_Text), Sl.v x_118_Attrs, Sl.v x_118_Kids]), (5, fun v _ => v = .pointer (some ⟨B_4, 0, none⟩)), (6, fun v _ => v = .int .i64 t_1_Kind), (7, fun v _ => v = .bool (decide (t_1_Kind = 1))), (8, fun v _ => v = .bool r_125), (9, fun v _ => v = .bool (!r_125))]) hA103 (by kernel_rfl) ⟨fun _ _ _ _ h => by first | exact h | (change _ = _ at h; change _ = _; exact h), fun _ _ _ _ h => by first | exact h | (change _ = _ at h; change _ = _; exact h), fun _ _ _ _ h => by first | exact h | (change _ = _ at h; change _ = _; exact h), fun _ _ _ _ h => by first | exact h | (change _ = _ at h; change _ = _; exact h), fun _ _ _ _ h => by first | exact h | (change _ = _ at h; change _ = _; exact h), fun _ _ _ _ h => by first | exact h | (change _ = _ at h; change _ = _; exact h), fun _ _ _ _ h => by first | exact h | (change _ = _ at h; change _ = _; exact h), fun _ _ _ _ h => by first | exact h | (change _ = _ at h; change _ = _; exact h), fun _ _ _ _ h => by first | exact h | (change _ = _ at h; change _ = _; exact h), fun _ _ _ _ h => by first | exact h | (change _ = _ at h; change _ = _; exact h), trivial⟩ ⟨?_, ?_, ?_, ?_, ?_, ?_, ?_, ?_, ?_, ?_, trivial⟩ ?_
      · intro a w hT
        have hAp := hT.ag hA103 [(3, .pointer (some ⟨B_4, 0, none⟩))] ⟨rfl, trivial⟩ (by kernel_rfl)
        exact opk_val hAp rfl (r_fieldAddr (hAp.get rfl) Try.underlying26 rfl ti_24 (by decide)) fun _ _ e => ⟨_, e, Chg.refl _ _, fun _ => Eq.refl _⟩
      · intro a w hT
        have hAp := hT.ag hA103 [] trivial (by kernel_rfl)
        have e111 : a.tmps.getD 20 undef = .pointer (some ⟨B_4, 4, none⟩) := hT.vals 0 rfl 20 rfl
        have hAp := hAp.add e111
        exact opk_val hAp rfl (r_load1 Try.underlying24 rfl (hAp.get rfl) ((hB108.ext hT.chg).cell 4 _ rfl)) fun _ _ e => ⟨_, e, Chg.refl _ _, fun _ => Eq.refl _⟩
      · intro a w hT
        have hAp := hT.ag hA103 [(7, .int .i64 i_35)] ⟨rfl, trivial⟩ (by kernel_rfl)
        exact opk_val hAp rfl (r_move (hAp.get rfl)) fun _ _ e => ⟨_, e, Chg.refl _ _, fun _ => Eq.refl _⟩
      · intro a w hT
        have hAp := hT.ag hA103 [] trivial (by kernel_rfl)
        have e112 : a.tmps.getD 21 undef = Sl.v t_1_Kids := hT.vals 1 rfl 21 rfl
        have hAp := hAp.add e112
        have e113 : a.tmps.getD 22 undef = .int .i64 i_35 := hT.vals 2 rfl 22 rfl
        have hAp := hAp.add e113
        exact opk_val hAp rfl (r_indexAddr (hAp.get rfl) (hAp.get rfl) Try.underlying24 ti_26 hp115.1 hp115.2) fun _ _ e => ⟨_, e, Chg.refl _ _, fun _ => Eq.refl _⟩
      · intro a w hT
        have hAp := hT.ag hA103 [] trivial (by kernel_rfl)
        have e117 : a.tmps.getD 23 undef = .pointer (some (p_114.add (i_35.toNat * 5))) := hT.vals 3 rfl 23 rfl
        have hAp := hAp.add e117
        exact opk_val hAp rfl (r_loadN Try.underlying26 rfl ti_26 (hAp.get rfl) (hx119.ext hT.chg)) fun _ _ e => ⟨_, e, Chg.refl _ _, fun _ => Eq.refl _⟩
      · intro a w hT
        have hAp := hT.ag hA103 [(3, .pointer (some ⟨B_4, 0, none⟩))] ⟨rfl, trivial⟩ (by kernel_rfl)
        exact opk_val hAp rfl (r_fieldAddr (hAp.get rfl) Try.underlying26 rfl ti_3 (by decide)) fun _ _ e => ⟨_, e, Chg.refl _ _, fun _ => Eq.refl _⟩
      · intro a w hT
        have hAp := hT.ag hA103 [] trivial (by kernel_rfl)
        have e121 : a.tmps.getD 25 undef = .pointer (some ⟨B_4, 0, none⟩) := hT.vals 5 rfl 25 rfl
        have hAp := hAp.add e121
        exact opk_val hAp rfl (r_load1 Try.underlying3 rfl (hAp.get rfl) ((hB108.ext hT.chg).cell 0 _ rfl)) fun _ _ e => ⟨_, e, Chg.refl _ _, fun _ => Eq.refl _⟩
      · intro a w hT
        have hAp := hT.ag hA103 [] trivial (by kernel_rfl)
        have e122 : a.tmps.getD 26 undef = .int .i64 t_1_Kind := hT.vals 6 rfl 26 rfl
        have hAp := hAp.add e122
        exact opk_val hAp rfl (r_eql (hAp.get rfl) rfl) fun _ _ e => ⟨_, e, Chg.refl _ _, fun _ => Eq.refl _⟩
      · intro a w hT
        have hAp := hT.ag hA103 [] trivial (by kernel_rfl)
        have e123 : a.tmps.getD 24 undef = .agg #[.int .i64 x_118_Kind, .string (Bs x_118_Name), .string (Bs x_118_Text), Sl.v x_118_Attrs, Sl.v x_118_Kids] := hT.vals 4 rfl 24 rfl
        have hAp := hAp.add e123
        have e124 : a.tmps.getD 27 undef = .bool (decide (t_1_Kind = 1)) := hT.vals 7 rfl 27 rfl
        have hAp := hAp.add e124
        exact opk_callX hAp rfl (r_call (args := #[.agg #[.int .i64 x_118_Kind, .string (Bs x_118_Name), .string (Bs x_118_Text), Sl.v x_118_Attrs, Sl.v x_118_Kids], .bool false, .bool (decide (t_1_Kind = 1))]) Try.func43 (by decide) rfl (map_arr (ml_cons (hAp.get rfl) (ml_cons rfl (ml_cons (hAp.get rfl) ml_nil)))) rfl) (hc126 w hT.chg) fun _ _ _ _ e hR => ⟨_, e, hR.1, fun _ => hR.2⟩
      · intro a w hT
        have hAp := hT.ag hA103 [] trivial (by kernel_rfl)
        have e128 : a.tmps.getD 28 undef = .bool r_125 := hT.vals 8 rfl 28 rfl
        have hAp := hAp.add e128
        exact opk_val hAp rfl (r_not (hAp.get rfl)) fun _ _ e => ⟨_, e, Chg.refl _ _, fun _ => Eq.refl _⟩
      · intro a129 w130 hE131 hag132 hv133
        have hA129 := hag132 [(3, .pointer (some ⟨B_4, 0, none⟩)), (7, .int .i64 i_35)] ⟨rfl, rfl, trivial⟩ (by kernel_rfl)
        have e134 : a129.tmps.getD 29 undef = .bool (!r_125) := hv133 9 rfl 29 rfl
        have hA135 := hA129.add e134
        have hB136 := hB108.ext hE131
        have hC137 : Chg [] w106 w130 := hE131
        refine PR_end (by kernel_rfl) ?_
        have hA138 := hA135.keep [(3, .pointer (some ⟨B_4, 0, none⟩)), (7, .int .i64 i_35), (29, .bool (!r_125))] ⟨rfl, rfl, rfl, trivial⟩
        refine then_normal ?_
        refine wp_cond_split (hA138.get rfl) (fun hc => ?_) (fun hc => ?_)
        · have ht139 := ht127.1 (b_not_t hc)
          clear hc
          refine wp_seq ?_
          refine wp_region_lit ?_
          refine sq (opk_val hA138 rfl (r_assign rfl) fun a141 hA141 _ => ?_)
          refine sq_end ?_
          have hA142 := hA141.keep [(6, .bool false)] ⟨rfl, trivial⟩
          refine then_normal ?_
          refine wp_ret ?_
          refine block_ret ?_
          refine then_ret ?_
          refine then_ret ?_
          refine block_ret ?_
          refine then_ret ?_
          have ht143 := ht139 w130    hC137
          exact res_all (vs := [.bool false]) rfl hA142 ⟨res_of_tmp hA142 rfl, trivial⟩ ht143
        · have ht140 := ht127.2 (b_not_f hc)
          clear hc
          refine wp_skip ?_
          refine block_normal ?_
          refine then_normal ?_
          refine wp_region_lit ?_
          refine sq (opk_val hA138 rfl (r_move (hA138.get rfl)) fun a144 hA144 _ => ?_)
          obtain ⟨hS146, ht147⟩ := ht140
          refine sq (opk_val hA144 rfl (r_addI (hA144.get rfl) rfl hS146) fun a145 hA145 _ => ?_)
          refine sq (opk_val hA145 rfl (r_assign (hA145.get rfl)) fun a148 hA148 _ => ?_)
          refine sq_end ?_
          have hA149 := hA148.keep [(3, .pointer (some ⟨B_4, 0, none⟩)), (7, .int .i64 (i_35 + 1))] ⟨rfl, rfl, trivial⟩
          have ht150 := ht147 w130    hC137
          have hA151 := hA149.keep [(3, .pointer (some ⟨B_4, 0, none⟩)), (7, .int .i64 (i_35 + 1))] ⟨rfl, rfl, trivial⟩
          exact then_normal ⟨(i_35 + 1, w130), ⟨hA151, hB136, rfl, ht150.1⟩, ht150.2⟩
    · have ht105 := ht96.2 (of_decide_eq_false hc)
      clear hc
      refine wp_exit ?_
      refine then_exit ?_
      refine then_exit ?_
      refine block_hit ?_
      have hA152 := hA103.keep [] trivial
      refine then_normal ?_
      refine wp_seq ?_
      refine wp_region_lit ?_
      refine sq (opk_val hA152 rfl (r_assign rfl) fun a153 hA153 _ => ?_)
      refine sq_end ?_
      have hA154 := hA153.keep [(6, .bool true)] ⟨rfl, trivial⟩
      refine then_normal ?_
      refine wp_ret ?_
      exact res_all (vs := [.bool true]) rfl hA154 ⟨res_of_tmp hA154 rfl, trivial⟩ ht105

/-- The condition of topiary/topiaryref04.Blank. -/
def ref04_Blank.vc (c_1 : Int) (R : Value → World → Prop) (w : World) : Prop :=
R (.bool ((((decide (c_1 = 9)) || (decide (c_1 = 10))) || (decide (c_1 = 12))) || (decide (c_1 = 32)))) w
set_option maxHeartbeats 1000000 in
set_option maxRecDepth 10000 in
theorem ref04_Blank.ok (c_1 : Int) {R : Value → World → Prop} {w : World} (ht0 : ref04_Blank.vc c_1 R w) : Calls Try.prog 44 #[.int .u8 c_1] w (Ret R) := by
  refine enter [.int .u8 c_1] Try.func44 rfl Try.ntmps44 rfl ?_
  intro a0 hA0
  unfold ref04_Blank.vc at ht0
  refine wp_seq ?_
  refine wp_region_lit ?_
  refine sq (opk_val hA0 rfl (r_assign rfl) fun a2 hA2 _ => ?_)
  refine sq_end ?_
  have hA3 := hA2.keep [(0, .int .u8 c_1)] ⟨rfl, trivial⟩
  refine then_normal ?_
  refine wp_seq ?_
  refine wp_region_lit ?_
  refine sq (opk_val hA3 rfl (r_move (hA3.get rfl)) fun a4 hA4 _ => ?_)
  refine sq (opk_val hA4 rfl (r_eql (hA4.get rfl) rfl) fun a5 hA5 _ => ?_)
  refine sq (opk_val hA5 rfl (r_move (hA5.get rfl)) fun a6 hA6 _ => ?_)
  refine sq (opk_gval hA6 rfl rfl (g := true) (e := (decide (c_1 = 9))) rfl (fun hg => r_move (hA6.get rfl)) fun a7 hA7 _ => ?_)
  refine sq (opk_gval hA7 rfl rfl (g := true) (e := (decide (c_1 = 9))) rfl (fun hg => r_eql (cv_get (hA7.get rfl) hg) rfl) fun a8 hA8 _ => ?_)
  refine sq (opk_val hA8 rfl (r_pick_or (g := (true && ((decide (c_1 = 9)) == false))) (hA8.get rfl) (hA8.get rfl) (fun he => g_mkf rfl he)) fun a9 hA9 _ => ?_)
  refine sq (opk_val hA9 rfl (r_move (hA9.get rfl)) fun a10 hA10 _ => ?_)
  refine sq (opk_gval hA10 rfl rfl (g := true) (e := ((decide (c_1 = 9)) || (decide (c_1 = 10)))) rfl (fun hg => r_move (hA10.get rfl)) fun a11 hA11 _ => ?_)
  refine sq (opk_gval hA11 rfl rfl (g := true) (e := ((decide (c_1 = 9)) || (decide (c_1 = 10)))) rfl (fun hg => r_eql (cv_get (hA11.get rfl) hg) rfl) fun a12 hA12 _ => ?_)
  refine sq (opk_val hA12 rfl (r_pick_or (g := (true && (((decide (c_1 = 9)) || (decide (c_1 = 10))) == false))) (hA12.get rfl) (hA12.get rfl) (fun he => g_mkf rfl he)) fun a13 hA13 _ => ?_)
  refine sq (opk_val hA13 rfl (r_move (hA13.get rfl)) fun a14 hA14 _ => ?_)
  refine sq (opk_gval hA14 rfl rfl (g := true) (e := (((decide (c_1 = 9)) || (decide (c_1 = 10))) || (decide (c_1 = 12)))) rfl (fun hg => r_move (hA14.get rfl)) fun a15 hA15 _ => ?_)
  refine sq (opk_gval hA15 rfl rfl (g := true) (e := (((decide (c_1 = 9)) || (decide (c_1 = 10))) || (decide (c_1 = 12)))) rfl (fun hg => r_eql (cv_get (hA15.get rfl) hg) rfl) fun a16 hA16 _ => ?_)
  refine sq (opk_val hA16 rfl (r_pick_or (g := (true && ((((decide (c_1 = 9)) || (decide (c_1 = 10))) || (decide (c_1 = 12))) == false))) (hA16.get rfl) (hA16.get rfl) (fun he => g_mkf rfl he)) fun a17 hA17 _ => ?_)
  refine sq (opk_val hA17 rfl (r_assign (hA17.get rfl)) fun a18 hA18 _ => ?_)
  refine sq_end ?_
  have hA19 := hA18.keep [(2, .bool ((((decide (c_1 = 9)) || (decide (c_1 = 10))) || (decide (c_1 = 12))) || (decide (c_1 = 32))))] ⟨rfl, trivial⟩
  refine then_normal ?_
  refine wp_ret ?_
  exact res_all (vs := [.bool ((((decide (c_1 = 9)) || (decide (c_1 = 10))) || (decide (c_1 = 12))) || (decide (c_1 = 32)))]) rfl hA19 ⟨res_of_tmp hA19 rfl, trivial⟩ ht0

/-- The condition of topiary/topiaryref05.sign. -/
def ref05_sign.vc (less_1 : Bool) (more_2 : Bool) (R : Value → World → Prop) (w : World) : Prop :=
((less_1 = true) →
R (.int .i64 (-1)) w) ∧
((less_1 = false) →
((more_2 = true) →
R (.int .i64 1) w) ∧
((more_2 = false) →
R (.int .i64 0) w))
set_option maxHeartbeats 1000000 in
set_option maxRecDepth 10000 in
theorem ref05_sign.ok (less_1 : Bool) (more_2 : Bool) {R : Value → World → Prop} {w : World} (ht0 : ref05_sign.vc less_1 more_2 R w) : Calls Try.prog 46 #[.bool less_1, .bool more_2] w (Ret R) := by
  refine enter [.bool less_1, .bool more_2] Try.func46 rfl Try.ntmps46 rfl ?_
  intro a0 hA0
  unfold ref05_sign.vc at ht0
  refine wp_seq ?_
  refine wp_region_lit ?_
  refine sq (opk_val hA0 rfl (r_assign rfl) fun a3 hA3 _ => ?_)
  refine sq_end ?_
  have hA4 := hA3.keep [(0, .bool less_1), (1, .bool more_2)] ⟨rfl, rfl, trivial⟩
  refine then_normal ?_
  refine wp_seq ?_
  refine wp_block ?_
  refine wp_seq ?_
  refine wp_region_lit ?_
  refine sq (opk_val hA4 rfl (r_move (hA4.get rfl)) fun a5 hA5 _ => ?_)
  refine sq (opk_val hA5 rfl (r_assign (hA5.get rfl)) fun a6 hA6 _ => ?_)
  refine sq_end ?_
  have hA7 := hA6.keep [(1, .bool more_2), (5, .bool less_1)] ⟨rfl, rfl, trivial⟩
  refine then_normal ?_
  refine wp_cond_split (hA7.get rfl) (fun hc => ?_) (fun hc => ?_)
  · have ht8 := ht0.1 hc
    clear hc
    refine wp_seq ?_
    refine wp_region_lit ?_
    refine sq (opk_val hA7 rfl (r_assign rfl) fun a10 hA10 _ => ?_)
    refine sq_end ?_
    have hA11 := hA10.keep [(4, .int .i64 (-1))] ⟨rfl, trivial⟩
    refine then_normal ?_
    refine wp_ret ?_
    refine block_ret ?_
    refine then_ret ?_
    exact res_all (vs := [.int .i64 (-1)]) rfl hA11 ⟨res_of_tmp hA11 rfl, trivial⟩ ht8
  · have ht9 := ht0.2 hc
    clear hc
    refine wp_seq ?_
    refine wp_region_lit ?_
    refine sq (opk_val hA7 rfl (r_move (hA7.get rfl)) fun a12 hA12 _ => ?_)
    refine sq (opk_val hA12 rfl (r_assign (hA12.get rfl)) fun a13 hA13 _ => ?_)
    refine sq_end ?_
    have hA14 := hA13.keep [(7, .bool more_2)] ⟨rfl, trivial⟩
    refine then_normal ?_
    refine wp_cond_split (hA14.get rfl) (fun hc => ?_) (fun hc => ?_)
    · have ht15 := ht9.1 hc
      clear hc
      refine wp_seq ?_
      refine wp_region_lit ?_
      refine sq (opk_val hA14 rfl (r_assign rfl) fun a17 hA17 _ => ?_)
      refine sq_end ?_
      have hA18 := hA17.keep [(4, .int .i64 1)] ⟨rfl, trivial⟩
      refine then_normal ?_
      refine wp_ret ?_
      refine block_ret ?_
      refine then_ret ?_
      exact res_all (vs := [.int .i64 1]) rfl hA18 ⟨res_of_tmp hA18 rfl, trivial⟩ ht15
    · have ht16 := ht9.2 hc
      clear hc
      refine wp_skip ?_
      refine block_normal ?_
      refine then_normal ?_
      refine wp_seq ?_
      refine wp_region_lit ?_
      refine sq (opk_val hA14 rfl (r_assign rfl) fun a19 hA19 _ => ?_)
      refine sq_end ?_
      have hA20 := hA19.keep [(4, .int .i64 0)] ⟨rfl, trivial⟩
      refine then_normal ?_
      refine wp_ret ?_
      exact res_all (vs := [.int .i64 0]) rfl hA20 ⟨res_of_tmp hA20 rfl, trivial⟩ ht16

/-- The condition of topiary/tree.node. -/
def tree_node.vc (t_1_Kind : Int) (t_1_Name : Str) (t_1_Text : Str) (t_1_Attrs : Sl) (t_1_Kids : Sl) (R : Value → World → Prop) (w : World) : Prop :=
((t_1_Kind = 2) →
∀ (w3 : World) (B_2 : Nat), New w B_2 w3 → Chg [] w w3 →
CallK Try.prog 19 #[.string (Bs t_1_Name)] w3 [B_2] (fun v w23 => ∃ (r_21 : Bool), v = .bool r_21 ∧
∃ (r_38 : Bool), ((((r_21 = true) ∧ (t_1_Text = ([] : Str)))) → Calls Try.prog 51 #[Sl.v t_1_Attrs] w23 (Ret fun v w' => Ext w23 w' ∧ v = .bool r_38)) ∧
(∀ w40 : World, Ext w23 w40 →
∃ (r_50 : Bool), (((((r_21 = true) ∧ (t_1_Text = ([] : Str))) ∧ (r_38 = true))) → Calls Try.prog 37 #[.agg #[.int .i64 t_1_Kind, .string (Bs t_1_Name), .string (Bs t_1_Text), Sl.v t_1_Attrs, Sl.v t_1_Kids]] w40 (Ret fun v w' => Ext w40 w' ∧ v = .bool r_50)) ∧
(∀ w52 : World, Ext w40 w52 →
R (.bool (((r_21 && (decide (t_1_Text = ([] : Str)))) && r_38) && r_50)) w52)))) ∧
((¬ (t_1_Kind = 2)) →
(((0 < (t_1_Attrs.n : Int)) ∨ (0 < (t_1_Kids.n : Int))) →
∀ (w3 : World) (B_2 : Nat), New w B_2 w3 → Chg [] w w3 →
R (.bool false) w3) ∧
(((¬ (0 < (t_1_Attrs.n : Int))) ∧ (¬ (0 < (t_1_Kids.n : Int)))) →
((t_1_Kind = 3) →
∀ (w3 : World) (B_2 : Nat), New w B_2 w3 → Chg [] w w3 →
R (.bool (((decide (t_1_Name = ([] : Str))) && (decide (t_1_Text ≠ ([] : Str)))) && (decide ((t_1_Text.length : Int) ≤ 4096)))) w3) ∧
((¬ (t_1_Kind = 3)) →
((t_1_Kind = 4) →
∀ (w3 : World) (B_2 : Nat), New w B_2 w3 → Chg [] w w3 →
R (.bool ((decide (t_1_Name = ([] : Str))) && (decide ((t_1_Text.length : Int) ≤ 4096)))) w3) ∧
((¬ (t_1_Kind = 4)) →
((t_1_Kind = 5) →
∀ (w3 : World) (B_2 : Nat), New w B_2 w3 → Chg [] w w3 →
R (.bool ((decide (t_1_Text = ([] : Str))) && (decide ((t_1_Name.length : Int) ≤ 32)))) w3) ∧
((¬ (t_1_Kind = 5)) →
∀ (w3 : World) (B_2 : Nat), New w B_2 w3 → Chg [] w w3 →
R (.bool false) w3)))))
set_option maxHeartbeats 1000000 in
set_option maxRecDepth 10000 in
theorem tree_node.ok (t_1_Kind : Int) (t_1_Name : Str) (t_1_Text : Str) (t_1_Attrs : Sl) (t_1_Kids : Sl) {R : Value → World → Prop} {w : World} (ht0 : tree_node.vc t_1_Kind t_1_Name t_1_Text t_1_Attrs t_1_Kids R w) : Calls Try.prog 47 #[.agg #[.int .i64 t_1_Kind, .string (Bs t_1_Name), .string (Bs t_1_Text), Sl.v t_1_Attrs, Sl.v t_1_Kids]] w (Ret R) := by
  refine enter [.agg #[.int .i64 t_1_Kind, .string (Bs t_1_Name), .string (Bs t_1_Text), Sl.v t_1_Attrs, Sl.v t_1_Kids]] Try.func47 rfl Try.ntmps47 rfl ?_
  intro a0 hA0
  unfold tree_node.vc at ht0
  refine wp_seq ?_
  refine wp_region_lit ?_
  refine sq (opk_new (fun B => .pointer (some ⟨B, 0, none⟩)) hA0 rfl (r_box (cs := [.int .i64 t_1_Kind, .string (Bs t_1_Name), .string (Bs t_1_Text), Sl.v t_1_Attrs, Sl.v t_1_Kids]) (hA0.get rfl) rfl) fun a4 w3 B_2 hE5 hN6 hB7 hA4 _ => ?_)
  have hN8 : New w B_2 w3 := hN6
  have hC9 : Chg [] w w3 := hE5
  refine sq (opk_val hA4 rfl (r_assign rfl) fun a10 hA10 _ => ?_)
  refine sq_end ?_
  have hA11 := hA10.keep [(1, .pointer (some ⟨B_2, 0, none⟩))] ⟨rfl, trivial⟩
  refine then_normal ?_
  refine wp_seq ?_
  refine wp_seq ?_
  refine wp_region_lit ?_
  refine sq (opk_val hA11 rfl (r_fieldAddr (hA11.get rfl) Try.underlying26 rfl ti_3 (by decide)) fun a12 hA12 _ => ?_)
  refine sq (opk_val hA12 rfl (r_load1 Try.underlying3 rfl (hA12.get rfl) (hB7.cell 0 _ rfl)) fun a13 hA13 _ => ?_)
  refine sq (opk_val hA13 rfl (r_eql (hA13.get rfl) rfl) fun a14 hA14 _ => ?_)
  refine sq_end ?_
  have hA15 := hA14.keep [(1, .pointer (some ⟨B_2, 0, none⟩)), (5, .bool (decide (t_1_Kind = 2)))] ⟨rfl, rfl, trivial⟩
  refine then_normal ?_
  refine wp_cond_split (hA15.get rfl) (fun hc => ?_) (fun hc => ?_)
  · have ht16 := ht0.1 (of_decide_eq_true hc)
    clear hc
    refine wp_seq ?_
    refine wp_region_lit ?_
    refine sq (opk_val hA15 rfl (r_fieldAddr (hA15.get rfl) Try.underlying26 rfl ti_9 (by decide)) fun a18 hA18 _ => ?_)
    refine sq (opk_val hA18 rfl (r_load1 Try.underlying9 rfl (hA18.get rfl) (hB7.cell 1 _ rfl)) fun a19 hA19 _ => ?_)
    have ht20 := ht16 w3 B_2 hN8  hC9
    refine sq (opk_call hA19 rfl (r_call (args := #[.string (Bs t_1_Name)]) Try.func19 (by decide) rfl (map_arr (ml_cons (hA19.get rfl) ml_nil)) rfl) ht20 fun a22 v28 w23 hA22 _ hn25 hz26 hK27 => ?_)
    obtain ⟨r_21, rfl, ht24⟩ := hK27
    have hB29 := hB7.kept hn25 (.head _)
    refine sq (opk_val hA22 rfl (r_move (hA22.get rfl)) fun a30 hA30 _ => ?_)
    refine sq (opk_gval hA30 rfl rfl (g := true) (e := r_21) rfl (fun hg => r_fieldAddr (hA30.get rfl) Try.underlying26 rfl ti_9 (by decide)) fun a31 hA31 _ => ?_)
    refine sq (opk_gval hA31 rfl rfl (g := true) (e := r_21) rfl (fun hg => r_load1 Try.underlying9 rfl (cv_get (hA31.get rfl) hg) (hB29.cell 2 _ rfl)) fun a32 hA32 _ => ?_)
    refine sq (opk_gval hA32 rfl rfl (g := true) (e := r_21) rfl (fun hg => r_seql (cv_get (hA32.get rfl) hg) rfl) fun a33 hA33 _ => ?_)
    refine sq (opk_val hA33 rfl (r_pick_and (g := (true && (r_21 == true))) (hA33.get rfl) (hA33.get rfl) (fun he => g_mkt rfl he)) fun a34 hA34 _ => ?_)
    refine sq (opk_val hA34 rfl (r_move (hA34.get rfl)) fun a35 hA35 _ => ?_)
    refine sq (opk_gval hA35 rfl rfl (g := true) (e := (r_21 && (decide (t_1_Text = ([] : Str))))) rfl (fun hg => r_fieldAddr (hA35.get rfl) Try.underlying26 rfl ti_23 (by decide)) fun a36 hA36 _ => ?_)
    refine sq (opk_gval hA36 rfl rfl (g := true) (e := (r_21 && (decide (t_1_Text = ([] : Str))))) rfl (fun hg => r_load1 Try.underlying23 rfl (cv_get (hA36.get rfl) hg) (hB29.cell 3 _ rfl)) fun a37 hA37 _ => ?_)
    obtain ⟨r_38, hc42, ht41⟩ := ht24
    refine sq (opk_gcall hA37 rfl rfl (g := true) (e := (r_21 && (decide (t_1_Text = ([] : Str))))) rfl (fun hg => r_call (args := #[Sl.v t_1_Attrs]) Try.func51 (by decide) rfl (map_arr (ml_cons (cv_get (hA37.get rfl) hg) ml_nil)) rfl) (fun hg => hc42 ⟨(b_and_t (g_t hg)).1, (of_decide_eq_true (b_and_t (g_t hg)).2)⟩) fun a39 w40 hA39 _ hE43 => ?_)
    have hB44 := hB29.ext hE43
    have hC45 : Chg [] w23 w40 := hE43
    have ht46 := ht41 w40 hE43
    refine sq (opk_val hA39 rfl (r_pick_and (g := (true && ((r_21 && (decide (t_1_Text = ([] : Str)))) == true))) (hA39.get rfl) (hA39.get rfl) (fun he => g_mkt rfl he)) fun a47 hA47 _ => ?_)
    refine sq (opk_val hA47 rfl (r_move (hA47.get rfl)) fun a48 hA48 _ => ?_)
    refine sq (opk_gval hA48 rfl rfl (g := true) (e := ((r_21 && (decide (t_1_Text = ([] : Str)))) && r_38)) rfl (fun hg => r_loadN (cs := [.int .i64 t_1_Kind, .string (Bs t_1_Name), .string (Bs t_1_Text), Sl.v t_1_Attrs, Sl.v t_1_Kids]) Try.underlying26 rfl ti_26 (hA48.get rfl) (hB44.part 0 _ rfl)) fun a49 hA49 _ => ?_)
    obtain ⟨r_50, hc54, ht53⟩ := ht46
    refine sq (opk_gcall hA49 rfl rfl (g := true) (e := ((r_21 && (decide (t_1_Text = ([] : Str)))) && r_38)) rfl (fun hg => r_call (args := #[.agg #[.int .i64 t_1_Kind, .string (Bs t_1_Name), .string (Bs t_1_Text), Sl.v t_1_Attrs, Sl.v t_1_Kids]]) Try.func37 (by decide) rfl (map_arr (ml_cons (cv_get (hA49.get rfl) hg) ml_nil)) rfl) (fun hg => hc54 ⟨⟨(b_and_t (b_and_t (g_t hg)).1).1, (of_decide_eq_true (b_and_t (b_and_t (g_t hg)).1).2)⟩, (b_and_t (g_t hg)).2⟩) fun a51 w52 hA51 _ hE55 => ?_)
    have hB56 := hB44.ext hE55
    have hC57 : Chg [] w40 w52 := hE55
    have ht58 := ht53 w52 hE55
    refine sq (opk_val hA51 rfl (r_pick_and (g := (true && (((r_21 && (decide (t_1_Text = ([] : Str)))) && r_38) == true))) (hA51.get rfl) (hA51.get rfl) (fun he => g_mkt rfl he)) fun a59 hA59 _ => ?_)
    refine sq (opk_val hA59 rfl (r_assign (hA59.get rfl)) fun a60 hA60 _ => ?_)
    refine sq_end ?_
    have hA61 := hA60.keep [(2, .bool (((r_21 && (decide (t_1_Text = ([] : Str)))) && r_38) && r_50))] ⟨rfl, trivial⟩
    refine then_normal ?_
    refine wp_ret ?_
    refine then_ret ?_
    exact res_all (vs := [.bool (((r_21 && (decide (t_1_Text = ([] : Str)))) && r_38) && r_50)]) rfl hA61 ⟨res_of_tmp hA61 rfl, trivial⟩ ht58
  · have ht17 := ht0.2 (of_decide_eq_false hc)
    clear hc
    refine wp_skip ?_
    refine then_normal ?_
    refine wp_seq ?_
    refine wp_seq ?_
    refine wp_region_lit ?_
    refine sq (opk_val hA15 rfl (r_fieldAddr (hA15.get rfl) Try.underlying26 rfl ti_23 (by decide)) fun a62 hA62 _ => ?_)
    refine sq (opk_val hA62 rfl (r_load1 Try.underlying23 rfl (hA62.get rfl) (hB7.cell 3 _ rfl)) fun a63 hA63 _ => ?_)
    refine sq (opk_val hA63 rfl (r_len (hA63.get rfl) Try.underlying23) fun a64 hA64 _ => ?_)
    refine sq (opk_val hA64 rfl (r_gtr (hA64.get rfl) rfl) fun a65 hA65 _ => ?_)
    refine sq (opk_val hA65 rfl (r_move (hA65.get rfl)) fun a66 hA66 _ => ?_)
    refine sq (opk_gval hA66 rfl rfl (g := true) (e := (decide (0 < (t_1_Attrs.n : Int)))) rfl (fun hg => r_fieldAddr (hA66.get rfl) Try.underlying26 rfl ti_24 (by decide)) fun a67 hA67 _ => ?_)
    refine sq (opk_gval hA67 rfl rfl (g := true) (e := (decide (0 < (t_1_Attrs.n : Int)))) rfl (fun hg => r_load1 Try.underlying24 rfl (cv_get (hA67.get rfl) hg) (hB7.cell 4 _ rfl)) fun a68 hA68 _ => ?_)
    refine sq (opk_gval hA68 rfl rfl (g := true) (e := (decide (0 < (t_1_Attrs.n : Int)))) rfl (fun hg => r_len (cv_get (hA68.get rfl) hg) Try.underlying24) fun a69 hA69 _ => ?_)
    refine sq (opk_gval hA69 rfl rfl (g := true) (e := (decide (0 < (t_1_Attrs.n : Int)))) rfl (fun hg => r_gtr (cv_get (hA69.get rfl) hg) rfl) fun a70 hA70 _ => ?_)
    refine sq (opk_val hA70 rfl (r_pick_or (g := (true && ((decide (0 < (t_1_Attrs.n : Int))) == false))) (hA70.get rfl) (hA70.get rfl) (fun he => g_mkf rfl he)) fun a71 hA71 _ => ?_)
    refine sq_end ?_
    have hA72 := hA71.keep [(1, .pointer (some ⟨B_2, 0, none⟩)), (32, .bool ((decide (0 < (t_1_Attrs.n : Int))) || (decide (0 < (t_1_Kids.n : Int)))))] ⟨rfl, rfl, trivial⟩
    refine then_normal ?_
    refine wp_cond_split (hA72.get rfl) (fun hc => ?_) (fun hc => ?_)
    · have ht73 := ht17.1 ((b_or_t hc).imp (fun h => (of_decide_eq_true h)) (fun h => (of_decide_eq_true h)))
      clear hc
      refine wp_seq ?_
      refine wp_region_lit ?_
      refine sq (opk_val hA72 rfl (r_assign rfl) fun a75 hA75 _ => ?_)
      refine sq_end ?_
      have hA76 := hA75.keep [(2, .bool false)] ⟨rfl, trivial⟩
      refine then_normal ?_
      refine wp_ret ?_
      refine then_ret ?_
      have ht77 := ht73 w3 B_2 hN8  hC9
      exact res_all (vs := [.bool false]) rfl hA76 ⟨res_of_tmp hA76 rfl, trivial⟩ ht77
    · have ht74 := ht17.2 ⟨(of_decide_eq_false (b_or_f hc).1), (of_decide_eq_false (b_or_f hc).2)⟩
      clear hc
      refine wp_skip ?_
      refine then_normal ?_
      refine wp_seq ?_
      refine wp_seq ?_
      refine wp_region_lit ?_
      refine sq (opk_val hA72 rfl (r_fieldAddr (hA72.get rfl) Try.underlying26 rfl ti_3 (by decide)) fun a78 hA78 _ => ?_)
      refine sq (opk_val hA78 rfl (r_load1 Try.underlying3 rfl (hA78.get rfl) (hB7.cell 0 _ rfl)) fun a79 hA79 _ => ?_)
      refine sq_end ?_
      have hA80 := hA79.keep [(1, .pointer (some ⟨B_2, 0, none⟩)), (34, .int .i64 t_1_Kind)] ⟨rfl, rfl, trivial⟩
      refine then_normal ?_
      refine wp_block ?_
      refine wp_seq ?_
      refine wp_region_lit ?_
      refine sq (opk_val hA80 rfl (r_eql (hA80.get rfl) rfl) fun a81 hA81 _ => ?_)
      refine sq (opk_val hA81 rfl (r_assign (hA81.get rfl)) fun a82 hA82 _ => ?_)
      refine sq_end ?_
      have hA83 := hA82.keep [(1, .pointer (some ⟨B_2, 0, none⟩)), (34, .int .i64 t_1_Kind), (35, .bool (decide (t_1_Kind = 3)))] ⟨rfl, rfl, rfl, trivial⟩
      refine then_normal ?_
      refine wp_cond_split (hA83.get rfl) (fun hc => ?_) (fun hc => ?_)
      · have ht84 := ht74.1 (of_decide_eq_true hc)
        clear hc
        refine wp_seq ?_
        refine wp_region_lit ?_
        refine sq (opk_val hA83 rfl (r_fieldAddr (hA83.get rfl) Try.underlying26 rfl ti_9 (by decide)) fun a86 hA86 _ => ?_)
        refine sq (opk_val hA86 rfl (r_load1 Try.underlying9 rfl (hA86.get rfl) (hB7.cell 1 _ rfl)) fun a87 hA87 _ => ?_)
        refine sq (opk_val hA87 rfl (r_seql (hA87.get rfl) rfl) fun a88 hA88 _ => ?_)
        refine sq (opk_val hA88 rfl (r_move (hA88.get rfl)) fun a89 hA89 _ => ?_)
        refine sq (opk_gval hA89 rfl rfl (g := true) (e := (decide (t_1_Name = ([] : Str)))) rfl (fun hg => r_fieldAddr (hA89.get rfl) Try.underlying26 rfl ti_9 (by decide)) fun a90 hA90 _ => ?_)
        refine sq (opk_gval hA90 rfl rfl (g := true) (e := (decide (t_1_Name = ([] : Str)))) rfl (fun hg => r_load1 Try.underlying9 rfl (cv_get (hA90.get rfl) hg) (hB7.cell 2 _ rfl)) fun a91 hA91 _ => ?_)
        refine sq (opk_gval hA91 rfl rfl (g := true) (e := (decide (t_1_Name = ([] : Str)))) rfl (fun hg => r_sneq (cv_get (hA91.get rfl) hg) rfl) fun a92 hA92 _ => ?_)
        refine sq (opk_val hA92 rfl (r_pick_and (g := (true && ((decide (t_1_Name = ([] : Str))) == true))) (hA92.get rfl) (hA92.get rfl) (fun he => g_mkt rfl he)) fun a93 hA93 _ => ?_)
        refine sq (opk_val hA93 rfl (r_move (hA93.get rfl)) fun a94 hA94 _ => ?_)
        refine sq (opk_gval hA94 rfl rfl (g := true) (e := ((decide (t_1_Name = ([] : Str))) && (decide (t_1_Text ≠ ([] : Str))))) rfl (fun hg => r_fieldAddr (hA94.get rfl) Try.underlying26 rfl ti_9 (by decide)) fun a95 hA95 _ => ?_)
        refine sq (opk_gval hA95 rfl rfl (g := true) (e := ((decide (t_1_Name = ([] : Str))) && (decide (t_1_Text ≠ ([] : Str))))) rfl (fun hg => r_load1 Try.underlying9 rfl (cv_get (hA95.get rfl) hg) (hB7.cell 2 _ rfl)) fun a96 hA96 _ => ?_)
        refine sq (opk_gval hA96 rfl rfl (g := true) (e := ((decide (t_1_Name = ([] : Str))) && (decide (t_1_Text ≠ ([] : Str))))) rfl (fun hg => r_slen (cv_get (hA96.get rfl) hg) Try.underlying9) fun a97 hA97 _ => ?_)
        refine sq (opk_gval hA97 rfl rfl (g := true) (e := ((decide (t_1_Name = ([] : Str))) && (decide (t_1_Text ≠ ([] : Str))))) rfl (fun hg => r_leq (cv_get (hA97.get rfl) hg) rfl) fun a98 hA98 _ => ?_)
        refine sq (opk_val hA98 rfl (r_pick_and (g := (true && (((decide (t_1_Name = ([] : Str))) && (decide (t_1_Text ≠ ([] : Str)))) == true))) (hA98.get rfl) (hA98.get rfl) (fun he => g_mkt rfl he)) fun a99 hA99 _ => ?_)
        refine sq (opk_val hA99 rfl (r_assign (hA99.get rfl)) fun a100 hA100 _ => ?_)
        refine sq_end ?_
        have hA101 := hA100.keep [(2, .bool (((decide (t_1_Name = ([] : Str))) && (decide (t_1_Text ≠ ([] : Str)))) && (decide ((t_1_Text.length : Int) ≤ 4096))))] ⟨rfl, trivial⟩
        refine then_normal ?_
        refine wp_ret ?_
        refine block_ret ?_
        refine then_ret ?_
        have ht102 := ht84 w3 B_2 hN8  hC9
        exact res_all (vs := [.bool (((decide (t_1_Name = ([] : Str))) && (decide (t_1_Text ≠ ([] : Str)))) && (decide ((t_1_Text.length : Int) ≤ 4096)))]) rfl hA101 ⟨res_of_tmp hA101 rfl, trivial⟩ ht102
      · have ht85 := ht74.2 (of_decide_eq_false hc)
        clear hc
        refine wp_seq ?_
        refine wp_region_lit ?_
        refine sq (opk_val hA83 rfl (r_eql (hA83.get rfl) rfl) fun a103 hA103 _ => ?_)
        refine sq (opk_val hA103 rfl (r_assign (hA103.get rfl)) fun a104 hA104 _ => ?_)
        refine sq_end ?_
        have hA105 := hA104.keep [(1, .pointer (some ⟨B_2, 0, none⟩)), (34, .int .i64 t_1_Kind), (51, .bool (decide (t_1_Kind = 4)))] ⟨rfl, rfl, rfl, trivial⟩
        refine then_normal ?_
        refine wp_cond_split (hA105.get rfl) (fun hc => ?_) (fun hc => ?_)
        · have ht106 := ht85.1 (of_decide_eq_true hc)
          clear hc
          refine wp_seq ?_
          refine wp_region_lit ?_
          refine sq (opk_val hA105 rfl (r_fieldAddr (hA105.get rfl) Try.underlying26 rfl ti_9 (by decide)) fun a108 hA108 _ => ?_)
          refine sq (opk_val hA108 rfl (r_load1 Try.underlying9 rfl (hA108.get rfl) (hB7.cell 1 _ rfl)) fun a109 hA109 _ => ?_)
          refine sq (opk_val hA109 rfl (r_seql (hA109.get rfl) rfl) fun a110 hA110 _ => ?_)
          refine sq (opk_val hA110 rfl (r_move (hA110.get rfl)) fun a111 hA111 _ => ?_)
          refine sq (opk_gval hA111 rfl rfl (g := true) (e := (decide (t_1_Name = ([] : Str)))) rfl (fun hg => r_fieldAddr (hA111.get rfl) Try.underlying26 rfl ti_9 (by decide)) fun a112 hA112 _ => ?_)
          refine sq (opk_gval hA112 rfl rfl (g := true) (e := (decide (t_1_Name = ([] : Str)))) rfl (fun hg => r_load1 Try.underlying9 rfl (cv_get (hA112.get rfl) hg) (hB7.cell 2 _ rfl)) fun a113 hA113 _ => ?_)
          refine sq (opk_gval hA113 rfl rfl (g := true) (e := (decide (t_1_Name = ([] : Str)))) rfl (fun hg => r_slen (cv_get (hA113.get rfl) hg) Try.underlying9) fun a114 hA114 _ => ?_)
          refine sq (opk_gval hA114 rfl rfl (g := true) (e := (decide (t_1_Name = ([] : Str)))) rfl (fun hg => r_leq (cv_get (hA114.get rfl) hg) rfl) fun a115 hA115 _ => ?_)
          refine sq (opk_val hA115 rfl (r_pick_and (g := (true && ((decide (t_1_Name = ([] : Str))) == true))) (hA115.get rfl) (hA115.get rfl) (fun he => g_mkt rfl he)) fun a116 hA116 _ => ?_)
          refine sq (opk_val hA116 rfl (r_assign (hA116.get rfl)) fun a117 hA117 _ => ?_)
          refine sq_end ?_
          have hA118 := hA117.keep [(2, .bool ((decide (t_1_Name = ([] : Str))) && (decide ((t_1_Text.length : Int) ≤ 4096))))] ⟨rfl, trivial⟩
          refine then_normal ?_
          refine wp_ret ?_
          refine block_ret ?_
          refine then_ret ?_
          have ht119 := ht106 w3 B_2 hN8  hC9
          exact res_all (vs := [.bool ((decide (t_1_Name = ([] : Str))) && (decide ((t_1_Text.length : Int) ≤ 4096)))]) rfl hA118 ⟨res_of_tmp hA118 rfl, trivial⟩ ht119
        · have ht107 := ht85.2 (of_decide_eq_false hc)
          clear hc
          refine wp_seq ?_
          refine wp_region_lit ?_
          refine sq (opk_val hA105 rfl (r_eql (hA105.get rfl) rfl) fun a120 hA120 _ => ?_)
          refine sq (opk_val hA120 rfl (r_assign (hA120.get rfl)) fun a121 hA121 _ => ?_)
          refine sq_end ?_
          have hA122 := hA121.keep [(1, .pointer (some ⟨B_2, 0, none⟩)), (62, .bool (decide (t_1_Kind = 5)))] ⟨rfl, rfl, trivial⟩
          refine then_normal ?_
          refine wp_cond_split (hA122.get rfl) (fun hc => ?_) (fun hc => ?_)
          · have ht123 := ht107.1 (of_decide_eq_true hc)
            clear hc
            refine wp_seq ?_
            refine wp_region_lit ?_
            refine sq (opk_val hA122 rfl (r_fieldAddr (hA122.get rfl) Try.underlying26 rfl ti_9 (by decide)) fun a125 hA125 _ => ?_)
            refine sq (opk_val hA125 rfl (r_load1 Try.underlying9 rfl (hA125.get rfl) (hB7.cell 2 _ rfl)) fun a126 hA126 _ => ?_)
            refine sq (opk_val hA126 rfl (r_seql (hA126.get rfl) rfl) fun a127 hA127 _ => ?_)
            refine sq (opk_val hA127 rfl (r_move (hA127.get rfl)) fun a128 hA128 _ => ?_)
            refine sq (opk_gval hA128 rfl rfl (g := true) (e := (decide (t_1_Text = ([] : Str)))) rfl (fun hg => r_fieldAddr (hA128.get rfl) Try.underlying26 rfl ti_9 (by decide)) fun a129 hA129 _ => ?_)
            refine sq (opk_gval hA129 rfl rfl (g := true) (e := (decide (t_1_Text = ([] : Str)))) rfl (fun hg => r_load1 Try.underlying9 rfl (cv_get (hA129.get rfl) hg) (hB7.cell 1 _ rfl)) fun a130 hA130 _ => ?_)
            refine sq (opk_gval hA130 rfl rfl (g := true) (e := (decide (t_1_Text = ([] : Str)))) rfl (fun hg => r_slen (cv_get (hA130.get rfl) hg) Try.underlying9) fun a131 hA131 _ => ?_)
            refine sq (opk_gval hA131 rfl rfl (g := true) (e := (decide (t_1_Text = ([] : Str)))) rfl (fun hg => r_leq (cv_get (hA131.get rfl) hg) rfl) fun a132 hA132 _ => ?_)
            refine sq (opk_val hA132 rfl (r_pick_and (g := (true && ((decide (t_1_Text = ([] : Str))) == true))) (hA132.get rfl) (hA132.get rfl) (fun he => g_mkt rfl he)) fun a133 hA133 _ => ?_)
            refine sq (opk_val hA133 rfl (r_assign (hA133.get rfl)) fun a134 hA134 _ => ?_)
            refine sq_end ?_
            have hA135 := hA134.keep [(2, .bool ((decide (t_1_Text = ([] : Str))) && (decide ((t_1_Name.length : Int) ≤ 32))))] ⟨rfl, trivial⟩
            refine then_normal ?_
            refine wp_ret ?_
            refine block_ret ?_
            refine then_ret ?_
            have ht136 := ht123 w3 B_2 hN8  hC9
            exact res_all (vs := [.bool ((decide (t_1_Text = ([] : Str))) && (decide ((t_1_Name.length : Int) ≤ 32)))]) rfl hA135 ⟨res_of_tmp hA135 rfl, trivial⟩ ht136
          · have ht124 := ht107.2 (of_decide_eq_false hc)
            clear hc
            refine wp_skip ?_
            refine block_normal ?_
            refine then_normal ?_
            refine wp_seq ?_
            refine wp_region_lit ?_
            refine sq (opk_val hA122 rfl (r_assign rfl) fun a137 hA137 _ => ?_)
            refine sq_end ?_
            have hA138 := hA137.keep [(2, .bool false)] ⟨rfl, trivial⟩
            refine then_normal ?_
            refine wp_ret ?_
            have ht139 := ht124 w3 B_2 hN8  hC9
            exact res_all (vs := [.bool false]) rfl hA138 ⟨res_of_tmp hA138 rfl, trivial⟩ ht139

/-- The condition of cmp.isNaN[int]. -/
def cmp_isNaN_int.vc (x_1 : Int) (R : Value → World → Prop) (w : World) : Prop :=
R (.bool (decide (x_1 ≠ x_1))) w
set_option maxHeartbeats 1000000 in
set_option maxRecDepth 10000 in
theorem cmp_isNaN_int.ok (x_1 : Int) {R : Value → World → Prop} {w : World} (ht0 : cmp_isNaN_int.vc x_1 R w) : Calls Try.prog 48 #[.int .i64 x_1] w (Ret R) := by
  refine enter [.int .i64 x_1] Try.func48 rfl Try.ntmps48 rfl ?_
  intro a0 hA0
  unfold cmp_isNaN_int.vc at ht0
  refine wp_seq ?_
  refine wp_region_lit ?_
  refine sq (opk_val hA0 rfl (r_assign rfl) fun a2 hA2 _ => ?_)
  refine sq_end ?_
  have hA3 := hA2.keep [(0, .int .i64 x_1)] ⟨rfl, trivial⟩
  refine then_normal ?_
  refine wp_seq ?_
  refine wp_region_lit ?_
  refine sq (opk_val hA3 rfl (r_move (hA3.get rfl)) fun a4 hA4 _ => ?_)
  refine sq (opk_val hA4 rfl (r_move (hA4.get rfl)) fun a5 hA5 _ => ?_)
  refine sq (opk_val hA5 rfl (r_neq (hA5.get rfl) (hA5.get rfl)) fun a6 hA6 _ => ?_)
  refine sq (opk_val hA6 rfl (r_assign (hA6.get rfl)) fun a7 hA7 _ => ?_)
  refine sq_end ?_
  have hA8 := hA7.keep [(2, .bool (decide (x_1 ≠ x_1)))] ⟨rfl, trivial⟩
  refine then_normal ?_
  refine wp_ret ?_
  exact res_all (vs := [.bool (decide (x_1 ≠ x_1))]) rfl hA8 ⟨res_of_tmp hA8 rfl, trivial⟩ ht0

/-- The condition of internal/bytealg.CompareString. -/
def bytealg_CompareString.vc (a_1 : Str) (b_2 : Str) (R : Value → World → Prop) (w : World) : Prop :=
R (.int .i64 (Lib.compareBytes a_1 b_2)) w
set_option maxHeartbeats 1000000 in
set_option maxRecDepth 10000 in
theorem bytealg_CompareString.ok (a_1 : Str) (b_2 : Str) {R : Value → World → Prop} {w : World} (ht0 : bytealg_CompareString.vc a_1 b_2 R w) : Calls Try.prog 49 #[.string (Bs a_1), .string (Bs b_2)] w (Ret R) := by
  refine enter [.string (Bs a_1), .string (Bs b_2)] Try.func49 rfl Try.ntmps49 rfl ?_
  intro a0 hA0
  unfold bytealg_CompareString.vc at ht0
  refine wp_seq ?_
  refine wp_region_lit ?_
  refine sq (opk_val hA0 rfl (r_assign rfl) fun a3 hA3 _ => ?_)
  refine sq_end ?_
  have hA4 := hA3.keep [(0, .string (Bs a_1)), (1, .string (Bs b_2))] ⟨rfl, rfl, trivial⟩
  refine then_normal ?_
  refine wp_seq ?_
  refine wp_region_lit ?_
  refine sq (opk_val hA4 rfl (r_move (hA4.get rfl)) fun a5 hA5 _ => ?_)
  refine sq (opk_val hA5 rfl (r_move (hA5.get rfl)) fun a6 hA6 _ => ?_)
  refine sq (opk_val hA6 rfl (r_cmpstr Try.func52 (by kernel_rfl) (by kernel_rfl) (by kernel_rfl) (by kernel_rfl) (map_arr (ml_cons (hA6.get rfl) (ml_cons (hA6.get rfl) ml_nil))) rfl) fun a7 hA7 _ => ?_)
  refine sq (opk_val hA7 rfl (r_assign (hA7.get rfl)) fun a8 hA8 _ => ?_)
  refine sq_end ?_
  have hA9 := hA8.keep [(4, .int .i64 (Lib.compareBytes a_1 b_2))] ⟨rfl, trivial⟩
  refine then_normal ?_
  refine wp_ret ?_
  exact res_all (vs := [.int .i64 (Lib.compareBytes a_1 b_2)]) rfl hA9 ⟨res_of_tmp hA9 rfl, trivial⟩ ht0

/-- The condition of topiary/topiaryref05.May. -/
def ref05_May.vc (t_1_Kind : Int) (t_1_Name : Str) (t_1_Text : Str) (t_1_Attrs : Sl) (t_1_Kids : Sl) (top_2 : Bool) (root_3 : Bool) (R : Value → World → Prop) (w : World) : Prop :=
((t_1_Kind = 1) →
∀ (w5 : World) (B_4 : Nat), New w B_4 w5 → Chg [] w w5 →
R (.bool (((top_2 && (decide (t_1_Name = ([] : Str)))) && (decide (t_1_Text = ([] : Str)))) && (decide ((t_1_Attrs.n : Int) = 0)))) w5) ∧
((¬ (t_1_Kind = 1)) →
((t_1_Kind = 2) →
∀ (w5 : World) (B_4 : Nat), New w B_4 w5 → Chg [] w w5 →
CallK Try.prog 28 #[.string (Bs t_1_Name)] w5 [B_4] (fun v w52 => ∃ (r_50 : Bool), v = .bool r_50 ∧
∃ (r_67 : Bool), ((((r_50 = true) ∧ (t_1_Text = ([] : Str)))) → Calls Try.prog 53 #[Sl.v t_1_Attrs] w52 (Ret fun v w' => Ext w52 w' ∧ v = .bool r_67)) ∧
(∀ w69 : World, Ext w52 w69 →
R (.bool ((r_50 && (decide (t_1_Text = ([] : Str)))) && r_67)) w69))) ∧
((¬ (t_1_Kind = 2)) →
((t_1_Kind = 3) →
∀ (w5 : World) (B_4 : Nat), New w B_4 w5 → Chg [] w w5 →
R (.bool (((((decide (t_1_Name = ([] : Str))) && (decide ((t_1_Attrs.n : Int) = 0))) && (decide ((t_1_Kids.n : Int) = 0))) && (decide (1 ≤ (t_1_Text.length : Int)))) && (decide ((t_1_Text.length : Int) ≤ 4096)))) w5) ∧
((¬ (t_1_Kind = 3)) →
((t_1_Kind = 4) →
∀ (w5 : World) (B_4 : Nat), New w B_4 w5 → Chg [] w w5 →
R (.bool ((((decide (t_1_Name = ([] : Str))) && (decide ((t_1_Attrs.n : Int) = 0))) && (decide ((t_1_Kids.n : Int) = 0))) && (decide ((t_1_Text.length : Int) ≤ 4096)))) w5) ∧
((¬ (t_1_Kind = 4)) →
((t_1_Kind = 5) →
∀ (w5 : World) (B_4 : Nat), New w B_4 w5 → Chg [] w w5 →
R (.bool ((((root_3 && (decide ((t_1_Name.length : Int) ≤ 32))) && (decide (t_1_Text = ([] : Str)))) && (decide ((t_1_Attrs.n : Int) = 0))) && (decide ((t_1_Kids.n : Int) = 0)))) w5) ∧
((¬ (t_1_Kind = 5)) →
∀ (w5 : World) (B_4 : Nat), New w B_4 w5 → Chg [] w w5 →
R (.bool false) w5)))))
set_option maxHeartbeats 1000000 in
set_option maxRecDepth 10000 in
theorem ref05_May.ok (t_1_Kind : Int) (t_1_Name : Str) (t_1_Text : Str) (t_1_Attrs : Sl) (t_1_Kids : Sl) (top_2 : Bool) (root_3 : Bool) {R : Value → World → Prop} {w : World} (ht0 : ref05_May.vc t_1_Kind t_1_Name t_1_Text t_1_Attrs t_1_Kids top_2 root_3 R w) : Calls Try.prog 50 #[.agg #[.int .i64 t_1_Kind, .string (Bs t_1_Name), .string (Bs t_1_Text), Sl.v t_1_Attrs, Sl.v t_1_Kids], .bool top_2, .bool root_3] w (Ret R) := by
  refine enter [.agg #[.int .i64 t_1_Kind, .string (Bs t_1_Name), .string (Bs t_1_Text), Sl.v t_1_Attrs, Sl.v t_1_Kids], .bool top_2, .bool root_3] Try.func50 rfl Try.ntmps50 rfl ?_
  intro a0 hA0
  unfold ref05_May.vc at ht0
  refine wp_seq ?_
  refine wp_region_lit ?_
  refine sq (opk_new (fun B => .pointer (some ⟨B, 0, none⟩)) hA0 rfl (r_box (cs := [.int .i64 t_1_Kind, .string (Bs t_1_Name), .string (Bs t_1_Text), Sl.v t_1_Attrs, Sl.v t_1_Kids]) (hA0.get rfl) rfl) fun a6 w5 B_4 hE7 hN8 hB9 hA6 _ => ?_)
  have hN10 : New w B_4 w5 := hN8
  have hC11 : Chg [] w w5 := hE7
  refine sq (opk_val hA6 rfl (r_assign rfl) fun a12 hA12 _ => ?_)
  refine sq_end ?_
  have hA13 := hA12.keep [(1, .bool top_2), (2, .bool root_3), (3, .pointer (some ⟨B_4, 0, none⟩))] ⟨rfl, rfl, rfl, trivial⟩
  refine then_normal ?_
  refine wp_seq ?_
  refine wp_seq ?_
  refine wp_region_lit ?_
  refine sq (opk_val hA13 rfl (r_fieldAddr (hA13.get rfl) Try.underlying26 rfl ti_3 (by decide)) fun a14 hA14 _ => ?_)
  refine sq (opk_val hA14 rfl (r_load1 Try.underlying3 rfl (hA14.get rfl) (hB9.cell 0 _ rfl)) fun a15 hA15 _ => ?_)
  refine sq_end ?_
  have hA16 := hA15.keep [(1, .bool top_2), (2, .bool root_3), (3, .pointer (some ⟨B_4, 0, none⟩)), (8, .int .i64 t_1_Kind)] ⟨rfl, rfl, rfl, rfl, trivial⟩
  refine then_normal ?_
  refine wp_block ?_
  refine wp_seq ?_
  refine wp_region_lit ?_
  refine sq (opk_val hA16 rfl (r_eql (hA16.get rfl) rfl) fun a17 hA17 _ => ?_)
  refine sq (opk_val hA17 rfl (r_assign (hA17.get rfl)) fun a18 hA18 _ => ?_)
  refine sq_end ?_
  have hA19 := hA18.keep [(1, .bool top_2), (2, .bool root_3), (3, .pointer (some ⟨B_4, 0, none⟩)), (8, .int .i64 t_1_Kind), (9, .bool (decide (t_1_Kind = 1)))] ⟨rfl, rfl, rfl, rfl, rfl, trivial⟩
  refine then_normal ?_
  refine wp_cond_split (hA19.get rfl) (fun hc => ?_) (fun hc => ?_)
  · have ht20 := ht0.1 (of_decide_eq_true hc)
    clear hc
    refine wp_seq ?_
    refine wp_region_lit ?_
    refine sq (opk_val hA19 rfl (r_move (hA19.get rfl)) fun a22 hA22 _ => ?_)
    refine sq (opk_val hA22 rfl (r_move (hA22.get rfl)) fun a23 hA23 _ => ?_)
    refine sq (opk_gval hA23 rfl rfl (g := true) (e := top_2) rfl (fun hg => r_fieldAddr (hA23.get rfl) Try.underlying26 rfl ti_9 (by decide)) fun a24 hA24 _ => ?_)
    refine sq (opk_gval hA24 rfl rfl (g := true) (e := top_2) rfl (fun hg => r_load1 Try.underlying9 rfl (cv_get (hA24.get rfl) hg) (hB9.cell 1 _ rfl)) fun a25 hA25 _ => ?_)
    refine sq (opk_gval hA25 rfl rfl (g := true) (e := top_2) rfl (fun hg => r_seql (cv_get (hA25.get rfl) hg) rfl) fun a26 hA26 _ => ?_)
    refine sq (opk_val hA26 rfl (r_pick_and (g := (true && (top_2 == true))) (hA26.get rfl) (hA26.get rfl) (fun he => g_mkt rfl he)) fun a27 hA27 _ => ?_)
    refine sq (opk_val hA27 rfl (r_move (hA27.get rfl)) fun a28 hA28 _ => ?_)
    refine sq (opk_gval hA28 rfl rfl (g := true) (e := (top_2 && (decide (t_1_Name = ([] : Str))))) rfl (fun hg => r_fieldAddr (hA28.get rfl) Try.underlying26 rfl ti_9 (by decide)) fun a29 hA29 _ => ?_)
    refine sq (opk_gval hA29 rfl rfl (g := true) (e := (top_2 && (decide (t_1_Name = ([] : Str))))) rfl (fun hg => r_load1 Try.underlying9 rfl (cv_get (hA29.get rfl) hg) (hB9.cell 2 _ rfl)) fun a30 hA30 _ => ?_)
    refine sq (opk_gval hA30 rfl rfl (g := true) (e := (top_2 && (decide (t_1_Name = ([] : Str))))) rfl (fun hg => r_seql (cv_get (hA30.get rfl) hg) rfl) fun a31 hA31 _ => ?_)
    refine sq (opk_val hA31 rfl (r_pick_and (g := (true && ((top_2 && (decide (t_1_Name = ([] : Str)))) == true))) (hA31.get rfl) (hA31.get rfl) (fun he => g_mkt rfl he)) fun a32 hA32 _ => ?_)
    refine sq (opk_val hA32 rfl (r_move (hA32.get rfl)) fun a33 hA33 _ => ?_)
    refine sq (opk_gval hA33 rfl rfl (g := true) (e := ((top_2 && (decide (t_1_Name = ([] : Str)))) && (decide (t_1_Text = ([] : Str))))) rfl (fun hg => r_fieldAddr (hA33.get rfl) Try.underlying26 rfl ti_23 (by decide)) fun a34 hA34 _ => ?_)
    refine sq (opk_gval hA34 rfl rfl (g := true) (e := ((top_2 && (decide (t_1_Name = ([] : Str)))) && (decide (t_1_Text = ([] : Str))))) rfl (fun hg => r_load1 Try.underlying23 rfl (cv_get (hA34.get rfl) hg) (hB9.cell 3 _ rfl)) fun a35 hA35 _ => ?_)
    refine sq (opk_gval hA35 rfl rfl (g := true) (e := ((top_2 && (decide (t_1_Name = ([] : Str)))) && (decide (t_1_Text = ([] : Str))))) rfl (fun hg => r_len (cv_get (hA35.get rfl) hg) Try.underlying23) fun a36 hA36 _ => ?_)
    refine sq (opk_gval hA36 rfl rfl (g := true) (e := ((top_2 && (decide (t_1_Name = ([] : Str)))) && (decide (t_1_Text = ([] : Str))))) rfl (fun hg => r_eql (cv_get (hA36.get rfl) hg) rfl) fun a37 hA37 _ => ?_)
    refine sq (opk_val hA37 rfl (r_pick_and (g := (true && (((top_2 && (decide (t_1_Name = ([] : Str)))) && (decide (t_1_Text = ([] : Str)))) == true))) (hA37.get rfl) (hA37.get rfl) (fun he => g_mkt rfl he)) fun a38 hA38 _ => ?_)
    refine sq (opk_val hA38 rfl (r_assign (hA38.get rfl)) fun a39 hA39 _ => ?_)
    refine sq_end ?_
    have hA40 := hA39.keep [(6, .bool (((top_2 && (decide (t_1_Name = ([] : Str)))) && (decide (t_1_Text = ([] : Str)))) && (decide ((t_1_Attrs.n : Int) = 0))))] ⟨rfl, trivial⟩
    refine then_normal ?_
    refine wp_ret ?_
    refine block_ret ?_
    refine then_ret ?_
    have ht41 := ht20 w5 B_4 hN10  hC11
    exact res_all (vs := [.bool (((top_2 && (decide (t_1_Name = ([] : Str)))) && (decide (t_1_Text = ([] : Str)))) && (decide ((t_1_Attrs.n : Int) = 0)))]) rfl hA40 ⟨res_of_tmp hA40 rfl, trivial⟩ ht41
  · have ht21 := ht0.2 (of_decide_eq_false hc)
    clear hc
    refine wp_seq ?_
    refine wp_region_lit ?_
    refine sq (opk_val hA19 rfl (r_eql (hA19.get rfl) rfl) fun a42 hA42 _ => ?_)
    refine sq (opk_val hA42 rfl (r_assign (hA42.get rfl)) fun a43 hA43 _ => ?_)
    refine sq_end ?_
    have hA44 := hA43.keep [(2, .bool root_3), (3, .pointer (some ⟨B_4, 0, none⟩)), (8, .int .i64 t_1_Kind), (28, .bool (decide (t_1_Kind = 2)))] ⟨rfl, rfl, rfl, rfl, trivial⟩
    refine then_normal ?_
    refine wp_cond_split (hA44.get rfl) (fun hc => ?_) (fun hc => ?_)
    · have ht45 := ht21.1 (of_decide_eq_true hc)
      clear hc
      refine wp_seq ?_
      refine wp_region_lit ?_
      refine sq (opk_val hA44 rfl (r_fieldAddr (hA44.get rfl) Try.underlying26 rfl ti_9 (by decide)) fun a47 hA47 _ => ?_)
      refine sq (opk_val hA47 rfl (r_load1 Try.underlying9 rfl (hA47.get rfl) (hB9.cell 1 _ rfl)) fun a48 hA48 _ => ?_)
      have ht49 := ht45 w5 B_4 hN10  hC11
      refine sq (opk_call hA48 rfl (r_call (args := #[.string (Bs t_1_Name)]) Try.func28 (by decide) rfl (map_arr (ml_cons (hA48.get rfl) ml_nil)) rfl) ht49 fun a51 v57 w52 hA51 _ hn54 hz55 hK56 => ?_)
      obtain ⟨r_50, rfl, ht53⟩ := hK56
      have hB58 := hB9.kept hn54 (.head _)
      refine sq (opk_val hA51 rfl (r_move (hA51.get rfl)) fun a59 hA59 _ => ?_)
      refine sq (opk_gval hA59 rfl rfl (g := true) (e := r_50) rfl (fun hg => r_fieldAddr (hA59.get rfl) Try.underlying26 rfl ti_9 (by decide)) fun a60 hA60 _ => ?_)
      refine sq (opk_gval hA60 rfl rfl (g := true) (e := r_50) rfl (fun hg => r_load1 Try.underlying9 rfl (cv_get (hA60.get rfl) hg) (hB58.cell 2 _ rfl)) fun a61 hA61 _ => ?_)
      refine sq (opk_gval hA61 rfl rfl (g := true) (e := r_50) rfl (fun hg => r_seql (cv_get (hA61.get rfl) hg) rfl) fun a62 hA62 _ => ?_)
      refine sq (opk_val hA62 rfl (r_pick_and (g := (true && (r_50 == true))) (hA62.get rfl) (hA62.get rfl) (fun he => g_mkt rfl he)) fun a63 hA63 _ => ?_)
      refine sq (opk_val hA63 rfl (r_move (hA63.get rfl)) fun a64 hA64 _ => ?_)
      refine sq (opk_gval hA64 rfl rfl (g := true) (e := (r_50 && (decide (t_1_Text = ([] : Str))))) rfl (fun hg => r_fieldAddr (hA64.get rfl) Try.underlying26 rfl ti_23 (by decide)) fun a65 hA65 _ => ?_)
      refine sq (opk_gval hA65 rfl rfl (g := true) (e := (r_50 && (decide (t_1_Text = ([] : Str))))) rfl (fun hg => r_load1 Try.underlying23 rfl (cv_get (hA65.get rfl) hg) (hB58.cell 3 _ rfl)) fun a66 hA66 _ => ?_)
      obtain ⟨r_67, hc71, ht70⟩ := ht53
      refine sq (opk_gcall hA66 rfl rfl (g := true) (e := (r_50 && (decide (t_1_Text = ([] : Str))))) rfl (fun hg => r_call (args := #[Sl.v t_1_Attrs]) Try.func53 (by decide) rfl (map_arr (ml_cons (cv_get (hA66.get rfl) hg) ml_nil)) rfl) (fun hg => hc71 ⟨(b_and_t (g_t hg)).1, (of_decide_eq_true (b_and_t (g_t hg)).2)⟩) fun a68 w69 hA68 _ hE72 => ?_)
      have hB73 := hB58.ext hE72
      have hC74 : Chg [] w52 w69 := hE72
      have ht75 := ht70 w69 hE72
      refine sq (opk_val hA68 rfl (r_pick_and (g := (true && ((r_50 && (decide (t_1_Text = ([] : Str)))) == true))) (hA68.get rfl) (hA68.get rfl) (fun he => g_mkt rfl he)) fun a76 hA76 _ => ?_)
      refine sq (opk_val hA76 rfl (r_assign (hA76.get rfl)) fun a77 hA77 _ => ?_)
      refine sq_end ?_
      have hA78 := hA77.keep [(6, .bool ((r_50 && (decide (t_1_Text = ([] : Str)))) && r_67))] ⟨rfl, trivial⟩
      refine then_normal ?_
      refine wp_ret ?_
      refine block_ret ?_
      refine then_ret ?_
      exact res_all (vs := [.bool ((r_50 && (decide (t_1_Text = ([] : Str)))) && r_67)]) rfl hA78 ⟨res_of_tmp hA78 rfl, trivial⟩ ht75
    · have ht46 := ht21.2 (of_decide_eq_false hc)
      clear hc
      refine wp_seq ?_
      refine wp_region_lit ?_
      refine sq (opk_val hA44 rfl (r_eql (hA44.get rfl) rfl) fun a79 hA79 _ => ?_)
      refine sq (opk_val hA79 rfl (r_assign (hA79.get rfl)) fun a80 hA80 _ => ?_)
      refine sq_end ?_
      have hA81 := hA80.keep [(2, .bool root_3), (3, .pointer (some ⟨B_4, 0, none⟩)), (8, .int .i64 t_1_Kind), (43, .bool (decide (t_1_Kind = 3)))] ⟨rfl, rfl, rfl, rfl, trivial⟩
      refine then_normal ?_
      refine wp_cond_split (hA81.get rfl) (fun hc => ?_) (fun hc => ?_)
      · have ht82 := ht46.1 (of_decide_eq_true hc)
        clear hc
        refine wp_seq ?_
        refine wp_region_lit ?_
        refine sq (opk_val hA81 rfl (r_fieldAddr (hA81.get rfl) Try.underlying26 rfl ti_9 (by decide)) fun a84 hA84 _ => ?_)
        refine sq (opk_val hA84 rfl (r_load1 Try.underlying9 rfl (hA84.get rfl) (hB9.cell 1 _ rfl)) fun a85 hA85 _ => ?_)
        refine sq (opk_val hA85 rfl (r_seql (hA85.get rfl) rfl) fun a86 hA86 _ => ?_)
        refine sq (opk_val hA86 rfl (r_move (hA86.get rfl)) fun a87 hA87 _ => ?_)
        refine sq (opk_gval hA87 rfl rfl (g := true) (e := (decide (t_1_Name = ([] : Str)))) rfl (fun hg => r_fieldAddr (hA87.get rfl) Try.underlying26 rfl ti_23 (by decide)) fun a88 hA88 _ => ?_)
        refine sq (opk_gval hA88 rfl rfl (g := true) (e := (decide (t_1_Name = ([] : Str)))) rfl (fun hg => r_load1 Try.underlying23 rfl (cv_get (hA88.get rfl) hg) (hB9.cell 3 _ rfl)) fun a89 hA89 _ => ?_)
        refine sq (opk_gval hA89 rfl rfl (g := true) (e := (decide (t_1_Name = ([] : Str)))) rfl (fun hg => r_len (cv_get (hA89.get rfl) hg) Try.underlying23) fun a90 hA90 _ => ?_)
        refine sq (opk_gval hA90 rfl rfl (g := true) (e := (decide (t_1_Name = ([] : Str)))) rfl (fun hg => r_eql (cv_get (hA90.get rfl) hg) rfl) fun a91 hA91 _ => ?_)
        refine sq (opk_val hA91 rfl (r_pick_and (g := (true && ((decide (t_1_Name = ([] : Str))) == true))) (hA91.get rfl) (hA91.get rfl) (fun he => g_mkt rfl he)) fun a92 hA92 _ => ?_)
        refine sq (opk_val hA92 rfl (r_move (hA92.get rfl)) fun a93 hA93 _ => ?_)
        refine sq (opk_gval hA93 rfl rfl (g := true) (e := ((decide (t_1_Name = ([] : Str))) && (decide ((t_1_Attrs.n : Int) = 0)))) rfl (fun hg => r_fieldAddr (hA93.get rfl) Try.underlying26 rfl ti_24 (by decide)) fun a94 hA94 _ => ?_)
        refine sq (opk_gval hA94 rfl rfl (g := true) (e := ((decide (t_1_Name = ([] : Str))) && (decide ((t_1_Attrs.n : Int) = 0)))) rfl (fun hg => r_load1 Try.underlying24 rfl (cv_get (hA94.get rfl) hg) (hB9.cell 4 _ rfl)) fun a95 hA95 _ => ?_)
        refine sq (opk_gval hA95 rfl rfl (g := true) (e := ((decide (t_1_Name = ([] : Str))) && (decide ((t_1_Attrs.n : Int) = 0)))) rfl (fun hg => r_len (cv_get (hA95.get rfl) hg) Try.underlying24) fun a96 hA96 _ => ?_)
        refine sq (opk_gval hA96 rfl rfl (g := true) (e := ((decide (t_1_Name = ([] : Str))) && (decide ((t_1_Attrs.n : Int) = 0)))) rfl (fun hg => r_eql (cv_get (hA96.get rfl) hg) rfl) fun a97 hA97 _ => ?_)
        refine sq (opk_val hA97 rfl (r_pick_and (g := (true && (((decide (t_1_Name = ([] : Str))) && (decide ((t_1_Attrs.n : Int) = 0))) == true))) (hA97.get rfl) (hA97.get rfl) (fun he => g_mkt rfl he)) fun a98 hA98 _ => ?_)
        refine sq (opk_val hA98 rfl (r_move (hA98.get rfl)) fun a99 hA99 _ => ?_)
        refine sq (opk_gval hA99 rfl rfl (g := true) (e := (((decide (t_1_Name = ([] : Str))) && (decide ((t_1_Attrs.n : Int) = 0))) && (decide ((t_1_Kids.n : Int) = 0)))) rfl (fun hg => r_fieldAddr (hA99.get rfl) Try.underlying26 rfl ti_9 (by decide)) fun a100 hA100 _ => ?_)
        refine sq (opk_gval hA100 rfl rfl (g := true) (e := (((decide (t_1_Name = ([] : Str))) && (decide ((t_1_Attrs.n : Int) = 0))) && (decide ((t_1_Kids.n : Int) = 0)))) rfl (fun hg => r_load1 Try.underlying9 rfl (cv_get (hA100.get rfl) hg) (hB9.cell 2 _ rfl)) fun a101 hA101 _ => ?_)
        refine sq (opk_gval hA101 rfl rfl (g := true) (e := (((decide (t_1_Name = ([] : Str))) && (decide ((t_1_Attrs.n : Int) = 0))) && (decide ((t_1_Kids.n : Int) = 0)))) rfl (fun hg => r_slen (cv_get (hA101.get rfl) hg) Try.underlying9) fun a102 hA102 _ => ?_)
        refine sq (opk_gval hA102 rfl rfl (g := true) (e := (((decide (t_1_Name = ([] : Str))) && (decide ((t_1_Attrs.n : Int) = 0))) && (decide ((t_1_Kids.n : Int) = 0)))) rfl (fun hg => r_geq (cv_get (hA102.get rfl) hg) rfl) fun a103 hA103 _ => ?_)
        refine sq (opk_val hA103 rfl (r_pick_and (g := (true && ((((decide (t_1_Name = ([] : Str))) && (decide ((t_1_Attrs.n : Int) = 0))) && (decide ((t_1_Kids.n : Int) = 0))) == true))) (hA103.get rfl) (hA103.get rfl) (fun he => g_mkt rfl he)) fun a104 hA104 _ => ?_)
        refine sq (opk_val hA104 rfl (r_move (hA104.get rfl)) fun a105 hA105 _ => ?_)
        refine sq (opk_gval hA105 rfl rfl (g := true) (e := ((((decide (t_1_Name = ([] : Str))) && (decide ((t_1_Attrs.n : Int) = 0))) && (decide ((t_1_Kids.n : Int) = 0))) && (decide (1 ≤ (t_1_Text.length : Int))))) rfl (fun hg => r_fieldAddr (hA105.get rfl) Try.underlying26 rfl ti_9 (by decide)) fun a106 hA106 _ => ?_)
        refine sq (opk_gval hA106 rfl rfl (g := true) (e := ((((decide (t_1_Name = ([] : Str))) && (decide ((t_1_Attrs.n : Int) = 0))) && (decide ((t_1_Kids.n : Int) = 0))) && (decide (1 ≤ (t_1_Text.length : Int))))) rfl (fun hg => r_load1 Try.underlying9 rfl (cv_get (hA106.get rfl) hg) (hB9.cell 2 _ rfl)) fun a107 hA107 _ => ?_)
        refine sq (opk_gval hA107 rfl rfl (g := true) (e := ((((decide (t_1_Name = ([] : Str))) && (decide ((t_1_Attrs.n : Int) = 0))) && (decide ((t_1_Kids.n : Int) = 0))) && (decide (1 ≤ (t_1_Text.length : Int))))) rfl (fun hg => r_slen (cv_get (hA107.get rfl) hg) Try.underlying9) fun a108 hA108 _ => ?_)
        refine sq (opk_gval hA108 rfl rfl (g := true) (e := ((((decide (t_1_Name = ([] : Str))) && (decide ((t_1_Attrs.n : Int) = 0))) && (decide ((t_1_Kids.n : Int) = 0))) && (decide (1 ≤ (t_1_Text.length : Int))))) rfl (fun hg => r_leq (cv_get (hA108.get rfl) hg) rfl) fun a109 hA109 _ => ?_)
        refine sq (opk_val hA109 rfl (r_pick_and (g := (true && (((((decide (t_1_Name = ([] : Str))) && (decide ((t_1_Attrs.n : Int) = 0))) && (decide ((t_1_Kids.n : Int) = 0))) && (decide (1 ≤ (t_1_Text.length : Int)))) == true))) (hA109.get rfl) (hA109.get rfl) (fun he => g_mkt rfl he)) fun a110 hA110 _ => ?_)
        refine sq (opk_val hA110 rfl (r_assign (hA110.get rfl)) fun a111 hA111 _ => ?_)
        refine sq_end ?_
        have hA112 := hA111.keep [(6, .bool (((((decide (t_1_Name = ([] : Str))) && (decide ((t_1_Attrs.n : Int) = 0))) && (decide ((t_1_Kids.n : Int) = 0))) && (decide (1 ≤ (t_1_Text.length : Int)))) && (decide ((t_1_Text.length : Int) ≤ 4096))))] ⟨rfl, trivial⟩
        refine then_normal ?_
        refine wp_ret ?_
        refine block_ret ?_
        refine then_ret ?_
        have ht113 := ht82 w5 B_4 hN10  hC11
        exact res_all (vs := [.bool (((((decide (t_1_Name = ([] : Str))) && (decide ((t_1_Attrs.n : Int) = 0))) && (decide ((t_1_Kids.n : Int) = 0))) && (decide (1 ≤ (t_1_Text.length : Int)))) && (decide ((t_1_Text.length : Int) ≤ 4096)))]) rfl hA112 ⟨res_of_tmp hA112 rfl, trivial⟩ ht113
      · have ht83 := ht46.2 (of_decide_eq_false hc)
        clear hc
        refine wp_seq ?_
        refine wp_region_lit ?_
        refine sq (opk_val hA81 rfl (r_eql (hA81.get rfl) rfl) fun a114 hA114 _ => ?_)
        refine sq (opk_val hA114 rfl (r_assign (hA114.get rfl)) fun a115 hA115 _ => ?_)
        refine sq_end ?_
        have hA116 := hA115.keep [(2, .bool root_3), (3, .pointer (some ⟨B_4, 0, none⟩)), (8, .int .i64 t_1_Kind), (72, .bool (decide (t_1_Kind = 4)))] ⟨rfl, rfl, rfl, rfl, trivial⟩
        refine then_normal ?_
        refine wp_cond_split (hA116.get rfl) (fun hc => ?_) (fun hc => ?_)
        · have ht117 := ht83.1 (of_decide_eq_true hc)
          clear hc
          refine wp_seq ?_
          refine wp_region_lit ?_
          refine sq (opk_val hA116 rfl (r_fieldAddr (hA116.get rfl) Try.underlying26 rfl ti_9 (by decide)) fun a119 hA119 _ => ?_)
          refine sq (opk_val hA119 rfl (r_load1 Try.underlying9 rfl (hA119.get rfl) (hB9.cell 1 _ rfl)) fun a120 hA120 _ => ?_)
          refine sq (opk_val hA120 rfl (r_seql (hA120.get rfl) rfl) fun a121 hA121 _ => ?_)
          refine sq (opk_val hA121 rfl (r_move (hA121.get rfl)) fun a122 hA122 _ => ?_)
          refine sq (opk_gval hA122 rfl rfl (g := true) (e := (decide (t_1_Name = ([] : Str)))) rfl (fun hg => r_fieldAddr (hA122.get rfl) Try.underlying26 rfl ti_23 (by decide)) fun a123 hA123 _ => ?_)
          refine sq (opk_gval hA123 rfl rfl (g := true) (e := (decide (t_1_Name = ([] : Str)))) rfl (fun hg => r_load1 Try.underlying23 rfl (cv_get (hA123.get rfl) hg) (hB9.cell 3 _ rfl)) fun a124 hA124 _ => ?_)
          refine sq (opk_gval hA124 rfl rfl (g := true) (e := (decide (t_1_Name = ([] : Str)))) rfl (fun hg => r_len (cv_get (hA124.get rfl) hg) Try.underlying23) fun a125 hA125 _ => ?_)
          refine sq (opk_gval hA125 rfl rfl (g := true) (e := (decide (t_1_Name = ([] : Str)))) rfl (fun hg => r_eql (cv_get (hA125.get rfl) hg) rfl) fun a126 hA126 _ => ?_)
          refine sq (opk_val hA126 rfl (r_pick_and (g := (true && ((decide (t_1_Name = ([] : Str))) == true))) (hA126.get rfl) (hA126.get rfl) (fun he => g_mkt rfl he)) fun a127 hA127 _ => ?_)
          refine sq (opk_val hA127 rfl (r_move (hA127.get rfl)) fun a128 hA128 _ => ?_)
          refine sq (opk_gval hA128 rfl rfl (g := true) (e := ((decide (t_1_Name = ([] : Str))) && (decide ((t_1_Attrs.n : Int) = 0)))) rfl (fun hg => r_fieldAddr (hA128.get rfl) Try.underlying26 rfl ti_24 (by decide)) fun a129 hA129 _ => ?_)
          refine sq (opk_gval hA129 rfl rfl (g := true) (e := ((decide (t_1_Name = ([] : Str))) && (decide ((t_1_Attrs.n : Int) = 0)))) rfl (fun hg => r_load1 Try.underlying24 rfl (cv_get (hA129.get rfl) hg) (hB9.cell 4 _ rfl)) fun a130 hA130 _ => ?_)
          refine sq (opk_gval hA130 rfl rfl (g := true) (e := ((decide (t_1_Name = ([] : Str))) && (decide ((t_1_Attrs.n : Int) = 0)))) rfl (fun hg => r_len (cv_get (hA130.get rfl) hg) Try.underlying24) fun a131 hA131 _ => ?_)
          refine sq (opk_gval hA131 rfl rfl (g := true) (e := ((decide (t_1_Name = ([] : Str))) && (decide ((t_1_Attrs.n : Int) = 0)))) rfl (fun hg => r_eql (cv_get (hA131.get rfl) hg) rfl) fun a132 hA132 _ => ?_)
          refine sq (opk_val hA132 rfl (r_pick_and (g := (true && (((decide (t_1_Name = ([] : Str))) && (decide ((t_1_Attrs.n : Int) = 0))) == true))) (hA132.get rfl) (hA132.get rfl) (fun he => g_mkt rfl he)) fun a133 hA133 _ => ?_)
          refine sq (opk_val hA133 rfl (r_move (hA133.get rfl)) fun a134 hA134 _ => ?_)
          refine sq (opk_gval hA134 rfl rfl (g := true) (e := (((decide (t_1_Name = ([] : Str))) && (decide ((t_1_Attrs.n : Int) = 0))) && (decide ((t_1_Kids.n : Int) = 0)))) rfl (fun hg => r_fieldAddr (hA134.get rfl) Try.underlying26 rfl ti_9 (by decide)) fun a135 hA135 _ => ?_)
          refine sq (opk_gval hA135 rfl rfl (g := true) (e := (((decide (t_1_Name = ([] : Str))) && (decide ((t_1_Attrs.n : Int) = 0))) && (decide ((t_1_Kids.n : Int) = 0)))) rfl (fun hg => r_load1 Try.underlying9 rfl (cv_get (hA135.get rfl) hg) (hB9.cell 2 _ rfl)) fun a136 hA136 _ => ?_)
          refine sq (opk_gval hA136 rfl rfl (g := true) (e := (((decide (t_1_Name = ([] : Str))) && (decide ((t_1_Attrs.n : Int) = 0))) && (decide ((t_1_Kids.n : Int) = 0)))) rfl (fun hg => r_slen (cv_get (hA136.get rfl) hg) Try.underlying9) fun a137 hA137 _ => ?_)
          refine sq (opk_gval hA137 rfl rfl (g := true) (e := (((decide (t_1_Name = ([] : Str))) && (decide ((t_1_Attrs.n : Int) = 0))) && (decide ((t_1_Kids.n : Int) = 0)))) rfl (fun hg => r_leq (cv_get (hA137.get rfl) hg) rfl) fun a138 hA138 _ => ?_)
          refine sq (opk_val hA138 rfl (r_pick_and (g := (true && ((((decide (t_1_Name = ([] : Str))) && (decide ((t_1_Attrs.n : Int) = 0))) && (decide ((t_1_Kids.n : Int) = 0))) == true))) (hA138.get rfl) (hA138.get rfl) (fun he => g_mkt rfl he)) fun a139 hA139 _ => ?_)
          refine sq (opk_val hA139 rfl (r_assign (hA139.get rfl)) fun a140 hA140 _ => ?_)
          refine sq_end ?_
          have hA141 := hA140.keep [(6, .bool ((((decide (t_1_Name = ([] : Str))) && (decide ((t_1_Attrs.n : Int) = 0))) && (decide ((t_1_Kids.n : Int) = 0))) && (decide ((t_1_Text.length : Int) ≤ 4096))))] ⟨rfl, trivial⟩
          refine then_normal ?_
          refine wp_ret ?_
          refine block_ret ?_
          refine then_ret ?_
          have ht142 := ht117 w5 B_4 hN10  hC11
          exact res_all (vs := [.bool ((((decide (t_1_Name = ([] : Str))) && (decide ((t_1_Attrs.n : Int) = 0))) && (decide ((t_1_Kids.n : Int) = 0))) && (decide ((t_1_Text.length : Int) ≤ 4096)))]) rfl hA141 ⟨res_of_tmp hA141 rfl, trivial⟩ ht142
        · have ht118 := ht83.2 (of_decide_eq_false hc)
          clear hc
          refine wp_seq ?_
          refine wp_region_lit ?_
          refine sq (opk_val hA116 rfl (r_eql (hA116.get rfl) rfl) fun a143 hA143 _ => ?_)
          refine sq (opk_val hA143 rfl (r_assign (hA143.get rfl)) fun a144 hA144 _ => ?_)
          refine sq_end ?_
          have hA145 := hA144.keep [(2, .bool root_3), (3, .pointer (some ⟨B_4, 0, none⟩)), (95, .bool (decide (t_1_Kind = 5)))] ⟨rfl, rfl, rfl, trivial⟩
          refine then_normal ?_
          refine wp_cond_split (hA145.get rfl) (fun hc => ?_) (fun hc => ?_)
          · have ht146 := ht118.1 (of_decide_eq_true hc)
            clear hc
            refine wp_seq ?_
            refine wp_region_lit ?_
            refine sq (opk_val hA145 rfl (r_move (hA145.get rfl)) fun a148 hA148 _ => ?_)
            refine sq (opk_val hA148 rfl (r_move (hA148.get rfl)) fun a149 hA149 _ => ?_)
            refine sq (opk_gval hA149 rfl rfl (g := true) (e := root_3) rfl (fun hg => r_fieldAddr (hA149.get rfl) Try.underlying26 rfl ti_9 (by decide)) fun a150 hA150 _ => ?_)
            refine sq (opk_gval hA150 rfl rfl (g := true) (e := root_3) rfl (fun hg => r_load1 Try.underlying9 rfl (cv_get (hA150.get rfl) hg) (hB9.cell 1 _ rfl)) fun a151 hA151 _ => ?_)
            refine sq (opk_gval hA151 rfl rfl (g := true) (e := root_3) rfl (fun hg => r_slen (cv_get (hA151.get rfl) hg) Try.underlying9) fun a152 hA152 _ => ?_)
            refine sq (opk_gval hA152 rfl rfl (g := true) (e := root_3) rfl (fun hg => r_leq (cv_get (hA152.get rfl) hg) rfl) fun a153 hA153 _ => ?_)
            refine sq (opk_val hA153 rfl (r_pick_and (g := (true && (root_3 == true))) (hA153.get rfl) (hA153.get rfl) (fun he => g_mkt rfl he)) fun a154 hA154 _ => ?_)
            refine sq (opk_val hA154 rfl (r_move (hA154.get rfl)) fun a155 hA155 _ => ?_)
            refine sq (opk_gval hA155 rfl rfl (g := true) (e := (root_3 && (decide ((t_1_Name.length : Int) ≤ 32)))) rfl (fun hg => r_fieldAddr (hA155.get rfl) Try.underlying26 rfl ti_9 (by decide)) fun a156 hA156 _ => ?_)
            refine sq (opk_gval hA156 rfl rfl (g := true) (e := (root_3 && (decide ((t_1_Name.length : Int) ≤ 32)))) rfl (fun hg => r_load1 Try.underlying9 rfl (cv_get (hA156.get rfl) hg) (hB9.cell 2 _ rfl)) fun a157 hA157 _ => ?_)
            refine sq (opk_gval hA157 rfl rfl (g := true) (e := (root_3 && (decide ((t_1_Name.length : Int) ≤ 32)))) rfl (fun hg => r_seql (cv_get (hA157.get rfl) hg) rfl) fun a158 hA158 _ => ?_)
            refine sq (opk_val hA158 rfl (r_pick_and (g := (true && ((root_3 && (decide ((t_1_Name.length : Int) ≤ 32))) == true))) (hA158.get rfl) (hA158.get rfl) (fun he => g_mkt rfl he)) fun a159 hA159 _ => ?_)
            refine sq (opk_val hA159 rfl (r_move (hA159.get rfl)) fun a160 hA160 _ => ?_)
            refine sq (opk_gval hA160 rfl rfl (g := true) (e := ((root_3 && (decide ((t_1_Name.length : Int) ≤ 32))) && (decide (t_1_Text = ([] : Str))))) rfl (fun hg => r_fieldAddr (hA160.get rfl) Try.underlying26 rfl ti_23 (by decide)) fun a161 hA161 _ => ?_)
            refine sq (opk_gval hA161 rfl rfl (g := true) (e := ((root_3 && (decide ((t_1_Name.length : Int) ≤ 32))) && (decide (t_1_Text = ([] : Str))))) rfl (fun hg => r_load1 Try.underlying23 rfl (cv_get (hA161.get rfl) hg) (hB9.cell 3 _ rfl)) fun a162 hA162 _ => ?_)
            refine sq (opk_gval hA162 rfl rfl (g := true) (e := ((root_3 && (decide ((t_1_Name.length : Int) ≤ 32))) && (decide (t_1_Text = ([] : Str))))) rfl (fun hg => r_len (cv_get (hA162.get rfl) hg) Try.underlying23) fun a163 hA163 _ => ?_)
            refine sq (opk_gval hA163 rfl rfl (g := true) (e := ((root_3 && (decide ((t_1_Name.length : Int) ≤ 32))) && (decide (t_1_Text = ([] : Str))))) rfl (fun hg => r_eql (cv_get (hA163.get rfl) hg) rfl) fun a164 hA164 _ => ?_)
            refine sq (opk_val hA164 rfl (r_pick_and (g := (true && (((root_3 && (decide ((t_1_Name.length : Int) ≤ 32))) && (decide (t_1_Text = ([] : Str)))) == true))) (hA164.get rfl) (hA164.get rfl) (fun he => g_mkt rfl he)) fun a165 hA165 _ => ?_)
            refine sq (opk_val hA165 rfl (r_move (hA165.get rfl)) fun a166 hA166 _ => ?_)
            refine sq (opk_gval hA166 rfl rfl (g := true) (e := (((root_3 && (decide ((t_1_Name.length : Int) ≤ 32))) && (decide (t_1_Text = ([] : Str)))) && (decide ((t_1_Attrs.n : Int) = 0)))) rfl (fun hg => r_fieldAddr (hA166.get rfl) Try.underlying26 rfl ti_24 (by decide)) fun a167 hA167 _ => ?_)
            refine sq (opk_gval hA167 rfl rfl (g := true) (e := (((root_3 && (decide ((t_1_Name.length : Int) ≤ 32))) && (decide (t_1_Text = ([] : Str)))) && (decide ((t_1_Attrs.n : Int) = 0)))) rfl (fun hg => r_load1 Try.underlying24 rfl (cv_get (hA167.get rfl) hg) (hB9.cell 4 _ rfl)) fun a168 hA168 _ => ?_)
            refine sq (opk_gval hA168 rfl rfl (g := true) (e := (((root_3 && (decide ((t_1_Name.length : Int) ≤ 32))) && (decide (t_1_Text = ([] : Str)))) && (decide ((t_1_Attrs.n : Int) = 0)))) rfl (fun hg => r_len (cv_get (hA168.get rfl) hg) Try.underlying24) fun a169 hA169 _ => ?_)
            refine sq (opk_gval hA169 rfl rfl (g := true) (e := (((root_3 && (decide ((t_1_Name.length : Int) ≤ 32))) && (decide (t_1_Text = ([] : Str)))) && (decide ((t_1_Attrs.n : Int) = 0)))) rfl (fun hg => r_eql (cv_get (hA169.get rfl) hg) rfl) fun a170 hA170 _ => ?_)
            refine sq (opk_val hA170 rfl (r_pick_and (g := (true && ((((root_3 && (decide ((t_1_Name.length : Int) ≤ 32))) && (decide (t_1_Text = ([] : Str)))) && (decide ((t_1_Attrs.n : Int) = 0))) == true))) (hA170.get rfl) (hA170.get rfl) (fun he => g_mkt rfl he)) fun a171 hA171 _ => ?_)
            refine sq (opk_val hA171 rfl (r_assign (hA171.get rfl)) fun a172 hA172 _ => ?_)
            refine sq_end ?_
            have hA173 := hA172.keep [(6, .bool ((((root_3 && (decide ((t_1_Name.length : Int) ≤ 32))) && (decide (t_1_Text = ([] : Str)))) && (decide ((t_1_Attrs.n : Int) = 0))) && (decide ((t_1_Kids.n : Int) = 0))))] ⟨rfl, trivial⟩
            refine then_normal ?_
            refine wp_ret ?_
            refine block_ret ?_
            refine then_ret ?_
            have ht174 := ht146 w5 B_4 hN10  hC11
            exact res_all (vs := [.bool ((((root_3 && (decide ((t_1_Name.length : Int) ≤ 32))) && (decide (t_1_Text = ([] : Str)))) && (decide ((t_1_Attrs.n : Int) = 0))) && (decide ((t_1_Kids.n : Int) = 0)))]) rfl hA173 ⟨res_of_tmp hA173 rfl, trivial⟩ ht174
          · have ht147 := ht118.2 (of_decide_eq_false hc)
            clear hc
            refine wp_skip ?_
            refine block_normal ?_
            refine then_normal ?_
            refine wp_seq ?_
            refine wp_region_lit ?_
            refine sq (opk_val hA145 rfl (r_assign rfl) fun a175 hA175 _ => ?_)
            refine sq_end ?_
            have hA176 := hA175.keep [(6, .bool false)] ⟨rfl, trivial⟩
            refine then_normal ?_
            refine wp_ret ?_
            have ht177 := ht147 w5 B_4 hN10  hC11
            exact res_all (vs := [.bool false]) rfl hA176 ⟨res_of_tmp hA176 rfl, trivial⟩ ht177

/-- The condition of topiary/tree.attrs. -/
def tree_attrs.vc (l_1 : Sl) (R : Value → World → Prop) (w : World) : Prop :=
((12 < (l_1.n : Int)) →
R (.bool false) w) ∧
((¬ (12 < (l_1.n : Int))) →
∃ (J_21 : Str → Int → World → Prop) (mu_22 : Str → Int → World → Nat),
J_21 ([] : Str) 0 w ∧
(∀ (last_18 : Str) (x_19 : Int) (w20 : World), J_21 last_18 x_19 w20 →
((x_19 < (l_1.n : Int)) →
((0 : Int) ≤ x_19 ∧ x_19 < (l_1.n : Int)) ∧ ∃ p_101 : Addr, l_1.a = some p_101 ∧
∃ (x_107_Name : Str) (x_107_Value : Str), (Cells w20 (p_101.add (x_19.toNat * 2)) [.string (Bs x_107_Name), .string (Bs x_107_Value)]) ∧
∀ (w118 : World) (B_110 : Nat), New w20 B_110 w118 → Chg [] w20 w118 →
∃ (r_134 : Bool), (((((Op.bytesLess x_107_Name last_18) = false) ∧ (¬ (x_107_Name = last_18)))) → Calls Try.prog 19 #[.string (Bs x_107_Name)] w118 (Ret fun v w' => Ext w118 w' ∧ v = .bool r_134)) ∧
(∀ w136 : World, Ext w118 w136 →
((((((Op.bytesLess x_107_Name last_18) = true) ∨ (x_107_Name = last_18)) ∨ (r_134 = false)) ∨ (4096 < (x_107_Value.length : Int))) →
R (.bool false) w136) ∧
((((((Op.bytesLess x_107_Name last_18) = false) ∧ (¬ (x_107_Name = last_18))) ∧ (r_134 = true)) ∧ (¬ (4096 < (x_107_Value.length : Int)))) →
(I64 (x_19 + 1)) ∧
J_21 x_107_Name (x_19 + 1) w136 ∧ mu_22 x_107_Name (x_19 + 1) w136 < mu_22 last_18 x_19 w20))) ∧
((¬ (x_19 < (l_1.n : Int))) →
R (.bool true) w20)))
set_option maxHeartbeats 1000000 in
set_option maxRecDepth 10000 in
theorem tree_attrs.ok (l_1 : Sl) {R : Value → World → Prop} {w : World} (ht0 : tree_attrs.vc l_1 R w) : Calls Try.prog 51 #[Sl.v l_1] w (Ret R) := by
  refine enter [Sl.v l_1] Try.func51 rfl Try.ntmps51 rfl ?_
  intro a0 hA0
  unfold tree_attrs.vc at ht0
  refine wp_seq ?_
  refine wp_region_lit ?_
  refine sq (opk_val hA0 rfl (r_assign rfl) fun a2 hA2 _ => ?_)
  refine sq_end ?_
  have hA3 := hA2.keep [(0, Sl.v l_1)] ⟨rfl, trivial⟩
  refine then_normal ?_
  refine wp_seq ?_
  refine wp_seq ?_
  refine wp_region_lit ?_
  refine sq (opk_val hA3 rfl (r_move (hA3.get rfl)) fun a4 hA4 _ => ?_)
  refine sq (opk_val hA4 rfl (r_len (hA4.get rfl) Try.underlying23) fun a5 hA5 _ => ?_)
  refine sq (opk_val hA5 rfl (r_gtr (hA5.get rfl) rfl) fun a6 hA6 _ => ?_)
  refine sq_end ?_
  have hA7 := hA6.keep [(0, Sl.v l_1), (8, .bool (decide (12 < (l_1.n : Int))))] ⟨rfl, rfl, trivial⟩
  refine then_normal ?_
  refine wp_cond_split (hA7.get rfl) (fun hc => ?_) (fun hc => ?_)
  · have ht8 := ht0.1 (of_decide_eq_true hc)
    clear hc
    refine wp_seq ?_
    refine wp_region_lit ?_
    refine sq (opk_val hA7 rfl (r_assign rfl) fun a10 hA10 _ => ?_)
    refine sq_end ?_
    have hA11 := hA10.keep [(2, .bool false)] ⟨rfl, trivial⟩
    refine then_normal ?_
    refine wp_ret ?_
    refine then_ret ?_
    exact res_all (vs := [.bool false]) rfl hA11 ⟨res_of_tmp hA11 rfl, trivial⟩ ht8
  · have ht9 := ht0.2 (of_decide_eq_false hc)
    clear hc
    refine wp_skip ?_
    refine then_normal ?_
    refine wp_seq ?_
    refine wp_region_lit ?_
    refine sq (opk_val hA7 rfl (r_assign rfl) fun a12 hA12 _ => ?_)
    refine sq_end ?_
    have hA13 := hA12.keep [(0, Sl.v l_1), (3, .string (Bs ([] : Str)))] ⟨rfl, rfl, trivial⟩
    refine then_normal ?_
    refine wp_seq ?_
    refine wp_seq ?_
    refine wp_region_lit ?_
    refine sq (opk_val hA13 rfl (r_move (hA13.get rfl)) fun a14 hA14 _ => ?_)
    refine sq (opk_val hA14 rfl (r_len (hA14.get rfl) Try.underlying23) fun a15 hA15 _ => ?_)
    refine sq (opk_val hA15 rfl (r_move rfl) fun a16 hA16 _ => ?_)
    refine sq_end ?_
    have hA17 := hA16.keep [(3, .string (Bs ([] : Str))), (9, Sl.v l_1), (10, .int .i64 (l_1.n : Int)), (11, .int .i64 0)] ⟨rfl, rfl, rfl, rfl, trivial⟩
    refine then_normal ?_
    refine wp_block ?_
    obtain ⟨J_21, mu_22, h094, ht93⟩ := ht9
    refine wp_loop_st (σ := Str × Int × World) (fun s a w => Ag 34 a [(3, .string (Bs s.1)), (9, Sl.v l_1), (10, .int .i64 (l_1.n : Int)), (11, .int .i64 s.2.1)] ∧ w = s.2.2 ∧ J_21 s.1 s.2.1 s.2.2) (fun s => mu_22 s.1 s.2.1 s.2.2) (([] : Str), 0, w) ⟨hA17.keep [(3, .string (Bs ([] : Str))), (9, Sl.v l_1), (10, .int .i64 (l_1.n : Int)), (11, .int .i64 0)] ⟨rfl, rfl, rfl, rfl, trivial⟩, rfl, h094⟩ ?_
    rintro ⟨last_18, x_19, w20⟩ a92 w_ ⟨hA92, hw_, hJ96⟩
    have hw_ : w20 = w_ := hw_.symm
    subst hw_
    have ht95 := ht93 last_18 x_19 _ hJ96
    refine wp_seq ?_
    refine wp_region_lit ?_
    refine sq (opk_val hA92 rfl (r_lss (hA92.get rfl) (hA92.get rfl)) fun a97 hA97 _ => ?_)
    refine sq_end ?_
    have hA98 := hA97.keep [(3, .string (Bs last_18)), (9, Sl.v l_1), (10, .int .i64 (l_1.n : Int)), (11, .int .i64 x_19), (12, .bool (decide (x_19 < (l_1.n : Int))))] ⟨rfl, rfl, rfl, rfl, rfl, trivial⟩
    refine then_normal ?_
    refine wp_seq ?_
    refine wp_cond_split (hA98.get rfl) (fun hc => ?_) (fun hc => ?_)
    · have ht99 := ht95.1 (of_decide_eq_true hc)
      clear hc
      refine wp_skip ?_
      refine then_normal ?_
      refine wp_seq ?_
      refine wp_block ?_
      refine wp_seq ?_
      refine wp_region_lit ?_
      obtain ⟨hb102, p_101, hp103, ht104⟩ := ht99
      refine sq (opk_val hA98 rfl (r_indexAddr (hA98.get rfl) (hA98.get rfl) Try.underlying23 ti_33 hb102 hp103) fun a105 hA105 _ => ?_)
      obtain ⟨x_107_Name, x_107_Value, hx108, ht109⟩ := ht104
      refine sq (opk_val hA105 rfl (r_loadN Try.underlying33 rfl ti_33 (hA105.get rfl) hx108) fun a106 hA106 _ => ?_)
      refine sq (opk_new (fun B => .pointer (some ⟨B, 0, none⟩)) hA106 rfl (r_alloc (cs := [.string (Bs ([] : Str)), .string (Bs ([] : Str))]) ti_33 rfl) fun a112 w111 B_110 hE113 hN114 hB115 hA112 _ => ?_)
      have hN116 : New w20 B_110 w111 := hN114
      have hC117 : Chg [] w20 w111 := hE113
      refine sq (opk_store hA112 hB115 (r_store (vs := [.string (Bs x_107_Name), .string (Bs x_107_Value)]) (hA112.get rfl) (hA112.get rfl) rfl ti_33 hB115 rfl (ones_all [.string (Bs x_107_Name), .string (Bs x_107_Value)] rfl)) fun a119 w118 hS120 hB121 hA119 => ?_)
      have hB122 : Box w118 B_110 33 [.string (Bs x_107_Name), .string (Bs x_107_Value)] := hB121
      have hC123 := hC117.storeNew hN116 hS120
      have hN124 := hN116.up hS120.size
      refine sq_end ?_
      have hA125 := hA119.keep [(3, .string (Bs last_18)), (5, .pointer (some ⟨B_110, 0, none⟩)), (9, Sl.v l_1), (10, .int .i64 (l_1.n : Int)), (11, .int .i64 x_19)] ⟨rfl, rfl, rfl, rfl, rfl, trivial⟩
      refine then_normal ?_
      refine wp_seq ?_
      refine wp_seq ?_
      refine wp_region_lit ?_
      refine sq (opk_val hA125 rfl (r_fieldAddr (hA125.get rfl) Try.underlying33 rfl ti_9 (by decide)) fun a126 hA126 _ => ?_)
      refine sq (opk_val hA126 rfl (r_load1 Try.underlying9 rfl (hA126.get rfl) (hB122.cell 0 _ rfl)) fun a127 hA127 _ => ?_)
      refine sq (opk_val hA127 rfl (r_move (hA127.get rfl)) fun a128 hA128 _ => ?_)
      refine sq (opk_val hA128 rfl (r_sleq (hA128.get rfl) (hA128.get rfl)) fun a129 hA129 _ => ?_)
      refine sq (opk_val hA129 rfl (r_move (hA129.get rfl)) fun a130 hA130 _ => ?_)
      refine sq (opk_gval hA130 rfl rfl (g := true) (e := ((Op.bytesLess x_107_Name last_18) || (decide (x_107_Name = last_18)))) rfl (fun hg => r_fieldAddr (hA130.get rfl) Try.underlying33 rfl ti_9 (by decide)) fun a131 hA131 _ => ?_)
      refine sq (opk_gval hA131 rfl rfl (g := true) (e := ((Op.bytesLess x_107_Name last_18) || (decide (x_107_Name = last_18)))) rfl (fun hg => r_load1 Try.underlying9 rfl (cv_get (hA131.get rfl) hg) (hB122.cell 0 _ rfl)) fun a132 hA132 _ => ?_)
      have ht133 := ht109 w118 B_110 hN124  hC123
      obtain ⟨r_134, hc138, ht137⟩ := ht133
      refine sq (opk_gcall hA132 rfl rfl (g := true) (e := ((Op.bytesLess x_107_Name last_18) || (decide (x_107_Name = last_18)))) rfl (fun hg => r_call (args := #[.string (Bs x_107_Name)]) Try.func19 (by decide) rfl (map_arr (ml_cons (cv_get (hA132.get rfl) hg) ml_nil)) rfl) (fun hg => hc138 ⟨(b_or_f (g_f hg)).1, (of_decide_eq_false (b_or_f (g_f hg)).2)⟩) fun a135 w136 hA135 _ hE139 => ?_)
      have hB140 := hB122.ext hE139
      have hC141 : Chg [] w118 w136 := hE139
      have ht142 := ht137 w136 hE139
      refine sq (opk_gval hA135 rfl rfl (g := true) (e := ((Op.bytesLess x_107_Name last_18) || (decide (x_107_Name = last_18)))) rfl (fun hg => r_not (cv_get (hA135.get rfl) hg)) fun a143 hA143 _ => ?_)
      refine sq (opk_val hA143 rfl (r_pick_or (g := (true && (((Op.bytesLess x_107_Name last_18) || (decide (x_107_Name = last_18))) == false))) (hA143.get rfl) (hA143.get rfl) (fun he => g_mkf rfl he)) fun a144 hA144 _ => ?_)
      refine sq (opk_val hA144 rfl (r_move (hA144.get rfl)) fun a145 hA145 _ => ?_)
      refine sq (opk_gval hA145 rfl rfl (g := true) (e := (((Op.bytesLess x_107_Name last_18) || (decide (x_107_Name = last_18))) || (!r_134))) rfl (fun hg => r_fieldAddr (hA145.get rfl) Try.underlying33 rfl ti_9 (by decide)) fun a146 hA146 _ => ?_)
      refine sq (opk_gval hA146 rfl rfl (g := true) (e := (((Op.bytesLess x_107_Name last_18) || (decide (x_107_Name = last_18))) || (!r_134))) rfl (fun hg => r_load1 Try.underlying9 rfl (cv_get (hA146.get rfl) hg) (hB140.cell 1 _ rfl)) fun a147 hA147 _ => ?_)
      refine sq (opk_gval hA147 rfl rfl (g := true) (e := (((Op.bytesLess x_107_Name last_18) || (decide (x_107_Name = last_18))) || (!r_134))) rfl (fun hg => r_slen (cv_get (hA147.get rfl) hg) Try.underlying9) fun a148 hA148 _ => ?_)
      refine sq (opk_gval hA148 rfl rfl (g := true) (e := (((Op.bytesLess x_107_Name last_18) || (decide (x_107_Name = last_18))) || (!r_134))) rfl (fun hg => r_gtr (cv_get (hA148.get rfl) hg) rfl) fun a149 hA149 _ => ?_)
      refine sq (opk_val hA149 rfl (r_pick_or (g := (true && ((((Op.bytesLess x_107_Name last_18) || (decide (x_107_Name = last_18))) || (!r_134)) == false))) (hA149.get rfl) (hA149.get rfl) (fun he => g_mkf rfl he)) fun a150 hA150 _ => ?_)
      refine sq_end ?_
      have hA151 := hA150.keep [(5, .pointer (some ⟨B_110, 0, none⟩)), (9, Sl.v l_1), (10, .int .i64 (l_1.n : Int)), (11, .int .i64 x_19), (30, .bool ((((Op.bytesLess x_107_Name last_18) || (decide (x_107_Name = last_18))) || (!r_134)) || (decide (4096 < (x_107_Value.length : Int)))))] ⟨rfl, rfl, rfl, rfl, rfl, trivial⟩
      refine then_normal ?_
      refine wp_cond_split (hA151.get rfl) (fun hc => ?_) (fun hc => ?_)
      · have ht152 := ht142.1 ((b_or_t hc).imp (fun h => ((b_or_t h).imp (fun h => ((b_or_t h).imp (fun h => h) (fun h => (of_decide_eq_true h)))) (fun h => (b_not_t h)))) (fun h => (of_decide_eq_true h)))
        clear hc
        refine wp_seq ?_
        refine wp_region_lit ?_
        refine sq (opk_val hA151 rfl (r_assign rfl) fun a154 hA154 _ => ?_)
        refine sq_end ?_
        have hA155 := hA154.keep [(2, .bool false)] ⟨rfl, trivial⟩
        refine then_normal ?_
        refine wp_ret ?_
        refine then_ret ?_
        refine block_ret ?_
        refine then_ret ?_
        refine then_ret ?_
        refine block_ret ?_
        refine then_ret ?_
        exact res_all (vs := [.bool false]) rfl hA155 ⟨res_of_tmp hA155 rfl, trivial⟩ ht152
      · have ht153 := ht142.2 ⟨⟨⟨(b_or_f (b_or_f (b_or_f hc).1).1).1, (of_decide_eq_false (b_or_f (b_or_f (b_or_f hc).1).1).2)⟩, (b_not_f (b_or_f (b_or_f hc).1).2)⟩, (of_decide_eq_false (b_or_f hc).2)⟩
        clear hc
        refine wp_skip ?_
        refine then_normal ?_
        refine wp_region_lit ?_
        refine sq (opk_val hA151 rfl (r_fieldAddr (hA151.get rfl) Try.underlying33 rfl ti_9 (by decide)) fun a156 hA156 _ => ?_)
        refine sq (opk_val hA156 rfl (r_load1 Try.underlying9 rfl (hA156.get rfl) (hB140.cell 0 _ rfl)) fun a157 hA157 _ => ?_)
        refine sq (opk_val hA157 rfl (r_assign (hA157.get rfl)) fun a158 hA158 _ => ?_)
        refine sq_end ?_
        have hA159 := hA158.keep [(3, .string (Bs x_107_Name)), (9, Sl.v l_1), (10, .int .i64 (l_1.n : Int)), (11, .int .i64 x_19)] ⟨rfl, rfl, rfl, rfl, trivial⟩
        refine block_normal ?_
        refine then_normal ?_
        refine wp_region_lit ?_
        obtain ⟨hS161, ht162⟩ := ht153
        refine sq (opk_val hA159 rfl (r_addI (hA159.get rfl) rfl hS161) fun a160 hA160 _ => ?_)
        refine sq (opk_val hA160 rfl (r_move (hA160.get rfl)) fun a163 hA163 _ => ?_)
        refine sq_end ?_
        have hA164 := hA163.keep [(3, .string (Bs x_107_Name)), (9, Sl.v l_1), (10, .int .i64 (l_1.n : Int)), (11, .int .i64 (x_19 + 1))] ⟨rfl, rfl, rfl, rfl, trivial⟩
        have hA165 := hA164.keep [(3, .string (Bs x_107_Name)), (9, Sl.v l_1), (10, .int .i64 (l_1.n : Int)), (11, .int .i64 (x_19 + 1))] ⟨rfl, rfl, rfl, rfl, trivial⟩
        exact then_normal ⟨(x_107_Name, x_19 + 1, w136), ⟨hA165, rfl, ht162.1⟩, ht162.2⟩
    · have ht100 := ht95.2 (of_decide_eq_false hc)
      clear hc
      refine wp_exit ?_
      refine then_exit ?_
      refine then_exit ?_
      refine block_hit ?_
      have hA166 := hA98.keep [] trivial
      refine then_normal ?_
      refine wp_seq ?_
      refine wp_region_lit ?_
      refine sq (opk_val hA166 rfl (r_assign rfl) fun a167 hA167 _ => ?_)
      refine sq_end ?_
      have hA168 := hA167.keep [(2, .bool true)] ⟨rfl, trivial⟩
      refine then_normal ?_
      refine wp_ret ?_
      exact res_all (vs := [.bool true]) rfl hA168 ⟨res_of_tmp hA168 rfl, trivial⟩ ht100

/-- The condition of topiary/topiaryref05.attrs. -/
def ref05_attrs.vc (l_1 : Sl) (R : Value → World → Prop) (w : World) : Prop :=
((12 < (l_1.n : Int)) →
R (.bool false) w) ∧
((¬ (12 < (l_1.n : Int))) →
∃ (J_16 : Int → World → Prop) (mu_17 : Int → World → Nat),
J_16 0 w ∧
(∀ (i_14 : Int) (w15 : World), J_16 i_14 w15 →
((i_14 < (l_1.n : Int)) →
∀ (w146 : World), Chg [] w15 w146 →
∃ p_152 : Addr, (((0 : Int) ≤ i_14 ∧ i_14 < (l_1.n : Int)) ∧ l_1.a = some p_152) ∧
∃ (x_157 : Str), (w146.cell? ((p_152.add (i_14.toNat * 2)).add 0) = some (.string (Bs x_157))) ∧
∃ (r_161 : Bool), (∀ w' : World, Ext w146 w' → Calls Try.prog 28 #[.string (Bs x_157)] w' (Ret fun v w'' => Ext w' w'' ∧ v = .bool r_161)) ∧
∃ p_171 : Addr, (((r_161 = true)) → ((0 : Int) ≤ i_14 ∧ i_14 < (l_1.n : Int)) ∧ l_1.a = some p_171) ∧
∃ (x_178 : Str), (((r_161 = true)) → w146.cell? ((p_171.add (i_14.toNat * 2)).add 1) = some (.string (Bs x_178))) ∧
∃ p_198 : Addr, ((((r_161 = true) ∧ (¬ (4096 < (x_178.length : Int)))) ∧ (0 < i_14)) → ((0 : Int) ≤ i_14 ∧ i_14 < (l_1.n : Int)) ∧ l_1.a = some p_198) ∧
∃ (x_205 : Str), ((((r_161 = true) ∧ (¬ (4096 < (x_178.length : Int)))) ∧ (0 < i_14)) → w146.cell? ((p_198.add (i_14.toNat * 2)).add 0) = some (.string (Bs x_205))) ∧
((((r_161 = true) ∧ (¬ (4096 < (x_178.length : Int)))) ∧ (0 < i_14)) → I64 (i_14 - 1)) ∧
∃ p_217 : Addr, ((((r_161 = true) ∧ (¬ (4096 < (x_178.length : Int)))) ∧ (0 < i_14)) → ((0 : Int) ≤ i_14 - 1 ∧ i_14 - 1 < (l_1.n : Int)) ∧ l_1.a = some p_217) ∧
∃ (x_224 : Str), ((((r_161 = true) ∧ (¬ (4096 < (x_178.length : Int)))) ∧ (0 < i_14)) → w146.cell? ((p_217.add ((i_14 - 1).toNat * 2)).add 0) = some (.string (Bs x_224))) ∧
((((r_161 = false) ∨ (4096 < (x_178.length : Int))) ∨ ((0 < i_14) ∧ (((Op.bytesLess x_205 x_224) = true) ∨ (x_205 = x_224)))) →
∀ (w236 : World), Chg [] w146 w236 →
R (.bool false) w236) ∧
((((r_161 = true) ∧ (¬ (4096 < (x_178.length : Int)))) ∧ ((¬ (0 < i_14)) ∨ (((Op.bytesLess x_205 x_224) = false) ∧ (¬ (x_205 = x_224))))) →
(I64 (i_14 + 1)) ∧
∀ (w236 : World), Chg [] w146 w236 →
J_16 (i_14 + 1) w236 ∧ mu_17 (i_14 + 1) w236 < mu_17 i_14 w15)) ∧
((¬ (i_14 < (l_1.n : Int))) →
R (.bool true) w15)))
set_option maxHeartbeats 1000000 in
set_option maxRecDepth 10000 in
theorem ref05_attrs.ok (l_1 : Sl) {R : Value → World → Prop} {w : World} (ht0 : ref05_attrs.vc l_1 R w) : Calls Try.prog 53 #[Sl.v l_1] w (Ret R) := by
  refine enter [Sl.v l_1] Try.func53 rfl Try.ntmps53 rfl ?_
  intro a0 hA0
  unfold ref05_attrs.vc at ht0
  refine wp_seq ?_
  refine wp_region_lit ?_
  refine sq (opk_val hA0 rfl (r_assign rfl) fun a2 hA2 _ => ?_)
  refine sq_end ?_
  have hA3 := hA2.keep [(0, Sl.v l_1)] ⟨rfl, trivial⟩
  refine then_normal ?_
  refine wp_seq ?_
  refine wp_seq ?_
  refine wp_region_lit ?_
  refine sq (opk_val hA3 rfl (r_move (hA3.get rfl)) fun a4 hA4 _ => ?_)
  refine sq (opk_val hA4 rfl (r_len (hA4.get rfl) Try.underlying23) fun a5 hA5 _ => ?_)
  refine sq (opk_val hA5 rfl (r_gtr (hA5.get rfl) rfl) fun a6 hA6 _ => ?_)
  refine sq_end ?_
  have hA7 := hA6.keep [(0, Sl.v l_1), (6, .bool (decide (12 < (l_1.n : Int))))] ⟨rfl, rfl, trivial⟩
  refine then_normal ?_
  refine wp_cond_split (hA7.get rfl) (fun hc => ?_) (fun hc => ?_)
  · have ht8 := ht0.1 (of_decide_eq_true hc)
    clear hc
    refine wp_seq ?_
    refine wp_region_lit ?_
    refine sq (opk_val hA7 rfl (r_assign rfl) fun a10 hA10 _ => ?_)
    refine sq_end ?_
    have hA11 := hA10.keep [(2, .bool false)] ⟨rfl, trivial⟩
    refine then_normal ?_
    refine wp_ret ?_
    refine then_ret ?_
    exact res_all (vs := [.bool false]) rfl hA11 ⟨res_of_tmp hA11 rfl, trivial⟩ ht8
  · have ht9 := ht0.2 (of_decide_eq_false hc)
    clear hc
    refine wp_skip ?_
    refine then_normal ?_
    refine wp_seq ?_
    refine wp_seq ?_
    refine wp_region_lit ?_
    refine sq (opk_val hA7 rfl (r_assign rfl) fun a12 hA12 _ => ?_)
    refine sq_end ?_
    have hA13 := hA12.keep [(0, Sl.v l_1), (3, .int .i64 0)] ⟨rfl, rfl, trivial⟩
    refine then_normal ?_
    refine wp_block ?_
    obtain ⟨J_16, mu_17, h0136, ht135⟩ := ht9
    refine wp_loop_st (σ := Int × World) (fun s a w => Ag 47 a [(0, Sl.v l_1), (3, .int .i64 s.1)] ∧ w = s.2 ∧ J_16 s.1 s.2) (fun s => mu_17 s.1 s.2) (0, w) ⟨hA13.keep [(0, Sl.v l_1), (3, .int .i64 0)] ⟨rfl, rfl, trivial⟩, rfl, h0136⟩ ?_
    rintro ⟨i_14, w15⟩ a134 w_ ⟨hA134, hw_, hJ138⟩
    have hw_ : w15 = w_ := hw_.symm
    subst hw_
    have ht137 := ht135 i_14 _ hJ138
    refine wp_seq ?_
    refine wp_seq ?_
    refine wp_region_lit ?_
    refine sq (opk_val hA134 rfl (r_move (hA134.get rfl)) fun a139 hA139 _ => ?_)
    refine sq (opk_val hA139 rfl (r_move (hA139.get rfl)) fun a140 hA140 _ => ?_)
    refine sq (opk_val hA140 rfl (r_len (hA140.get rfl) Try.underlying23) fun a141 hA141 _ => ?_)
    refine sq (opk_val hA141 rfl (r_lss (hA141.get rfl) (hA141.get rfl)) fun a142 hA142 _ => ?_)
    refine sq_end ?_
    have hA143 := hA142.keep [(0, Sl.v l_1), (3, .int .i64 i_14), (10, .bool (decide (i_14 < (l_1.n : Int))))] ⟨rfl, rfl, rfl, trivial⟩
    refine then_normal ?_
    refine wp_cond_split (hA143.get rfl) (fun hc => ?_) (fun hc => ?_)
    · have ht144 := ht137.1 (of_decide_eq_true hc)
      clear hc
      refine wp_skip ?_
      refine then_normal ?_
      refine wp_seq ?_
      refine wp_block ?_
      refine wp_seq ?_
      refine draw' (by kernel_rfl) fun w146 hE147 => ?_
      have hC148 : Chg [] w15 w146 := hE147
      have ht149 := ht144 w146    hC148
      obtain ⟨p_152, hp153, ht154⟩ := ht149
      obtain ⟨x_157, hx158, ht159⟩ := ht154
      obtain ⟨r_161, hc162, ht163⟩ := ht159
      obtain ⟨p_171, hp172, ht173⟩ := ht163
      obtain ⟨x_178, hx179, ht180⟩ := ht173
      obtain ⟨p_198, hp199, ht200⟩ := ht180
      obtain ⟨x_205, hx206, ht207⟩ := ht200
      obtain ⟨hS212, ht213⟩ := ht207
      obtain ⟨p_217, hp218, ht219⟩ := ht213
      obtain ⟨x_224, hx225, ht226⟩ := ht219
      refine par (D := [[], [], [0, 1], [0, 1, 2], [0, 1, 2, 3], [0, 1, 2, 3, 4], [0, 1, 2, 3, 4, 5], [0, 1, 2, 3, 4, 5, 6], [0, 1, 2, 3, 4, 5, 6, 7], [0, 1, 2, 3, 4, 5, 6, 7], [0, 1, 2, 3, 4, 5, 6, 7, 8, 9], [0, 1, 2, 3, 4, 5, 6, 7, 8, 9, 10], [0, 1, 2, 3, 4, 5, 6, 7, 8, 9, 10, 11], [0, 1, 2, 3, 4, 5, 6, 7, 8, 9, 10, 11, 12], [0, 1, 2, 3, 4, 5, 6, 7, 8, 9, 10, 11, 12, 13], [0, 1, 2, 3, 4, 5, 6, 7, 8, 9, 10, 11, 12, 13, 14], [0, 1, 2, 3, 4, 5, 6, 7, 8, 9, 10, 11, 12, 13, 14, 15], [0, 1, 2, 3, 4, 5, 6, 7, 8, 9, 10, 11, 12, 13, 14, 15, 16], [0, 1, 2, 3, 4, 5, 6, 7, 8, 9, 10, 11, 12, 13, 14, 15, 16, 17], [0, 1, 2, 3, 4, 5, 6, 7, 8, 9, 10, 11, 12, 13, 14, 15, 16, 17, 18], [0, 1, 2, 3, 4, 5, 6, 7, 8, 9, 10, 11, 12, 13, 14, 15, 16, 17, 18, 19], [0, 1, 2, 3, 4, 5, 6, 7, 8, 9, 10, 11, 12, 13, 14, 15, 16, 17, 18, 19], [0, 1, 2, 3, 4, 5, 6, 7, 8, 9, 10, 11, 12, 13, 14, 15, 16, 17, 18, 19, 20, 21], [0, 1, 2, 3, 4, 5, 6, 7, 8, 9, 10, 11, 12, 13, 14, 15, 16, 17, 18, 19, 20, 21, 22], [0, 1, 2, 3, 4, 5, 6, 7, 8, 9, 10, 11, 12, 13, 14, 15, 16, 17, 18, 19, 20, 21, 22, 23], [0, 1, 2, 3, 4, 5, 6, 7, 8, 9, 10, 11, 12, 13, 14, 15, 16, 17, 18, 19], [0, 1, 2, 3, 4, 5, 6, 7, 8, 9, 10, 11, 12, 13, 14, 15, 16, 17, 18, 19], [0, 1, 2, 3, 4, 5, 6, 7, 8, 9, 10, 11, 12, 13, 14, 15, 16, 17, 18, 19, 26], [0, 1, 2, 3, 4, 5, 6, 7, 8, 9, 10, 11, 12, 13, 14, 15, 16, 17, 18, 19, 25, 26, 27], [0, 1, 2, 3, 4, 5, 6, 7, 8, 9, 10, 11, 12, 13, 14, 15, 16, 17, 18, 19, 25, 26, 27, 28], [0, 1, 2, 3, 4, 5, 6, 7, 8, 9, 10, 11, 12, 13, 14, 15, 16, 17, 18, 19, 25, 26, 27, 28, 29], [0, 1, 2, 3, 4, 5, 6, 7, 8, 9, 10, 11, 12, 13, 14, 15, 16, 17, 18, 19, 20, 21, 22, 23, 24, 25, 26, 27, 28, 29, 30], [0, 1, 2, 3, 4, 5, 6, 7, 8, 9, 10, 11, 12, 13, 14, 15, 16, 17, 18, 19, 20, 21, 22, 23, 24, 25, 26, 27, 28, 29, 30, 31], [0, 1, 2, 3, 4, 5, 6, 7, 8, 9, 10, 11, 12, 13, 14, 15, 16, 17, 18, 19, 20, 21, 22, 23, 24, 25, 26, 27, 28, 29, 30, 31, 32]]) (S := [0, 1, 2, 3, 4, 5, 6, 7, 8, 9, 10, 11, 12, 13, 14, 15, 16, 17, 18, 19, 20, 21, 22, 23, 24, 25, 26, 27, 28, 29, 30, 31, 32, 33]) (F := []) (V := VL [(0, fun v _ => v = Sl.v l_1), (1, fun v _ => v = .int .i64 i_14), (2, fun v _ => v = .pointer (some (p_152.add (i_14.toNat * 2)))), (3, fun v _ => v = .pointer (some ((p_152.add (i_14.toNat * 2)).add 0))), (4, fun v _ => v = .string (Bs x_157)), (5, fun v _ => v = .bool r_161), (6, fun v _ => v = .bool (!r_161)), (7, fun v _ => v = .bool (!r_161)), (8, fun v _ => v = cV (true && ((!r_161) == false)) (Sl.v l_1)), (9, fun v _ => v = cV (true && ((!r_161) == false)) (.int .i64 i_14)), (10, fun v _ => v = cV (true && ((!r_161) == false)) (.pointer (some (p_171.add (i_14.toNat * 2))))), (11, fun v _ => v = cV (true && ((!r_161) == false)) (.pointer (some ((p_171.add (i_14.toNat * 2)).add 1)))), (12, fun v _ => v = cV (true && ((!r_161) == false)) (.string (Bs x_178))), (13, fun v _ => v = cV (true && ((!r_161) == false)) (.int .i64 (x_178.length : Int))), (14, fun v _ => v = cV (true && ((!r_161) == false)) (.bool (decide (4096 < (x_178.length : Int))))), (15, fun v _ => v = .bool ((!r_161) || (decide (4096 < (x_178.length : Int))))), (16, fun v _ => v = .bool ((!r_161) || (decide (4096 < (x_178.length : Int))))), (17, fun v _ => v = cV (true && (((!r_161) || (decide (4096 < (x_178.length : Int)))) == false)) (.int .i64 i_14)), (18, fun v _ => v = cV (true && (((!r_161) || (decide (4096 < (x_178.length : Int)))) == false)) (.bool (decide (0 < i_14)))), (19, fun v _ => v = cV (true && (((!r_161) || (decide (4096 < (x_178.length : Int)))) == false)) (.bool (decide (0 < i_14)))), (20, fun v _ => v = cV ((true && (((!r_161) || (decide (4096 < (x_178.length : Int)))) == false)) && ((decide (0 < i_14)) == true)) (Sl.v l_1)), (21, fun v _ => v = cV ((true && (((!r_161) || (decide (4096 < (x_178.length : Int)))) == false)) && ((decide (0 < i_14)) == true)) (.int .i64 i_14)), (22, fun v _ => v = cV ((true && (((!r_161) || (decide (4096 < (x_178.length : Int)))) == false)) && ((decide (0 < i_14)) == true)) (.pointer (some (p_198.add (i_14.toNat * 2))))), (23, fun v _ => v = cV ((true && (((!r_161) || (decide (4096 < (x_178.length : Int)))) == false)) && ((decide (0 < i_14)) == true)) (.pointer (some ((p_198.add (i_14.toNat * 2)).add 0)))), (24, fun v _ => v = cV ((true && (((!r_161) || (decide (4096 < (x_178.length : Int)))) == false)) && ((decide (0 < i_14)) == true)) (.string (Bs x_205))), (25, fun v _ => v = cV ((true && (((!r_161) || (decide (4096 < (x_178.length : Int)))) == false)) && ((decide (0 < i_14)) == true)) (Sl.v l_1)), (26, fun v _ => v = cV ((true && (((!r_161) || (decide (4096 < (x_178.length : Int)))) == false)) && ((decide (0 < i_14)) == true)) (.int .i64 i_14)), (27, fun v _ => v = cV ((true && (((!r_161) || (decide (4096 < (x_178.length : Int)))) == false)) && ((decide (0 < i_14)) == true)) (.int .i64 (i_14 - 1))), (28, fun v _ => v = cV ((true && (((!r_161) || (decide (4096 < (x_178.length : Int)))) == false)) && ((decide (0 < i_14)) == true)) (.pointer (some (p_217.add ((i_14 - 1).toNat * 2))))), (29, fun v _ => v = cV ((true && (((!r_161) || (decide (4096 < (x_178.length : Int)))) == false)) && ((decide (0 < i_14)) == true)) (.pointer (some ((p_217.add ((i_14 - 1).toNat * 2)).add 0)))), (30, fun v _ => v = cV ((true && (((!r_161) || (decide (4096 < (x_178.length : Int)))) == false)) && ((decide (0 < i_14)) == true)) (.string (Bs x_224))), (31, fun v _ => v = cV ((true && (((!r_161) || (decide (4096 < (x_178.length : Int)))) == false)) && ((decide (0 < i_14)) == true)) (.bool ((Op.bytesLess x_205 x_224) || (decide (x_205 = x_224))))), (32, fun v _ => v = cV (true && (((!r_161) || (decide (4096 < (x_178.length : Int)))) == false)) (.bool ((decide (0 < i_14)) && ((Op.bytesLess x_205 x_224) || (decide (x_205 = x_224)))))), (33, fun v _ => v = .bool (((!r_161) || (decide (4096 < (x_178.length : Int)))) || ((decide (0 < i_14)) && ((Op.bytesLess x_205 x_224) || (decide (x_205 = x_224))))))]) hA143 (by kernel_rfl) ⟨fun _ _ _ _ h => by first | exact h | (change _ = _ at h; change _ = _; exact h), fun _ _ _ _ h => by first | exact h | (change _ = _ at h; change _ = _; exact h), fun _ _ _ _ h => by first | exact h | (change _ = _ at h; change _ = _; exact h), fun _ _ _ _ h => by first | exact h | (change _ = _ at h; change _ = _; exact h), fun _ _ _ _ h => by first | exact h | (change _ = _ at h; change _ = _; exact h), fun _ _ _ _ h => by first | exact h | (change _ = _ at h; change _ = _; exact h), fun _ _ _ _ h => by first | exact h | (change _ = _ at h; change _ = _; exact h), fun _ _ _ _ h => by first | exact h | (change _ = _ at h; change _ = _; exact h), fun _ _ _ _ h => by first | exact h | (change _ = _ at h; change _ = _; exact h), fun _ _ _ _ h => by first | exact h | (change _ = _ at h; change _ = _; exact h), fun _ _ _ _ h => by first | exact h | (change _ = _ at h; change _ = _; exact h), fun _ _ _ _ h => by first | exact h | (change _ = _ at h; change _ = _; exact h), fun _ _ _ _ h => by first | exact h | (change _ = _ at h; change _ = _; exact h), fun _ _ _ _ h => by first | exact h | (change _ = _ at h; change _ = _; exact h), fun _ _ _ _ h => by first | exact h | (change _ = _ at h; change _ = _; exact h), fun _ _ _ _ h => by first | exact h | (change _ = _ at h; change _ = _; exact h), fun _ _ _ _ h => by first | exact h | (change _ = _ at h; change _ = _; exact h), fun _ _ _ _ h => by first | exact h | (change _ = _ at h; change _ = _; exact h), fun _ _ _ _ h => by first | exact h | (change _ = _ at h; change _ = _; exact h), fun _ _ _ _ h => by first | exact h | (change _ = _ at h; change _ = _; exact h), fun _ _ _ _ h => by first | exact h | (change _ = _ at h; change _ = _; exact h), fun _ _ _ _ h => by first | exact h | (change _ = _ at h; change _ = _; exact h), fun _ _ _ _ h => by first | exact h | (change _ = _ at h; change _ = _; exact h), fun _ _ _ _ h => by first | exact h | (change _ = _ at h; change _ = _; exact h), fun _ _ _ _ h => by first | exact h | (change _ = _ at h; change _ = _; exact h), fun _ _ _ _ h => by first | exact h | (change _ = _ at h; change _ = _; exact h), fun _ _ _ _ h => by first | exact h | (change _ = _ at h; change _ = _; exact h), fun _ _ _ _ h => by first | exact h | (change _ = _ at h; change _ = _; exact h), fun _ _ _ _ h => by first | exact h | (change _ = _ at h; change _ = _; exact h), fun _ _ _ _ h => by first | exact h | (change _ = _ at h; change _ = _; exact h), fun _ _ _ _ h => by first | exact h | (change _ = _ at h; change _ = _; exact h), fun _ _ _ _ h => by first | exact h | (change _ = _ at h; change _ = _; exact h), fun _ _ _ _ h => by first | exact h | (change _ = _ at h; change _ = _; exact h), fun _ _ _ _ h => by first | exact h | (change _ = _ at h; change _ = _; exact h), trivial⟩ ⟨?_, ?_, ?_, ?_, ?_, ?_, ?_, ?_, ?_, ?_, ?_, ?_, ?_, ?_, ?_, ?_, ?_, ?_, ?_, ?_, ?_, ?_, ?_, ?_, ?_, ?_, ?_, ?_, ?_, ?_, ?_, ?_, ?_, ?_, trivial⟩ ?_
      · intro a w hT
        have hAp := hT.ag hA143 [(0, Sl.v l_1)] ⟨rfl, trivial⟩ (by kernel_rfl)
        exact opk_val hAp rfl (r_move (hAp.get rfl)) fun _ _ e => ⟨_, e, Chg.refl _ _, fun _ => Eq.refl _⟩
      · intro a w hT
        have hAp := hT.ag hA143 [(3, .int .i64 i_14)] ⟨rfl, trivial⟩ (by kernel_rfl)
        exact opk_val hAp rfl (r_move (hAp.get rfl)) fun _ _ e => ⟨_, e, Chg.refl _ _, fun _ => Eq.refl _⟩
      · intro a w hT
        have hAp := hT.ag hA143 [] trivial (by kernel_rfl)
        have e150 : a.tmps.getD 13 undef = Sl.v l_1 := hT.vals 0 rfl 13 rfl
        have hAp := hAp.add e150
        have e151 : a.tmps.getD 14 undef = .int .i64 i_14 := hT.vals 1 rfl 14 rfl
        have hAp := hAp.add e151
        exact opk_val hAp rfl (r_indexAddr (hAp.get rfl) (hAp.get rfl) Try.underlying23 ti_33 hp153.1 hp153.2) fun _ _ e => ⟨_, e, Chg.refl _ _, fun _ => Eq.refl _⟩
      · intro a w hT
        have hAp := hT.ag hA143 [] trivial (by kernel_rfl)
        have e155 : a.tmps.getD 15 undef = .pointer (some (p_152.add (i_14.toNat * 2))) := hT.vals 2 rfl 15 rfl
        have hAp := hAp.add e155
        exact opk_val hAp rfl (r_fieldAddr (hAp.get rfl) Try.underlying33 rfl ti_9 (by decide)) fun _ _ e => ⟨_, e, Chg.refl _ _, fun _ => Eq.refl _⟩
      · intro a w hT
        have hAp := hT.ag hA143 [] trivial (by kernel_rfl)
        have e156 : a.tmps.getD 16 undef = .pointer (some ((p_152.add (i_14.toNat * 2)).add 0)) := hT.vals 3 rfl 16 rfl
        have hAp := hAp.add e156
        exact opk_val hAp rfl (r_load1 Try.underlying9 rfl (hAp.get rfl) (Ext.cell hT.chg hx158)) fun _ _ e => ⟨_, e, Chg.refl _ _, fun _ => Eq.refl _⟩
      · intro a w hT
        have hAp := hT.ag hA143 [] trivial (by kernel_rfl)
        have e160 : a.tmps.getD 17 undef = .string (Bs x_157) := hT.vals 4 rfl 17 rfl
        have hAp := hAp.add e160
        exact opk_callX hAp rfl (r_call (args := #[.string (Bs x_157)]) Try.func28 (by decide) rfl (map_arr (ml_cons (hAp.get rfl) ml_nil)) rfl) (hc162 w hT.chg) fun _ _ _ _ e hR => ⟨_, e, hR.1, fun _ => hR.2⟩
      · intro a w hT
        have hAp := hT.ag hA143 [] trivial (by kernel_rfl)
        have e164 : a.tmps.getD 18 undef = .bool r_161 := hT.vals 5 rfl 18 rfl
        have hAp := hAp.add e164
        exact opk_val hAp rfl (r_not (hAp.get rfl)) fun _ _ e => ⟨_, e, Chg.refl _ _, fun _ => Eq.refl _⟩
      · intro a w hT
        have hAp := hT.ag hA143 [] trivial (by kernel_rfl)
        have e165 : a.tmps.getD 19 undef = .bool (!r_161) := hT.vals 6 rfl 19 rfl
        have hAp := hAp.add e165
        exact opk_val hAp rfl (r_move (hAp.get rfl)) fun _ _ e => ⟨_, e, Chg.refl _ _, fun _ => Eq.refl _⟩
      · intro a w hT
        have hAp := hT.ag hA143 [(0, Sl.v l_1)] ⟨rfl, trivial⟩ (by kernel_rfl)
        have e166 : a.tmps.getD 20 undef = .bool (!r_161) := hT.vals 7 rfl 20 rfl
        have hAp := hAp.add e166
        exact opk_gval hAp rfl rfl (g := true) (e := (!r_161)) rfl (fun hg => r_move (hAp.get rfl)) fun _ _ e => ⟨_, e, Chg.refl _ _, fun _ => Eq.refl _⟩
      · intro a w hT
        have hAp := hT.ag hA143 [(3, .int .i64 i_14)] ⟨rfl, trivial⟩ (by kernel_rfl)
        have e167 : a.tmps.getD 20 undef = .bool (!r_161) := hT.vals 7 rfl 20 rfl
        have hAp := hAp.add e167
        exact opk_gval hAp rfl rfl (g := true) (e := (!r_161)) rfl (fun hg => r_move (hAp.get rfl)) fun _ _ e => ⟨_, e, Chg.refl _ _, fun _ => Eq.refl _⟩
      · intro a w hT
        have hAp := hT.ag hA143 [] trivial (by kernel_rfl)
        have e168 : a.tmps.getD 20 undef = .bool (!r_161) := hT.vals 7 rfl 20 rfl
        have hAp := hAp.add e168
        have e169 : a.tmps.getD 21 undef = cV (true && ((!r_161) == false)) (Sl.v l_1) := hT.vals 8 rfl 21 rfl
        have hAp := hAp.add e169
        have e170 : a.tmps.getD 22 undef = cV (true && ((!r_161) == false)) (.int .i64 i_14) := hT.vals 9 rfl 22 rfl
        have hAp := hAp.add e170
        exact opk_gval hAp rfl rfl (g := true) (e := (!r_161)) rfl (fun hg => r_indexAddr (cv_get (hAp.get rfl) hg) (cv_get (hAp.get rfl) hg) Try.underlying23 ti_33 (hp172 (b_not_f (g_f hg))).1 (hp172 (b_not_f (g_f hg))).2) fun _ _ e => ⟨_, e, Chg.refl _ _, fun _ => Eq.refl _⟩
      · intro a w hT
        have hAp := hT.ag hA143 [] trivial (by kernel_rfl)
        have e174 : a.tmps.getD 20 undef = .bool (!r_161) := hT.vals 7 rfl 20 rfl
        have hAp := hAp.add e174
        have e175 : a.tmps.getD 23 undef = cV (true && ((!r_161) == false)) (.pointer (some (p_171.add (i_14.toNat * 2)))) := hT.vals 10 rfl 23 rfl
        have hAp := hAp.add e175
        exact opk_gval hAp rfl rfl (g := true) (e := (!r_161)) rfl (fun hg => r_fieldAddr (cv_get (hAp.get rfl) hg) Try.underlying33 rfl ti_9 (by decide)) fun _ _ e => ⟨_, e, Chg.refl _ _, fun _ => Eq.refl _⟩
      · intro a w hT
        have hAp := hT.ag hA143 [] trivial (by kernel_rfl)
        have e176 : a.tmps.getD 20 undef = .bool (!r_161) := hT.vals 7 rfl 20 rfl
        have hAp := hAp.add e176
        have e177 : a.tmps.getD 24 undef = cV (true && ((!r_161) == false)) (.pointer (some ((p_171.add (i_14.toNat * 2)).add 1))) := hT.vals 11 rfl 24 rfl
        have hAp := hAp.add e177
        exact opk_gval hAp rfl rfl (g := true) (e := (!r_161)) rfl (fun hg => r_load1 Try.underlying9 rfl (cv_get (hAp.get rfl) hg) (Ext.cell hT.chg (hx179 (b_not_f (g_f hg))))) fun _ _ e => ⟨_, e, Chg.refl _ _, fun _ => Eq.refl _⟩
      · intro a w hT
        have hAp := hT.ag hA143 [] trivial (by kernel_rfl)
        have e181 : a.tmps.getD 20 undef = .bool (!r_161) := hT.vals 7 rfl 20 rfl
        have hAp := hAp.add e181
        have e182 : a.tmps.getD 25 undef = cV (true && ((!r_161) == false)) (.string (Bs x_178)) := hT.vals 12 rfl 25 rfl
        have hAp := hAp.add e182
        exact opk_gval hAp rfl rfl (g := true) (e := (!r_161)) rfl (fun hg => r_slen (cv_get (hAp.get rfl) hg) Try.underlying9) fun _ _ e => ⟨_, e, Chg.refl _ _, fun _ => Eq.refl _⟩
      · intro a w hT
        have hAp := hT.ag hA143 [] trivial (by kernel_rfl)
        have e183 : a.tmps.getD 20 undef = .bool (!r_161) := hT.vals 7 rfl 20 rfl
        have hAp := hAp.add e183
        have e184 : a.tmps.getD 26 undef = cV (true && ((!r_161) == false)) (.int .i64 (x_178.length : Int)) := hT.vals 13 rfl 26 rfl
        have hAp := hAp.add e184
        exact opk_gval hAp rfl rfl (g := true) (e := (!r_161)) rfl (fun hg => r_gtr (cv_get (hAp.get rfl) hg) rfl) fun _ _ e => ⟨_, e, Chg.refl _ _, fun _ => Eq.refl _⟩
      · intro a w hT
        have hAp := hT.ag hA143 [] trivial (by kernel_rfl)
        have e185 : a.tmps.getD 20 undef = .bool (!r_161) := hT.vals 7 rfl 20 rfl
        have hAp := hAp.add e185
        have e186 : a.tmps.getD 27 undef = cV (true && ((!r_161) == false)) (.bool (decide (4096 < (x_178.length : Int)))) := hT.vals 14 rfl 27 rfl
        have hAp := hAp.add e186
        exact opk_val hAp rfl (r_pick_or (g := (true && ((!r_161) == false))) (hAp.get rfl) (hAp.get rfl) (fun he => g_mkf rfl he)) fun _ _ e => ⟨_, e, Chg.refl _ _, fun _ => Eq.refl _⟩
      · intro a w hT
        have hAp := hT.ag hA143 [] trivial (by kernel_rfl)
        have e187 : a.tmps.getD 28 undef = .bool ((!r_161) || (decide (4096 < (x_178.length : Int)))) := hT.vals 15 rfl 28 rfl
        have hAp := hAp.add e187
        exact opk_val hAp rfl (r_move (hAp.get rfl)) fun _ _ e => ⟨_, e, Chg.refl _ _, fun _ => Eq.refl _⟩
      · intro a w hT
        have hAp := hT.ag hA143 [(3, .int .i64 i_14)] ⟨rfl, trivial⟩ (by kernel_rfl)
        have e188 : a.tmps.getD 29 undef = .bool ((!r_161) || (decide (4096 < (x_178.length : Int)))) := hT.vals 16 rfl 29 rfl
        have hAp := hAp.add e188
        exact opk_gval hAp rfl rfl (g := true) (e := ((!r_161) || (decide (4096 < (x_178.length : Int))))) rfl (fun hg => r_move (hAp.get rfl)) fun _ _ e => ⟨_, e, Chg.refl _ _, fun _ => Eq.refl _⟩
      · intro a w hT
        have hAp := hT.ag hA143 [] trivial (by kernel_rfl)
        have e189 : a.tmps.getD 29 undef = .bool ((!r_161) || (decide (4096 < (x_178.length : Int)))) := hT.vals 16 rfl 29 rfl
        have hAp := hAp.add e189
        have e190 : a.tmps.getD 30 undef = cV (true && (((!r_161) || (decide (4096 < (x_178.length : Int)))) == false)) (.int .i64 i_14) := hT.vals 17 rfl 30 rfl
        have hAp := hAp.add e190
        exact opk_gval hAp rfl rfl (g := true) (e := ((!r_161) || (decide (4096 < (x_178.length : Int))))) rfl (fun hg => r_gtr (cv_get (hAp.get rfl) hg) rfl) fun _ _ e => ⟨_, e, Chg.refl _ _, fun _ => Eq.refl _⟩
      · intro a w hT
        have hAp := hT.ag hA143 [] trivial (by kernel_rfl)
        have e191 : a.tmps.getD 29 undef = .bool ((!r_161) || (decide (4096 < (x_178.length : Int)))) := hT.vals 16 rfl 29 rfl
        have hAp := hAp.add e191
        have e192 : a.tmps.getD 31 undef = cV (true && (((!r_161) || (decide (4096 < (x_178.length : Int)))) == false)) (.bool (decide (0 < i_14))) := hT.vals 18 rfl 31 rfl
        have hAp := hAp.add e192
        exact opk_gval hAp rfl rfl (g := true) (e := ((!r_161) || (decide (4096 < (x_178.length : Int))))) rfl (fun hg => r_move (cv_get (hAp.get rfl) hg)) fun _ _ e => ⟨_, e, Chg.refl _ _, fun _ => Eq.refl _⟩
      · intro a w hT
        have hAp := hT.ag hA143 [(0, Sl.v l_1)] ⟨rfl, trivial⟩ (by kernel_rfl)
        have e193 : a.tmps.getD 32 undef = cV (true && (((!r_161) || (decide (4096 < (x_178.length : Int)))) == false)) (.bool (decide (0 < i_14))) := hT.vals 19 rfl 32 rfl
        have hAp := hAp.add e193
        exact opk_gval hAp rfl rfl (g := (true && (((!r_161) || (decide (4096 < (x_178.length : Int)))) == false))) (e := (decide (0 < i_14))) rfl (fun hg => r_move (hAp.get rfl)) fun _ _ e => ⟨_, e, Chg.refl _ _, fun _ => Eq.refl _⟩
      · intro a w hT
        have hAp := hT.ag hA143 [(3, .int .i64 i_14)] ⟨rfl, trivial⟩ (by kernel_rfl)
        have e194 : a.tmps.getD 32 undef = cV (true && (((!r_161) || (decide (4096 < (x_178.length : Int)))) == false)) (.bool (decide (0 < i_14))) := hT.vals 19 rfl 32 rfl
        have hAp := hAp.add e194
        exact opk_gval hAp rfl rfl (g := (true && (((!r_161) || (decide (4096 < (x_178.length : Int)))) == false))) (e := (decide (0 < i_14))) rfl (fun hg => r_move (hAp.get rfl)) fun _ _ e => ⟨_, e, Chg.refl _ _, fun _ => Eq.refl _⟩
      · intro a w hT
        have hAp := hT.ag hA143 [] trivial (by kernel_rfl)
        have e195 : a.tmps.getD 32 undef = cV (true && (((!r_161) || (decide (4096 < (x_178.length : Int)))) == false)) (.bool (decide (0 < i_14))) := hT.vals 19 rfl 32 rfl
        have hAp := hAp.add e195
        have e196 : a.tmps.getD 33 undef = cV ((true && (((!r_161) || (decide (4096 < (x_178.length : Int)))) == false)) && ((decide (0 < i_14)) == true)) (Sl.v l_1) := hT.vals 20 rfl 33 rfl
        have hAp := hAp.add e196
        have e197 : a.tmps.getD 34 undef = cV ((true && (((!r_161) || (decide (4096 < (x_178.length : Int)))) == false)) && ((decide (0 < i_14)) == true)) (.int .i64 i_14) := hT.vals 21 rfl 34 rfl
        have hAp := hAp.add e197
        exact opk_gval hAp rfl rfl (g := (true && (((!r_161) || (decide (4096 < (x_178.length : Int)))) == false))) (e := (decide (0 < i_14))) rfl (fun hg => r_indexAddr (cv_get (hAp.get rfl) hg) (cv_get (hAp.get rfl) hg) Try.underlying23 ti_33 (hp199 ⟨⟨(b_not_f (b_or_f (g_f (g_up hg))).1), (of_decide_eq_false (b_or_f (g_f (g_up hg))).2)⟩, (of_decide_eq_true (g_t hg))⟩).1 (hp199 ⟨⟨(b_not_f (b_or_f (g_f (g_up hg))).1), (of_decide_eq_false (b_or_f (g_f (g_up hg))).2)⟩, (of_decide_eq_true (g_t hg))⟩).2) fun _ _ e => ⟨_, e, Chg.refl _ _, fun _ => Eq.refl _⟩
      · intro a w hT
        have hAp := hT.ag hA143 [] trivial (by kernel_rfl)
        have e201 : a.tmps.getD 32 undef = cV (true && (((!r_161) || (decide (4096 < (x_178.length : Int)))) == false)) (.bool (decide (0 < i_14))) := hT.vals 19 rfl 32 rfl
        have hAp := hAp.add e201
        have e202 : a.tmps.getD 35 undef = cV ((true && (((!r_161) || (decide (4096 < (x_178.length : Int)))) == false)) && ((decide (0 < i_14)) == true)) (.pointer (some (p_198.add (i_14.toNat * 2)))) := hT.vals 22 rfl 35 rfl
        have hAp := hAp.add e202
        exact opk_gval hAp rfl rfl (g := (true && (((!r_161) || (decide (4096 < (x_178.length : Int)))) == false))) (e := (decide (0 < i_14))) rfl (fun hg => r_fieldAddr (cv_get (hAp.get rfl) hg) Try.underlying33 rfl ti_9 (by decide)) fun _ _ e => ⟨_, e, Chg.refl _ _, fun _ => Eq.refl _⟩
      · intro a w hT
        have hAp := hT.ag hA143 [] trivial (by kernel_rfl)
        have e203 : a.tmps.getD 32 undef = cV (true && (((!r_161) || (decide (4096 < (x_178.length : Int)))) == false)) (.bool (decide (0 < i_14))) := hT.vals 19 rfl 32 rfl
        have hAp := hAp.add e203
        have e204 : a.tmps.getD 36 undef = cV ((true && (((!r_161) || (decide (4096 < (x_178.length : Int)))) == false)) && ((decide (0 < i_14)) == true)) (.pointer (some ((p_198.add (i_14.toNat * 2)).add 0))) := hT.vals 23 rfl 36 rfl
        have hAp := hAp.add e204
        exact opk_gval hAp rfl rfl (g := (true && (((!r_161) || (decide (4096 < (x_178.length : Int)))) == false))) (e := (decide (0 < i_14))) rfl (fun hg => r_load1 Try.underlying9 rfl (cv_get (hAp.get rfl) hg) (Ext.cell hT.chg (hx206 ⟨⟨(b_not_f (b_or_f (g_f (g_up hg))).1), (of_decide_eq_false (b_or_f (g_f (g_up hg))).2)⟩, (of_decide_eq_true (g_t hg))⟩))) fun _ _ e => ⟨_, e, Chg.refl _ _, fun _ => Eq.refl _⟩
      · intro a w hT
        have hAp := hT.ag hA143 [(0, Sl.v l_1)] ⟨rfl, trivial⟩ (by kernel_rfl)
        have e208 : a.tmps.getD 32 undef = cV (true && (((!r_161) || (decide (4096 < (x_178.length : Int)))) == false)) (.bool (decide (0 < i_14))) := hT.vals 19 rfl 32 rfl
        have hAp := hAp.add e208
        exact opk_gval hAp rfl rfl (g := (true && (((!r_161) || (decide (4096 < (x_178.length : Int)))) == false))) (e := (decide (0 < i_14))) rfl (fun hg => r_move (hAp.get rfl)) fun _ _ e => ⟨_, e, Chg.refl _ _, fun _ => Eq.refl _⟩
      · intro a w hT
        have hAp := hT.ag hA143 [(3, .int .i64 i_14)] ⟨rfl, trivial⟩ (by kernel_rfl)
        have e209 : a.tmps.getD 32 undef = cV (true && (((!r_161) || (decide (4096 < (x_178.length : Int)))) == false)) (.bool (decide (0 < i_14))) := hT.vals 19 rfl 32 rfl
        have hAp := hAp.add e209
        exact opk_gval hAp rfl rfl (g := (true && (((!r_161) || (decide (4096 < (x_178.length : Int)))) == false))) (e := (decide (0 < i_14))) rfl (fun hg => r_move (hAp.get rfl)) fun _ _ e => ⟨_, e, Chg.refl _ _, fun _ => Eq.refl _⟩
      · intro a w hT
        have hAp := hT.ag hA143 [] trivial (by kernel_rfl)
        have e210 : a.tmps.getD 32 undef = cV (true && (((!r_161) || (decide (4096 < (x_178.length : Int)))) == false)) (.bool (decide (0 < i_14))) := hT.vals 19 rfl 32 rfl
        have hAp := hAp.add e210
        have e211 : a.tmps.getD 39 undef = cV ((true && (((!r_161) || (decide (4096 < (x_178.length : Int)))) == false)) && ((decide (0 < i_14)) == true)) (.int .i64 i_14) := hT.vals 26 rfl 39 rfl
        have hAp := hAp.add e211
        exact opk_gval hAp rfl rfl (g := (true && (((!r_161) || (decide (4096 < (x_178.length : Int)))) == false))) (e := (decide (0 < i_14))) rfl (fun hg => r_subI (cv_get (hAp.get rfl) hg) rfl (hS212 ⟨⟨(b_not_f (b_or_f (g_f (g_up hg))).1), (of_decide_eq_false (b_or_f (g_f (g_up hg))).2)⟩, (of_decide_eq_true (g_t hg))⟩)) fun _ _ e => ⟨_, e, Chg.refl _ _, fun _ => Eq.refl _⟩
      · intro a w hT
        have hAp := hT.ag hA143 [] trivial (by kernel_rfl)
        have e214 : a.tmps.getD 32 undef = cV (true && (((!r_161) || (decide (4096 < (x_178.length : Int)))) == false)) (.bool (decide (0 < i_14))) := hT.vals 19 rfl 32 rfl
        have hAp := hAp.add e214
        have e215 : a.tmps.getD 38 undef = cV ((true && (((!r_161) || (decide (4096 < (x_178.length : Int)))) == false)) && ((decide (0 < i_14)) == true)) (Sl.v l_1) := hT.vals 25 rfl 38 rfl
        have hAp := hAp.add e215
        have e216 : a.tmps.getD 40 undef = cV ((true && (((!r_161) || (decide (4096 < (x_178.length : Int)))) == false)) && ((decide (0 < i_14)) == true)) (.int .i64 (i_14 - 1)) := hT.vals 27 rfl 40 rfl
        have hAp := hAp.add e216
        exact opk_gval hAp rfl rfl (g := (true && (((!r_161) || (decide (4096 < (x_178.length : Int)))) == false))) (e := (decide (0 < i_14))) rfl (fun hg => r_indexAddr (cv_get (hAp.get rfl) hg) (cv_get (hAp.get rfl) hg) Try.underlying23 ti_33 (hp218 ⟨⟨(b_not_f (b_or_f (g_f (g_up hg))).1), (of_decide_eq_false (b_or_f (g_f (g_up hg))).2)⟩, (of_decide_eq_true (g_t hg))⟩).1 (hp218 ⟨⟨(b_not_f (b_or_f (g_f (g_up hg))).1), (of_decide_eq_false (b_or_f (g_f (g_up hg))).2)⟩, (of_decide_eq_true (g_t hg))⟩).2) fun _ _ e => ⟨_, e, Chg.refl _ _, fun _ => Eq.refl _⟩
      · intro a w hT
        have hAp := hT.ag hA143 [] trivial (by kernel_rfl)
        have e220 : a.tmps.getD 32 undef = cV (true && (((!r_161) || (decide (4096 < (x_178.length : Int)))) == false)) (.bool (decide (0 < i_14))) := hT.vals 19 rfl 32 rfl
        have hAp := hAp.add e220
        have e221 : a.tmps.getD 41 undef = cV ((true && (((!r_161) || (decide (4096 < (x_178.length : Int)))) == false)) && ((decide (0 < i_14)) == true)) (.pointer (some (p_217.add ((i_14 - 1).toNat * 2)))) := hT.vals 28 rfl 41 rfl
        have hAp := hAp.add e221
        exact opk_gval hAp rfl rfl (g := (true && (((!r_161) || (decide (4096 < (x_178.length : Int)))) == false))) (e := (decide (0 < i_14))) rfl (fun hg => r_fieldAddr (cv_get (hAp.get rfl) hg) Try.underlying33 rfl ti_9 (by decide)) fun _ _ e => ⟨_, e, Chg.refl _ _, fun _ => Eq.refl _⟩
      · intro a w hT
        have hAp := hT.ag hA143 [] trivial (by kernel_rfl)
        have e222 : a.tmps.getD 32 undef = cV (true && (((!r_161) || (decide (4096 < (x_178.length : Int)))) == false)) (.bool (decide (0 < i_14))) := hT.vals 19 rfl 32 rfl
        have hAp := hAp.add e222
        have e223 : a.tmps.getD 42 undef = cV ((true && (((!r_161) || (decide (4096 < (x_178.length : Int)))) == false)) && ((decide (0 < i_14)) == true)) (.pointer (some ((p_217.add ((i_14 - 1).toNat * 2)).add 0))) := hT.vals 29 rfl 42 rfl
        have hAp := hAp.add e223
        exact opk_gval hAp rfl rfl (g := (true && (((!r_161) || (decide (4096 < (x_178.length : Int)))) == false))) (e := (decide (0 < i_14))) rfl (fun hg => r_load1 Try.underlying9 rfl (cv_get (hAp.get rfl) hg) (Ext.cell hT.chg (hx225 ⟨⟨(b_not_f (b_or_f (g_f (g_up hg))).1), (of_decide_eq_false (b_or_f (g_f (g_up hg))).2)⟩, (of_decide_eq_true (g_t hg))⟩))) fun _ _ e => ⟨_, e, Chg.refl _ _, fun _ => Eq.refl _⟩
      · intro a w hT
        have hAp := hT.ag hA143 [] trivial (by kernel_rfl)
        have e227 : a.tmps.getD 32 undef = cV (true && (((!r_161) || (decide (4096 < (x_178.length : Int)))) == false)) (.bool (decide (0 < i_14))) := hT.vals 19 rfl 32 rfl
        have hAp := hAp.add e227
        have e228 : a.tmps.getD 37 undef = cV ((true && (((!r_161) || (decide (4096 < (x_178.length : Int)))) == false)) && ((decide (0 < i_14)) == true)) (.string (Bs x_205)) := hT.vals 24 rfl 37 rfl
        have hAp := hAp.add e228
        have e229 : a.tmps.getD 43 undef = cV ((true && (((!r_161) || (decide (4096 < (x_178.length : Int)))) == false)) && ((decide (0 < i_14)) == true)) (.string (Bs x_224)) := hT.vals 30 rfl 43 rfl
        have hAp := hAp.add e229
        exact opk_gval hAp rfl rfl (g := (true && (((!r_161) || (decide (4096 < (x_178.length : Int)))) == false))) (e := (decide (0 < i_14))) rfl (fun hg => r_sleq (cv_get (hAp.get rfl) hg) (cv_get (hAp.get rfl) hg)) fun _ _ e => ⟨_, e, Chg.refl _ _, fun _ => Eq.refl _⟩
      · intro a w hT
        have hAp := hT.ag hA143 [] trivial (by kernel_rfl)
        have e230 : a.tmps.getD 29 undef = .bool ((!r_161) || (decide (4096 < (x_178.length : Int)))) := hT.vals 16 rfl 29 rfl
        have hAp := hAp.add e230
        have e231 : a.tmps.getD 32 undef = cV (true && (((!r_161) || (decide (4096 < (x_178.length : Int)))) == false)) (.bool (decide (0 < i_14))) := hT.vals 19 rfl 32 rfl
        have hAp := hAp.add e231
        have e232 : a.tmps.getD 44 undef = cV ((true && (((!r_161) || (decide (4096 < (x_178.length : Int)))) == false)) && ((decide (0 < i_14)) == true)) (.bool ((Op.bytesLess x_205 x_224) || (decide (x_205 = x_224)))) := hT.vals 31 rfl 44 rfl
        have hAp := hAp.add e232
        exact opk_gval hAp rfl rfl (g := true) (e := ((!r_161) || (decide (4096 < (x_178.length : Int))))) rfl (fun hg => r_pick_and (g := ((true && (((!r_161) || (decide (4096 < (x_178.length : Int)))) == false)) && ((decide (0 < i_14)) == true))) (cv_get (hAp.get rfl) hg) (hAp.get rfl) (fun he => g_mkt hg he)) fun _ _ e => ⟨_, e, Chg.refl _ _, fun _ => Eq.refl _⟩
      · intro a w hT
        have hAp := hT.ag hA143 [] trivial (by kernel_rfl)
        have e233 : a.tmps.getD 29 undef = .bool ((!r_161) || (decide (4096 < (x_178.length : Int)))) := hT.vals 16 rfl 29 rfl
        have hAp := hAp.add e233
        have e234 : a.tmps.getD 45 undef = cV (true && (((!r_161) || (decide (4096 < (x_178.length : Int)))) == false)) (.bool ((decide (0 < i_14)) && ((Op.bytesLess x_205 x_224) || (decide (x_205 = x_224))))) := hT.vals 32 rfl 45 rfl
        have hAp := hAp.add e234
        exact opk_val hAp rfl (r_pick_or (g := (true && (((!r_161) || (decide (4096 < (x_178.length : Int)))) == false))) (hAp.get rfl) (hAp.get rfl) (fun he => g_mkf rfl he)) fun _ _ e => ⟨_, e, Chg.refl _ _, fun _ => Eq.refl _⟩
      · intro a235 w236 hE237 hag238 hv239
        have hA235 := hag238 [(0, Sl.v l_1), (3, .int .i64 i_14)] ⟨rfl, rfl, trivial⟩ (by kernel_rfl)
        have e240 : a235.tmps.getD 46 undef = .bool (((!r_161) || (decide (4096 < (x_178.length : Int)))) || ((decide (0 < i_14)) && ((Op.bytesLess x_205 x_224) || (decide (x_205 = x_224))))) := hv239 33 rfl 46 rfl
        have hA241 := hA235.add e240
        have hC242 : Chg [] w146 w236 := hE237
        refine PR_end (by kernel_rfl) ?_
        have hA243 := hA241.keep [(0, Sl.v l_1), (3, .int .i64 i_14), (46, .bool (((!r_161) || (decide (4096 < (x_178.length : Int)))) || ((decide (0 < i_14)) && ((Op.bytesLess x_205 x_224) || (decide (x_205 = x_224))))))] ⟨rfl, rfl, rfl, trivial⟩
        refine then_normal ?_
        refine wp_cond_split (hA243.get rfl) (fun hc => ?_) (fun hc => ?_)
        · have ht244 := ht226.1 ((b_or_t hc).imp (fun h => ((b_or_t h).imp (fun h => (b_not_t h)) (fun h => (of_decide_eq_true h)))) (fun h => ⟨(of_decide_eq_true (b_and_t h).1), ((b_or_t (b_and_t h).2).imp (fun h => h) (fun h => (of_decide_eq_true h)))⟩))
          clear hc
          refine wp_seq ?_
          refine wp_region_lit ?_
          refine sq (opk_val hA243 rfl (r_assign rfl) fun a246 hA246 _ => ?_)
          refine sq_end ?_
          have hA247 := hA246.keep [(2, .bool false)] ⟨rfl, trivial⟩
          refine then_normal ?_
          refine wp_ret ?_
          refine block_ret ?_
          refine then_ret ?_
          refine then_ret ?_
          refine block_ret ?_
          refine then_ret ?_
          have ht248 := ht244 w236    hC242
          exact res_all (vs := [.bool false]) rfl hA247 ⟨res_of_tmp hA247 rfl, trivial⟩ ht248
        · have ht245 := ht226.2 ⟨⟨(b_not_f (b_or_f (b_or_f hc).1).1), (of_decide_eq_false (b_or_f (b_or_f hc).1).2)⟩, ((b_and_f (b_or_f hc).2).imp (fun h => (of_decide_eq_false h)) (fun h => ⟨(b_or_f h).1, (of_decide_eq_false (b_or_f h).2)⟩))⟩
          clear hc
          refine wp_skip ?_
          refine block_normal ?_
          refine then_normal ?_
          refine wp_region_lit ?_
          refine sq (opk_val hA243 rfl (r_move (hA243.get rfl)) fun a249 hA249 _ => ?_)
          obtain ⟨hS251, ht252⟩ := ht245
          refine sq (opk_val hA249 rfl (r_addI (hA249.get rfl) rfl hS251) fun a250 hA250 _ => ?_)
          refine sq (opk_val hA250 rfl (r_assign (hA250.get rfl)) fun a253 hA253 _ => ?_)
          refine sq_end ?_
          have hA254 := hA253.keep [(0, Sl.v l_1), (3, .int .i64 (i_14 + 1))] ⟨rfl, rfl, trivial⟩
          have ht255 := ht252 w236    hC242
          have hA256 := hA254.keep [(0, Sl.v l_1), (3, .int .i64 (i_14 + 1))] ⟨rfl, rfl, trivial⟩
          exact then_normal ⟨(i_14 + 1, w236), ⟨hA256, rfl, ht255.1⟩, ht255.2⟩
    · have ht145 := ht137.2 (of_decide_eq_false hc)
      clear hc
      refine wp_exit ?_
      refine then_exit ?_
      refine then_exit ?_
      refine block_hit ?_
      have hA257 := hA143.keep [] trivial
      refine then_normal ?_
      refine wp_seq ?_
      refine wp_region_lit ?_
      refine sq (opk_val hA257 rfl (r_assign rfl) fun a258 hA258 _ => ?_)
      refine sq_end ?_
      have hA259 := hA258.keep [(2, .bool true)] ⟨rfl, trivial⟩
      refine then_normal ?_
      refine wp_ret ?_
      exact res_all (vs := [.bool true]) rfl hA259 ⟨res_of_tmp hA259 rfl, trivial⟩ ht145

end Go.Proofs.Ytpacegmmbabhjaa
