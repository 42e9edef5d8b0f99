/-
  PRINTED BY PROGRAM: for each function its condition (vc), and that this suffices (ok).
-/
import Derived.Test.YtpacegmmbabhjaaGT
namespace Go.Proofs.Ytpacegmmbabhjaa
open Go.RowKit
set_option linter.unusedVariables false

/-- The condition of topiary/topiaryref05.all. -/
def ref05_all.vc (t_1_Kind : Int) (t_1_Name : Str) (t_1_Text : Str) (t_1_Attrs : Sl) (t_1_Kids : Sl) (top_2 : Bool) (root_3 : Bool) (R : Value → World → Prop) (w : World) : Prop :=
∀ (w5 : World) (B_4 : Nat), New w B_4 w5 → Chg [] w w5 →
CallK Try.prog 50 #[.agg #[.int .i64 t_1_Kind, .string (Bs t_1_Name), .string (Bs t_1_Text), Sl.v t_1_Attrs, Sl.v t_1_Kids], .bool top_2, .bool root_3] w5 [B_4] (fun v w20 => ∃ (r_18 : Bool), v = .bool r_18 ∧
((r_18 = false) →
R (.bool false) w20) ∧
((r_18 = true) →
∃ (J_37 : Int → World → Prop) (mu_38 : Int → World → Nat),
J_37 0 w20 ∧
(∀ (i_35 : Int) (w36 : World), J_37 i_35 w36 →
((i_35 < (t_1_Kids.n : Int)) →
∀ (w107 : World), Chg [] w36 w107 →
∃ p_115 : Addr, (((0 : Int) ≤ i_35 ∧ i_35 < (t_1_Kids.n : Int)) ∧ t_1_Kids.a = some p_115) ∧
∃ (x_119_Kind : Int) (x_119_Name : Str) (x_119_Text : Str) (x_119_Attrs : Sl) (x_119_Kids : Sl), (Cells w107 (p_115.add (i_35.toNat * 5)) [.int .i64 x_119_Kind, .string (Bs x_119_Name), .string (Bs x_119_Text), Sl.v x_119_Attrs, Sl.v x_119_Kids]) ∧
∃ (r_126 : Bool), (∀ w' : World, Ext w107 w' → Calls Try.prog 43 #[.agg #[.int .i64 x_119_Kind, .string (Bs x_119_Name), .string (Bs x_119_Text), Sl.v x_119_Attrs, Sl.v x_119_Kids], .bool false, .bool (decide (t_1_Kind = 1))] w' (Ret fun v w'' => Ext w' w'' ∧ v = .bool r_126)) ∧
((r_126 = false) →
∀ (w131 : World), Chg [] w107 w131 →
R (.bool false) w131) ∧
((r_126 = true) →
(I64 (i_35 + 1)) ∧
∀ (w131 : World), Chg [] w107 w131 →
J_37 (i_35 + 1) w131 ∧ mu_38 (i_35 + 1) w131 < mu_38 i_35 w36)) ∧
((¬ (i_35 < (t_1_Kids.n : Int))) →
R (.bool true) w36))))
set_option maxHeartbeats 1000000 in
set_option maxRecDepth 10000 in
theorem ref05_all.ok (t_1_Kind : Int) (t_1_Name : Str) (t_1_Text : Str) (t_1_Attrs : Sl) (t_1_Kids : Sl) (top_2 : Bool) (root_3 : Bool) {R : Value → World → Prop} {w : World} (ht0 : ref05_all.vc t_1_Kind t_1_Name t_1_Text t_1_Attrs t_1_Kids top_2 root_3 R w) : Calls Try.prog 43 #[.agg #[.int .i64 t_1_Kind, .string (Bs t_1_Name), .string (Bs t_1_Text), Sl.v t_1_Attrs, Sl.v t_1_Kids], .bool top_2, .bool root_3] w (Ret R) := by
  refine enter [.agg #[.int .i64 t_1_Kind, .string (Bs t_1_Name), .string (Bs t_1_Text), Sl.v t_1_Attrs, Sl.v t_1_Kids], .bool top_2, .bool root_3] Try.func43 rfl Try.ntmps43 rfl ?_
  intro a0 hA0
  unfold ref05_all.vc at ht0
  refine wp_seq ?_
  refine wp_region_lit ?_
  refine sq (opk_new (fun B => .pointer (some ⟨B, 0, none⟩)) hA0 rfl (r_box (cs := [.int .i64 t_1_Kind, .string (Bs t_1_Name), .string (Bs t_1_Text), Sl.v t_1_Attrs, Sl.v t_1_Kids]) (hA0.get rfl) rfl) fun a6 w5 B_4 hE7 hN8 hB9 hA6 _ => ?_)
  have hN10 : New w B_4 w5 := hN8
  have hC11 : Chg [] w w5 := hE7
  refine sq (opk_val hA6 rfl (r_assign rfl) fun a12 hA12 _ => ?_)
  refine sq_end ?_
  have hA13 := hA12.keep [(1, .bool top_2), (2, .bool root_3), (3, .pointer (some ⟨B_4, 0, none⟩))] ⟨rfl, rfl, rfl, trivial⟩
  refine then_normal ?_
  refine wp_seq ?_
  refine wp_seq ?_
  refine wp_region_lit ?_
  refine sq (opk_val hA13 rfl (r_loadN (cs := [.int .i64 t_1_Kind, .string (Bs t_1_Name), .string (Bs t_1_Text), Sl.v t_1_Attrs, Sl.v t_1_Kids]) Try.underlying26 rfl ti_26 (hA13.get rfl) (hB9.part 0 _ rfl)) fun a14 hA14 _ => ?_)
  refine sq (opk_val hA14 rfl (r_move (hA14.get rfl)) fun a15 hA15 _ => ?_)
  refine sq (opk_val hA15 rfl (r_move (hA15.get rfl)) fun a16 hA16 _ => ?_)
  have ht17 := ht0 w5 B_4 hN10  hC11
  refine sq (opk_call hA16 rfl (r_call (args := #[.agg #[.int .i64 t_1_Kind, .string (Bs t_1_Name), .string (Bs t_1_Text), Sl.v t_1_Attrs, Sl.v t_1_Kids], .bool top_2, .bool root_3]) Try.func50 (by decide) rfl (map_arr (ml_cons (hA16.get rfl) (ml_cons (hA16.get rfl) (ml_cons (hA16.get rfl) ml_nil)))) rfl) ht17 fun a19 v25 w20 hA19 _ hn22 hz23 hK24 => ?_)
  obtain ⟨r_18, rfl, ht21⟩ := hK24
  have hB26 := hB9.kept hn22 (.head _)
  refine sq (opk_val hA19 rfl (r_not (hA19.get rfl)) fun a27 hA27 _ => ?_)
  refine sq_end ?_
  have hA28 := hA27.keep [(3, .pointer (some ⟨B_4, 0, none⟩)), (12, .bool (!r_18))] ⟨rfl, rfl, trivial⟩
  refine then_normal ?_
  refine wp_cond_split (hA28.get rfl) (fun hc => ?_) (fun hc => ?_)
  · have ht29 := ht21.1 (b_not_t hc)
    clear hc
    refine wp_seq ?_
    refine wp_region_lit ?_
    refine sq (opk_val hA28 rfl (r_assign rfl) fun a31 hA31 _ => ?_)
    refine sq_end ?_
    have hA32 := hA31.keep [(6, .bool false)] ⟨rfl, trivial⟩
    refine then_normal ?_
    refine wp_ret ?_
    refine then_ret ?_
    exact res_all (vs := [.bool false]) rfl hA32 ⟨res_of_tmp hA32 rfl, trivial⟩ ht29
  · have ht30 := ht21.2 (b_not_f hc)
    clear hc
    refine wp_skip ?_
    refine then_normal ?_
    refine wp_seq ?_
    refine wp_seq ?_
    refine wp_region_lit ?_
    refine sq (opk_val hA28 rfl (r_assign rfl) fun a33 hA33 _ => ?_)
    refine sq_end ?_
    have hA34 := hA33.keep [(3, .pointer (some ⟨B_4, 0, none⟩)), (7, .int .i64 0)] ⟨rfl, rfl, trivial⟩
    refine then_normal ?_
    refine wp_block ?_
    obtain ⟨J_37, mu_38, h096, ht95⟩ := ht30
    refine wp_loop_st (σ := Int × World) (fun s a w => Ag 30 a [(3, .pointer (some ⟨B_4, 0, none⟩)), (7, .int .i64 s.1)] ∧ Box w B_4 26 [.int .i64 t_1_Kind, .string (Bs t_1_Name), .string (Bs t_1_Text), Sl.v t_1_Attrs, Sl.v t_1_Kids] ∧ w = s.2 ∧ J_37 s.1 s.2) (fun s => mu_38 s.1 s.2) (0, w20) ⟨hA34.keep [(3, .pointer (some ⟨B_4, 0, none⟩)), (7, .int .i64 0)] ⟨rfl, rfl, trivial⟩, hB26, rfl, h096⟩ ?_
    rintro ⟨i_35, w36⟩ a93 w_ ⟨hA93, hB94, hw_, hJ98⟩
    have hw_ : w36 = w_ := hw_.symm
    subst hw_
    have ht97 := ht95 i_35 _ hJ98
    refine wp_seq ?_
    refine wp_seq ?_
    refine wp_region_lit ?_
    refine sq (opk_val hA93 rfl (r_move (hA93.get rfl)) fun a99 hA99 _ => ?_)
    refine sq (opk_val hA99 rfl (r_fieldAddr (hA99.get rfl) Try.underlying26 rfl ti_24 (by decide)) fun a100 hA100 _ => ?_)
    refine sq (opk_val hA100 rfl (r_load1 Try.underlying24 rfl (hA100.get rfl) (hB94.cell 4 _ rfl)) fun a101 hA101 _ => ?_)
    refine sq (opk_val hA101 rfl (r_len (hA101.get rfl) Try.underlying24) fun a102 hA102 _ => ?_)
    refine sq (opk_val hA102 rfl (r_lss (hA102.get rfl) (hA102.get rfl)) fun a103 hA103 _ => ?_)
    refine sq_end ?_
    have hA104 := hA103.keep [(3, .pointer (some ⟨B_4, 0, none⟩)), (7, .int .i64 i_35), (17, .bool (decide (i_35 < (t_1_Kids.n : Int))))] ⟨rfl, rfl, rfl, trivial⟩
    refine then_normal ?_
    refine wp_cond_split (hA104.get rfl) (fun hc => ?_) (fun hc => ?_)
    · have ht105 := ht97.1 (of_decide_eq_true hc)
      clear hc
      refine wp_skip ?_
      refine then_normal ?_
      refine wp_seq ?_
      refine wp_block ?_
      refine wp_seq ?_
      refine draw' (by kernel_rfl) fun w107 hE108 => ?_
      have hB109 := hB94.ext hE108
      have hC110 : Chg [] w36 w107 := hE108
      have ht111 := ht105 w107    hC110
      obtain ⟨p_115, hp116, ht117⟩ := ht111
      obtain ⟨x_119_Kind, x_119_Name, x_119_Text, x_119_Attrs, x_119_Kids, hx120, ht121⟩ := ht117
      obtain ⟨r_126, hc127, ht128⟩ := ht121
      refine par (D := [[], [0], [], [0, 1, 2], [0, 1, 2, 3], [], [5], [5, 6], [0, 1, 2, 3, 4, 5, 6, 7], [0, 1, 2, 3, 4, 5, 6, 7, 8]]) (S := [0, 1, 2, 3, 4, 5, 6, 7, 8, 9]) (F := []) (V := VL [(0, fun v _ => v = .pointer (some ⟨B_4, 4, none⟩)), (1, fun v _ => v = Sl.v t_1_Kids), (2, fun v _ => v = .int .i64 i_35), (3, fun v _ => v = .pointer (some (p_115.add (i_35.toNat * 5)))), (4, fun v _ => v = .agg #[.int .i64 x_119_Kind, .string (Bs x_119_Name), .string (Bs x_119_Text), Sl.v x_119_Attrs, Sl.v x_119_Kids]), (5, fun v _ => v = .pointer (some ⟨B_4, 0, none⟩)), (6, fun v _ => v = .int .i64 t_1_Kind), (7, fun v _ => v = .bool (decide (t_1_Kind = 1))), (8, fun v _ => v = .bool r_126), (9, fun v _ => v = .bool (!r_126))]) hA104 (by kernel_rfl) ⟨fun _ _ _ _ h => by first | exact h | (change _ = _ at h; change _ = _; exact h), fun _ _ _ _ h => by first | exact h | (change _ = _ at h; change _ = _; exact h), fun _ _ _ _ h => by first | exact h | (change _ = _ at h; change _ = _; exact h), fun _ _ _ _ h => by first | exact h | (change _ = _ at h; change _ = _; exact h), fun _ _ _ _ h => by first | exact h | (change _ = _ at h; change _ = _; exact h), fun _ _ _ _ h => by first | exact h | (change _ = _ at h; change _ = _; exact h), fun _ _ _ _ h => by first | exact h | (change _ = _ at h; change _ = _; exact h), fun _ _ _ _ h => by first | exact h | (change _ = _ at h; change _ = _; exact h), fun _ _ _ _ h => by first | exact h | (change _ = _ at h; change _ = _; exact h), fun _ _ _ _ h => by first | exact h | (change _ = _ at h; change _ = _; exact h), trivial⟩ ⟨?_, ?_, ?_, ?_, ?_, ?_, ?_, ?_, ?_, ?_, trivial⟩ ?_
      · intro a w hT
        have hAp := hT.ag hA104 [(3, .pointer (some ⟨B_4, 0, none⟩))] ⟨rfl, trivial⟩ (by kernel_rfl)
        exact opk_val hAp rfl (r_fieldAddr (hAp.get rfl) Try.underlying26 rfl ti_24 (by decide)) fun _ _ e => ⟨_, e, Chg.refl _ _, fun _ => Eq.refl _⟩
      · intro a w hT
        have hAp := hT.ag hA104 [] trivial (by kernel_rfl)
        have e112 : a.tmps.getD 20 undef = .pointer (some ⟨B_4, 4, none⟩) := hT.vals 0 rfl 20 rfl
        have hAp := hAp.add e112
        exact opk_val hAp rfl (r_load1 Try.underlying24 rfl (hAp.get rfl) ((hB109.ext hT.chg).cell 4 _ rfl)) fun _ _ e => ⟨_, e, Chg.refl _ _, fun _ => Eq.refl _⟩
      · intro a w hT
        have hAp := hT.ag hA104 [(7, .int .i64 i_35)] ⟨rfl, trivial⟩ (by kernel_rfl)
        exact opk_val hAp rfl (r_move (hAp.get rfl)) fun _ _ e => ⟨_, e, Chg.refl _ _, fun _ => Eq.refl _⟩
      · intro a w hT
        have hAp := hT.ag hA104 [] trivial (by kernel_rfl)
        have e113 : a.tmps.getD 21 undef = Sl.v t_1_Kids := hT.vals 1 rfl 21 rfl
        have hAp := hAp.add e113
        have e114 : a.tmps.getD 22 undef = .int .i64 i_35 := hT.vals 2 rfl 22 rfl
        have hAp := hAp.add e114
        exact opk_val hAp rfl (r_indexAddr (hAp.get rfl) (hAp.get rfl) Try.underlying24 ti_26 hp116.1 hp116.2) fun _ _ e => ⟨_, e, Chg.refl _ _, fun _ => Eq.refl _⟩
      · intro a w hT
        have hAp := hT.ag hA104 [] trivial (by kernel_rfl)
        have e118 : a.tmps.getD 23 undef = .pointer (some (p_115.add (i_35.toNat * 5))) := hT.vals 3 rfl 23 rfl
        have hAp := hAp.add e118
        exact opk_val hAp rfl (r_loadN Try.underlying26 rfl ti_26 (hAp.get rfl) (hx120.ext hT.chg)) fun _ _ e => ⟨_, e, Chg.refl _ _, fun _ => Eq.refl _⟩
      · intro a w hT
        have hAp := hT.ag hA104 [(3, .pointer (some ⟨B_4, 0, none⟩))] ⟨rfl, trivial⟩ (by kernel_rfl)
        exact opk_val hAp rfl (r_fieldAddr (hAp.get rfl) Try.underlying26 rfl ti_3 (by decide)) fun _ _ e => ⟨_, e, Chg.refl _ _, fun _ => Eq.refl _⟩
      · intro a w hT
        have hAp := hT.ag hA104 [] trivial (by kernel_rfl)
        have e122 : a.tmps.getD 25 undef = .pointer (some ⟨B_4, 0, none⟩) := hT.vals 5 rfl 25 rfl
        have hAp := hAp.add e122
        exact opk_val hAp rfl (r_load1 Try.underlying3 rfl (hAp.get rfl) ((hB109.ext hT.chg).cell 0 _ rfl)) fun _ _ e => ⟨_, e, Chg.refl _ _, fun _ => Eq.refl _⟩
      · intro a w hT
        have hAp := hT.ag hA104 [] trivial (by kernel_rfl)
        have e123 : a.tmps.getD 26 undef = .int .i64 t_1_Kind := hT.vals 6 rfl 26 rfl
        have hAp := hAp.add e123
        exact opk_val hAp rfl (r_eql (hAp.get rfl) rfl) fun _ _ e => ⟨_, e, Chg.refl _ _, fun _ => Eq.refl _⟩
      · intro a w hT
        have hAp := hT.ag hA104 [] trivial (by kernel_rfl)
        have e124 : a.tmps.getD 24 undef = .agg #[.int .i64 x_119_Kind, .string (Bs x_119_Name), .string (Bs x_119_Text), Sl.v x_119_Attrs, Sl.v x_119_Kids] := hT.vals 4 rfl 24 rfl
        have hAp := hAp.add e124
        have e125 : a.tmps.getD 27 undef = .bool (decide (t_1_Kind = 1)) := hT.vals 7 rfl 27 rfl
        have hAp := hAp.add e125
        exact opk_callX hAp rfl (r_call (args := #[.agg #[.int .i64 x_119_Kind, .string (Bs x_119_Name), .string (Bs x_119_Text), Sl.v x_119_Attrs, Sl.v x_119_Kids], .bool false, .bool (decide (t_1_Kind = 1))]) Try.func43 (by decide) rfl (map_arr (ml_cons (hAp.get rfl) (ml_cons rfl (ml_cons (hAp.get rfl) ml_nil)))) rfl) (hc127 w hT.chg) fun _ _ _ _ e hR => ⟨_, e, hR.1, fun _ => hR.2⟩
      · intro a w hT
        have hAp := hT.ag hA104 [] trivial (by kernel_rfl)
        have e129 : a.tmps.getD 28 undef = .bool r_126 := hT.vals 8 rfl 28 rfl
        have hAp := hAp.add e129
        exact opk_val hAp rfl (r_not (hAp.get rfl)) fun _ _ e => ⟨_, e, Chg.refl _ _, fun _ => Eq.refl _⟩
      · intro a130 w131 hE132 hag133 hv134
        have hA130 := hag133 [(3, .pointer (some ⟨B_4, 0, none⟩)), (7, .int .i64 i_35)] ⟨rfl, rfl, trivial⟩ (by kernel_rfl)
        have e136 : a130.tmps.getD 29 undef = .bool (!r_126) := hv134 9 rfl 29 rfl
        have hA137 := hA130.add e136
        have hB138 := hB109.ext hE132
        have hC139 : Chg [] w107 w131 := hE132
        refine PR_end (by kernel_rfl) ?_
        have hA140 := hA137.keep [(3, .pointer (some ⟨B_4, 0, none⟩)), (7, .int .i64 i_35), (29, .bool (!r_126))] ⟨rfl, rfl, rfl, trivial⟩
        refine then_normal ?_
        refine wp_cond_split (hA140.get rfl) (fun hc => ?_) (fun hc => ?_)
        · have ht141 := ht128.1 (b_not_t hc)
          clear hc
          refine wp_seq ?_
          refine wp_region_lit ?_
          refine sq (opk_val hA140 rfl (r_assign rfl) fun a143 hA143 _ => ?_)
          refine sq_end ?_
          have hA144 := hA143.keep [(6, .bool false)] ⟨rfl, trivial⟩
          refine then_normal ?_
          refine wp_ret ?_
          refine block_ret ?_
          refine then_ret ?_
          refine then_ret ?_
          refine block_ret ?_
          refine then_ret ?_
          have ht145 := ht141 w131    hC139
          exact res_all (vs := [.bool false]) rfl hA144 ⟨res_of_tmp hA144 rfl, trivial⟩ ht145
        · have ht142 := ht128.2 (b_not_f hc)
          clear hc
          refine wp_skip ?_
          refine block_normal ?_
          refine then_normal ?_
          refine wp_region_lit ?_
          refine sq (opk_val hA140 rfl (r_move (hA140.get rfl)) fun a146 hA146 _ => ?_)
          obtain ⟨hS148, ht149⟩ := ht142
          refine sq (opk_val hA146 rfl (r_addI (hA146.get rfl) rfl hS148) fun a147 hA147 _ => ?_)
          refine sq (opk_val hA147 rfl (r_assign (hA147.get rfl)) fun a150 hA150 _ => ?_)
          refine sq_end ?_
          have hA151 := hA150.keep [(3, .pointer (some ⟨B_4, 0, none⟩)), (7, .int .i64 (i_35 + 1))] ⟨rfl, rfl, trivial⟩
          have ht152 := ht149 w131    hC139
          have hA153 := hA151.keep [(3, .pointer (some ⟨B_4, 0, none⟩)), (7, .int .i64 (i_35 + 1))] ⟨rfl, rfl, trivial⟩
          exact then_normal ⟨(i_35 + 1, w131), ⟨hA153, hB138, rfl, ht152.1⟩, ht152.2⟩
    · have ht106 := ht97.2 (of_decide_eq_false hc)
      clear hc
      refine wp_exit ?_
      refine then_exit ?_
      refine then_exit ?_
      refine block_hit ?_
      have hA154 := hA104.keep [] trivial
      refine then_normal ?_
      refine wp_seq ?_
      refine wp_region_lit ?_
      refine sq (opk_val hA154 rfl (r_assign rfl) fun a155 hA155 _ => ?_)
      refine sq_end ?_
      have hA156 := hA155.keep [(6, .bool true)] ⟨rfl, trivial⟩
      refine then_normal ?_
      refine wp_ret ?_
      exact res_all (vs := [.bool true]) rfl hA156 ⟨res_of_tmp hA156 rfl, trivial⟩ ht106

/-- The condition of topiary/topiaryref04.Blank. -/
def ref04_Blank.vc (c_1 : Int) (R : Value → World → Prop) (w : World) : Prop :=
R (.bool ((((decide (c_1 = 9)) || (decide (c_1 = 10))) || (decide (c_1 = 12))) || (decide (c_1 = 32)))) w
set_option maxHeartbeats 1000000 in
set_option maxRecDepth 10000 in
theorem ref04_Blank.ok (c_1 : Int) {R : Value → World → Prop} {w : World} (ht0 : ref04_Blank.vc c_1 R w) : Calls Try.prog 44 #[.int .u8 c_1] w (Ret R) := by
  refine enter [.int .u8 c_1] Try.func44 rfl Try.ntmps44 rfl ?_
  intro a0 hA0
  unfold ref04_Blank.vc at ht0
  refine wp_seq ?_
  refine wp_region_lit ?_
  refine sq (opk_val hA0 rfl (r_assign rfl) fun a2 hA2 _ => ?_)
  refine sq_end ?_
  have hA3 := hA2.keep [(0, .int .u8 c_1)] ⟨rfl, trivial⟩
  refine then_normal ?_
  refine wp_seq ?_
  refine wp_region_lit ?_
  refine sq (opk_val hA3 rfl (r_move (hA3.get rfl)) fun a4 hA4 _ => ?_)
  refine sq (opk_val hA4 rfl (r_eql (hA4.get rfl) rfl) fun a5 hA5 _ => ?_)
  refine sq (opk_val hA5 rfl (r_move (hA5.get rfl)) fun a6 hA6 _ => ?_)
  refine sq (opk_gval hA6 rfl rfl (g := true) (e := (decide (c_1 = 9))) rfl (fun hg => r_move (hA6.get rfl)) fun a7 hA7 _ => ?_)
  refine sq (opk_gval hA7 rfl rfl (g := true) (e := (decide (c_1 = 9))) rfl (fun hg => r_eql (cv_get (hA7.get rfl) hg) rfl) fun a8 hA8 _ => ?_)
  refine sq (opk_val hA8 rfl (r_pick_or (g := (true && ((decide (c_1 = 9)) == false))) (hA8.get rfl) (hA8.get rfl) (fun he => g_mkf rfl he)) fun a9 hA9 _ => ?_)
  refine sq (opk_val hA9 rfl (r_move (hA9.get rfl)) fun a10 hA10 _ => ?_)
  refine sq (opk_gval hA10 rfl rfl (g := true) (e := ((decide (c_1 = 9)) || (decide (c_1 = 10)))) rfl (fun hg => r_move (hA10.get rfl)) fun a11 hA11 _ => ?_)
  refine sq (opk_gval hA11 rfl rfl (g := true) (e := ((decide (c_1 = 9)) || (decide (c_1 = 10)))) rfl (fun hg => r_eql (cv_get (hA11.get rfl) hg) rfl) fun a12 hA12 _ => ?_)
  refine sq (opk_val hA12 rfl (r_pick_or (g := (true && (((decide (c_1 = 9)) || (decide (c_1 = 10))) == false))) (hA12.get rfl) (hA12.get rfl) (fun he => g_mkf rfl he)) fun a13 hA13 _ => ?_)
  refine sq (opk_val hA13 rfl (r_move (hA13.get rfl)) fun a14 hA14 _ => ?_)
  refine sq (opk_gval hA14 rfl rfl (g := true) (e := (((decide (c_1 = 9)) || (decide (c_1 = 10))) || (decide (c_1 = 12)))) rfl (fun hg => r_move (hA14.get rfl)) fun a15 hA15 _ => ?_)
  refine sq (opk_gval hA15 rfl rfl (g := true) (e := (((decide (c_1 = 9)) || (decide (c_1 = 10))) || (decide (c_1 = 12)))) rfl (fun hg => r_eql (cv_get (hA15.get rfl) hg) rfl) fun a16 hA16 _ => ?_)
  refine sq (opk_val hA16 rfl (r_pick_or (g := (true && ((((decide (c_1 = 9)) || (decide (c_1 = 10))) || (decide (c_1 = 12))) == false))) (hA16.get rfl) (hA16.get rfl) (fun he => g_mkf rfl he)) fun a17 hA17 _ => ?_)
  refine sq (opk_val hA17 rfl (r_assign (hA17.get rfl)) fun a18 hA18 _ => ?_)
  refine sq_end ?_
  have hA19 := hA18.keep [(2, .bool ((((decide (c_1 = 9)) || (decide (c_1 = 10))) || (decide (c_1 = 12))) || (decide (c_1 = 32))))] ⟨rfl, trivial⟩
  refine then_normal ?_
  refine wp_ret ?_
  exact res_all (vs := [.bool ((((decide (c_1 = 9)) || (decide (c_1 = 10))) || (decide (c_1 = 12))) || (decide (c_1 = 32)))]) rfl hA19 ⟨res_of_tmp hA19 rfl, trivial⟩ ht0

/-- The condition of topiary/topiaryref05.Node. -/
def ref05_Node.vc (a_1_Kind : Int) (a_1_Name : Str) (a_1_Text : Str) (a_1_Attrs : Sl) (a_1_Kids : Sl) (b_2_Kind : Int) (b_2_Name : Str) (b_2_Text : Str) (b_2_Attrs : Sl) (b_2_Kids : Sl) (R : Value → World → Prop) (w : World) : Prop :=
∀ (w12 : World) (B_3 : Nat) (B_11 : Nat), New w B_3 w12 → New w B_11 w12 → B_3 ≠ B_11 → Chg [] w w12 →
CallK Try.prog 46 #[.bool (decide (a_1_Kind < b_2_Kind)), .bool (decide (b_2_Kind < a_1_Kind))] w12 [B_3, B_11] (fun v w37 => ∃ (r_35 : Int), v = .int .i64 r_35 ∧
∃ J_76 : Int → World → Prop,
(((r_35 = 0) →
CallK Try.prog 46 #[.bool (Op.bytesLess a_1_Name b_2_Name), .bool (!((Op.bytesLess a_1_Name b_2_Name) || (decide (a_1_Name = b_2_Name))))] w37 [B_3, B_11] (fun v w93 => ∃ (r_91 : Int), v = .int .i64 r_91 ∧
J_76 r_91 w93)) ∧
((¬ (r_35 = 0)) →
J_76 r_35 w37)) ∧
(∀ (c_74 : Int) (w75 : World), J_76 c_74 w75 →
∃ J_138 : Int → World → Prop,
(((c_74 = 0) →
CallK Try.prog 46 #[.bool (Op.bytesLess a_1_Text b_2_Text), .bool (!((Op.bytesLess a_1_Text b_2_Text) || (decide (a_1_Text = b_2_Text))))] w75 [B_3, B_11] (fun v w155 => ∃ (r_153 : Int), v = .int .i64 r_153 ∧
J_138 r_153 w155)) ∧
((¬ (c_74 = 0)) →
J_138 c_74 w75)) ∧
(∀ (c_136 : Int) (w137 : World), J_138 c_136 w137 →
∃ (J_176 : Int → Int → World → Prop) (mu_177 : Int → Int → World → Nat),
J_176 c_136 0 w137 ∧
(∀ (c_173 : Int) (i_174 : Int) (w175 : World), J_176 c_173 i_174 w175 →
((((c_173 = 0) ∧ (i_174 < (a_1_Attrs.n : Int))) ∧ (i_174 < (b_2_Attrs.n : Int))) →
∀ (w400 : World), Chg [] w175 w400 →
∃ p_406 : Addr, (((0 : Int) ≤ i_174 ∧ i_174 < (a_1_Attrs.n : Int)) ∧ a_1_Attrs.a = some p_406) ∧
∃ (x_409_Name : Str) (x_409_Value : Str), (Cells w400 (p_406.add (i_174.toNat * 2)) [.string (Bs x_409_Name), .string (Bs x_409_Value)]) ∧
∃ p_412 : Addr, (((0 : Int) ≤ i_174 ∧ i_174 < (b_2_Attrs.n : Int)) ∧ b_2_Attrs.a = some p_412) ∧
∃ (x_415_Name : Str) (x_415_Value : Str), (Cells w400 (p_412.add (i_174.toNat * 2)) [.string (Bs x_415_Name), .string (Bs x_415_Value)]) ∧
∀ (w437 : World) (B_418 : Nat) (B_423 : Nat), Ext w400 w437 → w400.heap.size ≤ B_418 → Box w437 B_418 33 [.string (Bs ([] : Str)), .string (Bs ([] : Str))] → w400.heap.size ≤ B_423 → Box w437 B_423 33 [.string (Bs ([] : Str)), .string (Bs ([] : Str))] → 
∀ (w505 : World), Chg [B_423, B_418] w437 w505 →
CallK Try.prog 46 #[.bool ((Op.bytesLess x_409_Name x_415_Name) || ((decide (x_409_Name = x_415_Name)) && (Op.bytesLess x_409_Value x_415_Value))), .bool ((!((Op.bytesLess x_409_Name x_415_Name) || (decide (x_409_Name = x_415_Name)))) || ((decide (x_409_Name = x_415_Name)) && (!((Op.bytesLess x_409_Value x_415_Value) || (decide (x_409_Value = x_415_Value))))))] w505 [B_3, B_11, B_418, B_423] (fun v w556 => ∃ (r_554 : Int), v = .int .i64 r_554 ∧
(I64 (i_174 + 1)) ∧
J_176 r_554 (i_174 + 1) w556 ∧ mu_177 r_554 (i_174 + 1) w556 < mu_177 c_173 i_174 w175)) ∧
((((¬ (c_173 = 0)) ∨ (¬ (i_174 < (a_1_Attrs.n : Int)))) ∨ (¬ (i_174 < (b_2_Attrs.n : Int)))) →
((c_173 = 0) →
CallK Try.prog 46 #[.bool (decide ((a_1_Attrs.n : Int) < (b_2_Attrs.n : Int))), .bool (decide ((b_2_Attrs.n : Int) < (a_1_Attrs.n : Int)))] w175 [B_3, B_11] (fun v w597 => ∃ (r_595 : Int), v = .int .i64 r_595 ∧
R (.int .i64 r_595) w597)) ∧
((¬ (c_173 = 0)) →
R (.int .i64 c_173) w175))))))
set_option maxHeartbeats 1000000 in
set_option maxRecDepth 10000 in
theorem ref05_Node.ok (a_1_Kind : Int) (a_1_Name : Str) (a_1_Text : Str) (a_1_Attrs : Sl) (a_1_Kids : Sl) (b_2_Kind : Int) (b_2_Name : Str) (b_2_Text : Str) (b_2_Attrs : Sl) (b_2_Kids : Sl) {R : Value → World → Prop} {w : World} (ht0 : ref05_Node.vc a_1_Kind a_1_Name a_1_Text a_1_Attrs a_1_Kids b_2_Kind b_2_Name b_2_Text b_2_Attrs b_2_Kids R w) : Calls Try.prog 45 #[.agg #[.int .i64 a_1_Kind, .string (Bs a_1_Name), .string (Bs a_1_Text), Sl.v a_1_Attrs, Sl.v a_1_Kids], .agg #[.int .i64 b_2_Kind, .string (Bs b_2_Name), .string (Bs b_2_Text), Sl.v b_2_Attrs, Sl.v b_2_Kids]] w (Ret R) := by
  refine enter [.agg #[.int .i64 a_1_Kind, .string (Bs a_1_Name), .string (Bs a_1_Text), Sl.v a_1_Attrs, Sl.v a_1_Kids], .agg #[.int .i64 b_2_Kind, .string (Bs b_2_Name), .string (Bs b_2_Text), Sl.v b_2_Attrs, Sl.v b_2_Kids]] Try.func45 rfl Try.ntmps45 rfl ?_
  intro a0 hA0
  unfold ref05_Node.vc at ht0
  refine wp_seq ?_
  refine wp_region_lit ?_
  refine sq (opk_new (fun B => .pointer (some ⟨B, 0, none⟩)) hA0 rfl (r_box (cs := [.int .i64 a_1_Kind, .string (Bs a_1_Name), .string (Bs a_1_Text), Sl.v a_1_Attrs, Sl.v a_1_Kids]) (hA0.get rfl) rfl) fun a5 w4 B_3 hE6 hN7 hB8 hA5 _ => ?_)
  have hN9 : New w B_3 w4 := hN7
  have hC10 : Chg [] w w4 := hE6
  refine sq (opk_new (fun B => .pointer (some ⟨B, 0, none⟩)) hA5 rfl (r_box (cs := [.int .i64 b_2_Kind, .string (Bs b_2_Name), .string (Bs b_2_Text), Sl.v b_2_Attrs, Sl.v b_2_Kids]) (hA5.get rfl) rfl) fun a13 w12 B_11 hE14 hN15 hB16 hA13 _ => ?_)
  have hne17 : B_3 ≠ B_11 := Nat.ne_of_lt (Nat.lt_of_lt_of_le hB8.lt hN15.ge)
  have hN18 := New.of hC10 hN15
  have hB19 := hB8.ext hE14
  have hC20 := hC10.more hE14
  have hN21 := hN9.up hE14.size
  refine sq (opk_val hA13 rfl (r_assign rfl) fun a22 hA22 _ => ?_)
  refine sq_end ?_
  have hA23 := hA22.keep [(2, .pointer (some ⟨B_3, 0, none⟩)), (3, .pointer (some ⟨B_11, 0, none⟩))] ⟨rfl, rfl, trivial⟩
  refine then_normal ?_
  refine wp_seq ?_
  refine wp_region_lit ?_
  refine sq (opk_val hA23 rfl (r_fieldAddr (hA23.get rfl) Try.underlying26 rfl ti_3 (by decide)) fun a24 hA24 _ => ?_)
  refine sq (opk_val hA24 rfl (r_load1 Try.underlying3 rfl (hA24.get rfl) (hB19.cell 0 _ rfl)) fun a25 hA25 _ => ?_)
  refine sq (opk_val hA25 rfl (r_fieldAddr (hA25.get rfl) Try.underlying26 rfl ti_3 (by decide)) fun a26 hA26 _ => ?_)
  refine sq (opk_val hA26 rfl (r_load1 Try.underlying3 rfl (hA26.get rfl) (hB16.cell 0 _ rfl)) fun a27 hA27 _ => ?_)
  refine sq (opk_val hA27 rfl (r_lss (hA27.get rfl) (hA27.get rfl)) fun a28 hA28 _ => ?_)
  refine sq (opk_val hA28 rfl (r_fieldAddr (hA28.get rfl) Try.underlying26 rfl ti_3 (by decide)) fun a29 hA29 _ => ?_)
  refine sq (opk_val hA29 rfl (r_load1 Try.underlying3 rfl (hA29.get rfl) (hB19.cell 0 _ rfl)) fun a30 hA30 _ => ?_)
  refine sq (opk_val hA30 rfl (r_fieldAddr (hA30.get rfl) Try.underlying26 rfl ti_3 (by decide)) fun a31 hA31 _ => ?_)
  refine sq (opk_val hA31 rfl (r_load1 Try.underlying3 rfl (hA31.get rfl) (hB16.cell 0 _ rfl)) fun a32 hA32 _ => ?_)
  refine sq (opk_val hA32 rfl (r_gtr (hA32.get rfl) (hA32.get rfl)) fun a33 hA33 _ => ?_)
  have ht34 := ht0 w12 B_3 B_11 hN21 hN18 hne17 hC20
  refine sq (opk_call hA33 rfl (r_call (args := #[.bool (decide (a_1_Kind < b_2_Kind)), .bool (decide (b_2_Kind < a_1_Kind))]) Try.func46 (by decide) rfl (map_arr (ml_cons (hA33.get rfl) (ml_cons (hA33.get rfl) ml_nil))) rfl) ht34 fun a36 v42 w37 hA36 _ hn39 hz40 hK41 => ?_)
  obtain ⟨r_35, rfl, ht38⟩ := hK41
  have hB43 := hB19.kept hn39 (.head _)
  have hB44 := hB16.kept hn39 (.tail _ (.head _))
  refine sq (opk_val hA36 rfl (r_assign (hA36.get rfl)) fun a45 hA45 _ => ?_)
  refine sq_end ?_
  have hA46 := hA45.keep [(2, .pointer (some ⟨B_3, 0, none⟩)), (3, .pointer (some ⟨B_11, 0, none⟩)), (5, .int .i64 r_35)] ⟨rfl, rfl, rfl, trivial⟩
  refine then_normal ?_
  refine wp_seq ?_
  refine wp_seq ?_
  refine wp_region_lit ?_
  refine sq (opk_val hA46 rfl (r_move (hA46.get rfl)) fun a47 hA47 _ => ?_)
  refine sq (opk_val hA47 rfl (r_eql (hA47.get rfl) rfl) fun a48 hA48 _ => ?_)
  refine sq_end ?_
  have hA49 := hA48.keep [(2, .pointer (some ⟨B_3, 0, none⟩)), (3, .pointer (some ⟨B_11, 0, none⟩)), (5, .int .i64 r_35), (21, .bool (decide (r_35 = 0)))] ⟨rfl, rfl, rfl, rfl, trivial⟩
  refine then_normal ?_
  obtain ⟨J_76, ht77, hr78⟩ := ht38
  refine wp_meet (fun a w => ∃ c_74 : Int, Ag 131 a [(2, .pointer (some ⟨B_3, 0, none⟩)), (3, .pointer (some ⟨B_11, 0, none⟩)), (5, .int .i64 c_74)] ∧ Box w B_3 26 [.int .i64 a_1_Kind, .string (Bs a_1_Name), .string (Bs a_1_Text), Sl.v a_1_Attrs, Sl.v a_1_Kids] ∧ Box w B_11 26 [.int .i64 b_2_Kind, .string (Bs b_2_Name), .string (Bs b_2_Text), Sl.v b_2_Attrs, Sl.v b_2_Kids] ∧ J_76 c_74 w) ?_ ?_
  · refine wp_cond_split (hA49.get rfl) (fun hc => ?_) (fun hc => ?_)
    · have ht79 := ht77.1 (of_decide_eq_true hc)
      clear hc
      refine wp_region_lit ?_
      refine sq (opk_val hA49 rfl (r_fieldAddr (hA49.get rfl) Try.underlying26 rfl ti_9 (by decide)) fun a81 hA81 _ => ?_)
      refine sq (opk_val hA81 rfl (r_load1 Try.underlying9 rfl (hA81.get rfl) (hB43.cell 1 _ rfl)) fun a82 hA82 _ => ?_)
      refine sq (opk_val hA82 rfl (r_fieldAddr (hA82.get rfl) Try.underlying26 rfl ti_9 (by decide)) fun a83 hA83 _ => ?_)
      refine sq (opk_val hA83 rfl (r_load1 Try.underlying9 rfl (hA83.get rfl) (hB44.cell 1 _ rfl)) fun a84 hA84 _ => ?_)
      refine sq (opk_val hA84 rfl (r_slss (hA84.get rfl) (hA84.get rfl)) fun a85 hA85 _ => ?_)
      refine sq (opk_val hA85 rfl (r_fieldAddr (hA85.get rfl) Try.underlying26 rfl ti_9 (by decide)) fun a86 hA86 _ => ?_)
      refine sq (opk_val hA86 rfl (r_load1 Try.underlying9 rfl (hA86.get rfl) (hB43.cell 1 _ rfl)) fun a87 hA87 _ => ?_)
      refine sq (opk_val hA87 rfl (r_fieldAddr (hA87.get rfl) Try.underlying26 rfl ti_9 (by decide)) fun a88 hA88 _ => ?_)
      refine sq (opk_val hA88 rfl (r_load1 Try.underlying9 rfl (hA88.get rfl) (hB44.cell 1 _ rfl)) fun a89 hA89 _ => ?_)
      refine sq (opk_val hA89 rfl (r_sgtr (hA89.get rfl) (hA89.get rfl)) fun a90 hA90 _ => ?_)
      refine sq (opk_call hA90 rfl (r_call (args := #[.bool (Op.bytesLess a_1_Name b_2_Name), .bool (!((Op.bytesLess a_1_Name b_2_Name) || (decide (a_1_Name = b_2_Name))))]) Try.func46 (by decide) rfl (map_arr (ml_cons (hA90.get rfl) (ml_cons (hA90.get rfl) ml_nil))) rfl) ht79 fun a92 v98 w93 hA92 _ hn95 hz96 hK97 => ?_)
      obtain ⟨r_91, rfl, ht94⟩ := hK97
      have hB99 := hB43.kept hn95 (.head _)
      have hB100 := hB44.kept hn95 (.tail _ (.head _))
      refine sq (opk_val hA92 rfl (r_assign (hA92.get rfl)) fun a101 hA101 _ => ?_)
      refine sq_end ?_
      have hA102 := hA101.keep [(2, .pointer (some ⟨B_3, 0, none⟩)), (3, .pointer (some ⟨B_11, 0, none⟩)), (5, .int .i64 r_91)] ⟨rfl, rfl, rfl, trivial⟩
      have hA103 := hA102.keep [(2, .pointer (some ⟨B_3, 0, none⟩)), (3, .pointer (some ⟨B_11, 0, none⟩)), (5, .int .i64 r_91)] ⟨rfl, rfl, rfl, trivial⟩
      exact then_normal ⟨r_91, hA103, hB99, hB100, ht94⟩
    · have ht80 := ht77.2 (of_decide_eq_false hc)
      clear hc
      refine wp_skip ?_
      have hA104 := hA49.keep [(2, .pointer (some ⟨B_3, 0, none⟩)), (3, .pointer (some ⟨B_11, 0, none⟩)), (5, .int .i64 r_35)] ⟨rfl, rfl, rfl, trivial⟩
      exact then_normal ⟨r_35, hA104, hB43, hB44, ht80⟩
  · intro a105 w75 hm
    obtain ⟨c_74, hA105, hB106, hB107, hJ614⟩ := hm
    have ht108 := hr78 c_74 w75 hJ614
    refine then_normal ?_
    refine wp_seq ?_
    refine wp_seq ?_
    refine wp_region_lit ?_
    refine sq (opk_val hA105 rfl (r_move (hA105.get rfl)) fun a109 hA109 _ => ?_)
    refine sq (opk_val hA109 rfl (r_eql (hA109.get rfl) rfl) fun a110 hA110 _ => ?_)
    refine sq_end ?_
    have hA111 := hA110.keep [(2, .pointer (some ⟨B_3, 0, none⟩)), (3, .pointer (some ⟨B_11, 0, none⟩)), (5, .int .i64 c_74), (34, .bool (decide (c_74 = 0)))] ⟨rfl, rfl, rfl, rfl, trivial⟩
    refine then_normal ?_
    obtain ⟨J_138, ht139, hr140⟩ := ht108
    refine wp_meet (fun a w => ∃ c_136 : Int, Ag 131 a [(2, .pointer (some ⟨B_3, 0, none⟩)), (3, .pointer (some ⟨B_11, 0, none⟩)), (5, .int .i64 c_136)] ∧ Box w B_3 26 [.int .i64 a_1_Kind, .string (Bs a_1_Name), .string (Bs a_1_Text), Sl.v a_1_Attrs, Sl.v a_1_Kids] ∧ Box w B_11 26 [.int .i64 b_2_Kind, .string (Bs b_2_Name), .string (Bs b_2_Text), Sl.v b_2_Attrs, Sl.v b_2_Kids] ∧ J_138 c_136 w) ?_ ?_
    · refine wp_cond_split (hA111.get rfl) (fun hc => ?_) (fun hc => ?_)
      · have ht141 := ht139.1 (of_decide_eq_true hc)
        clear hc
        refine wp_region_lit ?_
        refine sq (opk_val hA111 rfl (r_fieldAddr (hA111.get rfl) Try.underlying26 rfl ti_9 (by decide)) fun a143 hA143 _ => ?_)
        refine sq (opk_val hA143 rfl (r_load1 Try.underlying9 rfl (hA143.get rfl) (hB106.cell 2 _ rfl)) fun a144 hA144 _ => ?_)
        refine sq (opk_val hA144 rfl (r_fieldAddr (hA144.get rfl) Try.underlying26 rfl ti_9 (by decide)) fun a145 hA145 _ => ?_)
        refine sq (opk_val hA145 rfl (r_load1 Try.underlying9 rfl (hA145.get rfl) (hB107.cell 2 _ rfl)) fun a146 hA146 _ => ?_)
        refine sq (opk_val hA146 rfl (r_slss (hA146.get rfl) (hA146.get rfl)) fun a147 hA147 _ => ?_)
        refine sq (opk_val hA147 rfl (r_fieldAddr (hA147.get rfl) Try.underlying26 rfl ti_9 (by decide)) fun a148 hA148 _ => ?_)
        refine sq (opk_val hA148 rfl (r_load1 Try.underlying9 rfl (hA148.get rfl) (hB106.cell 2 _ rfl)) fun a149 hA149 _ => ?_)
        refine sq (opk_val hA149 rfl (r_fieldAddr (hA149.get rfl) Try.underlying26 rfl ti_9 (by decide)) fun a150 hA150 _ => ?_)
        refine sq (opk_val hA150 rfl (r_load1 Try.underlying9 rfl (hA150.get rfl) (hB107.cell 2 _ rfl)) fun a151 hA151 _ => ?_)
        refine sq (opk_val hA151 rfl (r_sgtr (hA151.get rfl) (hA151.get rfl)) fun a152 hA152 _ => ?_)
        refine sq (opk_call hA152 rfl (r_call (args := #[.bool (Op.bytesLess a_1_Text b_2_Text), .bool (!((Op.bytesLess a_1_Text b_2_Text) || (decide (a_1_Text = b_2_Text))))]) Try.func46 (by decide) rfl (map_arr (ml_cons (hA152.get rfl) (ml_cons (hA152.get rfl) ml_nil))) rfl) ht141 fun a154 v160 w155 hA154 _ hn157 hz158 hK159 => ?_)
        obtain ⟨r_153, rfl, ht156⟩ := hK159
        have hB161 := hB106.kept hn157 (.head _)
        have hB162 := hB107.kept hn157 (.tail _ (.head _))
        refine sq (opk_val hA154 rfl (r_assign (hA154.get rfl)) fun a163 hA163 _ => ?_)
        refine sq_end ?_
        have hA164 := hA163.keep [(2, .pointer (some ⟨B_3, 0, none⟩)), (3, .pointer (some ⟨B_11, 0, none⟩)), (5, .int .i64 r_153)] ⟨rfl, rfl, rfl, trivial⟩
        have hA165 := hA164.keep [(2, .pointer (some ⟨B_3, 0, none⟩)), (3, .pointer (some ⟨B_11, 0, none⟩)), (5, .int .i64 r_153)] ⟨rfl, rfl, rfl, trivial⟩
        exact then_normal ⟨r_153, hA165, hB161, hB162, ht156⟩
      · have ht142 := ht139.2 (of_decide_eq_false hc)
        clear hc
        refine wp_skip ?_
        have hA166 := hA111.keep [(2, .pointer (some ⟨B_3, 0, none⟩)), (3, .pointer (some ⟨B_11, 0, none⟩)), (5, .int .i64 c_74)] ⟨rfl, rfl, rfl, trivial⟩
        exact then_normal ⟨c_74, hA166, hB106, hB107, ht142⟩
    · intro a167 w137 hm
      obtain ⟨c_136, hA167, hB168, hB169, hJ613⟩ := hm
      have ht170 := hr140 c_136 w137 hJ613
      refine then_normal ?_
      refine wp_seq ?_
      refine wp_seq ?_
      refine wp_region_lit ?_
      refine sq (opk_val hA167 rfl (r_assign rfl) fun a171 hA171 _ => ?_)
      refine sq_end ?_
      have hA172 := hA171.keep [(2, .pointer (some ⟨B_3, 0, none⟩)), (3, .pointer (some ⟨B_11, 0, none⟩)), (5, .int .i64 c_136), (6, .int .i64 0)] ⟨rfl, rfl, rfl, rfl, trivial⟩
      refine then_normal ?_
      refine wp_block ?_
      obtain ⟨J_176, mu_177, h0378, ht377⟩ := ht170
      refine wp_loop_st (σ := Int × Int × World) (fun s a w => Ag 131 a [(2, .pointer (some ⟨B_3, 0, none⟩)), (3, .pointer (some ⟨B_11, 0, none⟩)), (5, .int .i64 s.1), (6, .int .i64 s.2.1)] ∧ Box w B_3 26 [.int .i64 a_1_Kind, .string (Bs a_1_Name), .string (Bs a_1_Text), Sl.v a_1_Attrs, Sl.v a_1_Kids] ∧ Box w B_11 26 [.int .i64 b_2_Kind, .string (Bs b_2_Name), .string (Bs b_2_Text), Sl.v b_2_Attrs, Sl.v b_2_Kids] ∧ w = s.2.2 ∧ J_176 s.1 s.2.1 s.2.2) (fun s => mu_177 s.1 s.2.1 s.2.2) (c_136, 0, w137) ⟨hA172.keep [(2, .pointer (some ⟨B_3, 0, none⟩)), (3, .pointer (some ⟨B_11, 0, none⟩)), (5, .int .i64 c_136), (6, .int .i64 0)] ⟨rfl, rfl, rfl, rfl, trivial⟩, hB168, hB169, rfl, h0378⟩ ?_
      rintro ⟨c_173, i_174, w175⟩ a374 w_ ⟨hA374, hB375, hB376, hw_, hJ380⟩
      have hw_ : w175 = w_ := hw_.symm
      subst hw_
      have ht379 := ht377 c_173 i_174 _ hJ380
      refine wp_seq ?_
      refine wp_seq ?_
      refine wp_region_lit ?_
      refine sq (opk_val hA374 rfl (r_move (hA374.get rfl)) fun a381 hA381 _ => ?_)
      refine sq (opk_val hA381 rfl (r_eql (hA381.get rfl) rfl) fun a382 hA382 _ => ?_)
      refine sq (opk_val hA382 rfl (r_move (hA382.get rfl)) fun a383 hA383 _ => ?_)
      refine sq (opk_gval hA383 rfl rfl (g := true) (e := (decide (c_173 = 0))) rfl (fun hg => r_move (hA383.get rfl)) fun a384 hA384 _ => ?_)
      refine sq (opk_gval hA384 rfl rfl (g := true) (e := (decide (c_173 = 0))) rfl (fun hg => r_fieldAddr (hA384.get rfl) Try.underlying26 rfl ti_23 (by decide)) fun a385 hA385 _ => ?_)
      refine sq (opk_gval hA385 rfl rfl (g := true) (e := (decide (c_173 = 0))) rfl (fun hg => r_load1 Try.underlying23 rfl (cv_get (hA385.get rfl) hg) (hB375.cell 3 _ rfl)) fun a386 hA386 _ => ?_)
      refine sq (opk_gval hA386 rfl rfl (g := true) (e := (decide (c_173 = 0))) rfl (fun hg => r_len (cv_get (hA386.get rfl) hg) Try.underlying23) fun a387 hA387 _ => ?_)
      refine sq (opk_gval hA387 rfl rfl (g := true) (e := (decide (c_173 = 0))) rfl (fun hg => r_lss (cv_get (hA387.get rfl) hg) (cv_get (hA387.get rfl) hg)) fun a388 hA388 _ => ?_)
      refine sq (opk_val hA388 rfl (r_pick_and (g := (true && ((decide (c_173 = 0)) == true))) (hA388.get rfl) (hA388.get rfl) (fun he => g_mkt rfl he)) fun a389 hA389 _ => ?_)
      refine sq (opk_val hA389 rfl (r_move (hA389.get rfl)) fun a390 hA390 _ => ?_)
      refine sq (opk_gval hA390 rfl rfl (g := true) (e := ((decide (c_173 = 0)) && (decide (i_174 < (a_1_Attrs.n : Int))))) rfl (fun hg => r_move (hA390.get rfl)) fun a391 hA391 _ => ?_)
      refine sq (opk_gval hA391 rfl rfl (g := true) (e := ((decide (c_173 = 0)) && (decide (i_174 < (a_1_Attrs.n : Int))))) rfl (fun hg => r_fieldAddr (hA391.get rfl) Try.underlying26 rfl ti_23 (by decide)) fun a392 hA392 _ => ?_)
      refine sq (opk_gval hA392 rfl rfl (g := true) (e := ((decide (c_173 = 0)) && (decide (i_174 < (a_1_Attrs.n : Int))))) rfl (fun hg => r_load1 Try.underlying23 rfl (cv_get (hA392.get rfl) hg) (hB376.cell 3 _ rfl)) fun a393 hA393 _ => ?_)
      refine sq (opk_gval hA393 rfl rfl (g := true) (e := ((decide (c_173 = 0)) && (decide (i_174 < (a_1_Attrs.n : Int))))) rfl (fun hg => r_len (cv_get (hA393.get rfl) hg) Try.underlying23) fun a394 hA394 _ => ?_)
      refine sq (opk_gval hA394 rfl rfl (g := true) (e := ((decide (c_173 = 0)) && (decide (i_174 < (a_1_Attrs.n : Int))))) rfl (fun hg => r_lss (cv_get (hA394.get rfl) hg) (cv_get (hA394.get rfl) hg)) fun a395 hA395 _ => ?_)
      refine sq (opk_val hA395 rfl (r_pick_and (g := (true && (((decide (c_173 = 0)) && (decide (i_174 < (a_1_Attrs.n : Int)))) == true))) (hA395.get rfl) (hA395.get rfl) (fun he => g_mkt rfl he)) fun a396 hA396 _ => ?_)
      refine sq_end ?_
      have hA397 := hA396.keep [(2, .pointer (some ⟨B_3, 0, none⟩)), (3, .pointer (some ⟨B_11, 0, none⟩)), (5, .int .i64 c_173), (6, .int .i64 i_174), (61, .bool (((decide (c_173 = 0)) && (decide (i_174 < (a_1_Attrs.n : Int)))) && (decide (i_174 < (b_2_Attrs.n : Int)))))] ⟨rfl, rfl, rfl, rfl, rfl, trivial⟩
      refine then_normal ?_
      refine wp_cond_split (hA397.get rfl) (fun hc => ?_) (fun hc => ?_)
      · have ht398 := ht379.1 ⟨⟨(of_decide_eq_true (b_and_t (b_and_t hc).1).1), (of_decide_eq_true (b_and_t (b_and_t hc).1).2)⟩, (of_decide_eq_true (b_and_t hc).2)⟩
        clear hc
        refine wp_skip ?_
        refine then_normal ?_
        refine wp_seq ?_
        refine wp_block ?_
        refine wp_seq ?_
        refine draw' (by kernel_rfl) fun w400 hE401 => ?_
        have hB402 := hB375.ext hE401
        have hB403 := hB376.ext hE401
        have hC404 : Chg [] w175 w400 := hE401
        have ht405 := ht398 w400    hC404
        obtain ⟨p_406, hp407, ht408⟩ := ht405
        obtain ⟨x_409_Name, x_409_Value, hx410, ht411⟩ := ht408
        obtain ⟨p_412, hp413, ht414⟩ := ht411
        obtain ⟨x_415_Name, x_415_Value, hx416, ht417⟩ := ht414
        refine startF (D := [[], [0], [], [0, 1, 2], [0, 1, 2, 3], [], [5], [], [5, 6, 7], [5, 6, 7, 8], [], [], [0, 1, 2, 3, 4, 10, 11], [0, 1, 2, 3, 4, 5, 6, 7, 8, 9, 10, 11, 12]]) (Fs := [0, 1, 2, 3, 4, 5, 6, 7, 8, 9]) (Ef := [(0, fun v _ => v = .pointer (some ⟨B_3, 3, none⟩)), (1, fun v _ => v = Sl.v a_1_Attrs), (2, fun v _ => v = .int .i64 i_174), (3, fun v _ => v = .pointer (some (p_406.add (i_174.toNat * 2)))), (4, fun v _ => v = .agg #[.string (Bs x_409_Name), .string (Bs x_409_Value)]), (5, fun v _ => v = .pointer (some ⟨B_11, 3, none⟩)), (6, fun v _ => v = Sl.v b_2_Attrs), (7, fun v _ => v = .int .i64 i_174), (8, fun v _ => v = .pointer (some (p_412.add (i_174.toNat * 2)))), (9, fun v _ => v = .agg #[.string (Bs x_415_Name), .string (Bs x_415_Value)])]) (by kernel_rfl) ?_
        refine parFN (D := [[], [0], [], [0, 1, 2], [0, 1, 2, 3], [], [5], [], [5, 6, 7], [5, 6, 7, 8], [], [], [0, 1, 2, 3, 4, 10, 11], [0, 1, 2, 3, 4, 5, 6, 7, 8, 9, 10, 11, 12]]) (S := [10, 11]) (F := []) (KE := [10, 11]) (N := [10, 11]) (E := [(10, fun v w' => ∃ B_418 : Nat, w400.heap.size ≤ B_418 ∧ Box w' B_418 33 [.string (Bs ([] : Str)), .string (Bs ([] : Str))] ∧ v = .pointer (some ⟨B_418, 0, none⟩)), (11, fun v w' => ∃ B_423 : Nat, w400.heap.size ≤ B_423 ∧ Box w' B_423 33 [.string (Bs ([] : Str)), .string (Bs ([] : Str))] ∧ v = .pointer (some ⟨B_423, 0, none⟩))]) hA397 rfl (by kernel_rfl) (blkF ⟨fun _ _ h => by obtain ⟨B_418, _, hB, rfl⟩ := h; exact hB.lt, fun _ _ h => by obtain ⟨B_423, _, hB, rfl⟩ := h; exact hB.lt, trivial⟩) ⟨fun _ _ _ hE ⟨B_418, h0_, h1_, e⟩ => ⟨B_418, h0_, (h1_.ext hE), e⟩, fun _ _ _ hE ⟨B_423, h0_, h1_, e⟩ => ⟨B_423, h0_, (h1_.ext hE), e⟩, fun _ _ _ _ h => by first | exact h | (change _ = _ at h; change _ = _; exact h), fun _ _ _ _ h => by first | exact h | (change _ = _ at h; change _ = _; exact h), fun _ _ _ _ h => by first | exact h | (change _ = _ at h; change _ = _; exact h), fun _ _ _ _ h => by first | exact h | (change _ = _ at h; change _ = _; exact h), fun _ _ _ _ h => by first | exact h | (change _ = _ at h; change _ = _; exact h), fun _ _ _ _ h => by first | exact h | (change _ = _ at h; change _ = _; exact h), fun _ _ _ _ h => by first | exact h | (change _ = _ at h; change _ = _; exact h), fun _ _ _ _ h => by first | exact h | (change _ = _ at h; change _ = _; exact h), fun _ _ _ _ h => by first | exact h | (change _ = _ at h; change _ = _; exact h), fun _ _ _ _ h => by first | exact h | (change _ = _ at h; change _ = _; exact h), trivial⟩ ⟨?_, ?_, ?_, ?_, ?_, ?_, ?_, ?_, ?_, ?_, ?_, ?_, trivial⟩ ?_
        · intro a w hT
          have hAp := hT.ag hA397 [] trivial (by kernel_rfl)
          exact opk_new (fun B => .pointer (some ⟨B, 0, none⟩)) hAp rfl (r_alloc (cs := [.string (Bs ([] : Str)), .string (Bs ([] : Str))]) ti_33 rfl) fun _ w419 B_418 hE420 hN421 hB422 _ e => ⟨_, e, hE420, fun _ => ⟨B_418, Nat.le_trans hT.chg.size hN421.ge, hB422, rfl⟩, fun _ => hN421.ge⟩
        · intro a w hT
          have hAp := hT.ag hA397 [] trivial (by kernel_rfl)
          exact opk_new (fun B => .pointer (some ⟨B, 0, none⟩)) hAp rfl (r_alloc (cs := [.string (Bs ([] : Str)), .string (Bs ([] : Str))]) ti_33 rfl) fun _ w424 B_423 hE425 hN426 hB427 _ e => ⟨_, e, hE425, fun _ => ⟨B_423, Nat.le_trans hT.chg.size hN426.ge, hB427, rfl⟩, fun _ => hN426.ge⟩
        · intro a w hT
          refine overN_of rfl ?_
          have hAp := hT.ag hA397 [(2, .pointer (some ⟨B_3, 0, none⟩))] ⟨rfl, trivial⟩ (by kernel_rfl)
          exact opk_val hAp rfl (r_fieldAddr (hAp.get rfl) Try.underlying26 rfl ti_23 (by decide)) fun _ _ e => ⟨_, e, Chg.refl _ _, fun _ => Eq.refl _⟩
        · intro a w hT
          refine overN_of rfl ?_
          have hAp := hT.ag hA397 [] trivial (by kernel_rfl)
          have e428 : a.tmps.getD 64 undef = .pointer (some ⟨B_3, 3, none⟩) := hT.vals 0 rfl 64 rfl
          have hAp := hAp.add e428
          exact opk_val hAp rfl (r_load1 Try.underlying23 rfl (hAp.get rfl) ((hB402.ext hT.chg).cell 3 _ rfl)) fun _ _ e => ⟨_, e, Chg.refl _ _, fun _ => Eq.refl _⟩
        · intro a w hT
          refine overN_of rfl ?_
          have hAp := hT.ag hA397 [(6, .int .i64 i_174)] ⟨rfl, trivial⟩ (by kernel_rfl)
          exact opk_val hAp rfl (r_move (hAp.get rfl)) fun _ _ e => ⟨_, e, Chg.refl _ _, fun _ => Eq.refl _⟩
        · intro a w hT
          refine overN_of rfl ?_
          have hAp := hT.ag hA397 [] trivial (by kernel_rfl)
          have e429 : a.tmps.getD 65 undef = Sl.v a_1_Attrs := hT.vals 1 rfl 65 rfl
          have hAp := hAp.add e429
          have e430 : a.tmps.getD 66 undef = .int .i64 i_174 := hT.vals 2 rfl 66 rfl
          have hAp := hAp.add e430
          exact opk_val hAp rfl (r_indexAddr (hAp.get rfl) (hAp.get rfl) Try.underlying23 ti_33 hp407.1 hp407.2) fun _ _ e => ⟨_, e, Chg.refl _ _, fun _ => Eq.refl _⟩
        · intro a w hT
          refine overN_of rfl ?_
          have hAp := hT.ag hA397 [] trivial (by kernel_rfl)
          have e431 : a.tmps.getD 67 undef = .pointer (some (p_406.add (i_174.toNat * 2))) := hT.vals 3 rfl 67 rfl
          have hAp := hAp.add e431
          exact opk_val hAp rfl (r_loadN Try.underlying33 rfl ti_33 (hAp.get rfl) (hx410.ext hT.chg)) fun _ _ e => ⟨_, e, Chg.refl _ _, fun _ => Eq.refl _⟩
        · intro a w hT
          refine overN_of rfl ?_
          have hAp := hT.ag hA397 [(3, .pointer (some ⟨B_11, 0, none⟩))] ⟨rfl, trivial⟩ (by kernel_rfl)
          exact opk_val hAp rfl (r_fieldAddr (hAp.get rfl) Try.underlying26 rfl ti_23 (by decide)) fun _ _ e => ⟨_, e, Chg.refl _ _, fun _ => Eq.refl _⟩
        · intro a w hT
          refine overN_of rfl ?_
          have hAp := hT.ag hA397 [] trivial (by kernel_rfl)
          have e432 : a.tmps.getD 69 undef = .pointer (some ⟨B_11, 3, none⟩) := hT.vals 5 rfl 69 rfl
          have hAp := hAp.add e432
          exact opk_val hAp rfl (r_load1 Try.underlying23 rfl (hAp.get rfl) ((hB403.ext hT.chg).cell 3 _ rfl)) fun _ _ e => ⟨_, e, Chg.refl _ _, fun _ => Eq.refl _⟩
        · intro a w hT
          refine overN_of rfl ?_
          have hAp := hT.ag hA397 [(6, .int .i64 i_174)] ⟨rfl, trivial⟩ (by kernel_rfl)
          exact opk_val hAp rfl (r_move (hAp.get rfl)) fun _ _ e => ⟨_, e, Chg.refl _ _, fun _ => Eq.refl _⟩
        · intro a w hT
          refine overN_of rfl ?_
          have hAp := hT.ag hA397 [] trivial (by kernel_rfl)
          have e433 : a.tmps.getD 70 undef = Sl.v b_2_Attrs := hT.vals 6 rfl 70 rfl
          have hAp := hAp.add e433
          have e434 : a.tmps.getD 71 undef = .int .i64 i_174 := hT.vals 7 rfl 71 rfl
          have hAp := hAp.add e434
          exact opk_val hAp rfl (r_indexAddr (hAp.get rfl) (hAp.get rfl) Try.underlying23 ti_33 hp413.1 hp413.2) fun _ _ e => ⟨_, e, Chg.refl _ _, fun _ => Eq.refl _⟩
        · intro a w hT
          refine overN_of rfl ?_
          have hAp := hT.ag hA397 [] trivial (by kernel_rfl)
          have e435 : a.tmps.getD 72 undef = .pointer (some (p_412.add (i_174.toNat * 2))) := hT.vals 8 rfl 72 rfl
          have hAp := hAp.add e435
          exact opk_val hAp rfl (r_loadN Try.underlying33 rfl ti_33 (hAp.get rfl) (hx416.ext hT.chg)) fun _ _ e => ⟨_, e, Chg.refl _ _, fun _ => Eq.refl _⟩
        · intro a436 w437 hE438 hag439 hv440 hap441
          have hA436 := hag439 [(2, .pointer (some ⟨B_3, 0, none⟩)), (3, .pointer (some ⟨B_11, 0, none⟩)), (6, .int .i64 i_174)] ⟨rfl, rfl, rfl, trivial⟩ (by kernel_rfl)
          obtain ⟨B_418, hf444, hf445, e442⟩ := hv440 10 rfl 7 rfl
          have hA443 := hA436.add e442
          obtain ⟨B_423, hf448, hf449, e446⟩ := hv440 11 rfl 8 rfl
          have hA447 := hA443.add e446
          have hne450 : B_418 ≠ B_423 := by have h := hap441 10 11 rfl 7 8 rfl rfl; rw [e442, e446] at h; exact h
          have hB451 := hB402.ext hE438
          have hB452 := hB403.ext hE438
          have hC453 : Chg [] w400 w437 := hE438
          have hf454 := hx410.ext hE438
          have hf455 := hx416.ext hE438
          have ht456 := ht417 w437 B_418 B_423 hE438 hf444 hf445 hf448 hf449
          have hne457 : B_3 ≠ B_418 := Nat.ne_of_lt (Nat.lt_of_lt_of_le hB402.lt hf444)
          have hne458 : B_11 ≠ B_418 := Nat.ne_of_lt (Nat.lt_of_lt_of_le hB403.lt hf444)
          have hne459 : B_3 ≠ B_423 := Nat.ne_of_lt (Nat.lt_of_lt_of_le hB402.lt hf448)
          have hne460 : B_11 ≠ B_423 := Nat.ne_of_lt (Nat.lt_of_lt_of_le hB403.lt hf448)
          refine oneF (c := 12) hA447 rfl (by kernel_rfl) (constF ⟨fun _ _ _ h => by first | exact h | (change _ = _ at h; change _ = _; exact h), fun _ _ _ h => by first | exact h | (change _ = _ at h; change _ = _; exact h), fun _ _ _ h => by first | exact h | (change _ = _ at h; change _ = _; exact h), fun _ _ _ h => by first | exact h | (change _ = _ at h; change _ = _; exact h), fun _ _ _ h => by first | exact h | (change _ = _ at h; change _ = _; exact h), fun _ _ _ h => by first | exact h | (change _ = _ at h; change _ = _; exact h), fun _ _ _ h => by first | exact h | (change _ = _ at h; change _ = _; exact h), fun _ _ _ h => by first | exact h | (change _ = _ at h; change _ = _; exact h), fun _ _ _ h => by first | exact h | (change _ = _ at h; change _ = _; exact h), fun _ _ _ h => by first | exact h | (change _ = _ at h; change _ = _; exact h), trivial⟩) ⟨?_, ?_, ?_, ?_, ?_, ?_, ?_, ?_, ?_, ?_, trivial⟩ ?_
          · intro a hT
            have hAp := hT.ag hA447 [(2, .pointer (some ⟨B_3, 0, none⟩))] ⟨rfl, trivial⟩ (by kernel_rfl)
            exact opk_val hAp rfl (r_fieldAddr (hAp.get rfl) Try.underlying26 rfl ti_23 (by decide)) fun _ _ e => ⟨_, e, rfl, fun _ => Eq.refl _⟩
          · intro a hT
            have hAp := hT.ag hA447 [] trivial (by kernel_rfl)
            have e461 : a.tmps.getD 64 undef = .pointer (some ⟨B_3, 3, none⟩) := hT.vals 0 rfl 64 rfl
            have hAp := hAp.add e461
            exact opk_val hAp rfl (r_load1 Try.underlying23 rfl (hAp.get rfl) ((hB451.ext hT.chg).cell 3 _ rfl)) fun _ _ e => ⟨_, e, rfl, fun _ => Eq.refl _⟩
          · intro a hT
            have hAp := hT.ag hA447 [(6, .int .i64 i_174)] ⟨rfl, trivial⟩ (by kernel_rfl)
            exact opk_val hAp rfl (r_move (hAp.get rfl)) fun _ _ e => ⟨_, e, rfl, fun _ => Eq.refl _⟩
          · intro a hT
            have hAp := hT.ag hA447 [] trivial (by kernel_rfl)
            have e462 : a.tmps.getD 65 undef = Sl.v a_1_Attrs := hT.vals 1 rfl 65 rfl
            have hAp := hAp.add e462
            have e463 : a.tmps.getD 66 undef = .int .i64 i_174 := hT.vals 2 rfl 66 rfl
            have hAp := hAp.add e463
            exact opk_val hAp rfl (r_indexAddr (hAp.get rfl) (hAp.get rfl) Try.underlying23 ti_33 hp407.1 hp407.2) fun _ _ e => ⟨_, e, rfl, fun _ => Eq.refl _⟩
          · intro a hT
            have hAp := hT.ag hA447 [] trivial (by kernel_rfl)
            have e464 : a.tmps.getD 67 undef = .pointer (some (p_406.add (i_174.toNat * 2))) := hT.vals 3 rfl 67 rfl
            have hAp := hAp.add e464
            exact opk_val hAp rfl (r_loadN Try.underlying33 rfl ti_33 (hAp.get rfl) (hf454.ext hT.chg)) fun _ _ e => ⟨_, e, rfl, fun _ => Eq.refl _⟩
          · intro a hT
            have hAp := hT.ag hA447 [(3, .pointer (some ⟨B_11, 0, none⟩))] ⟨rfl, trivial⟩ (by kernel_rfl)
            exact opk_val hAp rfl (r_fieldAddr (hAp.get rfl) Try.underlying26 rfl ti_23 (by decide)) fun _ _ e => ⟨_, e, rfl, fun _ => Eq.refl _⟩
          · intro a hT
            have hAp := hT.ag hA447 [] trivial (by kernel_rfl)
            have e465 : a.tmps.getD 69 undef = .pointer (some ⟨B_11, 3, none⟩) := hT.vals 5 rfl 69 rfl
            have hAp := hAp.add e465
            exact opk_val hAp rfl (r_load1 Try.underlying23 rfl (hAp.get rfl) ((hB452.ext hT.chg).cell 3 _ rfl)) fun _ _ e => ⟨_, e, rfl, fun _ => Eq.refl _⟩
          · intro a hT
            have hAp := hT.ag hA447 [(6, .int .i64 i_174)] ⟨rfl, trivial⟩ (by kernel_rfl)
            exact opk_val hAp rfl (r_move (hAp.get rfl)) fun _ _ e => ⟨_, e, rfl, fun _ => Eq.refl _⟩
          · intro a hT
            have hAp := hT.ag hA447 [] trivial (by kernel_rfl)
            have e466 : a.tmps.getD 70 undef = Sl.v b_2_Attrs := hT.vals 6 rfl 70 rfl
            have hAp := hAp.add e466
            have e467 : a.tmps.getD 71 undef = .int .i64 i_174 := hT.vals 7 rfl 71 rfl
            have hAp := hAp.add e467
            exact opk_val hAp rfl (r_indexAddr (hAp.get rfl) (hAp.get rfl) Try.underlying23 ti_33 hp413.1 hp413.2) fun _ _ e => ⟨_, e, rfl, fun _ => Eq.refl _⟩
          · intro a hT
            have hAp := hT.ag hA447 [] trivial (by kernel_rfl)
            have e468 : a.tmps.getD 72 undef = .pointer (some (p_412.add (i_174.toNat * 2))) := hT.vals 8 rfl 72 rfl
            have hAp := hAp.add e468
            exact opk_val hAp rfl (r_loadN Try.underlying33 rfl ti_33 (hAp.get rfl) (hf455.ext hT.chg)) fun _ _ e => ⟨_, e, rfl, fun _ => Eq.refl _⟩
          · intro a469 hT
            have hA469 := hT.ag hA447 [(2, .pointer (some ⟨B_3, 0, none⟩)), (3, .pointer (some ⟨B_11, 0, none⟩)), (6, .int .i64 i_174), (7, .pointer (some ⟨B_418, 0, none⟩)), (8, .pointer (some ⟨B_423, 0, none⟩))] ⟨rfl, rfl, rfl, rfl, rfl, trivial⟩ (by kernel_rfl)
            have e470 : a469.tmps.getD 68 undef = .agg #[.string (Bs x_409_Name), .string (Bs x_409_Value)] := hT.vals 4 rfl 68 rfl
            have hA471 := hA469.add e470
            refine opk_storeF hA471 hf445 (r_store (vs := [.string (Bs x_409_Name), .string (Bs x_409_Value)]) (hA471.get rfl) (hA471.get rfl) rfl ti_33 hf445 rfl (ones_all [.string (Bs x_409_Name), .string (Bs x_409_Value)] rfl)) fun w472 hS474 hB475 hA473 => ⟨undef, Eq.refl _, ?_⟩
            have hB476 : Box w472 B_418 33 [.string (Bs x_409_Name), .string (Bs x_409_Value)] := hB475
            have hB477 := hB451.keep hS474 (by simpa using hne457)
            have hB478 := hB452.keep hS474 (by simpa using hne458)
            have hB479 := hf449.keep hS474 (by simpa using hne450.symm)
            have hC480 : Chg [B_418] w437 w472 := hS474
            have hf481 := hf454.chg hS474 (Cells.apart hx410 hf444)
            have hf482 := hf455.chg hS474 (Cells.apart hx416 hf444)
            refine joinF hA473 (by kernel_rfl) ⟨fun _ _ _ _ h => by first | exact h | (change _ = _ at h; change _ = _; exact h), fun _ _ _ _ h => by first | exact h | (change _ = _ at h; change _ = _; exact h), fun _ _ _ _ h => by first | exact h | (change _ = _ at h; change _ = _; exact h), fun _ _ _ _ h => by first | exact h | (change _ = _ at h; change _ = _; exact h), fun _ _ _ _ h => by first | exact h | (change _ = _ at h; change _ = _; exact h), fun _ _ _ _ h => by first | exact h | (change _ = _ at h; change _ = _; exact h), fun _ _ _ _ h => by first | exact h | (change _ = _ at h; change _ = _; exact h), fun _ _ _ _ h => by first | exact h | (change _ = _ at h; change _ = _; exact h), fun _ _ _ _ h => by first | exact h | (change _ = _ at h; change _ = _; exact h), fun _ _ _ _ h => by first | exact h | (change _ = _ at h; change _ = _; exact h), trivial⟩ ⟨?_, ?_, ?_, ?_, ?_, ?_, ?_, ?_, ?_, ?_, trivial⟩ ?_
            · intro a w hT
              have hAp := hT.ag hA473 [(2, .pointer (some ⟨B_3, 0, none⟩))] ⟨rfl, trivial⟩ (by kernel_rfl)
              exact opk_val hAp rfl (r_fieldAddr (hAp.get rfl) Try.underlying26 rfl ti_23 (by decide)) fun _ _ e => ⟨_, e, Chg.refl _ _, fun _ => Eq.refl _⟩
            · intro a w hT
              have hAp := hT.ag hA473 [] trivial (by kernel_rfl)
              have e483 : a.tmps.getD 64 undef = .pointer (some ⟨B_3, 3, none⟩) := hT.vals 0 rfl 64 rfl
              have hAp := hAp.add e483
              exact opk_val hAp rfl (r_load1 Try.underlying23 rfl (hAp.get rfl) ((hB477.ext hT.chg).cell 3 _ rfl)) fun _ _ e => ⟨_, e, Chg.refl _ _, fun _ => Eq.refl _⟩
            · intro a w hT
              have hAp := hT.ag hA473 [(6, .int .i64 i_174)] ⟨rfl, trivial⟩ (by kernel_rfl)
              exact opk_val hAp rfl (r_move (hAp.get rfl)) fun _ _ e => ⟨_, e, Chg.refl _ _, fun _ => Eq.refl _⟩
            · intro a w hT
              have hAp := hT.ag hA473 [] trivial (by kernel_rfl)
              have e484 : a.tmps.getD 65 undef = Sl.v a_1_Attrs := hT.vals 1 rfl 65 rfl
              have hAp := hAp.add e484
              have e485 : a.tmps.getD 66 undef = .int .i64 i_174 := hT.vals 2 rfl 66 rfl
              have hAp := hAp.add e485
              exact opk_val hAp rfl (r_indexAddr (hAp.get rfl) (hAp.get rfl) Try.underlying23 ti_33 hp407.1 hp407.2) fun _ _ e => ⟨_, e, Chg.refl _ _, fun _ => Eq.refl _⟩
            · intro a w hT
              have hAp := hT.ag hA473 [] trivial (by kernel_rfl)
              have e486 : a.tmps.getD 67 undef = .pointer (some (p_406.add (i_174.toNat * 2))) := hT.vals 3 rfl 67 rfl
              have hAp := hAp.add e486
              exact opk_val hAp rfl (r_loadN Try.underlying33 rfl ti_33 (hAp.get rfl) (hf481.ext hT.chg)) fun _ _ e => ⟨_, e, Chg.refl _ _, fun _ => Eq.refl _⟩
            · intro a w hT
              have hAp := hT.ag hA473 [(3, .pointer (some ⟨B_11, 0, none⟩))] ⟨rfl, trivial⟩ (by kernel_rfl)
              exact opk_val hAp rfl (r_fieldAddr (hAp.get rfl) Try.underlying26 rfl ti_23 (by decide)) fun _ _ e => ⟨_, e, Chg.refl _ _, fun _ => Eq.refl _⟩
            · intro a w hT
              have hAp := hT.ag hA473 [] trivial (by kernel_rfl)
              have e487 : a.tmps.getD 69 undef = .pointer (some ⟨B_11, 3, none⟩) := hT.vals 5 rfl 69 rfl
              have hAp := hAp.add e487
              exact opk_val hAp rfl (r_load1 Try.underlying23 rfl (hAp.get rfl) ((hB478.ext hT.chg).cell 3 _ rfl)) fun _ _ e => ⟨_, e, Chg.refl _ _, fun _ => Eq.refl _⟩
            · intro a w hT
              have hAp := hT.ag hA473 [(6, .int .i64 i_174)] ⟨rfl, trivial⟩ (by kernel_rfl)
              exact opk_val hAp rfl (r_move (hAp.get rfl)) fun _ _ e => ⟨_, e, Chg.refl _ _, fun _ => Eq.refl _⟩
            · intro a w hT
              have hAp := hT.ag hA473 [] trivial (by kernel_rfl)
              have e488 : a.tmps.getD 70 undef = Sl.v b_2_Attrs := hT.vals 6 rfl 70 rfl
              have hAp := hAp.add e488
              have e489 : a.tmps.getD 71 undef = .int .i64 i_174 := hT.vals 7 rfl 71 rfl
              have hAp := hAp.add e489
              exact opk_val hAp rfl (r_indexAddr (hAp.get rfl) (hAp.get rfl) Try.underlying23 ti_33 hp413.1 hp413.2) fun _ _ e => ⟨_, e, Chg.refl _ _, fun _ => Eq.refl _⟩
            · intro a w hT
              have hAp := hT.ag hA473 [] trivial (by kernel_rfl)
              have e490 : a.tmps.getD 72 undef = .pointer (some (p_412.add (i_174.toNat * 2))) := hT.vals 8 rfl 72 rfl
              have hAp := hAp.add e490
              exact opk_val hAp rfl (r_loadN Try.underlying33 rfl ti_33 (hAp.get rfl) (hf482.ext hT.chg)) fun _ _ e => ⟨_, e, Chg.refl _ _, fun _ => Eq.refl _⟩
            · intro a491 w492 hE493 hag494 hv495
              have hA491 := hag494 [(2, .pointer (some ⟨B_3, 0, none⟩)), (3, .pointer (some ⟨B_11, 0, none⟩)), (6, .int .i64 i_174), (7, .pointer (some ⟨B_418, 0, none⟩)), (8, .pointer (some ⟨B_423, 0, none⟩))] ⟨rfl, rfl, rfl, rfl, rfl, trivial⟩ (by kernel_rfl)
              have e496 : a491.tmps.getD 73 undef = .agg #[.string (Bs x_415_Name), .string (Bs x_415_Value)] := hv495 9 rfl 73 rfl
              have hA497 := hA491.add e496
              have hB498 := hB477.ext hE493
              have hB499 := hB478.ext hE493
              have hB500 := hB476.ext hE493
              have hB501 := hB479.ext hE493
              have hC502 := hC480.more hE493
              have hf503 := hf481.ext hE493
              have hf504 := hf482.ext hE493
              refine one (D := [[], [0], [], [0, 1, 2], [0, 1, 2, 3], [], [5], [], [5, 6, 7], [5, 6, 7, 8], [], [], [0, 1, 2, 3, 4, 10, 11], [0, 1, 2, 3, 4, 5, 6, 7, 8, 9, 10, 11, 12]]) (i := 13) rfl (by kernel_rfl) (opk_store hA497 hB501 (r_store (vs := [.string (Bs x_415_Name), .string (Bs x_415_Value)]) (hA497.get rfl) (hA497.get rfl) rfl ti_33 hB501 rfl (ones_all [.string (Bs x_415_Name), .string (Bs x_415_Value)] rfl)) fun a506 w505 hS507 hB508 hA506 => ?_)
              have hB509 : Box w505 B_423 33 [.string (Bs x_415_Name), .string (Bs x_415_Value)] := hB508
              have hB510 := hB498.keep hS507 (by simpa using hne459)
              have hB511 := hB499.keep hS507 (by simpa using hne460)
              have hB512 := hB500.keep hS507 (by simpa using hne450)
              have hC513 := hC502.storeOld hS507
              refine PR_end (by kernel_rfl) ?_
              have hA514 := hA506.keep [(2, .pointer (some ⟨B_3, 0, none⟩)), (3, .pointer (some ⟨B_11, 0, none⟩)), (6, .int .i64 i_174), (7, .pointer (some ⟨B_418, 0, none⟩)), (8, .pointer (some ⟨B_423, 0, none⟩))] ⟨rfl, rfl, rfl, rfl, rfl, trivial⟩
              refine then_normal ?_
              refine wp_region_lit ?_
              refine sq (opk_val hA514 rfl (r_fieldAddr (hA514.get rfl) Try.underlying33 rfl ti_9 (by decide)) fun a515 hA515 _ => ?_)
              refine sq (opk_val hA515 rfl (r_load1 Try.underlying9 rfl (hA515.get rfl) (hB512.cell 0 _ rfl)) fun a516 hA516 _ => ?_)
              refine sq (opk_val hA516 rfl (r_fieldAddr (hA516.get rfl) Try.underlying33 rfl ti_9 (by decide)) fun a517 hA517 _ => ?_)
              refine sq (opk_val hA517 rfl (r_load1 Try.underlying9 rfl (hA517.get rfl) (hB509.cell 0 _ rfl)) fun a518 hA518 _ => ?_)
              refine sq (opk_val hA518 rfl (r_slss (hA518.get rfl) (hA518.get rfl)) fun a519 hA519 _ => ?_)
              refine sq (opk_val hA519 rfl (r_move (hA519.get rfl)) fun a520 hA520 _ => ?_)
              refine sq (opk_gval hA520 rfl rfl (g := true) (e := (Op.bytesLess x_409_Name x_415_Name)) rfl (fun hg => r_fieldAddr (hA520.get rfl) Try.underlying33 rfl ti_9 (by decide)) fun a521 hA521 _ => ?_)
              refine sq (opk_gval hA521 rfl rfl (g := true) (e := (Op.bytesLess x_409_Name x_415_Name)) rfl (fun hg => r_load1 Try.underlying9 rfl (cv_get (hA521.get rfl) hg) (hB512.cell 0 _ rfl)) fun a522 hA522 _ => ?_)
              refine sq (opk_gval hA522 rfl rfl (g := true) (e := (Op.bytesLess x_409_Name x_415_Name)) rfl (fun hg => r_fieldAddr (hA522.get rfl) Try.underlying33 rfl ti_9 (by decide)) fun a523 hA523 _ => ?_)
              refine sq (opk_gval hA523 rfl rfl (g := true) (e := (Op.bytesLess x_409_Name x_415_Name)) rfl (fun hg => r_load1 Try.underlying9 rfl (cv_get (hA523.get rfl) hg) (hB509.cell 0 _ rfl)) fun a524 hA524 _ => ?_)
              refine sq (opk_gval hA524 rfl rfl (g := true) (e := (Op.bytesLess x_409_Name x_415_Name)) rfl (fun hg => r_seql (cv_get (hA524.get rfl) hg) (cv_get (hA524.get rfl) hg)) fun a525 hA525 _ => ?_)
              refine sq (opk_gval hA525 rfl rfl (g := true) (e := (Op.bytesLess x_409_Name x_415_Name)) rfl (fun hg => r_move (cv_get (hA525.get rfl) hg)) fun a526 hA526 _ => ?_)
              refine sq (opk_gval hA526 rfl rfl (g := (true && ((Op.bytesLess x_409_Name x_415_Name) == false))) (e := (decide (x_409_Name = x_415_Name))) rfl (fun hg => r_fieldAddr (hA526.get rfl) Try.underlying33 rfl ti_9 (by decide)) fun a527 hA527 _ => ?_)
              refine sq (opk_gval hA527 rfl rfl (g := (true && ((Op.bytesLess x_409_Name x_415_Name) == false))) (e := (decide (x_409_Name = x_415_Name))) rfl (fun hg => r_load1 Try.underlying9 rfl (cv_get (hA527.get rfl) hg) (hB512.cell 1 _ rfl)) fun a528 hA528 _ => ?_)
              refine sq (opk_gval hA528 rfl rfl (g := (true && ((Op.bytesLess x_409_Name x_415_Name) == false))) (e := (decide (x_409_Name = x_415_Name))) rfl (fun hg => r_fieldAddr (hA528.get rfl) Try.underlying33 rfl ti_9 (by decide)) fun a529 hA529 _ => ?_)
              refine sq (opk_gval hA529 rfl rfl (g := (true && ((Op.bytesLess x_409_Name x_415_Name) == false))) (e := (decide (x_409_Name = x_415_Name))) rfl (fun hg => r_load1 Try.underlying9 rfl (cv_get (hA529.get rfl) hg) (hB509.cell 1 _ rfl)) fun a530 hA530 _ => ?_)
              refine sq (opk_gval hA530 rfl rfl (g := (true && ((Op.bytesLess x_409_Name x_415_Name) == false))) (e := (decide (x_409_Name = x_415_Name))) rfl (fun hg => r_slss (cv_get (hA530.get rfl) hg) (cv_get (hA530.get rfl) hg)) fun a531 hA531 _ => ?_)
              refine sq (opk_gval hA531 rfl rfl (g := true) (e := (Op.bytesLess x_409_Name x_415_Name)) rfl (fun hg => r_pick_and (g := ((true && ((Op.bytesLess x_409_Name x_415_Name) == false)) && ((decide (x_409_Name = x_415_Name)) == true))) (cv_get (hA531.get rfl) hg) (hA531.get rfl) (fun he => g_mkt hg he)) fun a532 hA532 _ => ?_)
              refine sq (opk_val hA532 rfl (r_pick_or (g := (true && ((Op.bytesLess x_409_Name x_415_Name) == false))) (hA532.get rfl) (hA532.get rfl) (fun he => g_mkf rfl he)) fun a533 hA533 _ => ?_)
              refine sq (opk_val hA533 rfl (r_fieldAddr (hA533.get rfl) Try.underlying33 rfl ti_9 (by decide)) fun a534 hA534 _ => ?_)
              refine sq (opk_val hA534 rfl (r_load1 Try.underlying9 rfl (hA534.get rfl) (hB512.cell 0 _ rfl)) fun a535 hA535 _ => ?_)
              refine sq (opk_val hA535 rfl (r_fieldAddr (hA535.get rfl) Try.underlying33 rfl ti_9 (by decide)) fun a536 hA536 _ => ?_)
              refine sq (opk_val hA536 rfl (r_load1 Try.underlying9 rfl (hA536.get rfl) (hB509.cell 0 _ rfl)) fun a537 hA537 _ => ?_)
              refine sq (opk_val hA537 rfl (r_sgtr (hA537.get rfl) (hA537.get rfl)) fun a538 hA538 _ => ?_)
              refine sq (opk_val hA538 rfl (r_move (hA538.get rfl)) fun a539 hA539 _ => ?_)
              refine sq (opk_gval hA539 rfl rfl (g := true) (e := (!((Op.bytesLess x_409_Name x_415_Name) || (decide (x_409_Name = x_415_Name))))) rfl (fun hg => r_fieldAddr (hA539.get rfl) Try.underlying33 rfl ti_9 (by decide)) fun a540 hA540 _ => ?_)
              refine sq (opk_gval hA540 rfl rfl (g := true) (e := (!((Op.bytesLess x_409_Name x_415_Name) || (decide (x_409_Name = x_415_Name))))) rfl (fun hg => r_load1 Try.underlying9 rfl (cv_get (hA540.get rfl) hg) (hB512.cell 0 _ rfl)) fun a541 hA541 _ => ?_)
              refine sq (opk_gval hA541 rfl rfl (g := true) (e := (!((Op.bytesLess x_409_Name x_415_Name) || (decide (x_409_Name = x_415_Name))))) rfl (fun hg => r_fieldAddr (hA541.get rfl) Try.underlying33 rfl ti_9 (by decide)) fun a542 hA542 _ => ?_)
              refine sq (opk_gval hA542 rfl rfl (g := true) (e := (!((Op.bytesLess x_409_Name x_415_Name) || (decide (x_409_Name = x_415_Name))))) rfl (fun hg => r_load1 Try.underlying9 rfl (cv_get (hA542.get rfl) hg) (hB509.cell 0 _ rfl)) fun a543 hA543 _ => ?_)
              refine sq (opk_gval hA543 rfl rfl (g := true) (e := (!((Op.bytesLess x_409_Name x_415_Name) || (decide (x_409_Name = x_415_Name))))) rfl (fun hg => r_seql (cv_get (hA543.get rfl) hg) (cv_get (hA543.get rfl) hg)) fun a544 hA544 _ => ?_)
              refine sq (opk_gval hA544 rfl rfl (g := true) (e := (!((Op.bytesLess x_409_Name x_415_Name) || (decide (x_409_Name = x_415_Name))))) rfl (fun hg => r_move (cv_get (hA544.get rfl) hg)) fun a545 hA545 _ => ?_)
              refine sq (opk_gval hA545 rfl rfl (g := (true && ((!((Op.bytesLess x_409_Name x_415_Name) || (decide (x_409_Name = x_415_Name)))) == false))) (e := (decide (x_409_Name = x_415_Name))) rfl (fun hg => r_fieldAddr (hA545.get rfl) Try.underlying33 rfl ti_9 (by decide)) fun a546 hA546 _ => ?_)
              refine sq (opk_gval hA546 rfl rfl (g := (true && ((!((Op.bytesLess x_409_Name x_415_Name) || (decide (x_409_Name = x_415_Name)))) == false))) (e := (decide (x_409_Name = x_415_Name))) rfl (fun hg => r_load1 Try.underlying9 rfl (cv_get (hA546.get rfl) hg) (hB512.cell 1 _ rfl)) fun a547 hA547 _ => ?_)
              refine sq (opk_gval hA547 rfl rfl (g := (true && ((!((Op.bytesLess x_409_Name x_415_Name) || (decide (x_409_Name = x_415_Name)))) == false))) (e := (decide (x_409_Name = x_415_Name))) rfl (fun hg => r_fieldAddr (hA547.get rfl) Try.underlying33 rfl ti_9 (by decide)) fun a548 hA548 _ => ?_)
              refine sq (opk_gval hA548 rfl rfl (g := (true && ((!((Op.bytesLess x_409_Name x_415_Name) || (decide (x_409_Name = x_415_Name)))) == false))) (e := (decide (x_409_Name = x_415_Name))) rfl (fun hg => r_load1 Try.underlying9 rfl (cv_get (hA548.get rfl) hg) (hB509.cell 1 _ rfl)) fun a549 hA549 _ => ?_)
              refine sq (opk_gval hA549 rfl rfl (g := (true && ((!((Op.bytesLess x_409_Name x_415_Name) || (decide (x_409_Name = x_415_Name)))) == false))) (e := (decide (x_409_Name = x_415_Name))) rfl (fun hg => r_sgtr (cv_get (hA549.get rfl) hg) (cv_get (hA549.get rfl) hg)) fun a550 hA550 _ => ?_)
              refine sq (opk_gval hA550 rfl rfl (g := true) (e := (!((Op.bytesLess x_409_Name x_415_Name) || (decide (x_409_Name = x_415_Name))))) rfl (fun hg => r_pick_and (g := ((true && ((!((Op.bytesLess x_409_Name x_415_Name) || (decide (x_409_Name = x_415_Name)))) == false)) && ((decide (x_409_Name = x_415_Name)) == true))) (cv_get (hA550.get rfl) hg) (hA550.get rfl) (fun he => g_mkt hg he)) fun a551 hA551 _ => ?_)
              refine sq (opk_val hA551 rfl (r_pick_or (g := (true && ((!((Op.bytesLess x_409_Name x_415_Name) || (decide (x_409_Name = x_415_Name)))) == false))) (hA551.get rfl) (hA551.get rfl) (fun he => g_mkf rfl he)) fun a552 hA552 _ => ?_)
              have ht553 := ht456 w505    hC513
              refine sq (opk_call hA552 rfl (r_call (args := #[.bool ((Op.bytesLess x_409_Name x_415_Name) || ((decide (x_409_Name = x_415_Name)) && (Op.bytesLess x_409_Value x_415_Value))), .bool ((!((Op.bytesLess x_409_Name x_415_Name) || (decide (x_409_Name = x_415_Name)))) || ((decide (x_409_Name = x_415_Name)) && (!((Op.bytesLess x_409_Value x_415_Value) || (decide (x_409_Value = x_415_Value))))))]) Try.func46 (by decide) rfl (map_arr (ml_cons (hA552.get rfl) (ml_cons (hA552.get rfl) ml_nil))) rfl) ht553 fun a555 v561 w556 hA555 _ hn558 hz559 hK560 => ?_)
              obtain ⟨r_554, rfl, ht557⟩ := hK560
              have hB562 := hB510.kept hn558 (.head _)
              have hB563 := hB511.kept hn558 (.tail _ (.head _))
              have hB564 := hB512.kept hn558 (.tail _ (.tail _ (.head _)))
              have hB565 := hB509.kept hn558 (.tail _ (.tail _ (.tail _ (.head _))))
              refine sq (opk_val hA555 rfl (r_assign (hA555.get rfl)) fun a566 hA566 _ => ?_)
              refine sq_end ?_
              have hA567 := hA566.keep [(2, .pointer (some ⟨B_3, 0, none⟩)), (3, .pointer (some ⟨B_11, 0, none⟩)), (5, .int .i64 r_554), (6, .int .i64 i_174)] ⟨rfl, rfl, rfl, rfl, trivial⟩
              refine block_normal ?_
              refine then_normal ?_
              refine wp_region_lit ?_
              refine sq (opk_val hA567 rfl (r_move (hA567.get rfl)) fun a568 hA568 _ => ?_)
              obtain ⟨hS570, ht571⟩ := ht557
              refine sq (opk_val hA568 rfl (r_addI (hA568.get rfl) rfl hS570) fun a569 hA569 _ => ?_)
              refine sq (opk_val hA569 rfl (r_assign (hA569.get rfl)) fun a572 hA572 _ => ?_)
              refine sq_end ?_
              have hA573 := hA572.keep [(2, .pointer (some ⟨B_3, 0, none⟩)), (3, .pointer (some ⟨B_11, 0, none⟩)), (5, .int .i64 r_554), (6, .int .i64 (i_174 + 1))] ⟨rfl, rfl, rfl, rfl, trivial⟩
              have hA574 := hA573.keep [(2, .pointer (some ⟨B_3, 0, none⟩)), (3, .pointer (some ⟨B_11, 0, none⟩)), (5, .int .i64 r_554), (6, .int .i64 (i_174 + 1))] ⟨rfl, rfl, rfl, rfl, trivial⟩
              exact then_normal ⟨(r_554, i_174 + 1, w556), ⟨hA574, hB562, hB563, rfl, ht571.1⟩, ht571.2⟩
      · have ht399 := ht379.2 ((b_and_f hc).imp (fun h => ((b_and_f h).imp (fun h => (of_decide_eq_false h)) (fun h => (of_decide_eq_false h)))) (fun h => (of_decide_eq_false h)))
        clear hc
        refine wp_exit ?_
        refine then_exit ?_
        refine then_exit ?_
        refine block_hit ?_
        have hA575 := hA397.keep [(2, .pointer (some ⟨B_3, 0, none⟩)), (3, .pointer (some ⟨B_11, 0, none⟩)), (5, .int .i64 c_173)] ⟨rfl, rfl, rfl, trivial⟩
        refine then_normal ?_
        refine wp_seq ?_
        refine wp_seq ?_
        refine wp_region_lit ?_
        refine sq (opk_val hA575 rfl (r_move (hA575.get rfl)) fun a576 hA576 _ => ?_)
        refine sq (opk_val hA576 rfl (r_eql (hA576.get rfl) rfl) fun a577 hA577 _ => ?_)
        refine sq_end ?_
        have hA578 := hA577.keep [(2, .pointer (some ⟨B_3, 0, none⟩)), (3, .pointer (some ⟨B_11, 0, none⟩)), (5, .int .i64 c_173), (114, .bool (decide (c_173 = 0)))] ⟨rfl, rfl, rfl, rfl, trivial⟩
        refine then_normal ?_
        refine wp_cond_split (hA578.get rfl) (fun hc => ?_) (fun hc => ?_)
        · have ht579 := ht399.1 (of_decide_eq_true hc)
          clear hc
          refine wp_region_lit ?_
          refine sq (opk_val hA578 rfl (r_fieldAddr (hA578.get rfl) Try.underlying26 rfl ti_23 (by decide)) fun a581 hA581 _ => ?_)
          refine sq (opk_val hA581 rfl (r_load1 Try.underlying23 rfl (hA581.get rfl) (hB375.cell 3 _ rfl)) fun a582 hA582 _ => ?_)
          refine sq (opk_val hA582 rfl (r_len (hA582.get rfl) Try.underlying23) fun a583 hA583 _ => ?_)
          refine sq (opk_val hA583 rfl (r_fieldAddr (hA583.get rfl) Try.underlying26 rfl ti_23 (by decide)) fun a584 hA584 _ => ?_)
          refine sq (opk_val hA584 rfl (r_load1 Try.underlying23 rfl (hA584.get rfl) (hB376.cell 3 _ rfl)) fun a585 hA585 _ => ?_)
          refine sq (opk_val hA585 rfl (r_len (hA585.get rfl) Try.underlying23) fun a586 hA586 _ => ?_)
          refine sq (opk_val hA586 rfl (r_lss (hA586.get rfl) (hA586.get rfl)) fun a587 hA587 _ => ?_)
          refine sq (opk_val hA587 rfl (r_fieldAddr (hA587.get rfl) Try.underlying26 rfl ti_23 (by decide)) fun a588 hA588 _ => ?_)
          refine sq (opk_val hA588 rfl (r_load1 Try.underlying23 rfl (hA588.get rfl) (hB375.cell 3 _ rfl)) fun a589 hA589 _ => ?_)
          refine sq (opk_val hA589 rfl (r_len (hA589.get rfl) Try.underlying23) fun a590 hA590 _ => ?_)
          refine sq (opk_val hA590 rfl (r_fieldAddr (hA590.get rfl) Try.underlying26 rfl ti_23 (by decide)) fun a591 hA591 _ => ?_)
          refine sq (opk_val hA591 rfl (r_load1 Try.underlying23 rfl (hA591.get rfl) (hB376.cell 3 _ rfl)) fun a592 hA592 _ => ?_)
          refine sq (opk_val hA592 rfl (r_len (hA592.get rfl) Try.underlying23) fun a593 hA593 _ => ?_)
          refine sq (opk_val hA593 rfl (r_gtr (hA593.get rfl) (hA593.get rfl)) fun a594 hA594 _ => ?_)
          refine sq (opk_call hA594 rfl (r_call (args := #[.bool (decide ((a_1_Attrs.n : Int) < (b_2_Attrs.n : Int))), .bool (decide ((b_2_Attrs.n : Int) < (a_1_Attrs.n : Int)))]) Try.func46 (by decide) rfl (map_arr (ml_cons (hA594.get rfl) (ml_cons (hA594.get rfl) ml_nil))) rfl) ht579 fun a596 v602 w597 hA596 _ hn599 hz600 hK601 => ?_)
          obtain ⟨r_595, rfl, ht598⟩ := hK601
          have hB603 := hB375.kept hn599 (.head _)
          have hB604 := hB376.kept hn599 (.tail _ (.head _))
          refine sq (opk_val hA596 rfl (r_assign (hA596.get rfl)) fun a605 hA605 _ => ?_)
          refine sq_end ?_
          have hA606 := hA605.keep [(5, .int .i64 r_595)] ⟨rfl, trivial⟩
          refine then_normal ?_
          refine wp_seq ?_
          refine wp_region_lit ?_
          refine sq (opk_val hA606 rfl (r_move (hA606.get rfl)) fun a607 hA607 _ => ?_)
          refine sq (opk_val hA607 rfl (r_assign (hA607.get rfl)) fun a608 hA608 _ => ?_)
          refine sq_end ?_
          have hA609 := hA608.keep [(4, .int .i64 r_595)] ⟨rfl, trivial⟩
          refine then_normal ?_
          refine wp_ret ?_
          exact res_all (vs := [.int .i64 r_595]) rfl hA609 ⟨res_of_tmp hA609 rfl, trivial⟩ ht598
        · have ht580 := ht399.2 (of_decide_eq_false hc)
          clear hc
          refine wp_skip ?_
          refine then_normal ?_
          refine wp_seq ?_
          refine wp_region_lit ?_
          refine sq (opk_val hA578 rfl (r_move (hA578.get rfl)) fun a610 hA610 _ => ?_)
          refine sq (opk_val hA610 rfl (r_assign (hA610.get rfl)) fun a611 hA611 _ => ?_)
          refine sq_end ?_
          have hA612 := hA611.keep [(4, .int .i64 c_173)] ⟨rfl, trivial⟩
          refine then_normal ?_
          refine wp_ret ?_
          exact res_all (vs := [.int .i64 c_173]) rfl hA612 ⟨res_of_tmp hA612 rfl, trivial⟩ ht580

/-- The condition of topiary/topiaryref05.sign. -/
def ref05_sign.vc (less_1 : Bool) (more_2 : Bool) (R : Value → World → Prop) (w : World) : Prop :=
((less_1 = true) →
R (.int .i64 (-1)) w) ∧
((less_1 = false) →
((more_2 = true) →
R (.int .i64 1) w) ∧
((more_2 = false) →
R (.int .i64 0) w))
set_option maxHeartbeats 1000000 in
set_option maxRecDepth 10000 in
theorem ref05_sign.ok (less_1 : Bool) (more_2 : Bool) {R : Value → World → Prop} {w : World} (ht0 : ref05_sign.vc less_1 more_2 R w) : Calls Try.prog 46 #[.bool less_1, .bool more_2] w (Ret R) := by
  refine enter [.bool less_1, .bool more_2] Try.func46 rfl Try.ntmps46 rfl ?_
  intro a0 hA0
  unfold ref05_sign.vc at ht0
  refine wp_seq ?_
  refine wp_region_lit ?_
  refine sq (opk_val hA0 rfl (r_assign rfl) fun a3 hA3 _ => ?_)
  refine sq_end ?_
  have hA4 := hA3.keep [(0, .bool less_1), (1, .bool more_2)] ⟨rfl, rfl, trivial⟩
  refine then_normal ?_
  refine wp_seq ?_
  refine wp_block ?_
  refine wp_seq ?_
  refine wp_region_lit ?_
  refine sq (opk_val hA4 rfl (r_move (hA4.get rfl)) fun a5 hA5 _ => ?_)
  refine sq (opk_val hA5 rfl (r_assign (hA5.get rfl)) fun a6 hA6 _ => ?_)
  refine sq_end ?_
  have hA7 := hA6.keep [(1, .bool more_2), (5, .bool less_1)] ⟨rfl, rfl, trivial⟩
  refine then_normal ?_
  refine wp_cond_split (hA7.get rfl) (fun hc => ?_) (fun hc => ?_)
  · have ht8 := ht0.1 hc
    clear hc
    refine wp_seq ?_
    refine wp_region_lit ?_
    refine sq (opk_val hA7 rfl (r_assign rfl) fun a10 hA10 _ => ?_)
    refine sq_end ?_
    have hA11 := hA10.keep [(4, .int .i64 (-1))] ⟨rfl, trivial⟩
    refine then_normal ?_
    refine wp_ret ?_
    refine block_ret ?_
    refine then_ret ?_
    exact res_all (vs := [.int .i64 (-1)]) rfl hA11 ⟨res_of_tmp hA11 rfl, trivial⟩ ht8
  · have ht9 := ht0.2 hc
    clear hc
    refine wp_seq ?_
    refine wp_region_lit ?_
    refine sq (opk_val hA7 rfl (r_move (hA7.get rfl)) fun a12 hA12 _ => ?_)
    refine sq (opk_val hA12 rfl (r_assign (hA12.get rfl)) fun a13 hA13 _ => ?_)
    refine sq_end ?_
    have hA14 := hA13.keep [(7, .bool more_2)] ⟨rfl, trivial⟩
    refine then_normal ?_
    refine wp_cond_split (hA14.get rfl) (fun hc => ?_) (fun hc => ?_)
    · have ht15 := ht9.1 hc
      clear hc
      refine wp_seq ?_
      refine wp_region_lit ?_
      refine sq (opk_val hA14 rfl (r_assign rfl) fun a17 hA17 _ => ?_)
      refine sq_end ?_
      have hA18 := hA17.keep [(4, .int .i64 1)] ⟨rfl, trivial⟩
      refine then_normal ?_
      refine wp_ret ?_
      refine block_ret ?_
      refine then_ret ?_
      exact res_all (vs := [.int .i64 1]) rfl hA18 ⟨res_of_tmp hA18 rfl, trivial⟩ ht15
    · have ht16 := ht9.2 hc
      clear hc
      refine wp_skip ?_
      refine block_normal ?_
      refine then_normal ?_
      refine wp_seq ?_
      refine wp_region_lit ?_
      refine sq (opk_val hA14 rfl (r_assign rfl) fun a19 hA19 _ => ?_)
      refine sq_end ?_
      have hA20 := hA19.keep [(4, .int .i64 0)] ⟨rfl, trivial⟩
      refine then_normal ?_
      refine wp_ret ?_
      exact res_all (vs := [.int .i64 0]) rfl hA20 ⟨res_of_tmp hA20 rfl, trivial⟩ ht16

/-- The condition of topiary/tree.node. -/
def tree_node.vc (t_1_Kind : Int) (t_1_Name : Str) (t_1_Text : Str) (t_1_Attrs : Sl) (t_1_Kids : Sl) (R : Value → World → Prop) (w : World) : Prop :=
((t_1_Kind = 2) →
∀ (w3 : World) (B_2 : Nat), New w B_2 w3 → Chg [] w w3 →
CallK Try.prog 19 #[.string (Bs t_1_Name)] w3 [B_2] (fun v w23 => ∃ (r_21 : Bool), v = .bool r_21 ∧
∃ (r_38 : Bool), ((((r_21 = true) ∧ (t_1_Text = ([] : Str)))) → Calls Try.prog 51 #[Sl.v t_1_Attrs] w23 (Ret fun v w' => Ext w23 w' ∧ v = .bool r_38)) ∧
(∀ w40 : World, Ext w23 w40 →
∃ (r_50 : Bool), (((((r_21 = true) ∧ (t_1_Text = ([] : Str))) ∧ (r_38 = true))) → Calls Try.prog 37 #[.agg #[.int .i64 t_1_Kind, .string (Bs t_1_Name), .string (Bs t_1_Text), Sl.v t_1_Attrs, Sl.v t_1_Kids]] w40 (Ret fun v w' => Ext w40 w' ∧ v = .bool r_50)) ∧
(∀ w52 : World, Ext w40 w52 →
R (.bool (((r_21 && (decide (t_1_Text = ([] : Str)))) && r_38) && r_50)) w52)))) ∧
((¬ (t_1_Kind = 2)) →
(((0 < (t_1_Attrs.n : Int)) ∨ (0 < (t_1_Kids.n : Int))) →
∀ (w3 : World) (B_2 : Nat), New w B_2 w3 → Chg [] w w3 →
R (.bool false) w3) ∧
(((¬ (0 < (t_1_Attrs.n : Int))) ∧ (¬ (0 < (t_1_Kids.n : Int)))) →
((t_1_Kind = 3) →
∀ (w3 : World) (B_2 : Nat), New w B_2 w3 → Chg [] w w3 →
R (.bool (((decide (t_1_Name = ([] : Str))) && (decide (t_1_Text ≠ ([] : Str)))) && (decide ((t_1_Text.length : Int) ≤ 4096)))) w3) ∧
((¬ (t_1_Kind = 3)) →
((t_1_Kind = 4) →
∀ (w3 : World) (B_2 : Nat), New w B_2 w3 → Chg [] w w3 →
R (.bool ((decide (t_1_Name = ([] : Str))) && (decide ((t_1_Text.length : Int) ≤ 4096)))) w3) ∧
((¬ (t_1_Kind = 4)) →
((t_1_Kind = 5) →
∀ (w3 : World) (B_2 : Nat), New w B_2 w3 → Chg [] w w3 →
R (.bool ((decide (t_1_Text = ([] : Str))) && (decide ((t_1_Name.length : Int) ≤ 32)))) w3) ∧
((¬ (t_1_Kind = 5)) →
∀ (w3 : World) (B_2 : Nat), New w B_2 w3 → Chg [] w w3 →
R (.bool false) w3)))))
set_option maxHeartbeats 1000000 in
set_option maxRecDepth 10000 in
theorem tree_node.ok (t_1_Kind : Int) (t_1_Name : Str) (t_1_Text : Str) (t_1_Attrs : Sl) (t_1_Kids : Sl) {R : Value → World → Prop} {w : World} (ht0 : tree_node.vc t_1_Kind t_1_Name t_1_Text t_1_Attrs t_1_Kids R w) : Calls Try.prog 47 #[.agg #[.int .i64 t_1_Kind, .string (Bs t_1_Name), .string (Bs t_1_Text), Sl.v t_1_Attrs, Sl.v t_1_Kids]] w (Ret R) := by
  refine enter [.agg #[.int .i64 t_1_Kind, .string (Bs t_1_Name), .string (Bs t_1_Text), Sl.v t_1_Attrs, Sl.v t_1_Kids]] Try.func47 rfl Try.ntmps47 rfl ?_
  intro a0 hA0
  unfold tree_node.vc at ht0
  refine wp_seq ?_
  refine wp_region_lit ?_
  refine sq (opk_new (fun B => .pointer (some ⟨B, 0, none⟩)) hA0 rfl (r_box (cs := [.int .i64 t_1_Kind, .string (Bs t_1_Name), .string (Bs t_1_Text), Sl.v t_1_Attrs, Sl.v t_1_Kids]) (hA0.get rfl) rfl) fun a4 w3 B_2 hE5 hN6 hB7 hA4 _ => ?_)
  have hN8 : New w B_2 w3 := hN6
  have hC9 : Chg [] w w3 := hE5
  refine sq (opk_val hA4 rfl (r_assign rfl) fun a10 hA10 _ => ?_)
  refine sq_end ?_
  have hA11 := hA10.keep [(1, .pointer (some ⟨B_2, 0, none⟩))] ⟨rfl, trivial⟩
  refine then_normal ?_
  refine wp_seq ?_
  refine wp_seq ?_
  refine wp_region_lit ?_
  refine sq (opk_val hA11 rfl (r_fieldAddr (hA11.get rfl) Try.underlying26 rfl ti_3 (by decide)) fun a12 hA12 _ => ?_)
  refine sq (opk_val hA12 rfl (r_load1 Try.underlying3 rfl (hA12.get rfl) (hB7.cell 0 _ rfl)) fun a13 hA13 _ => ?_)
  refine sq (opk_val hA13 rfl (r_eql (hA13.get rfl) rfl) fun a14 hA14 _ => ?_)
  refine sq_end ?_
  have hA15 := hA14.keep [(1, .pointer (some ⟨B_2, 0, none⟩)), (5, .bool (decide (t_1_Kind = 2)))] ⟨rfl, rfl, trivial⟩
  refine then_normal ?_
  refine wp_cond_split (hA15.get rfl) (fun hc => ?_) (fun hc => ?_)
  · have ht16 := ht0.1 (of_decide_eq_true hc)
    clear hc
    refine wp_seq ?_
    refine wp_region_lit ?_
    refine sq (opk_val hA15 rfl (r_fieldAddr (hA15.get rfl) Try.underlying26 rfl ti_9 (by decide)) fun a18 hA18 _ => ?_)
    refine sq (opk_val hA18 rfl (r_load1 Try.underlying9 rfl (hA18.get rfl) (hB7.cell 1 _ rfl)) fun a19 hA19 _ => ?_)
    have ht20 := ht16 w3 B_2 hN8  hC9
    refine sq (opk_call hA19 rfl (r_call (args := #[.string (Bs t_1_Name)]) Try.func19 (by decide) rfl (map_arr (ml_cons (hA19.get rfl) ml_nil)) rfl) ht20 fun a22 v28 w23 hA22 _ hn25 hz26 hK27 => ?_)
    obtain ⟨r_21, rfl, ht24⟩ := hK27
    have hB29 := hB7.kept hn25 (.head _)
    refine sq (opk_val hA22 rfl (r_move (hA22.get rfl)) fun a30 hA30 _ => ?_)
    refine sq (opk_gval hA30 rfl rfl (g := true) (e := r_21) rfl (fun hg => r_fieldAddr (hA30.get rfl) Try.underlying26 rfl ti_9 (by decide)) fun a31 hA31 _ => ?_)
    refine sq (opk_gval hA31 rfl rfl (g := true) (e := r_21) rfl (fun hg => r_load1 Try.underlying9 rfl (cv_get (hA31.get rfl) hg) (hB29.cell 2 _ rfl)) fun a32 hA32 _ => ?_)
    refine sq (opk_gval hA32 rfl rfl (g := true) (e := r_21) rfl (fun hg => r_seql (cv_get (hA32.get rfl) hg) rfl) fun a33 hA33 _ => ?_)
    refine sq (opk_val hA33 rfl (r_pick_and (g := (true && (r_21 == true))) (hA33.get rfl) (hA33.get rfl) (fun he => g_mkt rfl he)) fun a34 hA34 _ => ?_)
    refine sq (opk_val hA34 rfl (r_move (hA34.get rfl)) fun a35 hA35 _ => ?_)
    refine sq (opk_gval hA35 rfl rfl (g := true) (e := (r_21 && (decide (t_1_Text = ([] : Str))))) rfl (fun hg => r_fieldAddr (hA35.get rfl) Try.underlying26 rfl ti_23 (by decide)) fun a36 hA36 _ => ?_)
    refine sq (opk_gval hA36 rfl rfl (g := true) (e := (r_21 && (decide (t_1_Text = ([] : Str))))) rfl (fun hg => r_load1 Try.underlying23 rfl (cv_get (hA36.get rfl) hg) (hB29.cell 3 _ rfl)) fun a37 hA37 _ => ?_)
    obtain ⟨r_38, hc42, ht41⟩ := ht24
    refine sq (opk_gcall hA37 rfl rfl (g := true) (e := (r_21 && (decide (t_1_Text = ([] : Str))))) rfl (fun hg => r_call (args := #[Sl.v t_1_Attrs]) Try.func51 (by decide) rfl (map_arr (ml_cons (cv_get (hA37.get rfl) hg) ml_nil)) rfl) (fun hg => hc42 ⟨(b_and_t (g_t hg)).1, (of_decide_eq_true (b_and_t (g_t hg)).2)⟩) fun a39 w40 hA39 _ hE43 => ?_)
    have hB44 := hB29.ext hE43
    have hC45 : Chg [] w23 w40 := hE43
    have ht46 := ht41 w40 hE43
    refine sq (opk_val hA39 rfl (r_pick_and (g := (true && ((r_21 && (decide (t_1_Text = ([] : Str)))) == true))) (hA39.get rfl) (hA39.get rfl) (fun he => g_mkt rfl he)) fun a47 hA47 _ => ?_)
    refine sq (opk_val hA47 rfl (r_move (hA47.get rfl)) fun a48 hA48 _ => ?_)
    refine sq (opk_gval hA48 rfl rfl (g := true) (e := ((r_21 && (decide (t_1_Text = ([] : Str)))) && r_38)) rfl (fun hg => r_loadN (cs := [.int .i64 t_1_Kind, .string (Bs t_1_Name), .string (Bs t_1_Text), Sl.v t_1_Attrs, Sl.v t_1_Kids]) Try.underlying26 rfl ti_26 (hA48.get rfl) (hB44.part 0 _ rfl)) fun a49 hA49 _ => ?_)
    obtain ⟨r_50, hc54, ht53⟩ := ht46
    refine sq (opk_gcall hA49 rfl rfl (g := true) (e := ((r_21 && (decide (t_1_Text = ([] : Str)))) && r_38)) rfl (fun hg => r_call (args := #[.agg #[.int .i64 t_1_Kind, .string (Bs t_1_Name), .string (Bs t_1_Text), Sl.v t_1_Attrs, Sl.v t_1_Kids]]) Try.func37 (by decide) rfl (map_arr (ml_cons (cv_get (hA49.get rfl) hg) ml_nil)) rfl) (fun hg => hc54 ⟨⟨(b_and_t (b_and_t (g_t hg)).1).1, (of_decide_eq_true (b_and_t (b_and_t (g_t hg)).1).2)⟩, (b_and_t (g_t hg)).2⟩) fun a51 w52 hA51 _ hE55 => ?_)
    have hB56 := hB44.ext hE55
    have hC57 : Chg [] w40 w52 := hE55
    have ht58 := ht53 w52 hE55
    refine sq (opk_val hA51 rfl (r_pick_and (g := (true && (((r_21 && (decide (t_1_Text = ([] : Str)))) && r_38) == true))) (hA51.get rfl) (hA51.get rfl) (fun he => g_mkt rfl he)) fun a59 hA59 _ => ?_)
    refine sq (opk_val hA59 rfl (r_assign (hA59.get rfl)) fun a60 hA60 _ => ?_)
    refine sq_end ?_
    have hA61 := hA60.keep [(2, .bool (((r_21 && (decide (t_1_Text = ([] : Str)))) && r_38) && r_50))] ⟨rfl, trivial⟩
    refine then_normal ?_
    refine wp_ret ?_
    refine then_ret ?_
    exact res_all (vs := [.bool (((r_21 && (decide (t_1_Text = ([] : Str)))) && r_38) && r_50)]) rfl hA61 ⟨res_of_tmp hA61 rfl, trivial⟩ ht58
  · have ht17 := ht0.2 (of_decide_eq_false hc)
    clear hc
    refine wp_skip ?_
    refine then_normal ?_
    refine wp_seq ?_
    refine wp_seq ?_
    refine wp_region_lit ?_
    refine sq (opk_val hA15 rfl (r_fieldAddr (hA15.get rfl) Try.underlying26 rfl ti_23 (by decide)) fun a62 hA62 _ => ?_)
    refine sq (opk_val hA62 rfl (r_load1 Try.underlying23 rfl (hA62.get rfl) (hB7.cell 3 _ rfl)) fun a63 hA63 _ => ?_)
    refine sq (opk_val hA63 rfl (r_len (hA63.get rfl) Try.underlying23) fun a64 hA64 _ => ?_)
    refine sq (opk_val hA64 rfl (r_gtr (hA64.get rfl) rfl) fun a65 hA65 _ => ?_)
    refine sq (opk_val hA65 rfl (r_move (hA65.get rfl)) fun a66 hA66 _ => ?_)
    refine sq (opk_gval hA66 rfl rfl (g := true) (e := (decide (0 < (t_1_Attrs.n : Int)))) rfl (fun hg => r_fieldAddr (hA66.get rfl) Try.underlying26 rfl ti_24 (by decide)) fun a67 hA67 _ => ?_)
    refine sq (opk_gval hA67 rfl rfl (g := true) (e := (decide (0 < (t_1_Attrs.n : Int)))) rfl (fun hg => r_load1 Try.underlying24 rfl (cv_get (hA67.get rfl) hg) (hB7.cell 4 _ rfl)) fun a68 hA68 _ => ?_)
    refine sq (opk_gval hA68 rfl rfl (g := true) (e := (decide (0 < (t_1_Attrs.n : Int)))) rfl (fun hg => r_len (cv_get (hA68.get rfl) hg) Try.underlying24) fun a69 hA69 _ => ?_)
    refine sq (opk_gval hA69 rfl rfl (g := true) (e := (decide (0 < (t_1_Attrs.n : Int)))) rfl (fun hg => r_gtr (cv_get (hA69.get rfl) hg) rfl) fun a70 hA70 _ => ?_)
    refine sq (opk_val hA70 rfl (r_pick_or (g := (true && ((decide (0 < (t_1_Attrs.n : Int))) == false))) (hA70.get rfl) (hA70.get rfl) (fun he => g_mkf rfl he)) fun a71 hA71 _ => ?_)
    refine sq_end ?_
    have hA72 := hA71.keep [(1, .pointer (some ⟨B_2, 0, none⟩)), (32, .bool ((decide (0 < (t_1_Attrs.n : Int))) || (decide (0 < (t_1_Kids.n : Int)))))] ⟨rfl, rfl, trivial⟩
    refine then_normal ?_
    refine wp_cond_split (hA72.get rfl) (fun hc => ?_) (fun hc => ?_)
    · have ht73 := ht17.1 ((b_or_t hc).imp (fun h => (of_decide_eq_true h)) (fun h => (of_decide_eq_true h)))
      clear hc
      refine wp_seq ?_
      refine wp_region_lit ?_
      refine sq (opk_val hA72 rfl (r_assign rfl) fun a75 hA75 _ => ?_)
      refine sq_end ?_
      have hA76 := hA75.keep [(2, .bool false)] ⟨rfl, trivial⟩
      refine then_normal ?_
      refine wp_ret ?_
      refine then_ret ?_
      have ht77 := ht73 w3 B_2 hN8  hC9
      exact res_all (vs := [.bool false]) rfl hA76 ⟨res_of_tmp hA76 rfl, trivial⟩ ht77
    · have ht74 := ht17.2 ⟨(of_decide_eq_false (b_or_f hc).1), (of_decide_eq_false (b_or_f hc).2)⟩
      clear hc
      refine wp_skip ?_
      refine then_normal ?_
      refine wp_seq ?_
      refine wp_seq ?_
      refine wp_region_lit ?_
      refine sq (opk_val hA72 rfl (r_fieldAddr (hA72.get rfl) Try.underlying26 rfl ti_3 (by decide)) fun a78 hA78 _ => ?_)
      refine sq (opk_val hA78 rfl (r_load1 Try.underlying3 rfl (hA78.get rfl) (hB7.cell 0 _ rfl)) fun a79 hA79 _ => ?_)
      refine sq_end ?_
      have hA80 := hA79.keep [(1, .pointer (some ⟨B_2, 0, none⟩)), (34, .int .i64 t_1_Kind)] ⟨rfl, rfl, trivial⟩
      refine then_normal ?_
      refine wp_block ?_
      refine wp_seq ?_
      refine wp_region_lit ?_
      refine sq (opk_val hA80 rfl (r_eql (hA80.get rfl) rfl) fun a81 hA81 _ => ?_)
      refine sq (opk_val hA81 rfl (r_assign (hA81.get rfl)) fun a82 hA82 _ => ?_)
      refine sq_end ?_
      have hA83 := hA82.keep [(1, .pointer (some ⟨B_2, 0, none⟩)), (34, .int .i64 t_1_Kind), (35, .bool (decide (t_1_Kind = 3)))] ⟨rfl, rfl, rfl, trivial⟩
      refine then_normal ?_
      refine wp_cond_split (hA83.get rfl) (fun hc => ?_) (fun hc => ?_)
      · have ht84 := ht74.1 (of_decide_eq_true hc)
        clear hc
        refine wp_seq ?_
        refine wp_region_lit ?_
        refine sq (opk_val hA83 rfl (r_fieldAddr (hA83.get rfl) Try.underlying26 rfl ti_9 (by decide)) fun a86 hA86 _ => ?_)
        refine sq (opk_val hA86 rfl (r_load1 Try.underlying9 rfl (hA86.get rfl) (hB7.cell 1 _ rfl)) fun a87 hA87 _ => ?_)
        refine sq (opk_val hA87 rfl (r_seql (hA87.get rfl) rfl) fun a88 hA88 _ => ?_)
        refine sq (opk_val hA88 rfl (r_move (hA88.get rfl)) fun a89 hA89 _ => ?_)
        refine sq (opk_gval hA89 rfl rfl (g := true) (e := (decide (t_1_Name = ([] : Str)))) rfl (fun hg => r_fieldAddr (hA89.get rfl) Try.underlying26 rfl ti_9 (by decide)) fun a90 hA90 _ => ?_)
        refine sq (opk_gval hA90 rfl rfl (g := true) (e := (decide (t_1_Name = ([] : Str)))) rfl (fun hg => r_load1 Try.underlying9 rfl (cv_get (hA90.get rfl) hg) (hB7.cell 2 _ rfl)) fun a91 hA91 _ => ?_)
        refine sq (opk_gval hA91 rfl rfl (g := true) (e := (decide (t_1_Name = ([] : Str)))) rfl (fun hg => r_sneq (cv_get (hA91.get rfl) hg) rfl) fun a92 hA92 _ => ?_)
        refine sq (opk_val hA92 rfl (r_pick_and (g := (true && ((decide (t_1_Name = ([] : Str))) == true))) (hA92.get rfl) (hA92.get rfl) (fun he => g_mkt rfl he)) fun a93 hA93 _ => ?_)
        refine sq (opk_val hA93 rfl (r_move (hA93.get rfl)) fun a94 hA94 _ => ?_)
        refine sq (opk_gval hA94 rfl rfl (g := true) (e := ((decide (t_1_Name = ([] : Str))) && (decide (t_1_Text ≠ ([] : Str))))) rfl (fun hg => r_fieldAddr (hA94.get rfl) Try.underlying26 rfl ti_9 (by decide)) fun a95 hA95 _ => ?_)
        refine sq (opk_gval hA95 rfl rfl (g := true) (e := ((decide (t_1_Name = ([] : Str))) && (decide (t_1_Text ≠ ([] : Str))))) rfl (fun hg => r_load1 Try.underlying9 rfl (cv_get (hA95.get rfl) hg) (hB7.cell 2 _ rfl)) fun a96 hA96 _ => ?_)
        refine sq (opk_gval hA96 rfl rfl (g := true) (e := ((decide (t_1_Name = ([] : Str))) && (decide (t_1_Text ≠ ([] : Str))))) rfl (fun hg => r_slen (cv_get (hA96.get rfl) hg) Try.underlying9) fun a97 hA97 _ => ?_)
        refine sq (opk_gval hA97 rfl rfl (g := true) (e := ((decide (t_1_Name = ([] : Str))) && (decide (t_1_Text ≠ ([] : Str))))) rfl (fun hg => r_leq (cv_get (hA97.get rfl) hg) rfl) fun a98 hA98 _ => ?_)
        refine sq (opk_val hA98 rfl (r_pick_and (g := (true && (((decide (t_1_Name = ([] : Str))) && (decide (t_1_Text ≠ ([] : Str)))) == true))) (hA98.get rfl) (hA98.get rfl) (fun he => g_mkt rfl he)) fun a99 hA99 _ => ?_)
        refine sq (opk_val hA99 rfl (r_assign (hA99.get rfl)) fun a100 hA100 _ => ?_)
        refine sq_end ?_
        have hA101 := hA100.keep [(2, .bool (((decide (t_1_Name = ([] : Str))) && (decide (t_1_Text ≠ ([] : Str)))) && (decide ((t_1_Text.length : Int) ≤ 4096))))] ⟨rfl, trivial⟩
        refine then_normal ?_
        refine wp_ret ?_
        refine block_ret ?_
        refine then_ret ?_
        have ht102 := ht84 w3 B_2 hN8  hC9
        exact res_all (vs := [.bool (((decide (t_1_Name = ([] : Str))) && (decide (t_1_Text ≠ ([] : Str)))) && (decide ((t_1_Text.length : Int) ≤ 4096)))]) rfl hA101 ⟨res_of_tmp hA101 rfl, trivial⟩ ht102
      · have ht85 := ht74.2 (of_decide_eq_false hc)
        clear hc
        refine wp_seq ?_
        refine wp_region_lit ?_
        refine sq (opk_val hA83 rfl (r_eql (hA83.get rfl) rfl) fun a103 hA103 _ => ?_)
        refine sq (opk_val hA103 rfl (r_assign (hA103.get rfl)) fun a104 hA104 _ => ?_)
        refine sq_end ?_
        have hA105 := hA104.keep [(1, .pointer (some ⟨B_2, 0, none⟩)), (34, .int .i64 t_1_Kind), (51, .bool (decide (t_1_Kind = 4)))] ⟨rfl, rfl, rfl, trivial⟩
        refine then_normal ?_
        refine wp_cond_split (hA105.get rfl) (fun hc => ?_) (fun hc => ?_)
        · have ht106 := ht85.1 (of_decide_eq_true hc)
          clear hc
          refine wp_seq ?_
          refine wp_region_lit ?_
          refine sq (opk_val hA105 rfl (r_fieldAddr (hA105.get rfl) Try.underlying26 rfl ti_9 (by decide)) fun a108 hA108 _ => ?_)
          refine sq (opk_val hA108 rfl (r_load1 Try.underlying9 rfl (hA108.get rfl) (hB7.cell 1 _ rfl)) fun a109 hA109 _ => ?_)
          refine sq (opk_val hA109 rfl (r_seql (hA109.get rfl) rfl) fun a110 hA110 _ => ?_)
          refine sq (opk_val hA110 rfl (r_move (hA110.get rfl)) fun a111 hA111 _ => ?_)
          refine sq (opk_gval hA111 rfl rfl (g := true) (e := (decide (t_1_Name = ([] : Str)))) rfl (fun hg => r_fieldAddr (hA111.get rfl) Try.underlying26 rfl ti_9 (by decide)) fun a112 hA112 _ => ?_)
          refine sq (opk_gval hA112 rfl rfl (g := true) (e := (decide (t_1_Name = ([] : Str)))) rfl (fun hg => r_load1 Try.underlying9 rfl (cv_get (hA112.get rfl) hg) (hB7.cell 2 _ rfl)) fun a113 hA113 _ => ?_)
          refine sq (opk_gval hA113 rfl rfl (g := true) (e := (decide (t_1_Name = ([] : Str)))) rfl (fun hg => r_slen (cv_get (hA113.get rfl) hg) Try.underlying9) fun a114 hA114 _ => ?_)
          refine sq (opk_gval hA114 rfl rfl (g := true) (e := (decide (t_1_Name = ([] : Str)))) rfl (fun hg => r_leq (cv_get (hA114.get rfl) hg) rfl) fun a115 hA115 _ => ?_)
          refine sq (opk_val hA115 rfl (r_pick_and (g := (true && ((decide (t_1_Name = ([] : Str))) == true))) (hA115.get rfl) (hA115.get rfl) (fun he => g_mkt rfl he)) fun a116 hA116 _ => ?_)
          refine sq (opk_val hA116 rfl (r_assign (hA116.get rfl)) fun a117 hA117 _ => ?_)
          refine sq_end ?_
          have hA118 := hA117.keep [(2, .bool ((decide (t_1_Name = ([] : Str))) && (decide ((t_1_Text.length : Int) ≤ 4096))))] ⟨rfl, trivial⟩
          refine then_normal ?_
          refine wp_ret ?_
          refine block_ret ?_
          refine then_ret ?_
          have ht119 := ht106 w3 B_2 hN8  hC9
          exact res_all (vs := [.bool ((decide (t_1_Name = ([] : Str))) && (decide ((t_1_Text.length : Int) ≤ 4096)))]) rfl hA118 ⟨res_of_tmp hA118 rfl, trivial⟩ ht119
        · have ht107 := ht85.2 (of_decide_eq_false hc)
          clear hc
          refine wp_seq ?_
          refine wp_region_lit ?_
          refine sq (opk_val hA105 rfl (r_eql (hA105.get rfl) rfl) fun a120 hA120 _ => ?_)
          refine sq (opk_val hA120 rfl (r_assign (hA120.get rfl)) fun a121 hA121 _ => ?_)
          refine sq_end ?_
          have hA122 := hA121.keep [(1, .pointer (some ⟨B_2, 0, none⟩)), (62, .bool (decide (t_1_Kind = 5)))] ⟨rfl, rfl, trivial⟩
          refine then_normal ?_
          refine wp_cond_split (hA122.get rfl) (fun hc => ?_) (fun hc => ?_)
          · have ht123 := ht107.1 (of_decide_eq_true hc)
            clear hc
            refine wp_seq ?_
            refine wp_region_lit ?_
            refine sq (opk_val hA122 rfl (r_fieldAddr (hA122.get rfl) Try.underlying26 rfl ti_9 (by decide)) fun a125 hA125 _ => ?_)
            refine sq (opk_val hA125 rfl (r_load1 Try.underlying9 rfl (hA125.get rfl) (hB7.cell 2 _ rfl)) fun a126 hA126 _ => ?_)
            refine sq (opk_val hA126 rfl (r_seql (hA126.get rfl) rfl) fun a127 hA127 _ => ?_)
            refine sq (opk_val hA127 rfl (r_move (hA127.get rfl)) fun a128 hA128 _ => ?_)
            refine sq (opk_gval hA128 rfl rfl (g := true) (e := (decide (t_1_Text = ([] : Str)))) rfl (fun hg => r_fieldAddr (hA128.get rfl) Try.underlying26 rfl ti_9 (by decide)) fun a129 hA129 _ => ?_)
            refine sq (opk_gval hA129 rfl rfl (g := true) (e := (decide (t_1_Text = ([] : Str)))) rfl (fun hg => r_load1 Try.underlying9 rfl (cv_get (hA129.get rfl) hg) (hB7.cell 1 _ rfl)) fun a130 hA130 _ => ?_)
            refine sq (opk_gval hA130 rfl rfl (g := true) (e := (decide (t_1_Text = ([] : Str)))) rfl (fun hg => r_slen (cv_get (hA130.get rfl) hg) Try.underlying9) fun a131 hA131 _ => ?_)
            refine sq (opk_gval hA131 rfl rfl (g := true) (e := (decide (t_1_Text = ([] : Str)))) rfl (fun hg => r_leq (cv_get (hA131.get rfl) hg) rfl) fun a132 hA132 _ => ?_)
            refine sq (opk_val hA132 rfl (r_pick_and (g := (true && ((decide (t_1_Text = ([] : Str))) == true))) (hA132.get rfl) (hA132.get rfl) (fun he => g_mkt rfl he)) fun a133 hA133 _ => ?_)
            refine sq (opk_val hA133 rfl (r_assign (hA133.get rfl)) fun a134 hA134 _ => ?_)
            refine sq_end ?_
            have hA135 := hA134.keep [(2, .bool ((decide (t_1_Text = ([] : Str))) && (decide ((t_1_Name.length : Int) ≤ 32))))] ⟨rfl, trivial⟩
            refine then_normal ?_
            refine wp_ret ?_
            refine block_ret ?_
            refine then_ret ?_
            have ht136 := ht123 w3 B_2 hN8  hC9
            exact res_all (vs := [.bool ((decide (t_1_Text = ([] : Str))) && (decide ((t_1_Name.length : Int) ≤ 32)))]) rfl hA135 ⟨res_of_tmp hA135 rfl, trivial⟩ ht136
          · have ht124 := ht107.2 (of_decide_eq_false hc)
            clear hc
            refine wp_skip ?_
            refine block_normal ?_
            refine then_normal ?_
            refine wp_seq ?_
            refine wp_region_lit ?_
            refine sq (opk_val hA122 rfl (r_assign rfl) fun a137 hA137 _ => ?_)
            refine sq_end ?_
            have hA138 := hA137.keep [(2, .bool false)] ⟨rfl, trivial⟩
            refine then_normal ?_
            refine wp_ret ?_
            have ht139 := ht124 w3 B_2 hN8  hC9
            exact res_all (vs := [.bool false]) rfl hA138 ⟨res_of_tmp hA138 rfl, trivial⟩ ht139

/-- The condition of cmp.isNaN[int]. -/
def cmp_isNaN_int.vc (x_1 : Int) (R : Value → World → Prop) (w : World) : Prop :=
R (.bool (decide (x_1 ≠ x_1))) w
set_option maxHeartbeats 1000000 in
set_option maxRecDepth 10000 in
theorem cmp_isNaN_int.ok (x_1 : Int) {R : Value → World → Prop} {w : World} (ht0 : cmp_isNaN_int.vc x_1 R w) : Calls Try.prog 48 #[.int .i64 x_1] w (Ret R) := by
  refine enter [.int .i64 x_1] Try.func48 rfl Try.ntmps48 rfl ?_
  intro a0 hA0
  unfold cmp_isNaN_int.vc at ht0
  refine wp_seq ?_
  refine wp_region_lit ?_
  refine sq (opk_val hA0 rfl (r_assign rfl) fun a2 hA2 _ => ?_)
  refine sq_end ?_
  have hA3 := hA2.keep [(0, .int .i64 x_1)] ⟨rfl, trivial⟩
  refine then_normal ?_
  refine wp_seq ?_
  refine wp_region_lit ?_
  refine sq (opk_val hA3 rfl (r_move (hA3.get rfl)) fun a4 hA4 _ => ?_)
  refine sq (opk_val hA4 rfl (r_move (hA4.get rfl)) fun a5 hA5 _ => ?_)
  refine sq (opk_val hA5 rfl (r_neq (hA5.get rfl) (hA5.get rfl)) fun a6 hA6 _ => ?_)
  refine sq (opk_val hA6 rfl (r_assign (hA6.get rfl)) fun a7 hA7 _ => ?_)
  refine sq_end ?_
  have hA8 := hA7.keep [(2, .bool (decide (x_1 ≠ x_1)))] ⟨rfl, trivial⟩
  refine then_normal ?_
  refine wp_ret ?_
  exact res_all (vs := [.bool (decide (x_1 ≠ x_1))]) rfl hA8 ⟨res_of_tmp hA8 rfl, trivial⟩ ht0

/-- The condition of internal/bytealg.CompareString. -/
def bytealg_CompareString.vc (a_1 : Str) (b_2 : Str) (R : Value → World → Prop) (w : World) : Prop :=
R (.int .i64 (Lib.compareBytes a_1 b_2)) w
set_option maxHeartbeats 1000000 in
set_option maxRecDepth 10000 in
theorem bytealg_CompareString.ok (a_1 : Str) (b_2 : Str) {R : Value → World → Prop} {w : World} (ht0 : bytealg_CompareString.vc a_1 b_2 R w) : Calls Try.prog 49 #[.string (Bs a_1), .string (Bs b_2)] w (Ret R) := by
  refine enter [.string (Bs a_1), .string (Bs b_2)] Try.func49 rfl Try.ntmps49 rfl ?_
  intro a0 hA0
  unfold bytealg_CompareString.vc at ht0
  refine wp_seq ?_
  refine wp_region_lit ?_
  refine sq (opk_val hA0 rfl (r_assign rfl) fun a3 hA3 _ => ?_)
  refine sq_end ?_
  have hA4 := hA3.keep [(0, .string (Bs a_1)), (1, .string (Bs b_2))] ⟨rfl, rfl, trivial⟩
  refine then_normal ?_
  refine wp_seq ?_
  refine wp_region_lit ?_
  refine sq (opk_val hA4 rfl (r_move (hA4.get rfl)) fun a5 hA5 _ => ?_)
  refine sq (opk_val hA5 rfl (r_move (hA5.get rfl)) fun a6 hA6 _ => ?_)
  refine sq (opk_val hA6 rfl (r_cmpstr Try.func52 (by kernel_rfl) (by kernel_rfl) (by kernel_rfl) (by kernel_rfl) (map_arr (ml_cons (hA6.get rfl) (ml_cons (hA6.get rfl) ml_nil))) rfl) fun a7 hA7 _ => ?_)
  refine sq (opk_val hA7 rfl (r_assign (hA7.get rfl)) fun a8 hA8 _ => ?_)
  refine sq_end ?_
  have hA9 := hA8.keep [(4, .int .i64 (Lib.compareBytes a_1 b_2))] ⟨rfl, trivial⟩
  refine then_normal ?_
  refine wp_ret ?_
  exact res_all (vs := [.int .i64 (Lib.compareBytes a_1 b_2)]) rfl hA9 ⟨res_of_tmp hA9 rfl, trivial⟩ ht0

/-- The condition of topiary/topiaryref05.May. -/
def ref05_May.vc (t_1_Kind : Int) (t_1_Name : Str) (t_1_Text : Str) (t_1_Attrs : Sl) (t_1_Kids : Sl) (top_2 : Bool) (root_3 : Bool) (R : Value → World → Prop) (w : World) : Prop :=
((t_1_Kind = 1) →
∀ (w5 : World) (B_4 : Nat), New w B_4 w5 → Chg [] w w5 →
R (.bool (((top_2 && (decide (t_1_Name = ([] : Str)))) && (decide (t_1_Text = ([] : Str)))) && (decide ((t_1_Attrs.n : Int) = 0)))) w5) ∧
((¬ (t_1_Kind = 1)) →
((t_1_Kind = 2) →
∀ (w5 : World) (B_4 : Nat), New w B_4 w5 → Chg [] w w5 →
CallK Try.prog 28 #[.string (Bs t_1_Name)] w5 [B_4] (fun v w52 => ∃ (r_50 : Bool), v = .bool r_50 ∧
∃ (r_67 : Bool), ((((r_50 = true) ∧ (t_1_Text = ([] : Str)))) → Calls Try.prog 53 #[Sl.v t_1_Attrs] w52 (Ret fun v w' => Ext w52 w' ∧ v = .bool r_67)) ∧
(∀ w69 : World, Ext w52 w69 →
R (.bool ((r_50 && (decide (t_1_Text = ([] : Str)))) && r_67)) w69))) ∧
((¬ (t_1_Kind = 2)) →
((t_1_Kind = 3) →
∀ (w5 : World) (B_4 : Nat), New w B_4 w5 → Chg [] w w5 →
R (.bool (((((decide (t_1_Name = ([] : Str))) && (decide ((t_1_Attrs.n : Int) = 0))) && (decide ((t_1_Kids.n : Int) = 0))) && (decide (1 ≤ (t_1_Text.length : Int)))) && (decide ((t_1_Text.length : Int) ≤ 4096)))) w5) ∧
((¬ (t_1_Kind = 3)) →
((t_1_Kind = 4) →
∀ (w5 : World) (B_4 : Nat), New w B_4 w5 → Chg [] w w5 →
R (.bool ((((decide (t_1_Name = ([] : Str))) && (decide ((t_1_Attrs.n : Int) = 0))) && (decide ((t_1_Kids.n : Int) = 0))) && (decide ((t_1_Text.length : Int) ≤ 4096)))) w5) ∧
((¬ (t_1_Kind = 4)) →
((t_1_Kind = 5) →
∀ (w5 : World) (B_4 : Nat), New w B_4 w5 → Chg [] w w5 →
R (.bool ((((root_3 && (decide ((t_1_Name.length : Int) ≤ 32))) && (decide (t_1_Text = ([] : Str)))) && (decide ((t_1_Attrs.n : Int) = 0))) && (decide ((t_1_Kids.n : Int) = 0)))) w5) ∧
((¬ (t_1_Kind = 5)) →
∀ (w5 : World) (B_4 : Nat), New w B_4 w5 → Chg [] w w5 →
R (.bool false) w5)))))
set_option maxHeartbeats 1000000 in
set_option maxRecDepth 10000 in
theorem ref05_May.ok (t_1_Kind : Int) (t_1_Name : Str) (t_1_Text : Str) (t_1_Attrs : Sl) (t_1_Kids : Sl) (top_2 : Bool) (root_3 : Bool) {R : Value → World → Prop} {w : World} (ht0 : ref05_May.vc t_1_Kind t_1_Name t_1_Text t_1_Attrs t_1_Kids top_2 root_3 R w) : Calls Try.prog 50 #[.agg #[.int .i64 t_1_Kind, .string (Bs t_1_Name), .string (Bs t_1_Text), Sl.v t_1_Attrs, Sl.v t_1_Kids], .bool top_2, .bool root_3] w (Ret R) := by
  refine enter [.agg #[.int .i64 t_1_Kind, .string (Bs t_1_Name), .string (Bs t_1_Text), Sl.v t_1_Attrs, Sl.v t_1_Kids], .bool top_2, .bool root_3] Try.func50 rfl Try.ntmps50 rfl ?_
  intro a0 hA0
  unfold ref05_May.vc at ht0
  refine wp_seq ?_
  refine wp_region_lit ?_
  refine sq (opk_new (fun B => .pointer (some ⟨B, 0, none⟩)) hA0 rfl (r_box (cs := [.int .i64 t_1_Kind, .string (Bs t_1_Name), .string (Bs t_1_Text), Sl.v t_1_Attrs, Sl.v t_1_Kids]) (hA0.get rfl) rfl) fun a6 w5 B_4 hE7 hN8 hB9 hA6 _ => ?_)
  have hN10 : New w B_4 w5 := hN8
  have hC11 : Chg [] w w5 := hE7
  refine sq (opk_val hA6 rfl (r_assign rfl) fun a12 hA12 _ => ?_)
  refine sq_end ?_
  have hA13 := hA12.keep [(1, .bool top_2), (2, .bool root_3), (3, .pointer (some ⟨B_4, 0, none⟩))] ⟨rfl, rfl, rfl, trivial⟩
  refine then_normal ?_
  refine wp_seq ?_
  refine wp_seq ?_
  refine wp_region_lit ?_
  refine sq (opk_val hA13 rfl (r_fieldAddr (hA13.get rfl) Try.underlying26 rfl ti_3 (by decide)) fun a14 hA14 _ => ?_)
  refine sq (opk_val hA14 rfl (r_load1 Try.underlying3 rfl (hA14.get rfl) (hB9.cell 0 _ rfl)) fun a15 hA15 _ => ?_)
  refine sq_end ?_
  have hA16 := hA15.keep [(1, .bool top_2), (2, .bool root_3), (3, .pointer (some ⟨B_4, 0, none⟩)), (8, .int .i64 t_1_Kind)] ⟨rfl, rfl, rfl, rfl, trivial⟩
  refine then_normal ?_
  refine wp_block ?_
  refine wp_seq ?_
  refine wp_region_lit ?_
  refine sq (opk_val hA16 rfl (r_eql (hA16.get rfl) rfl) fun a17 hA17 _ => ?_)
  refine sq (opk_val hA17 rfl (r_assign (hA17.get rfl)) fun a18 hA18 _ => ?_)
  refine sq_end ?_
  have hA19 := hA18.keep [(1, .bool top_2), (2, .bool root_3), (3, .pointer (some ⟨B_4, 0, none⟩)), (8, .int .i64 t_1_Kind), (9, .bool (decide (t_1_Kind = 1)))] ⟨rfl, rfl, rfl, rfl, rfl, trivial⟩
  refine then_normal ?_
  refine wp_cond_split (hA19.get rfl) (fun hc => ?_) (fun hc => ?_)
  · have ht20 := ht0.1 (of_decide_eq_true hc)
    clear hc
    refine wp_seq ?_
    refine wp_region_lit ?_
    refine sq (opk_val hA19 rfl (r_move (hA19.get rfl)) fun a22 hA22 _ => ?_)
    refine sq (opk_val hA22 rfl (r_move (hA22.get rfl)) fun a23 hA23 _ => ?_)
    refine sq (opk_gval hA23 rfl rfl (g := true) (e := top_2) rfl (fun hg => r_fieldAddr (hA23.get rfl) Try.underlying26 rfl ti_9 (by decide)) fun a24 hA24 _ => ?_)
    refine sq (opk_gval hA24 rfl rfl (g := true) (e := top_2) rfl (fun hg => r_load1 Try.underlying9 rfl (cv_get (hA24.get rfl) hg) (hB9.cell 1 _ rfl)) fun a25 hA25 _ => ?_)
    refine sq (opk_gval hA25 rfl rfl (g := true) (e := top_2) rfl (fun hg => r_seql (cv_get (hA25.get rfl) hg) rfl) fun a26 hA26 _ => ?_)
    refine sq (opk_val hA26 rfl (r_pick_and (g := (true && (top_2 == true))) (hA26.get rfl) (hA26.get rfl) (fun he => g_mkt rfl he)) fun a27 hA27 _ => ?_)
    refine sq (opk_val hA27 rfl (r_move (hA27.get rfl)) fun a28 hA28 _ => ?_)
    refine sq (opk_gval hA28 rfl rfl (g := true) (e := (top_2 && (decide (t_1_Name = ([] : Str))))) rfl (fun hg => r_fieldAddr (hA28.get rfl) Try.underlying26 rfl ti_9 (by decide)) fun a29 hA29 _ => ?_)
    refine sq (opk_gval hA29 rfl rfl (g := true) (e := (top_2 && (decide (t_1_Name = ([] : Str))))) rfl (fun hg => r_load1 Try.underlying9 rfl (cv_get (hA29.get rfl) hg) (hB9.cell 2 _ rfl)) fun a30 hA30 _ => ?_)
    refine sq (opk_gval hA30 rfl rfl (g := true) (e := (top_2 && (decide (t_1_Name = ([] : Str))))) rfl (fun hg => r_seql (cv_get (hA30.get rfl) hg) rfl) fun a31 hA31 _ => ?_)
    refine sq (opk_val hA31 rfl (r_pick_and (g := (true && ((top_2 && (decide (t_1_Name = ([] : Str)))) == true))) (hA31.get rfl) (hA31.get rfl) (fun he => g_mkt rfl he)) fun a32 hA32 _ => ?_)
    refine sq (opk_val hA32 rfl (r_move (hA32.get rfl)) fun a33 hA33 _ => ?_)
    refine sq (opk_gval hA33 rfl rfl (g := true) (e := ((top_2 && (decide (t_1_Name = ([] : Str)))) && (decide (t_1_Text = ([] : Str))))) rfl (fun hg => r_fieldAddr (hA33.get rfl) Try.underlying26 rfl ti_23 (by decide)) fun a34 hA34 _ => ?_)
    refine sq (opk_gval hA34 rfl rfl (g := true) (e := ((top_2 && (decide (t_1_Name = ([] : Str)))) && (decide (t_1_Text = ([] : Str))))) rfl (fun hg => r_load1 Try.underlying23 rfl (cv_get (hA34.get rfl) hg) (hB9.cell 3 _ rfl)) fun a35 hA35 _ => ?_)
    refine sq (opk_gval hA35 rfl rfl (g := true) (e := ((top_2 && (decide (t_1_Name = ([] : Str)))) && (decide (t_1_Text = ([] : Str))))) rfl (fun hg => r_len (cv_get (hA35.get rfl) hg) Try.underlying23) fun a36 hA36 _ => ?_)
    refine sq (opk_gval hA36 rfl rfl (g := true) (e := ((top_2 && (decide (t_1_Name = ([] : Str)))) && (decide (t_1_Text = ([] : Str))))) rfl (fun hg => r_eql (cv_get (hA36.get rfl) hg) rfl) fun a37 hA37 _ => ?_)
    refine sq (opk_val hA37 rfl (r_pick_and (g := (true && (((top_2 && (decide (t_1_Name = ([] : Str)))) && (decide (t_1_Text = ([] : Str)))) == true))) (hA37.get rfl) (hA37.get rfl) (fun he => g_mkt rfl he)) fun a38 hA38 _ => ?_)
    refine sq (opk_val hA38 rfl (r_assign (hA38.get rfl)) fun a39 hA39 _ => ?_)
    refine sq_end ?_
    have hA40 := hA39.keep [(6, .bool (((top_2 && (decide (t_1_Name = ([] : Str)))) && (decide (t_1_Text = ([] : Str)))) && (decide ((t_1_Attrs.n : Int) = 0))))] ⟨rfl, trivial⟩
    refine then_normal ?_
    refine wp_ret ?_
    refine block_ret ?_
    refine then_ret ?_
    have ht41 := ht20 w5 B_4 hN10  hC11
    exact res_all (vs := [.bool (((top_2 && (decide (t_1_Name = ([] : Str)))) && (decide (t_1_Text = ([] : Str)))) && (decide ((t_1_Attrs.n : Int) = 0)))]) rfl hA40 ⟨res_of_tmp hA40 rfl, trivial⟩ ht41
  · have ht21 := ht0.2 (of_decide_eq_false hc)
    clear hc
    refine wp_seq ?_
    refine wp_region_lit ?_
    refine sq (opk_val hA19 rfl (r_eql (hA19.get rfl) rfl) fun a42 hA42 _ => ?_)
    refine sq (opk_val hA42 rfl (r_assign (hA42.get rfl)) fun a43 hA43 _ => ?_)
    refine sq_end ?_
    have hA44 := hA43.keep [(2, .bool root_3), (3, .pointer (some ⟨B_4, 0, none⟩)), (8, .int .i64 t_1_Kind), (28, .bool (decide (t_1_Kind = 2)))] ⟨rfl, rfl, rfl, rfl, trivial⟩
    refine then_normal ?_
    refine wp_cond_split (hA44.get rfl) (fun hc => ?_) (fun hc => ?_)
    · have ht45 := ht21.1 (of_decide_eq_true hc)
      clear hc
      refine wp_seq ?_
      refine wp_region_lit ?_
      refine sq (opk_val hA44 rfl (r_fieldAddr (hA44.get rfl) Try.underlying26 rfl ti_9 (by decide)) fun a47 hA47 _ => ?_)
      refine sq (opk_val hA47 rfl (r_load1 Try.underlying9 rfl (hA47.get rfl) (hB9.cell 1 _ rfl)) fun a48 hA48 _ => ?_)
      have ht49 := ht45 w5 B_4 hN10  hC11
      refine sq (opk_call hA48 rfl (r_call (args := #[.string (Bs t_1_Name)]) Try.func28 (by decide) rfl (map_arr (ml_cons (hA48.get rfl) ml_nil)) rfl) ht49 fun a51 v57 w52 hA51 _ hn54 hz55 hK56 => ?_)
      obtain ⟨r_50, rfl, ht53⟩ := hK56
      have hB58 := hB9.kept hn54 (.head _)
      refine sq (opk_val hA51 rfl (r_move (hA51.get rfl)) fun a59 hA59 _ => ?_)
      refine sq (opk_gval hA59 rfl rfl (g := true) (e := r_50) rfl (fun hg => r_fieldAddr (hA59.get rfl) Try.underlying26 rfl ti_9 (by decide)) fun a60 hA60 _ => ?_)
      refine sq (opk_gval hA60 rfl rfl (g := true) (e := r_50) rfl (fun hg => r_load1 Try.underlying9 rfl (cv_get (hA60.get rfl) hg) (hB58.cell 2 _ rfl)) fun a61 hA61 _ => ?_)
      refine sq (opk_gval hA61 rfl rfl (g := true) (e := r_50) rfl (fun hg => r_seql (cv_get (hA61.get rfl) hg) rfl) fun a62 hA62 _ => ?_)
      refine sq (opk_val hA62 rfl (r_pick_and (g := (true && (r_50 == true))) (hA62.get rfl) (hA62.get rfl) (fun he => g_mkt rfl he)) fun a63 hA63 _ => ?_)
      refine sq (opk_val hA63 rfl (r_move (hA63.get rfl)) fun a64 hA64 _ => ?_)
      refine sq (opk_gval hA64 rfl rfl (g := true) (e := (r_50 && (decide (t_1_Text = ([] : Str))))) rfl (fun hg => r_fieldAddr (hA64.get rfl) Try.underlying26 rfl ti_23 (by decide)) fun a65 hA65 _ => ?_)
      refine sq (opk_gval hA65 rfl rfl (g := true) (e := (r_50 && (decide (t_1_Text = ([] : Str))))) rfl (fun hg => r_load1 Try.underlying23 rfl (cv_get (hA65.get rfl) hg) (hB58.cell 3 _ rfl)) fun a66 hA66 _ => ?_)
      obtain ⟨r_67, hc71, ht70⟩ := ht53
      refine sq (opk_gcall hA66 rfl rfl (g := true) (e := (r_50 && (decide (t_1_Text = ([] : Str))))) rfl (fun hg => r_call (args := #[Sl.v t_1_Attrs]) Try.func53 (by decide) rfl (map_arr (ml_cons (cv_get (hA66.get rfl) hg) ml_nil)) rfl) (fun hg => hc71 ⟨(b_and_t (g_t hg)).1, (of_decide_eq_true (b_and_t (g_t hg)).2)⟩) fun a68 w69 hA68 _ hE72 => ?_)
      have hB73 := hB58.ext hE72
      have hC74 : Chg [] w52 w69 := hE72
      have ht75 := ht70 w69 hE72
      refine sq (opk_val hA68 rfl (r_pick_and (g := (true && ((r_50 && (decide (t_1_Text = ([] : Str)))) == true))) (hA68.get rfl) (hA68.get rfl) (fun he => g_mkt rfl he)) fun a76 hA76 _ => ?_)
      refine sq (opk_val hA76 rfl (r_assign (hA76.get rfl)) fun a77 hA77 _ => ?_)
      refine sq_end ?_
      have hA78 := hA77.keep [(6, .bool ((r_50 && (decide (t_1_Text = ([] : Str)))) && r_67))] ⟨rfl, trivial⟩
      refine then_normal ?_
      refine wp_ret ?_
      refine block_ret ?_
      refine then_ret ?_
      exact res_all (vs := [.bool ((r_50 && (decide (t_1_Text = ([] : Str)))) && r_67)]) rfl hA78 ⟨res_of_tmp hA78 rfl, trivial⟩ ht75
    · have ht46 := ht21.2 (of_decide_eq_false hc)
      clear hc
      refine wp_seq ?_
      refine wp_region_lit ?_
      refine sq (opk_val hA44 rfl (r_eql (hA44.get rfl) rfl) fun a79 hA79 _ => ?_)
      refine sq (opk_val hA79 rfl (r_assign (hA79.get rfl)) fun a80 hA80 _ => ?_)
      refine sq_end ?_
      have hA81 := hA80.keep [(2, .bool root_3), (3, .pointer (some ⟨B_4, 0, none⟩)), (8, .int .i64 t_1_Kind), (43, .bool (decide (t_1_Kind = 3)))] ⟨rfl, rfl, rfl, rfl, trivial⟩
      refine then_normal ?_
      refine wp_cond_split (hA81.get rfl) (fun hc => ?_) (fun hc => ?_)
      · have ht82 := ht46.1 (of_decide_eq_true hc)
        clear hc
        refine wp_seq ?_
        refine wp_region_lit ?_
        refine sq (opk_val hA81 rfl (r_fieldAddr (hA81.get rfl) Try.underlying26 rfl ti_9 (by decide)) fun a84 hA84 _ => ?_)
        refine sq (opk_val hA84 rfl (r_load1 Try.underlying9 rfl (hA84.get rfl) (hB9.cell 1 _ rfl)) fun a85 hA85 _ => ?_)
        refine sq (opk_val hA85 rfl (r_seql (hA85.get rfl) rfl) fun a86 hA86 _ => ?_)
        refine sq (opk_val hA86 rfl (r_move (hA86.get rfl)) fun a87 hA87 _ => ?_)
        refine sq (opk_gval hA87 rfl rfl (g := true) (e := (decide (t_1_Name = ([] : Str)))) rfl (fun hg => r_fieldAddr (hA87.get rfl) Try.underlying26 rfl ti_23 (by decide)) fun a88 hA88 _ => ?_)
        refine sq (opk_gval hA88 rfl rfl (g := true) (e := (decide (t_1_Name = ([] : Str)))) rfl (fun hg => r_load1 Try.underlying23 rfl (cv_get (hA88.get rfl) hg) (hB9.cell 3 _ rfl)) fun a89 hA89 _ => ?_)
        refine sq (opk_gval hA89 rfl rfl (g := true) (e := (decide (t_1_Name = ([] : Str)))) rfl (fun hg => r_len (cv_get (hA89.get rfl) hg) Try.underlying23) fun a90 hA90 _ => ?_)
        refine sq (opk_gval hA90 rfl rfl (g := true) (e := (decide (t_1_Name = ([] : Str)))) rfl (fun hg => r_eql (cv_get (hA90.get rfl) hg) rfl) fun a91 hA91 _ => ?_)
        refine sq (opk_val hA91 rfl (r_pick_and (g := (true && ((decide (t_1_Name = ([] : Str))) == true))) (hA91.get rfl) (hA91.get rfl) (fun he => g_mkt rfl he)) fun a92 hA92 _ => ?_)
        refine sq (opk_val hA92 rfl (r_move (hA92.get rfl)) fun a93 hA93 _ => ?_)
        refine sq (opk_gval hA93 rfl rfl (g := true) (e := ((decide (t_1_Name = ([] : Str))) && (decide ((t_1_Attrs.n : Int) = 0)))) rfl (fun hg => r_fieldAddr (hA93.get rfl) Try.underlying26 rfl ti_24 (by decide)) fun a94 hA94 _ => ?_)
        refine sq (opk_gval hA94 rfl rfl (g := true) (e := ((decide (t_1_Name = ([] : Str))) && (decide ((t_1_Attrs.n : Int) = 0)))) rfl (fun hg => r_load1 Try.underlying24 rfl (cv_get (hA94.get rfl) hg) (hB9.cell 4 _ rfl)) fun a95 hA95 _ => ?_)
        refine sq (opk_gval hA95 rfl rfl (g := true) (e := ((decide (t_1_Name = ([] : Str))) && (decide ((t_1_Attrs.n : Int) = 0)))) rfl (fun hg => r_len (cv_get (hA95.get rfl) hg) Try.underlying24) fun a96 hA96 _ => ?_)
        refine sq (opk_gval hA96 rfl rfl (g := true) (e := ((decide (t_1_Name = ([] : Str))) && (decide ((t_1_Attrs.n : Int) = 0)))) rfl (fun hg => r_eql (cv_get (hA96.get rfl) hg) rfl) fun a97 hA97 _ => ?_)
        refine sq (opk_val hA97 rfl (r_pick_and (g := (true && (((decide (t_1_Name = ([] : Str))) && (decide ((t_1_Attrs.n : Int) = 0))) == true))) (hA97.get rfl) (hA97.get rfl) (fun he => g_mkt rfl he)) fun a98 hA98 _ => ?_)
        refine sq (opk_val hA98 rfl (r_move (hA98.get rfl)) fun a99 hA99 _ => ?_)
        refine sq (opk_gval hA99 rfl rfl (g := true) (e := (((decide (t_1_Name = ([] : Str))) && (decide ((t_1_Attrs.n : Int) = 0))) && (decide ((t_1_Kids.n : Int) = 0)))) rfl (fun hg => r_fieldAddr (hA99.get rfl) Try.underlying26 rfl ti_9 (by decide)) fun a100 hA100 _ => ?_)
        refine sq (opk_gval hA100 rfl rfl (g := true) (e := (((decide (t_1_Name = ([] : Str))) && (decide ((t_1_Attrs.n : Int) = 0))) && (decide ((t_1_Kids.n : Int) = 0)))) rfl (fun hg => r_load1 Try.underlying9 rfl (cv_get (hA100.get rfl) hg) (hB9.cell 2 _ rfl)) fun a101 hA101 _ => ?_)
        refine sq (opk_gval hA101 rfl rfl (g := true) (e := (((decide (t_1_Name = ([] : Str))) && (decide ((t_1_Attrs.n : Int) = 0))) && (decide ((t_1_Kids.n : Int) = 0)))) rfl (fun hg => r_slen (cv_get (hA101.get rfl) hg) Try.underlying9) fun a102 hA102 _ => ?_)
        refine sq (opk_gval hA102 rfl rfl (g := true) (e := (((decide (t_1_Name = ([] : Str))) && (decide ((t_1_Attrs.n : Int) = 0))) && (decide ((t_1_Kids.n : Int) = 0)))) rfl (fun hg => r_geq (cv_get (hA102.get rfl) hg) rfl) fun a103 hA103 _ => ?_)
        refine sq (opk_val hA103 rfl (r_pick_and (g := (true && ((((decide (t_1_Name = ([] : Str))) && (decide ((t_1_Attrs.n : Int) = 0))) && (decide ((t_1_Kids.n : Int) = 0))) == true))) (hA103.get rfl) (hA103.get rfl) (fun he => g_mkt rfl he)) fun a104 hA104 _ => ?_)
        refine sq (opk_val hA104 rfl (r_move (hA104.get rfl)) fun a105 hA105 _ => ?_)
        refine sq (opk_gval hA105 rfl rfl (g := true) (e := ((((decide (t_1_Name = ([] : Str))) && (decide ((t_1_Attrs.n : Int) = 0))) && (decide ((t_1_Kids.n : Int) = 0))) && (decide (1 ≤ (t_1_Text.length : Int))))) rfl (fun hg => r_fieldAddr (hA105.get rfl) Try.underlying26 rfl ti_9 (by decide)) fun a106 hA106 _ => ?_)
        refine sq (opk_gval hA106 rfl rfl (g := true) (e := ((((decide (t_1_Name = ([] : Str))) && (decide ((t_1_Attrs.n : Int) = 0))) && (decide ((t_1_Kids.n : Int) = 0))) && (decide (1 ≤ (t_1_Text.length : Int))))) rfl (fun hg => r_load1 Try.underlying9 rfl (cv_get (hA106.get rfl) hg) (hB9.cell 2 _ rfl)) fun a107 hA107 _ => ?_)
        refine sq (opk_gval hA107 rfl rfl (g := true) (e := ((((decide (t_1_Name = ([] : Str))) && (decide ((t_1_Attrs.n : Int) = 0))) && (decide ((t_1_Kids.n : Int) = 0))) && (decide (1 ≤ (t_1_Text.length : Int))))) rfl (fun hg => r_slen (cv_get (hA107.get rfl) hg) Try.underlying9) fun a108 hA108 _ => ?_)
        refine sq (opk_gval hA108 rfl rfl (g := true) (e := ((((decide (t_1_Name = ([] : Str))) && (decide ((t_1_Attrs.n : Int) = 0))) && (decide ((t_1_Kids.n : Int) = 0))) && (decide (1 ≤ (t_1_Text.length : Int))))) rfl (fun hg => r_leq (cv_get (hA108.get rfl) hg) rfl) fun a109 hA109 _ => ?_)
        refine sq (opk_val hA109 rfl (r_pick_and (g := (true && (((((decide (t_1_Name = ([] : Str))) && (decide ((t_1_Attrs.n : Int) = 0))) && (decide ((t_1_Kids.n : Int) = 0))) && (decide (1 ≤ (t_1_Text.length : Int)))) == true))) (hA109.get rfl) (hA109.get rfl) (fun he => g_mkt rfl he)) fun a110 hA110 _ => ?_)
        refine sq (opk_val hA110 rfl (r_assign (hA110.get rfl)) fun a111 hA111 _ => ?_)
        refine sq_end ?_
        have hA112 := hA111.keep [(6, .bool (((((decide (t_1_Name = ([] : Str))) && (decide ((t_1_Attrs.n : Int) = 0))) && (decide ((t_1_Kids.n : Int) = 0))) && (decide (1 ≤ (t_1_Text.length : Int)))) && (decide ((t_1_Text.length : Int) ≤ 4096))))] ⟨rfl, trivial⟩
        refine then_normal ?_
        refine wp_ret ?_
        refine block_ret ?_
        refine then_ret ?_
        have ht113 := ht82 w5 B_4 hN10  hC11
        exact res_all (vs := [.bool (((((decide (t_1_Name = ([] : Str))) && (decide ((t_1_Attrs.n : Int) = 0))) && (decide ((t_1_Kids.n : Int) = 0))) && (decide (1 ≤ (t_1_Text.length : Int)))) && (decide ((t_1_Text.length : Int) ≤ 4096)))]) rfl hA112 ⟨res_of_tmp hA112 rfl, trivial⟩ ht113
      · have ht83 := ht46.2 (of_decide_eq_false hc)
        clear hc
        refine wp_seq ?_
        refine wp_region_lit ?_
        refine sq (opk_val hA81 rfl (r_eql (hA81.get rfl) rfl) fun a114 hA114 _ => ?_)
        refine sq (opk_val hA114 rfl (r_assign (hA114.get rfl)) fun a115 hA115 _ => ?_)
        refine sq_end ?_
        have hA116 := hA115.keep [(2, .bool root_3), (3, .pointer (some ⟨B_4, 0, none⟩)), (8, .int .i64 t_1_Kind), (72, .bool (decide (t_1_Kind = 4)))] ⟨rfl, rfl, rfl, rfl, trivial⟩
        refine then_normal ?_
        refine wp_cond_split (hA116.get rfl) (fun hc => ?_) (fun hc => ?_)
        · have ht117 := ht83.1 (of_decide_eq_true hc)
          clear hc
          refine wp_seq ?_
          refine wp_region_lit ?_
          refine sq (opk_val hA116 rfl (r_fieldAddr (hA116.get rfl) Try.underlying26 rfl ti_9 (by decide)) fun a119 hA119 _ => ?_)
          refine sq (opk_val hA119 rfl (r_load1 Try.underlying9 rfl (hA119.get rfl) (hB9.cell 1 _ rfl)) fun a120 hA120 _ => ?_)
          refine sq (opk_val hA120 rfl (r_seql (hA120.get rfl) rfl) fun a121 hA121 _ => ?_)
          refine sq (opk_val hA121 rfl (r_move (hA121.get rfl)) fun a122 hA122 _ => ?_)
          refine sq (opk_gval hA122 rfl rfl (g := true) (e := (decide (t_1_Name = ([] : Str)))) rfl (fun hg => r_fieldAddr (hA122.get rfl) Try.underlying26 rfl ti_23 (by decide)) fun a123 hA123 _ => ?_)
          refine sq (opk_gval hA123 rfl rfl (g := true) (e := (decide (t_1_Name = ([] : Str)))) rfl (fun hg => r_load1 Try.underlying23 rfl (cv_get (hA123.get rfl) hg) (hB9.cell 3 _ rfl)) fun a124 hA124 _ => ?_)
          refine sq (opk_gval hA124 rfl rfl (g := true) (e := (decide (t_1_Name = ([] : Str)))) rfl (fun hg => r_len (cv_get (hA124.get rfl) hg) Try.underlying23) fun a125 hA125 _ => ?_)
          refine sq (opk_gval hA125 rfl rfl (g := true) (e := (decide (t_1_Name = ([] : Str)))) rfl (fun hg => r_eql (cv_get (hA125.get rfl) hg) rfl) fun a126 hA126 _ => ?_)
          refine sq (opk_val hA126 rfl (r_pick_and (g := (true && ((decide (t_1_Name = ([] : Str))) == true))) (hA126.get rfl) (hA126.get rfl) (fun he => g_mkt rfl he)) fun a127 hA127 _ => ?_)
          refine sq (opk_val hA127 rfl (r_move (hA127.get rfl)) fun a128 hA128 _ => ?_)
          refine sq (opk_gval hA128 rfl rfl (g := true) (e := ((decide (t_1_Name = ([] : Str))) && (decide ((t_1_Attrs.n : Int) = 0)))) rfl (fun hg => r_fieldAddr (hA128.get rfl) Try.underlying26 rfl ti_24 (by decide)) fun a129 hA129 _ => ?_)
          refine sq (opk_gval hA129 rfl rfl (g := true) (e := ((decide (t_1_Name = ([] : Str))) && (decide ((t_1_Attrs.n : Int) = 0)))) rfl (fun hg => r_load1 Try.underlying24 rfl (cv_get (hA129.get rfl) hg) (hB9.cell 4 _ rfl)) fun a130 hA130 _ => ?_)
          refine sq (opk_gval hA130 rfl rfl (g := true) (e := ((decide (t_1_Name = ([] : Str))) && (decide ((t_1_Attrs.n : Int) = 0)))) rfl (fun hg => r_len (cv_get (hA130.get rfl) hg) Try.underlying24) fun a131 hA131 _ => ?_)
          refine sq (opk_gval hA131 rfl rfl (g := true) (e := ((decide (t_1_Name = ([] : Str))) && (decide ((t_1_Attrs.n : Int) = 0)))) rfl (fun hg => r_eql (cv_get (hA131.get rfl) hg) rfl) fun a132 hA132 _ => ?_)
          refine sq (opk_val hA132 rfl (r_pick_and (g := (true && (((decide (t_1_Name = ([] : Str))) && (decide ((t_1_Attrs.n : Int) = 0))) == true))) (hA132.get rfl) (hA132.get rfl) (fun he => g_mkt rfl he)) fun a133 hA133 _ => ?_)
          refine sq (opk_val hA133 rfl (r_move (hA133.get rfl)) fun a134 hA134 _ => ?_)
          refine sq (opk_gval hA134 rfl rfl (g := true) (e := (((decide (t_1_Name = ([] : Str))) && (decide ((t_1_Attrs.n : Int) = 0))) && (decide ((t_1_Kids.n : Int) = 0)))) rfl (fun hg => r_fieldAddr (hA134.get rfl) Try.underlying26 rfl ti_9 (by decide)) fun a135 hA135 _ => ?_)
          refine sq (opk_gval hA135 rfl rfl (g := true) (e := (((decide (t_1_Name = ([] : Str))) && (decide ((t_1_Attrs.n : Int) = 0))) && (decide ((t_1_Kids.n : Int) = 0)))) rfl (fun hg => r_load1 Try.underlying9 rfl (cv_get (hA135.get rfl) hg) (hB9.cell 2 _ rfl)) fun a136 hA136 _ => ?_)
          refine sq (opk_gval hA136 rfl rfl (g := true) (e := (((decide (t_1_Name = ([] : Str))) && (decide ((t_1_Attrs.n : Int) = 0))) && (decide ((t_1_Kids.n : Int) = 0)))) rfl (fun hg => r_slen (cv_get (hA136.get rfl) hg) Try.underlying9) fun a137 hA137 _ => ?_)
          refine sq (opk_gval hA137 rfl rfl (g := true) (e := (((decide (t_1_Name = ([] : Str))) && (decide ((t_1_Attrs.n : Int) = 0))) && (decide ((t_1_Kids.n : Int) = 0)))) rfl (fun hg => r_leq (cv_get (hA137.get rfl) hg) rfl) fun a138 hA138 _ => ?_)
          refine sq (opk_val hA138 rfl (r_pick_and (g := (true && ((((decide (t_1_Name = ([] : Str))) && (decide ((t_1_Attrs.n : Int) = 0))) && (decide ((t_1_Kids.n : Int) = 0))) == true))) (hA138.get rfl) (hA138.get rfl) (fun he => g_mkt rfl he)) fun a139 hA139 _ => ?_)
          refine sq (opk_val hA139 rfl (r_assign (hA139.get rfl)) fun a140 hA140 _ => ?_)
          refine sq_end ?_
          have hA141 := hA140.keep [(6, .bool ((((decide (t_1_Name = ([] : Str))) && (decide ((t_1_Attrs.n : Int) = 0))) && (decide ((t_1_Kids.n : Int) = 0))) && (decide ((t_1_Text.length : Int) ≤ 4096))))] ⟨rfl, trivial⟩
          refine then_normal ?_
          refine wp_ret ?_
          refine block_ret ?_
          refine then_ret ?_
          have ht142 := ht117 w5 B_4 hN10  hC11
          exact res_all (vs := [.bool ((((decide (t_1_Name = ([] : Str))) && (decide ((t_1_Attrs.n : Int) = 0))) && (decide ((t_1_Kids.n : Int) = 0))) && (decide ((t_1_Text.length : Int) ≤ 4096)))]) rfl hA141 ⟨res_of_tmp hA141 rfl, trivial⟩ ht142
        · have ht118 := ht83.2 (of_decide_eq_false hc)
          clear hc
          refine wp_seq ?_
          refine wp_region_lit ?_
          refine sq (opk_val hA116 rfl (r_eql (hA116.get rfl) rfl) fun a143 hA143 _ => ?_)
          refine sq (opk_val hA143 rfl (r_assign (hA143.get rfl)) fun a144 hA144 _ => ?_)
          refine sq_end ?_
          have hA145 := hA144.keep [(2, .bool root_3), (3, .pointer (some ⟨B_4, 0, none⟩)), (95, .bool (decide (t_1_Kind = 5)))] ⟨rfl, rfl, rfl, trivial⟩
          refine then_normal ?_
          refine wp_cond_split (hA145.get rfl) (fun hc => ?_) (fun hc => ?_)
          · have ht146 := ht118.1 (of_decide_eq_true hc)
            clear hc
            refine wp_seq ?_
            refine wp_region_lit ?_
            refine sq (opk_val hA145 rfl (r_move (hA145.get rfl)) fun a148 hA148 _ => ?_)
            refine sq (opk_val hA148 rfl (r_move (hA148.get rfl)) fun a149 hA149 _ => ?_)
            refine sq (opk_gval hA149 rfl rfl (g := true) (e := root_3) rfl (fun hg => r_fieldAddr (hA149.get rfl) Try.underlying26 rfl ti_9 (by decide)) fun a150 hA150 _ => ?_)
            refine sq (opk_gval hA150 rfl rfl (g := true) (e := root_3) rfl (fun hg => r_load1 Try.underlying9 rfl (cv_get (hA150.get rfl) hg) (hB9.cell 1 _ rfl)) fun a151 hA151 _ => ?_)
            refine sq (opk_gval hA151 rfl rfl (g := true) (e := root_3) rfl (fun hg => r_slen (cv_get (hA151.get rfl) hg) Try.underlying9) fun a152 hA152 _ => ?_)
            refine sq (opk_gval hA152 rfl rfl (g := true) (e := root_3) rfl (fun hg => r_leq (cv_get (hA152.get rfl) hg) rfl) fun a153 hA153 _ => ?_)
            refine sq (opk_val hA153 rfl (r_pick_and (g := (true && (root_3 == true))) (hA153.get rfl) (hA153.get rfl) (fun he => g_mkt rfl he)) fun a154 hA154 _ => ?_)
            refine sq (opk_val hA154 rfl (r_move (hA154.get rfl)) fun a155 hA155 _ => ?_)
            refine sq (opk_gval hA155 rfl rfl (g := true) (e := (root_3 && (decide ((t_1_Name.length : Int) ≤ 32)))) rfl (fun hg => r_fieldAddr (hA155.get rfl) Try.underlying26 rfl ti_9 (by decide)) fun a156 hA156 _ => ?_)
            refine sq (opk_gval hA156 rfl rfl (g := true) (e := (root_3 && (decide ((t_1_Name.length : Int) ≤ 32)))) rfl (fun hg => r_load1 Try.underlying9 rfl (cv_get (hA156.get rfl) hg) (hB9.cell 2 _ rfl)) fun a157 hA157 _ => ?_)
            refine sq (opk_gval hA157 rfl rfl (g := true) (e := (root_3 && (decide ((t_1_Name.length : Int) ≤ 32)))) rfl (fun hg => r_seql (cv_get (hA157.get rfl) hg) rfl) fun a158 hA158 _ => ?_)
            refine sq (opk_val hA158 rfl (r_pick_and (g := (true && ((root_3 && (decide ((t_1_Name.length : Int) ≤ 32))) == true))) (hA158.get rfl) (hA158.get rfl) (fun he => g_mkt rfl he)) fun a159 hA159 _ => ?_)
            refine sq (opk_val hA159 rfl (r_move (hA159.get rfl)) fun a160 hA160 _ => ?_)
            refine sq (opk_gval hA160 rfl rfl (g := true) (e := ((root_3 && (decide ((t_1_Name.length : Int) ≤ 32))) && (decide (t_1_Text = ([] : Str))))) rfl (fun hg => r_fieldAddr (hA160.get rfl) Try.underlying26 rfl ti_23 (by decide)) fun a161 hA161 _ => ?_)
            refine sq (opk_gval hA161 rfl rfl (g := true) (e := ((root_3 && (decide ((t_1_Name.length : Int) ≤ 32))) && (decide (t_1_Text = ([] : Str))))) rfl (fun hg => r_load1 Try.underlying23 rfl (cv_get (hA161.get rfl) hg) (hB9.cell 3 _ rfl)) fun a162 hA162 _ => ?_)
            refine sq (opk_gval hA162 rfl rfl (g := true) (e := ((root_3 && (decide ((t_1_Name.length : Int) ≤ 32))) && (decide (t_1_Text = ([] : Str))))) rfl (fun hg => r_len (cv_get (hA162.get rfl) hg) Try.underlying23) fun a163 hA163 _ => ?_)
            refine sq (opk_gval hA163 rfl rfl (g := true) (e := ((root_3 && (decide ((t_1_Name.length : Int) ≤ 32))) && (decide (t_1_Text = ([] : Str))))) rfl (fun hg => r_eql (cv_get (hA163.get rfl) hg) rfl) fun a164 hA164 _ => ?_)
            refine sq (opk_val hA164 rfl (r_pick_and (g := (true && (((root_3 && (decide ((t_1_Name.length : Int) ≤ 32))) && (decide (t_1_Text = ([] : Str)))) == true))) (hA164.get rfl) (hA164.get rfl) (fun he => g_mkt rfl he)) fun a165 hA165 _ => ?_)
            refine sq (opk_val hA165 rfl (r_move (hA165.get rfl)) fun a166 hA166 _ => ?_)
            refine sq (opk_gval hA166 rfl rfl (g := true) (e := (((root_3 && (decide ((t_1_Name.length : Int) ≤ 32))) && (decide (t_1_Text = ([] : Str)))) && (decide ((t_1_Attrs.n : Int) = 0)))) rfl (fun hg => r_fieldAddr (hA166.get rfl) Try.underlying26 rfl ti_24 (by decide)) fun a167 hA167 _ => ?_)
            refine sq (opk_gval hA167 rfl rfl (g := true) (e := (((root_3 && (decide ((t_1_Name.length : Int) ≤ 32))) && (decide (t_1_Text = ([] : Str)))) && (decide ((t_1_Attrs.n : Int) = 0)))) rfl (fun hg => r_load1 Try.underlying24 rfl (cv_get (hA167.get rfl) hg) (hB9.cell 4 _ rfl)) fun a168 hA168 _ => ?_)
            refine sq (opk_gval hA168 rfl rfl (g := true) (e := (((root_3 && (decide ((t_1_Name.length : Int) ≤ 32))) && (decide (t_1_Text = ([] : Str)))) && (decide ((t_1_Attrs.n : Int) = 0)))) rfl (fun hg => r_len (cv_get (hA168.get rfl) hg) Try.underlying24) fun a169 hA169 _ => ?_)
            refine sq (opk_gval hA169 rfl rfl (g := true) (e := (((root_3 && (decide ((t_1_Name.length : Int) ≤ 32))) && (decide (t_1_Text = ([] : Str)))) && (decide ((t_1_Attrs.n : Int) = 0)))) rfl (fun hg => r_eql (cv_get (hA169.get rfl) hg) rfl) fun a170 hA170 _ => ?_)
            refine sq (opk_val hA170 rfl (r_pick_and (g := (true && ((((root_3 && (decide ((t_1_Name.length : Int) ≤ 32))) && (decide (t_1_Text = ([] : Str)))) && (decide ((t_1_Attrs.n : Int) = 0))) == true))) (hA170.get rfl) (hA170.get rfl) (fun he => g_mkt rfl he)) fun a171 hA171 _ => ?_)
            refine sq (opk_val hA171 rfl (r_assign (hA171.get rfl)) fun a172 hA172 _ => ?_)
            refine sq_end ?_
            have hA173 := hA172.keep [(6, .bool ((((root_3 && (decide ((t_1_Name.length : Int) ≤ 32))) && (decide (t_1_Text = ([] : Str)))) && (decide ((t_1_Attrs.n : Int) = 0))) && (decide ((t_1_Kids.n : Int) = 0))))] ⟨rfl, trivial⟩
            refine then_normal ?_
            refine wp_ret ?_
            refine block_ret ?_
            refine then_ret ?_
            have ht174 := ht146 w5 B_4 hN10  hC11
            exact res_all (vs := [.bool ((((root_3 && (decide ((t_1_Name.length : Int) ≤ 32))) && (decide (t_1_Text = ([] : Str)))) && (decide ((t_1_Attrs.n : Int) = 0))) && (decide ((t_1_Kids.n : Int) = 0)))]) rfl hA173 ⟨res_of_tmp hA173 rfl, trivial⟩ ht174
          · have ht147 := ht118.2 (of_decide_eq_false hc)
            clear hc
            refine wp_skip ?_
            refine block_normal ?_
            refine then_normal ?_
            refine wp_seq ?_
            refine wp_region_lit ?_
            refine sq (opk_val hA145 rfl (r_assign rfl) fun a175 hA175 _ => ?_)
            refine sq_end ?_
            have hA176 := hA175.keep [(6, .bool false)] ⟨rfl, trivial⟩
            refine then_normal ?_
            refine wp_ret ?_
            have ht177 := ht147 w5 B_4 hN10  hC11
            exact res_all (vs := [.bool false]) rfl hA176 ⟨res_of_tmp hA176 rfl, trivial⟩ ht177

/-- The condition of topiary/tree.attrs. -/
def tree_attrs.vc (l_1 : Sl) (R : Value → World → Prop) (w : World) : Prop :=
((12 < (l_1.n : Int)) →
R (.bool false) w) ∧
((¬ (12 < (l_1.n : Int))) →
∃ (J_21 : Str → Int → World → Prop) (mu_22 : Str → Int → World → Nat),
J_21 ([] : Str) 0 w ∧
(∀ (last_18 : Str) (x_19 : Int) (w20 : World), J_21 last_18 x_19 w20 →
((x_19 < (l_1.n : Int)) →
((0 : Int) ≤ x_19 ∧ x_19 < (l_1.n : Int)) ∧ ∃ p_101 : Addr, l_1.a = some p_101 ∧
∃ (x_107_Name : Str) (x_107_Value : Str), (Cells w20 (p_101.add (x_19.toNat * 2)) [.string (Bs x_107_Name), .string (Bs x_107_Value)]) ∧
∀ (w118 : World) (B_110 : Nat), New w20 B_110 w118 → Chg [] w20 w118 →
∃ (r_134 : Bool), (((((Op.bytesLess x_107_Name last_18) = false) ∧ (¬ (x_107_Name = last_18)))) → Calls Try.prog 19 #[.string (Bs x_107_Name)] w118 (Ret fun v w' => Ext w118 w' ∧ v = .bool r_134)) ∧
(∀ w136 : World, Ext w118 w136 →
((((((Op.bytesLess x_107_Name last_18) = true) ∨ (x_107_Name = last_18)) ∨ (r_134 = false)) ∨ (4096 < (x_107_Value.length : Int))) →
R (.bool false) w136) ∧
((((((Op.bytesLess x_107_Name last_18) = false) ∧ (¬ (x_107_Name = last_18))) ∧ (r_134 = true)) ∧ (¬ (4096 < (x_107_Value.length : Int)))) →
(I64 (x_19 + 1)) ∧
J_21 x_107_Name (x_19 + 1) w136 ∧ mu_22 x_107_Name (x_19 + 1) w136 < mu_22 last_18 x_19 w20))) ∧
((¬ (x_19 < (l_1.n : Int))) →
R (.bool true) w20)))
set_option maxHeartbeats 1000000 in
set_option maxRecDepth 10000 in
theorem tree_attrs.ok (l_1 : Sl) {R : Value → World → Prop} {w : World} (ht0 : tree_attrs.vc l_1 R w) : Calls Try.prog 51 #[Sl.v l_1] w (Ret R) := by
  refine enter [Sl.v l_1] Try.func51 rfl Try.ntmps51 rfl ?_
  intro a0 hA0
  unfold tree_attrs.vc at ht0
  refine wp_seq ?_
  refine wp_region_lit ?_
  refine sq (opk_val hA0 rfl (r_assign rfl) fun a2 hA2 _ => ?_)
  refine sq_end ?_
  have hA3 := hA2.keep [(0, Sl.v l_1)] ⟨rfl, trivial⟩
  refine then_normal ?_
  refine wp_seq ?_
  refine wp_seq ?_
  refine wp_region_lit ?_
  refine sq (opk_val hA3 rfl (r_move (hA3.get rfl)) fun a4 hA4 _ => ?_)
  refine sq (opk_val hA4 rfl (r_len (hA4.get rfl) Try.underlying23) fun a5 hA5 _ => ?_)
  refine sq (opk_val hA5 rfl (r_gtr (hA5.get rfl) rfl) fun a6 hA6 _ => ?_)
  refine sq_end ?_
  have hA7 := hA6.keep [(0, Sl.v l_1), (8, .bool (decide (12 < (l_1.n : Int))))] ⟨rfl, rfl, trivial⟩
  refine then_normal ?_
  refine wp_cond_split (hA7.get rfl) (fun hc => ?_) (fun hc => ?_)
  · have ht8 := ht0.1 (of_decide_eq_true hc)
    clear hc
    refine wp_seq ?_
    refine wp_region_lit ?_
    refine sq (opk_val hA7 rfl (r_assign rfl) fun a10 hA10 _ => ?_)
    refine sq_end ?_
    have hA11 := hA10.keep [(2, .bool false)] ⟨rfl, trivial⟩
    refine then_normal ?_
    refine wp_ret ?_
    refine then_ret ?_
    exact res_all (vs := [.bool false]) rfl hA11 ⟨res_of_tmp hA11 rfl, trivial⟩ ht8
  · have ht9 := ht0.2 (of_decide_eq_false hc)
    clear hc
    refine wp_skip ?_
    refine then_normal ?_
    refine wp_seq ?_
    refine wp_region_lit ?_
    refine sq (opk_val hA7 rfl (r_assign rfl) fun a12 hA12 _ => ?_)
    refine sq_end ?_
    have hA13 := hA12.keep [(0, Sl.v l_1), (3, .string (Bs ([] : Str)))] ⟨rfl, rfl, trivial⟩
    refine then_normal ?_
    refine wp_seq ?_
    refine wp_seq ?_
    refine wp_region_lit ?_
    refine sq (opk_val hA13 rfl (r_move (hA13.get rfl)) fun a14 hA14 _ => ?_)
    refine sq (opk_val hA14 rfl (r_len (hA14.get rfl) Try.underlying23) fun a15 hA15 _ => ?_)
    refine sq (opk_val hA15 rfl (r_move rfl) fun a16 hA16 _ => ?_)
    refine sq_end ?_
    have hA17 := hA16.keep [(3, .string (Bs ([] : Str))), (9, Sl.v l_1), (10, .int .i64 (l_1.n : Int)), (11, .int .i64 0)] ⟨rfl, rfl, rfl, rfl, trivial⟩
    refine then_normal ?_
    refine wp_block ?_
    obtain ⟨J_21, mu_22, h094, ht93⟩ := ht9
    refine wp_loop_st (σ := Str × Int × World) (fun s a w => Ag 34 a [(3, .string (Bs s.1)), (9, Sl.v l_1), (10, .int .i64 (l_1.n : Int)), (11, .int .i64 s.2.1)] ∧ w = s.2.2 ∧ J_21 s.1 s.2.1 s.2.2) (fun s => mu_22 s.1 s.2.1 s.2.2) (([] : Str), 0, w) ⟨hA17.keep [(3, .string (Bs ([] : Str))), (9, Sl.v l_1), (10, .int .i64 (l_1.n : Int)), (11, .int .i64 0)] ⟨rfl, rfl, rfl, rfl, trivial⟩, rfl, h094⟩ ?_
    rintro ⟨last_18, x_19, w20⟩ a92 w_ ⟨hA92, hw_, hJ96⟩
    have hw_ : w20 = w_ := hw_.symm
    subst hw_
    have ht95 := ht93 last_18 x_19 _ hJ96
    refine wp_seq ?_
    refine wp_region_lit ?_
    refine sq (opk_val hA92 rfl (r_lss (hA92.get rfl) (hA92.get rfl)) fun a97 hA97 _ => ?_)
    refine sq_end ?_
    have hA98 := hA97.keep [(3, .string (Bs last_18)), (9, Sl.v l_1), (10, .int .i64 (l_1.n : Int)), (11, .int .i64 x_19), (12, .bool (decide (x_19 < (l_1.n : Int))))] ⟨rfl, rfl, rfl, rfl, rfl, trivial⟩
    refine then_normal ?_
    refine wp_seq ?_
    refine wp_cond_split (hA98.get rfl) (fun hc => ?_) (fun hc => ?_)
    · have ht99 := ht95.1 (of_decide_eq_true hc)
      clear hc
      refine wp_skip ?_
      refine then_normal ?_
      refine wp_seq ?_
      refine wp_block ?_
      refine wp_seq ?_
      refine wp_region_lit ?_
      obtain ⟨hb102, p_101, hp103, ht104⟩ := ht99
      refine sq (opk_val hA98 rfl (r_indexAddr (hA98.get rfl) (hA98.get rfl) Try.underlying23 ti_33 hb102 hp103) fun a105 hA105 _ => ?_)
      obtain ⟨x_107_Name, x_107_Value, hx108, ht109⟩ := ht104
      refine sq (opk_val hA105 rfl (r_loadN Try.underlying33 rfl ti_33 (hA105.get rfl) hx108) fun a106 hA106 _ => ?_)
      refine sq (opk_new (fun B => .pointer (some ⟨B, 0, none⟩)) hA106 rfl (r_alloc (cs := [.string (Bs ([] : Str)), .string (Bs ([] : Str))]) ti_33 rfl) fun a112 w111 B_110 hE113 hN114 hB115 hA112 _ => ?_)
      have hN116 : New w20 B_110 w111 := hN114
      have hC117 : Chg [] w20 w111 := hE113
      refine sq (opk_store hA112 hB115 (r_store (vs := [.string (Bs x_107_Name), .string (Bs x_107_Value)]) (hA112.get rfl) (hA112.get rfl) rfl ti_33 hB115 rfl (ones_all [.string (Bs x_107_Name), .string (Bs x_107_Value)] rfl)) fun a119 w118 hS120 hB121 hA119 => ?_)
      have hB122 : Box w118 B_110 33 [.string (Bs x_107_Name), .string (Bs x_107_Value)] := hB121
      have hC123 := hC117.storeNew hN116 hS120
      have hN124 := hN116.up hS120.size
      refine sq_end ?_
      have hA125 := hA119.keep [(3, .string (Bs last_18)), (5, .pointer (some ⟨B_110, 0, none⟩)), (9, Sl.v l_1), (10, .int .i64 (l_1.n : Int)), (11, .int .i64 x_19)] ⟨rfl, rfl, rfl, rfl, rfl, trivial⟩
      refine then_normal ?_
      refine wp_seq ?_
      refine wp_seq ?_
      refine wp_region_lit ?_
      refine sq (opk_val hA125 rfl (r_fieldAddr (hA125.get rfl) Try.underlying33 rfl ti_9 (by decide)) fun a126 hA126 _ => ?_)
      refine sq (opk_val hA126 rfl (r_load1 Try.underlying9 rfl (hA126.get rfl) (hB122.cell 0 _ rfl)) fun a127 hA127 _ => ?_)
      refine sq (opk_val hA127 rfl (r_move (hA127.get rfl)) fun a128 hA128 _ => ?_)
      refine sq (opk_val hA128 rfl (r_sleq (hA128.get rfl) (hA128.get rfl)) fun a129 hA129 _ => ?_)
      refine sq (opk_val hA129 rfl (r_move (hA129.get rfl)) fun a130 hA130 _ => ?_)
      refine sq (opk_gval hA130 rfl rfl (g := true) (e := ((Op.bytesLess x_107_Name last_18) || (decide (x_107_Name = last_18)))) rfl (fun hg => r_fieldAddr (hA130.get rfl) Try.underlying33 rfl ti_9 (by decide)) fun a131 hA131 _ => ?_)
      refine sq (opk_gval hA131 rfl rfl (g := true) (e := ((Op.bytesLess x_107_Name last_18) || (decide (x_107_Name = last_18)))) rfl (fun hg => r_load1 Try.underlying9 rfl (cv_get (hA131.get rfl) hg) (hB122.cell 0 _ rfl)) fun a132 hA132 _ => ?_)
      have ht133 := ht109 w118 B_110 hN124  hC123
      obtain ⟨r_134, hc138, ht137⟩ := ht133
      refine sq (opk_gcall hA132 rfl rfl (g := true) (e := ((Op.bytesLess x_107_Name last_18) || (decide (x_107_Name = last_18)))) rfl (fun hg => r_call (args := #[.string (Bs x_107_Name)]) Try.func19 (by decide) rfl (map_arr (ml_cons (cv_get (hA132.get rfl) hg) ml_nil)) rfl) (fun hg => hc138 ⟨(b_or_f (g_f hg)).1, (of_decide_eq_false (b_or_f (g_f hg)).2)⟩) fun a135 w136 hA135 _ hE139 => ?_)
      have hB140 := hB122.ext hE139
      have hC141 : Chg [] w118 w136 := hE139
      have ht142 := ht137 w136 hE139
      refine sq (opk_gval hA135 rfl rfl (g := true) (e := ((Op.bytesLess x_107_Name last_18) || (decide (x_107_Name = last_18)))) rfl (fun hg => r_not (cv_get (hA135.get rfl) hg)) fun a143 hA143 _ => ?_)
      refine sq (opk_val hA143 rfl (r_pick_or (g := (true && (((Op.bytesLess x_107_Name last_18) || (decide (x_107_Name = last_18))) == false))) (hA143.get rfl) (hA143.get rfl) (fun he => g_mkf rfl he)) fun a144 hA144 _ => ?_)
      refine sq (opk_val hA144 rfl (r_move (hA144.get rfl)) fun a145 hA145 _ => ?_)
      refine sq (opk_gval hA145 rfl rfl (g := true) (e := (((Op.bytesLess x_107_Name last_18) || (decide (x_107_Name = last_18))) || (!r_134))) rfl (fun hg => r_fieldAddr (hA145.get rfl) Try.underlying33 rfl ti_9 (by decide)) fun a146 hA146 _ => ?_)
      refine sq (opk_gval hA146 rfl rfl (g := true) (e := (((Op.bytesLess x_107_Name last_18) || (decide (x_107_Name = last_18))) || (!r_134))) rfl (fun hg => r_load1 Try.underlying9 rfl (cv_get (hA146.get rfl) hg) (hB140.cell 1 _ rfl)) fun a147 hA147 _ => ?_)
      refine sq (opk_gval hA147 rfl rfl (g := true) (e := (((Op.bytesLess x_107_Name last_18) || (decide (x_107_Name = last_18))) || (!r_134))) rfl (fun hg => r_slen (cv_get (hA147.get rfl) hg) Try.underlying9) fun a148 hA148 _ => ?_)
      refine sq (opk_gval hA148 rfl rfl (g := true) (e := (((Op.bytesLess x_107_Name last_18) || (decide (x_107_Name = last_18))) || (!r_134))) rfl (fun hg => r_gtr (cv_get (hA148.get rfl) hg) rfl) fun a149 hA149 _ => ?_)
      refine sq (opk_val hA149 rfl (r_pick_or (g := (true && ((((Op.bytesLess x_107_Name last_18) || (decide (x_107_Name = last_18))) || (!r_134)) == false))) (hA149.get rfl) (hA149.get rfl) (fun he => g_mkf rfl he)) fun a150 hA150 _ => ?_)
      refine sq_end ?_
      have hA151 := hA150.keep [(5, .pointer (some ⟨B_110, 0, none⟩)), (9, Sl.v l_1), (10, .int .i64 (l_1.n : Int)), (11, .int .i64 x_19), (30, .bool ((((Op.bytesLess x_107_Name last_18) || (decide (x_107_Name = last_18))) || (!r_134)) || (decide (4096 < (x_107_Value.length : Int)))))] ⟨rfl, rfl, rfl, rfl, rfl, trivial⟩
      refine then_normal ?_
      refine wp_cond_split (hA151.get rfl) (fun hc => ?_) (fun hc => ?_)
      · have ht152 := ht142.1 ((b_or_t hc).imp (fun h => ((b_or_t h).imp (fun h => ((b_or_t h).imp (fun h => h) (fun h => (of_decide_eq_true h)))) (fun h => (b_not_t h)))) (fun h => (of_decide_eq_true h)))
        clear hc
        refine wp_seq ?_
        refine wp_region_lit ?_
        refine sq (opk_val hA151 rfl (r_assign rfl) fun a154 hA154 _ => ?_)
        refine sq_end ?_
        have hA155 := hA154.keep [(2, .bool false)] ⟨rfl, trivial⟩
        refine then_normal ?_
        refine wp_ret ?_
        refine then_ret ?_
        refine block_ret ?_
        refine then_ret ?_
        refine then_ret ?_
        refine block_ret ?_
        refine then_ret ?_
        exact res_all (vs := [.bool false]) rfl hA155 ⟨res_of_tmp hA155 rfl, trivial⟩ ht152
      · have ht153 := ht142.2 ⟨⟨⟨(b_or_f (b_or_f (b_or_f hc).1).1).1, (of_decide_eq_false (b_or_f (b_or_f (b_or_f hc).1).1).2)⟩, (b_not_f (b_or_f (b_or_f hc).1).2)⟩, (of_decide_eq_false (b_or_f hc).2)⟩
        clear hc
        refine wp_skip ?_
        refine then_normal ?_
        refine wp_region_lit ?_
        refine sq (opk_val hA151 rfl (r_fieldAddr (hA151.get rfl) Try.underlying33 rfl ti_9 (by decide)) fun a156 hA156 _ => ?_)
        refine sq (opk_val hA156 rfl (r_load1 Try.underlying9 rfl (hA156.get rfl) (hB140.cell 0 _ rfl)) fun a157 hA157 _ => ?_)
        refine sq (opk_val hA157 rfl (r_assign (hA157.get rfl)) fun a158 hA158 _ => ?_)
        refine sq_end ?_
        have hA159 := hA158.keep [(3, .string (Bs x_107_Name)), (9, Sl.v l_1), (10, .int .i64 (l_1.n : Int)), (11, .int .i64 x_19)] ⟨rfl, rfl, rfl, rfl, trivial⟩
        refine block_normal ?_
        refine then_normal ?_
        refine wp_region_lit ?_
        obtain ⟨hS161, ht162⟩ := ht153
        refine sq (opk_val hA159 rfl (r_addI (hA159.get rfl) rfl hS161) fun a160 hA160 _ => ?_)
        refine sq (opk_val hA160 rfl (r_move (hA160.get rfl)) fun a163 hA163 _ => ?_)
        refine sq_end ?_
        have hA164 := hA163.keep [(3, .string (Bs x_107_Name)), (9, Sl.v l_1), (10, .int .i64 (l_1.n : Int)), (11, .int .i64 (x_19 + 1))] ⟨rfl, rfl, rfl, rfl, trivial⟩
        have hA165 := hA164.keep [(3, .string (Bs x_107_Name)), (9, Sl.v l_1), (10, .int .i64 (l_1.n : Int)), (11, .int .i64 (x_19 + 1))] ⟨rfl, rfl, rfl, rfl, trivial⟩
        exact then_normal ⟨(x_107_Name, x_19 + 1, w136), ⟨hA165, rfl, ht162.1⟩, ht162.2⟩
    · have ht100 := ht95.2 (of_decide_eq_false hc)
      clear hc
      refine wp_exit ?_
      refine then_exit ?_
      refine then_exit ?_
      refine block_hit ?_
      have hA166 := hA98.keep [] trivial
      refine then_normal ?_
      refine wp_seq ?_
      refine wp_region_lit ?_
      refine sq (opk_val hA166 rfl (r_assign rfl) fun a167 hA167 _ => ?_)
      refine sq_end ?_
      have hA168 := hA167.keep [(2, .bool true)] ⟨rfl, trivial⟩
      refine then_normal ?_
      refine wp_ret ?_
      exact res_all (vs := [.bool true]) rfl hA168 ⟨res_of_tmp hA168 rfl, trivial⟩ ht100

end Go.Proofs.Ytpacegmmbabhjaa
