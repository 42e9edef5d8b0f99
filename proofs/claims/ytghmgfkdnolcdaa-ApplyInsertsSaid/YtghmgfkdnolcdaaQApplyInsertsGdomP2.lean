/-
  PRINTED BY PROGRAM: for each function its condition (vc), and that this suffices (ok).
-/
import Derived.Test.YtghmgfkdnolcdaaQApplyInsertsGT
namespace Go.Proofs.Ytghmgfkdnolcdaa
open Go.RowKit
set_option linter.unusedVariables false

/-- The condition of (*topiary/dom.Dom).Unset. -/
def dom_Dom_Unset.vc (d_1 : Addr) (id_2 : Int) (name_3 : Str) (R : Value → World → Prop) (w : World) : Prop :=
CallK Try.prog 45 #[.pointer (some d_1), .int .i64 id_2] w [] (fun v w10 => ∃ (r_8 : Option Addr), v = .pointer r_8 ∧
(((Option.isNone r_8) = true) →
R (.int .i64 3) w10) ∧
(((Option.isNone r_8) = false) →
∃ p_28 : Addr, (r_8 = some p_28) ∧
∃ (x_34 : Int), (w10.cell? ((p_28.add 2).add 0) = some (.int .i64 x_34)) ∧
((x_34 ≠ 2) →
R (.int .i64 4) w10) ∧
((¬ (x_34 ≠ 2)) →
CallK Try.prog 51 #[.pointer r_8, .string (Bs name_3)] w10 [] (fun v w49 => ∃ (r_0_46 : Int) (r_1_47 : Bool), v = .tuple #[.int .i64 r_0_46, .bool r_1_47] ∧
((r_1_47 = false) →
R (.int .i64 8) w49) ∧
((r_1_47 = true) →
∃ p_70 : Addr, (r_8 = some p_70) ∧
∃ (x_76 : Sl), (w49.cell? ((p_70.add 2).add 3) = some (Sl.v x_76)) ∧
(I64 ((x_76.n : Int) - 1)) ∧
RunK Try.prog (Instr.makeSlice 26 (.int .i64 ((x_76.n : Int) - 1)) (.int .i64 ((x_76.n : Int) - 1))) w49 [] (fun v w84 => ∃ (r_90 : Sl), v = Sl.v r_90 ∧
∃ p_96 : Addr, (r_8 = some p_96) ∧
∃ (x_102 : Sl), (w84.cell? ((p_96.add 2).add 3) = some (Sl.v x_102)) ∧
((0 : Int) ≤ r_0_46 ∧ r_0_46 ≤ (x_102.c : Int)) ∧
RunK Try.prog (Builtin.copy_ #[26, 26] 3 #[Sl.v r_90, Sl.v (Sl.cut x_102 2 0 r_0_46.toNat x_102.c)]) w84 [] (fun v w110 => ∃ (r_116 : Int), v = .int .i64 r_116 ∧
∀ (w118 : World), Chg [] w110 w118 →
((0 : Int) ≤ r_0_46 ∧ r_0_46 ≤ (r_90.n : Int)) ∧
∃ p_127 : Addr, (r_8 = some p_127) ∧
∃ (x_133 : Sl), (w118.cell? ((p_127.add 2).add 3) = some (Sl.v x_133)) ∧
(I64 (r_0_46 + 1)) ∧
((0 : Int) ≤ r_0_46 + 1 ∧ r_0_46 + 1 ≤ (x_133.n : Int)) ∧
∀ (w144 : World), Chg [] w118 w144 →
RunK Try.prog (Builtin.copy_ #[26, 26] 3 #[Sl.v (Sl.cut r_90 2 r_0_46.toNat r_90.n r_90.c), Sl.v (Sl.cut x_133 2 (r_0_46 + 1).toNat x_133.n x_133.c)]) w144 [] (fun v w156 => ∃ (r_162 : Int), v = .int .i64 r_162 ∧
∃ p_167 : Addr, (r_8 = some p_167) ∧
∃ (B_176 o_177 : Nat) (T_178 : TypeId) (cs_179 : List Value), ((p_167.add 2).add 3) = ⟨B_176, o_177, none⟩ ∧ Box w156 B_176 T_178 cs_179 ∧ o_177 + 1 ≤ cs_179.length ∧ (∀ b ∈ [], b ≠ B_176) ∧
(∀ w172 : World, Chg [B_176] w156 w172 → Box w172 B_176 T_178 (putAt cs_179 o_177 [Sl.v r_90]) →
R (.int .i64 0) w172)))))))))
set_option maxHeartbeats 1000000 in
set_option maxRecDepth 10000 in
theorem dom_Dom_Unset.ok (d_1 : Addr) (id_2 : Int) (name_3 : Str) {R : Value → World → Prop} {w : World} (ht0 : dom_Dom_Unset.vc d_1 id_2 name_3 R w) : Calls Try.prog 29 #[.pointer (some d_1), .int .i64 id_2, .string (Bs name_3)] w (Ret R) := by
  refine enter [.pointer (some d_1), .int .i64 id_2, .string (Bs name_3)] Try.func29 rfl Try.ntmps29 rfl ?_
  intro a0 hA0
  unfold dom_Dom_Unset.vc at ht0
  refine wp_seq ?_
  refine wp_region_lit ?_
  refine sq (opk_val hA0 rfl (r_assign rfl) fun a4 hA4 _ => ?_)
  refine sq_end ?_
  have hA5 := hA4.keep [(0, .pointer (some d_1)), (1, .int .i64 id_2), (2, .string (Bs name_3))] ⟨rfl, rfl, rfl, trivial⟩
  refine then_normal ?_
  refine wp_seq ?_
  refine wp_region_lit ?_
  refine sq (opk_val hA5 rfl (r_move (hA5.get rfl)) fun a6 hA6 _ => ?_)
  refine sq (opk_val hA6 rfl (r_move (hA6.get rfl)) fun a7 hA7 _ => ?_)
  refine sq (opk_call hA7 rfl (r_call (args := #[.pointer (some d_1), .int .i64 id_2]) Try.func45 (by decide) rfl (map_arr (ml_cons (hA7.get rfl) (ml_cons (hA7.get rfl) ml_nil))) rfl) ht0 fun a9 v15 w10 hA9 _ hn12 hz13 hK14 => ?_)
  obtain ⟨r_8, rfl, ht11⟩ := hK14
  refine sq (opk_val hA9 rfl (r_assign (hA9.get rfl)) fun a16 hA16 _ => ?_)
  refine sq_end ?_
  have hA17 := hA16.keep [(2, .string (Bs name_3)), (7, .pointer r_8)] ⟨rfl, rfl, trivial⟩
  refine then_normal ?_
  refine wp_seq ?_
  refine wp_block ?_
  refine wp_seq ?_
  refine wp_region_lit ?_
  refine sq (opk_val hA17 rfl (r_move (hA17.get rfl)) fun a18 hA18 _ => ?_)
  refine sq (opk_val hA18 rfl (r_pnil (o := r_8) (hA18.get rfl) rfl Try.underlying73) fun a19 hA19 _ => ?_)
  refine sq (opk_val hA19 rfl (r_assign (hA19.get rfl)) fun a20 hA20 _ => ?_)
  refine sq_end ?_
  have hA21 := hA20.keep [(2, .string (Bs name_3)), (7, .pointer r_8), (14, .bool (Option.isNone r_8))] ⟨rfl, rfl, rfl, trivial⟩
  refine then_normal ?_
  refine wp_cond_split (hA21.get rfl) (fun hc => ?_) (fun hc => ?_)
  · have ht22 := ht11.1 hc
    clear hc
    refine wp_seq ?_
    refine wp_region_lit ?_
    refine sq (opk_val hA21 rfl (r_assign rfl) fun a24 hA24 _ => ?_)
    refine sq_end ?_
    have hA25 := hA24.keep [(6, .int .i64 3)] ⟨rfl, trivial⟩
    refine then_normal ?_
    refine wp_ret ?_
    refine block_ret ?_
    refine then_ret ?_
    exact res_all (vs := [.int .i64 3]) rfl hA25 ⟨res_of_tmp hA25 rfl, trivial⟩ ht22
  · have ht23 := ht11.2 hc
    clear hc
    refine wp_seq ?_
    refine wp_region_lit ?_
    refine sq (opk_val hA21 rfl (r_move (hA21.get rfl)) fun a26 hA26 _ => ?_)
    obtain ⟨p_28, hp29, ht30⟩ := ht23
    refine sq (opk_val hA26 rfl (r_nilCheckP (((hA26.get rfl)).trans (congrArg Value.pointer hp29))) fun a27 hA27 _ => ?_)
    refine sq (opk_val hA27 rfl (r_fieldAddr (hA27.get rfl) Try.underlying76 rfl ti_29 (by decide)) fun a31 hA31 _ => ?_)
    refine sq (opk_val hA31 rfl (r_fieldAddr (hA31.get rfl) Try.underlying29 rfl ti_3 (by decide)) fun a32 hA32 _ => ?_)
    obtain ⟨x_34, hx35, ht36⟩ := ht30
    refine sq (opk_val hA32 rfl (r_load1 Try.underlying3 rfl (hA32.get rfl) hx35) fun a33 hA33 _ => ?_)
    refine sq (opk_val hA33 rfl (r_neq (hA33.get rfl) rfl) fun a37 hA37 _ => ?_)
    refine sq (opk_val hA37 rfl (r_assign (hA37.get rfl)) fun a38 hA38 _ => ?_)
    refine sq_end ?_
    have hA39 := hA38.keep [(2, .string (Bs name_3)), (7, .pointer r_8), (17, .bool (decide (x_34 ≠ 2)))] ⟨rfl, rfl, rfl, trivial⟩
    refine then_normal ?_
    refine wp_cond_split (hA39.get rfl) (fun hc => ?_) (fun hc => ?_)
    · have ht40 := ht36.1 (of_decide_eq_true hc)
      clear hc
      refine wp_seq ?_
      refine wp_region_lit ?_
      refine sq (opk_val hA39 rfl (r_assign rfl) fun a42 hA42 _ => ?_)
      refine sq_end ?_
      have hA43 := hA42.keep [(6, .int .i64 4)] ⟨rfl, trivial⟩
      refine then_normal ?_
      refine wp_ret ?_
      refine block_ret ?_
      refine then_ret ?_
      exact res_all (vs := [.int .i64 4]) rfl hA43 ⟨res_of_tmp hA43 rfl, trivial⟩ ht40
    · have ht41 := ht36.2 (of_decide_eq_false hc)
      clear hc
      refine wp_skip ?_
      refine block_normal ?_
      refine then_normal ?_
      refine wp_seq ?_
      refine wp_region_lit ?_
      refine sq (opk_val hA39 rfl (r_move (hA39.get rfl)) fun a44 hA44 _ => ?_)
      refine sq (opk_val hA44 rfl (r_move (hA44.get rfl)) fun a45 hA45 _ => ?_)
      refine sq (opk_call hA45 rfl (r_call (args := #[.pointer r_8, .string (Bs name_3)]) Try.func51 (by decide) rfl (map_arr (ml_cons (hA45.get rfl) (ml_cons (hA45.get rfl) ml_nil))) rfl) ht41 fun a48 v54 w49 hA48 _ hn51 hz52 hK53 => ?_)
      obtain ⟨r_0_46, r_1_47, rfl, ht50⟩ := hK53
      refine sq (opk_val hA48 rfl (r_move (hA48.get rfl)) fun a55 hA55 _ => ?_)
      refine sq (opk_val hA55 rfl (r_extract (hA55.get rfl) rfl) fun a56 hA56 _ => ?_)
      refine sq (opk_val hA56 rfl (r_extract (hA56.get rfl) rfl) fun a57 hA57 _ => ?_)
      refine sq (opk_val hA57 rfl (r_assign (hA57.get rfl)) fun a58 hA58 _ => ?_)
      refine sq (opk_val hA58 rfl (r_assign (hA58.get rfl)) fun a59 hA59 _ => ?_)
      refine sq_end ?_
      have hA60 := hA59.keep [(7, .pointer r_8), (8, .int .i64 r_0_46), (9, .bool r_1_47)] ⟨rfl, rfl, rfl, trivial⟩
      refine then_normal ?_
      refine wp_seq ?_
      refine wp_seq ?_
      refine wp_region_lit ?_
      refine sq (opk_val hA60 rfl (r_move (hA60.get rfl)) fun a61 hA61 _ => ?_)
      refine sq (opk_val hA61 rfl (r_not (hA61.get rfl)) fun a62 hA62 _ => ?_)
      refine sq_end ?_
      have hA63 := hA62.keep [(7, .pointer r_8), (8, .int .i64 r_0_46), (31, .bool (!r_1_47))] ⟨rfl, rfl, rfl, trivial⟩
      refine then_normal ?_
      refine wp_cond_split (hA63.get rfl) (fun hc => ?_) (fun hc => ?_)
      · have ht64 := ht50.1 (b_not_t hc)
        clear hc
        refine wp_seq ?_
        refine wp_region_lit ?_
        refine sq (opk_val hA63 rfl (r_assign rfl) fun a66 hA66 _ => ?_)
        refine sq_end ?_
        have hA67 := hA66.keep [(6, .int .i64 8)] ⟨rfl, trivial⟩
        refine then_normal ?_
        refine wp_ret ?_
        refine then_ret ?_
        exact res_all (vs := [.int .i64 8]) rfl hA67 ⟨res_of_tmp hA67 rfl, trivial⟩ ht64
      · have ht65 := ht50.2 (b_not_f hc)
        clear hc
        refine wp_skip ?_
        refine then_normal ?_
        refine wp_seq ?_
        refine wp_region_lit ?_
        refine sq (opk_val hA63 rfl (r_move (hA63.get rfl)) fun a68 hA68 _ => ?_)
        obtain ⟨p_70, hp71, ht72⟩ := ht65
        refine sq (opk_val hA68 rfl (r_nilCheckP (((hA68.get rfl)).trans (congrArg Value.pointer hp71))) fun a69 hA69 _ => ?_)
        refine sq (opk_val hA69 rfl (r_fieldAddr (hA69.get rfl) Try.underlying76 rfl ti_29 (by decide)) fun a73 hA73 _ => ?_)
        refine sq (opk_val hA73 rfl (r_fieldAddr (hA73.get rfl) Try.underlying29 rfl ti_26 (by decide)) fun a74 hA74 _ => ?_)
        obtain ⟨x_76, hx77, ht78⟩ := ht72
        refine sq (opk_val hA74 rfl (r_load1 Try.underlying26 rfl (hA74.get rfl) hx77) fun a75 hA75 _ => ?_)
        refine sq (opk_val hA75 rfl (r_len (hA75.get rfl) Try.underlying26) fun a79 hA79 _ => ?_)
        obtain ⟨hS81, ht82⟩ := ht78
        refine sq (opk_val hA79 rfl (r_subI (hA79.get rfl) rfl hS81) fun a80 hA80 _ => ?_)
        refine sq (opk_run hA80 rfl (fun _ _ hr => r_makeSlice (hA80.get rfl) (hA80.get rfl) hr) ht82 fun a83 v89 w84 hA83 _ hn86 hz87 hK88 => ?_)
        obtain ⟨r_90, rfl, ht85⟩ := hK88
        refine sq (opk_val hA83 rfl (r_assign (hA83.get rfl)) fun a91 hA91 _ => ?_)
        refine sq_end ?_
        have hA92 := hA91.keep [(7, .pointer r_8), (8, .int .i64 r_0_46), (10, Sl.v r_90)] ⟨rfl, rfl, rfl, trivial⟩
        refine then_normal ?_
        refine wp_seq ?_
        refine wp_region_lit ?_
        refine sq (opk_val hA92 rfl (r_move (hA92.get rfl)) fun a93 hA93 _ => ?_)
        refine sq (opk_val hA93 rfl (r_move (hA93.get rfl)) fun a94 hA94 _ => ?_)
        obtain ⟨p_96, hp97, ht98⟩ := ht85
        refine sq (opk_val hA94 rfl (r_nilCheckP (((hA94.get rfl)).trans (congrArg Value.pointer hp97))) fun a95 hA95 _ => ?_)
        refine sq (opk_val hA95 rfl (r_fieldAddr (hA95.get rfl) Try.underlying76 rfl ti_29 (by decide)) fun a99 hA99 _ => ?_)
        refine sq (opk_val hA99 rfl (r_fieldAddr (hA99.get rfl) Try.underlying29 rfl ti_26 (by decide)) fun a100 hA100 _ => ?_)
        obtain ⟨x_102, hx103, ht104⟩ := ht98
        refine sq (opk_val hA100 rfl (r_load1 Try.underlying26 rfl (hA100.get rfl) hx103) fun a101 hA101 _ => ?_)
        refine sq (opk_val hA101 rfl (r_move (hA101.get rfl)) fun a105 hA105 _ => ?_)
        obtain ⟨hS107, ht108⟩ := ht104
        refine sq (opk_val hA105 rfl (r_sliceH (hA105.get rfl) (hA105.get rfl) Try.underlying26 ti_65 hS107) fun a106 hA106 _ => ?_)
        refine sq (opk_run hA106 rfl (fun _ _ hr => r_copy (hA106.get rfl) (hA106.get rfl) hr) ht108 fun a109 v115 w110 hA109 _ hn112 hz113 hK114 => ?_)
        obtain ⟨r_116, rfl, ht111⟩ := hK114
        refine sq_end ?_
        have hA117 := hA109.keep [(7, .pointer r_8), (8, .int .i64 r_0_46), (10, Sl.v r_90)] ⟨rfl, rfl, rfl, trivial⟩
        refine then_normal ?_
        refine wp_seq ?_
        refine draw' (by kernel_rfl) fun w118 hE119 => ?_
        have hC120 : Chg [] w110 w118 := hE119
        have ht121 := ht111 w118    hC120
        obtain ⟨hS124, ht125⟩ := ht121
        obtain ⟨p_127, hp128, ht129⟩ := ht125
        obtain ⟨x_133, hx134, ht135⟩ := ht129
        obtain ⟨hS137, ht138⟩ := ht135
        obtain ⟨hS141, ht142⟩ := ht138
        refine par (D := [[], [], [0, 1], [], [3], [3, 4], [3, 4, 5], [3, 4, 5, 6], [], [8], [3, 4, 5, 6, 7, 8, 9], [0, 1, 2, 3, 4, 5, 6, 7, 8, 9, 10]]) (S := [0, 1, 2, 3, 4, 5, 6, 7, 8, 9, 10]) (F := []) (V := VL [(0, fun v _ => v = Sl.v r_90), (1, fun v _ => v = .int .i64 r_0_46), (2, fun v _ => v = Sl.v (Sl.cut r_90 2 r_0_46.toNat r_90.n r_90.c)), (3, fun v _ => v = .pointer r_8), (4, fun v _ => v = .pointer (some p_127)), (5, fun v _ => v = .pointer (some (p_127.add 2))), (6, fun v _ => v = .pointer (some ((p_127.add 2).add 3))), (7, fun v _ => v = Sl.v x_133), (8, fun v _ => v = .int .i64 r_0_46), (9, fun v _ => v = .int .i64 (r_0_46 + 1)), (10, fun v _ => v = Sl.v (Sl.cut x_133 2 (r_0_46 + 1).toNat x_133.n x_133.c))]) hA117 (by kernel_rfl) ⟨fun _ _ _ _ h => by first | exact h | (change _ = _ at h; change _ = _; exact h), fun _ _ _ _ h => by first | exact h | (change _ = _ at h; change _ = _; exact h), fun _ _ _ _ h => by first | exact h | (change _ = _ at h; change _ = _; exact h), fun _ _ _ _ h => by first | exact h | (change _ = _ at h; change _ = _; exact h), fun _ _ _ _ h => by first | exact h | (change _ = _ at h; change _ = _; exact h), fun _ _ _ _ h => by first | exact h | (change _ = _ at h; change _ = _; exact h), fun _ _ _ _ h => by first | exact h | (change _ = _ at h; change _ = _; exact h), fun _ _ _ _ h => by first | exact h | (change _ = _ at h; change _ = _; exact h), fun _ _ _ _ h => by first | exact h | (change _ = _ at h; change _ = _; exact h), fun _ _ _ _ h => by first | exact h | (change _ = _ at h; change _ = _; exact h), fun _ _ _ _ h => by first | exact h | (change _ = _ at h; change _ = _; exact h), trivial⟩ ⟨?_, ?_, ?_, ?_, ?_, ?_, ?_, ?_, ?_, ?_, ?_, trivial⟩ ?_
        · intro a w hT
          have hAp := hT.ag hA117 [(10, Sl.v r_90)] ⟨rfl, trivial⟩ (by kernel_rfl)
          exact opk_val hAp rfl (r_move (hAp.get rfl)) fun _ _ e => ⟨_, e, Chg.refl _ _, fun _ => Eq.refl _⟩
        · intro a w hT
          have hAp := hT.ag hA117 [(8, .int .i64 r_0_46)] ⟨rfl, trivial⟩ (by kernel_rfl)
          exact opk_val hAp rfl (r_move (hAp.get rfl)) fun _ _ e => ⟨_, e, Chg.refl _ _, fun _ => Eq.refl _⟩
        · intro a w hT
          have hAp := hT.ag hA117 [] trivial (by kernel_rfl)
          have e122 : a.tmps.getD 49 undef = Sl.v r_90 := hT.vals 0 rfl 49 rfl
          have hAp := hAp.add e122
          have e123 : a.tmps.getD 50 undef = .int .i64 r_0_46 := hT.vals 1 rfl 50 rfl
          have hAp := hAp.add e123
          exact opk_val hAp rfl (r_sliceL (hAp.get rfl) (hAp.get rfl) Try.underlying26 ti_65 hS124) fun _ _ e => ⟨_, e, Chg.refl _ _, fun _ => Eq.refl _⟩
        · intro a w hT
          have hAp := hT.ag hA117 [(7, .pointer r_8)] ⟨rfl, trivial⟩ (by kernel_rfl)
          exact opk_val hAp rfl (r_move (hAp.get rfl)) fun _ _ e => ⟨_, e, Chg.refl _ _, fun _ => Eq.refl _⟩
        · intro a w hT
          have hAp := hT.ag hA117 [] trivial (by kernel_rfl)
          have e126 : a.tmps.getD 52 undef = .pointer r_8 := hT.vals 3 rfl 52 rfl
          have hAp := hAp.add e126
          exact opk_val hAp rfl (r_nilCheckP (((hAp.get rfl)).trans (congrArg Value.pointer hp128))) fun _ _ e => ⟨_, e, Chg.refl _ _, fun _ => Eq.refl _⟩
        · intro a w hT
          have hAp := hT.ag hA117 [] trivial (by kernel_rfl)
          have e130 : a.tmps.getD 53 undef = .pointer (some p_127) := hT.vals 4 rfl 53 rfl
          have hAp := hAp.add e130
          exact opk_val hAp rfl (r_fieldAddr (hAp.get rfl) Try.underlying76 rfl ti_29 (by decide)) fun _ _ e => ⟨_, e, Chg.refl _ _, fun _ => Eq.refl _⟩
        · intro a w hT
          have hAp := hT.ag hA117 [] trivial (by kernel_rfl)
          have e131 : a.tmps.getD 54 undef = .pointer (some (p_127.add 2)) := hT.vals 5 rfl 54 rfl
          have hAp := hAp.add e131
          exact opk_val hAp rfl (r_fieldAddr (hAp.get rfl) Try.underlying29 rfl ti_26 (by decide)) fun _ _ e => ⟨_, e, Chg.refl _ _, fun _ => Eq.refl _⟩
        · intro a w hT
          have hAp := hT.ag hA117 [] trivial (by kernel_rfl)
          have e132 : a.tmps.getD 55 undef = .pointer (some ((p_127.add 2).add 3)) := hT.vals 6 rfl 55 rfl
          have hAp := hAp.add e132
          exact opk_val hAp rfl (r_load1 Try.underlying26 rfl (hAp.get rfl) (Ext.cell hT.chg hx134)) fun _ _ e => ⟨_, e, Chg.refl _ _, fun _ => Eq.refl _⟩
        · intro a w hT
          have hAp := hT.ag hA117 [(8, .int .i64 r_0_46)] ⟨rfl, trivial⟩ (by kernel_rfl)
          exact opk_val hAp rfl (r_move (hAp.get rfl)) fun _ _ e => ⟨_, e, Chg.refl _ _, fun _ => Eq.refl _⟩
        · intro a w hT
          have hAp := hT.ag hA117 [] trivial (by kernel_rfl)
          have e136 : a.tmps.getD 57 undef = .int .i64 r_0_46 := hT.vals 8 rfl 57 rfl
          have hAp := hAp.add e136
          exact opk_val hAp rfl (r_addI (hAp.get rfl) rfl hS137) fun _ _ e => ⟨_, e, Chg.refl _ _, fun _ => Eq.refl _⟩
        · intro a w hT
          have hAp := hT.ag hA117 [] trivial (by kernel_rfl)
          have e139 : a.tmps.getD 56 undef = Sl.v x_133 := hT.vals 7 rfl 56 rfl
          have hAp := hAp.add e139
          have e140 : a.tmps.getD 58 undef = .int .i64 (r_0_46 + 1) := hT.vals 9 rfl 58 rfl
          have hAp := hAp.add e140
          exact opk_val hAp rfl (r_sliceL (hAp.get rfl) (hAp.get rfl) Try.underlying26 ti_65 hS141) fun _ _ e => ⟨_, e, Chg.refl _ _, fun _ => Eq.refl _⟩
        · intro a143 w144 hE145 hag146 hv147
          have hA143 := hag146 [(7, .pointer r_8), (10, Sl.v r_90)] ⟨rfl, rfl, trivial⟩ (by kernel_rfl)
          have e149 : a143.tmps.getD 51 undef = Sl.v (Sl.cut r_90 2 r_0_46.toNat r_90.n r_90.c) := hv147 2 rfl 51 rfl
          have hA150 := hA143.add e149
          have e151 : a143.tmps.getD 59 undef = Sl.v (Sl.cut x_133 2 (r_0_46 + 1).toNat x_133.n x_133.c) := hv147 10 rfl 59 rfl
          have hA152 := hA150.add e151
          have hC153 : Chg [] w118 w144 := hE145
          have ht154 := ht142 w144    hC153
          refine one (D := [[], [], [0, 1], [], [3], [3, 4], [3, 4, 5], [3, 4, 5, 6], [], [8], [3, 4, 5, 6, 7, 8, 9], [0, 1, 2, 3, 4, 5, 6, 7, 8, 9, 10]]) (i := 11) rfl (by kernel_rfl) (opk_run hA152 rfl (fun _ _ hr => r_copy (hA152.get rfl) (hA152.get rfl) hr) ht154 fun a155 v161 w156 hA155 _ hn158 hz159 hK160 => ?_)
          obtain ⟨r_162, rfl, ht157⟩ := hK160
          refine PR_end (by kernel_rfl) ?_
          have hA163 := hA155.keep [(7, .pointer r_8), (10, Sl.v r_90)] ⟨rfl, rfl, trivial⟩
          refine then_normal ?_
          refine wp_seq ?_
          refine wp_region_lit ?_
          refine sq (opk_val hA163 rfl (r_move (hA163.get rfl)) fun a164 hA164 _ => ?_)
          refine sq (opk_val hA164 rfl (r_move (hA164.get rfl)) fun a165 hA165 _ => ?_)
          obtain ⟨p_167, hp168, ht169⟩ := ht157
          refine sq (opk_val hA165 rfl (r_nilCheckP (((hA165.get rfl)).trans (congrArg Value.pointer hp168))) fun a166 hA166 _ => ?_)
          refine sq (opk_val hA166 rfl (r_fieldAddr (hA166.get rfl) Try.underlying76 rfl ti_29 (by decide)) fun a170 hA170 _ => ?_)
          refine sq (opk_val hA170 rfl (r_fieldAddr (hA170.get rfl) Try.underlying29 rfl ti_26 (by decide)) fun a171 hA171 _ => ?_)
          obtain ⟨B_176, o_177, T_178, cs_179, he180, hb181, hl182, hx183, ht184⟩ := ht169
          refine sq (opk_store hA171 hb181 (r_store (vs := [Sl.v r_90]) (((hA171.get rfl)).trans (congrArg (fun a => Value.pointer (some a)) he180)) (hA171.get rfl) rfl ti_26 hb181 (Nat.ble_eq_true_of_le hl182) (ones_all [Sl.v r_90] rfl)) fun a173 w172 hS174 hB175 hA173 => ?_)
          have ht185 := ht184 w172 hS174 hB175
          refine sq_end ?_
          have hA186 := hA173.keep [] trivial
          refine then_normal ?_
          refine wp_seq ?_
          refine wp_region_lit ?_
          refine sq (opk_val hA186 rfl (r_assign rfl) fun a187 hA187 _ => ?_)
          refine sq_end ?_
          have hA188 := hA187.keep [(6, .int .i64 0)] ⟨rfl, trivial⟩
          refine then_normal ?_
          refine wp_ret ?_
          exact res_all (vs := [.int .i64 0]) rfl hA188 ⟨res_of_tmp hA188 rfl, trivial⟩ ht185

/-- The condition of (*topiary/dom.Dom).Text. -/
def dom_Dom_Text.vc (d_1 : Addr) (id_2 : Int) (text_3 : Str) (R : Value → World → Prop) (w : World) : Prop :=
CallK Try.prog 45 #[.pointer (some d_1), .int .i64 id_2] w [] (fun v w10 => ∃ (r_8 : Option Addr), v = .pointer r_8 ∧
(((Option.isNone r_8) = true) →
R (.int .i64 3) w10) ∧
(((Option.isNone r_8) = false) →
∃ p_28 : Addr, (r_8 = some p_28) ∧
∃ (x_34 : Int), (w10.cell? ((p_28.add 2).add 0) = some (.int .i64 x_34)) ∧
∃ p_41 : Addr, (((x_34 ≠ 3)) → r_8 = some p_41) ∧
∃ (x_47 : Int), (((x_34 ≠ 3)) → w10.cell? ((p_41.add 2).add 0) = some (.int .i64 x_47)) ∧
(((x_34 ≠ 3) ∧ (x_47 ≠ 4)) →
R (.int .i64 4) w10) ∧
(((¬ (x_34 ≠ 3)) ∨ (¬ (x_47 ≠ 4))) →
∃ p_60 : Addr, (r_8 = some p_60) ∧
∃ (x_66 : Int), (w10.cell? ((p_60.add 2).add 0) = some (.int .i64 x_66)) ∧
(((x_66 = 3) ∧ (text_3 = ([] : Str))) →
R (.int .i64 1) w10) ∧
(((¬ (x_66 = 3)) ∨ (¬ (text_3 = ([] : Str)))) →
((4096 < (text_3.length : Int)) →
R (.int .i64 2) w10) ∧
((¬ (4096 < (text_3.length : Int))) →
∃ p_92 : Addr, (r_8 = some p_92) ∧
∃ (B_101 o_102 : Nat) (T_103 : TypeId) (cs_104 : List Value), ((p_92.add 2).add 2) = ⟨B_101, o_102, none⟩ ∧ Box w10 B_101 T_103 cs_104 ∧ o_102 + 1 ≤ cs_104.length ∧ (∀ b ∈ [], b ≠ B_101) ∧
(∀ w97 : World, Chg [B_101] w10 w97 → Box w97 B_101 T_103 (putAt cs_104 o_102 [.string (Bs text_3)]) →
R (.int .i64 0) w97))))))
set_option maxHeartbeats 1000000 in
set_option maxRecDepth 10000 in
theorem dom_Dom_Text.ok (d_1 : Addr) (id_2 : Int) (text_3 : Str) {R : Value → World → Prop} {w : World} (ht0 : dom_Dom_Text.vc d_1 id_2 text_3 R w) : Calls Try.prog 30 #[.pointer (some d_1), .int .i64 id_2, .string (Bs text_3)] w (Ret R) := by
  refine enter [.pointer (some d_1), .int .i64 id_2, .string (Bs text_3)] Try.func30 rfl Try.ntmps30 rfl ?_
  intro a0 hA0
  unfold dom_Dom_Text.vc at ht0
  refine wp_seq ?_
  refine wp_region_lit ?_
  refine sq (opk_val hA0 rfl (r_assign rfl) fun a4 hA4 _ => ?_)
  refine sq_end ?_
  have hA5 := hA4.keep [(0, .pointer (some d_1)), (1, .int .i64 id_2), (2, .string (Bs text_3))] ⟨rfl, rfl, rfl, trivial⟩
  refine then_normal ?_
  refine wp_seq ?_
  refine wp_region_lit ?_
  refine sq (opk_val hA5 rfl (r_move (hA5.get rfl)) fun a6 hA6 _ => ?_)
  refine sq (opk_val hA6 rfl (r_move (hA6.get rfl)) fun a7 hA7 _ => ?_)
  refine sq (opk_call hA7 rfl (r_call (args := #[.pointer (some d_1), .int .i64 id_2]) Try.func45 (by decide) rfl (map_arr (ml_cons (hA7.get rfl) (ml_cons (hA7.get rfl) ml_nil))) rfl) ht0 fun a9 v15 w10 hA9 _ hn12 hz13 hK14 => ?_)
  obtain ⟨r_8, rfl, ht11⟩ := hK14
  refine sq (opk_val hA9 rfl (r_assign (hA9.get rfl)) fun a16 hA16 _ => ?_)
  refine sq_end ?_
  have hA17 := hA16.keep [(2, .string (Bs text_3)), (7, .pointer r_8)] ⟨rfl, rfl, trivial⟩
  refine then_normal ?_
  refine wp_seq ?_
  refine wp_block ?_
  refine wp_seq ?_
  refine wp_region_lit ?_
  refine sq (opk_val hA17 rfl (r_move (hA17.get rfl)) fun a18 hA18 _ => ?_)
  refine sq (opk_val hA18 rfl (r_pnil (o := r_8) (hA18.get rfl) rfl Try.underlying73) fun a19 hA19 _ => ?_)
  refine sq (opk_val hA19 rfl (r_assign (hA19.get rfl)) fun a20 hA20 _ => ?_)
  refine sq_end ?_
  have hA21 := hA20.keep [(2, .string (Bs text_3)), (7, .pointer r_8), (11, .bool (Option.isNone r_8))] ⟨rfl, rfl, rfl, trivial⟩
  refine then_normal ?_
  refine wp_cond_split (hA21.get rfl) (fun hc => ?_) (fun hc => ?_)
  · have ht22 := ht11.1 hc
    clear hc
    refine wp_seq ?_
    refine wp_region_lit ?_
    refine sq (opk_val hA21 rfl (r_assign rfl) fun a24 hA24 _ => ?_)
    refine sq_end ?_
    have hA25 := hA24.keep [(6, .int .i64 3)] ⟨rfl, trivial⟩
    refine then_normal ?_
    refine wp_ret ?_
    refine block_ret ?_
    refine then_ret ?_
    exact res_all (vs := [.int .i64 3]) rfl hA25 ⟨res_of_tmp hA25 rfl, trivial⟩ ht22
  · have ht23 := ht11.2 hc
    clear hc
    refine wp_seq ?_
    refine wp_region_lit ?_
    refine sq (opk_val hA21 rfl (r_move (hA21.get rfl)) fun a26 hA26 _ => ?_)
    obtain ⟨p_28, hp29, ht30⟩ := ht23
    refine sq (opk_val hA26 rfl (r_nilCheckP (((hA26.get rfl)).trans (congrArg Value.pointer hp29))) fun a27 hA27 _ => ?_)
    refine sq (opk_val hA27 rfl (r_fieldAddr (hA27.get rfl) Try.underlying76 rfl ti_29 (by decide)) fun a31 hA31 _ => ?_)
    refine sq (opk_val hA31 rfl (r_fieldAddr (hA31.get rfl) Try.underlying29 rfl ti_3 (by decide)) fun a32 hA32 _ => ?_)
    obtain ⟨x_34, hx35, ht36⟩ := ht30
    refine sq (opk_val hA32 rfl (r_load1 Try.underlying3 rfl (hA32.get rfl) hx35) fun a33 hA33 _ => ?_)
    refine sq (opk_val hA33 rfl (r_neq (hA33.get rfl) rfl) fun a37 hA37 _ => ?_)
    refine sq (opk_val hA37 rfl (r_move (hA37.get rfl)) fun a38 hA38 _ => ?_)
    refine sq (opk_gval hA38 rfl rfl (g := true) (e := (decide (x_34 ≠ 3))) rfl (fun hg => r_move (hA38.get rfl)) fun a39 hA39 _ => ?_)
    obtain ⟨p_41, hp42, ht43⟩ := ht36
    refine sq (opk_gval hA39 rfl rfl (g := true) (e := (decide (x_34 ≠ 3))) rfl (fun hg => r_nilCheckP (((cv_get (hA39.get rfl) hg)).trans (congrArg Value.pointer (hp42 (of_decide_eq_true (g_t hg)))))) fun a40 hA40 _ => ?_)
    refine sq (opk_gval hA40 rfl rfl (g := true) (e := (decide (x_34 ≠ 3))) rfl (fun hg => r_fieldAddr (cv_get (hA40.get rfl) hg) Try.underlying76 rfl ti_29 (by decide)) fun a44 hA44 _ => ?_)
    refine sq (opk_gval hA44 rfl rfl (g := true) (e := (decide (x_34 ≠ 3))) rfl (fun hg => r_fieldAddr (cv_get (hA44.get rfl) hg) Try.underlying29 rfl ti_3 (by decide)) fun a45 hA45 _ => ?_)
    obtain ⟨x_47, hx48, ht49⟩ := ht43
    refine sq (opk_gval hA45 rfl rfl (g := true) (e := (decide (x_34 ≠ 3))) rfl (fun hg => r_load1 Try.underlying3 rfl (cv_get (hA45.get rfl) hg) (hx48 (of_decide_eq_true (g_t hg)))) fun a46 hA46 _ => ?_)
    refine sq (opk_gval hA46 rfl rfl (g := true) (e := (decide (x_34 ≠ 3))) rfl (fun hg => r_neq (cv_get (hA46.get rfl) hg) rfl) fun a50 hA50 _ => ?_)
    refine sq (opk_val hA50 rfl (r_pick_and (g := (true && ((decide (x_34 ≠ 3)) == true))) (hA50.get rfl) (hA50.get rfl) (fun he => g_mkt rfl he)) fun a51 hA51 _ => ?_)
    refine sq (opk_val hA51 rfl (r_assign (hA51.get rfl)) fun a52 hA52 _ => ?_)
    refine sq_end ?_
    have hA53 := hA52.keep [(2, .string (Bs text_3)), (7, .pointer r_8), (14, .bool ((decide (x_34 ≠ 3)) && (decide (x_47 ≠ 4))))] ⟨rfl, rfl, rfl, trivial⟩
    refine then_normal ?_
    refine wp_cond_split (hA53.get rfl) (fun hc => ?_) (fun hc => ?_)
    · have ht54 := ht49.1 ⟨(of_decide_eq_true (b_and_t hc).1), (of_decide_eq_true (b_and_t hc).2)⟩
      clear hc
      refine wp_seq ?_
      refine wp_region_lit ?_
      refine sq (opk_val hA53 rfl (r_assign rfl) fun a56 hA56 _ => ?_)
      refine sq_end ?_
      have hA57 := hA56.keep [(6, .int .i64 4)] ⟨rfl, trivial⟩
      refine then_normal ?_
      refine wp_ret ?_
      refine block_ret ?_
      refine then_ret ?_
      exact res_all (vs := [.int .i64 4]) rfl hA57 ⟨res_of_tmp hA57 rfl, trivial⟩ ht54
    · have ht55 := ht49.2 ((b_and_f hc).imp (fun h => (of_decide_eq_false h)) (fun h => (of_decide_eq_false h)))
      clear hc
      refine wp_seq ?_
      refine wp_region_lit ?_
      refine sq (opk_val hA53 rfl (r_move (hA53.get rfl)) fun a58 hA58 _ => ?_)
      obtain ⟨p_60, hp61, ht62⟩ := ht55
      refine sq (opk_val hA58 rfl (r_nilCheckP (((hA58.get rfl)).trans (congrArg Value.pointer hp61))) fun a59 hA59 _ => ?_)
      refine sq (opk_val hA59 rfl (r_fieldAddr (hA59.get rfl) Try.underlying76 rfl ti_29 (by decide)) fun a63 hA63 _ => ?_)
      refine sq (opk_val hA63 rfl (r_fieldAddr (hA63.get rfl) Try.underlying29 rfl ti_3 (by decide)) fun a64 hA64 _ => ?_)
      obtain ⟨x_66, hx67, ht68⟩ := ht62
      refine sq (opk_val hA64 rfl (r_load1 Try.underlying3 rfl (hA64.get rfl) hx67) fun a65 hA65 _ => ?_)
      refine sq (opk_val hA65 rfl (r_eql (hA65.get rfl) rfl) fun a69 hA69 _ => ?_)
      refine sq (opk_val hA69 rfl (r_move (hA69.get rfl)) fun a70 hA70 _ => ?_)
      refine sq (opk_gval hA70 rfl rfl (g := true) (e := (decide (x_66 = 3))) rfl (fun hg => r_move (hA70.get rfl)) fun a71 hA71 _ => ?_)
      refine sq (opk_gval hA71 rfl rfl (g := true) (e := (decide (x_66 = 3))) rfl (fun hg => r_seql (cv_get (hA71.get rfl) hg) rfl) fun a72 hA72 _ => ?_)
      refine sq (opk_val hA72 rfl (r_pick_and (g := (true && ((decide (x_66 = 3)) == true))) (hA72.get rfl) (hA72.get rfl) (fun he => g_mkt rfl he)) fun a73 hA73 _ => ?_)
      refine sq (opk_val hA73 rfl (r_assign (hA73.get rfl)) fun a74 hA74 _ => ?_)
      refine sq_end ?_
      have hA75 := hA74.keep [(2, .string (Bs text_3)), (7, .pointer r_8), (29, .bool ((decide (x_66 = 3)) && (decide (text_3 = ([] : Str)))))] ⟨rfl, rfl, rfl, trivial⟩
      refine then_normal ?_
      refine wp_cond_split (hA75.get rfl) (fun hc => ?_) (fun hc => ?_)
      · have ht76 := ht68.1 ⟨(of_decide_eq_true (b_and_t hc).1), (of_decide_eq_true (b_and_t hc).2)⟩
        clear hc
        refine wp_seq ?_
        refine wp_region_lit ?_
        refine sq (opk_val hA75 rfl (r_assign rfl) fun a78 hA78 _ => ?_)
        refine sq_end ?_
        have hA79 := hA78.keep [(6, .int .i64 1)] ⟨rfl, trivial⟩
        refine then_normal ?_
        refine wp_ret ?_
        refine block_ret ?_
        refine then_ret ?_
        exact res_all (vs := [.int .i64 1]) rfl hA79 ⟨res_of_tmp hA79 rfl, trivial⟩ ht76
      · have ht77 := ht68.2 ((b_and_f hc).imp (fun h => (of_decide_eq_false h)) (fun h => (of_decide_eq_false h)))
        clear hc
        refine wp_seq ?_
        refine wp_region_lit ?_
        refine sq (opk_val hA75 rfl (r_move (hA75.get rfl)) fun a80 hA80 _ => ?_)
        refine sq (opk_val hA80 rfl (r_slen (hA80.get rfl) Try.underlying9) fun a81 hA81 _ => ?_)
        refine sq (opk_val hA81 rfl (r_gtr (hA81.get rfl) rfl) fun a82 hA82 _ => ?_)
        refine sq (opk_val hA82 rfl (r_assign (hA82.get rfl)) fun a83 hA83 _ => ?_)
        refine sq_end ?_
        have hA84 := hA83.keep [(2, .string (Bs text_3)), (7, .pointer r_8), (40, .bool (decide (4096 < (text_3.length : Int))))] ⟨rfl, rfl, rfl, trivial⟩
        refine then_normal ?_
        refine wp_cond_split (hA84.get rfl) (fun hc => ?_) (fun hc => ?_)
        · have ht85 := ht77.1 (of_decide_eq_true hc)
          clear hc
          refine wp_seq ?_
          refine wp_region_lit ?_
          refine sq (opk_val hA84 rfl (r_assign rfl) fun a87 hA87 _ => ?_)
          refine sq_end ?_
          have hA88 := hA87.keep [(6, .int .i64 2)] ⟨rfl, trivial⟩
          refine then_normal ?_
          refine wp_ret ?_
          refine block_ret ?_
          refine then_ret ?_
          exact res_all (vs := [.int .i64 2]) rfl hA88 ⟨res_of_tmp hA88 rfl, trivial⟩ ht85
        · have ht86 := ht77.2 (of_decide_eq_false hc)
          clear hc
          refine wp_skip ?_
          refine block_normal ?_
          refine then_normal ?_
          refine wp_seq ?_
          refine wp_region_lit ?_
          refine sq (opk_val hA84 rfl (r_move (hA84.get rfl)) fun a89 hA89 _ => ?_)
          refine sq (opk_val hA89 rfl (r_move (hA89.get rfl)) fun a90 hA90 _ => ?_)
          obtain ⟨p_92, hp93, ht94⟩ := ht86
          refine sq (opk_val hA90 rfl (r_nilCheckP (((hA90.get rfl)).trans (congrArg Value.pointer hp93))) fun a91 hA91 _ => ?_)
          refine sq (opk_val hA91 rfl (r_fieldAddr (hA91.get rfl) Try.underlying76 rfl ti_29 (by decide)) fun a95 hA95 _ => ?_)
          refine sq (opk_val hA95 rfl (r_fieldAddr (hA95.get rfl) Try.underlying29 rfl ti_9 (by decide)) fun a96 hA96 _ => ?_)
          obtain ⟨B_101, o_102, T_103, cs_104, he105, hb106, hl107, hx108, ht109⟩ := ht94
          refine sq (opk_store hA96 hb106 (r_store (vs := [.string (Bs text_3)]) (((hA96.get rfl)).trans (congrArg (fun a => Value.pointer (some a)) he105)) (hA96.get rfl) rfl ti_9 hb106 (Nat.ble_eq_true_of_le hl107) (ones_all [.string (Bs text_3)] rfl)) fun a98 w97 hS99 hB100 hA98 => ?_)
          have ht110 := ht109 w97 hS99 hB100
          refine sq_end ?_
          have hA111 := hA98.keep [] trivial
          refine then_normal ?_
          refine wp_seq ?_
          refine wp_region_lit ?_
          refine sq (opk_val hA111 rfl (r_assign rfl) fun a112 hA112 _ => ?_)
          refine sq_end ?_
          have hA113 := hA112.keep [(6, .int .i64 0)] ⟨rfl, trivial⟩
          refine then_normal ?_
          refine wp_ret ?_
          exact res_all (vs := [.int .i64 0]) rfl hA113 ⟨res_of_tmp hA113 rfl, trivial⟩ ht110

/-- The condition of (*topiary/dom.Dom).Parent. -/
def dom_Dom_Parent.vc (d_1 : Addr) (id_2 : Int) (R : Value → World → Prop) (w : World) : Prop :=
CallK Try.prog 45 #[.pointer (some d_1), .int .i64 id_2] w [] (fun v w9 => ∃ (r_7 : Option Addr), v = .pointer r_7 ∧
(((Option.isNone r_7) = true) →
R (.int .i64 (-1)) w9) ∧
(((Option.isNone r_7) = false) →
∃ p_26 : Addr, (r_7 = some p_26) ∧
∃ (x_31 : Int), (w9.cell? (p_26.add 1) = some (.int .i64 x_31)) ∧
R (.int .i64 x_31) w9))
set_option maxHeartbeats 1000000 in
set_option maxRecDepth 10000 in
theorem dom_Dom_Parent.ok (d_1 : Addr) (id_2 : Int) {R : Value → World → Prop} {w : World} (ht0 : dom_Dom_Parent.vc d_1 id_2 R w) : Calls Try.prog 33 #[.pointer (some d_1), .int .i64 id_2] w (Ret R) := by
  refine enter [.pointer (some d_1), .int .i64 id_2] Try.func33 rfl Try.ntmps33 rfl ?_
  intro a0 hA0
  unfold dom_Dom_Parent.vc at ht0
  refine wp_seq ?_
  refine wp_region_lit ?_
  refine sq (opk_val hA0 rfl (r_assign rfl) fun a3 hA3 _ => ?_)
  refine sq_end ?_
  have hA4 := hA3.keep [(0, .pointer (some d_1)), (1, .int .i64 id_2)] ⟨rfl, rfl, trivial⟩
  refine then_normal ?_
  refine wp_seq ?_
  refine wp_region_lit ?_
  refine sq (opk_val hA4 rfl (r_move (hA4.get rfl)) fun a5 hA5 _ => ?_)
  refine sq (opk_val hA5 rfl (r_move (hA5.get rfl)) fun a6 hA6 _ => ?_)
  refine sq (opk_call hA6 rfl (r_call (args := #[.pointer (some d_1), .int .i64 id_2]) Try.func45 (by decide) rfl (map_arr (ml_cons (hA6.get rfl) (ml_cons (hA6.get rfl) ml_nil))) rfl) ht0 fun a8 v14 w9 hA8 _ hn11 hz12 hK13 => ?_)
  obtain ⟨r_7, rfl, ht10⟩ := hK13
  refine sq (opk_val hA8 rfl (r_assign (hA8.get rfl)) fun a15 hA15 _ => ?_)
  refine sq_end ?_
  have hA16 := hA15.keep [(5, .pointer r_7)] ⟨rfl, trivial⟩
  refine then_normal ?_
  refine wp_seq ?_
  refine wp_seq ?_
  refine wp_region_lit ?_
  refine sq (opk_val hA16 rfl (r_move (hA16.get rfl)) fun a17 hA17 _ => ?_)
  refine sq (opk_val hA17 rfl (r_pnil (o := r_7) (hA17.get rfl) rfl Try.underlying73) fun a18 hA18 _ => ?_)
  refine sq_end ?_
  have hA19 := hA18.keep [(5, .pointer r_7), (10, .bool (Option.isNone r_7))] ⟨rfl, rfl, trivial⟩
  refine then_normal ?_
  refine wp_cond_split (hA19.get rfl) (fun hc => ?_) (fun hc => ?_)
  · have ht20 := ht10.1 hc
    clear hc
    refine wp_seq ?_
    refine wp_region_lit ?_
    refine sq (opk_val hA19 rfl (r_assign rfl) fun a22 hA22 _ => ?_)
    refine sq_end ?_
    have hA23 := hA22.keep [(4, .int .i64 (-1))] ⟨rfl, trivial⟩
    refine then_normal ?_
    refine wp_ret ?_
    refine then_ret ?_
    exact res_all (vs := [.int .i64 (-1)]) rfl hA23 ⟨res_of_tmp hA23 rfl, trivial⟩ ht20
  · have ht21 := ht10.2 hc
    clear hc
    refine wp_skip ?_
    refine then_normal ?_
    refine wp_seq ?_
    refine wp_region_lit ?_
    refine sq (opk_val hA19 rfl (r_move (hA19.get rfl)) fun a24 hA24 _ => ?_)
    obtain ⟨p_26, hp27, ht28⟩ := ht21
    refine sq (opk_val hA24 rfl (r_nilCheckP (((hA24.get rfl)).trans (congrArg Value.pointer hp27))) fun a25 hA25 _ => ?_)
    refine sq (opk_val hA25 rfl (r_fieldAddr (hA25.get rfl) Try.underlying76 rfl ti_3 (by decide)) fun a29 hA29 _ => ?_)
    obtain ⟨x_31, hx32, ht33⟩ := ht28
    refine sq (opk_val hA29 rfl (r_load1 Try.underlying3 rfl (hA29.get rfl) hx32) fun a30 hA30 _ => ?_)
    refine sq (opk_val hA30 rfl (r_assign (hA30.get rfl)) fun a34 hA34 _ => ?_)
    refine sq_end ?_
    have hA35 := hA34.keep [(4, .int .i64 x_31)] ⟨rfl, trivial⟩
    refine then_normal ?_
    refine wp_ret ?_
    exact res_all (vs := [.int .i64 x_31]) rfl hA35 ⟨res_of_tmp hA35 rfl, trivial⟩ ht33

/-- The condition of (*topiary/dom.Dom).lay. -/
def dom_Dom_lay.vc (d_1 : Addr) (t_2_Kind : Int) (t_2_Name : Str) (t_2_Text : Str) (t_2_Attrs : Sl) (t_2_Kids : Sl) (parent_3 : Int) (R : Value → World → Prop) (w : World) : Prop :=
∀ (w5 : World) (B_4 : Nat), New w B_4 w5 → Chg [] w w5 →
∃ (x_19 : Sl), (w5.cell? (d_1.add 0) = some (Sl.v x_19)) ∧
CallK Try.prog 48 #[.pointer (some d_1), .int .i64 (x_19.n : Int), .int .i64 parent_3, .agg #[.int .i64 t_2_Kind, .string (Bs t_2_Name), .string (Bs t_2_Text), Sl.v t_2_Attrs, Sl.v t_2_Kids]] w5 [B_4] (fun v w30 => v = .tuple #[] ∧
∃ (J_45 : Int → World → Prop) (mu_46 : Int → World → Nat),
J_45 0 w30 ∧
(∀ (x_43 : Int) (w44 : World), J_45 x_43 w44 →
((x_43 < (t_2_Kids.n : Int)) →
((0 : Int) ≤ x_43 ∧ x_43 < (t_2_Kids.n : Int)) ∧ ∃ p_229 : Addr, t_2_Kids.a = some p_229 ∧
∃ (x_235_Kind : Int) (x_235_Name : Str) (x_235_Text : Str) (x_235_Attrs : Sl) (x_235_Kids : Sl), (Cells w44 (p_229.add (x_43.toNat * 5)) [.int .i64 x_235_Kind, .string (Bs x_235_Name), .string (Bs x_235_Text), Sl.v x_235_Attrs, Sl.v x_235_Kids]) ∧
∀ (w246 : World) (B_238 : Nat), New w44 B_238 w246 → Chg [] w44 w246 →
CallK Try.prog 44 #[.pointer (some d_1), .agg #[.int .i64 x_235_Kind, .string (Bs x_235_Name), .string (Bs x_235_Text), Sl.v x_235_Attrs, Sl.v x_235_Kids], .int .i64 (x_19.n : Int)] w246 [B_238] (fun v w260 => ∃ (r_258 : Int), v = .int .i64 r_258 ∧
∀ (w269 : World), Chg [] w260 w269 →
∃ (x_273 : Sl), (w269.cell? (d_1.add 0) = some (Sl.v x_273)) ∧
∃ (x_276 : Sl), (w269.cell? (d_1.add 0) = some (Sl.v x_276)) ∧
∃ p_279 : Addr, (((0 : Int) ≤ (x_19.n : Int) ∧ (x_19.n : Int) < (x_276.n : Int)) ∧ x_276.a = some p_279) ∧
∃ (x_282 : Sl), (w269.cell? ((p_279.add ((x_19.n : Int).toNat * 8)).add 7) = some (Sl.v x_282)) ∧
∀ (w302 : World) (B_286 : Nat), Ext w269 w302 → w269.heap.size ≤ B_286 → Box w302 B_286 3 [.int .i64 r_258] → 
∀ (_ : Box w302 B_286 3 [.int .i64 r_258]),
RunK Try.prog (Builtin.append_ #[36, 36] 36 #[Sl.v x_282, Sl.v (Sl.mk (some ⟨B_286, 0, none⟩) 1 1)]) w302 [] (fun v w331 => ∃ (r_337 : Sl), v = Sl.v r_337 ∧
(w331.cell? (d_1.add 0) = some (Sl.v x_273)) ∧
(w331.cell? (d_1.add 0) = some (Sl.v x_276)) ∧
(w331.cell? ((p_279.add ((x_19.n : Int).toNat * 8)).add 7) = some (Sl.v x_282)) ∧
∀ (w351 : World), Chg [] w331 w351 →
∃ p_362 : Addr, (((0 : Int) ≤ (x_19.n : Int) ∧ (x_19.n : Int) < (x_273.n : Int)) ∧ x_273.a = some p_362) ∧
∀ (w367 : World), Chg [] w351 w367 →
∃ (B_380 o_381 : Nat) (T_382 : TypeId) (cs_383 : List Value), ((p_362.add ((x_19.n : Int).toNat * 8)).add 7) = ⟨B_380, o_381, none⟩ ∧ Box w367 B_380 T_382 cs_383 ∧ o_381 + 1 ≤ cs_383.length ∧ (∀ b ∈ [], b ≠ B_380) ∧
(∀ w375 : World, Chg [B_380] w367 w375 → Box w375 B_380 T_382 (putAt cs_383 o_381 [Sl.v r_337]) →
(I64 (x_43 + 1)) ∧
J_45 (x_43 + 1) w375 ∧ mu_46 (x_43 + 1) w375 < mu_46 x_43 w44)))) ∧
((¬ (x_43 < (t_2_Kids.n : Int))) →
R (.int .i64 (x_19.n : Int)) w44)))
set_option maxHeartbeats 1000000 in
set_option maxRecDepth 10000 in
theorem dom_Dom_lay.ok (d_1 : Addr) (t_2_Kind : Int) (t_2_Name : Str) (t_2_Text : Str) (t_2_Attrs : Sl) (t_2_Kids : Sl) (parent_3 : Int) {R : Value → World → Prop} {w : World} (ht0 : dom_Dom_lay.vc d_1 t_2_Kind t_2_Name t_2_Text t_2_Attrs t_2_Kids parent_3 R w) : Calls Try.prog 44 #[.pointer (some d_1), .agg #[.int .i64 t_2_Kind, .string (Bs t_2_Name), .string (Bs t_2_Text), Sl.v t_2_Attrs, Sl.v t_2_Kids], .int .i64 parent_3] w (Ret R) := by
  refine enter [.pointer (some d_1), .agg #[.int .i64 t_2_Kind, .string (Bs t_2_Name), .string (Bs t_2_Text), Sl.v t_2_Attrs, Sl.v t_2_Kids], .int .i64 parent_3] Try.func44 rfl Try.ntmps44 rfl ?_
  intro a0 hA0
  unfold dom_Dom_lay.vc at ht0
  refine wp_seq ?_
  refine wp_region_lit ?_
  refine sq (opk_new (fun B => .pointer (some ⟨B, 0, none⟩)) hA0 rfl (r_box (cs := [.int .i64 t_2_Kind, .string (Bs t_2_Name), .string (Bs t_2_Text), Sl.v t_2_Attrs, Sl.v t_2_Kids]) (hA0.get rfl) rfl) fun a6 w5 B_4 hE7 hN8 hB9 hA6 _ => ?_)
  have hN10 : New w B_4 w5 := hN8
  have hC11 : Chg [] w w5 := hE7
  refine sq (opk_val hA6 rfl (r_assign rfl) fun a12 hA12 _ => ?_)
  refine sq_end ?_
  have hA13 := hA12.keep [(0, .pointer (some d_1)), (2, .int .i64 parent_3), (4, .pointer (some (⟨B_4, 0, none⟩ : Addr)))] ⟨rfl, rfl, rfl, trivial⟩
  refine then_normal ?_
  refine wp_seq ?_
  refine wp_region_lit ?_
  refine sq (opk_val hA13 rfl (r_move (hA13.get rfl)) fun a14 hA14 _ => ?_)
  refine sq (opk_val hA14 rfl (r_nilCheck (hA14.get rfl)) fun a15 hA15 _ => ?_)
  refine sq (opk_val hA15 rfl (r_fieldAddr (hA15.get rfl) Try.underlying71 rfl ti_69 (by decide)) fun a16 hA16 _ => ?_)
  have ht18 := ht0 w5 B_4 hN10  hC11
  obtain ⟨x_19, hx20, ht21⟩ := ht18
  refine sq (opk_val hA16 rfl (r_load1 Try.underlying69 rfl (hA16.get rfl) hx20) fun a17 hA17 _ => ?_)
  refine sq (opk_val hA17 rfl (r_len (hA17.get rfl) Try.underlying69) fun a22 hA22 _ => ?_)
  refine sq (opk_val hA22 rfl (r_assign (hA22.get rfl)) fun a23 hA23 _ => ?_)
  refine sq_end ?_
  have hA24 := hA23.keep [(0, .pointer (some d_1)), (2, .int .i64 parent_3), (4, .pointer (some (⟨B_4, 0, none⟩ : Addr))), (7, .int .i64 (x_19.n : Int))] ⟨rfl, rfl, rfl, rfl, trivial⟩
  refine then_normal ?_
  refine wp_seq ?_
  refine wp_region_lit ?_
  refine sq (opk_val hA24 rfl (r_move (hA24.get rfl)) fun a25 hA25 _ => ?_)
  refine sq (opk_val hA25 rfl (r_move (hA25.get rfl)) fun a26 hA26 _ => ?_)
  refine sq (opk_val hA26 rfl (r_move (hA26.get rfl)) fun a27 hA27 _ => ?_)
  refine sq (opk_val hA27 rfl (r_loadN (cs := [.int .i64 t_2_Kind, .string (Bs t_2_Name), .string (Bs t_2_Text), Sl.v t_2_Attrs, Sl.v t_2_Kids]) Try.underlying29 rfl ti_29 (hA27.get rfl) (hB9.part 0 _ rfl)) fun a28 hA28 _ => ?_)
  refine sq (opk_call hA28 rfl (r_call (args := #[.pointer (some d_1), .int .i64 (x_19.n : Int), .int .i64 parent_3, .agg #[.int .i64 t_2_Kind, .string (Bs t_2_Name), .string (Bs t_2_Text), Sl.v t_2_Attrs, Sl.v t_2_Kids]]) Try.func48 (by decide) rfl (map_arr (ml_cons (hA28.get rfl) (ml_cons (hA28.get rfl) (ml_cons (hA28.get rfl) (ml_cons (hA28.get rfl) ml_nil))))) rfl) ht21 fun a29 v35 w30 hA29 _ hn32 hz33 hK34 => ?_)
  obtain ⟨rfl, ht31⟩ := hK34
  have hB36 := hB9.kept hn32 (.head _)
  refine sq_end ?_
  have hA37 := hA29.keep [(0, .pointer (some d_1)), (4, .pointer (some (⟨B_4, 0, none⟩ : Addr))), (7, .int .i64 (x_19.n : Int))] ⟨rfl, rfl, rfl, trivial⟩
  refine then_normal ?_
  refine wp_seq ?_
  refine wp_seq ?_
  refine wp_region_lit ?_
  refine sq (opk_val hA37 rfl (r_fieldAddr (hA37.get rfl) Try.underlying29 rfl ti_27 (by decide)) fun a38 hA38 _ => ?_)
  refine sq (opk_val hA38 rfl (r_load1 Try.underlying27 rfl (hA38.get rfl) (hB36.cell 4 _ rfl)) fun a39 hA39 _ => ?_)
  refine sq (opk_val hA39 rfl (r_len (hA39.get rfl) Try.underlying27) fun a40 hA40 _ => ?_)
  refine sq (opk_val hA40 rfl (r_move rfl) fun a41 hA41 _ => ?_)
  refine sq_end ?_
  have hA42 := hA41.keep [(0, .pointer (some d_1)), (7, .int .i64 (x_19.n : Int)), (22, Sl.v t_2_Kids), (23, .int .i64 (t_2_Kids.n : Int)), (24, .int .i64 0)] ⟨rfl, rfl, rfl, rfl, rfl, trivial⟩
  refine then_normal ?_
  refine wp_block ?_
  obtain ⟨J_45, mu_46, h0222, ht221⟩ := ht31
  refine wp_loop_st (σ := Int × World) (fun s a w => Ag 52 a [(0, .pointer (some d_1)), (7, .int .i64 (x_19.n : Int)), (22, Sl.v t_2_Kids), (23, .int .i64 (t_2_Kids.n : Int)), (24, .int .i64 s.1)] ∧ w = s.2 ∧ J_45 s.1 s.2) (fun s => mu_46 s.1 s.2) (0, w30) ⟨hA42.keep [(0, .pointer (some d_1)), (7, .int .i64 (x_19.n : Int)), (22, Sl.v t_2_Kids), (23, .int .i64 (t_2_Kids.n : Int)), (24, .int .i64 0)] ⟨rfl, rfl, rfl, rfl, rfl, trivial⟩, rfl, h0222⟩ ?_
  rintro ⟨x_43, w44⟩ a220 w_ ⟨hA220, hw_, hJ224⟩
  have hw_ : w44 = w_ := hw_.symm
  subst hw_
  have ht223 := ht221 x_43 _ hJ224
  refine wp_seq ?_
  refine wp_region_lit ?_
  refine sq (opk_val hA220 rfl (r_lss (hA220.get rfl) (hA220.get rfl)) fun a225 hA225 _ => ?_)
  refine sq_end ?_
  have hA226 := hA225.keep [(0, .pointer (some d_1)), (7, .int .i64 (x_19.n : Int)), (22, Sl.v t_2_Kids), (23, .int .i64 (t_2_Kids.n : Int)), (24, .int .i64 x_43), (25, .bool (decide (x_43 < (t_2_Kids.n : Int))))] ⟨rfl, rfl, rfl, rfl, rfl, rfl, trivial⟩
  refine then_normal ?_
  refine wp_seq ?_
  refine wp_cond_split (hA226.get rfl) (fun hc => ?_) (fun hc => ?_)
  · have ht227 := ht223.1 (of_decide_eq_true hc)
    clear hc
    refine wp_skip ?_
    refine then_normal ?_
    refine wp_seq ?_
    refine wp_block ?_
    refine wp_seq ?_
    refine wp_region_lit ?_
    obtain ⟨hb230, p_229, hp231, ht232⟩ := ht227
    refine sq (opk_val hA226 rfl (r_indexAddr (hA226.get rfl) (hA226.get rfl) Try.underlying27 ti_29 hb230 hp231) fun a233 hA233 _ => ?_)
    obtain ⟨x_235_Kind, x_235_Name, x_235_Text, x_235_Attrs, x_235_Kids, hx236, ht237⟩ := ht232
    refine sq (opk_val hA233 rfl (r_loadN Try.underlying29 rfl ti_29 (hA233.get rfl) hx236) fun a234 hA234 _ => ?_)
    refine sq (opk_new (fun B => .pointer (some ⟨B, 0, none⟩)) hA234 rfl (r_alloc (cs := [.int .i64 0, .string (Bs ([] : Str)), .string (Bs ([] : Str)), Sl.v Sl.nil, Sl.v Sl.nil]) ti_29 rfl) fun a240 w239 B_238 hE241 hN242 hB243 hA240 _ => ?_)
    have hN244 : New w44 B_238 w239 := hN242
    have hC245 : Chg [] w44 w239 := hE241
    refine sq (opk_store hA240 hB243 (r_store (vs := [.int .i64 x_235_Kind, .string (Bs x_235_Name), .string (Bs x_235_Text), Sl.v x_235_Attrs, Sl.v x_235_Kids]) (hA240.get rfl) (hA240.get rfl) rfl ti_29 hB243 rfl (ones_all [.int .i64 x_235_Kind, .string (Bs x_235_Name), .string (Bs x_235_Text), Sl.v x_235_Attrs, Sl.v x_235_Kids] rfl)) fun a247 w246 hS248 hB249 hA247 => ?_)
    have hB250 : Box w246 B_238 29 [.int .i64 x_235_Kind, .string (Bs x_235_Name), .string (Bs x_235_Text), Sl.v x_235_Attrs, Sl.v x_235_Kids] := hB249
    have hC251 := hC245.storeNew hN244 hS248
    have hN252 := hN244.up hS248.size
    refine sq_end ?_
    have hA253 := hA247.keep [(0, .pointer (some d_1)), (7, .int .i64 (x_19.n : Int)), (9, .pointer (some (⟨B_238, 0, none⟩ : Addr))), (22, Sl.v t_2_Kids), (23, .int .i64 (t_2_Kids.n : Int)), (24, .int .i64 x_43)] ⟨rfl, rfl, rfl, rfl, rfl, rfl, trivial⟩
    refine then_normal ?_
    refine wp_seq ?_
    refine wp_region_lit ?_
    refine sq (opk_val hA253 rfl (r_move (hA253.get rfl)) fun a254 hA254 _ => ?_)
    refine sq (opk_val hA254 rfl (r_loadN (cs := [.int .i64 x_235_Kind, .string (Bs x_235_Name), .string (Bs x_235_Text), Sl.v x_235_Attrs, Sl.v x_235_Kids]) Try.underlying29 rfl ti_29 (hA254.get rfl) (hB250.part 0 _ rfl)) fun a255 hA255 _ => ?_)
    refine sq (opk_val hA255 rfl (r_move (hA255.get rfl)) fun a256 hA256 _ => ?_)
    have ht257 := ht237 w246 B_238 hN252  hC251
    refine sq (opk_call hA256 rfl (r_call (args := #[.pointer (some d_1), .agg #[.int .i64 x_235_Kind, .string (Bs x_235_Name), .string (Bs x_235_Text), Sl.v x_235_Attrs, Sl.v x_235_Kids], .int .i64 (x_19.n : Int)]) Try.func44 (by decide) rfl (map_arr (ml_cons (hA256.get rfl) (ml_cons (hA256.get rfl) (ml_cons (hA256.get rfl) ml_nil)))) rfl) ht257 fun a259 v265 w260 hA259 _ hn262 hz263 hK264 => ?_)
    obtain ⟨r_258, rfl, ht261⟩ := hK264
    have hB266 := hB250.kept hn262 (.head _)
    refine sq (opk_val hA259 rfl (r_assign (hA259.get rfl)) fun a267 hA267 _ => ?_)
    refine sq_end ?_
    have hA268 := hA267.keep [(0, .pointer (some d_1)), (7, .int .i64 (x_19.n : Int)), (10, .int .i64 r_258), (22, Sl.v t_2_Kids), (23, .int .i64 (t_2_Kids.n : Int)), (24, .int .i64 x_43)] ⟨rfl, rfl, rfl, rfl, rfl, rfl, trivial⟩
    refine then_normal ?_
    refine draw' (by kernel_rfl) fun w269 hE270 => ?_
    have hC271 : Chg [] w260 w269 := hE270
    have ht272 := ht261 w269    hC271
    obtain ⟨x_273, hx274, ht275⟩ := ht272
    obtain ⟨x_276, hx277, ht278⟩ := ht275
    obtain ⟨p_279, hp280, ht281⟩ := ht278
    obtain ⟨x_282, hx283, ht284⟩ := ht281
    refine startF (D := [[], [0], [0, 1], [0, 1, 2], [], [], [5], [5, 6], [5, 6, 7], [], [5, 6, 7, 8, 9], [5, 6, 7, 8, 9, 10], [5, 6, 7, 8, 9, 10, 11], [], [13], [5, 6, 7, 8, 9, 10, 11, 12, 13, 14], [0, 1, 2, 3, 4, 5, 6, 7, 8, 9, 10, 11, 12, 13, 14, 15], [0, 1, 2, 3, 4, 5, 6, 7, 8, 9, 10, 11, 12, 13, 14, 15, 16], [0, 1, 2, 3, 4, 5, 6, 7, 8, 9, 10, 11, 12, 13, 14, 15, 16, 17]]) (Fs := [0, 1, 2, 3, 4, 5, 6, 7, 8, 9, 10, 11, 12, 13]) (Ef := [(0, fun v _ => v = .pointer (some d_1)), (1, fun v _ => v = .pointer (some d_1)), (2, fun v _ => v = .pointer (some (d_1.add 0))), (3, fun v _ => v = Sl.v x_273), (4, fun v _ => v = .int .i64 (x_19.n : Int)), (5, fun v _ => v = .pointer (some d_1)), (6, fun v _ => v = .pointer (some d_1)), (7, fun v _ => v = .pointer (some (d_1.add 0))), (8, fun v _ => v = Sl.v x_276), (9, fun v _ => v = .int .i64 (x_19.n : Int)), (10, fun v _ => v = .pointer (some (p_279.add ((x_19.n : Int).toNat * 8)))), (11, fun v _ => v = .pointer (some ((p_279.add ((x_19.n : Int).toNat * 8)).add 7))), (12, fun v _ => v = Sl.v x_282), (13, fun v _ => v = .int .i64 r_258)]) (by kernel_rfl) ?_
    refine parF (D := [[], [0], [0, 1], [0, 1, 2], [], [], [5], [5, 6], [5, 6, 7], [], [5, 6, 7, 8, 9], [5, 6, 7, 8, 9, 10], [5, 6, 7, 8, 9, 10, 11], [], [13], [5, 6, 7, 8, 9, 10, 11, 12, 13, 14], [0, 1, 2, 3, 4, 5, 6, 7, 8, 9, 10, 11, 12, 13, 14, 15], [0, 1, 2, 3, 4, 5, 6, 7, 8, 9, 10, 11, 12, 13, 14, 15, 16], [0, 1, 2, 3, 4, 5, 6, 7, 8, 9, 10, 11, 12, 13, 14, 15, 16, 17]]) (S := [14]) (F := []) (KE := [14]) (E := [(14, fun v w' => ∃ B_286 : Nat, w269.heap.size ≤ B_286 ∧ Box w' B_286 3 [.int .i64 r_258] ∧ v = Sl.v (Sl.mk (some ⟨B_286, 0, none⟩) 1 1))]) hA268 rfl (by kernel_rfl) ⟨fun _ _ _ hE ⟨B_286, h0_, h1_, e⟩ => ⟨B_286, h0_, (h1_.ext hE), e⟩, fun _ _ _ _ h => by first | exact h | (change _ = _ at h; change _ = _; exact h), fun _ _ _ _ h => by first | exact h | (change _ = _ at h; change _ = _; exact h), fun _ _ _ _ h => by first | exact h | (change _ = _ at h; change _ = _; exact h), fun _ _ _ _ h => by first | exact h | (change _ = _ at h; change _ = _; exact h), fun _ _ _ _ h => by first | exact h | (change _ = _ at h; change _ = _; exact h), fun _ _ _ _ h => by first | exact h | (change _ = _ at h; change _ = _; exact h), fun _ _ _ _ h => by first | exact h | (change _ = _ at h; change _ = _; exact h), fun _ _ _ _ h => by first | exact h | (change _ = _ at h; change _ = _; exact h), fun _ _ _ _ h => by first | exact h | (change _ = _ at h; change _ = _; exact h), fun _ _ _ _ h => by first | exact h | (change _ = _ at h; change _ = _; exact h), fun _ _ _ _ h => by first | exact h | (change _ = _ at h; change _ = _; exact h), fun _ _ _ _ h => by first | exact h | (change _ = _ at h; change _ = _; exact h), fun _ _ _ _ h => by first | exact h | (change _ = _ at h; change _ = _; exact h), fun _ _ _ _ h => by first | exact h | (change _ = _ at h; change _ = _; exact h), trivial⟩ ⟨?_, ?_, ?_, ?_, ?_, ?_, ?_, ?_, ?_, ?_, ?_, ?_, ?_, ?_, ?_, trivial⟩ ?_
    · intro a w hT
      have hAp := hT.ag hA268 [] trivial (by kernel_rfl)
      have e285 : a.tmps.getD 45 undef = .int .i64 r_258 := hT.vals 13 rfl 45 rfl
      have hAp := hAp.add e285
      exact opk_new (fun B => .slice (some ⟨B, 0, none⟩) 1 1) hAp rfl (r_buildSlice (vs := #[(0, .int .i64 r_258)]) (cs := [.int .i64 r_258]) (map_arr2 (ml2_cons (hAp.get rfl) (ml2_nil))) Try.underlying36 ti_3 rfl rfl (by kernel_rfl)) fun _ w287 B_286 hE288 hN289 hB290 _ e => ⟨_, e, hE288, fun _ => ⟨B_286, Nat.le_trans hT.chg.size hN289.ge, hB290, rfl⟩⟩
    · intro a w hT
      have hAp := hT.ag hA268 [(0, .pointer (some d_1))] ⟨rfl, trivial⟩ (by kernel_rfl)
      exact opk_val hAp rfl (r_move (hAp.get rfl)) fun _ _ e => ⟨_, e, Chg.refl _ _, fun _ => Eq.refl _⟩
    · intro a w hT
      have hAp := hT.ag hA268 [] trivial (by kernel_rfl)
      have e291 : a.tmps.getD 32 undef = .pointer (some d_1) := hT.vals 0 rfl 32 rfl
      have hAp := hAp.add e291
      exact opk_val hAp rfl (r_nilCheck (hAp.get rfl)) fun _ _ e => ⟨_, e, Chg.refl _ _, fun _ => Eq.refl _⟩
    · intro a w hT
      have hAp := hT.ag hA268 [] trivial (by kernel_rfl)
      have e292 : a.tmps.getD 33 undef = .pointer (some d_1) := hT.vals 1 rfl 33 rfl
      have hAp := hAp.add e292
      exact opk_val hAp rfl (r_fieldAddr (hAp.get rfl) Try.underlying71 rfl ti_69 (by decide)) fun _ _ e => ⟨_, e, Chg.refl _ _, fun _ => Eq.refl _⟩
    · intro a w hT
      have hAp := hT.ag hA268 [] trivial (by kernel_rfl)
      have e293 : a.tmps.getD 34 undef = .pointer (some (d_1.add 0)) := hT.vals 2 rfl 34 rfl
      have hAp := hAp.add e293
      exact opk_val hAp rfl (r_load1 Try.underlying69 rfl (hAp.get rfl) (Ext.cell hT.chg hx274)) fun _ _ e => ⟨_, e, Chg.refl _ _, fun _ => Eq.refl _⟩
    · intro a w hT
      have hAp := hT.ag hA268 [(7, .int .i64 (x_19.n : Int))] ⟨rfl, trivial⟩ (by kernel_rfl)
      exact opk_val hAp rfl (r_move (hAp.get rfl)) fun _ _ e => ⟨_, e, Chg.refl _ _, fun _ => Eq.refl _⟩
    · intro a w hT
      have hAp := hT.ag hA268 [(0, .pointer (some d_1))] ⟨rfl, trivial⟩ (by kernel_rfl)
      exact opk_val hAp rfl (r_move (hAp.get rfl)) fun _ _ e => ⟨_, e, Chg.refl _ _, fun _ => Eq.refl _⟩
    · intro a w hT
      have hAp := hT.ag hA268 [] trivial (by kernel_rfl)
      have e294 : a.tmps.getD 37 undef = .pointer (some d_1) := hT.vals 5 rfl 37 rfl
      have hAp := hAp.add e294
      exact opk_val hAp rfl (r_nilCheck (hAp.get rfl)) fun _ _ e => ⟨_, e, Chg.refl _ _, fun _ => Eq.refl _⟩
    · intro a w hT
      have hAp := hT.ag hA268 [] trivial (by kernel_rfl)
      have e295 : a.tmps.getD 38 undef = .pointer (some d_1) := hT.vals 6 rfl 38 rfl
      have hAp := hAp.add e295
      exact opk_val hAp rfl (r_fieldAddr (hAp.get rfl) Try.underlying71 rfl ti_69 (by decide)) fun _ _ e => ⟨_, e, Chg.refl _ _, fun _ => Eq.refl _⟩
    · intro a w hT
      have hAp := hT.ag hA268 [] trivial (by kernel_rfl)
      have e296 : a.tmps.getD 39 undef = .pointer (some (d_1.add 0)) := hT.vals 7 rfl 39 rfl
      have hAp := hAp.add e296
      exact opk_val hAp rfl (r_load1 Try.underlying69 rfl (hAp.get rfl) (Ext.cell hT.chg hx277)) fun _ _ e => ⟨_, e, Chg.refl _ _, fun _ => Eq.refl _⟩
    · intro a w hT
      have hAp := hT.ag hA268 [(7, .int .i64 (x_19.n : Int))] ⟨rfl, trivial⟩ (by kernel_rfl)
      exact opk_val hAp rfl (r_move (hAp.get rfl)) fun _ _ e => ⟨_, e, Chg.refl _ _, fun _ => Eq.refl _⟩
    · intro a w hT
      have hAp := hT.ag hA268 [] trivial (by kernel_rfl)
      have e297 : a.tmps.getD 40 undef = Sl.v x_276 := hT.vals 8 rfl 40 rfl
      have hAp := hAp.add e297
      have e298 : a.tmps.getD 41 undef = .int .i64 (x_19.n : Int) := hT.vals 9 rfl 41 rfl
      have hAp := hAp.add e298
      exact opk_val hAp rfl (r_indexAddr (hAp.get rfl) (hAp.get rfl) Try.underlying69 ti_76 hp280.1 hp280.2) fun _ _ e => ⟨_, e, Chg.refl _ _, fun _ => Eq.refl _⟩
    · intro a w hT
      have hAp := hT.ag hA268 [] trivial (by kernel_rfl)
      have e299 : a.tmps.getD 42 undef = .pointer (some (p_279.add ((x_19.n : Int).toNat * 8))) := hT.vals 10 rfl 42 rfl
      have hAp := hAp.add e299
      exact opk_val hAp rfl (r_fieldAddr (hAp.get rfl) Try.underlying76 rfl ti_36 (by decide)) fun _ _ e => ⟨_, e, Chg.refl _ _, fun _ => Eq.refl _⟩
    · intro a w hT
      have hAp := hT.ag hA268 [] trivial (by kernel_rfl)
      have e300 : a.tmps.getD 43 undef = .pointer (some ((p_279.add ((x_19.n : Int).toNat * 8)).add 7)) := hT.vals 11 rfl 43 rfl
      have hAp := hAp.add e300
      exact opk_val hAp rfl (r_load1 Try.underlying36 rfl (hAp.get rfl) (Ext.cell hT.chg hx283)) fun _ _ e => ⟨_, e, Chg.refl _ _, fun _ => Eq.refl _⟩
    · intro a w hT
      have hAp := hT.ag hA268 [(10, .int .i64 r_258)] ⟨rfl, trivial⟩ (by kernel_rfl)
      exact opk_val hAp rfl (r_move (hAp.get rfl)) fun _ _ e => ⟨_, e, Chg.refl _ _, fun _ => Eq.refl _⟩
    · intro a301 w302 hE303 hag304 hv305
      have hA301 := hag304 [(0, .pointer (some d_1)), (7, .int .i64 (x_19.n : Int)), (10, .int .i64 r_258), (22, Sl.v t_2_Kids), (23, .int .i64 (t_2_Kids.n : Int)), (24, .int .i64 x_43)] ⟨rfl, rfl, rfl, rfl, rfl, rfl, trivial⟩ (by kernel_rfl)
      obtain ⟨B_286, hf309, hf310, e307⟩ := hv305 14 rfl 46 rfl
      have hA308 := hA301.add e307
      have hC311 : Chg [] w269 w302 := hE303
      have hf312 := Ext.cell hE303 hx274
      have hf313 := Ext.cell hE303 hx277
      have hf314 := Ext.cell hE303 hx283
      have ht315 := ht284 w302 B_286 hE303 hf309 hf310
      refine oneF (c := 15) hA308 rfl (by kernel_rfl) (constF ⟨fun _ _ _ h => by first | exact h | (change _ = _ at h; change _ = _; exact h), fun _ _ _ h => by first | exact h | (change _ = _ at h; change _ = _; exact h), fun _ _ _ h => by first | exact h | (change _ = _ at h; change _ = _; exact h), fun _ _ _ h => by first | exact h | (change _ = _ at h; change _ = _; exact h), fun _ _ _ h => by first | exact h | (change _ = _ at h; change _ = _; exact h), fun _ _ _ h => by first | exact h | (change _ = _ at h; change _ = _; exact h), fun _ _ _ h => by first | exact h | (change _ = _ at h; change _ = _; exact h), fun _ _ _ h => by first | exact h | (change _ = _ at h; change _ = _; exact h), fun _ _ _ h => by first | exact h | (change _ = _ at h; change _ = _; exact h), fun _ _ _ h => by first | exact h | (change _ = _ at h; change _ = _; exact h), fun _ _ _ h => by first | exact h | (change _ = _ at h; change _ = _; exact h), fun _ _ _ h => by first | exact h | (change _ = _ at h; change _ = _; exact h), fun _ _ _ h => by first | exact h | (change _ = _ at h; change _ = _; exact h), fun _ _ _ h => by first | exact h | (change _ = _ at h; change _ = _; exact h), trivial⟩) ⟨?_, ?_, ?_, ?_, ?_, ?_, ?_, ?_, ?_, ?_, ?_, ?_, ?_, ?_, trivial⟩ ?_
      · intro a hT
        have hAp := hT.ag hA308 [(0, .pointer (some d_1))] ⟨rfl, trivial⟩ (by kernel_rfl)
        exact opk_val hAp rfl (r_move (hAp.get rfl)) fun _ _ e => ⟨_, e, rfl, fun _ => Eq.refl _⟩
      · intro a hT
        have hAp := hT.ag hA308 [] trivial (by kernel_rfl)
        have e316 : a.tmps.getD 32 undef = .pointer (some d_1) := hT.vals 0 rfl 32 rfl
        have hAp := hAp.add e316
        exact opk_val hAp rfl (r_nilCheck (hAp.get rfl)) fun _ _ e => ⟨_, e, rfl, fun _ => Eq.refl _⟩
      · intro a hT
        have hAp := hT.ag hA308 [] trivial (by kernel_rfl)
        have e317 : a.tmps.getD 33 undef = .pointer (some d_1) := hT.vals 1 rfl 33 rfl
        have hAp := hAp.add e317
        exact opk_val hAp rfl (r_fieldAddr (hAp.get rfl) Try.underlying71 rfl ti_69 (by decide)) fun _ _ e => ⟨_, e, rfl, fun _ => Eq.refl _⟩
      · intro a hT
        have hAp := hT.ag hA308 [] trivial (by kernel_rfl)
        have e318 : a.tmps.getD 34 undef = .pointer (some (d_1.add 0)) := hT.vals 2 rfl 34 rfl
        have hAp := hAp.add e318
        exact opk_val hAp rfl (r_load1 Try.underlying69 rfl (hAp.get rfl) (Ext.cell hT.chg hf312)) fun _ _ e => ⟨_, e, rfl, fun _ => Eq.refl _⟩
      · intro a hT
        have hAp := hT.ag hA308 [(7, .int .i64 (x_19.n : Int))] ⟨rfl, trivial⟩ (by kernel_rfl)
        exact opk_val hAp rfl (r_move (hAp.get rfl)) fun _ _ e => ⟨_, e, rfl, fun _ => Eq.refl _⟩
      · intro a hT
        have hAp := hT.ag hA308 [(0, .pointer (some d_1))] ⟨rfl, trivial⟩ (by kernel_rfl)
        exact opk_val hAp rfl (r_move (hAp.get rfl)) fun _ _ e => ⟨_, e, rfl, fun _ => Eq.refl _⟩
      · intro a hT
        have hAp := hT.ag hA308 [] trivial (by kernel_rfl)
        have e319 : a.tmps.getD 37 undef = .pointer (some d_1) := hT.vals 5 rfl 37 rfl
        have hAp := hAp.add e319
        exact opk_val hAp rfl (r_nilCheck (hAp.get rfl)) fun _ _ e => ⟨_, e, rfl, fun _ => Eq.refl _⟩
      · intro a hT
        have hAp := hT.ag hA308 [] trivial (by kernel_rfl)
        have e320 : a.tmps.getD 38 undef = .pointer (some d_1) := hT.vals 6 rfl 38 rfl
        have hAp := hAp.add e320
        exact opk_val hAp rfl (r_fieldAddr (hAp.get rfl) Try.underlying71 rfl ti_69 (by decide)) fun _ _ e => ⟨_, e, rfl, fun _ => Eq.refl _⟩
      · intro a hT
        have hAp := hT.ag hA308 [] trivial (by kernel_rfl)
        have e321 : a.tmps.getD 39 undef = .pointer (some (d_1.add 0)) := hT.vals 7 rfl 39 rfl
        have hAp := hAp.add e321
        exact opk_val hAp rfl (r_load1 Try.underlying69 rfl (hAp.get rfl) (Ext.cell hT.chg hf313)) fun _ _ e => ⟨_, e, rfl, fun _ => Eq.refl _⟩
      · intro a hT
        have hAp := hT.ag hA308 [(7, .int .i64 (x_19.n : Int))] ⟨rfl, trivial⟩ (by kernel_rfl)
        exact opk_val hAp rfl (r_move (hAp.get rfl)) fun _ _ e => ⟨_, e, rfl, fun _ => Eq.refl _⟩
      · intro a hT
        have hAp := hT.ag hA308 [] trivial (by kernel_rfl)
        have e322 : a.tmps.getD 40 undef = Sl.v x_276 := hT.vals 8 rfl 40 rfl
        have hAp := hAp.add e322
        have e323 : a.tmps.getD 41 undef = .int .i64 (x_19.n : Int) := hT.vals 9 rfl 41 rfl
        have hAp := hAp.add e323
        exact opk_val hAp rfl (r_indexAddr (hAp.get rfl) (hAp.get rfl) Try.underlying69 ti_76 hp280.1 hp280.2) fun _ _ e => ⟨_, e, rfl, fun _ => Eq.refl _⟩
      · intro a hT
        have hAp := hT.ag hA308 [] trivial (by kernel_rfl)
        have e324 : a.tmps.getD 42 undef = .pointer (some (p_279.add ((x_19.n : Int).toNat * 8))) := hT.vals 10 rfl 42 rfl
        have hAp := hAp.add e324
        exact opk_val hAp rfl (r_fieldAddr (hAp.get rfl) Try.underlying76 rfl ti_36 (by decide)) fun _ _ e => ⟨_, e, rfl, fun _ => Eq.refl _⟩
      · intro a hT
        have hAp := hT.ag hA308 [] trivial (by kernel_rfl)
        have e325 : a.tmps.getD 43 undef = .pointer (some ((p_279.add ((x_19.n : Int).toNat * 8)).add 7)) := hT.vals 11 rfl 43 rfl
        have hAp := hAp.add e325
        exact opk_val hAp rfl (r_load1 Try.underlying36 rfl (hAp.get rfl) (Ext.cell hT.chg hf314)) fun _ _ e => ⟨_, e, rfl, fun _ => Eq.refl _⟩
      · intro a hT
        have hAp := hT.ag hA308 [(10, .int .i64 r_258)] ⟨rfl, trivial⟩ (by kernel_rfl)
        exact opk_val hAp rfl (r_move (hAp.get rfl)) fun _ _ e => ⟨_, e, rfl, fun _ => Eq.refl _⟩
      · intro a326 hT
        have hA326 := hT.ag hA308 [(0, .pointer (some d_1)), (7, .int .i64 (x_19.n : Int)), (10, .int .i64 r_258), (22, Sl.v t_2_Kids), (23, .int .i64 (t_2_Kids.n : Int)), (24, .int .i64 x_43), (46, Sl.v (Sl.mk (some ⟨B_286, 0, none⟩) 1 1))] ⟨rfl, rfl, rfl, rfl, rfl, rfl, rfl, trivial⟩ (by kernel_rfl)
        have e327 : a326.tmps.getD 44 undef = Sl.v x_282 := hT.vals 12 rfl 44 rfl
        have hA328 := hA326.add e327
        have ht329 := ht315 hf310
        refine (opk_run hA328 rfl (fun _ _ hr => r_append (hA328.get rfl) (hA328.get rfl) hr) ht329 fun a330 v336 w331 hA330 heq397 hn333 hz334 hK335 => ?_)
        refine ⟨_, heq397, ?_⟩
        obtain ⟨r_337, rfl, ht332⟩ := hK335
        obtain ⟨hf338, ht339⟩ := ht332
        obtain ⟨hf340, ht341⟩ := ht339
        obtain ⟨hf342, ht343⟩ := ht341
        refine PRF_drop (X := [5, 6, 7, 8, 9, 10, 11, 12, 13]) (Fs' := [0, 1, 2, 3, 4]) hA330 (by kernel_rfl) fun a344 hag345 hv346 => ?_
        have hA344 := hag345 [(0, .pointer (some d_1)), (7, .int .i64 (x_19.n : Int)), (22, Sl.v t_2_Kids), (23, .int .i64 (t_2_Kids.n : Int)), (24, .int .i64 x_43), (47, Sl.v r_337)] ⟨rfl, rfl, rfl, rfl, rfl, rfl, trivial⟩ (by kernel_rfl)
        refine joinF hA344 (by kernel_rfl) ⟨fun _ _ _ _ h => by first | exact h | (change _ = _ at h; change _ = _; exact h), fun _ _ _ _ h => by first | exact h | (change _ = _ at h; change _ = _; exact h), fun _ _ _ _ h => by first | exact h | (change _ = _ at h; change _ = _; exact h), fun _ _ _ _ h => by first | exact h | (change _ = _ at h; change _ = _; exact h), fun _ _ _ _ h => by first | exact h | (change _ = _ at h; change _ = _; exact h), trivial⟩ ⟨?_, ?_, ?_, ?_, ?_, trivial⟩ ?_
        · intro a w hT
          have hAp := hT.ag hA344 [(0, .pointer (some d_1))] ⟨rfl, trivial⟩ (by kernel_rfl)
          exact opk_val hAp rfl (r_move (hAp.get rfl)) fun _ _ e => ⟨_, e, Chg.refl _ _, fun _ => Eq.refl _⟩
        · intro a w hT
          have hAp := hT.ag hA344 [] trivial (by kernel_rfl)
          have e347 : a.tmps.getD 32 undef = .pointer (some d_1) := hT.vals 0 rfl 32 rfl
          have hAp := hAp.add e347
          exact opk_val hAp rfl (r_nilCheck (hAp.get rfl)) fun _ _ e => ⟨_, e, Chg.refl _ _, fun _ => Eq.refl _⟩
        · intro a w hT
          have hAp := hT.ag hA344 [] trivial (by kernel_rfl)
          have e348 : a.tmps.getD 33 undef = .pointer (some d_1) := hT.vals 1 rfl 33 rfl
          have hAp := hAp.add e348
          exact opk_val hAp rfl (r_fieldAddr (hAp.get rfl) Try.underlying71 rfl ti_69 (by decide)) fun _ _ e => ⟨_, e, Chg.refl _ _, fun _ => Eq.refl _⟩
        · intro a w hT
          have hAp := hT.ag hA344 [] trivial (by kernel_rfl)
          have e349 : a.tmps.getD 34 undef = .pointer (some (d_1.add 0)) := hT.vals 2 rfl 34 rfl
          have hAp := hAp.add e349
          exact opk_val hAp rfl (r_load1 Try.underlying69 rfl (hAp.get rfl) (Ext.cell hT.chg hf338)) fun _ _ e => ⟨_, e, Chg.refl _ _, fun _ => Eq.refl _⟩
        · intro a w hT
          have hAp := hT.ag hA344 [(7, .int .i64 (x_19.n : Int))] ⟨rfl, trivial⟩ (by kernel_rfl)
          exact opk_val hAp rfl (r_move (hAp.get rfl)) fun _ _ e => ⟨_, e, Chg.refl _ _, fun _ => Eq.refl _⟩
        · intro a350 w351 hE352 hag353 hv354
          have hA350 := hag353 [(0, .pointer (some d_1)), (7, .int .i64 (x_19.n : Int)), (22, Sl.v t_2_Kids), (23, .int .i64 (t_2_Kids.n : Int)), (24, .int .i64 x_43), (47, Sl.v r_337)] ⟨rfl, rfl, rfl, rfl, rfl, rfl, trivial⟩ (by kernel_rfl)
          have e355 : a350.tmps.getD 35 undef = Sl.v x_273 := hv354 3 rfl 35 rfl
          have hA356 := hA350.add e355
          have e357 : a350.tmps.getD 36 undef = .int .i64 (x_19.n : Int) := hv354 4 rfl 36 rfl
          have hA358 := hA356.add e357
          have hC359 : Chg [] w331 w351 := hE352
          have hf360 := Ext.cell hE352 hf338
          have ht361 := ht343 w351    hC359
          obtain ⟨p_362, hp363, ht364⟩ := ht361
          refine par (D := [[], [0], [0, 1], [0, 1, 2], [], [], [5], [5, 6], [5, 6, 7], [], [5, 6, 7, 8, 9], [5, 6, 7, 8, 9, 10], [5, 6, 7, 8, 9, 10, 11], [], [13], [5, 6, 7, 8, 9, 10, 11, 12, 13, 14], [0, 1, 2, 3, 4, 5, 6, 7, 8, 9, 10, 11, 12, 13, 14, 15], [0, 1, 2, 3, 4, 5, 6, 7, 8, 9, 10, 11, 12, 13, 14, 15, 16], [0, 1, 2, 3, 4, 5, 6, 7, 8, 9, 10, 11, 12, 13, 14, 15, 16, 17]]) (S := [16, 17]) (F := []) (V := VL [(16, fun v _ => v = .pointer (some (p_362.add ((x_19.n : Int).toNat * 8)))), (17, fun v _ => v = .pointer (some ((p_362.add ((x_19.n : Int).toNat * 8)).add 7)))]) hA358 (by kernel_rfl) ⟨fun _ _ _ _ h => by first | exact h | (change _ = _ at h; change _ = _; exact h), fun _ _ _ _ h => by first | exact h | (change _ = _ at h; change _ = _; exact h), trivial⟩ ⟨?_, ?_, trivial⟩ ?_
          · intro a w hT
            have hAp := hT.ag hA358 [(35, Sl.v x_273), (36, .int .i64 (x_19.n : Int))] ⟨rfl, rfl, trivial⟩ (by kernel_rfl)
            exact opk_val hAp rfl (r_indexAddr (hAp.get rfl) (hAp.get rfl) Try.underlying69 ti_76 hp363.1 hp363.2) fun _ _ e => ⟨_, e, Chg.refl _ _, fun _ => Eq.refl _⟩
          · intro a w hT
            have hAp := hT.ag hA358 [] trivial (by kernel_rfl)
            have e365 : a.tmps.getD 48 undef = .pointer (some (p_362.add ((x_19.n : Int).toNat * 8))) := hT.vals 16 rfl 48 rfl
            have hAp := hAp.add e365
            exact opk_val hAp rfl (r_fieldAddr (hAp.get rfl) Try.underlying76 rfl ti_36 (by decide)) fun _ _ e => ⟨_, e, Chg.refl _ _, fun _ => Eq.refl _⟩
          · intro a366 w367 hE368 hag369 hv370
            have hA366 := hag369 [(0, .pointer (some d_1)), (7, .int .i64 (x_19.n : Int)), (22, Sl.v t_2_Kids), (23, .int .i64 (t_2_Kids.n : Int)), (24, .int .i64 x_43), (47, Sl.v r_337)] ⟨rfl, rfl, rfl, rfl, rfl, rfl, trivial⟩ (by kernel_rfl)
            have e372 : a366.tmps.getD 49 undef = .pointer (some ((p_362.add ((x_19.n : Int).toNat * 8)).add 7)) := hv370 17 rfl 49 rfl
            have hA373 := hA366.add e372
            have hC374 : Chg [] w351 w367 := hE368
            have ht379 := ht364 w367    hC374
            obtain ⟨B_380, o_381, T_382, cs_383, he384, hb385, hl386, hx387, ht388⟩ := ht379
            refine one (D := [[], [0], [0, 1], [0, 1, 2], [], [], [5], [5, 6], [5, 6, 7], [], [5, 6, 7, 8, 9], [5, 6, 7, 8, 9, 10], [5, 6, 7, 8, 9, 10, 11], [], [13], [5, 6, 7, 8, 9, 10, 11, 12, 13, 14], [0, 1, 2, 3, 4, 5, 6, 7, 8, 9, 10, 11, 12, 13, 14, 15], [0, 1, 2, 3, 4, 5, 6, 7, 8, 9, 10, 11, 12, 13, 14, 15, 16], [0, 1, 2, 3, 4, 5, 6, 7, 8, 9, 10, 11, 12, 13, 14, 15, 16, 17]]) (i := 18) rfl (by kernel_rfl) (opk_store hA373 hb385 (r_store (vs := [Sl.v r_337]) (((hA373.get rfl)).trans (congrArg (fun a => Value.pointer (some a)) he384)) (hA373.get rfl) rfl ti_36 hb385 (Nat.ble_eq_true_of_le hl386) (ones_all [Sl.v r_337] rfl)) fun a376 w375 hS377 hB378 hA376 => ?_)
            have ht389 := ht388 w375 hS377 hB378
            refine PR_end (by kernel_rfl) ?_
            have hA390 := hA376.keep [(0, .pointer (some d_1)), (7, .int .i64 (x_19.n : Int)), (22, Sl.v t_2_Kids), (23, .int .i64 (t_2_Kids.n : Int)), (24, .int .i64 x_43)] ⟨rfl, rfl, rfl, rfl, rfl, trivial⟩
            refine block_normal ?_
            refine then_normal ?_
            refine wp_region_lit ?_
            obtain ⟨hS392, ht393⟩ := ht389
            refine sq (opk_val hA390 rfl (r_addI (hA390.get rfl) rfl hS392) fun a391 hA391 _ => ?_)
            refine sq (opk_val hA391 rfl (r_move (hA391.get rfl)) fun a394 hA394 _ => ?_)
            refine sq_end ?_
            have hA395 := hA394.keep [(0, .pointer (some d_1)), (7, .int .i64 (x_19.n : Int)), (22, Sl.v t_2_Kids), (23, .int .i64 (t_2_Kids.n : Int)), (24, .int .i64 (x_43 + 1))] ⟨rfl, rfl, rfl, rfl, rfl, trivial⟩
            have hA396 := hA395.keep [(0, .pointer (some d_1)), (7, .int .i64 (x_19.n : Int)), (22, Sl.v t_2_Kids), (23, .int .i64 (t_2_Kids.n : Int)), (24, .int .i64 (x_43 + 1))] ⟨rfl, rfl, rfl, rfl, rfl, trivial⟩
            exact then_normal ⟨(x_43 + 1, w375), ⟨hA396, rfl, ht393.1⟩, ht393.2⟩
  · have ht228 := ht223.2 (of_decide_eq_false hc)
    clear hc
    refine wp_exit ?_
    refine then_exit ?_
    refine then_exit ?_
    refine block_hit ?_
    have hA398 := hA226.keep [(7, .int .i64 (x_19.n : Int))] ⟨rfl, trivial⟩
    refine then_normal ?_
    refine wp_seq ?_
    refine wp_region_lit ?_
    refine sq (opk_val hA398 rfl (r_move (hA398.get rfl)) fun a399 hA399 _ => ?_)
    refine sq (opk_val hA399 rfl (r_assign (hA399.get rfl)) fun a400 hA400 _ => ?_)
    refine sq_end ?_
    have hA401 := hA400.keep [(6, .int .i64 (x_19.n : Int))] ⟨rfl, trivial⟩
    refine then_normal ?_
    refine wp_ret ?_
    exact res_all (vs := [.int .i64 (x_19.n : Int)]) rfl hA401 ⟨res_of_tmp hA401 rfl, trivial⟩ ht228

/-- The condition of (*topiary/dom.Dom).node. -/
def dom_Dom_node.vc (d_1 : Addr) (id_2 : Int) (R : Value → World → Prop) (w : World) : Prop :=
∃ (x_9 : Option Nat), (w.cell? (d_1.add 1) = some (.map x_9)) ∧
∃ (r_0_14 : Int) (r_1_15 : Bool), ((Instr.lookup 68 (.map x_9) (.int .i64 id_2) true).run Try.prog w = .ok (.tuple #[.int .i64 r_0_14, .bool r_1_15]) w) ∧
((r_1_15 = false) →
R (.pointer none) w) ∧
((r_1_15 = true) →
∃ (x_35 : Sl), (w.cell? (d_1.add 0) = some (Sl.v x_35)) ∧
((0 : Int) ≤ r_0_14 ∧ r_0_14 < (x_35.n : Int)) ∧ ∃ p_39 : Addr, x_35.a = some p_39 ∧
R (.pointer (some (p_39.add (r_0_14.toNat * 8)))) w)
set_option maxHeartbeats 1000000 in
set_option maxRecDepth 10000 in
theorem dom_Dom_node.ok (d_1 : Addr) (id_2 : Int) {R : Value → World → Prop} {w : World} (ht0 : dom_Dom_node.vc d_1 id_2 R w) : Calls Try.prog 45 #[.pointer (some d_1), .int .i64 id_2] w (Ret R) := by
  refine enter [.pointer (some d_1), .int .i64 id_2] Try.func45 rfl Try.ntmps45 rfl ?_
  intro a0 hA0
  unfold dom_Dom_node.vc at ht0
  refine wp_seq ?_
  refine wp_region_lit ?_
  refine sq (opk_val hA0 rfl (r_assign rfl) fun a3 hA3 _ => ?_)
  refine sq_end ?_
  have hA4 := hA3.keep [(0, .pointer (some d_1)), (1, .int .i64 id_2)] ⟨rfl, rfl, trivial⟩
  refine then_normal ?_
  refine wp_seq ?_
  refine wp_region_lit ?_
  refine sq (opk_val hA4 rfl (r_move (hA4.get rfl)) fun a5 hA5 _ => ?_)
  refine sq (opk_val hA5 rfl (r_nilCheck (hA5.get rfl)) fun a6 hA6 _ => ?_)
  refine sq (opk_val hA6 rfl (r_fieldAddr (hA6.get rfl) Try.underlying71 rfl ti_68 (by decide)) fun a7 hA7 _ => ?_)
  obtain ⟨x_9, hx10, ht11⟩ := ht0
  refine sq (opk_val hA7 rfl (r_load1 Try.underlying68 rfl (hA7.get rfl) hx10) fun a8 hA8 _ => ?_)
  refine sq (opk_val hA8 rfl (r_move (hA8.get rfl)) fun a12 hA12 _ => ?_)
  obtain ⟨r_0_14, r_1_15, hx16, ht17⟩ := ht11
  refine sq (opk_val hA12 rfl (r_lookup (hA12.get rfl) (hA12.get rfl) hx16) fun a13 hA13 _ => ?_)
  refine sq (opk_val hA13 rfl (r_move (hA13.get rfl)) fun a18 hA18 _ => ?_)
  refine sq (opk_val hA18 rfl (r_extract (hA18.get rfl) rfl) fun a19 hA19 _ => ?_)
  refine sq (opk_val hA19 rfl (r_extract (hA19.get rfl) rfl) fun a20 hA20 _ => ?_)
  refine sq (opk_val hA20 rfl (r_assign (hA20.get rfl)) fun a21 hA21 _ => ?_)
  refine sq (opk_val hA21 rfl (r_assign (hA21.get rfl)) fun a22 hA22 _ => ?_)
  refine sq_end ?_
  have hA23 := hA22.keep [(0, .pointer (some d_1)), (5, .int .i64 r_0_14), (6, .bool r_1_15)] ⟨rfl, rfl, rfl, trivial⟩
  refine then_normal ?_
  refine wp_seq ?_
  refine wp_seq ?_
  refine wp_region_lit ?_
  refine sq (opk_val hA23 rfl (r_move (hA23.get rfl)) fun a24 hA24 _ => ?_)
  refine sq (opk_val hA24 rfl (r_not (hA24.get rfl)) fun a25 hA25 _ => ?_)
  refine sq_end ?_
  have hA26 := hA25.keep [(0, .pointer (some d_1)), (5, .int .i64 r_0_14), (17, .bool (!r_1_15))] ⟨rfl, rfl, rfl, trivial⟩
  refine then_normal ?_
  refine wp_cond_split (hA26.get rfl) (fun hc => ?_) (fun hc => ?_)
  · have ht27 := ht17.1 (b_not_t hc)
    clear hc
    refine wp_seq ?_
    refine wp_region_lit ?_
    refine sq (opk_val hA26 rfl (r_assign rfl) fun a29 hA29 _ => ?_)
    refine sq_end ?_
    have hA30 := hA29.keep [(4, .pointer none)] ⟨rfl, trivial⟩
    refine then_normal ?_
    refine wp_ret ?_
    refine then_ret ?_
    exact res_all (vs := [.pointer none]) rfl hA30 ⟨res_of_tmp hA30 rfl, trivial⟩ ht27
  · have ht28 := ht17.2 (b_not_f hc)
    clear hc
    refine wp_skip ?_
    refine then_normal ?_
    refine wp_seq ?_
    refine wp_region_lit ?_
    refine sq (opk_val hA26 rfl (r_move (hA26.get rfl)) fun a31 hA31 _ => ?_)
    refine sq (opk_val hA31 rfl (r_nilCheck (hA31.get rfl)) fun a32 hA32 _ => ?_)
    refine sq (opk_val hA32 rfl (r_fieldAddr (hA32.get rfl) Try.underlying71 rfl ti_69 (by decide)) fun a33 hA33 _ => ?_)
    obtain ⟨x_35, hx36, ht37⟩ := ht28
    refine sq (opk_val hA33 rfl (r_load1 Try.underlying69 rfl (hA33.get rfl) hx36) fun a34 hA34 _ => ?_)
    refine sq (opk_val hA34 rfl (r_move (hA34.get rfl)) fun a38 hA38 _ => ?_)
    obtain ⟨hb40, p_39, hp41, ht42⟩ := ht37
    refine sq (opk_val hA38 rfl (r_indexAddr (hA38.get rfl) (hA38.get rfl) Try.underlying69 ti_76 hb40 hp41) fun a43 hA43 _ => ?_)
    refine sq (opk_val hA43 rfl (r_assign (hA43.get rfl)) fun a44 hA44 _ => ?_)
    refine sq_end ?_
    have hA45 := hA44.keep [(4, .pointer (some (p_39.add (r_0_14.toNat * 8))))] ⟨rfl, trivial⟩
    refine then_normal ?_
    refine wp_ret ?_
    exact res_all (vs := [.pointer (some (p_39.add (r_0_14.toNat * 8)))]) rfl hA45 ⟨res_of_tmp hA45 rfl, trivial⟩ ht42

/-- The condition of (*topiary/dom.node).holds. -/
def dom_node_holds.vc (n_1 : Addr) (kind_2 : Int) (R : Value → World → Prop) (w : World) : Prop :=
∃ (x_10 : Int), (w.cell? ((n_1.add 2).add 0) = some (.int .i64 x_10)) ∧
∃ (x_20 : Int), (((¬ (x_10 = 1))) → w.cell? ((n_1.add 2).add 0) = some (.int .i64 x_20)) ∧
R (.bool ((decide (x_10 = 1)) || ((decide (x_20 = 2)) && (decide (kind_2 ≠ 5))))) w
set_option maxHeartbeats 1000000 in
set_option maxRecDepth 10000 in
theorem dom_node_holds.ok (n_1 : Addr) (kind_2 : Int) {R : Value → World → Prop} {w : World} (ht0 : dom_node_holds.vc n_1 kind_2 R w) : Calls Try.prog 46 #[.pointer (some n_1), .int .i64 kind_2] w (Ret R) := by
  refine enter [.pointer (some n_1), .int .i64 kind_2] Try.func46 rfl Try.ntmps46 rfl ?_
  intro a0 hA0
  unfold dom_node_holds.vc at ht0
  refine wp_seq ?_
  refine wp_region_lit ?_
  refine sq (opk_val hA0 rfl (r_assign rfl) fun a3 hA3 _ => ?_)
  refine sq_end ?_
  have hA4 := hA3.keep [(0, .pointer (some n_1)), (1, .int .i64 kind_2)] ⟨rfl, rfl, trivial⟩
  refine then_normal ?_
  refine wp_seq ?_
  refine wp_region_lit ?_
  refine sq (opk_val hA4 rfl (r_move (hA4.get rfl)) fun a5 hA5 _ => ?_)
  refine sq (opk_val hA5 rfl (r_nilCheck (hA5.get rfl)) fun a6 hA6 _ => ?_)
  refine sq (opk_val hA6 rfl (r_fieldAddr (hA6.get rfl) Try.underlying76 rfl ti_29 (by decide)) fun a7 hA7 _ => ?_)
  refine sq (opk_val hA7 rfl (r_fieldAddr (hA7.get rfl) Try.underlying29 rfl ti_3 (by decide)) fun a8 hA8 _ => ?_)
  obtain ⟨x_10, hx11, ht12⟩ := ht0
  refine sq (opk_val hA8 rfl (r_load1 Try.underlying3 rfl (hA8.get rfl) hx11) fun a9 hA9 _ => ?_)
  refine sq (opk_val hA9 rfl (r_eql (hA9.get rfl) rfl) fun a13 hA13 _ => ?_)
  refine sq (opk_val hA13 rfl (r_move (hA13.get rfl)) fun a14 hA14 _ => ?_)
  refine sq (opk_gval hA14 rfl rfl (g := true) (e := (decide (x_10 = 1))) rfl (fun hg => r_move (hA14.get rfl)) fun a15 hA15 _ => ?_)
  refine sq (opk_gval hA15 rfl rfl (g := true) (e := (decide (x_10 = 1))) rfl (fun hg => r_nilCheck (cv_get (hA15.get rfl) hg)) fun a16 hA16 _ => ?_)
  refine sq (opk_gval hA16 rfl rfl (g := true) (e := (decide (x_10 = 1))) rfl (fun hg => r_fieldAddr (cv_get (hA16.get rfl) hg) Try.underlying76 rfl ti_29 (by decide)) fun a17 hA17 _ => ?_)
  refine sq (opk_gval hA17 rfl rfl (g := true) (e := (decide (x_10 = 1))) rfl (fun hg => r_fieldAddr (cv_get (hA17.get rfl) hg) Try.underlying29 rfl ti_3 (by decide)) fun a18 hA18 _ => ?_)
  obtain ⟨x_20, hx21, ht22⟩ := ht12
  refine sq (opk_gval hA18 rfl rfl (g := true) (e := (decide (x_10 = 1))) rfl (fun hg => r_load1 Try.underlying3 rfl (cv_get (hA18.get rfl) hg) (hx21 (of_decide_eq_false (g_f hg)))) fun a19 hA19 _ => ?_)
  refine sq (opk_gval hA19 rfl rfl (g := true) (e := (decide (x_10 = 1))) rfl (fun hg => r_eql (cv_get (hA19.get rfl) hg) rfl) fun a23 hA23 _ => ?_)
  refine sq (opk_gval hA23 rfl rfl (g := true) (e := (decide (x_10 = 1))) rfl (fun hg => r_move (cv_get (hA23.get rfl) hg)) fun a24 hA24 _ => ?_)
  refine sq (opk_gval hA24 rfl rfl (g := (true && ((decide (x_10 = 1)) == false))) (e := (decide (x_20 = 2))) rfl (fun hg => r_move (hA24.get rfl)) fun a25 hA25 _ => ?_)
  refine sq (opk_gval hA25 rfl rfl (g := (true && ((decide (x_10 = 1)) == false))) (e := (decide (x_20 = 2))) rfl (fun hg => r_neq (cv_get (hA25.get rfl) hg) rfl) fun a26 hA26 _ => ?_)
  refine sq (opk_gval hA26 rfl rfl (g := true) (e := (decide (x_10 = 1))) rfl (fun hg => r_pick_and (g := ((true && ((decide (x_10 = 1)) == false)) && ((decide (x_20 = 2)) == true))) (cv_get (hA26.get rfl) hg) (hA26.get rfl) (fun he => g_mkt hg he)) fun a27 hA27 _ => ?_)
  refine sq (opk_val hA27 rfl (r_pick_or (g := (true && ((decide (x_10 = 1)) == false))) (hA27.get rfl) (hA27.get rfl) (fun he => g_mkf rfl he)) fun a28 hA28 _ => ?_)
  refine sq (opk_val hA28 rfl (r_assign (hA28.get rfl)) fun a29 hA29 _ => ?_)
  refine sq_end ?_
  have hA30 := hA29.keep [(4, .bool ((decide (x_10 = 1)) || ((decide (x_20 = 2)) && (decide (kind_2 ≠ 5)))))] ⟨rfl, trivial⟩
  refine then_normal ?_
  refine wp_ret ?_
  exact res_all (vs := [.bool ((decide (x_10 = 1)) || ((decide (x_20 = 2)) && (decide (kind_2 ≠ 5))))]) rfl hA30 ⟨res_of_tmp hA30 rfl, trivial⟩ ht22

/-- The condition of (*topiary/dom.Dom).level. -/
def dom_Dom_level.vc (d_1 : Addr) (id_2 : Int) (R : Value → World → Prop) (w : World) : Prop :=
∃ (J_10 : Int → Int → World → Prop) (mu_11 : Int → Int → World → Nat),
J_10 id_2 0 w ∧
(∀ (id_7 : Int) (n_8 : Int) (w9 : World), J_10 id_7 n_8 w9 →
CallK Try.prog 23 #[.pointer (some d_1), .int .i64 id_7] w9 [] (fun v w53 => ∃ (r_51 : Bool), v = .bool r_51 ∧
((r_51 = true) →
(I64 (n_8 + 1)) ∧
CallK Try.prog 33 #[.pointer (some d_1), .int .i64 id_7] w53 [] (fun v w72 => ∃ (r_70 : Int), v = .int .i64 r_70 ∧
J_10 r_70 (n_8 + 1) w72 ∧ mu_11 r_70 (n_8 + 1) w72 < mu_11 id_7 n_8 w9)) ∧
((r_51 = false) →
R (.int .i64 n_8) w53)))
set_option maxHeartbeats 1000000 in
set_option maxRecDepth 10000 in
theorem dom_Dom_level.ok (d_1 : Addr) (id_2 : Int) {R : Value → World → Prop} {w : World} (ht0 : dom_Dom_level.vc d_1 id_2 R w) : Calls Try.prog 47 #[.pointer (some d_1), .int .i64 id_2] w (Ret R) := by
  refine enter [.pointer (some d_1), .int .i64 id_2] Try.func47 rfl Try.ntmps47 rfl ?_
  intro a0 hA0
  unfold dom_Dom_level.vc at ht0
  refine wp_seq ?_
  refine wp_region_lit ?_
  refine sq (opk_val hA0 rfl (r_assign rfl) fun a3 hA3 _ => ?_)
  refine sq_end ?_
  have hA4 := hA3.keep [(0, .pointer (some d_1)), (1, .int .i64 id_2)] ⟨rfl, rfl, trivial⟩
  refine then_normal ?_
  refine wp_seq ?_
  refine wp_region_lit ?_
  refine sq (opk_val hA4 rfl (r_assign rfl) fun a5 hA5 _ => ?_)
  refine sq_end ?_
  have hA6 := hA5.keep [(0, .pointer (some d_1)), (1, .int .i64 id_2), (5, .int .i64 0)] ⟨rfl, rfl, rfl, trivial⟩
  refine then_normal ?_
  refine wp_seq ?_
  refine wp_block ?_
  obtain ⟨J_10, mu_11, h046, ht45⟩ := ht0
  refine wp_loop_st (σ := Int × Int × World) (fun s a w => Ag 15 a [(0, .pointer (some d_1)), (1, .int .i64 s.1), (5, .int .i64 s.2.1)] ∧ w = s.2.2 ∧ J_10 s.1 s.2.1 s.2.2) (fun s => mu_11 s.1 s.2.1 s.2.2) (id_2, 0, w) ⟨hA6.keep [(0, .pointer (some d_1)), (1, .int .i64 id_2), (5, .int .i64 0)] ⟨rfl, rfl, rfl, trivial⟩, rfl, h046⟩ ?_
  rintro ⟨id_7, n_8, w9⟩ a44 w_ ⟨hA44, hw_, hJ48⟩
  have hw_ : w9 = w_ := hw_.symm
  subst hw_
  have ht47 := ht45 id_7 n_8 _ hJ48
  refine wp_seq ?_
  refine wp_seq ?_
  refine wp_region_lit ?_
  refine sq (opk_val hA44 rfl (r_move (hA44.get rfl)) fun a49 hA49 _ => ?_)
  refine sq (opk_val hA49 rfl (r_move (hA49.get rfl)) fun a50 hA50 _ => ?_)
  refine sq (opk_call hA50 rfl (r_call (args := #[.pointer (some d_1), .int .i64 id_7]) Try.func23 (by decide) rfl (map_arr (ml_cons (hA50.get rfl) (ml_cons (hA50.get rfl) ml_nil))) rfl) ht47 fun a52 v58 w53 hA52 _ hn55 hz56 hK57 => ?_)
  obtain ⟨r_51, rfl, ht54⟩ := hK57
  refine sq_end ?_
  have hA59 := hA52.keep [(0, .pointer (some d_1)), (1, .int .i64 id_7), (5, .int .i64 n_8), (8, .bool r_51)] ⟨rfl, rfl, rfl, rfl, trivial⟩
  refine then_normal ?_
  refine wp_cond_split (hA59.get rfl) (fun hc => ?_) (fun hc => ?_)
  · have ht60 := ht54.1 hc
    clear hc
    refine wp_skip ?_
    refine then_normal ?_
    refine wp_block ?_
    refine wp_seq ?_
    refine wp_region_lit ?_
    refine sq (opk_val hA59 rfl (r_move (hA59.get rfl)) fun a62 hA62 _ => ?_)
    obtain ⟨hS64, ht65⟩ := ht60
    refine sq (opk_val hA62 rfl (r_addI (hA62.get rfl) rfl hS64) fun a63 hA63 _ => ?_)
    refine sq (opk_val hA63 rfl (r_assign (hA63.get rfl)) fun a66 hA66 _ => ?_)
    refine sq_end ?_
    have hA67 := hA66.keep [(0, .pointer (some d_1)), (1, .int .i64 id_7), (5, .int .i64 (n_8 + 1))] ⟨rfl, rfl, rfl, trivial⟩
    refine then_normal ?_
    refine wp_region_lit ?_
    refine sq (opk_val hA67 rfl (r_move (hA67.get rfl)) fun a68 hA68 _ => ?_)
    refine sq (opk_val hA68 rfl (r_move (hA68.get rfl)) fun a69 hA69 _ => ?_)
    refine sq (opk_call hA69 rfl (r_call (args := #[.pointer (some d_1), .int .i64 id_7]) Try.func33 (by decide) rfl (map_arr (ml_cons (hA69.get rfl) (ml_cons (hA69.get rfl) ml_nil))) rfl) ht65 fun a71 v77 w72 hA71 _ hn74 hz75 hK76 => ?_)
    obtain ⟨r_70, rfl, ht73⟩ := hK76
    refine sq (opk_val hA71 rfl (r_assign (hA71.get rfl)) fun a78 hA78 _ => ?_)
    refine sq_end ?_
    have hA79 := hA78.keep [(0, .pointer (some d_1)), (1, .int .i64 r_70), (5, .int .i64 (n_8 + 1))] ⟨rfl, rfl, rfl, trivial⟩
    refine block_normal ?_
    have hA80 := hA79.keep [(0, .pointer (some d_1)), (1, .int .i64 r_70), (5, .int .i64 (n_8 + 1))] ⟨rfl, rfl, rfl, trivial⟩
    exact then_normal ⟨(r_70, n_8 + 1, w72), ⟨hA80, rfl, ht73.1⟩, ht73.2⟩
  · have ht61 := ht54.2 hc
    clear hc
    refine wp_exit ?_
    refine then_exit ?_
    refine then_exit ?_
    refine block_hit ?_
    have hA81 := hA59.keep [(5, .int .i64 n_8)] ⟨rfl, trivial⟩
    refine then_normal ?_
    refine wp_seq ?_
    refine wp_region_lit ?_
    refine sq (opk_val hA81 rfl (r_move (hA81.get rfl)) fun a82 hA82 _ => ?_)
    refine sq (opk_val hA82 rfl (r_assign (hA82.get rfl)) fun a83 hA83 _ => ?_)
    refine sq_end ?_
    have hA84 := hA83.keep [(4, .int .i64 n_8)] ⟨rfl, trivial⟩
    refine then_normal ?_
    refine wp_ret ?_
    exact res_all (vs := [.int .i64 n_8]) rfl hA84 ⟨res_of_tmp hA84 rfl, trivial⟩ ht61

/-- The condition of (*topiary/dom.Dom).put. -/
def dom_Dom_put.vc (d_1 : Addr) (id_2 : Int) (parent_3 : Int) (t_4_Kind : Int) (t_4_Name : Str) (t_4_Text : Str) (t_4_Attrs : Sl) (t_4_Kids : Sl) (R : Value → World → Prop) (w : World) : Prop :=
∀ (w15 : World) (B_5 : Nat), New w B_5 w15 → Chg [] w w15 →
CallK Try.prog 64 #[Sl.v t_4_Attrs] w15 [B_5] (fun v w28 => ∃ (r_26 : Sl), v = Sl.v r_26 ∧
∀ (w43 : World), Chg [B_5] w28 w43 →
∃ (x_51 : Option Nat), (w43.cell? (d_1.add 1) = some (.map x_51)) ∧
∃ (x_57 : Sl), (w43.cell? (d_1.add 0) = some (Sl.v x_57)) ∧
∀ (w62 : World), Chg [] w43 w62 →
RunU Try.prog (Instr.mapUpdate 68 (.map x_51) (.int .i64 id_2) (.int .i64 (x_57.n : Int))) w62 [B_5] (fun w77 =>
∀ (w83 : World), Chg [] w77 w83 →
∃ (x_91 : Sl), (w83.cell? (d_1.add 0) = some (Sl.v x_91)) ∧
∀ (w104 : World) (B_95 : Nat), Ext w83 w104 → w83.heap.size ≤ B_95 → Box w104 B_95 76 [.int .i64 id_2, .int .i64 parent_3, .int .i64 t_4_Kind, .string (Bs t_4_Name), .string (Bs t_4_Text), Sl.v r_26, Sl.v Sl.nil, Sl.v Sl.nil] → 
∀ (_ : Box w104 B_95 76 [.int .i64 id_2, .int .i64 parent_3, .int .i64 t_4_Kind, .string (Bs t_4_Name), .string (Bs t_4_Text), Sl.v r_26, Sl.v Sl.nil, Sl.v Sl.nil]),
RunK Try.prog (Builtin.append_ #[69, 69] 69 #[Sl.v x_91, Sl.v (Sl.mk (some ⟨B_95, 0, none⟩) 1 1)]) w104 [B_5] (fun v w125 => ∃ (r_131 : Sl), v = Sl.v r_131 ∧
∀ (w134 : World), Chg [] w125 w134 →
∀ (w145 : World), Chg [] w134 w145 →
∃ (B_159 o_160 : Nat) (T_161 : TypeId) (cs_162 : List Value), (d_1.add 0) = ⟨B_159, o_160, none⟩ ∧ Box w145 B_159 T_161 cs_162 ∧ o_160 + 1 ≤ cs_162.length ∧ (∀ b ∈ [B_5], b ≠ B_159) ∧
(∀ w154 : World, Chg [B_159] w145 w154 → Box w154 B_159 T_161 (putAt cs_162 o_160 [Sl.v r_131]) →
R (.tuple #[]) w154))))
set_option maxHeartbeats 1000000 in
set_option maxRecDepth 10000 in
theorem dom_Dom_put.ok (d_1 : Addr) (id_2 : Int) (parent_3 : Int) (t_4_Kind : Int) (t_4_Name : Str) (t_4_Text : Str) (t_4_Attrs : Sl) (t_4_Kids : Sl) {R : Value → World → Prop} {w : World} (ht0 : dom_Dom_put.vc d_1 id_2 parent_3 t_4_Kind t_4_Name t_4_Text t_4_Attrs t_4_Kids R w) : Calls Try.prog 48 #[.pointer (some d_1), .int .i64 id_2, .int .i64 parent_3, .agg #[.int .i64 t_4_Kind, .string (Bs t_4_Name), .string (Bs t_4_Text), Sl.v t_4_Attrs, Sl.v t_4_Kids]] w (Ret R) := by
  refine enter [.pointer (some d_1), .int .i64 id_2, .int .i64 parent_3, .agg #[.int .i64 t_4_Kind, .string (Bs t_4_Name), .string (Bs t_4_Text), Sl.v t_4_Attrs, Sl.v t_4_Kids]] Try.func48 rfl Try.ntmps48 rfl ?_
  intro a0 hA0
  unfold dom_Dom_put.vc at ht0
  refine wp_seq ?_
  refine wp_region_lit ?_
  refine sq (opk_new (fun B => .pointer (some ⟨B, 0, none⟩)) hA0 rfl (r_box (cs := [.int .i64 t_4_Kind, .string (Bs t_4_Name), .string (Bs t_4_Text), Sl.v t_4_Attrs, Sl.v t_4_Kids]) (hA0.get rfl) rfl) fun a7 w6 B_5 hE8 hN9 hB10 hA7 _ => ?_)
  have hN11 : New w B_5 w6 := hN9
  have hC12 : Chg [] w w6 := hE8
  refine sq_end ?_
  have hA13 := hA7.keep [(0, .pointer (some d_1)), (1, .int .i64 id_2), (2, .int .i64 parent_3), (7, .pointer (some (⟨B_5, 0, none⟩ : Addr)))] ⟨rfl, rfl, rfl, rfl, trivial⟩
  refine then_normal ?_
  refine wp_seq ?_
  refine wp_region_lit ?_
  refine sq (opk_val hA13 rfl (r_fieldAddr (hA13.get rfl) Try.underlying29 rfl ti_27 (by decide)) fun a14 hA14 _ => ?_)
  refine sq (opk_store hA14 hB10 (r_store (vs := [Sl.v Sl.nil]) (hA14.get rfl) rfl rfl ti_27 hB10 rfl (ones_all [Sl.v Sl.nil] rfl)) fun a16 w15 hS17 hB18 hA16 => ?_)
  have hB19 : Box w15 B_5 29 [.int .i64 t_4_Kind, .string (Bs t_4_Name), .string (Bs t_4_Text), Sl.v t_4_Attrs, Sl.v Sl.nil] := hB18
  have hC20 := hC12.storeNew hN11 hS17
  have hN21 := hN11.up hS17.size
  refine sq_end ?_
  have hA22 := hA16.keep [(0, .pointer (some d_1)), (1, .int .i64 id_2), (2, .int .i64 parent_3), (7, .pointer (some (⟨B_5, 0, none⟩ : Addr)))] ⟨rfl, rfl, rfl, rfl, trivial⟩
  refine then_normal ?_
  refine wp_seq ?_
  refine wp_region_lit ?_
  refine sq (opk_val hA22 rfl (r_fieldAddr (hA22.get rfl) Try.underlying29 rfl ti_26 (by decide)) fun a23 hA23 _ => ?_)
  refine sq (opk_val hA23 rfl (r_load1 Try.underlying26 rfl (hA23.get rfl) (hB19.cell 3 _ rfl)) fun a24 hA24 _ => ?_)
  have ht25 := ht0 w15 B_5 hN21  hC20
  refine sq (opk_call hA24 rfl (r_call (args := #[Sl.v t_4_Attrs]) Try.func64 (by decide) rfl (map_arr (ml_cons (hA24.get rfl) ml_nil)) rfl) ht25 fun a27 v33 w28 hA27 _ hn30 hz31 hK32 => ?_)
  obtain ⟨r_26, rfl, ht29⟩ := hK32
  have hB34 := hB19.kept hn30 (.head _)
  refine sq (opk_val hA27 rfl (r_fieldAddr (hA27.get rfl) Try.underlying29 rfl ti_26 (by decide)) fun a35 hA35 _ => ?_)
  refine sq (opk_store hA35 hB34 (r_store (vs := [Sl.v r_26]) (hA35.get rfl) (hA35.get rfl) rfl ti_26 hB34 rfl (ones_all [Sl.v r_26] rfl)) fun a37 w36 hS38 hB39 hA37 => ?_)
  have hB40 : Box w36 B_5 29 [.int .i64 t_4_Kind, .string (Bs t_4_Name), .string (Bs t_4_Text), Sl.v r_26, Sl.v Sl.nil] := hB39
  have hC41 : Chg [B_5] w28 w36 := hS38
  refine sq_end ?_
  have hA42 := hA37.keep [(0, .pointer (some d_1)), (1, .int .i64 id_2), (2, .int .i64 parent_3), (7, .pointer (some (⟨B_5, 0, none⟩ : Addr)))] ⟨rfl, rfl, rfl, rfl, trivial⟩
  refine then_normal ?_
  refine wp_seq ?_
  refine draw' (by kernel_rfl) fun w43 hE44 => ?_
  have hB45 := hB40.ext hE44
  have hC46 := hC41.more hE44
  have ht47 := ht29 w43    hC46
  obtain ⟨x_51, hx52, ht53⟩ := ht47
  obtain ⟨x_57, hx58, ht59⟩ := ht53
  refine par (D := [[], [0], [0, 1], [0, 1, 2], [], [], [5], [5, 6], [5, 6, 7], [5, 6, 7, 8], [0, 1, 2, 3, 4, 5, 6, 7, 8, 9]]) (S := [0, 1, 2, 3, 4, 5, 6, 7, 8, 9]) (F := []) (V := VL [(0, fun v _ => v = .pointer (some d_1)), (1, fun v _ => v = .pointer (some d_1)), (2, fun v _ => v = .pointer (some (d_1.add 1))), (3, fun v _ => v = .map x_51), (4, fun v _ => v = .int .i64 id_2), (5, fun v _ => v = .pointer (some d_1)), (6, fun v _ => v = .pointer (some d_1)), (7, fun v _ => v = .pointer (some (d_1.add 0))), (8, fun v _ => v = Sl.v x_57), (9, fun v _ => v = .int .i64 (x_57.n : Int))]) hA42 (by kernel_rfl) ⟨fun _ _ _ _ h => by first | exact h | (change _ = _ at h; change _ = _; exact h), fun _ _ _ _ h => by first | exact h | (change _ = _ at h; change _ = _; exact h), fun _ _ _ _ h => by first | exact h | (change _ = _ at h; change _ = _; exact h), fun _ _ _ _ h => by first | exact h | (change _ = _ at h; change _ = _; exact h), fun _ _ _ _ h => by first | exact h | (change _ = _ at h; change _ = _; exact h), fun _ _ _ _ h => by first | exact h | (change _ = _ at h; change _ = _; exact h), fun _ _ _ _ h => by first | exact h | (change _ = _ at h; change _ = _; exact h), fun _ _ _ _ h => by first | exact h | (change _ = _ at h; change _ = _; exact h), fun _ _ _ _ h => by first | exact h | (change _ = _ at h; change _ = _; exact h), fun _ _ _ _ h => by first | exact h | (change _ = _ at h; change _ = _; exact h), trivial⟩ ⟨?_, ?_, ?_, ?_, ?_, ?_, ?_, ?_, ?_, ?_, trivial⟩ ?_
  · intro a w hT
    have hAp := hT.ag hA42 [(0, .pointer (some d_1))] ⟨rfl, trivial⟩ (by kernel_rfl)
    exact opk_val hAp rfl (r_move (hAp.get rfl)) fun _ _ e => ⟨_, e, Chg.refl _ _, fun _ => Eq.refl _⟩
  · intro a w hT
    have hAp := hT.ag hA42 [] trivial (by kernel_rfl)
    have e48 : a.tmps.getD 13 undef = .pointer (some d_1) := hT.vals 0 rfl 13 rfl
    have hAp := hAp.add e48
    exact opk_val hAp rfl (r_nilCheck (hAp.get rfl)) fun _ _ e => ⟨_, e, Chg.refl _ _, fun _ => Eq.refl _⟩
  · intro a w hT
    have hAp := hT.ag hA42 [] trivial (by kernel_rfl)
    have e49 : a.tmps.getD 14 undef = .pointer (some d_1) := hT.vals 1 rfl 14 rfl
    have hAp := hAp.add e49
    exact opk_val hAp rfl (r_fieldAddr (hAp.get rfl) Try.underlying71 rfl ti_68 (by decide)) fun _ _ e => ⟨_, e, Chg.refl _ _, fun _ => Eq.refl _⟩
  · intro a w hT
    have hAp := hT.ag hA42 [] trivial (by kernel_rfl)
    have e50 : a.tmps.getD 15 undef = .pointer (some (d_1.add 1)) := hT.vals 2 rfl 15 rfl
    have hAp := hAp.add e50
    exact opk_val hAp rfl (r_load1 Try.underlying68 rfl (hAp.get rfl) (Ext.cell hT.chg hx52)) fun _ _ e => ⟨_, e, Chg.refl _ _, fun _ => Eq.refl _⟩
  · intro a w hT
    have hAp := hT.ag hA42 [(1, .int .i64 id_2)] ⟨rfl, trivial⟩ (by kernel_rfl)
    exact opk_val hAp rfl (r_move (hAp.get rfl)) fun _ _ e => ⟨_, e, Chg.refl _ _, fun _ => Eq.refl _⟩
  · intro a w hT
    have hAp := hT.ag hA42 [(0, .pointer (some d_1))] ⟨rfl, trivial⟩ (by kernel_rfl)
    exact opk_val hAp rfl (r_move (hAp.get rfl)) fun _ _ e => ⟨_, e, Chg.refl _ _, fun _ => Eq.refl _⟩
  · intro a w hT
    have hAp := hT.ag hA42 [] trivial (by kernel_rfl)
    have e54 : a.tmps.getD 18 undef = .pointer (some d_1) := hT.vals 5 rfl 18 rfl
    have hAp := hAp.add e54
    exact opk_val hAp rfl (r_nilCheck (hAp.get rfl)) fun _ _ e => ⟨_, e, Chg.refl _ _, fun _ => Eq.refl _⟩
  · intro a w hT
    have hAp := hT.ag hA42 [] trivial (by kernel_rfl)
    have e55 : a.tmps.getD 19 undef = .pointer (some d_1) := hT.vals 6 rfl 19 rfl
    have hAp := hAp.add e55
    exact opk_val hAp rfl (r_fieldAddr (hAp.get rfl) Try.underlying71 rfl ti_69 (by decide)) fun _ _ e => ⟨_, e, Chg.refl _ _, fun _ => Eq.refl _⟩
  · intro a w hT
    have hAp := hT.ag hA42 [] trivial (by kernel_rfl)
    have e56 : a.tmps.getD 20 undef = .pointer (some (d_1.add 0)) := hT.vals 7 rfl 20 rfl
    have hAp := hAp.add e56
    exact opk_val hAp rfl (r_load1 Try.underlying69 rfl (hAp.get rfl) (Ext.cell hT.chg hx58)) fun _ _ e => ⟨_, e, Chg.refl _ _, fun _ => Eq.refl _⟩
  · intro a w hT
    have hAp := hT.ag hA42 [] trivial (by kernel_rfl)
    have e60 : a.tmps.getD 21 undef = Sl.v x_57 := hT.vals 8 rfl 21 rfl
    have hAp := hAp.add e60
    exact opk_val hAp rfl (r_len (hAp.get rfl) Try.underlying69) fun _ _ e => ⟨_, e, Chg.refl _ _, fun _ => Eq.refl _⟩
  · intro a61 w62 hE63 hag64 hv65
    have hA61 := hag64 [(0, .pointer (some d_1)), (1, .int .i64 id_2), (2, .int .i64 parent_3), (7, .pointer (some (⟨B_5, 0, none⟩ : Addr)))] ⟨rfl, rfl, rfl, rfl, trivial⟩ (by kernel_rfl)
    have e67 : a61.tmps.getD 16 undef = .map x_51 := hv65 3 rfl 16 rfl
    have hA68 := hA61.add e67
    have e69 : a61.tmps.getD 17 undef = .int .i64 id_2 := hv65 4 rfl 17 rfl
    have hA70 := hA68.add e69
    have e71 : a61.tmps.getD 22 undef = .int .i64 (x_57.n : Int) := hv65 9 rfl 22 rfl
    have hA72 := hA70.add e71
    have hB73 := hB45.ext hE63
    have hC74 : Chg [] w43 w62 := hE63
    have ht75 := ht59 w62    hC74
    refine one (D := [[], [0], [0, 1], [0, 1, 2], [], [], [5], [5, 6], [5, 6, 7], [5, 6, 7, 8], [0, 1, 2, 3, 4, 5, 6, 7, 8, 9]]) (i := 10) rfl (by kernel_rfl) (opk_runU hA72 (fun _ hr => r_mapUpdate (hA72.get rfl) (hA72.get rfl) (hA72.get rfl) hr) ht75 fun a76 w77 hA76 hn79 hz80 ht78 => ?_)
    have hB81 := hB73.kept hn79 (.head _)
    refine PR_end (by kernel_rfl) ?_
    have hA82 := hA76.keep [(0, .pointer (some d_1)), (1, .int .i64 id_2), (2, .int .i64 parent_3), (7, .pointer (some (⟨B_5, 0, none⟩ : Addr)))] ⟨rfl, rfl, rfl, rfl, trivial⟩
    refine then_normal ?_
    refine draw' (by kernel_rfl) fun w83 hE84 => ?_
    have hB85 := hB81.ext hE84
    have hC86 : Chg [] w77 w83 := hE84
    have ht87 := ht78 w83    hC86
    refine startF (D := [[], [], [1], [1, 2], [1, 2, 3], [], [], [], [5, 6, 7], [5, 6, 7, 8], [1, 2, 3, 4, 5, 6, 7, 8, 9], [0, 1, 2, 3, 4, 5, 6, 7, 8, 9, 10], [0, 1, 2, 3, 4, 5, 6, 7, 8, 9, 10, 11], [0, 1, 2, 3, 4, 5, 6, 7, 8, 9, 10, 11, 12]]) (Fs := [0, 1, 5, 6, 7, 8]) (Ef := [(0, fun v _ => v = .pointer (some d_1)), (1, fun v _ => v = .pointer (some d_1)), (5, fun v _ => v = .int .i64 id_2), (6, fun v _ => v = .int .i64 parent_3), (7, fun v _ => v = .agg #[.int .i64 t_4_Kind, .string (Bs t_4_Name), .string (Bs t_4_Text), Sl.v r_26, Sl.v Sl.nil]), (8, fun v _ => v = .agg #[.int .i64 id_2, .int .i64 parent_3, .int .i64 t_4_Kind, .string (Bs t_4_Name), .string (Bs t_4_Text), Sl.v r_26, Sl.v Sl.nil, Sl.v Sl.nil])]) (by kernel_rfl) ?_
    obtain ⟨x_91, hx92, ht93⟩ := ht87
    refine parF (D := [[], [], [1], [1, 2], [1, 2, 3], [], [], [], [5, 6, 7], [5, 6, 7, 8], [1, 2, 3, 4, 5, 6, 7, 8, 9], [0, 1, 2, 3, 4, 5, 6, 7, 8, 9, 10], [0, 1, 2, 3, 4, 5, 6, 7, 8, 9, 10, 11], [0, 1, 2, 3, 4, 5, 6, 7, 8, 9, 10, 11, 12]]) (S := [2, 3, 4, 9]) (F := []) (KE := [2, 3, 4, 9]) (E := [(2, fun v _ => v = .pointer (some d_1)), (3, fun v _ => v = .pointer (some (d_1.add 0))), (4, fun v _ => v = Sl.v x_91), (9, fun v w' => ∃ B_95 : Nat, w83.heap.size ≤ B_95 ∧ Box w' B_95 76 [.int .i64 id_2, .int .i64 parent_3, .int .i64 t_4_Kind, .string (Bs t_4_Name), .string (Bs t_4_Text), Sl.v r_26, Sl.v Sl.nil, Sl.v Sl.nil] ∧ v = Sl.v (Sl.mk (some ⟨B_95, 0, none⟩) 1 1))]) hA82 rfl (by kernel_rfl) ⟨fun _ _ _ _ h => by first | exact h | (change _ = _ at h; change _ = _; exact h), fun _ _ _ _ h => by first | exact h | (change _ = _ at h; change _ = _; exact h), fun _ _ _ _ h => by first | exact h | (change _ = _ at h; change _ = _; exact h), fun _ _ _ hE ⟨B_95, h0_, h1_, e⟩ => ⟨B_95, h0_, (h1_.ext hE), e⟩, fun _ _ _ _ h => by first | exact h | (change _ = _ at h; change _ = _; exact h), fun _ _ _ _ h => by first | exact h | (change _ = _ at h; change _ = _; exact h), fun _ _ _ _ h => by first | exact h | (change _ = _ at h; change _ = _; exact h), fun _ _ _ _ h => by first | exact h | (change _ = _ at h; change _ = _; exact h), fun _ _ _ _ h => by first | exact h | (change _ = _ at h; change _ = _; exact h), fun _ _ _ _ h => by first | exact h | (change _ = _ at h; change _ = _; exact h), trivial⟩ ⟨?_, ?_, ?_, ?_, ?_, ?_, ?_, ?_, ?_, ?_, trivial⟩ ?_
    · intro a w hT
      have hAp := hT.ag hA82 [] trivial (by kernel_rfl)
      have e88 : a.tmps.getD 24 undef = .pointer (some d_1) := hT.vals 1 rfl 24 rfl
      have hAp := hAp.add e88
      exact opk_val hAp rfl (r_nilCheck (hAp.get rfl)) fun _ _ e => ⟨_, e, Chg.refl _ _, fun _ => Eq.refl _⟩
    · intro a w hT
      have hAp := hT.ag hA82 [] trivial (by kernel_rfl)
      have e89 : a.tmps.getD 25 undef = .pointer (some d_1) := hT.vals 2 rfl 25 rfl
      have hAp := hAp.add e89
      exact opk_val hAp rfl (r_fieldAddr (hAp.get rfl) Try.underlying71 rfl ti_69 (by decide)) fun _ _ e => ⟨_, e, Chg.refl _ _, fun _ => Eq.refl _⟩
    · intro a w hT
      have hAp := hT.ag hA82 [] trivial (by kernel_rfl)
      have e90 : a.tmps.getD 26 undef = .pointer (some (d_1.add 0)) := hT.vals 3 rfl 26 rfl
      have hAp := hAp.add e90
      exact opk_val hAp rfl (r_load1 Try.underlying69 rfl (hAp.get rfl) (Ext.cell hT.chg hx92)) fun _ _ e => ⟨_, e, Chg.refl _ _, fun _ => Eq.refl _⟩
    · intro a w hT
      have hAp := hT.ag hA82 [] trivial (by kernel_rfl)
      have e94 : a.tmps.getD 31 undef = .agg #[.int .i64 id_2, .int .i64 parent_3, .int .i64 t_4_Kind, .string (Bs t_4_Name), .string (Bs t_4_Text), Sl.v r_26, Sl.v Sl.nil, Sl.v Sl.nil] := hT.vals 8 rfl 31 rfl
      have hAp := hAp.add e94
      exact opk_new (fun B => .slice (some ⟨B, 0, none⟩) 1 1) hAp rfl (r_buildSlice (vs := #[(0, .agg #[.int .i64 id_2, .int .i64 parent_3, .int .i64 t_4_Kind, .string (Bs t_4_Name), .string (Bs t_4_Text), Sl.v r_26, Sl.v Sl.nil, Sl.v Sl.nil])]) (cs := [.int .i64 id_2, .int .i64 parent_3, .int .i64 t_4_Kind, .string (Bs t_4_Name), .string (Bs t_4_Text), Sl.v r_26, Sl.v Sl.nil, Sl.v Sl.nil]) (map_arr2 (ml2_cons (hAp.get rfl) (ml2_nil))) Try.underlying69 ti_76 rfl rfl (by kernel_rfl)) fun _ w96 B_95 hE97 hN98 hB99 _ e => ⟨_, e, hE97, fun _ => ⟨B_95, Nat.le_trans hT.chg.size hN98.ge, hB99, rfl⟩⟩
    · intro a w hT
      have hAp := hT.ag hA82 [(0, .pointer (some d_1))] ⟨rfl, trivial⟩ (by kernel_rfl)
      exact opk_val hAp rfl (r_move (hAp.get rfl)) fun _ _ e => ⟨_, e, Chg.refl _ _, fun _ => Eq.refl _⟩
    · intro a w hT
      have hAp := hT.ag hA82 [(0, .pointer (some d_1))] ⟨rfl, trivial⟩ (by kernel_rfl)
      exact opk_val hAp rfl (r_move (hAp.get rfl)) fun _ _ e => ⟨_, e, Chg.refl _ _, fun _ => Eq.refl _⟩
    · intro a w hT
      have hAp := hT.ag hA82 [(1, .int .i64 id_2)] ⟨rfl, trivial⟩ (by kernel_rfl)
      exact opk_val hAp rfl (r_move (hAp.get rfl)) fun _ _ e => ⟨_, e, Chg.refl _ _, fun _ => Eq.refl _⟩
    · intro a w hT
      have hAp := hT.ag hA82 [(2, .int .i64 parent_3)] ⟨rfl, trivial⟩ (by kernel_rfl)
      exact opk_val hAp rfl (r_move (hAp.get rfl)) fun _ _ e => ⟨_, e, Chg.refl _ _, fun _ => Eq.refl _⟩
    · intro a w hT
      have hAp := hT.ag hA82 [(7, .pointer (some (⟨B_5, 0, none⟩ : Addr)))] ⟨rfl, trivial⟩ (by kernel_rfl)
      exact opk_val hAp rfl (r_loadN (cs := [.int .i64 t_4_Kind, .string (Bs t_4_Name), .string (Bs t_4_Text), Sl.v r_26, Sl.v Sl.nil]) Try.underlying29 rfl ti_29 (hAp.get rfl) ((hB85.ext hT.chg).part 0 _ rfl)) fun _ _ e => ⟨_, e, Chg.refl _ _, fun _ => Eq.refl _⟩
    · intro a w hT
      have hAp := hT.ag hA82 [] trivial (by kernel_rfl)
      have e100 : a.tmps.getD 28 undef = .int .i64 id_2 := hT.vals 5 rfl 28 rfl
      have hAp := hAp.add e100
      have e101 : a.tmps.getD 29 undef = .int .i64 parent_3 := hT.vals 6 rfl 29 rfl
      have hAp := hAp.add e101
      have e102 : a.tmps.getD 30 undef = .agg #[.int .i64 t_4_Kind, .string (Bs t_4_Name), .string (Bs t_4_Text), Sl.v r_26, Sl.v Sl.nil] := hT.vals 7 rfl 30 rfl
      have hAp := hAp.add e102
      exact opk_val hAp rfl (r_build (vs := #[(0, .int .i64 id_2), (1, .int .i64 parent_3), (2, .agg #[.int .i64 t_4_Kind, .string (Bs t_4_Name), .string (Bs t_4_Text), Sl.v r_26, Sl.v Sl.nil])]) (cells := #[.int .i64 id_2, .int .i64 parent_3, .int .i64 t_4_Kind, .string (Bs t_4_Name), .string (Bs t_4_Text), Sl.v r_26, Sl.v Sl.nil, Sl.v Sl.nil]) (map_arr2 (ml2_cons (hAp.get rfl) (ml2_cons (hAp.get rfl) (ml2_cons (hAp.get rfl) (ml2_nil))))) ti_76 Try.underlying76 pl_76 (by kernel_rfl)) fun _ _ e => ⟨_, e, Chg.refl _ _, fun _ => Eq.refl _⟩
    · intro a103 w104 hE105 hag106 hv107
      have hA103 := hag106 [(0, .pointer (some d_1)), (1, .int .i64 id_2), (2, .int .i64 parent_3), (7, .pointer (some (⟨B_5, 0, none⟩ : Addr)))] ⟨rfl, rfl, rfl, rfl, trivial⟩ (by kernel_rfl)
      have e109 : a103.tmps.getD 27 undef = Sl.v x_91 := hv107 4 rfl 27 rfl
      have hA110 := hA103.add e109
      obtain ⟨B_95, hf113, hf114, e111⟩ := hv107 9 rfl 32 rfl
      have hA112 := hA110.add e111
      have hB115 := hB85.ext hE105
      have hC116 : Chg [] w83 w104 := hE105
      have ht117 := ht93 w104 B_95 hE105 hf113 hf114
      have hne118 : B_5 ≠ B_95 := Nat.ne_of_lt (Nat.lt_of_lt_of_le hB85.lt hf113)
      refine PRF_drop (X := [1, 5, 6, 7, 8]) (Fs' := [0]) hA112 (by kernel_rfl) fun a119 hag120 hv121 => ?_
      have hA119 := hag120 [(0, .pointer (some d_1)), (27, Sl.v x_91), (32, Sl.v (Sl.mk (some ⟨B_95, 0, none⟩) 1 1))] ⟨rfl, rfl, rfl, trivial⟩ (by kernel_rfl)
      refine oneF (c := 10) hA119 rfl (by kernel_rfl) (constF ⟨fun _ _ _ h => by first | exact h | (change _ = _ at h; change _ = _; exact h), trivial⟩) ⟨?_, trivial⟩ ?_
      · intro a hT
        have hAp := hT.ag hA119 [(0, .pointer (some d_1))] ⟨rfl, trivial⟩ (by kernel_rfl)
        exact opk_val hAp rfl (r_move (hAp.get rfl)) fun _ _ e => ⟨_, e, rfl, fun _ => Eq.refl _⟩
      · intro a122 hT
        have hA122 := hT.ag hA119 [(0, .pointer (some d_1)), (27, Sl.v x_91), (32, Sl.v (Sl.mk (some ⟨B_95, 0, none⟩) 1 1))] ⟨rfl, rfl, rfl, trivial⟩ (by kernel_rfl)
        have ht123 := ht117 hf114
        refine (opk_run hA122 rfl (fun _ _ hr => r_append (hA122.get rfl) (hA122.get rfl) hr) ht123 fun a124 v130 w125 hA124 heq171 hn127 hz128 hK129 => ?_)
        refine ⟨_, heq171, ?_⟩
        obtain ⟨r_131, rfl, ht126⟩ := hK129
        have hB132 := hB115.kept hn127 (.head _)
        refine joinF hA124 (by kernel_rfl) ⟨fun _ _ _ _ h => by first | exact h | (change _ = _ at h; change _ = _; exact h), trivial⟩ ⟨?_, trivial⟩ ?_
        · intro a w hT
          have hAp := hT.ag hA124 [(0, .pointer (some d_1))] ⟨rfl, trivial⟩ (by kernel_rfl)
          exact opk_val hAp rfl (r_move (hAp.get rfl)) fun _ _ e => ⟨_, e, Chg.refl _ _, fun _ => Eq.refl _⟩
        · intro a133 w134 hE135 hag136 hv137
          have hA133 := hag136 [(33, Sl.v r_131)] ⟨rfl, trivial⟩ (by kernel_rfl)
          have e138 : a133.tmps.getD 23 undef = .pointer (some d_1) := hv137 0 rfl 23 rfl
          have hA139 := hA133.add e138
          have hB140 := hB132.ext hE135
          have hC141 : Chg [] w125 w134 := hE135
          have ht142 := ht126 w134    hC141
          refine par (D := [[], [], [1], [1, 2], [1, 2, 3], [], [], [], [5, 6, 7], [5, 6, 7, 8], [1, 2, 3, 4, 5, 6, 7, 8, 9], [0, 1, 2, 3, 4, 5, 6, 7, 8, 9, 10], [0, 1, 2, 3, 4, 5, 6, 7, 8, 9, 10, 11], [0, 1, 2, 3, 4, 5, 6, 7, 8, 9, 10, 11, 12]]) (S := [11, 12]) (F := []) (V := VL [(11, fun v _ => v = .pointer (some d_1)), (12, fun v _ => v = .pointer (some (d_1.add 0)))]) hA139 (by kernel_rfl) ⟨fun _ _ _ _ h => by first | exact h | (change _ = _ at h; change _ = _; exact h), fun _ _ _ _ h => by first | exact h | (change _ = _ at h; change _ = _; exact h), trivial⟩ ⟨?_, ?_, trivial⟩ ?_
          · intro a w hT
            have hAp := hT.ag hA139 [(23, .pointer (some d_1))] ⟨rfl, trivial⟩ (by kernel_rfl)
            exact opk_val hAp rfl (r_nilCheck (hAp.get rfl)) fun _ _ e => ⟨_, e, Chg.refl _ _, fun _ => Eq.refl _⟩
          · intro a w hT
            have hAp := hT.ag hA139 [] trivial (by kernel_rfl)
            have e143 : a.tmps.getD 34 undef = .pointer (some d_1) := hT.vals 11 rfl 34 rfl
            have hAp := hAp.add e143
            exact opk_val hAp rfl (r_fieldAddr (hAp.get rfl) Try.underlying71 rfl ti_69 (by decide)) fun _ _ e => ⟨_, e, Chg.refl _ _, fun _ => Eq.refl _⟩
          · intro a144 w145 hE146 hag147 hv148
            have hA144 := hag147 [(33, Sl.v r_131)] ⟨rfl, trivial⟩ (by kernel_rfl)
            have e150 : a144.tmps.getD 35 undef = .pointer (some (d_1.add 0)) := hv148 12 rfl 35 rfl
            have hA151 := hA144.add e150
            have hB152 := hB140.ext hE146
            have hC153 : Chg [] w134 w145 := hE146
            have ht158 := ht142 w145    hC153
            obtain ⟨B_159, o_160, T_161, cs_162, he163, hb164, hl165, hx166, ht167⟩ := ht158
            refine one (D := [[], [], [1], [1, 2], [1, 2, 3], [], [], [], [5, 6, 7], [5, 6, 7, 8], [1, 2, 3, 4, 5, 6, 7, 8, 9], [0, 1, 2, 3, 4, 5, 6, 7, 8, 9, 10], [0, 1, 2, 3, 4, 5, 6, 7, 8, 9, 10, 11], [0, 1, 2, 3, 4, 5, 6, 7, 8, 9, 10, 11, 12]]) (i := 13) rfl (by kernel_rfl) (opk_store hA151 hb164 (r_store (vs := [Sl.v r_131]) (((hA151.get rfl)).trans (congrArg (fun a => Value.pointer (some a)) he163)) (hA151.get rfl) rfl ti_69 hb164 (Nat.ble_eq_true_of_le hl165) (ones_all [Sl.v r_131] rfl)) fun a155 w154 hS156 hB157 hA155 => ?_)
            have hB168 := hB152.keep hS156 (by have := hx166 B_5 (by simp); simpa using this)
            have ht169 := ht167 w154 hS156 hB157
            refine PR_end (by kernel_rfl) ?_
            have hA170 := hA155.keep [] trivial
            refine res_end ?_
            exact res_all (vs := []) rfl hA170 trivial ht169

/-- The condition of (*topiary/dom.node).attr. -/
def dom_node_attr.vc (n_1 : Addr) (name_2 : Str) (R : Value → World → Prop) (w : World) : Prop :=
∃ (x_11 : Sl), (w.cell? ((n_1.add 2).add 3) = some (Sl.v x_11)) ∧
CallK Try.prog 76 #[Sl.v x_11, .string (Bs name_2), .func (.func 77) #[] #[]] w [] (fun v w18 => ∃ (r_0_15 : Int) (r_1_16 : Bool), v = .tuple #[.int .i64 r_0_15, .bool r_1_16] ∧
R (.tuple #[.int .i64 r_0_15, .bool r_1_16]) w18)
set_option maxHeartbeats 1000000 in
set_option maxRecDepth 10000 in
theorem dom_node_attr.ok (n_1 : Addr) (name_2 : Str) {R : Value → World → Prop} {w : World} (ht0 : dom_node_attr.vc n_1 name_2 R w) : Calls Try.prog 51 #[.pointer (some n_1), .string (Bs name_2)] w (Ret R) := by
  refine enter [.pointer (some n_1), .string (Bs name_2)] Try.func51 rfl Try.ntmps51 rfl ?_
  intro a0 hA0
  unfold dom_node_attr.vc at ht0
  refine wp_seq ?_
  refine wp_region_lit ?_
  refine sq (opk_val hA0 rfl (r_assign rfl) fun a3 hA3 _ => ?_)
  refine sq (opk_val hA3 rfl (r_assign rfl) fun a4 hA4 _ => ?_)
  refine sq_end ?_
  have hA5 := hA4.keep [(0, .pointer (some n_1)), (1, .string (Bs name_2))] ⟨rfl, rfl, trivial⟩
  refine then_normal ?_
  refine wp_seq ?_
  refine wp_region_lit ?_
  refine sq (opk_val hA5 rfl (r_move (hA5.get rfl)) fun a6 hA6 _ => ?_)
  refine sq (opk_val hA6 rfl (r_nilCheck (hA6.get rfl)) fun a7 hA7 _ => ?_)
  refine sq (opk_val hA7 rfl (r_fieldAddr (hA7.get rfl) Try.underlying76 rfl ti_29 (by decide)) fun a8 hA8 _ => ?_)
  refine sq (opk_val hA8 rfl (r_fieldAddr (hA8.get rfl) Try.underlying29 rfl ti_26 (by decide)) fun a9 hA9 _ => ?_)
  obtain ⟨x_11, hx12, ht13⟩ := ht0
  refine sq (opk_val hA9 rfl (r_load1 Try.underlying26 rfl (hA9.get rfl) hx12) fun a10 hA10 _ => ?_)
  refine sq (opk_val hA10 rfl (r_move (hA10.get rfl)) fun a14 hA14 _ => ?_)
  refine sq (opk_call hA14 rfl (r_call (args := #[Sl.v x_11, .string (Bs name_2), .func (.func 77) #[] #[]]) Try.func76 (by decide) rfl (map_arr (ml_cons (hA14.get rfl) (ml_cons (hA14.get rfl) (ml_cons rfl ml_nil)))) rfl) ht13 fun a17 v23 w18 hA17 _ hn20 hz21 hK22 => ?_)
  obtain ⟨r_0_15, r_1_16, rfl, ht19⟩ := hK22
  refine sq (opk_val hA17 rfl (r_extract (hA17.get rfl) rfl) fun a24 hA24 _ => ?_)
  refine sq (opk_val hA24 rfl (r_extract (hA24.get rfl) rfl) fun a25 hA25 _ => ?_)
  refine sq (opk_val hA25 rfl (r_assign (hA25.get rfl)) fun a26 hA26 _ => ?_)
  refine sq (opk_val hA26 rfl (r_assign (hA26.get rfl)) fun a27 hA27 _ => ?_)
  refine sq_end ?_
  have hA28 := hA27.keep [(4, .int .i64 r_0_15), (5, .bool r_1_16)] ⟨rfl, rfl, trivial⟩
  refine then_normal ?_
  refine wp_ret ?_
  exact res_all (vs := [.int .i64 r_0_15, .bool r_1_16]) rfl hA28 ⟨res_of_tmp hA28 rfl, res_of_tmp hA28 rfl, trivial⟩ ht19

/-- The condition of (*topiary/dom.Dom).tree. -/
def dom_Dom_tree.vc (d_1 : Addr) (id_2 : Int) (R : Value → World → Prop) (w : World) : Prop :=
∀ (w4 : World) (B_3 : Nat), New w B_3 w4 → Chg [] w w4 →
CallK Try.prog 45 #[.pointer (some d_1), .int .i64 id_2] w4 [B_3] (fun v w17 => ∃ (r_15 : Option Addr), v = .pointer r_15 ∧
∃ p_28 : Addr, (r_15 = some p_28) ∧
∃ (x_33_Kind : Int) (x_33_Name : Str) (x_33_Text : Str) (x_33_Attrs : Sl) (x_33_Kids : Sl), (Cells w17 (p_28.add 2) [.int .i64 x_33_Kind, .string (Bs x_33_Name), .string (Bs x_33_Text), Sl.v x_33_Attrs, Sl.v x_33_Kids]) ∧
∀ (w46 : World) (B_36 : Nat), New w17 B_36 w46 → Chg [] w17 w46 →
CallK Try.prog 64 #[Sl.v x_33_Attrs] w46 [B_3, B_36] (fun v w60 => ∃ (r_58 : Sl), v = Sl.v r_58 ∧
∃ p_79 : Addr, (r_15 = some p_79) ∧
∀ (w69 : World), Chg [B_36] w60 w69 →
∃ (x_85 : Sl), (w69.cell? (p_79.add 7) = some (Sl.v x_85)) ∧
∃ (J_191 : Int → Sl → World → Prop) (mu_192 : Int → Sl → World → Nat),
J_191 0 x_33_Kids w69 ∧
(∀ (x_188 : Int) (c_189 : Sl) (w190 : World), J_191 x_188 c_189 w190 →
((x_188 < (x_85.n : Int)) →
((0 : Int) ≤ x_188 ∧ x_188 < (x_85.n : Int)) ∧ ∃ p_297 : Addr, x_85.a = some p_297 ∧
∃ (x_303 : Int), (w190.cell? (p_297.add (x_188.toNat * 1)) = some (.int .i64 x_303)) ∧
∀ (w308 : World), Chg [] w190 w308 →
∃ V_318 : Int → Str → Str → Sl → Sl → World → Prop, (∀ r_317_Kind : Int, ∀ r_317_Name : Str, ∀ r_317_Text : Str, ∀ r_317_Attrs : Sl, ∀ r_317_Kids : Sl, ∀ w' w'' : World, Ext w' w'' → V_318 r_317_Kind r_317_Name r_317_Text r_317_Attrs r_317_Kids w' → V_318 r_317_Kind r_317_Name r_317_Text r_317_Attrs r_317_Kids w'') ∧
(∀ w' : World, Ext w308 w' → Calls Try.prog 53 #[.pointer (some d_1), .int .i64 x_303] w' (Ret fun v w'' => Ext w' w'' ∧ ∃ r_317_Kind : Int, ∃ r_317_Name : Str, ∃ r_317_Text : Str, ∃ r_317_Attrs : Sl, ∃ r_317_Kids : Sl, v = .agg #[.int .i64 r_317_Kind, .string (Bs r_317_Name), .string (Bs r_317_Text), Sl.v r_317_Attrs, Sl.v r_317_Kids] ∧ V_318 r_317_Kind r_317_Name r_317_Text r_317_Attrs r_317_Kids w'')) ∧
∀ (w330 : World) (r_317_Kind : Int) (r_317_Name : Str) (r_317_Text : Str) (r_317_Attrs : Sl) (r_317_Kids : Sl) (B_324 : Nat), Ext w308 w330 → V_318 r_317_Kind r_317_Name r_317_Text r_317_Attrs r_317_Kids w330 → w308.heap.size ≤ B_324 → Box w330 B_324 29 [.int .i64 r_317_Kind, .string (Bs r_317_Name), .string (Bs r_317_Text), Sl.v r_317_Attrs, Sl.v r_317_Kids] → 
∀ (_ : Box w330 B_324 29 [.int .i64 r_317_Kind, .string (Bs r_317_Name), .string (Bs r_317_Text), Sl.v r_317_Attrs, Sl.v r_317_Kids]),
RunK Try.prog (Builtin.append_ #[27, 27] 27 #[Sl.v c_189, Sl.v (Sl.mk (some ⟨B_324, 0, none⟩) 1 1)]) w330 [B_3, B_36] (fun v w350 => ∃ (r_356 : Sl), v = Sl.v r_356 ∧
(I64 (x_188 + 1)) ∧
∀ (w370 : World), Chg [B_36] w350 w370 →
J_191 (x_188 + 1) r_356 w370 ∧ mu_192 (x_188 + 1) r_356 w370 < mu_192 x_188 c_189 w190)) ∧
((¬ (x_188 < (x_85.n : Int))) →
∀ (w387 : World), Chg [B_3] w190 w387 →
R (.agg #[.int .i64 x_33_Kind, .string (Bs x_33_Name), .string (Bs x_33_Text), Sl.v r_58, Sl.v c_189]) w387))))
set_option maxHeartbeats 1000000 in
set_option maxRecDepth 10000 in
theorem dom_Dom_tree.ok (d_1 : Addr) (id_2 : Int) {R : Value → World → Prop} {w : World} (ht0 : dom_Dom_tree.vc d_1 id_2 R w) : Calls Try.prog 53 #[.pointer (some d_1), .int .i64 id_2] w (Ret R) := by
  refine enter [.pointer (some d_1), .int .i64 id_2] Try.func53 rfl Try.ntmps53 rfl ?_
  intro a0 hA0
  unfold dom_Dom_tree.vc at ht0
  refine wp_seq ?_
  refine wp_region_lit ?_
  refine sq (opk_new (fun B => .pointer (some ⟨B, 0, none⟩)) hA0 rfl (r_alloc (cs := [.int .i64 0, .string (Bs ([] : Str)), .string (Bs ([] : Str)), Sl.v Sl.nil, Sl.v Sl.nil]) ti_29 rfl) fun a5 w4 B_3 hE6 hN7 hB8 hA5 _ => ?_)
  have hN9 : New w B_3 w4 := hN7
  have hC10 : Chg [] w w4 := hE6
  refine sq_end ?_
  have hA11 := hA5.keep [(0, .pointer (some d_1)), (1, .int .i64 id_2), (4, .pointer (some (⟨B_3, 0, none⟩ : Addr)))] ⟨rfl, rfl, rfl, trivial⟩
  refine then_normal ?_
  refine wp_seq ?_
  refine wp_region_lit ?_
  refine sq (opk_val hA11 rfl (r_move (hA11.get rfl)) fun a12 hA12 _ => ?_)
  refine sq (opk_val hA12 rfl (r_move (hA12.get rfl)) fun a13 hA13 _ => ?_)
  have ht14 := ht0 w4 B_3 hN9  hC10
  refine sq (opk_call hA13 rfl (r_call (args := #[.pointer (some d_1), .int .i64 id_2]) Try.func45 (by decide) rfl (map_arr (ml_cons (hA13.get rfl) (ml_cons (hA13.get rfl) ml_nil))) rfl) ht14 fun a16 v22 w17 hA16 _ hn19 hz20 hK21 => ?_)
  obtain ⟨r_15, rfl, ht18⟩ := hK21
  have hB23 := hB8.kept hn19 (.head _)
  refine sq (opk_val hA16 rfl (r_assign (hA16.get rfl)) fun a24 hA24 _ => ?_)
  refine sq_end ?_
  have hA25 := hA24.keep [(0, .pointer (some d_1)), (4, .pointer (some (⟨B_3, 0, none⟩ : Addr))), (5, .pointer r_15)] ⟨rfl, rfl, rfl, trivial⟩
  refine then_normal ?_
  refine wp_seq ?_
  refine wp_region_lit ?_
  refine sq (opk_val hA25 rfl (r_move (hA25.get rfl)) fun a26 hA26 _ => ?_)
  obtain ⟨p_28, hp29, ht30⟩ := ht18
  refine sq (opk_val hA26 rfl (r_nilCheckP (((hA26.get rfl)).trans (congrArg Value.pointer hp29))) fun a27 hA27 _ => ?_)
  refine sq (opk_val hA27 rfl (r_fieldAddr (hA27.get rfl) Try.underlying76 rfl ti_29 (by decide)) fun a31 hA31 _ => ?_)
  obtain ⟨x_33_Kind, x_33_Name, x_33_Text, x_33_Attrs, x_33_Kids, hx34, ht35⟩ := ht30
  refine sq (opk_val hA31 rfl (r_loadN Try.underlying29 rfl ti_29 (hA31.get rfl) hx34) fun a32 hA32 _ => ?_)
  refine sq (opk_new (fun B => .pointer (some ⟨B, 0, none⟩)) hA32 rfl (r_alloc (cs := [.int .i64 0, .string (Bs ([] : Str)), .string (Bs ([] : Str)), Sl.v Sl.nil, Sl.v Sl.nil]) ti_29 rfl) fun a38 w37 B_36 hE39 hN40 hB41 hA38 _ => ?_)
  have hne42 : B_3 ≠ B_36 := Nat.ne_of_lt (Nat.lt_of_lt_of_le hB23.lt hN40.ge)
  have hN43 : New w17 B_36 w37 := hN40
  have hB44 := hB23.ext hE39
  have hC45 : Chg [] w17 w37 := hE39
  refine sq (opk_store hA38 hB41 (r_store (vs := [.int .i64 x_33_Kind, .string (Bs x_33_Name), .string (Bs x_33_Text), Sl.v x_33_Attrs, Sl.v x_33_Kids]) (hA38.get rfl) (hA38.get rfl) rfl ti_29 hB41 rfl (ones_all [.int .i64 x_33_Kind, .string (Bs x_33_Name), .string (Bs x_33_Text), Sl.v x_33_Attrs, Sl.v x_33_Kids] rfl)) fun a47 w46 hS48 hB49 hA47 => ?_)
  have hB50 : Box w46 B_36 29 [.int .i64 x_33_Kind, .string (Bs x_33_Name), .string (Bs x_33_Text), Sl.v x_33_Attrs, Sl.v x_33_Kids] := hB49
  have hB51 := hB44.keep hS48 (by simpa using hne42)
  have hC52 := hC45.storeNew hN43 hS48
  have hN53 := hN43.up hS48.size
  refine sq_end ?_
  have hA54 := hA47.keep [(0, .pointer (some d_1)), (4, .pointer (some (⟨B_3, 0, none⟩ : Addr))), (5, .pointer r_15), (6, .pointer (some (⟨B_36, 0, none⟩ : Addr)))] ⟨rfl, rfl, rfl, rfl, trivial⟩
  refine then_normal ?_
  refine wp_seq ?_
  refine wp_region_lit ?_
  refine sq (opk_val hA54 rfl (r_fieldAddr (hA54.get rfl) Try.underlying29 rfl ti_26 (by decide)) fun a55 hA55 _ => ?_)
  refine sq (opk_val hA55 rfl (r_load1 Try.underlying26 rfl (hA55.get rfl) (hB50.cell 3 _ rfl)) fun a56 hA56 _ => ?_)
  have ht57 := ht35 w46 B_36 hN53  hC52
  refine sq (opk_call hA56 rfl (r_call (args := #[Sl.v x_33_Attrs]) Try.func64 (by decide) rfl (map_arr (ml_cons (hA56.get rfl) ml_nil)) rfl) ht57 fun a59 v65 w60 hA59 _ hn62 hz63 hK64 => ?_)
  obtain ⟨r_58, rfl, ht61⟩ := hK64
  have hB66 := hB51.kept hn62 (.head _)
  have hB67 := hB50.kept hn62 (.tail _ (.head _))
  refine sq (opk_val hA59 rfl (r_fieldAddr (hA59.get rfl) Try.underlying29 rfl ti_26 (by decide)) fun a68 hA68 _ => ?_)
  refine sq (opk_store hA68 hB67 (r_store (vs := [Sl.v r_58]) (hA68.get rfl) (hA68.get rfl) rfl ti_26 hB67 rfl (ones_all [Sl.v r_58] rfl)) fun a70 w69 hS71 hB72 hA70 => ?_)
  have hB73 : Box w69 B_36 29 [.int .i64 x_33_Kind, .string (Bs x_33_Name), .string (Bs x_33_Text), Sl.v r_58, Sl.v x_33_Kids] := hB72
  have hB74 := hB66.keep hS71 (by simpa using hne42)
  have hC75 : Chg [B_36] w60 w69 := hS71
  refine sq_end ?_
  have hA76 := hA70.keep [(0, .pointer (some d_1)), (4, .pointer (some (⟨B_3, 0, none⟩ : Addr))), (5, .pointer r_15), (6, .pointer (some (⟨B_36, 0, none⟩ : Addr)))] ⟨rfl, rfl, rfl, rfl, trivial⟩
  refine then_normal ?_
  refine wp_seq ?_
  refine wp_seq ?_
  refine wp_region_lit ?_
  refine sq (opk_val hA76 rfl (r_move (hA76.get rfl)) fun a77 hA77 _ => ?_)
  obtain ⟨p_79, hp80, ht81⟩ := ht61
  refine sq (opk_val hA77 rfl (r_nilCheckP (((hA77.get rfl)).trans (congrArg Value.pointer hp80))) fun a78 hA78 _ => ?_)
  refine sq (opk_val hA78 rfl (r_fieldAddr (hA78.get rfl) Try.underlying76 rfl ti_36 (by decide)) fun a82 hA82 _ => ?_)
  have ht84 := ht81 w69    hC75
  obtain ⟨x_85, hx86, ht87⟩ := ht84
  refine sq (opk_val hA82 rfl (r_load1 Try.underlying36 rfl (hA82.get rfl) hx86) fun a83 hA83 _ => ?_)
  refine sq (opk_val hA83 rfl (r_len (hA83.get rfl) Try.underlying36) fun a88 hA88 _ => ?_)
  refine sq (opk_val hA88 rfl (r_move rfl) fun a89 hA89 _ => ?_)
  refine sq_end ?_
  have hA90 := hA89.keep [(0, .pointer (some d_1)), (4, .pointer (some (⟨B_3, 0, none⟩ : Addr))), (6, .pointer (some (⟨B_36, 0, none⟩ : Addr))), (23, Sl.v x_85), (24, .int .i64 (x_85.n : Int)), (25, .int .i64 0)] ⟨rfl, rfl, rfl, rfl, rfl, rfl, trivial⟩
  refine then_normal ?_
  refine wp_block ?_
  obtain ⟨J_191, mu_192, h0290, ht289⟩ := ht87
  refine wp_loop_st (σ := Int × Sl × World) (fun s a w => Ag 39 a [(0, .pointer (some d_1)), (4, .pointer (some (⟨B_3, 0, none⟩ : Addr))), (6, .pointer (some (⟨B_36, 0, none⟩ : Addr))), (23, Sl.v x_85), (24, .int .i64 (x_85.n : Int)), (25, .int .i64 s.1)] ∧ Box w B_3 29 [.int .i64 0, .string (Bs ([] : Str)), .string (Bs ([] : Str)), Sl.v Sl.nil, Sl.v Sl.nil] ∧ Box w B_36 29 [.int .i64 x_33_Kind, .string (Bs x_33_Name), .string (Bs x_33_Text), Sl.v r_58, Sl.v s.2.1] ∧ w = s.2.2 ∧ J_191 s.1 s.2.1 s.2.2) (fun s => mu_192 s.1 s.2.1 s.2.2) (0, x_33_Kids, w69) ⟨hA90.keep [(0, .pointer (some d_1)), (4, .pointer (some (⟨B_3, 0, none⟩ : Addr))), (6, .pointer (some (⟨B_36, 0, none⟩ : Addr))), (23, Sl.v x_85), (24, .int .i64 (x_85.n : Int)), (25, .int .i64 0)] ⟨rfl, rfl, rfl, rfl, rfl, rfl, trivial⟩, hB74, hB73, rfl, h0290⟩ ?_
  rintro ⟨x_188, c_189, w190⟩ a286 w_ ⟨hA286, hB287, hB288, hw_, hJ292⟩
  have hw_ : w190 = w_ := hw_.symm
  subst hw_
  have ht291 := ht289 x_188 c_189 _ hJ292
  refine wp_seq ?_
  refine wp_region_lit ?_
  refine sq (opk_val hA286 rfl (r_lss (hA286.get rfl) (hA286.get rfl)) fun a293 hA293 _ => ?_)
  refine sq_end ?_
  have hA294 := hA293.keep [(0, .pointer (some d_1)), (4, .pointer (some (⟨B_3, 0, none⟩ : Addr))), (6, .pointer (some (⟨B_36, 0, none⟩ : Addr))), (23, Sl.v x_85), (24, .int .i64 (x_85.n : Int)), (25, .int .i64 x_188), (26, .bool (decide (x_188 < (x_85.n : Int))))] ⟨rfl, rfl, rfl, rfl, rfl, rfl, rfl, trivial⟩
  refine then_normal ?_
  refine wp_seq ?_
  refine wp_cond_split (hA294.get rfl) (fun hc => ?_) (fun hc => ?_)
  · have ht295 := ht291.1 (of_decide_eq_true hc)
    clear hc
    refine wp_skip ?_
    refine then_normal ?_
    refine wp_seq ?_
    refine wp_block ?_
    refine wp_seq ?_
    refine wp_region_lit ?_
    obtain ⟨hb298, p_297, hp299, ht300⟩ := ht295
    refine sq (opk_val hA294 rfl (r_indexAddr (hA294.get rfl) (hA294.get rfl) Try.underlying36 ti_3 hb298 hp299) fun a301 hA301 _ => ?_)
    obtain ⟨x_303, hx304, ht305⟩ := ht300
    refine sq (opk_val hA301 rfl (r_load1 Try.underlying3 rfl (hA301.get rfl) hx304) fun a302 hA302 _ => ?_)
    refine sq (opk_val hA302 rfl (r_assign (hA302.get rfl)) fun a306 hA306 _ => ?_)
    refine sq_end ?_
    have hA307 := hA306.keep [(0, .pointer (some d_1)), (4, .pointer (some (⟨B_3, 0, none⟩ : Addr))), (6, .pointer (some (⟨B_36, 0, none⟩ : Addr))), (8, .int .i64 x_303), (23, Sl.v x_85), (24, .int .i64 (x_85.n : Int)), (25, .int .i64 x_188)] ⟨rfl, rfl, rfl, rfl, rfl, rfl, rfl, trivial⟩
    refine then_normal ?_
    refine draw' (by kernel_rfl) fun w308 hE309 => ?_
    have hB310 := hB287.ext hE309
    have hB311 := hB288.ext hE309
    have hC312 : Chg [] w190 w308 := hE309
    have ht313 := ht305 w308    hC312
    obtain ⟨V_318, hst319, hc320, ht321⟩ := ht313
    refine par (D := [[], [0], [], [], [2, 3], [2, 3, 4], [0, 1, 2, 3, 4, 5], [0, 1, 2, 3, 4, 5, 6], [0, 1, 2, 3, 4, 5, 6, 7]]) (S := [0, 1, 2, 3, 4, 5]) (F := []) (V := VL [(0, fun v _ => v = .pointer (some (⟨B_36, 4, none⟩ : Addr))), (1, fun v _ => v = Sl.v c_189), (2, fun v _ => v = .pointer (some d_1)), (3, fun v _ => v = .int .i64 x_303), (4, fun v w' => ∃ r_317_Kind : Int, ∃ r_317_Name : Str, ∃ r_317_Text : Str, ∃ r_317_Attrs : Sl, ∃ r_317_Kids : Sl, V_318 r_317_Kind r_317_Name r_317_Text r_317_Attrs r_317_Kids w' ∧ v = .agg #[.int .i64 r_317_Kind, .string (Bs r_317_Name), .string (Bs r_317_Text), Sl.v r_317_Attrs, Sl.v r_317_Kids]), (5, fun v w' => ∃ r_317_Kind : Int, ∃ r_317_Name : Str, ∃ r_317_Text : Str, ∃ r_317_Attrs : Sl, ∃ r_317_Kids : Sl, ∃ B_324 : Nat, V_318 r_317_Kind r_317_Name r_317_Text r_317_Attrs r_317_Kids w' ∧ w308.heap.size ≤ B_324 ∧ Box w' B_324 29 [.int .i64 r_317_Kind, .string (Bs r_317_Name), .string (Bs r_317_Text), Sl.v r_317_Attrs, Sl.v r_317_Kids] ∧ v = Sl.v (Sl.mk (some ⟨B_324, 0, none⟩) 1 1))]) hA307 (by kernel_rfl) ⟨fun _ _ _ _ h => by first | exact h | (change _ = _ at h; change _ = _; exact h), fun _ _ _ _ h => by first | exact h | (change _ = _ at h; change _ = _; exact h), fun _ _ _ _ h => by first | exact h | (change _ = _ at h; change _ = _; exact h), fun _ _ _ _ h => by first | exact h | (change _ = _ at h; change _ = _; exact h), fun _ _ _ hE ⟨r_317_Kind, r_317_Name, r_317_Text, r_317_Attrs, r_317_Kids, h0_, e⟩ => ⟨r_317_Kind, r_317_Name, r_317_Text, r_317_Attrs, r_317_Kids, (hst319 r_317_Kind r_317_Name r_317_Text r_317_Attrs r_317_Kids _ _ hE h0_), e⟩, fun _ _ _ hE ⟨r_317_Kind, r_317_Name, r_317_Text, r_317_Attrs, r_317_Kids, B_324, h0_, h1_, h2_, e⟩ => ⟨r_317_Kind, r_317_Name, r_317_Text, r_317_Attrs, r_317_Kids, B_324, (hst319 r_317_Kind r_317_Name r_317_Text r_317_Attrs r_317_Kids _ _ hE h0_), h1_, (h2_.ext hE), e⟩, trivial⟩ ⟨?_, ?_, ?_, ?_, ?_, ?_, trivial⟩ ?_
    · intro a w hT
      have hAp := hT.ag hA307 [(6, .pointer (some (⟨B_36, 0, none⟩ : Addr)))] ⟨rfl, trivial⟩ (by kernel_rfl)
      exact opk_val hAp rfl (r_fieldAddr (hAp.get rfl) Try.underlying29 rfl ti_27 (by decide)) fun _ _ e => ⟨_, e, Chg.refl _ _, fun _ => Eq.refl _⟩
    · intro a w hT
      have hAp := hT.ag hA307 [] trivial (by kernel_rfl)
      have e314 : a.tmps.getD 29 undef = .pointer (some (⟨B_36, 4, none⟩ : Addr)) := hT.vals 0 rfl 29 rfl
      have hAp := hAp.add e314
      exact opk_val hAp rfl (r_load1 Try.underlying27 rfl (hAp.get rfl) ((hB311.ext hT.chg).cell 4 _ rfl)) fun _ _ e => ⟨_, e, Chg.refl _ _, fun _ => Eq.refl _⟩
    · intro a w hT
      have hAp := hT.ag hA307 [(0, .pointer (some d_1))] ⟨rfl, trivial⟩ (by kernel_rfl)
      exact opk_val hAp rfl (r_move (hAp.get rfl)) fun _ _ e => ⟨_, e, Chg.refl _ _, fun _ => Eq.refl _⟩
    · intro a w hT
      have hAp := hT.ag hA307 [(8, .int .i64 x_303)] ⟨rfl, trivial⟩ (by kernel_rfl)
      exact opk_val hAp rfl (r_move (hAp.get rfl)) fun _ _ e => ⟨_, e, Chg.refl _ _, fun _ => Eq.refl _⟩
    · intro a w hT
      have hAp := hT.ag hA307 [] trivial (by kernel_rfl)
      have e315 : a.tmps.getD 31 undef = .pointer (some d_1) := hT.vals 2 rfl 31 rfl
      have hAp := hAp.add e315
      have e316 : a.tmps.getD 32 undef = .int .i64 x_303 := hT.vals 3 rfl 32 rfl
      have hAp := hAp.add e316
      exact opk_callX hAp rfl (r_call (args := #[.pointer (some d_1), .int .i64 x_303]) Try.func53 (by decide) rfl (map_arr (ml_cons (hAp.get rfl) (ml_cons (hAp.get rfl) ml_nil))) rfl) (hc320 w hT.chg) fun _ _ _ _ e ⟨hE, r_317_Kind, r_317_Name, r_317_Text, r_317_Attrs, r_317_Kids, he, hV⟩ => ⟨_, e, hE, fun _ => ⟨r_317_Kind, r_317_Name, r_317_Text, r_317_Attrs, r_317_Kids, hV, he⟩⟩
    · intro a w hT
      have hAp := hT.ag hA307 [] trivial (by kernel_rfl)
      obtain ⟨r_317_Kind, r_317_Name, r_317_Text, r_317_Attrs, r_317_Kids, hf323, e322⟩ := hT.vals 4 rfl 33 rfl
      have hAp := hAp.add e322
      exact opk_new (fun B => .slice (some ⟨B, 0, none⟩) 1 1) hAp rfl (r_buildSlice (vs := #[(0, .agg #[.int .i64 r_317_Kind, .string (Bs r_317_Name), .string (Bs r_317_Text), Sl.v r_317_Attrs, Sl.v r_317_Kids])]) (cs := [.int .i64 r_317_Kind, .string (Bs r_317_Name), .string (Bs r_317_Text), Sl.v r_317_Attrs, Sl.v r_317_Kids]) (map_arr2 (ml2_cons (hAp.get rfl) (ml2_nil))) Try.underlying27 ti_29 rfl rfl (by kernel_rfl)) fun _ w325 B_324 hE326 hN327 hB328 _ e => ⟨_, e, hE326, fun _ => ⟨r_317_Kind, r_317_Name, r_317_Text, r_317_Attrs, r_317_Kids, B_324, (hst319 r_317_Kind r_317_Name r_317_Text r_317_Attrs r_317_Kids _ _ hE326 hf323), Nat.le_trans hT.chg.size hN327.ge, hB328, rfl⟩⟩
    · intro a329 w330 hE331 hag332 hv333
      have hA329 := hag332 [(0, .pointer (some d_1)), (4, .pointer (some (⟨B_3, 0, none⟩ : Addr))), (6, .pointer (some (⟨B_36, 0, none⟩ : Addr))), (23, Sl.v x_85), (24, .int .i64 (x_85.n : Int)), (25, .int .i64 x_188)] ⟨rfl, rfl, rfl, rfl, rfl, rfl, trivial⟩ (by kernel_rfl)
      have e335 : a329.tmps.getD 30 undef = Sl.v c_189 := hv333 1 rfl 30 rfl
      have hA336 := hA329.add e335
      obtain ⟨r_317_Kind, r_317_Name, r_317_Text, r_317_Attrs, r_317_Kids, B_324, hf339, hf340, hf341, e337⟩ := hv333 5 rfl 34 rfl
      have hA338 := hA336.add e337
      have hB342 := hB310.ext hE331
      have hB343 := hB311.ext hE331
      have hC344 : Chg [] w308 w330 := hE331
      have ht345 := ht321 w330 r_317_Kind r_317_Name r_317_Text r_317_Attrs r_317_Kids B_324 hE331 hf339 hf340 hf341
      have hne346 : B_3 ≠ B_324 := Nat.ne_of_lt (Nat.lt_of_lt_of_le hB310.lt hf340)
      have hne347 : B_36 ≠ B_324 := Nat.ne_of_lt (Nat.lt_of_lt_of_le hB311.lt hf340)
      have ht348 := ht345 hf341
      refine one (D := [[], [0], [], [], [2, 3], [2, 3, 4], [0, 1, 2, 3, 4, 5], [0, 1, 2, 3, 4, 5, 6], [0, 1, 2, 3, 4, 5, 6, 7]]) (i := 6) rfl (by kernel_rfl) (opk_run hA338 rfl (fun _ _ hr => r_append (hA338.get rfl) (hA338.get rfl) hr) ht348 fun a349 v355 w350 hA349 _ hn352 hz353 hK354 => ?_)
      obtain ⟨r_356, rfl, ht351⟩ := hK354
      have hB357 := hB342.kept hn352 (.head _)
      have hB358 := hB343.kept hn352 (.tail _ (.head _))
      refine par (D := [[], [0], [], [], [2, 3], [2, 3, 4], [0, 1, 2, 3, 4, 5], [0, 1, 2, 3, 4, 5, 6], [0, 1, 2, 3, 4, 5, 6, 7]]) (S := [7]) (F := []) (V := VL [(7, fun v _ => v = .pointer (some (⟨B_36, 4, none⟩ : Addr)))]) hA349 (by kernel_rfl) ⟨fun _ _ _ _ h => by first | exact h | (change _ = _ at h; change _ = _; exact h), trivial⟩ ⟨?_, trivial⟩ ?_
      · intro a w hT
        have hAp := hT.ag hA349 [(6, .pointer (some (⟨B_36, 0, none⟩ : Addr)))] ⟨rfl, trivial⟩ (by kernel_rfl)
        exact opk_val hAp rfl (r_fieldAddr (hAp.get rfl) Try.underlying29 rfl ti_27 (by decide)) fun _ _ e => ⟨_, e, Chg.refl _ _, fun _ => Eq.refl _⟩
      · intro a359 w360 hE361 hag362 hv363
        have hA359 := hag362 [(0, .pointer (some d_1)), (4, .pointer (some (⟨B_3, 0, none⟩ : Addr))), (6, .pointer (some (⟨B_36, 0, none⟩ : Addr))), (23, Sl.v x_85), (24, .int .i64 (x_85.n : Int)), (25, .int .i64 x_188), (35, Sl.v r_356)] ⟨rfl, rfl, rfl, rfl, rfl, rfl, rfl, trivial⟩ (by kernel_rfl)
        have e365 : a359.tmps.getD 36 undef = .pointer (some (⟨B_36, 4, none⟩ : Addr)) := hv363 7 rfl 36 rfl
        have hA366 := hA359.add e365
        have hB367 := hB357.ext hE361
        have hB368 := hB358.ext hE361
        have hC369 : Chg [] w350 w360 := hE361
        refine one (D := [[], [0], [], [], [2, 3], [2, 3, 4], [0, 1, 2, 3, 4, 5], [0, 1, 2, 3, 4, 5, 6], [0, 1, 2, 3, 4, 5, 6, 7]]) (i := 8) rfl (by kernel_rfl) (opk_store hA366 hB368 (r_store (vs := [Sl.v r_356]) (hA366.get rfl) (hA366.get rfl) rfl ti_27 hB368 rfl (ones_all [Sl.v r_356] rfl)) fun a371 w370 hS372 hB373 hA371 => ?_)
        have hB374 : Box w370 B_36 29 [.int .i64 x_33_Kind, .string (Bs x_33_Name), .string (Bs x_33_Text), Sl.v r_58, Sl.v r_356] := hB373
        have hB375 := hB367.keep hS372 (by simpa using hne42)
        have hC376 := hC369.storeOld hS372
        refine PR_end (by kernel_rfl) ?_
        have hA377 := hA371.keep [(0, .pointer (some d_1)), (4, .pointer (some (⟨B_3, 0, none⟩ : Addr))), (6, .pointer (some (⟨B_36, 0, none⟩ : Addr))), (23, Sl.v x_85), (24, .int .i64 (x_85.n : Int)), (25, .int .i64 x_188)] ⟨rfl, rfl, rfl, rfl, rfl, rfl, trivial⟩
        refine block_normal ?_
        refine then_normal ?_
        refine wp_region_lit ?_
        obtain ⟨hS379, ht380⟩ := ht351
        refine sq (opk_val hA377 rfl (r_addI (hA377.get rfl) rfl hS379) fun a378 hA378 _ => ?_)
        refine sq (opk_val hA378 rfl (r_move (hA378.get rfl)) fun a381 hA381 _ => ?_)
        refine sq_end ?_
        have hA382 := hA381.keep [(0, .pointer (some d_1)), (4, .pointer (some (⟨B_3, 0, none⟩ : Addr))), (6, .pointer (some (⟨B_36, 0, none⟩ : Addr))), (23, Sl.v x_85), (24, .int .i64 (x_85.n : Int)), (25, .int .i64 (x_188 + 1))] ⟨rfl, rfl, rfl, rfl, rfl, rfl, trivial⟩
        have ht383 := ht380 w370    hC376
        have hA384 := hA382.keep [(0, .pointer (some d_1)), (4, .pointer (some (⟨B_3, 0, none⟩ : Addr))), (6, .pointer (some (⟨B_36, 0, none⟩ : Addr))), (23, Sl.v x_85), (24, .int .i64 (x_85.n : Int)), (25, .int .i64 (x_188 + 1))] ⟨rfl, rfl, rfl, rfl, rfl, rfl, trivial⟩
        exact then_normal ⟨(x_188 + 1, r_356, w370), ⟨hA384, hB375, hB374, rfl, ht383.1⟩, ht383.2⟩
  · have ht296 := ht291.2 (of_decide_eq_false hc)
    clear hc
    refine wp_exit ?_
    refine then_exit ?_
    refine then_exit ?_
    refine block_hit ?_
    have hA385 := hA294.keep [(4, .pointer (some (⟨B_3, 0, none⟩ : Addr))), (6, .pointer (some (⟨B_36, 0, none⟩ : Addr)))] ⟨rfl, rfl, trivial⟩
    refine then_normal ?_
    refine wp_seq ?_
    refine wp_region_lit ?_
    refine sq (opk_val hA385 rfl (r_loadN (cs := [.int .i64 x_33_Kind, .string (Bs x_33_Name), .string (Bs x_33_Text), Sl.v r_58, Sl.v c_189]) Try.underlying29 rfl ti_29 (hA385.get rfl) (hB288.part 0 _ rfl)) fun a386 hA386 _ => ?_)
    refine sq (opk_store hA386 hB287 (r_store (vs := [.int .i64 x_33_Kind, .string (Bs x_33_Name), .string (Bs x_33_Text), Sl.v r_58, Sl.v c_189]) (hA386.get rfl) (hA386.get rfl) rfl ti_29 hB287 rfl (ones_all [.int .i64 x_33_Kind, .string (Bs x_33_Name), .string (Bs x_33_Text), Sl.v r_58, Sl.v c_189] rfl)) fun a388 w387 hS389 hB390 hA388 => ?_)
    have hB391 : Box w387 B_3 29 [.int .i64 x_33_Kind, .string (Bs x_33_Name), .string (Bs x_33_Text), Sl.v r_58, Sl.v c_189] := hB390
    have hB392 := hB288.keep hS389 (by simpa using hne42.symm)
    have hC393 : Chg [B_3] w190 w387 := hS389
    refine sq_end ?_
    have hA394 := hA388.keep [(4, .pointer (some (⟨B_3, 0, none⟩ : Addr)))] ⟨rfl, trivial⟩
    refine then_normal ?_
    refine wp_ret ?_
    have ht395 := ht296 w387    hC393
    exact res_all (vs := [.agg #[.int .i64 x_33_Kind, .string (Bs x_33_Name), .string (Bs x_33_Text), Sl.v r_58, Sl.v c_189]]) rfl hA394 ⟨res_of_cell hA394 rfl hB391 Try.underlying29 rfl ti_29, trivial⟩ ht395

/-- The condition of (*topiary/dom.Dom).out. -/
def dom_Dom_out.vc (d_1 : Addr) (id_2 : Int) (R : Value → World → Prop) (w : World) : Prop :=
∀ (w4 : World) (B_3 : Nat), New w B_3 w4 → Chg [] w w4 →
CallK Try.prog 33 #[.pointer (some d_1), .int .i64 id_2] w4 [B_3] (fun v w18 => ∃ (r_16 : Int), v = .int .i64 r_16 ∧
CallK Try.prog 45 #[.pointer (some d_1), .int .i64 r_16] w18 [B_3] (fun v w27 => ∃ (r_25 : Option Addr), v = .pointer r_25 ∧
∃ p_39 : Addr, (r_25 = some p_39) ∧
∃ (x_44 : Sl), (w27.cell? (p_39.add 7) = some (Sl.v x_44)) ∧
∀ (_ : Box w27 B_3 3 [.int .i64 id_2]),
CallK Try.prog 81 #[Sl.v x_44, .func (.func 82) #[] #[.pointer (some (⟨B_3, 0, none⟩ : Addr))]] w27 [] (fun v w51 => ∃ (r_49 : Sl), v = Sl.v r_49 ∧
∃ p_58 : Addr, (r_25 = some p_58) ∧
∃ (B_66 o_67 : Nat) (T_68 : TypeId) (cs_69 : List Value), (p_58.add 7) = ⟨B_66, o_67, none⟩ ∧ Box w51 B_66 T_68 cs_69 ∧ o_67 + 1 ≤ cs_69.length ∧ (∀ b ∈ [], b ≠ B_66) ∧
(∀ w62 : World, Chg [B_66] w51 w62 → Box w62 B_66 T_68 (putAt cs_69 o_67 [Sl.v r_49]) →
R (.tuple #[]) w62))))
set_option maxHeartbeats 1000000 in
set_option maxRecDepth 10000 in
theorem dom_Dom_out.ok (d_1 : Addr) (id_2 : Int) {R : Value → World → Prop} {w : World} (ht0 : dom_Dom_out.vc d_1 id_2 R w) : Calls Try.prog 57 #[.pointer (some d_1), .int .i64 id_2] w (Ret R) := by
  refine enter [.pointer (some d_1), .int .i64 id_2] Try.func57 rfl Try.ntmps57 rfl ?_
  intro a0 hA0
  unfold dom_Dom_out.vc at ht0
  refine wp_seq ?_
  refine wp_region_lit ?_
  refine sq (opk_new (fun B => .pointer (some ⟨B, 0, none⟩)) hA0 rfl (r_box (cs := [.int .i64 id_2]) (hA0.get rfl) rfl) fun a5 w4 B_3 hE6 hN7 hB8 hA5 _ => ?_)
  have hN9 : New w B_3 w4 := hN7
  have hC10 : Chg [] w w4 := hE6
  refine sq_end ?_
  have hA11 := hA5.keep [(0, .pointer (some d_1)), (3, .pointer (some (⟨B_3, 0, none⟩ : Addr)))] ⟨rfl, rfl, trivial⟩
  refine then_normal ?_
  refine wp_seq ?_
  refine wp_region_lit ?_
  refine sq (opk_val hA11 rfl (r_move (hA11.get rfl)) fun a12 hA12 _ => ?_)
  refine sq (opk_val hA12 rfl (r_move (hA12.get rfl)) fun a13 hA13 _ => ?_)
  refine sq (opk_val hA13 rfl (r_load1 Try.underlying3 rfl (hA13.get rfl) (hB8.cell 0 _ rfl)) fun a14 hA14 _ => ?_)
  have ht15 := ht0 w4 B_3 hN9  hC10
  refine sq (opk_call hA14 rfl (r_call (args := #[.pointer (some d_1), .int .i64 id_2]) Try.func33 (by decide) rfl (map_arr (ml_cons (hA14.get rfl) (ml_cons (hA14.get rfl) ml_nil))) rfl) ht15 fun a17 v23 w18 hA17 _ hn20 hz21 hK22 => ?_)
  obtain ⟨r_16, rfl, ht19⟩ := hK22
  have hB24 := hB8.kept hn20 (.head _)
  refine sq (opk_call hA17 rfl (r_call (args := #[.pointer (some d_1), .int .i64 r_16]) Try.func45 (by decide) rfl (map_arr (ml_cons (hA17.get rfl) (ml_cons (hA17.get rfl) ml_nil))) rfl) ht19 fun a26 v32 w27 hA26 _ hn29 hz30 hK31 => ?_)
  obtain ⟨r_25, rfl, ht28⟩ := hK31
  have hB33 := hB24.kept hn29 (.head _)
  refine sq (opk_val hA26 rfl (r_assign (hA26.get rfl)) fun a34 hA34 _ => ?_)
  refine sq_end ?_
  have hA35 := hA34.keep [(3, .pointer (some (⟨B_3, 0, none⟩ : Addr))), (4, .pointer r_25)] ⟨rfl, rfl, trivial⟩
  refine then_normal ?_
  refine wp_region_lit ?_
  refine sq (opk_val hA35 rfl (r_move (hA35.get rfl)) fun a36 hA36 _ => ?_)
  refine sq (opk_val hA36 rfl (r_move (hA36.get rfl)) fun a37 hA37 _ => ?_)
  obtain ⟨p_39, hp40, ht41⟩ := ht28
  refine sq (opk_val hA37 rfl (r_nilCheckP (((hA37.get rfl)).trans (congrArg Value.pointer hp40))) fun a38 hA38 _ => ?_)
  refine sq (opk_val hA38 rfl (r_fieldAddr (hA38.get rfl) Try.underlying76 rfl ti_36 (by decide)) fun a42 hA42 _ => ?_)
  obtain ⟨x_44, hx45, ht46⟩ := ht41
  refine sq (opk_val hA42 rfl (r_load1 Try.underlying36 rfl (hA42.get rfl) hx45) fun a43 hA43 _ => ?_)
  refine sq (opk_val hA43 rfl (r_makeFunc (f := #[]) (c := #[.pointer (some (⟨B_3, 0, none⟩ : Addr))]) (map_arr ml_nil) (map_arr (ml_cons (hA43.get rfl) ml_nil))) fun a47 hA47 _ => ?_)
  have ht48 := ht46 hB33
  refine sq (opk_call hA47 rfl (r_call (args := #[Sl.v x_44, .func (.func 82) #[] #[.pointer (some (⟨B_3, 0, none⟩ : Addr))]]) Try.func81 (by decide) rfl (map_arr (ml_cons (hA47.get rfl) (ml_cons (hA47.get rfl) ml_nil))) rfl) ht48 fun a50 v56 w51 hA50 _ hn53 hz54 hK55 => ?_)
  obtain ⟨r_49, rfl, ht52⟩ := hK55
  obtain ⟨p_58, hp59, ht60⟩ := ht52
  refine sq (opk_val hA50 rfl (r_nilCheckP (((hA50.get rfl)).trans (congrArg Value.pointer hp59))) fun a57 hA57 _ => ?_)
  refine sq (opk_val hA57 rfl (r_fieldAddr (hA57.get rfl) Try.underlying76 rfl ti_36 (by decide)) fun a61 hA61 _ => ?_)
  obtain ⟨B_66, o_67, T_68, cs_69, he70, hb71, hl72, hx73, ht74⟩ := ht60
  refine sq (opk_store hA61 hb71 (r_store (vs := [Sl.v r_49]) (((hA61.get rfl)).trans (congrArg (fun a => Value.pointer (some a)) he70)) (hA61.get rfl) rfl ti_36 hb71 (Nat.ble_eq_true_of_le hl72) (ones_all [Sl.v r_49] rfl)) fun a63 w62 hS64 hB65 hA63 => ?_)
  have ht75 := ht74 w62 hS64 hB65
  refine sq_end ?_
  have hA76 := hA63.keep [] trivial
  refine res_end ?_
  exact res_all (vs := []) rfl hA76 trivial ht75

end Go.Proofs.Ytghmgfkdnolcdaa
