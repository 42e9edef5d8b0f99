/-
  PRINTED BY PROGRAM: for each function its condition (vc), and that this suffices (ok).
-/
import Derived.Test.YtpacegmmbabhjaaGT
namespace Go.Proofs.Ytpacegmmbabhjaa
open Go.RowKit
set_option linter.unusedVariables false

/-- The condition of topiary/tree.attrs. -/
def tree_attrs.vc (l_1 : Sl) (R : Value → World → Prop) (w : World) : Prop :=
((12 < (l_1.n : Int)) →
R (.bool false) w) ∧
((¬ (12 < (l_1.n : Int))) →
∃ (J_21 : Str → Int → World → Prop) (mu_22 : Str → Int → World → Nat),
J_21 ([] : Str) 0 w ∧
(∀ (last_18 : Str) (x_19 : Int) (w20 : World), J_21 last_18 x_19 w20 →
((x_19 < (l_1.n : Int)) →
((0 : Int) ≤ x_19 ∧ x_19 < (l_1.n : Int)) ∧ ∃ p_101 : Addr, l_1.a = some p_101 ∧
∃ (x_107_Name : Str) (x_107_Value : Str), (Cells w20 (p_101.add (x_19.toNat * 2)) [.string (Bs x_107_Name), .string (Bs x_107_Value)]) ∧
∀ (w118 : World) (B_110 : Nat), New w20 B_110 w118 → Chg [] w20 w118 →
∃ (r_134 : Bool), (((((Op.bytesLess x_107_Name last_18) = false) ∧ (¬ (x_107_Name = last_18)))) → Calls Try.prog 19 #[.string (Bs x_107_Name)] w118 (Ret fun v w' => Ext w118 w' ∧ v = .bool r_134)) ∧
(∀ w136 : World, Ext w118 w136 →
((((((Op.bytesLess x_107_Name last_18) = true) ∨ (x_107_Name = last_18)) ∨ (r_134 = false)) ∨ (4096 < (x_107_Value.length : Int))) →
R (.bool false) w136) ∧
((((((Op.bytesLess x_107_Name last_18) = false) ∧ (¬ (x_107_Name = last_18))) ∧ (r_134 = true)) ∧ (¬ (4096 < (x_107_Value.length : Int)))) →
(I64 (x_19 + 1)) ∧
J_21 x_107_Name (x_19 + 1) w136 ∧ mu_22 x_107_Name (x_19 + 1) w136 < mu_22 last_18 x_19 w20))) ∧
((¬ (x_19 < (l_1.n : Int))) →
R (.bool true) w20)))
set_option maxHeartbeats 1000000 in
set_option maxRecDepth 10000 in
theorem tree_attrs.ok (l_1 : Sl) {R : Value → World → Prop} {w : World} (ht0 : tree_attrs.vc l_1 R w) : Calls Try.prog 51 #[Sl.v l_1] w (Ret R) := by
  refine enter [Sl.v l_1] Try.func51 rfl Try.ntmps51 rfl ?_
  intro a0 hA0
  unfold tree_attrs.vc at ht0
  refine wp_seq ?_
  refine wp_region_lit ?_
  refine sq (opk_val hA0 rfl (r_assign rfl) fun a2 hA2 _ => ?_)
  refine sq_end ?_
  have hA3 := hA2.keep [(0, Sl.v l_1)] ⟨rfl, trivial⟩
  refine then_normal ?_
  refine wp_seq ?_
  refine wp_seq ?_
  refine wp_region_lit ?_
  refine sq (opk_val hA3 rfl (r_move (hA3.get rfl)) fun a4 hA4 _ => ?_)
  refine sq (opk_val hA4 rfl (r_len (hA4.get rfl) Try.underlying23) fun a5 hA5 _ => ?_)
  refine sq (opk_val hA5 rfl (r_gtr (hA5.get rfl) rfl) fun a6 hA6 _ => ?_)
  refine sq_end ?_
  have hA7 := hA6.keep [(0, Sl.v l_1), (8, .bool (decide (12 < (l_1.n : Int))))] ⟨rfl, rfl, trivial⟩
  refine then_normal ?_
  refine wp_cond_split (hA7.get rfl) (fun hc => ?_) (fun hc => ?_)
  · have ht8 := ht0.1 (of_decide_eq_true hc)
    clear hc
    refine wp_seq ?_
    refine wp_region_lit ?_
    refine sq (opk_val hA7 rfl (r_assign rfl) fun a10 hA10 _ => ?_)
    refine sq_end ?_
    have hA11 := hA10.keep [(2, .bool false)] ⟨rfl, trivial⟩
    refine then_normal ?_
    refine wp_ret ?_
    refine then_ret ?_
    exact res_all (vs := [.bool false]) rfl hA11 ⟨res_of_tmp hA11 rfl, trivial⟩ ht8
  · have ht9 := ht0.2 (of_decide_eq_false hc)
    clear hc
    refine wp_skip ?_
    refine then_normal ?_
    refine wp_seq ?_
    refine wp_region_lit ?_
    refine sq (opk_val hA7 rfl (r_assign rfl) fun a12 hA12 _ => ?_)
    refine sq_end ?_
    have hA13 := hA12.keep [(0, Sl.v l_1), (3, .string (Bs ([] : Str)))] ⟨rfl, rfl, trivial⟩
    refine then_normal ?_
    refine wp_seq ?_
    refine wp_seq ?_
    refine wp_region_lit ?_
    refine sq (opk_val hA13 rfl (r_move (hA13.get rfl)) fun a14 hA14 _ => ?_)
    refine sq (opk_val hA14 rfl (r_len (hA14.get rfl) Try.underlying23) fun a15 hA15 _ => ?_)
    refine sq (opk_val hA15 rfl (r_move rfl) fun a16 hA16 _ => ?_)
    refine sq_end ?_
    have hA17 := hA16.keep [(3, .string (Bs ([] : Str))), (9, Sl.v l_1), (10, .int .i64 (l_1.n : Int)), (11, .int .i64 0)] ⟨rfl, rfl, rfl, rfl, trivial⟩
    refine then_normal ?_
    refine wp_block ?_
    obtain ⟨J_21, mu_22, h094, ht93⟩ := ht9
    refine wp_loop_st (σ := Str × Int × World) (fun s a w => Ag 34 a [(3, .string (Bs s.1)), (9, Sl.v l_1), (10, .int .i64 (l_1.n : Int)), (11, .int .i64 s.2.1)] ∧ w = s.2.2 ∧ J_21 s.1 s.2.1 s.2.2) (fun s => mu_22 s.1 s.2.1 s.2.2) (([] : Str), 0, w) ⟨hA17.keep [(3, .string (Bs ([] : Str))), (9, Sl.v l_1), (10, .int .i64 (l_1.n : Int)), (11, .int .i64 0)] ⟨rfl, rfl, rfl, rfl, trivial⟩, rfl, h094⟩ ?_
    rintro ⟨last_18, x_19, w20⟩ a92 w_ ⟨hA92, hw_, hJ96⟩
    have hw_ : w20 = w_ := hw_.symm
    subst hw_
    have ht95 := ht93 last_18 x_19 _ hJ96
    refine wp_seq ?_
    refine wp_region_lit ?_
    refine sq (opk_val hA92 rfl (r_lss (hA92.get rfl) (hA92.get rfl)) fun a97 hA97 _ => ?_)
    refine sq_end ?_
    have hA98 := hA97.keep [(3, .string (Bs last_18)), (9, Sl.v l_1), (10, .int .i64 (l_1.n : Int)), (11, .int .i64 x_19), (12, .bool (decide (x_19 < (l_1.n : Int))))] ⟨rfl, rfl, rfl, rfl, rfl, trivial⟩
    refine then_normal ?_
    refine wp_seq ?_
    refine wp_cond_split (hA98.get rfl) (fun hc => ?_) (fun hc => ?_)
    · have ht99 := ht95.1 (of_decide_eq_true hc)
      clear hc
      refine wp_skip ?_
      refine then_normal ?_
      refine wp_seq ?_
      refine wp_block ?_
      refine wp_seq ?_
      refine wp_region_lit ?_
      obtain ⟨hb102, p_101, hp103, ht104⟩ := ht99
      refine sq (opk_val hA98 rfl (r_indexAddr (hA98.get rfl) (hA98.get rfl) Try.underlying23 ti_33 hb102 hp103) fun a105 hA105 _ => ?_)
      obtain ⟨x_107_Name, x_107_Value, hx108, ht109⟩ := ht104
      refine sq (opk_val hA105 rfl (r_loadN Try.underlying33 rfl ti_33 (hA105.get rfl) hx108) fun a106 hA106 _ => ?_)
      refine sq (opk_new (fun B => .pointer (some ⟨B, 0, none⟩)) hA106 rfl (r_alloc (cs := [.string (Bs ([] : Str)), .string (Bs ([] : Str))]) ti_33 rfl) fun a112 w111 B_110 hE113 hN114 hB115 hA112 _ => ?_)
      have hN116 : New w20 B_110 w111 := hN114
      have hC117 : Chg [] w20 w111 := hE113
      refine sq (opk_store hA112 hB115 (r_store (vs := [.string (Bs x_107_Name), .string (Bs x_107_Value)]) (hA112.get rfl) (hA112.get rfl) rfl ti_33 hB115 rfl (ones_all [.string (Bs x_107_Name), .string (Bs x_107_Value)] rfl)) fun a119 w118 hS120 hB121 hA119 => ?_)
      have hB122 : Box w118 B_110 33 [.string (Bs x_107_Name), .string (Bs x_107_Value)] := hB121
      have hC123 := hC117.storeNew hN116 hS120
      have hN124 := hN116.up hS120.size
      refine sq_end ?_
      have hA125 := hA119.keep [(3, .string (Bs last_18)), (5, .pointer (some (⟨B_110, 0, none⟩ : Addr))), (9, Sl.v l_1), (10, .int .i64 (l_1.n : Int)), (11, .int .i64 x_19)] ⟨rfl, rfl, rfl, rfl, rfl, trivial⟩
      refine then_normal ?_
      refine wp_seq ?_
      refine wp_seq ?_
      refine wp_region_lit ?_
      refine sq (opk_val hA125 rfl (r_fieldAddr (hA125.get rfl) Try.underlying33 rfl ti_9 (by decide)) fun a126 hA126 _ => ?_)
      refine sq (opk_val hA126 rfl (r_load1 Try.underlying9 rfl (hA126.get rfl) (hB122.cell 0 _ rfl)) fun a127 hA127 _ => ?_)
      refine sq (opk_val hA127 rfl (r_move (hA127.get rfl)) fun a128 hA128 _ => ?_)
      refine sq (opk_val hA128 rfl (r_sleq (hA128.get rfl) (hA128.get rfl)) fun a129 hA129 _ => ?_)
      refine sq (opk_val hA129 rfl (r_move (hA129.get rfl)) fun a130 hA130 _ => ?_)
      refine sq (opk_gval hA130 rfl rfl (g := true) (e := ((Op.bytesLess x_107_Name last_18) || (decide (x_107_Name = last_18)))) rfl (fun hg => r_fieldAddr (hA130.get rfl) Try.underlying33 rfl ti_9 (by decide)) fun a131 hA131 _ => ?_)
      refine sq (opk_gval hA131 rfl rfl (g := true) (e := ((Op.bytesLess x_107_Name last_18) || (decide (x_107_Name = last_18)))) rfl (fun hg => r_load1 Try.underlying9 rfl (cv_get (hA131.get rfl) hg) (hB122.cell 0 _ rfl)) fun a132 hA132 _ => ?_)
      have ht133 := ht109 w118 B_110 hN124  hC123
      obtain ⟨r_134, hc138, ht137⟩ := ht133
      refine sq (opk_gcall hA132 rfl rfl (g := true) (e := ((Op.bytesLess x_107_Name last_18) || (decide (x_107_Name = last_18)))) rfl (fun hg => r_call (args := #[.string (Bs x_107_Name)]) Try.func19 (by decide) rfl (map_arr (ml_cons (cv_get (hA132.get rfl) hg) ml_nil)) rfl) (fun hg => hc138 ⟨(b_or_f (g_f hg)).1, (of_decide_eq_false (b_or_f (g_f hg)).2)⟩) fun a135 w136 hA135 _ hE139 => ?_)
      have hB140 := hB122.ext hE139
      have hC141 : Chg [] w118 w136 := hE139
      have ht142 := ht137 w136 hE139
      refine sq (opk_gval hA135 rfl rfl (g := true) (e := ((Op.bytesLess x_107_Name last_18) || (decide (x_107_Name = last_18)))) rfl (fun hg => r_not (cv_get (hA135.get rfl) hg)) fun a143 hA143 _ => ?_)
      refine sq (opk_val hA143 rfl (r_pick_or (g := (true && (((Op.bytesLess x_107_Name last_18) || (decide (x_107_Name = last_18))) == false))) (hA143.get rfl) (hA143.get rfl) (fun he => g_mkf rfl he)) fun a144 hA144 _ => ?_)
      refine sq (opk_val hA144 rfl (r_move (hA144.get rfl)) fun a145 hA145 _ => ?_)
      refine sq (opk_gval hA145 rfl rfl (g := true) (e := (((Op.bytesLess x_107_Name last_18) || (decide (x_107_Name = last_18))) || (!r_134))) rfl (fun hg => r_fieldAddr (hA145.get rfl) Try.underlying33 rfl ti_9 (by decide)) fun a146 hA146 _ => ?_)
      refine sq (opk_gval hA146 rfl rfl (g := true) (e := (((Op.bytesLess x_107_Name last_18) || (decide (x_107_Name = last_18))) || (!r_134))) rfl (fun hg => r_load1 Try.underlying9 rfl (cv_get (hA146.get rfl) hg) (hB140.cell 1 _ rfl)) fun a147 hA147 _ => ?_)
      refine sq (opk_gval hA147 rfl rfl (g := true) (e := (((Op.bytesLess x_107_Name last_18) || (decide (x_107_Name = last_18))) || (!r_134))) rfl (fun hg => r_slen (cv_get (hA147.get rfl) hg) Try.underlying9) fun a148 hA148 _ => ?_)
      refine sq (opk_gval hA148 rfl rfl (g := true) (e := (((Op.bytesLess x_107_Name last_18) || (decide (x_107_Name = last_18))) || (!r_134))) rfl (fun hg => r_gtr (cv_get (hA148.get rfl) hg) rfl) fun a149 hA149 _ => ?_)
      refine sq (opk_val hA149 rfl (r_pick_or (g := (true && ((((Op.bytesLess x_107_Name last_18) || (decide (x_107_Name = last_18))) || (!r_134)) == false))) (hA149.get rfl) (hA149.get rfl) (fun he => g_mkf rfl he)) fun a150 hA150 _ => ?_)
      refine sq_end ?_
      have hA151 := hA150.keep [(5, .pointer (some (⟨B_110, 0, none⟩ : Addr))), (9, Sl.v l_1), (10, .int .i64 (l_1.n : Int)), (11, .int .i64 x_19), (30, .bool ((((Op.bytesLess x_107_Name last_18) || (decide (x_107_Name = last_18))) || (!r_134)) || (decide (4096 < (x_107_Value.length : Int)))))] ⟨rfl, rfl, rfl, rfl, rfl, trivial⟩
      refine then_normal ?_
      refine wp_cond_split (hA151.get rfl) (fun hc => ?_) (fun hc => ?_)
      · have ht152 := ht142.1 ((b_or_t hc).imp (fun h => ((b_or_t h).imp (fun h => ((b_or_t h).imp (fun h => h) (fun h => (of_decide_eq_true h)))) (fun h => (b_not_t h)))) (fun h => (of_decide_eq_true h)))
        clear hc
        refine wp_seq ?_
        refine wp_region_lit ?_
        refine sq (opk_val hA151 rfl (r_assign rfl) fun a154 hA154 _ => ?_)
        refine sq_end ?_
        have hA155 := hA154.keep [(2, .bool false)] ⟨rfl, trivial⟩
        refine then_normal ?_
        refine wp_ret ?_
        refine then_ret ?_
        refine block_ret ?_
        refine then_ret ?_
        refine then_ret ?_
        refine block_ret ?_
        refine then_ret ?_
        exact res_all (vs := [.bool false]) rfl hA155 ⟨res_of_tmp hA155 rfl, trivial⟩ ht152
      · have ht153 := ht142.2 ⟨⟨⟨(b_or_f (b_or_f (b_or_f hc).1).1).1, (of_decide_eq_false (b_or_f (b_or_f (b_or_f hc).1).1).2)⟩, (b_not_f (b_or_f (b_or_f hc).1).2)⟩, (of_decide_eq_false (b_or_f hc).2)⟩
        clear hc
        refine wp_skip ?_
        refine then_normal ?_
        refine wp_region_lit ?_
        refine sq (opk_val hA151 rfl (r_fieldAddr (hA151.get rfl) Try.underlying33 rfl ti_9 (by decide)) fun a156 hA156 _ => ?_)
        refine sq (opk_val hA156 rfl (r_load1 Try.underlying9 rfl (hA156.get rfl) (hB140.cell 0 _ rfl)) fun a157 hA157 _ => ?_)
        refine sq (opk_val hA157 rfl (r_assign (hA157.get rfl)) fun a158 hA158 _ => ?_)
        refine sq_end ?_
        have hA159 := hA158.keep [(3, .string (Bs x_107_Name)), (9, Sl.v l_1), (10, .int .i64 (l_1.n : Int)), (11, .int .i64 x_19)] ⟨rfl, rfl, rfl, rfl, trivial⟩
        refine block_normal ?_
        refine then_normal ?_
        refine wp_region_lit ?_
        obtain ⟨hS161, ht162⟩ := ht153
        refine sq (opk_val hA159 rfl (r_addI (hA159.get rfl) rfl hS161) fun a160 hA160 _ => ?_)
        refine sq (opk_val hA160 rfl (r_move (hA160.get rfl)) fun a163 hA163 _ => ?_)
        refine sq_end ?_
        have hA164 := hA163.keep [(3, .string (Bs x_107_Name)), (9, Sl.v l_1), (10, .int .i64 (l_1.n : Int)), (11, .int .i64 (x_19 + 1))] ⟨rfl, rfl, rfl, rfl, trivial⟩
        have hA165 := hA164.keep [(3, .string (Bs x_107_Name)), (9, Sl.v l_1), (10, .int .i64 (l_1.n : Int)), (11, .int .i64 (x_19 + 1))] ⟨rfl, rfl, rfl, rfl, trivial⟩
        exact then_normal ⟨(x_107_Name, x_19 + 1, w136), ⟨hA165, rfl, ht162.1⟩, ht162.2⟩
    · have ht100 := ht95.2 (of_decide_eq_false hc)
      clear hc
      refine wp_exit ?_
      refine then_exit ?_
      refine then_exit ?_
      refine block_hit ?_
      have hA166 := hA98.keep [] trivial
      refine then_normal ?_
      refine wp_seq ?_
      refine wp_region_lit ?_
      refine sq (opk_val hA166 rfl (r_assign rfl) fun a167 hA167 _ => ?_)
      refine sq_end ?_
      have hA168 := hA167.keep [(2, .bool true)] ⟨rfl, trivial⟩
      refine then_normal ?_
      refine wp_ret ?_
      exact res_all (vs := [.bool true]) rfl hA168 ⟨res_of_tmp hA168 rfl, trivial⟩ ht100

end Go.Proofs.Ytpacegmmbabhjaa
