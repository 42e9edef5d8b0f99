/-
  PRINTED BY PROGRAM: for each function its condition (vc), and that this suffices (ok).
-/
import Derived.Test.YtnmpenfpajfoaaaDoorGT
namespace Go.Proofs.YtnmpenfpajfoaaaDoor
open Go.RowKit
set_option linter.unusedVariables false

/-- The condition of topiary/topiarylaw12.few. -/
def law12_few.vc (l_1 : Sl) (R : Value → World → Prop) (w : World) : Prop :=
∃ (J_8 : Int → World → Prop) (mu_9 : Int → World → Nat),
J_8 0 w ∧
(∀ (i_6 : Int) (w7 : World), J_8 i_6 w7 →
(((i_6 < (l_1.n : Int)) ∧ (i_6 < 50)) →
((0 : Int) ≤ i_6 ∧ i_6 < (l_1.n : Int)) ∧ ∃ p_64 : Addr, l_1.a = some p_64 ∧
∃ (x_70 : Str), (w7.cell? (p_64.add (i_6.toNat * 1)) = some (.string (Bs x_70))) ∧
((100 < (x_70.length : Int)) →
R (.bool false) w7) ∧
((¬ (100 < (x_70.length : Int))) →
(I64 (i_6 + 1)) ∧
J_8 (i_6 + 1) w7 ∧ mu_9 (i_6 + 1) w7 < mu_9 i_6 w7)) ∧
(((¬ (i_6 < (l_1.n : Int))) ∨ (¬ (i_6 < 50))) →
R (.bool (decide ((l_1.n : Int) ≤ 50))) w7))
set_option maxHeartbeats 1000000 in
set_option maxRecDepth 10000 in
theorem law12_few.ok (l_1 : Sl) {R : Value → World → Prop} {w : World} (ht0 : law12_few.vc l_1 R w) : Calls Tryd.prog 12 #[Sl.v l_1] w (Ret R) := by
  refine enter [Sl.v l_1] Tryd.func12 rfl Tryd.ntmps12 rfl ?_
  intro a0 hA0
  unfold law12_few.vc at ht0
  refine wp_seq ?_
  refine wp_region_lit ?_
  refine sq (opk_val hA0 rfl (r_assign rfl) fun a2 hA2 _ => ?_)
  refine sq_end ?_
  have hA3 := hA2.keep [(0, Sl.v l_1)] ⟨rfl, trivial⟩
  refine then_normal ?_
  refine wp_seq ?_
  refine wp_seq ?_
  refine wp_region_lit ?_
  refine sq (opk_val hA3 rfl (r_assign rfl) fun a4 hA4 _ => ?_)
  refine sq_end ?_
  have hA5 := hA4.keep [(0, Sl.v l_1), (3, .int .i64 0)] ⟨rfl, rfl, trivial⟩
  refine then_normal ?_
  refine wp_block ?_
  obtain ⟨J_8, mu_9, h048, ht47⟩ := ht0
  refine wp_loop_st (σ := Int × World) (fun s a w => Ag 23 a [(0, Sl.v l_1), (3, .int .i64 s.1)] ∧ w = s.2 ∧ J_8 s.1 s.2) (fun s => mu_9 s.1 s.2) (0, w) ⟨hA5.keep [(0, Sl.v l_1), (3, .int .i64 0)] ⟨rfl, rfl, trivial⟩, rfl, h048⟩ ?_
  rintro ⟨i_6, w7⟩ a46 w_ ⟨hA46, hw_, hJ50⟩
  have hw_ : w7 = w_ := hw_.symm
  subst hw_
  have ht49 := ht47 i_6 _ hJ50
  refine wp_seq ?_
  refine wp_seq ?_
  refine wp_region_lit ?_
  refine sq (opk_val hA46 rfl (r_move (hA46.get rfl)) fun a51 hA51 _ => ?_)
  refine sq (opk_val hA51 rfl (r_move (hA51.get rfl)) fun a52 hA52 _ => ?_)
  refine sq (opk_val hA52 rfl (r_len (hA52.get rfl) Tryd.underlying22) fun a53 hA53 _ => ?_)
  refine sq (opk_val hA53 rfl (r_lss (hA53.get rfl) (hA53.get rfl)) fun a54 hA54 _ => ?_)
  refine sq (opk_val hA54 rfl (r_move (hA54.get rfl)) fun a55 hA55 _ => ?_)
  refine sq (opk_gval hA55 rfl rfl (g := true) (e := (decide (i_6 < (l_1.n : Int)))) rfl (fun hg => r_move (hA55.get rfl)) fun a56 hA56 _ => ?_)
  refine sq (opk_gval hA56 rfl rfl (g := true) (e := (decide (i_6 < (l_1.n : Int)))) rfl (fun hg => r_lss (cv_get (hA56.get rfl) hg) rfl) fun a57 hA57 _ => ?_)
  refine sq (opk_val hA57 rfl (r_pick_and (g := (true && ((decide (i_6 < (l_1.n : Int))) == true))) (hA57.get rfl) (hA57.get rfl) (fun he => g_mkt rfl he)) fun a58 hA58 _ => ?_)
  refine sq_end ?_
  have hA59 := hA58.keep [(0, Sl.v l_1), (3, .int .i64 i_6), (11, .bool ((decide (i_6 < (l_1.n : Int))) && (decide (i_6 < 50))))] ⟨rfl, rfl, rfl, trivial⟩
  refine then_normal ?_
  refine wp_cond_split (hA59.get rfl) (fun hc => ?_) (fun hc => ?_)
  · have ht60 := ht49.1 ⟨(of_decide_eq_true (b_and_t hc).1), (of_decide_eq_true (b_and_t hc).2)⟩
    clear hc
    refine wp_skip ?_
    refine then_normal ?_
    refine wp_seq ?_
    refine wp_block ?_
    refine wp_seq ?_
    refine wp_region_lit ?_
    refine sq (opk_val hA59 rfl (r_move (hA59.get rfl)) fun a62 hA62 _ => ?_)
    refine sq (opk_val hA62 rfl (r_move (hA62.get rfl)) fun a63 hA63 _ => ?_)
    obtain ⟨hb65, p_64, hp66, ht67⟩ := ht60
    refine sq (opk_val hA63 rfl (r_indexAddr (hA63.get rfl) (hA63.get rfl) Tryd.underlying22 ti_9 hb65 hp66) fun a68 hA68 _ => ?_)
    obtain ⟨x_70, hx71, ht72⟩ := ht67
    refine sq (opk_val hA68 rfl (r_load1 Tryd.underlying9 rfl (hA68.get rfl) hx71) fun a69 hA69 _ => ?_)
    refine sq (opk_val hA69 rfl (r_slen (hA69.get rfl) Tryd.underlying9) fun a73 hA73 _ => ?_)
    refine sq (opk_val hA73 rfl (r_gtr (hA73.get rfl) rfl) fun a74 hA74 _ => ?_)
    refine sq_end ?_
    have hA75 := hA74.keep [(0, Sl.v l_1), (3, .int .i64 i_6), (19, .bool (decide (100 < (x_70.length : Int))))] ⟨rfl, rfl, rfl, trivial⟩
    refine then_normal ?_
    refine wp_cond_split (hA75.get rfl) (fun hc => ?_) (fun hc => ?_)
    · have ht76 := ht72.1 (of_decide_eq_true hc)
      clear hc
      refine wp_seq ?_
      refine wp_region_lit ?_
      refine sq (opk_val hA75 rfl (r_assign rfl) fun a78 hA78 _ => ?_)
      refine sq_end ?_
      have hA79 := hA78.keep [(2, .bool false)] ⟨rfl, trivial⟩
      refine then_normal ?_
      refine wp_ret ?_
      refine block_ret ?_
      refine then_ret ?_
      refine then_ret ?_
      refine block_ret ?_
      refine then_ret ?_
      exact res_all (vs := [.bool false]) rfl hA79 ⟨res_of_tmp hA79 rfl, trivial⟩ ht76
    · have ht77 := ht72.2 (of_decide_eq_false hc)
      clear hc
      refine wp_skip ?_
      refine block_normal ?_
      refine then_normal ?_
      refine wp_region_lit ?_
      refine sq (opk_val hA75 rfl (r_move (hA75.get rfl)) fun a80 hA80 _ => ?_)
      obtain ⟨hS82, ht83⟩ := ht77
      refine sq (opk_val hA80 rfl (r_addI (hA80.get rfl) rfl hS82) fun a81 hA81 _ => ?_)
      refine sq (opk_val hA81 rfl (r_assign (hA81.get rfl)) fun a84 hA84 _ => ?_)
      refine sq_end ?_
      have hA85 := hA84.keep [(0, Sl.v l_1), (3, .int .i64 (i_6 + 1))] ⟨rfl, rfl, trivial⟩
      have hA86 := hA85.keep [(0, Sl.v l_1), (3, .int .i64 (i_6 + 1))] ⟨rfl, rfl, trivial⟩
      exact then_normal ⟨(i_6 + 1, w7), ⟨hA86, rfl, ht83.1⟩, ht83.2⟩
  · have ht61 := ht49.2 ((b_and_f hc).imp (fun h => (of_decide_eq_false h)) (fun h => (of_decide_eq_false h)))
    clear hc
    refine wp_exit ?_
    refine then_exit ?_
    refine then_exit ?_
    refine block_hit ?_
    have hA87 := hA59.keep [(0, Sl.v l_1)] ⟨rfl, trivial⟩
    refine then_normal ?_
    refine wp_seq ?_
    refine wp_region_lit ?_
    refine sq (opk_val hA87 rfl (r_move (hA87.get rfl)) fun a88 hA88 _ => ?_)
    refine sq (opk_val hA88 rfl (r_len (hA88.get rfl) Tryd.underlying22) fun a89 hA89 _ => ?_)
    refine sq (opk_val hA89 rfl (r_leq (hA89.get rfl) rfl) fun a90 hA90 _ => ?_)
    refine sq (opk_val hA90 rfl (r_assign (hA90.get rfl)) fun a91 hA91 _ => ?_)
    refine sq_end ?_
    have hA92 := hA91.keep [(2, .bool (decide ((l_1.n : Int) ≤ 50)))] ⟨rfl, trivial⟩
    refine then_normal ?_
    refine wp_ret ?_
    exact res_all (vs := [.bool (decide ((l_1.n : Int) ≤ 50))]) rfl hA92 ⟨res_of_tmp hA92 rfl, trivial⟩ ht61

end Go.Proofs.YtnmpenfpajfoaaaDoor
