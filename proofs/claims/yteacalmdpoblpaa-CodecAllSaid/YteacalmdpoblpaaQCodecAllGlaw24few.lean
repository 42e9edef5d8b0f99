/-
  PRINTED BY PROGRAM: for each function its condition (vc), and that this suffices (ok).
-/
import Derived.Test.YteacalmdpoblpaaQCodecAllGT
namespace Go.Proofs.Yteacalmdpoblpaa
open Go.RowKit
set_option linter.unusedVariables false

/-- The condition of topiary/topiarylaw24.few. -/
def law24_few.vc (l_1 : Sl) (R : Value → World → Prop) (w : World) : Prop :=
∃ (J_8 : Int → World → Prop) (mu_9 : Int → World → Nat),
J_8 0 w ∧
(∀ (i_6 : Int) (w7 : World), J_8 i_6 w7 →
(((i_6 < (l_1.n : Int)) ∧ (i_6 < 100)) →
((0 : Int) ≤ i_6 ∧ i_6 < (l_1.n : Int)) ∧ ∃ p_81 : Addr, l_1.a = some p_81 ∧
∃ (x_88 : Str), (w7.cell? ((p_81.add (i_6.toNat * 7)).add 5) = some (.string (Bs x_88))) ∧
∃ p_96 : Addr, (((¬ (200 < (x_88.length : Int)))) → ((0 : Int) ≤ i_6 ∧ i_6 < (l_1.n : Int)) ∧  l_1.a = some p_96) ∧
∃ (x_103 : Str), (((¬ (200 < (x_88.length : Int)))) → w7.cell? ((p_96.add (i_6.toNat * 7)).add 6) = some (.string (Bs x_103))) ∧
(((200 < (x_88.length : Int)) ∨ (6000 < (x_103.length : Int))) →
R (.bool false) w7) ∧
(((¬ (200 < (x_88.length : Int))) ∧ (¬ (6000 < (x_103.length : Int)))) →
(I64 (i_6 + 1)) ∧
J_8 (i_6 + 1) w7 ∧ mu_9 (i_6 + 1) w7 < mu_9 i_6 w7)) ∧
(((¬ (i_6 < (l_1.n : Int))) ∨ (¬ (i_6 < 100))) →
R (.bool (decide ((l_1.n : Int) ≤ 100))) w7))
set_option maxHeartbeats 1000000 in
set_option maxRecDepth 10000 in
theorem law24_few.ok (l_1 : Sl) {R : Value → World → Prop} {w : World} (ht0 : law24_few.vc l_1 R w) : Calls Try.prog 8 #[Sl.v l_1] w (Ret R) := by
  refine enter [Sl.v l_1] Try.func8 rfl Try.ntmps8 rfl ?_
  intro a0 hA0
  unfold law24_few.vc at ht0
  refine wp_seq ?_
  refine wp_region_lit ?_
  refine sq (opk_val hA0 rfl (r_assign rfl) fun a2 hA2 _ => ?_)
  refine sq_end ?_
  have hA3 := hA2.keep [(0, Sl.v l_1)] ⟨rfl, trivial⟩
  refine then_normal ?_
  refine wp_seq ?_
  refine wp_seq ?_
  refine wp_region_lit ?_
  refine sq (opk_val hA3 rfl (r_assign rfl) fun a4 hA4 _ => ?_)
  refine sq_end ?_
  have hA5 := hA4.keep [(0, Sl.v l_1), (3, .int .i64 0)] ⟨rfl, rfl, trivial⟩
  refine then_normal ?_
  refine wp_block ?_
  obtain ⟨J_8, mu_9, h065, ht64⟩ := ht0
  refine wp_loop_st (σ := Int × World) (fun s a w => Ag 33 a [(0, Sl.v l_1), (3, .int .i64 s.1)] ∧ w = s.2 ∧ J_8 s.1 s.2) (fun s => mu_9 s.1 s.2) (0, w) ⟨hA5.keep [(0, Sl.v l_1), (3, .int .i64 0)] ⟨rfl, rfl, trivial⟩, rfl, h065⟩ ?_
  rintro ⟨i_6, w7⟩ a63 w_ ⟨hA63, hw_, hJ67⟩
  have hw_ : w7 = w_ := hw_.symm
  subst hw_
  have ht66 := ht64 i_6 _ hJ67
  refine wp_seq ?_
  refine wp_seq ?_
  refine wp_region_lit ?_
  refine sq (opk_val hA63 rfl (r_move (hA63.get rfl)) fun a68 hA68 _ => ?_)
  refine sq (opk_val hA68 rfl (r_move (hA68.get rfl)) fun a69 hA69 _ => ?_)
  refine sq (opk_val hA69 rfl (r_len (hA69.get rfl) Try.underlying23) fun a70 hA70 _ => ?_)
  refine sq (opk_val hA70 rfl (r_lss (hA70.get rfl) (hA70.get rfl)) fun a71 hA71 _ => ?_)
  refine sq (opk_val hA71 rfl (r_move (hA71.get rfl)) fun a72 hA72 _ => ?_)
  refine sq (opk_gval hA72 rfl rfl (g := true) (e := (decide (i_6 < (l_1.n : Int)))) rfl (fun hg => r_move (hA72.get rfl)) fun a73 hA73 _ => ?_)
  refine sq (opk_gval hA73 rfl rfl (g := true) (e := (decide (i_6 < (l_1.n : Int)))) rfl (fun hg => r_lss (cv_get (hA73.get rfl) hg) rfl) fun a74 hA74 _ => ?_)
  refine sq (opk_val hA74 rfl (r_pick_and (g := (true && ((decide (i_6 < (l_1.n : Int))) == true))) (hA74.get rfl) (hA74.get rfl) (fun he => g_mkt rfl he)) fun a75 hA75 _ => ?_)
  refine sq_end ?_
  have hA76 := hA75.keep [(0, Sl.v l_1), (3, .int .i64 i_6), (11, .bool ((decide (i_6 < (l_1.n : Int))) && (decide (i_6 < 100))))] ⟨rfl, rfl, rfl, trivial⟩
  refine then_normal ?_
  refine wp_cond_split (hA76.get rfl) (fun hc => ?_) (fun hc => ?_)
  · have ht77 := ht66.1 ⟨(of_decide_eq_true (b_and_t hc).1), (of_decide_eq_true (b_and_t hc).2)⟩
    clear hc
    refine wp_skip ?_
    refine then_normal ?_
    refine wp_seq ?_
    refine wp_block ?_
    refine wp_seq ?_
    refine wp_region_lit ?_
    refine sq (opk_val hA76 rfl (r_move (hA76.get rfl)) fun a79 hA79 _ => ?_)
    refine sq (opk_val hA79 rfl (r_move (hA79.get rfl)) fun a80 hA80 _ => ?_)
    obtain ⟨hb82, p_81, hp83, ht84⟩ := ht77
    refine sq (opk_val hA80 rfl (r_indexAddr (hA80.get rfl) (hA80.get rfl) Try.underlying23 ti_42 hb82 hp83) fun a85 hA85 _ => ?_)
    refine sq (opk_val hA85 rfl (r_fieldAddr (hA85.get rfl) Try.underlying42 rfl ti_9 (by decide)) fun a86 hA86 _ => ?_)
    obtain ⟨x_88, hx89, ht90⟩ := ht84
    refine sq (opk_val hA86 rfl (r_load1 Try.underlying9 rfl (hA86.get rfl) hx89) fun a87 hA87 _ => ?_)
    refine sq (opk_val hA87 rfl (r_slen (hA87.get rfl) Try.underlying9) fun a91 hA91 _ => ?_)
    refine sq (opk_val hA91 rfl (r_gtr (hA91.get rfl) rfl) fun a92 hA92 _ => ?_)
    refine sq (opk_val hA92 rfl (r_move (hA92.get rfl)) fun a93 hA93 _ => ?_)
    refine sq (opk_gval hA93 rfl rfl (g := true) (e := (decide (200 < (x_88.length : Int)))) rfl (fun hg => r_move (hA93.get rfl)) fun a94 hA94 _ => ?_)
    refine sq (opk_gval hA94 rfl rfl (g := true) (e := (decide (200 < (x_88.length : Int)))) rfl (fun hg => r_move (hA94.get rfl)) fun a95 hA95 _ => ?_)
    obtain ⟨p_96, hp98, ht99⟩ := ht90
    refine sq (opk_gval hA95 rfl rfl (g := true) (e := (decide (200 < (x_88.length : Int)))) rfl (fun hg => r_indexAddr (cv_get (hA95.get rfl) hg) (cv_get (hA95.get rfl) hg) Try.underlying23 ti_42 (hp98 (of_decide_eq_false (g_f hg))).1 (hp98 (of_decide_eq_false (g_f hg))).2) fun a100 hA100 _ => ?_)
    refine sq (opk_gval hA100 rfl rfl (g := true) (e := (decide (200 < (x_88.length : Int)))) rfl (fun hg => r_fieldAddr (cv_get (hA100.get rfl) hg) Try.underlying42 rfl ti_9 (by decide)) fun a101 hA101 _ => ?_)
    obtain ⟨x_103, hx104, ht105⟩ := ht99
    refine sq (opk_gval hA101 rfl rfl (g := true) (e := (decide (200 < (x_88.length : Int)))) rfl (fun hg => r_load1 Try.underlying9 rfl (cv_get (hA101.get rfl) hg) (hx104 (of_decide_eq_false (g_f hg)))) fun a102 hA102 _ => ?_)
    refine sq (opk_gval hA102 rfl rfl (g := true) (e := (decide (200 < (x_88.length : Int)))) rfl (fun hg => r_slen (cv_get (hA102.get rfl) hg) Try.underlying9) fun a106 hA106 _ => ?_)
    refine sq (opk_gval hA106 rfl rfl (g := true) (e := (decide (200 < (x_88.length : Int)))) rfl (fun hg => r_gtr (cv_get (hA106.get rfl) hg) rfl) fun a107 hA107 _ => ?_)
    refine sq (opk_val hA107 rfl (r_pick_or (g := (true && ((decide (200 < (x_88.length : Int))) == false))) (hA107.get rfl) (hA107.get rfl) (fun he => g_mkf rfl he)) fun a108 hA108 _ => ?_)
    refine sq_end ?_
    have hA109 := hA108.keep [(0, Sl.v l_1), (3, .int .i64 i_6), (29, .bool ((decide (200 < (x_88.length : Int))) || (decide (6000 < (x_103.length : Int)))))] ⟨rfl, rfl, rfl, trivial⟩
    refine then_normal ?_
    refine wp_cond_split (hA109.get rfl) (fun hc => ?_) (fun hc => ?_)
    · have ht110 := ht105.1 ((b_or_t hc).imp (fun h => (of_decide_eq_true h)) (fun h => (of_decide_eq_true h)))
      clear hc
      refine wp_seq ?_
      refine wp_region_lit ?_
      refine sq (opk_val hA109 rfl (r_assign rfl) fun a112 hA112 _ => ?_)
      refine sq_end ?_
      have hA113 := hA112.keep [(2, .bool false)] ⟨rfl, trivial⟩
      refine then_normal ?_
      refine wp_ret ?_
      refine block_ret ?_
      refine then_ret ?_
      refine then_ret ?_
      refine block_ret ?_
      refine then_ret ?_
      exact res_all (vs := [.bool false]) rfl hA113 ⟨res_of_tmp hA113 rfl, trivial⟩ ht110
    · have ht111 := ht105.2 ⟨(of_decide_eq_false (b_or_f hc).1), (of_decide_eq_false (b_or_f hc).2)⟩
      clear hc
      refine wp_skip ?_
      refine block_normal ?_
      refine then_normal ?_
      refine wp_region_lit ?_
      refine sq (opk_val hA109 rfl (r_move (hA109.get rfl)) fun a114 hA114 _ => ?_)
      obtain ⟨hS116, ht117⟩ := ht111
      refine sq (opk_val hA114 rfl (r_addI (hA114.get rfl) rfl hS116) fun a115 hA115 _ => ?_)
      refine sq (opk_val hA115 rfl (r_assign (hA115.get rfl)) fun a118 hA118 _ => ?_)
      refine sq_end ?_
      have hA119 := hA118.keep [(0, Sl.v l_1), (3, .int .i64 (i_6 + 1))] ⟨rfl, rfl, trivial⟩
      have hA120 := hA119.keep [(0, Sl.v l_1), (3, .int .i64 (i_6 + 1))] ⟨rfl, rfl, trivial⟩
      exact then_normal ⟨(i_6 + 1, w7), ⟨hA120, rfl, ht117.1⟩, ht117.2⟩
  · have ht78 := ht66.2 ((b_and_f hc).imp (fun h => (of_decide_eq_false h)) (fun h => (of_decide_eq_false h)))
    clear hc
    refine wp_exit ?_
    refine then_exit ?_
    refine then_exit ?_
    refine block_hit ?_
    have hA121 := hA76.keep [(0, Sl.v l_1)] ⟨rfl, trivial⟩
    refine then_normal ?_
    refine wp_seq ?_
    refine wp_region_lit ?_
    refine sq (opk_val hA121 rfl (r_move (hA121.get rfl)) fun a122 hA122 _ => ?_)
    refine sq (opk_val hA122 rfl (r_len (hA122.get rfl) Try.underlying23) fun a123 hA123 _ => ?_)
    refine sq (opk_val hA123 rfl (r_leq (hA123.get rfl) rfl) fun a124 hA124 _ => ?_)
    refine sq (opk_val hA124 rfl (r_assign (hA124.get rfl)) fun a125 hA125 _ => ?_)
    refine sq_end ?_
    have hA126 := hA125.keep [(2, .bool (decide ((l_1.n : Int) ≤ 100)))] ⟨rfl, trivial⟩
    refine then_normal ?_
    refine wp_ret ?_
    exact res_all (vs := [.bool (decide ((l_1.n : Int) ≤ 100))]) rfl hA126 ⟨res_of_tmp hA126 rfl, trivial⟩ ht78

end Go.Proofs.Yteacalmdpoblpaa
