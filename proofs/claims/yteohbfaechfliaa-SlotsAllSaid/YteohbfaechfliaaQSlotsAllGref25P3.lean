/-
  PRINTED BY PROGRAM: for each function its condition (vc), and that this suffices (ok).
-/
import Derived.Test.YteohbfaechfliaaQSlotsAllGT
namespace Go.Proofs.Yteohbfaechfliaa
open Go.RowKit
set_option linter.unusedVariables false
set_option maxHeartbeats 1000000
set_option maxRecDepth 10000
def ref25_Touched.vc (l : Sl) (m : Sl) (f : Int) (R : Value → World → Prop) (w : World) : Prop :=
∃ ah : Addr, (((((¬ (f < 0)) ∧ (¬ ((l.n : Int) ≤ f))) ∧ (¬ ((m.n : Int) ≤ f)))) → ((0 : Int) ≤ f ∧ f < (m.n : Int)) ∧  m.a = some ah) ∧
∃ (aa : Bool), (((((¬ (f < 0)) ∧ (¬ ((l.n : Int) ≤ f))) ∧ (¬ ((m.n : Int) ≤ f)))) → w.cell? ((ah.add (f.toNat * 6)).add 0) = some (.bool aa)) ∧
(((((f < 0) ∨ ((l.n : Int) ≤ f)) ∨ ((m.n : Int) ≤ f)) ∨ (aa = true)) →
R (.bool false) w) ∧
(((((¬ (f < 0)) ∧ (¬ ((l.n : Int) ≤ f))) ∧ (¬ ((m.n : Int) ≤ f))) ∧ (aa = false)) →
((0 : Int) ≤ f ∧ f < (m.n : Int)) ∧ ∃ ai : Addr, m.a = some ai ∧
∃ (ad : Bool) (b : Bool) (c : Sl) (d : Sl) (i : Int) (u : Sl), (Cells w (ai.add (f.toNat * 6)) [.bool ad, .bool b, Sl.v c, Sl.v d, .int .i64 i, Sl.v u]) ∧
∀ (r : World) (o : Nat), New w o r → Chg [] w r →
∃ x : Addr, (((((b = false) ∧ (¬ (0 < (c.n : Int)))) ∧ (¬ (0 < (d.n : Int))))) → ((0 : Int) ≤ f ∧ f < (l.n : Int)) ∧ l.a = some x) ∧
∃ (j : Int), (((((b = false) ∧ (¬ (0 < (c.n : Int)))) ∧ (¬ (0 < (d.n : Int))))) → r.cell? ((x.add (f.toNat * 15)).add 0) = some (.int .i64 j)) ∧
∃ y : Sl → World → Prop, (∀ p : Sl, ∀ w' w'' : World, Ext w' w'' → y p w' → y p w'') ∧
((((((b = false) ∧ (¬ (0 < (c.n : Int)))) ∧ (¬ (0 < (d.n : Int)))) ∧ (¬ (i ≠ j)))) → ∀ w' : World, Ext r w' → Calls Try.prog 17 #[Sl.v l, .int .i64 f] w' (Ret fun v w'' => Ext w' w'' ∧ ∃ p : Sl, v = Sl.v p ∧ y p w'')) ∧
∃ (q : Bool), ((((((b = false) ∧ (¬ (0 < (c.n : Int)))) ∧ (¬ (0 < (d.n : Int)))) ∧ (¬ (i ≠ j)))) → ∀ p : Sl, ∀ w' : World, Ext r w' → ((((((b = false) ∧ (¬ (0 < (c.n : Int)))) ∧ (¬ (0 < (d.n : Int)))) ∧ (¬ (i ≠ j)))) → y p w') → Calls Try.prog 70 #[Sl.v u, Sl.v p] w' (Ret fun v w'' => Ext w' w'' ∧ v = .bool q)) ∧
∀ (ab : World), Chg [] r ab →
R (.bool ((((b || (decide (0 < (c.n : Int)))) || (decide (0 < (d.n : Int)))) || (decide (i ≠ j))) || (!q))) ab)
theorem ref25_Touched.ok (l : Sl) (m : Sl) (f : Int) {R : Value → World → Prop} {w : World} (au : ref25_Touched.vc l m f R w) : Calls Try.prog 48 #[Sl.v l, Sl.v m, .int .i64 f] w (Ret R) := by
 refine enter [Sl.v l, Sl.v m, .int .i64 f] Try.func48 rfl Try.ntmps48 rfl ?_
 intro a0 aZ
 unfold ref25_Touched.vc at au
 refine wp_seq (wp_region_lit ?_)
 refine sqv aZ rfl (r_assign rfl) fun _ hA4 => sq_end ?_
 have av := hA4.kp [(0, Sl.v l), (1, Sl.v m), (2, .int .i64 f)] rfl
 refine then_normal (wp_seq (wp_seq (wp_region_lit ?_)))
 refine sqv av rfl (r_move (av.get rfl)) fun _ ax => sqv ax rfl (r_lss (ax.get rfl) rfl) fun _ ay => sqv ay rfl (r_move (ay.get rfl)) fun _ az => ?_
 refine sq (opk_gval az rfl rfl (g := true) (e := (decide (f < 0))) rfl (fun hg => r_move (az.get rfl)) fun a9 aA _ => ?_)
 refine sq (opk_gval aA rfl rfl (g := true) (e := (decide (f < 0))) rfl (fun hg => r_move (aA.get rfl)) fun bQ aB _ => ?_)
 refine sq (opk_gval aB rfl rfl (g := true) (e := (decide (f < 0))) rfl (fun hg => r_len (cv_get (aB.get rfl) hg) tU31) fun bR aj _ => ?_)
 refine sq (opk_gval aj rfl rfl (g := true) (e := (decide (f < 0))) rfl (fun hg => r_geq (cv_get (aj.get rfl) hg) (cv_get (aj.get rfl) hg)) fun bS ak _ => ?_)
 refine sqv ak rfl (r_pick_or (g := (true && ((decide (f < 0)) == false))) (ak.get rfl) (ak.get rfl) (fun he => g_mkf rfl he)) fun _ aC => sqv aC rfl (r_move (aC.get rfl)) fun _ aD => ?_
 refine sq (opk_gval aD rfl rfl (g := true) (e := ((decide (f < 0)) || (decide ((l.n : Int) ≤ f)))) rfl (fun hg => r_move (aD.get rfl)) fun bT aF _ => ?_)
 refine sq (opk_gval aF rfl rfl (g := true) (e := ((decide (f < 0)) || (decide ((l.n : Int) ≤ f)))) rfl (fun hg => r_move (aF.get rfl)) fun bU aG _ => ?_)
 refine sq (opk_gval aG rfl rfl (g := true) (e := ((decide (f < 0)) || (decide ((l.n : Int) ≤ f)))) rfl (fun hg => r_len (cv_get (aG.get rfl) hg) tU89) fun bV al _ => ?_)
 refine sq (opk_gval al rfl rfl (g := true) (e := ((decide (f < 0)) || (decide ((l.n : Int) ≤ f)))) rfl (fun hg => r_geq (cv_get (al.get rfl) hg) (cv_get (al.get rfl) hg)) fun bX am _ => ?_)
 refine sqv am rfl (r_pick_or (g := (true && (((decide (f < 0)) || (decide ((l.n : Int) ≤ f))) == false))) (am.get rfl) (am.get rfl) (fun he => g_mkf rfl he)) fun _ aH => sqv aH rfl (r_move (aH.get rfl)) fun _ aI => ?_
 refine sq (opk_gval aI rfl rfl (g := true) (e := (((decide (f < 0)) || (decide ((l.n : Int) ≤ f))) || (decide ((m.n : Int) ≤ f)))) rfl (fun hg => r_move (aI.get rfl)) fun bY aJ _ => ?_)
 refine sq (opk_gval aJ rfl rfl (g := true) (e := (((decide (f < 0)) || (decide ((l.n : Int) ≤ f))) || (decide ((m.n : Int) ≤ f)))) rfl (fun hg => r_move (aJ.get rfl)) fun bZ an _ => ?_)
 obtain ⟨ah, aK, a1⟩ := au
 refine sq (opk_gval an rfl rfl (g := true) (e := (((decide (f < 0)) || (decide ((l.n : Int) ≤ f))) || (decide ((m.n : Int) ≤ f)))) rfl (fun hg => r_indexAddr (cv_get (an.get rfl) hg) (cv_get (an.get rfl) hg) tU89 ti_93 (aK ⟨⟨(of_decide_eq_false (b_or_f (b_or_f (g_f hg)).1).1), (of_decide_eq_false (b_or_f (b_or_f (g_f hg)).1).2)⟩, (of_decide_eq_false (b_or_f (g_f hg)).2)⟩).1 (aK ⟨⟨(of_decide_eq_false (b_or_f (b_or_f (g_f hg)).1).1), (of_decide_eq_false (b_or_f (b_or_f (g_f hg)).1).2)⟩, (of_decide_eq_false (b_or_f (g_f hg)).2)⟩).2) fun b0 aL _ => ?_)
 refine sq (opk_gval aL rfl rfl (g := true) (e := (((decide (f < 0)) || (decide ((l.n : Int) ≤ f))) || (decide ((m.n : Int) ≤ f)))) rfl (fun hg => r_fieldAddr (cv_get (aL.get rfl) hg) Try.underlying93 rfl ti_4 (by decide)) fun b1 aM _ => ?_)
 obtain ⟨aa, a2, aN⟩ := a1
 refine sq (opk_gval aM rfl rfl (g := true) (e := (((decide (f < 0)) || (decide ((l.n : Int) ≤ f))) || (decide ((m.n : Int) ≤ f)))) rfl (fun hg => r_load1 tU4 rfl (cv_get (aM.get rfl) hg) (a2 ⟨⟨(of_decide_eq_false (b_or_f (b_or_f (g_f hg)).1).1), (of_decide_eq_false (b_or_f (b_or_f (g_f hg)).1).2)⟩, (of_decide_eq_false (b_or_f (g_f hg)).2)⟩)) fun b2 ao _ => ?_)
 refine sqv ao rfl (r_pick_or (g := (true && ((((decide (f < 0)) || (decide ((l.n : Int) ≤ f))) || (decide ((m.n : Int) ≤ f))) == false))) (ao.get rfl) (ao.get rfl) (fun he => g_mkf rfl he)) fun _ a3 => sq_end ?_
 have af := a3.kp [(0, Sl.v l), (1, Sl.v m), (2, .int .i64 f), (28, .bool ((((decide (f < 0)) || (decide ((l.n : Int) ≤ f))) || (decide ((m.n : Int) ≤ f))) || aa))] rfl
 refine then_normal ?_
 refine wp_cond_split (af.get rfl) (fun hc => ?_) (fun hc => ?_)
 ·have a4 := aN.1 ((b_or_t hc).imp (fun h => ((b_or_t h).imp (fun h => ((b_or_t h).imp (fun h => (of_decide_eq_true h)) (fun h => (of_decide_eq_true h)))) (fun h => (of_decide_eq_true h)))) (fun h => h))
  clear hc
  refine wp_seq (wp_region_lit ?_)
  refine sqv af rfl (r_assign rfl) fun _ a5 => sq_end ?_
  have aO := a5.kp [(6, .bool false)] rfl
  refine then_normal ?_
  refine wp_ret ?_
  refine then_ret ?_
  exact res_all (vs := [.bool false]) rfl aO ⟨res_of_tmp aO rfl, trivial⟩ a4
 ·have a6 := aN.2 ⟨⟨⟨(of_decide_eq_false (b_or_f (b_or_f (b_or_f hc).1).1).1), (of_decide_eq_false (b_or_f (b_or_f (b_or_f hc).1).1).2)⟩, (of_decide_eq_false (b_or_f (b_or_f hc).1).2)⟩, (b_or_f hc).2⟩
  clear hc
  refine wp_skip ?_
  refine then_normal (wp_seq (wp_region_lit ?_))
  refine sqv af rfl (r_move (af.get rfl)) fun _ aP => sqv aP rfl (r_move (aP.get rfl)) fun _ ap => ?_
  obtain ⟨a7, ai, a8, ht44⟩ := a6
  refine sqv ap rfl (r_indexAddr (ap.get rfl) (ap.get rfl) tU89 ti_93 a7 a8) fun _ aQ => ?_
  obtain ⟨ad, b, c, d, i, u, ba, bb⟩ := ht44
  refine sqv aQ rfl (r_loadN Try.underlying93 rfl ti_93 (aQ.get rfl) ba) fun _ bd => ?_
  refine sq (opk_new (fun B => .pointer (some ⟨B, 0, none⟩)) bd rfl (r_alloc (cs := [.bool false, .bool false, Sl.v Sl.nil, Sl.v Sl.nil, .int .i64 0, Sl.v Sl.nil]) ti_93 rfl) fun b3 aR o bf bg aS aq _ => ?_)
  have aT : New w o aR := bg
  have bh : Chg [] w aR := bf
  refine sq (opk_store aq aS (r_store (vs := [.bool ad, .bool b, Sl.v c, Sl.v d, .int .i64 i, Sl.v u]) (aq.get rfl) (aq.get rfl) rfl ti_93 aS rfl (ones_all _ rfl)) fun b4 bi aU bj bk => ?_)
  have bl : Box bi o 93 [.bool ad, .bool b, Sl.v c, Sl.v d, .int .i64 i, Sl.v u] := bj
  have bm := bh.storeNew aT aU
  have bn := aT.up aU.size
  refine sq_end ?_
  have k := bk.kp [(0, Sl.v l), (2, .int .i64 f), (7, pB o 0)] rfl
  refine then_normal (wp_seq ?_)
  refine draw' (by kernel_rfl) fun r ar => ?_
  have z := bl.ext ar
  have bo := bm.more ar
  have bp := bn.up ar.size
  have bq := bb r o bp  bo
  obtain ⟨x, aV, br⟩ := bq
  obtain ⟨j, bs, bt⟩ := br
  obtain ⟨y, bu, bv, bx⟩ := bt
  obtain ⟨q, bz, bA⟩ := bx
  refine par (D := [[], [0], [0, 1], [0, 1, 2], [0, 1, 2, 3], [0, 1, 2, 3, 4], [0, 1, 2, 3, 4, 5], [0, 1, 2, 3, 4, 5, 6], [0, 1, 2, 3, 4, 5, 6, 7], [0, 1, 2, 3, 4, 5, 6, 7, 8], [0, 1, 2, 3, 4, 5, 6, 7, 8, 9], [0, 1, 2, 3, 4, 5, 6, 7, 8, 9, 10], [0, 1, 2, 3, 4, 5, 6, 7, 8, 9, 10, 11], [0, 1, 2, 3, 4, 5, 6, 7, 8, 9, 10, 11, 12], [0, 1, 2, 3, 4, 5, 6, 7, 8, 9, 10, 11, 12, 13], [0, 1, 2, 3, 4, 5, 6, 7, 8, 9, 10, 11, 12, 13, 14], [0, 1, 2, 3, 4, 5, 6, 7, 8, 9, 10, 11, 12, 13, 14, 15], [0, 1, 2, 3, 4, 5, 6, 7, 8, 9, 10, 11, 12, 13, 14], [0, 1, 2, 3, 4, 5, 6, 7, 8, 9, 10, 11, 12, 13, 14], [0, 1, 2, 3, 4, 5, 6, 7, 8, 9, 10, 11, 12, 13, 14, 17, 18], [0, 1, 2, 3, 4, 5, 6, 7, 8, 9, 10, 11, 12, 13, 14, 17, 18, 19], [0, 1, 2, 3, 4, 5, 6, 7, 8, 9, 10, 11, 12, 13, 14, 17, 18, 19, 20], [0, 1, 2, 3, 4, 5, 6, 7, 8, 9, 10, 11, 12, 13, 14, 15, 16, 17, 18, 19, 20, 21], [0, 1, 2, 3, 4, 5, 6, 7, 8, 9, 10, 11, 12, 13, 14, 15, 16, 17, 18, 19, 20, 21, 22], [0, 1, 2, 3, 4, 5, 6, 7, 8, 9, 10, 11, 12, 13, 14, 15, 16, 17, 18, 19, 20, 21, 22, 23], [0, 1, 2, 3, 4, 5, 6, 7, 8, 9, 10, 11, 12, 13, 14, 15, 16, 17, 18, 19, 20, 21, 22, 23, 24], [0, 1, 2, 3, 4, 5, 6, 7, 8, 9, 10, 11, 12, 13, 14, 15, 16, 17, 18, 19, 20, 21, 22, 23, 24, 25], [0, 1, 2, 3, 4, 5, 6, 7, 8, 9, 10, 11, 12, 13, 14, 15, 16, 17, 18, 19, 20, 21, 22, 23, 24], [0, 1, 2, 3, 4, 5, 6, 7, 8, 9, 10, 11, 12, 13, 14, 15, 16, 17, 18, 19, 20, 21, 22, 23, 24], [0, 1, 2, 3, 4, 5, 6, 7, 8, 9, 10, 11, 12, 13, 14, 15, 16, 17, 18, 19, 20, 21, 22, 23, 24, 27, 28], [0, 1, 2, 3, 4, 5, 6, 7, 8, 9, 10, 11, 12, 13, 14, 15, 16, 17, 18, 19, 20, 21, 22, 23, 24, 25, 26, 27, 28, 29], [0, 1, 2, 3, 4, 5, 6, 7, 8, 9, 10, 11, 12, 13, 14, 15, 16, 17, 18, 19, 20, 21, 22, 23, 24, 25, 26, 27, 28, 29, 30], [0, 1, 2, 3, 4, 5, 6, 7, 8, 9, 10, 11, 12, 13, 14, 15, 16, 17, 18, 19, 20, 21, 22, 23, 24, 25, 26, 27, 28, 29, 30, 31], [0, 1, 2, 3, 4, 5, 6, 7, 8, 9, 10, 11, 12, 13, 14, 15, 16, 17, 18, 19, 20, 21, 22, 23, 24, 25, 26, 27, 28, 29, 30, 31, 32]]) (S := [0, 1, 2, 3, 4, 5, 6, 7, 8, 9, 10, 11, 12, 13, 14, 15, 16, 17, 18, 19, 20, 21, 22, 23, 24, 25, 26, 27, 28, 29, 30, 31, 32, 33]) (F := []) (V := VL [(0, fun v _ => v = pB o 1), (1, fun v _ => v = .bool b), (2, fun v _ => v = .bool b), (3, fun v _ => v = cV (true && (b == false)) (pB o 2)), (4, fun v _ => v = cV (true && (b == false)) (Sl.v c)), (5, fun v _ => v = cV (true && (b == false)) (.int .i64 (c.n : Int))), (6, fun v _ => v = cV (true && (b == false)) (.bool (decide (0 < (c.n : Int))))), (7, fun v _ => v = .bool (b || (decide (0 < (c.n : Int))))), (8, fun v _ => v = .bool (b || (decide (0 < (c.n : Int))))), (9, fun v _ => v = cV (true && ((b || (decide (0 < (c.n : Int)))) == false)) (pB o 3)), (10, fun v _ => v = cV (true && ((b || (decide (0 < (c.n : Int)))) == false)) (Sl.v d)), (11, fun v _ => v = cV (true && ((b || (decide (0 < (c.n : Int)))) == false)) (.int .i64 (d.n : Int))), (12, fun v _ => v = cV (true && ((b || (decide (0 < (c.n : Int)))) == false)) (.bool (decide (0 < (d.n : Int))))), (13, fun v _ => v = .bool ((b || (decide (0 < (c.n : Int)))) || (decide (0 < (d.n : Int))))), (14, fun v _ => v = .bool ((b || (decide (0 < (c.n : Int)))) || (decide (0 < (d.n : Int))))), (15, fun v _ => v = cV (true && (((b || (decide (0 < (c.n : Int)))) || (decide (0 < (d.n : Int)))) == false)) (pB o 4)), (16, fun v _ => v = cV (true && (((b || (decide (0 < (c.n : Int)))) || (decide (0 < (d.n : Int)))) == false)) (.int .i64 i)), (17, fun v _ => v = cV (true && (((b || (decide (0 < (c.n : Int)))) || (decide (0 < (d.n : Int)))) == false)) (Sl.v l)), (18, fun v _ => v = cV (true && (((b || (decide (0 < (c.n : Int)))) || (decide (0 < (d.n : Int)))) == false)) (.int .i64 f)), (19, fun v _ => v = cV (true && (((b || (decide (0 < (c.n : Int)))) || (decide (0 < (d.n : Int)))) == false)) (.pointer (some (x.add (f.toNat * 15))))), (20, fun v _ => v = cV (true && (((b || (decide (0 < (c.n : Int)))) || (decide (0 < (d.n : Int)))) == false)) (.pointer (some ((x.add (f.toNat * 15)).add 0)))), (21, fun v _ => v = cV (true && (((b || (decide (0 < (c.n : Int)))) || (decide (0 < (d.n : Int)))) == false)) (.int .i64 j)), (22, fun v _ => v = cV (true && (((b || (decide (0 < (c.n : Int)))) || (decide (0 < (d.n : Int)))) == false)) (.bool (decide (i ≠ j)))), (23, fun v _ => v = .bool (((b || (decide (0 < (c.n : Int)))) || (decide (0 < (d.n : Int)))) || (decide (i ≠ j)))), (24, fun v _ => v = .bool (((b || (decide (0 < (c.n : Int)))) || (decide (0 < (d.n : Int)))) || (decide (i ≠ j)))), (25, fun v _ => v = cV (true && ((((b || (decide (0 < (c.n : Int)))) || (decide (0 < (d.n : Int)))) || (decide (i ≠ j))) == false)) (pB o 5)), (26, fun v _ => v = cV (true && ((((b || (decide (0 < (c.n : Int)))) || (decide (0 < (d.n : Int)))) || (decide (i ≠ j))) == false)) (Sl.v u)), (27, fun v _ => v = cV (true && ((((b || (decide (0 < (c.n : Int)))) || (decide (0 < (d.n : Int)))) || (decide (i ≠ j))) == false)) (Sl.v l)), (28, fun v _ => v = cV (true && ((((b || (decide (0 < (c.n : Int)))) || (decide (0 < (d.n : Int)))) || (decide (i ≠ j))) == false)) (.int .i64 f)), (29, fun v w' => ∃ p : Sl, ((((((b = false) ∧ (¬ (0 < (c.n : Int)))) ∧ (¬ (0 < (d.n : Int)))) ∧ (¬ (i ≠ j)))) → y p w') ∧ v = cV (true && ((((b || (decide (0 < (c.n : Int)))) || (decide (0 < (d.n : Int)))) || (decide (i ≠ j))) == false)) (Sl.v p)), (30, fun v _ => v = cV (true && ((((b || (decide (0 < (c.n : Int)))) || (decide (0 < (d.n : Int)))) || (decide (i ≠ j))) == false)) (.bool q)), (31, fun v _ => v = cV (true && ((((b || (decide (0 < (c.n : Int)))) || (decide (0 < (d.n : Int)))) || (decide (i ≠ j))) == false)) (.bool (!q))), (32, fun v _ => v = .bool ((((b || (decide (0 < (c.n : Int)))) || (decide (0 < (d.n : Int)))) || (decide (i ≠ j))) || (!q))), (33, fun v _ => v = .bool ((((b || (decide (0 < (c.n : Int)))) || (decide (0 < (d.n : Int)))) || (decide (i ≠ j))) || (!q)))]) k (by kernel_rfl) ⟨fun _ _ _ _ h => by first | exact h | (change _ = _ at h; change _ = _; exact h), fun _ _ _ _ h => by first | exact h | (change _ = _ at h; change _ = _; exact h), fun _ _ _ _ h => by first | exact h | (change _ = _ at h; change _ = _; exact h), fun _ _ _ _ h => by first | exact h | (change _ = _ at h; change _ = _; exact h), fun _ _ _ _ h => by first | exact h | (change _ = _ at h; change _ = _; exact h), fun _ _ _ _ h => by first | exact h | (change _ = _ at h; change _ = _; exact h), fun _ _ _ _ h => by first | exact h | (change _ = _ at h; change _ = _; exact h), fun _ _ _ _ h => by first | exact h | (change _ = _ at h; change _ = _; exact h), fun _ _ _ _ h => by first | exact h | (change _ = _ at h; change _ = _; exact h), fun _ _ _ _ h => by first | exact h | (change _ = _ at h; change _ = _; exact h), fun _ _ _ _ h => by first | exact h | (change _ = _ at h; change _ = _; exact h), fun _ _ _ _ h => by first | exact h | (change _ = _ at h; change _ = _; exact h), fun _ _ _ _ h => by first | exact h | (change _ = _ at h; change _ = _; exact h), fun _ _ _ _ h => by first | exact h | (change _ = _ at h; change _ = _; exact h), fun _ _ _ _ h => by first | exact h | (change _ = _ at h; change _ = _; exact h), fun _ _ _ _ h => by first | exact h | (change _ = _ at h; change _ = _; exact h), fun _ _ _ _ h => by first | exact h | (change _ = _ at h; change _ = _; exact h), fun _ _ _ _ h => by first | exact h | (change _ = _ at h; change _ = _; exact h), fun _ _ _ _ h => by first | exact h | (change _ = _ at h; change _ = _; exact h), fun _ _ _ _ h => by first | exact h | (change _ = _ at h; change _ = _; exact h), fun _ _ _ _ h => by first | exact h | (change _ = _ at h; change _ = _; exact h), fun _ _ _ _ h => by first | exact h | (change _ = _ at h; change _ = _; exact h), fun _ _ _ _ h => by first | exact h | (change _ = _ at h; change _ = _; exact h), fun _ _ _ _ h => by first | exact h | (change _ = _ at h; change _ = _; exact h), fun _ _ _ _ h => by first | exact h | (change _ = _ at h; change _ = _; exact h), fun _ _ _ _ h => by first | exact h | (change _ = _ at h; change _ = _; exact h), fun _ _ _ _ h => by first | exact h | (change _ = _ at h; change _ = _; exact h), fun _ _ _ _ h => by first | exact h | (change _ = _ at h; change _ = _; exact h), fun _ _ _ _ h => by first | exact h | (change _ = _ at h; change _ = _; exact h), fun _ _ _ hE ⟨p, h0_, e⟩ => ⟨p, (fun hp => bu p _ _ hE (h0_ hp)), e⟩, fun _ _ _ _ h => by first | exact h | (change _ = _ at h; change _ = _; exact h), fun _ _ _ _ h => by first | exact h | (change _ = _ at h; change _ = _; exact h), fun _ _ _ _ h => by first | exact h | (change _ = _ at h; change _ = _; exact h), fun _ _ _ _ h => by first | exact h | (change _ = _ at h; change _ = _; exact h), trivial⟩ ⟨?_, ?_, ?_, ?_, ?_, ?_, ?_, ?_, ?_, ?_, ?_, ?_, ?_, ?_, ?_, ?_, ?_, ?_, ?_, ?_, ?_, ?_, ?_, ?_, ?_, ?_, ?_, ?_, ?_, ?_, ?_, ?_, ?_, ?_, trivial⟩ ?_
  ·intro a w hT
   have hAp := hT.ag k [(7, pB o 0)] ⟨rfl, trivial⟩ (by kernel_rfl)
   exact ovr hAp rfl (r_fieldAddr (hAp.get rfl) Try.underlying93 rfl ti_4 (by decide)) fun _ => Eq.refl _
  ·intro a w hT
   have hAp := hT.ag k [] trivial (by kernel_rfl)
   have hAp := hAp.add (t := 33) (v := pB o 1) (hT.vals 0 rfl 33 rfl)
   exact ovr hAp rfl (r_load1 tU4 rfl (hAp.get rfl) ((z.ext hT.chg).cell 1 _ rfl)) fun _ => Eq.refl _
  ·intro a w hT
   have hAp := hT.ag k [] trivial (by kernel_rfl)
   have hAp := hAp.add (t := 34) (v := .bool b) (hT.vals 1 rfl 34 rfl)
   exact ovr hAp rfl (r_move (hAp.get rfl)) fun _ => Eq.refl _
  ·intro a w hT
   have hAp := hT.ag k [(7, pB o 0)] ⟨rfl, trivial⟩ (by kernel_rfl)
   have hAp := hAp.add (t := 35) (v := .bool b) (hT.vals 2 rfl 35 rfl)
   exact opk_gval hAp rfl rfl (g := true) (e := b) rfl (fun hg => r_fieldAddr (hAp.get rfl) Try.underlying93 rfl ti_23 (by decide)) fun _ _ e => ⟨_, e, Chg.refl _ _, fun _ => Eq.refl _⟩
  ·intro a w hT
   have hAp := hT.ag k [] trivial (by kernel_rfl)
   have hAp := hAp.add (t := 35) (v := .bool b) (hT.vals 2 rfl 35 rfl)
   have hAp := hAp.add (t := 36) (v := cV (true && (b == false)) (pB o 2)) (hT.vals 3 rfl 36 rfl)
   exact opk_gval hAp rfl rfl (g := true) (e := b) rfl (fun hg => r_load1 tU23 rfl (cv_get (hAp.get rfl) hg) ((z.ext hT.chg).cell 2 _ rfl)) fun _ _ e => ⟨_, e, Chg.refl _ _, fun _ => Eq.refl _⟩
  ·intro a w hT
   have hAp := hT.ag k [] trivial (by kernel_rfl)
   have hAp := hAp.add (t := 35) (v := .bool b) (hT.vals 2 rfl 35 rfl)
   have hAp := hAp.add (t := 37) (v := cV (true && (b == false)) (Sl.v c)) (hT.vals 4 rfl 37 rfl)
   exact opk_gval hAp rfl rfl (g := true) (e := b) rfl (fun hg => r_len (cv_get (hAp.get rfl) hg) tU23) fun _ _ e => ⟨_, e, Chg.refl _ _, fun _ => Eq.refl _⟩
  ·intro a w hT
   have hAp := hT.ag k [] trivial (by kernel_rfl)
   have hAp := hAp.add (t := 35) (v := .bool b) (hT.vals 2 rfl 35 rfl)
   have hAp := hAp.add (t := 38) (v := cV (true && (b == false)) (.int .i64 (c.n : Int))) (hT.vals 5 rfl 38 rfl)
   exact opk_gval hAp rfl rfl (g := true) (e := b) rfl (fun hg => r_gtr (cv_get (hAp.get rfl) hg) rfl) fun _ _ e => ⟨_, e, Chg.refl _ _, fun _ => Eq.refl _⟩
  ·intro a w hT
   have hAp := hT.ag k [] trivial (by kernel_rfl)
   have hAp := hAp.add (t := 35) (v := .bool b) (hT.vals 2 rfl 35 rfl)
   have hAp := hAp.add (t := 39) (v := cV (true && (b == false)) (.bool (decide (0 < (c.n : Int))))) (hT.vals 6 rfl 39 rfl)
   exact ovr hAp rfl (r_pick_or (g := (true && (b == false))) (hAp.get rfl) (hAp.get rfl) (fun he => g_mkf rfl he)) fun _ => Eq.refl _
  ·intro a w hT
   have hAp := hT.ag k [] trivial (by kernel_rfl)
   have hAp := hAp.add (t := 40) (v := .bool (b || (decide (0 < (c.n : Int))))) (hT.vals 7 rfl 40 rfl)
   exact ovr hAp rfl (r_move (hAp.get rfl)) fun _ => Eq.refl _
  ·intro a w hT
   have hAp := hT.ag k [(7, pB o 0)] ⟨rfl, trivial⟩ (by kernel_rfl)
   have hAp := hAp.add (t := 41) (v := .bool (b || (decide (0 < (c.n : Int))))) (hT.vals 8 rfl 41 rfl)
   exact opk_gval hAp rfl rfl (g := true) (e := (b || (decide (0 < (c.n : Int))))) rfl (fun hg => r_fieldAddr (hAp.get rfl) Try.underlying93 rfl ti_41 (by decide)) fun _ _ e => ⟨_, e, Chg.refl _ _, fun _ => Eq.refl _⟩
  ·intro a w hT
   have hAp := hT.ag k [] trivial (by kernel_rfl)
   have hAp := hAp.add (t := 41) (v := .bool (b || (decide (0 < (c.n : Int))))) (hT.vals 8 rfl 41 rfl)
   have hAp := hAp.add (t := 42) (v := cV (true && ((b || (decide (0 < (c.n : Int)))) == false)) (pB o 3)) (hT.vals 9 rfl 42 rfl)
   exact opk_gval hAp rfl rfl (g := true) (e := (b || (decide (0 < (c.n : Int))))) rfl (fun hg => r_load1 tU41 rfl (cv_get (hAp.get rfl) hg) ((z.ext hT.chg).cell 3 _ rfl)) fun _ _ e => ⟨_, e, Chg.refl _ _, fun _ => Eq.refl _⟩
  ·intro a w hT
   have hAp := hT.ag k [] trivial (by kernel_rfl)
   have hAp := hAp.add (t := 41) (v := .bool (b || (decide (0 < (c.n : Int))))) (hT.vals 8 rfl 41 rfl)
   have hAp := hAp.add (t := 43) (v := cV (true && ((b || (decide (0 < (c.n : Int)))) == false)) (Sl.v d)) (hT.vals 10 rfl 43 rfl)
   exact opk_gval hAp rfl rfl (g := true) (e := (b || (decide (0 < (c.n : Int))))) rfl (fun hg => r_len (cv_get (hAp.get rfl) hg) tU41) fun _ _ e => ⟨_, e, Chg.refl _ _, fun _ => Eq.refl _⟩
  ·intro a w hT
   have hAp := hT.ag k [] trivial (by kernel_rfl)
   have hAp := hAp.add (t := 41) (v := .bool (b || (decide (0 < (c.n : Int))))) (hT.vals 8 rfl 41 rfl)
   have hAp := hAp.add (t := 44) (v := cV (true && ((b || (decide (0 < (c.n : Int)))) == false)) (.int .i64 (d.n : Int))) (hT.vals 11 rfl 44 rfl)
   exact opk_gval hAp rfl rfl (g := true) (e := (b || (decide (0 < (c.n : Int))))) rfl (fun hg => r_gtr (cv_get (hAp.get rfl) hg) rfl) fun _ _ e => ⟨_, e, Chg.refl _ _, fun _ => Eq.refl _⟩
  ·intro a w hT
   have hAp := hT.ag k [] trivial (by kernel_rfl)
   have hAp := hAp.add (t := 41) (v := .bool (b || (decide (0 < (c.n : Int))))) (hT.vals 8 rfl 41 rfl)
   have hAp := hAp.add (t := 45) (v := cV (true && ((b || (decide (0 < (c.n : Int)))) == false)) (.bool (decide (0 < (d.n : Int))))) (hT.vals 12 rfl 45 rfl)
   exact ovr hAp rfl (r_pick_or (g := (true && ((b || (decide (0 < (c.n : Int)))) == false))) (hAp.get rfl) (hAp.get rfl) (fun he => g_mkf rfl he)) fun _ => Eq.refl _
  ·intro a w hT
   have hAp := hT.ag k [] trivial (by kernel_rfl)
   have hAp := hAp.add (t := 46) (v := .bool ((b || (decide (0 < (c.n : Int)))) || (decide (0 < (d.n : Int))))) (hT.vals 13 rfl 46 rfl)
   exact ovr hAp rfl (r_move (hAp.get rfl)) fun _ => Eq.refl _
  ·intro a w hT
   have hAp := hT.ag k [(7, pB o 0)] ⟨rfl, trivial⟩ (by kernel_rfl)
   have hAp := hAp.add (t := 47) (v := .bool ((b || (decide (0 < (c.n : Int)))) || (decide (0 < (d.n : Int))))) (hT.vals 14 rfl 47 rfl)
   exact opk_gval hAp rfl rfl (g := true) (e := ((b || (decide (0 < (c.n : Int)))) || (decide (0 < (d.n : Int))))) rfl (fun hg => r_fieldAddr (hAp.get rfl) Try.underlying93 rfl ti_3 (by decide)) fun _ _ e => ⟨_, e, Chg.refl _ _, fun _ => Eq.refl _⟩
  ·intro a w hT
   have hAp := hT.ag k [] trivial (by kernel_rfl)
   have hAp := hAp.add (t := 47) (v := .bool ((b || (decide (0 < (c.n : Int)))) || (decide (0 < (d.n : Int))))) (hT.vals 14 rfl 47 rfl)
   have hAp := hAp.add (t := 48) (v := cV (true && (((b || (decide (0 < (c.n : Int)))) || (decide (0 < (d.n : Int)))) == false)) (pB o 4)) (hT.vals 15 rfl 48 rfl)
   exact opk_gval hAp rfl rfl (g := true) (e := ((b || (decide (0 < (c.n : Int)))) || (decide (0 < (d.n : Int))))) rfl (fun hg => r_load1 tU3 rfl (cv_get (hAp.get rfl) hg) ((z.ext hT.chg).cell 4 _ rfl)) fun _ _ e => ⟨_, e, Chg.refl _ _, fun _ => Eq.refl _⟩
  ·intro a w hT
   have hAp := hT.ag k [(0, Sl.v l)] ⟨rfl, trivial⟩ (by kernel_rfl)
   have hAp := hAp.add (t := 47) (v := .bool ((b || (decide (0 < (c.n : Int)))) || (decide (0 < (d.n : Int))))) (hT.vals 14 rfl 47 rfl)
   exact opk_gval hAp rfl rfl (g := true) (e := ((b || (decide (0 < (c.n : Int)))) || (decide (0 < (d.n : Int))))) rfl (fun hg => r_move (hAp.get rfl)) fun _ _ e => ⟨_, e, Chg.refl _ _, fun _ => Eq.refl _⟩
  ·intro a w hT
   have hAp := hT.ag k [(2, .int .i64 f)] ⟨rfl, trivial⟩ (by kernel_rfl)
   have hAp := hAp.add (t := 47) (v := .bool ((b || (decide (0 < (c.n : Int)))) || (decide (0 < (d.n : Int))))) (hT.vals 14 rfl 47 rfl)
   exact opk_gval hAp rfl rfl (g := true) (e := ((b || (decide (0 < (c.n : Int)))) || (decide (0 < (d.n : Int))))) rfl (fun hg => r_move (hAp.get rfl)) fun _ _ e => ⟨_, e, Chg.refl _ _, fun _ => Eq.refl _⟩
  ·intro a w hT
   have hAp := hT.ag k [] trivial (by kernel_rfl)
   have hAp := hAp.add (t := 47) (v := .bool ((b || (decide (0 < (c.n : Int)))) || (decide (0 < (d.n : Int))))) (hT.vals 14 rfl 47 rfl)
   have hAp := hAp.add (t := 50) (v := cV (true && (((b || (decide (0 < (c.n : Int)))) || (decide (0 < (d.n : Int)))) == false)) (Sl.v l)) (hT.vals 17 rfl 50 rfl)
   have hAp := hAp.add (t := 51) (v := cV (true && (((b || (decide (0 < (c.n : Int)))) || (decide (0 < (d.n : Int)))) == false)) (.int .i64 f)) (hT.vals 18 rfl 51 rfl)
   exact opk_gval hAp rfl rfl (g := true) (e := ((b || (decide (0 < (c.n : Int)))) || (decide (0 < (d.n : Int))))) rfl (fun hg => r_indexAddr (cv_get (hAp.get rfl) hg) (cv_get (hAp.get rfl) hg) tU31 ti_38 (aV ⟨⟨(b_or_f (b_or_f (g_f hg)).1).1, (of_decide_eq_false (b_or_f (b_or_f (g_f hg)).1).2)⟩, (of_decide_eq_false (b_or_f (g_f hg)).2)⟩).1 (aV ⟨⟨(b_or_f (b_or_f (g_f hg)).1).1, (of_decide_eq_false (b_or_f (b_or_f (g_f hg)).1).2)⟩, (of_decide_eq_false (b_or_f (g_f hg)).2)⟩).2) fun _ _ e => ⟨_, e, Chg.refl _ _, fun _ => Eq.refl _⟩
  ·intro a w hT
   have hAp := hT.ag k [] trivial (by kernel_rfl)
   have hAp := hAp.add (t := 47) (v := .bool ((b || (decide (0 < (c.n : Int)))) || (decide (0 < (d.n : Int))))) (hT.vals 14 rfl 47 rfl)
   have hAp := hAp.add (t := 52) (v := cV (true && (((b || (decide (0 < (c.n : Int)))) || (decide (0 < (d.n : Int)))) == false)) (.pointer (some (x.add (f.toNat * 15))))) (hT.vals 19 rfl 52 rfl)
   exact opk_gval hAp rfl rfl (g := true) (e := ((b || (decide (0 < (c.n : Int)))) || (decide (0 < (d.n : Int))))) rfl (fun hg => r_fieldAddr (cv_get (hAp.get rfl) hg) Try.underlying38 rfl ti_3 (by decide)) fun _ _ e => ⟨_, e, Chg.refl _ _, fun _ => Eq.refl _⟩
  ·intro a w hT
   have hAp := hT.ag k [] trivial (by kernel_rfl)
   have hAp := hAp.add (t := 47) (v := .bool ((b || (decide (0 < (c.n : Int)))) || (decide (0 < (d.n : Int))))) (hT.vals 14 rfl 47 rfl)
   have hAp := hAp.add (t := 53) (v := cV (true && (((b || (decide (0 < (c.n : Int)))) || (decide (0 < (d.n : Int)))) == false)) (.pointer (some ((x.add (f.toNat * 15)).add 0)))) (hT.vals 20 rfl 53 rfl)
   exact opk_gval hAp rfl rfl (g := true) (e := ((b || (decide (0 < (c.n : Int)))) || (decide (0 < (d.n : Int))))) rfl (fun hg => r_load1 tU3 rfl (cv_get (hAp.get rfl) hg) (Ext.cell hT.chg (bs ⟨⟨(b_or_f (b_or_f (g_f hg)).1).1, (of_decide_eq_false (b_or_f (b_or_f (g_f hg)).1).2)⟩, (of_decide_eq_false (b_or_f (g_f hg)).2)⟩))) fun _ _ e => ⟨_, e, Chg.refl _ _, fun _ => Eq.refl _⟩
  ·intro a w hT
   have hAp := hT.ag k [] trivial (by kernel_rfl)
   have hAp := hAp.add (t := 47) (v := .bool ((b || (decide (0 < (c.n : Int)))) || (decide (0 < (d.n : Int))))) (hT.vals 14 rfl 47 rfl)
   have hAp := hAp.add (t := 49) (v := cV (true && (((b || (decide (0 < (c.n : Int)))) || (decide (0 < (d.n : Int)))) == false)) (.int .i64 i)) (hT.vals 16 rfl 49 rfl)
   have hAp := hAp.add (t := 54) (v := cV (true && (((b || (decide (0 < (c.n : Int)))) || (decide (0 < (d.n : Int)))) == false)) (.int .i64 j)) (hT.vals 21 rfl 54 rfl)
   exact opk_gval hAp rfl rfl (g := true) (e := ((b || (decide (0 < (c.n : Int)))) || (decide (0 < (d.n : Int))))) rfl (fun hg => r_neq (cv_get (hAp.get rfl) hg) (cv_get (hAp.get rfl) hg)) fun _ _ e => ⟨_, e, Chg.refl _ _, fun _ => Eq.refl _⟩
  ·intro a w hT
   have hAp := hT.ag k [] trivial (by kernel_rfl)
   have hAp := hAp.add (t := 47) (v := .bool ((b || (decide (0 < (c.n : Int)))) || (decide (0 < (d.n : Int))))) (hT.vals 14 rfl 47 rfl)
   have hAp := hAp.add (t := 55) (v := cV (true && (((b || (decide (0 < (c.n : Int)))) || (decide (0 < (d.n : Int)))) == false)) (.bool (decide (i ≠ j)))) (hT.vals 22 rfl 55 rfl)
   exact ovr hAp rfl (r_pick_or (g := (true && (((b || (decide (0 < (c.n : Int)))) || (decide (0 < (d.n : Int)))) == false))) (hAp.get rfl) (hAp.get rfl) (fun he => g_mkf rfl he)) fun _ => Eq.refl _
  ·intro a w hT
   have hAp := hT.ag k [] trivial (by kernel_rfl)
   have hAp := hAp.add (t := 56) (v := .bool (((b || (decide (0 < (c.n : Int)))) || (decide (0 < (d.n : Int)))) || (decide (i ≠ j)))) (hT.vals 23 rfl 56 rfl)
   exact ovr hAp rfl (r_move (hAp.get rfl)) fun _ => Eq.refl _
  ·intro a w hT
   have hAp := hT.ag k [(7, pB o 0)] ⟨rfl, trivial⟩ (by kernel_rfl)
   have hAp := hAp.add (t := 57) (v := .bool (((b || (decide (0 < (c.n : Int)))) || (decide (0 < (d.n : Int)))) || (decide (i ≠ j)))) (hT.vals 24 rfl 57 rfl)
   exact opk_gval hAp rfl rfl (g := true) (e := (((b || (decide (0 < (c.n : Int)))) || (decide (0 < (d.n : Int)))) || (decide (i ≠ j)))) rfl (fun hg => r_fieldAddr (hAp.get rfl) Try.underlying93 rfl ti_22 (by decide)) fun _ _ e => ⟨_, e, Chg.refl _ _, fun _ => Eq.refl _⟩
  ·intro a w hT
   have hAp := hT.ag k [] trivial (by kernel_rfl)
   have hAp := hAp.add (t := 57) (v := .bool (((b || (decide (0 < (c.n : Int)))) || (decide (0 < (d.n : Int)))) || (decide (i ≠ j)))) (hT.vals 24 rfl 57 rfl)
   have hAp := hAp.add (t := 58) (v := cV (true && ((((b || (decide (0 < (c.n : Int)))) || (decide (0 < (d.n : Int)))) || (decide (i ≠ j))) == false)) (pB o 5)) (hT.vals 25 rfl 58 rfl)
   exact opk_gval hAp rfl rfl (g := true) (e := (((b || (decide (0 < (c.n : Int)))) || (decide (0 < (d.n : Int)))) || (decide (i ≠ j)))) rfl (fun hg => r_load1 tU22 rfl (cv_get (hAp.get rfl) hg) ((z.ext hT.chg).cell 5 _ rfl)) fun _ _ e => ⟨_, e, Chg.refl _ _, fun _ => Eq.refl _⟩
  ·intro a w hT
   have hAp := hT.ag k [(0, Sl.v l)] ⟨rfl, trivial⟩ (by kernel_rfl)
   have hAp := hAp.add (t := 57) (v := .bool (((b || (decide (0 < (c.n : Int)))) || (decide (0 < (d.n : Int)))) || (decide (i ≠ j)))) (hT.vals 24 rfl 57 rfl)
   exact opk_gval hAp rfl rfl (g := true) (e := (((b || (decide (0 < (c.n : Int)))) || (decide (0 < (d.n : Int)))) || (decide (i ≠ j)))) rfl (fun hg => r_move (hAp.get rfl)) fun _ _ e => ⟨_, e, Chg.refl _ _, fun _ => Eq.refl _⟩
  ·intro a w hT
   have hAp := hT.ag k [(2, .int .i64 f)] ⟨rfl, trivial⟩ (by kernel_rfl)
   have hAp := hAp.add (t := 57) (v := .bool (((b || (decide (0 < (c.n : Int)))) || (decide (0 < (d.n : Int)))) || (decide (i ≠ j)))) (hT.vals 24 rfl 57 rfl)
   exact opk_gval hAp rfl rfl (g := true) (e := (((b || (decide (0 < (c.n : Int)))) || (decide (0 < (d.n : Int)))) || (decide (i ≠ j)))) rfl (fun hg => r_move (hAp.get rfl)) fun _ _ e => ⟨_, e, Chg.refl _ _, fun _ => Eq.refl _⟩
  ·intro a w hT
   have hAp := hT.ag k [] trivial (by kernel_rfl)
   have hAp := hAp.add (t := 57) (v := .bool (((b || (decide (0 < (c.n : Int)))) || (decide (0 < (d.n : Int)))) || (decide (i ≠ j)))) (hT.vals 24 rfl 57 rfl)
   have hAp := hAp.add (t := 60) (v := cV (true && ((((b || (decide (0 < (c.n : Int)))) || (decide (0 < (d.n : Int)))) || (decide (i ≠ j))) == false)) (Sl.v l)) (hT.vals 27 rfl 60 rfl)
   have hAp := hAp.add (t := 61) (v := cV (true && ((((b || (decide (0 < (c.n : Int)))) || (decide (0 < (d.n : Int)))) || (decide (i ≠ j))) == false)) (.int .i64 f)) (hT.vals 28 rfl 61 rfl)
   exact opk_gcallM hAp rfl rfl (g := true) (e := (((b || (decide (0 < (c.n : Int)))) || (decide (0 < (d.n : Int)))) || (decide (i ≠ j)))) rfl (fun hg => r_call (args := #[Sl.v l, .int .i64 f]) Try.func17 (by decide) rfl (map_arr (ml_cons (cv_get (hAp.get rfl) hg) (ml_cons (cv_get (hAp.get rfl) hg) ml_nil))) rfl) (fun hg => bv ⟨⟨⟨(b_or_f (b_or_f (b_or_f (g_f hg)).1).1).1, (of_decide_eq_false (b_or_f (b_or_f (b_or_f (g_f hg)).1).1).2)⟩, (of_decide_eq_false (b_or_f (b_or_f (g_f hg)).1).2)⟩, (of_decide_eq_false (b_or_f (g_f hg)).2)⟩ w hT.chg) fun _ _ _ _ e hE hR => ⟨_, e, hE, fun _ => by obtain ⟨p, hx, hV⟩ := cvty (α := Sl) (fun s => Sl.v s) (fun s w => y s w) (fun hg => by obtain ⟨p, h1, h2⟩ := hR hg; exact ⟨p, h1, h2⟩); exact ⟨p, fun hp => hV (g_mkf rfl (b_or_mkf ⟨(b_or_mkf ⟨(b_or_mkf ⟨hp.1.1.1, (decide_eq_false hp.1.1.2)⟩), (decide_eq_false hp.1.2)⟩), (decide_eq_false hp.2)⟩)), hx⟩⟩
  ·intro a w hT
   have hAp := hT.ag k [] trivial (by kernel_rfl)
   have hAp := hAp.add (t := 57) (v := .bool (((b || (decide (0 < (c.n : Int)))) || (decide (0 < (d.n : Int)))) || (decide (i ≠ j)))) (hT.vals 24 rfl 57 rfl)
   have hAp := hAp.add (t := 59) (v := cV (true && ((((b || (decide (0 < (c.n : Int)))) || (decide (0 < (d.n : Int)))) || (decide (i ≠ j))) == false)) (Sl.v u)) (hT.vals 26 rfl 59 rfl)
   obtain ⟨p, bD, bF⟩ := hT.vals 29 rfl 62 rfl
   have hAp := hAp.add bF
   exact opk_gcall hAp rfl rfl (g := true) (e := (((b || (decide (0 < (c.n : Int)))) || (decide (0 < (d.n : Int)))) || (decide (i ≠ j)))) rfl (fun hg => r_call (args := #[Sl.v u, Sl.v p]) Try.func70 (by decide) rfl (map_arr (ml_cons (cv_get (hAp.get rfl) hg) (ml_cons (cv_get (hAp.get rfl) hg) ml_nil))) rfl) (fun hg => bz ⟨⟨⟨(b_or_f (b_or_f (b_or_f (g_f hg)).1).1).1, (of_decide_eq_false (b_or_f (b_or_f (b_or_f (g_f hg)).1).1).2)⟩, (of_decide_eq_false (b_or_f (b_or_f (g_f hg)).1).2)⟩, (of_decide_eq_false (b_or_f (g_f hg)).2)⟩ p w hT.chg bD) fun _ _ _ e hE => ⟨_, e, hE, fun _ => Eq.refl _⟩
  ·intro a w hT
   have hAp := hT.ag k [] trivial (by kernel_rfl)
   have hAp := hAp.add (t := 57) (v := .bool (((b || (decide (0 < (c.n : Int)))) || (decide (0 < (d.n : Int)))) || (decide (i ≠ j)))) (hT.vals 24 rfl 57 rfl)
   have hAp := hAp.add (t := 63) (v := cV (true && ((((b || (decide (0 < (c.n : Int)))) || (decide (0 < (d.n : Int)))) || (decide (i ≠ j))) == false)) (.bool q)) (hT.vals 30 rfl 63 rfl)
   exact opk_gval hAp rfl rfl (g := true) (e := (((b || (decide (0 < (c.n : Int)))) || (decide (0 < (d.n : Int)))) || (decide (i ≠ j)))) rfl (fun hg => r_not (cv_get (hAp.get rfl) hg)) fun _ _ e => ⟨_, e, Chg.refl _ _, fun _ => Eq.refl _⟩
  ·intro a w hT
   have hAp := hT.ag k [] trivial (by kernel_rfl)
   have hAp := hAp.add (t := 57) (v := .bool (((b || (decide (0 < (c.n : Int)))) || (decide (0 < (d.n : Int)))) || (decide (i ≠ j)))) (hT.vals 24 rfl 57 rfl)
   have hAp := hAp.add (t := 64) (v := cV (true && ((((b || (decide (0 < (c.n : Int)))) || (decide (0 < (d.n : Int)))) || (decide (i ≠ j))) == false)) (.bool (!q))) (hT.vals 31 rfl 64 rfl)
   exact ovr hAp rfl (r_pick_or (g := (true && ((((b || (decide (0 < (c.n : Int)))) || (decide (0 < (d.n : Int)))) || (decide (i ≠ j))) == false))) (hAp.get rfl) (hAp.get rfl) (fun he => g_mkf rfl he)) fun _ => Eq.refl _
  ·intro a w hT
   have hAp := hT.ag k [] trivial (by kernel_rfl)
   have hAp := hAp.add (t := 65) (v := .bool ((((b || (decide (0 < (c.n : Int)))) || (decide (0 < (d.n : Int)))) || (decide (i ≠ j))) || (!q))) (hT.vals 32 rfl 65 rfl)
   exact ovr hAp rfl (r_assign (hAp.get rfl)) fun _ => Eq.refl _
  ·intro bG ab aX bH bI
   have bJ := bH [] trivial (by kernel_rfl)
   have bK : bG.tmps.getD 6 undef = .bool ((((b || (decide (0 < (c.n : Int)))) || (decide (0 < (d.n : Int)))) || (decide (i ≠ j))) || (!q)) := bI 33 rfl 6 rfl
   have bL := bJ.add bK
   have b5 := z.ext aX
   have bM : Chg [] r ab := aX
   refine PR_end (by kernel_rfl) ?_
   have aY := bL.kp [(6, .bool ((((b || (decide (0 < (c.n : Int)))) || (decide (0 < (d.n : Int)))) || (decide (i ≠ j))) || (!q)))] rfl
   refine then_normal ?_
   refine wp_ret ?_
   have bN := bA ab    bM
   exact res_all (vs := [.bool ((((b || (decide (0 < (c.n : Int)))) || (decide (0 < (d.n : Int)))) || (decide (i ≠ j))) || (!q))]) rfl aY ⟨res_of_tmp aY rfl, trivial⟩ bN
def ref25_C_id.vc (c : Addr) (b : Int) (R : Value → World → Prop) (w : World) : Prop :=
∃ (j : Option Addr), (w.cell? (c.add 2) = some (.pointer j)) ∧
∃ k : Addr, (j = some k) ∧
∃ (h : Sl), (w.cell? (k.add 1) = some (Sl.v h)) ∧
((0 : Int) ≤ b ∧ b < (h.n : Int)) ∧ ∃ l : Addr, h.a = some l ∧
∃ (d : Int), (w.cell? (l.add (b.toNat * 1)) = some (.int .i64 d)) ∧
((0 ≤ d) →
∃ (m : Option Addr), (w.cell? (c.add 2) = some (.pointer m)) ∧
∃ o : Addr, (m = some o) ∧
∃ (i : Sl), (w.cell? (o.add 1) = some (Sl.v i)) ∧
((0 : Int) ≤ b ∧ b < (i.n : Int)) ∧ ∃ p : Addr, i.a = some p ∧
∃ (f : Int), (w.cell? (p.add (b.toNat * 1)) = some (.int .i64 f)) ∧
R (.int .i64 f) w) ∧
((¬ (0 ≤ d)) →
(I64 ((-2) - b)) ∧
R (.int .i64 ((-2) - b)) w)
theorem ref25_C_id.ok (c : Addr) (b : Int) {R : Value → World → Prop} {w : World} (s : ref25_C_id.vc c b R w) : Calls Try.prog 67 #[.pointer (some c), .int .i64 b] w (Ret R) := by
 refine enter [.pointer (some c), .int .i64 b] Try.func67 rfl Try.ntmps67 rfl ?_
 intro a0 ay
 unfold ref25_C_id.vc at s
 refine wp_seq (wp_region_lit ?_)
 refine sqv ay rfl (r_assign rfl) fun _ az => sq_end ?_
 have t := az.kp [(0, .pointer (some c)), (1, .int .i64 b)] rfl
 refine then_normal (wp_seq (wp_seq (wp_region_lit ?_)))
 refine sqv t rfl (r_move (t.get rfl)) fun _ u => sqv u rfl (r_nilCheck (u.get rfl)) fun _ x => sqv x rfl (r_fieldAddr (x.get rfl) Try.underlying91 rfl ti_67 (by decide)) fun _ y => ?_
 obtain ⟨j, aA, aB⟩ := s
 refine sqv y rfl (r_load1 tU67 rfl (y.get rfl) aA) fun _ z => ?_
 obtain ⟨k, aC, aD⟩ := aB
 refine sqv z rfl (r_nilCheckP (((z.get rfl)).trans (congrArg Value.pointer aC))) fun _ aa => sqv aa rfl (r_fieldAddr (aa.get rfl) Try.underlying74 rfl ti_22 (by decide)) fun _ ab => ?_
 obtain ⟨h, aF, aG⟩ := aD
 refine sqv ab rfl (r_load1 tU22 rfl (ab.get rfl) aF) fun _ ad => sqv ad rfl (r_move (ad.get rfl)) fun _ q => ?_
 obtain ⟨aH, l, aI, aJ⟩ := aG
 refine sqv q rfl (r_indexAddr (q.get rfl) (q.get rfl) tU22 ti_3 aH aI) fun _ af => ?_
 obtain ⟨d, aK, ag⟩ := aJ
 refine sqv af rfl (r_load1 tU3 rfl (af.get rfl) aK) fun _ ah => sqv ah rfl (r_geq (ah.get rfl) rfl) fun _ aL => sq_end ?_
 have g := aL.kp [(0, .pointer (some c)), (1, .int .i64 b), (15, .bool (decide (0 ≤ d)))] rfl
 refine then_normal ?_
 refine wp_cond_split (g.get rfl) (fun hc => ?_) (fun hc => ?_)
 ·have aM := ag.1 (of_decide_eq_true hc)
  clear hc
  refine wp_seq (wp_region_lit ?_)
  refine sqv g rfl (r_move (g.get rfl)) fun _ ai => sqv ai rfl (r_nilCheck (ai.get rfl)) fun _ aj => sqv aj rfl (r_fieldAddr (aj.get rfl) Try.underlying91 rfl ti_67 (by decide)) fun _ ak => ?_
  obtain ⟨m, aN, aO⟩ := aM
  refine sqv ak rfl (r_load1 tU67 rfl (ak.get rfl) aN) fun _ al => ?_
  obtain ⟨o, aP, aQ⟩ := aO
  refine sqv al rfl (r_nilCheckP (((al.get rfl)).trans (congrArg Value.pointer aP))) fun _ am => sqv am rfl (r_fieldAddr (am.get rfl) Try.underlying74 rfl ti_22 (by decide)) fun _ an => ?_
  obtain ⟨i, aR, aS⟩ := aQ
  refine sqv an rfl (r_load1 tU22 rfl (an.get rfl) aR) fun _ ao => sqv ao rfl (r_move (ao.get rfl)) fun _ r => ?_
  obtain ⟨aT, p, aU, aV⟩ := aS
  refine sqv r rfl (r_indexAddr (r.get rfl) (r.get rfl) tU22 ti_3 aT aU) fun _ ap => ?_
  obtain ⟨f, aX, aY⟩ := aV
  refine sqv ap rfl (r_load1 tU3 rfl (ap.get rfl) aX) fun _ aq => sqv aq rfl (r_assign (aq.get rfl)) fun _ aZ => sq_end ?_
  have ar := aZ.kp [(4, .int .i64 f)] rfl
  refine then_normal ?_
  refine wp_ret ?_
  refine then_ret ?_
  exact res_all (vs := [.int .i64 f]) rfl ar ⟨res_of_tmp ar rfl, trivial⟩ aY
 ·have ht34 := ag.2 (of_decide_eq_false hc)
  clear hc
  refine wp_skip ?_
  refine then_normal (wp_seq (wp_region_lit ?_))
  refine sqv g rfl (r_move (g.get rfl)) fun _ au => ?_
  obtain ⟨a1, a2⟩ := ht34
  refine sqv au rfl (r_subI rfl (au.get rfl) a1) fun _ av => sqv av rfl (r_assign (av.get rfl)) fun _ a3 => sq_end ?_
  have ax := a3.kp [(4, .int .i64 ((-2) - b))] rfl
  refine then_normal ?_
  refine wp_ret ?_
  exact res_all (vs := [.int .i64 ((-2) - b)]) rfl ax ⟨res_of_tmp ax rfl, trivial⟩ a2
def ref25_C_Kids.vc (f : Addr) (g : Int) (R : Value → World → Prop) (w : World) : Prop :=
∃ (l : Sl), (w.cell? (f.add 1) = some (Sl.v l)) ∧
CallK Try.prog 17 #[Sl.v l, .int .i64 g] w [] (fun v u => ∃ (c : Sl), v = Sl.v c ∧
∃ (k : Int → World → Prop) (m : Int → World → Nat),
k 0 u ∧
(∀ (d : Int) (h : World), k d h →
((d < (c.n : Int)) →
((0 : Int) ≤ d ∧ d < (c.n : Int)) ∧ ∃ x : Addr, c.a = some x ∧
∃ (o : Int), (h.cell? (x.add (d.toNat * 1)) = some (.int .i64 o)) ∧
CallK Try.prog 67 #[.pointer (some f), .int .i64 o] h [] (fun v y => ∃ (p : Int), v = .int .i64 p ∧
((0 : Int) ≤ d ∧ d < (c.n : Int)) ∧ ∃ z : Addr, c.a = some z ∧
∃ (j q : Nat) (aa : TypeId) (r : List Value), (z.add (d.toNat * 1)) = ⟨j, q, none⟩ ∧ Box y j aa r ∧ q + 1 ≤ r.length ∧ (∀ b ∈ [], b ≠ j) ∧
(∀ i : World, Chg [j] y i → Box i j aa (putAt r q [.int .i64 p]) →
(I64 (d + 1)) ∧
k (d + 1) i ∧ m (d + 1) i < m d h))) ∧
((¬ (d < (c.n : Int))) →
R (Sl.v c) h)))
theorem ref25_C_Kids.ok (f : Addr) (g : Int) {R : Value → World → Prop} {w : World} (aj : ref25_C_Kids.vc f g R w) : Calls Try.prog 68 #[.pointer (some f), .int .i64 g] w (Ret R) := by
 refine enter [.pointer (some f), .int .i64 g] Try.func68 rfl Try.ntmps68 rfl ?_
 intro a0 aL
 unfold ref25_C_Kids.vc at aj
 refine wp_seq (wp_region_lit ?_)
 refine sqv aL rfl (r_assign rfl) fun _ aM => sq_end ?_
 have ak := aM.kp [(0, .pointer (some f)), (1, .int .i64 g)] rfl
 refine then_normal (wp_seq (wp_region_lit ?_))
 refine sqv ak rfl (r_move (ak.get rfl)) fun _ al => sqv al rfl (r_nilCheck (al.get rfl)) fun _ am => sqv am rfl (r_fieldAddr (am.get rfl) Try.underlying91 rfl ti_31 (by decide)) fun _ an => ?_
 obtain ⟨l, aN, aO⟩ := aj
 refine sqv an rfl (r_load1 tU31 rfl (an.get rfl) aN) fun _ ao => sqv ao rfl (r_move (ao.get rfl)) fun _ ab => ?_
 refine sq (opk_call ab rfl (r_call (args := #[Sl.v l, .int .i64 g]) Try.func17 (by decide) rfl (map_arr (ml_cons (ab.get rfl) (ml_cons (ab.get rfl) ml_nil))) rfl) aO fun br bs u ap _ bt bu aP => ?_)
 obtain ⟨c, rfl, aQ⟩ := aP
 refine sqv ap rfl (r_assign (ap.get rfl)) fun _ aR => sq_end ?_
 have aS := aR.kp [(0, .pointer (some f)), (5, Sl.v c)] rfl
 refine then_normal (wp_seq (wp_seq (wp_region_lit ?_)))
 refine sqv aS rfl (r_assign rfl) fun _ aT => sq_end ?_
 have aU := aT.kp [(0, .pointer (some f)), (5, Sl.v c), (6, .int .i64 0)] rfl
 refine then_normal (wp_block ?_)
 obtain ⟨k, m, aV, aX⟩ := aQ
 refine wp_loop_st (σ := Int × World) (fun s a w => Ag 29 a [(0, .pointer (some f)), (5, Sl.v c), (6, .int .i64 s.1)] ∧ w = s.2 ∧ k s.1 s.2) (fun s => m s.1 s.2) (0, u) ⟨aU.kp [(0, .pointer (some f)), (5, Sl.v c), (6, .int .i64 0)] rfl, rfl, aV⟩ ?_
 rintro ⟨d, h⟩ bv w_ ⟨aq, hw_, aY⟩
 have hw_ : h = w_ := hw_.symm
 subst hw_
 have ar := aX d _ aY
 refine wp_seq (wp_seq (wp_region_lit ?_))
 refine sqv aq rfl (r_move (aq.get rfl)) fun _ au => sqv au rfl (r_move (au.get rfl)) fun _ av => sqv av rfl (r_len (av.get rfl) tU22) fun _ ad => sqv ad rfl (r_lss (ad.get rfl) (ad.get rfl)) fun _ aZ => sq_end ?_
 have t := aZ.kp [(0, .pointer (some f)), (5, Sl.v c), (6, .int .i64 d), (16, .bool (decide (d < (c.n : Int))))] rfl
 refine then_normal ?_
 refine wp_cond_split (t.get rfl) (fun hc => ?_) (fun hc => ?_)
 ·have ht95 := ar.1 (of_decide_eq_true hc)
  clear hc
  refine wp_skip ?_
  refine then_normal (wp_seq (wp_block (wp_region_lit ?_)))
  refine sqv t rfl (r_move (t.get rfl)) fun _ ax => sqv ax rfl (r_move (ax.get rfl)) fun _ ay => sqv ay rfl (r_move (ay.get rfl)) fun _ az => sqv az rfl (r_move (az.get rfl)) fun _ aA => sqv aA rfl (r_move (aA.get rfl)) fun _ af => ?_
  obtain ⟨a1, x, a2, a3⟩ := ht95
  refine sqv af rfl (r_indexAddr (af.get rfl) (af.get rfl) tU22 ti_3 a1 a2) fun _ aB => ?_
  obtain ⟨o, a4, a5⟩ := a3
  refine sqv aB rfl (r_load1 tU3 rfl (aB.get rfl) a4) fun _ ag => ?_
  refine sq (opk_call ag rfl (r_call (args := #[.pointer (some f), .int .i64 o]) Try.func67 (by decide) rfl (map_arr (ml_cons (ag.get rfl) (ml_cons (ag.get rfl) ml_nil))) rfl) a5 fun bx bz y ah _ bA bB a6 => ?_)
  obtain ⟨p, rfl, a7⟩ := a6
  obtain ⟨a8, z, a9, ba⟩ := a7
  refine sqv ah rfl (r_indexAddr (ah.get rfl) (ah.get rfl) tU22 ti_3 a8 a9) fun _ ai => ?_
  obtain ⟨j, q, aa, r, bb, aC, bd, bC, bf⟩ := ba
  refine sq (opk_store ai aC (r_store (vs := [.int .i64 p]) (((ai.get rfl)).trans (congrArg (fun a => Value.pointer (some a)) bb)) (ai.get rfl) rfl ti_3 aC (Nat.ble_eq_true_of_le bd) (ones_all _ rfl)) fun bD i bg bh bi => ?_)
  have bj := bf i bg bh
  refine sq_end ?_
  have aD := bi.kp [(0, .pointer (some f)), (5, Sl.v c), (6, .int .i64 d)] rfl
  refine block_normal ?_
  refine then_normal (wp_region_lit ?_)
  refine sqv aD rfl (r_move (aD.get rfl)) fun _ aF => ?_
  obtain ⟨bk, aG⟩ := bj
  refine sqv aF rfl (r_addI (aF.get rfl) rfl bk) fun _ aH => sqv aH rfl (r_assign (aH.get rfl)) fun _ bl => sq_end ?_
  have bm := bl.kp [(0, .pointer (some f)), (5, Sl.v c), (6, .int .i64 (d + 1))] rfl
  have bn := bm.kp [(0, .pointer (some f)), (5, Sl.v c), (6, .int .i64 (d + 1))] rfl
  exact then_normal ⟨(d + 1, i), ⟨bn, rfl, aG.1⟩, aG.2⟩
 ·have bo := ar.2 (of_decide_eq_false hc)
  clear hc
  refine wp_exit ?_
  refine then_exit ?_
  refine then_exit ?_
  refine block_hit ?_
  have aI := t.kp [(5, Sl.v c)] rfl
  refine then_normal (wp_seq (wp_region_lit ?_))
  refine sqv aI rfl (r_move (aI.get rfl)) fun _ aJ => sqv aJ rfl (r_assign (aJ.get rfl)) fun _ bp => sq_end ?_
  have aK := bp.kp [(4, Sl.v c)] rfl
  refine then_normal ?_
  refine wp_ret ?_
  exact res_all (vs := [Sl.v c]) rfl aK ⟨res_of_tmp aK rfl, trivial⟩ bo
def ref25_Same.vc (c : Sl) (d : Sl) (R : Value → World → Prop) (w : World) : Prop :=
(((c.n : Int) ≠ (d.n : Int)) →
R (.bool false) w) ∧
((¬ ((c.n : Int) ≠ (d.n : Int))) →
∃ (m : Int → World → Prop) (q : Int → World → Nat),
m 0 w ∧
(∀ (b : Int) (l : World), m b l →
((b < (c.n : Int)) →
∀ (i : World), Chg [] l i →
∃ o : Addr, (((0 : Int) ≤ b ∧ b < (c.n : Int)) ∧ c.a = some o) ∧
∃ (j : Int), (i.cell? (o.add (b.toNat * 1)) = some (.int .i64 j)) ∧
∃ p : Addr, (((0 : Int) ≤ b ∧ b < (d.n : Int)) ∧ d.a = some p) ∧
∃ (k : Int), (i.cell? (p.add (b.toNat * 1)) = some (.int .i64 k)) ∧
((j ≠ k) →
∀ (g : World), Chg [] i g →
R (.bool false) g) ∧
((¬ (j ≠ k)) →
(I64 (b + 1)) ∧
∀ (g : World), Chg [] i g →
m (b + 1) g ∧ q (b + 1) g < q b l)) ∧
((¬ (b < (c.n : Int))) →
R (.bool true) l)))
theorem ref25_Same.ok (c : Sl) (d : Sl) {R : Value → World → Prop} {w : World} (u : ref25_Same.vc c d R w) : Calls Try.prog 70 #[Sl.v c, Sl.v d] w (Ret R) := by
 refine enter [Sl.v c, Sl.v d] Try.func70 rfl Try.ntmps70 rfl ?_
 intro a0 ay
 unfold ref25_Same.vc at u
 refine wp_seq (wp_region_lit ?_)
 refine sqv ay rfl (r_assign rfl) fun _ az => sq_end ?_
 have aa := az.kp [(0, Sl.v c), (1, Sl.v d)] rfl
 refine then_normal (wp_seq (wp_seq (wp_region_lit ?_)))
 refine sqv aa rfl (r_move (aa.get rfl)) fun _ ab => sqv ab rfl (r_len (ab.get rfl) tU22) fun _ ad => sqv ad rfl (r_move (ad.get rfl)) fun _ af => sqv af rfl (r_len (af.get rfl) tU22) fun _ x => sqv x rfl (r_neq (x.get rfl) (x.get rfl)) fun _ aA => sq_end ?_
 have y := aA.kp [(0, Sl.v c), (1, Sl.v d), (10, .bool (decide ((c.n : Int) ≠ (d.n : Int))))] rfl
 refine then_normal ?_
 refine wp_cond_split (y.get rfl) (fun hc => ?_) (fun hc => ?_)
 ·have aB := u.1 (of_decide_eq_true hc)
  clear hc
  refine wp_seq (wp_region_lit ?_)
  refine sqv y rfl (r_assign rfl) fun _ aC => sq_end ?_
  have ah := aC.kp [(4, .bool false)] rfl
  refine then_normal ?_
  refine wp_ret ?_
  refine then_ret ?_
  exact res_all (vs := [.bool false]) rfl ah ⟨res_of_tmp ah rfl, trivial⟩ aB
 ·have aD := u.2 (of_decide_eq_false hc)
  clear hc
  refine wp_skip ?_
  refine then_normal (wp_seq (wp_seq (wp_region_lit ?_)))
  refine sqv y rfl (r_assign rfl) fun _ aF => sq_end ?_
  have aG := aF.kp [(0, Sl.v c), (1, Sl.v d), (5, .int .i64 0)] rfl
  refine then_normal (wp_block ?_)
  obtain ⟨m, q, aH, aI⟩ := aD
  refine wp_loop_st (σ := Int × World) (fun s a w => Ag 26 a [(0, Sl.v c), (1, Sl.v d), (5, .int .i64 s.1)] ∧ w = s.2 ∧ m s.1 s.2) (fun s => q s.1 s.2) (0, w) ⟨aG.kp [(0, Sl.v c), (1, Sl.v d), (5, .int .i64 0)] rfl, rfl, aH⟩ ?_
  rintro ⟨b, l⟩ bh w_ ⟨ai, hw_, aJ⟩
  have hw_ : l = w_ := hw_.symm
  subst hw_
  have aj := aI b _ aJ
  refine wp_seq (wp_seq (wp_region_lit ?_))
  refine sqv ai rfl (r_move (ai.get rfl)) fun _ ak => sqv ak rfl (r_move (ak.get rfl)) fun _ al => sqv al rfl (r_len (al.get rfl) tU22) fun _ z => sqv z rfl (r_lss (z.get rfl) (z.get rfl)) fun _ aK => sq_end ?_
  have f := aK.kp [(0, Sl.v c), (1, Sl.v d), (5, .int .i64 b), (14, .bool (decide (b < (c.n : Int))))] rfl
  refine then_normal ?_
  refine wp_cond_split (f.get rfl) (fun hc => ?_) (fun hc => ?_)
  ·have aL := aj.1 (of_decide_eq_true hc)
   clear hc
   refine wp_skip ?_
   refine then_normal (wp_seq (wp_block (wp_seq ?_)))
   refine draw' (by kernel_rfl) fun i aM => ?_
   have aN : Chg [] l i := aM
   have aO := aL i    aN
   obtain ⟨o, am, aP⟩ := aO
   obtain ⟨j, aQ, aR⟩ := aP
   obtain ⟨p, an, aS⟩ := aR
   obtain ⟨k, aT, ao⟩ := aS
   refine par (D := [[], [], [0, 1], [0, 1, 2], [], [], [4, 5], [4, 5, 6], [0, 1, 2, 3, 4, 5, 6, 7]]) (S := [0, 1, 2, 3, 4, 5, 6, 7, 8]) (F := []) (V := VL [(0, fun v _ => v = Sl.v c), (1, fun v _ => v = .int .i64 b), (2, fun v _ => v = .pointer (some (o.add (b.toNat * 1)))), (3, fun v _ => v = .int .i64 j), (4, fun v _ => v = Sl.v d), (5, fun v _ => v = .int .i64 b), (6, fun v _ => v = .pointer (some (p.add (b.toNat * 1)))), (7, fun v _ => v = .int .i64 k), (8, fun v _ => v = .bool (decide (j ≠ k)))]) f (by kernel_rfl) ⟨fun _ _ _ _ h => h, fun _ _ _ _ h => h, fun _ _ _ _ h => h, fun _ _ _ _ h => h, fun _ _ _ _ h => h, fun _ _ _ _ h => h, fun _ _ _ _ h => h, fun _ _ _ _ h => h, fun _ _ _ _ h => h, trivial⟩ ⟨?_, ?_, ?_, ?_, ?_, ?_, ?_, ?_, ?_, trivial⟩ ?_
   ·intro a w hT
    have hAp := hT.ag f [(0, Sl.v c)] ⟨rfl, trivial⟩ (by kernel_rfl)
    exact ovr hAp rfl (r_move (hAp.get rfl)) fun _ => Eq.refl _
   ·intro a w hT
    have hAp := hT.ag f [(5, .int .i64 b)] ⟨rfl, trivial⟩ (by kernel_rfl)
    exact ovr hAp rfl (r_move (hAp.get rfl)) fun _ => Eq.refl _
   ·intro a w hT
    have hAp := hT.ag f [] trivial (by kernel_rfl)
    have hAp := hAp.add (t := 17) (v := Sl.v c) (hT.vals 0 rfl 17 rfl)
    have hAp := hAp.add (t := 18) (v := .int .i64 b) (hT.vals 1 rfl 18 rfl)
    exact ovr hAp rfl (r_indexAddr (hAp.get rfl) (hAp.get rfl) tU22 ti_3 am.1 am.2) fun _ => Eq.refl _
   ·intro a w hT
    have hAp := hT.ag f [] trivial (by kernel_rfl)
    have hAp := hAp.add (t := 19) (v := .pointer (some (o.add (b.toNat * 1)))) (hT.vals 2 rfl 19 rfl)
    exact ovr hAp rfl (r_load1 tU3 rfl (hAp.get rfl) (Ext.cell hT.chg aQ)) fun _ => Eq.refl _
   ·intro a w hT
    have hAp := hT.ag f [(1, Sl.v d)] ⟨rfl, trivial⟩ (by kernel_rfl)
    exact ovr hAp rfl (r_move (hAp.get rfl)) fun _ => Eq.refl _
   ·intro a w hT
    have hAp := hT.ag f [(5, .int .i64 b)] ⟨rfl, trivial⟩ (by kernel_rfl)
    exact ovr hAp rfl (r_move (hAp.get rfl)) fun _ => Eq.refl _
   ·intro a w hT
    have hAp := hT.ag f [] trivial (by kernel_rfl)
    have hAp := hAp.add (t := 21) (v := Sl.v d) (hT.vals 4 rfl 21 rfl)
    have hAp := hAp.add (t := 22) (v := .int .i64 b) (hT.vals 5 rfl 22 rfl)
    exact ovr hAp rfl (r_indexAddr (hAp.get rfl) (hAp.get rfl) tU22 ti_3 an.1 an.2) fun _ => Eq.refl _
   ·intro a w hT
    have hAp := hT.ag f [] trivial (by kernel_rfl)
    have hAp := hAp.add (t := 23) (v := .pointer (some (p.add (b.toNat * 1)))) (hT.vals 6 rfl 23 rfl)
    exact ovr hAp rfl (r_load1 tU3 rfl (hAp.get rfl) (Ext.cell hT.chg aT)) fun _ => Eq.refl _
   ·intro a w hT
    have hAp := hT.ag f [] trivial (by kernel_rfl)
    have hAp := hAp.add (t := 20) (v := .int .i64 j) (hT.vals 3 rfl 20 rfl)
    have hAp := hAp.add (t := 24) (v := .int .i64 k) (hT.vals 7 rfl 24 rfl)
    exact ovr hAp rfl (r_neq (hAp.get rfl) (hAp.get rfl)) fun _ => Eq.refl _
   ·intro aU g aV aX aY
    have aZ := aX [(0, Sl.v c), (1, Sl.v d), (5, .int .i64 b)] ⟨rfl, rfl, rfl, trivial⟩ (by kernel_rfl)
    have e115 : aU.tmps.getD 25 undef = .bool (decide (j ≠ k)) := aY 8 rfl 25 rfl
    have a1 := aZ.add e115
    have ap : Chg [] i g := aV
    refine PR_end (by kernel_rfl) ?_
    have r := a1.kp [(0, Sl.v c), (1, Sl.v d), (5, .int .i64 b), (25, .bool (decide (j ≠ k)))] rfl
    refine then_normal ?_
    refine wp_cond_split (r.get rfl) (fun hc => ?_) (fun hc => ?_)
    ·have a2 := ao.1 (of_decide_eq_true hc)
     clear hc
     refine wp_seq (wp_region_lit ?_)
     refine sqv r rfl (r_assign rfl) fun _ a3 => sq_end ?_
     have aq := a3.kp [(4, .bool false)] rfl
     refine then_normal ?_
     refine wp_ret ?_
     refine block_ret ?_
     refine then_ret ?_
     refine then_ret ?_
     refine block_ret ?_
     refine then_ret ?_
     have a4 := a2 g    ap
     exact res_all (vs := [.bool false]) rfl aq ⟨res_of_tmp aq rfl, trivial⟩ a4
    ·have a5 := ao.2 (of_decide_eq_false hc)
     clear hc
     refine wp_skip ?_
     refine block_normal ?_
     refine then_normal (wp_region_lit ?_)
     refine sqv r rfl (r_move (r.get rfl)) fun _ ar => ?_
     obtain ⟨a6, a7⟩ := a5
     refine sqv ar rfl (r_addI (ar.get rfl) rfl a6) fun _ au => sqv au rfl (r_assign (au.get rfl)) fun _ a8 => sq_end ?_
     have a9 := a8.kp [(0, Sl.v c), (1, Sl.v d), (5, .int .i64 (b + 1))] rfl
     have av := a7 g    ap
     have ba := a9.kp [(0, Sl.v c), (1, Sl.v d), (5, .int .i64 (b + 1))] rfl
     exact then_normal ⟨(b + 1, g), ⟨ba, rfl, av.1⟩, av.2⟩
  ·have bb := aj.2 (of_decide_eq_false hc)
   clear hc
   refine wp_exit ?_
   refine then_exit ?_
   refine then_exit ?_
   refine block_hit ?_
   have bd := f.kp [] rfl
   refine then_normal (wp_seq (wp_region_lit ?_))
   refine sqv bd rfl (r_assign rfl) fun _ bf => sq_end ?_
   have ax := bf.kp [(4, .bool true)] rfl
   refine then_normal ?_
   refine wp_ret ?_
   exact res_all (vs := [.bool true]) rfl ax ⟨res_of_tmp ax rfl, trivial⟩ bb
end Go.Proofs.Yteohbfaechfliaa
