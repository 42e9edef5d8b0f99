/-
  PRINTED BY PROGRAM: for each function its condition (vc), and that this suffices (ok).
-/
import Derived.Test.YtghmgfkdnolcdaaQApplyPartsGT
namespace Go.Proofs.Ytghmgfkdnolcdaa
open Go.RowKit
set_option linter.unusedVariables false
set_option maxHeartbeats 1000000
set_option maxRecDepth 10000
def law23_few.vc (c : Sl) (R : Value → World → Prop) (w : World) : Prop :=
∃ (i : Int → World → Prop) (k : Int → World → Nat),
i 0 w ∧
(∀ (b : Int) (f : World), i b f →
(((b < (c.n : Int)) ∧ (b < 100)) →
((0 : Int) ≤ b ∧ b < (c.n : Int)) ∧ ∃ o : Addr, c.a = some o ∧
∃ (d : Str), (f.cell? ((o.add (b.toNat * 7)).add 5) = some (.string (Bs d))) ∧
∃ p : Addr, (((¬ (200 < (d.length : Int)))) → ((0 : Int) ≤ b ∧ b < (c.n : Int)) ∧  c.a = some p) ∧
∃ (j : Str), (((¬ (200 < (d.length : Int)))) → f.cell? ((p.add (b.toNat * 7)).add 6) = some (.string (Bs j))) ∧
(((200 < (d.length : Int)) ∨ (6000 < (j.length : Int))) →
R (.bool false) f) ∧
(((¬ (200 < (d.length : Int))) ∧ (¬ (6000 < (j.length : Int)))) →
(I64 (b + 1)) ∧
i (b + 1) f ∧ k (b + 1) f < k b f)) ∧
(((¬ (b < (c.n : Int))) ∨ (¬ (b < 100))) →
R (.bool (decide ((c.n : Int) ≤ 100))) f))
theorem law23_few.ok (c : Sl) {R : Value → World → Prop} {w : World} (y : law23_few.vc c R w) : Calls Try.prog 36 #[Sl.v c] w (Ret R) := by
 refine enter [Sl.v c] Try.func36 rfl Try.ntmps36 rfl ?_
 intro a0 aJ
 unfold law23_few.vc at y
 refine wp_seq (wp_region_lit ?_)
 refine sqv aJ rfl (r_assign rfl) fun _ aK => ?_
 refine sq_end ?_
 have aL := aK.keep [(0, Sl.v c)] ⟨rfl, trivial⟩
 refine then_normal (wp_seq (wp_seq (wp_region_lit ?_)))
 refine sqv aL rfl (r_assign rfl) fun _ aM => ?_
 refine sq_end ?_
 have aN := aM.keep [(0, Sl.v c), (3, .int .i64 0)] ⟨rfl, rfl, trivial⟩
 refine then_normal (wp_block ?_)
 obtain ⟨i, k, aO, aP⟩ := y
 refine wp_loop_st (σ := Int × World) (fun s a w => Ag 33 a [(0, Sl.v c), (3, .int .i64 s.1)] ∧ w = s.2 ∧ i s.1 s.2) (fun s => k s.1 s.2) (0, w) ⟨aN.keep [(0, Sl.v c), (3, .int .i64 0)] ⟨rfl, rfl, trivial⟩, rfl, aO⟩ ?_
 rintro ⟨b, f⟩ bd w_ ⟨z, hw_, aQ⟩
 have hw_ : f = w_ := hw_.symm
 subst hw_
 have aa := aP b _ aQ
 refine wp_seq (wp_seq (wp_region_lit ?_))
 refine sqv z rfl (r_move (z.get rfl)) fun _ ab => ?_
 refine sqv ab rfl (r_move (ab.get rfl)) fun _ ad => ?_
 refine sqv ad rfl (r_len (ad.get rfl) Try.underlying46) fun _ q => ?_
 refine sqv q rfl (r_lss (q.get rfl) (q.get rfl)) fun _ af => ?_
 refine sqv af rfl (r_move (af.get rfl)) fun _ ag => ?_
 refine sq (opk_gval ag rfl rfl (g := true) (e := (decide (b < (c.n : Int)))) rfl (fun hg => r_move (ag.get rfl)) fun bf ah _ => ?_)
 refine sq (opk_gval ah rfl rfl (g := true) (e := (decide (b < (c.n : Int)))) rfl (fun hg => r_lss (cv_get (ah.get rfl) hg) rfl) fun bg r _ => ?_)
 refine sqv r rfl (r_pick_and (g := (true && ((decide (b < (c.n : Int))) == true))) (r.get rfl) (r.get rfl) (fun he => g_mkt rfl he)) fun _ aR => ?_
 refine sq_end ?_
 have l := aR.keep [(0, Sl.v c), (3, .int .i64 b), (11, .bool ((decide (b < (c.n : Int))) && (decide (b < 100))))] ⟨rfl, rfl, rfl, trivial⟩
 refine then_normal ?_
 refine wp_cond_split (l.get rfl) (fun hc => ?_) (fun hc => ?_)
 ·have aS := aa.1 ⟨(of_decide_eq_true (b_and_t hc).1), (of_decide_eq_true (b_and_t hc).2)⟩
  clear hc
  refine wp_skip ?_
  refine then_normal (wp_seq (wp_block (wp_seq (wp_region_lit ?_))))
  refine sqv l rfl (r_move (l.get rfl)) fun _ ai => ?_
  refine sqv ai rfl (r_move (ai.get rfl)) fun _ t => ?_
  obtain ⟨aT, o, aU, aV⟩ := aS
  refine sqv t rfl (r_indexAddr (t.get rfl) (t.get rfl) Try.underlying46 ti_48 aT aU) fun _ aj => ?_
  refine sqv aj rfl (r_fieldAddr (aj.get rfl) Try.underlying48 rfl ti_9 (by decide)) fun _ ak => ?_
  obtain ⟨d, aX, aY⟩ := aV
  refine sqv ak rfl (r_load1 Try.underlying9 rfl (ak.get rfl) aX) fun _ al => ?_
  refine sqv al rfl (r_slen (al.get rfl) Try.underlying9) fun _ am => ?_
  refine sqv am rfl (r_gtr (am.get rfl) rfl) fun _ an => ?_
  refine sqv an rfl (r_move (an.get rfl)) fun _ ao => ?_
  refine sq (opk_gval ao rfl rfl (g := true) (e := (decide (200 < (d.length : Int)))) rfl (fun hg => r_move (ao.get rfl)) fun bh ap _ => ?_)
  refine sq (opk_gval ap rfl rfl (g := true) (e := (decide (200 < (d.length : Int)))) rfl (fun hg => r_move (ap.get rfl)) fun bi u _ => ?_)
  obtain ⟨p, aq, aZ⟩ := aY
  refine sq (opk_gval u rfl rfl (g := true) (e := (decide (200 < (d.length : Int)))) rfl (fun hg => r_indexAddr (cv_get (u.get rfl) hg) (cv_get (u.get rfl) hg) Try.underlying46 ti_48 (aq (of_decide_eq_false (g_f hg))).1 (aq (of_decide_eq_false (g_f hg))).2) fun bj ar _ => ?_)
  refine sq (opk_gval ar rfl rfl (g := true) (e := (decide (200 < (d.length : Int)))) rfl (fun hg => r_fieldAddr (cv_get (ar.get rfl) hg) Try.underlying48 rfl ti_9 (by decide)) fun bk au _ => ?_)
  obtain ⟨j, hx104, av⟩ := aZ
  refine sq (opk_gval au rfl rfl (g := true) (e := (decide (200 < (d.length : Int)))) rfl (fun hg => r_load1 Try.underlying9 rfl (cv_get (au.get rfl) hg) (hx104 (of_decide_eq_false (g_f hg)))) fun bl ax _ => ?_)
  refine sq (opk_gval ax rfl rfl (g := true) (e := (decide (200 < (d.length : Int)))) rfl (fun hg => r_slen (cv_get (ax.get rfl) hg) Try.underlying9) fun bm ay _ => ?_)
  refine sq (opk_gval ay rfl rfl (g := true) (e := (decide (200 < (d.length : Int)))) rfl (fun hg => r_gtr (cv_get (ay.get rfl) hg) rfl) fun bn x _ => ?_)
  refine sqv x rfl (r_pick_or (g := (true && ((decide (200 < (d.length : Int))) == false))) (x.get rfl) (x.get rfl) (fun he => g_mkf rfl he)) fun _ a1 => ?_
  refine sq_end ?_
  have m := a1.keep [(0, Sl.v c), (3, .int .i64 b), (29, .bool ((decide (200 < (d.length : Int))) || (decide (6000 < (j.length : Int)))))] ⟨rfl, rfl, rfl, trivial⟩
  refine then_normal ?_
  refine wp_cond_split (m.get rfl) (fun hc => ?_) (fun hc => ?_)
  ·have a2 := av.1 ((b_or_t hc).imp (fun h => (of_decide_eq_true h)) (fun h => (of_decide_eq_true h)))
   clear hc
   refine wp_seq (wp_region_lit ?_)
   refine sqv m rfl (r_assign rfl) fun _ a3 => ?_
   refine sq_end ?_
   have az := a3.keep [(2, .bool false)] ⟨rfl, trivial⟩
   refine then_normal ?_
   refine wp_ret ?_
   refine block_ret ?_
   refine then_ret ?_
   refine then_ret ?_
   refine block_ret ?_
   refine then_ret ?_
   exact res_all (vs := [.bool false]) rfl az ⟨res_of_tmp az rfl, trivial⟩ a2
  ·have a4 := av.2 ⟨(of_decide_eq_false (b_or_f hc).1), (of_decide_eq_false (b_or_f hc).2)⟩
   clear hc
   refine wp_skip ?_
   refine block_normal ?_
   refine then_normal (wp_region_lit ?_)
   refine sqv m rfl (r_move (m.get rfl)) fun _ aA => ?_
   obtain ⟨a5, aB⟩ := a4
   refine sqv aA rfl (r_addI (aA.get rfl) rfl a5) fun _ aC => ?_
   refine sqv aC rfl (r_assign (aC.get rfl)) fun _ a6 => ?_
   refine sq_end ?_
   have a7 := a6.keep [(0, Sl.v c), (3, .int .i64 (b + 1))] ⟨rfl, rfl, trivial⟩
   have a8 := a7.keep [(0, Sl.v c), (3, .int .i64 (b + 1))] ⟨rfl, rfl, trivial⟩
   exact then_normal ⟨(b + 1, f), ⟨a8, rfl, aB.1⟩, aB.2⟩
 ·have a9 := aa.2 ((b_and_f hc).imp (fun h => (of_decide_eq_false h)) (fun h => (of_decide_eq_false h)))
  clear hc
  refine wp_exit ?_
  refine then_exit ?_
  refine then_exit ?_
  refine block_hit ?_
  have aD := l.keep [(0, Sl.v c)] ⟨rfl, trivial⟩
  refine then_normal (wp_seq (wp_region_lit ?_))
  refine sqv aD rfl (r_move (aD.get rfl)) fun _ aF => ?_
  refine sqv aF rfl (r_len (aF.get rfl) Try.underlying46) fun _ aG => ?_
  refine sqv aG rfl (r_leq (aG.get rfl) rfl) fun _ aH => ?_
  refine sqv aH rfl (r_assign (aH.get rfl)) fun _ ba => ?_
  refine sq_end ?_
  have aI := ba.keep [(2, .bool (decide ((c.n : Int) ≤ 100)))] ⟨rfl, trivial⟩
  refine then_normal ?_
  refine wp_ret ?_
  exact res_all (vs := [.bool (decide ((c.n : Int) ≤ 100))]) rfl aI ⟨res_of_tmp aI rfl, trivial⟩ a9
end Go.Proofs.Ytghmgfkdnolcdaa
