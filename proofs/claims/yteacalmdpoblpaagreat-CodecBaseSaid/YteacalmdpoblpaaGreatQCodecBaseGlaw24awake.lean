/-
  PRINTED BY PROGRAM: for each function its condition (vc), and that this suffices (ok).
-/
import Derived.Test.YteacalmdpoblpaaGreatQCodecBaseGT
namespace Go.Proofs.YteacalmdpoblpaaGreat
open Go.RowKit
set_option linter.unusedVariables false
set_option maxHeartbeats 1000000
set_option maxRecDepth 10000
def law24_awake.vc  (R : Value → World → Prop) (w : World) : Prop :=
CallK Tryz.prog 8 #[.int .u64 1, .int .u64 2, Sl.v Sl.nil] w [] (fun v o => ∃ (b : Sl) (a : Int), v = .tuple #[Sl.v b, .int .i64 a] ∧
CallK Tryz.prog 11 #[Sl.v b] o [] (fun v p => ∃ (d : Int) (f : Int) (h : Sl) (c : Int), v = .tuple #[.int .u64 d, .int .u64 f, Sl.v h, .int .i64 c] ∧
R (.bool ((((((decide (a = 0)) && (decide ((b.n : Int) = 26))) && (decide (c = 0))) && (decide (d = 1))) && (decide (f = 2))) && (decide ((h.n : Int) = 0)))) p))
theorem law24_awake.ok  {R : Value → World → Prop} {w : World} (q : law24_awake.vc  R w) : Calls Tryz.prog 7 #[] w (Ret R) := by
 refine enter [] Tryz.func7 rfl Tryz.ntmps7 rfl ?_
 intro a0 aK
 unfold law24_awake.vc at q
 refine wp_seq (wp_region_lit ?_)
 refine sqv aK rfl (r_assign rfl) fun _ aL => sq_end ?_
 have aM := aL.kp [] rfl
 refine then_normal (wp_seq (wp_region_lit ?_))
 refine sq (opk_call aM rfl (r_call (args := #[.int .u64 1, .int .u64 2, Sl.v Sl.nil]) Tryz.func8 (by decide) rfl (map_arr (ml_cons rfl (ml_cons rfl (ml_cons rfl ml_nil)))) rfl) q fun a5 aX o r _ aY aZ aN => ?_)
 obtain ⟨b, a, rfl, aO⟩ := aN
 refine sqv r rfl (r_move (r.get rfl)) fun _ s => sqv s rfl (r_extract (s.get rfl) rfl) fun _ t => sqv t rfl (r_extract (t.get rfl) rfl) fun _ u => sqv u rfl (r_assign (u.get rfl)) fun _ x => sqv x rfl (r_assign (x.get rfl)) fun _ aP => sq_end ?_
 have y := aP.kp [(1, Sl.v b), (2, .int .i64 a)] rfl
 refine then_normal (wp_seq (wp_region_lit ?_))
 refine sqv y rfl (r_move (y.get rfl)) fun _ z => ?_
 refine sq (opk_call z rfl (r_call (args := #[Sl.v b]) Tryz.func11 (by decide) rfl (map_arr (ml_cons (z.get rfl) ml_nil)) rfl) aO fun a1 a2 p aa _ a3 a4 aQ => ?_)
 obtain ⟨d, f, h, c, rfl, aR⟩ := aQ
 refine sqv aa rfl (r_move (aa.get rfl)) fun _ ab => sqv ab rfl (r_extract (ab.get rfl) rfl) fun _ ad => sqv ad rfl (r_extract (ad.get rfl) rfl) fun _ af => sqv af rfl (r_extract (af.get rfl) rfl) fun _ ag => sqv ag rfl (r_extract (ag.get rfl) rfl) fun _ ah => sqv ah rfl (r_assign (ah.get rfl)) fun _ ai => sqv ai rfl (r_assign (ai.get rfl)) fun _ aj => sqv aj rfl (r_assign (aj.get rfl)) fun _ ak => ?_
 refine sqv ak rfl (r_assign (ak.get rfl)) fun _ aS => sq_end ?_
 have al := aS.kp [(1, Sl.v b), (2, .int .i64 a), (3, .int .u64 d), (4, .int .u64 f), (5, Sl.v h), (6, .int .i64 c)] rfl
 refine then_normal (wp_seq (wp_region_lit ?_))
 refine sqv al rfl (r_move (al.get rfl)) fun _ am => sqv am rfl (r_eql (am.get rfl) rfl) fun _ an => sqv an rfl (r_move (an.get rfl)) fun _ ao => ?_
 refine sq (opk_gval ao rfl rfl (g := true) (e := (decide (a = 0))) rfl (fun hg => r_move (ao.get rfl)) fun a6 ap _ => ?_)
 refine sq (opk_gval ap rfl rfl (g := true) (e := (decide (a = 0))) rfl (fun hg => r_len (cv_get (ap.get rfl) hg) tU27) fun a7 aq _ => ?_)
 refine sq (opk_gval aq rfl rfl (g := true) (e := (decide (a = 0))) rfl (fun hg => r_eql (cv_get (aq.get rfl) hg) rfl) fun a8 i _ => ?_)
 refine sqv i rfl (r_pick_and (g := (true && ((decide (a = 0)) == true))) (i.get rfl) (i.get rfl) (fun he => g_mkt rfl he)) fun _ ar => sqv ar rfl (r_move (ar.get rfl)) fun _ au => ?_
 refine sq (opk_gval au rfl rfl (g := true) (e := ((decide (a = 0)) && (decide ((b.n : Int) = 26)))) rfl (fun hg => r_move (au.get rfl)) fun a9 av _ => ?_)
 refine sq (opk_gval av rfl rfl (g := true) (e := ((decide (a = 0)) && (decide ((b.n : Int) = 26)))) rfl (fun hg => r_eql (cv_get (av.get rfl) hg) rfl) fun ba j _ => ?_)
 refine sqv j rfl (r_pick_and (g := (true && (((decide (a = 0)) && (decide ((b.n : Int) = 26))) == true))) (j.get rfl) (j.get rfl) (fun he => g_mkt rfl he)) fun _ ax => sqv ax rfl (r_move (ax.get rfl)) fun _ ay => ?_
 refine sq (opk_gval ay rfl rfl (g := true) (e := (((decide (a = 0)) && (decide ((b.n : Int) = 26))) && (decide (c = 0)))) rfl (fun hg => r_move (ay.get rfl)) fun bb az _ => ?_)
 refine sq (opk_gval az rfl rfl (g := true) (e := (((decide (a = 0)) && (decide ((b.n : Int) = 26))) && (decide (c = 0)))) rfl (fun hg => r_eql (cv_get (az.get rfl) hg) rfl) fun bd k _ => ?_)
 refine sqv k rfl (r_pick_and (g := (true && ((((decide (a = 0)) && (decide ((b.n : Int) = 26))) && (decide (c = 0))) == true))) (k.get rfl) (k.get rfl) (fun he => g_mkt rfl he)) fun _ aA => sqv aA rfl (r_move (aA.get rfl)) fun _ aB => ?_
 refine sq (opk_gval aB rfl rfl (g := true) (e := ((((decide (a = 0)) && (decide ((b.n : Int) = 26))) && (decide (c = 0))) && (decide (d = 1)))) rfl (fun hg => r_move (aB.get rfl)) fun bf aC _ => ?_)
 refine sq (opk_gval aC rfl rfl (g := true) (e := ((((decide (a = 0)) && (decide ((b.n : Int) = 26))) && (decide (c = 0))) && (decide (d = 1)))) rfl (fun hg => r_eql (cv_get (aC.get rfl) hg) rfl) fun bg l _ => ?_)
 refine sqv l rfl (r_pick_and (g := (true && (((((decide (a = 0)) && (decide ((b.n : Int) = 26))) && (decide (c = 0))) && (decide (d = 1))) == true))) (l.get rfl) (l.get rfl) (fun he => g_mkt rfl he)) fun _ aD => sqv aD rfl (r_move (aD.get rfl)) fun _ aF => ?_
 refine sq (opk_gval aF rfl rfl (g := true) (e := (((((decide (a = 0)) && (decide ((b.n : Int) = 26))) && (decide (c = 0))) && (decide (d = 1))) && (decide (f = 2)))) rfl (fun hg => r_move (aF.get rfl)) fun bh aG _ => ?_)
 refine sq (opk_gval aG rfl rfl (g := true) (e := (((((decide (a = 0)) && (decide ((b.n : Int) = 26))) && (decide (c = 0))) && (decide (d = 1))) && (decide (f = 2)))) rfl (fun hg => r_len (cv_get (aG.get rfl) hg) tU23) fun bi aH _ => ?_)
 refine sq (opk_gval aH rfl rfl (g := true) (e := (((((decide (a = 0)) && (decide ((b.n : Int) = 26))) && (decide (c = 0))) && (decide (d = 1))) && (decide (f = 2)))) rfl (fun hg => r_eql (cv_get (aH.get rfl) hg) rfl) fun bj m _ => ?_)
 refine sqv m rfl (r_pick_and (g := (true && ((((((decide (a = 0)) && (decide ((b.n : Int) = 26))) && (decide (c = 0))) && (decide (d = 1))) && (decide (f = 2))) == true))) (m.get rfl) (m.get rfl) (fun he => g_mkt rfl he)) fun _ aI => sqv aI rfl (r_assign (aI.get rfl)) fun _ aT => sq_end ?_
 have aJ := aT.kp [(0, .bool ((((((decide (a = 0)) && (decide ((b.n : Int) = 26))) && (decide (c = 0))) && (decide (d = 1))) && (decide (f = 2))) && (decide ((h.n : Int) = 0))))] rfl
 refine then_normal ?_
 refine wp_ret ?_
 exact res_all (vs := [.bool ((((((decide (a = 0)) && (decide ((b.n : Int) = 26))) && (decide (c = 0))) && (decide (d = 1))) && (decide (f = 2))) && (decide ((h.n : Int) = 0)))]) rfl aJ ⟨res_of_tmp aJ rfl, trivial⟩ aR
end Go.Proofs.YteacalmdpoblpaaGreat
