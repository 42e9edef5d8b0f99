/-
  PRINTED BY PROGRAM: for each function its condition (vc), and that this suffices (ok).
-/
import Derived.Test.YteohbfaechfliaaQSlotsAllGT
namespace Go.Proofs.Yteohbfaechfliaa
open Go.RowKit
set_option linter.unusedVariables false
set_option maxHeartbeats 1000000
set_option maxRecDepth 10000
def ref04_Blank.vc (a : Int) (R : Value → World → Prop) (w : World) : Prop :=
R (.bool ((((decide (a = 9)) || (decide (a = 10))) || (decide (a = 12))) || (decide (a = 32)))) w
theorem ref04_Blank.ok (a : Int) {R : Value → World → Prop} {w : World} (f : ref04_Blank.vc a R w) : Calls Try.prog 90 #[.int .u8 a] w (Ret R) := by
 refine enter [.int .u8 a] Try.func90 rfl Try.ntmps90 rfl ?_
 intro y u
 unfold ref04_Blank.vc at f
 refine wp_seq (wp_region_lit ?_)
 refine sqv u rfl (r_assign rfl) fun _ v => sq_end ?_
 have h := v.kp [(0, .int .u8 a)] rfl
 refine then_normal (wp_seq (wp_region_lit ?_))
 refine sqv h rfl (r_move (h.get rfl)) fun _ i => sqv i rfl (r_eql (i.get rfl) rfl) fun _ j => sqv j rfl (r_move (j.get rfl)) fun _ k => ?_
 refine sq (opk_gval k rfl rfl (g := true) (e := (decide (a = 9))) rfl (fun hg => r_move (k.get rfl)) fun z l _ => ?_)
 refine sq (opk_gval l rfl rfl (g := true) (e := (decide (a = 9))) rfl (fun hg => r_eql (cv_get (l.get rfl) hg) rfl) fun a8 b _ => ?_)
 refine sqv b rfl (r_pick_or (g := (true && ((decide (a = 9)) == false))) (b.get rfl) (b.get rfl) (fun he => g_mkf rfl he)) fun _ m => sqv m rfl (r_move (m.get rfl)) fun _ n => ?_
 refine sq (opk_gval n rfl rfl (g := true) (e := ((decide (a = 9)) || (decide (a = 10)))) rfl (fun hg => r_move (n.get rfl)) fun ab o _ => ?_)
 refine sq (opk_gval o rfl rfl (g := true) (e := ((decide (a = 9)) || (decide (a = 10)))) rfl (fun hg => r_eql (cv_get (o.get rfl) hg) rfl) fun ad c _ => ?_)
 refine sqv c rfl (r_pick_or (g := (true && (((decide (a = 9)) || (decide (a = 10))) == false))) (c.get rfl) (c.get rfl) (fun he => g_mkf rfl he)) fun _ p => sqv p rfl (r_move (p.get rfl)) fun _ q => ?_
 refine sq (opk_gval q rfl rfl (g := true) (e := (((decide (a = 9)) || (decide (a = 10))) || (decide (a = 12)))) rfl (fun hg => r_move (q.get rfl)) fun af r _ => ?_)
 refine sq (opk_gval r rfl rfl (g := true) (e := (((decide (a = 9)) || (decide (a = 10))) || (decide (a = 12)))) rfl (fun hg => r_eql (cv_get (r.get rfl) hg) rfl) fun ag d _ => ?_)
 refine sqv d rfl (r_pick_or (g := (true && ((((decide (a = 9)) || (decide (a = 10))) || (decide (a = 12))) == false))) (d.get rfl) (d.get rfl) (fun he => g_mkf rfl he)) fun _ s => sqv s rfl (r_assign (s.get rfl)) fun _ x => sq_end ?_
 have t := x.kp [(2, .bool ((((decide (a = 9)) || (decide (a = 10))) || (decide (a = 12))) || (decide (a = 32))))] rfl
 refine then_normal ?_
 refine wp_ret ?_
 exact res_all (vs := [.bool ((((decide (a = 9)) || (decide (a = 10))) || (decide (a = 12))) || (decide (a = 32)))]) rfl t ⟨res_of_tmp t rfl, trivial⟩ f
end Go.Proofs.Yteohbfaechfliaa
