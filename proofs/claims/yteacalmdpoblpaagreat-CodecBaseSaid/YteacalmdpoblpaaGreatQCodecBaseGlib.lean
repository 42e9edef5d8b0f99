/-
  PRINTED BY PROGRAM: for each function its condition (vc), and that this suffices (ok).
-/
import Derived.Test.YteacalmdpoblpaaGreatQCodecBaseGT
namespace Go.Proofs.YteacalmdpoblpaaGreat
open Go.RowKit
set_option linter.unusedVariables false
set_option maxHeartbeats 1000000
set_option maxRecDepth 10000
def slices_Clone__api_Attr_api_Attr_.vc (b : Sl) (R : Value → World → Prop) (w : World) : Prop :=
((b.a.isNone = true) →
R (Sl.v Sl.nil) w) ∧
((b.a.isNone = false) →
∀ (c : World) (d : Nat), New w d c → Chg [] w c →
∀ (_ : Box c d 91 []),
RunK Tryz.prog (Builtin.append_ #[36, 36] 36 #[Sl.v (Sl.mk (some ⟨d, 0, none⟩) 0 0), Sl.v b]) c [] (fun v j => ∃ (f : Sl), v = Sl.v f ∧
R (Sl.v f) j))
theorem slices_Clone__api_Attr_api_Attr_.ok (b : Sl) {R : Value → World → Prop} {w : World} (g : slices_Clone__api_Attr_api_Attr_.vc b R w) : Calls Tryz.prog 155 #[Sl.v b] w (Ret R) := by
 refine enter [Sl.v b] Tryz.func155 rfl Tryz.ntmps155 rfl ?_
 intro a0 q
 unfold slices_Clone__api_Attr_api_Attr_.vc at g
 refine wp_seq (wp_region_lit ?_)
 refine sqv q rfl (r_assign rfl) fun _ r => sq_end ?_
 have k := r.kp [(0, Sl.v b)] rfl
 refine then_normal (wp_seq (wp_seq (wp_region_lit ?_)))
 refine sqv k rfl (r_move (k.get rfl)) fun _ l => sqv l rfl (r_slnil (l.get rfl) rfl tU36) fun _ s => sq_end ?_
 have h := s.kp [(0, Sl.v b), (4, .bool b.a.isNone)] rfl
 refine then_normal ?_
 refine wp_cond_split (h.get rfl) (fun hc => ?_) (fun hc => ?_)
 ·have t := g.1 hc
  clear hc
  refine wp_seq (wp_region_lit ?_)
  refine sqv h rfl (r_assign rfl) fun _ u => sq_end ?_
  have m := u.kp [(2, Sl.v Sl.nil)] rfl
  refine then_normal ?_
  refine wp_ret ?_
  refine then_ret ?_
  exact res_all (vs := [Sl.v Sl.nil]) rfl m ⟨res_of_tmp m rfl, trivial⟩ t
 ·have x := g.2 hc
  clear hc
  refine wp_skip ?_
  refine then_normal (wp_seq (wp_region_lit ?_))
  refine sq (opk_new (fun B => .slice (some ⟨B, 0, none⟩) 0 0) h rfl (r_buildSlice0 tU36 ti_91) fun al c d y z aa n _ => ?_)
  have ab : New w d c := z
  have ad : Chg [] w c := y
  refine sqv n rfl (r_move (n.get rfl)) fun _ i => ?_
  have af := x c d ab  ad
  have ag := af aa
  refine sq (opk_run i rfl (fun _ _ hr => r_append (i.get rfl) (i.get rfl) hr) ag fun am an j o _ ao ap ah => ?_)
  obtain ⟨f, rfl, ai⟩ := ah
  refine sqv o rfl (r_assign (o.get rfl)) fun _ aj => sq_end ?_
  have p := aj.kp [(2, Sl.v f)] rfl
  refine then_normal ?_
  refine wp_ret ?_
  exact res_all (vs := [Sl.v f]) rfl p ⟨res_of_tmp p rfl, trivial⟩ ai
end Go.Proofs.YteacalmdpoblpaaGreat
