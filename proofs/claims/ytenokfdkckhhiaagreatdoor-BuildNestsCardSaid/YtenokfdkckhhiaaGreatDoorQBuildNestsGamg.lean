/-
  PRINTED BY PROGRAM: for each function its condition (vc), and that this suffices (ok).
-/
import Derived.Test.YtenokfdkckhhiaaGreatDoorQBuildNestsGT
namespace Go.Proofs.YtenokfdkckhhiaaGreatDoor
open Go.RowKit
set_option linter.unusedVariables false
set_option maxHeartbeats 1000000
set_option maxRecDepth 10000
def stack_among.vc (g : Str) (d : Str) (R : Value → World → Prop) (w : World) : Prop :=
CallK Tryz.prog 155 #[.string (Bs g)] w [] (fun v m => ∃ (b : Sl),v = Sl.v b ∧
∃ (i : Int → World → Prop) (k : Int → World → Nat),
i 0 m ∧
(∀ (c : Int) (f : World),i c f →
((c < (b.n : Int)) →
((0 : Int) ≤ c ∧ c < (b.n : Int)) ∧ ∃ o : Addr,b.a = some o ∧
∃ (h : Str),(f.cell? (o.add (c.toNat * 1)) = some (.string (Bs h))) ∧
((h = d) →
R (.bool true) f) ∧
((¬ (h = d)) →
(I64 (c + 1)) ∧
i (c + 1) f ∧ k (c + 1) f < k c f)) ∧
((¬ (c < (b.n : Int))) →
R (.bool false) f)))
theorem stack_among.ok (g : Str) (d : Str) {R : Value → World → Prop} {w : World} (r : stack_among.vc g d R w) : Calls Tryz.prog 128 #[.string (Bs g),.string (Bs d)] w (Ret R) := by
 refine enter [.string (Bs g),.string (Bs d)] Tryz.func128 rfl Tryz.ntmps128 rfl ?_
 intro a0 ak
 unfold stack_among.vc at r
 refine wp_seq (wp_region_lit ?_)
 refine sqv ak rfl (r_assign rfl) fun _ al => sq_end ?_
 have t := al.kp [(0,.string (Bs g)),(1,.string (Bs d))] rfl
 refine then_normal (wp_seq (wp_seq (wp_region_lit ?_)))
 refine sqv t rfl (r_move (t.get rfl)) fun _ u => ?_
 refine sq (opk_call u rfl (r_call (args := #[.string (Bs g)]) Tryz.func155 (by decide) rfl (map_arr (ml_cons (u.get rfl) ml_nil)) rfl) r fun a7 aU m x _ aV aX am => ?_)
 obtain ⟨b,rfl,an⟩ := am
 refine sqv x rfl (r_len (x.get rfl) tU44) fun _ ao => sqv ao rfl (r_move rfl) fun _ ap => sq_end ?_
 have aq := ap.kp [(1,.string (Bs d)),(8,Sl.v b),(9,.int .i64 (b.n : Int)),(10,.int .i64 0)] rfl
 refine then_normal (wp_block ?_)
 obtain ⟨i,k,ar,au⟩ := an
 refine wp_loop_st (σ := Int × World) (fun s a w => Ag 18 a [(1,.string (Bs d)),(8,Sl.v b),(9,.int .i64 (b.n : Int)),(10,.int .i64 s.1)] ∧ w = s.2 ∧ i s.1 s.2) (fun s => k s.1 s.2) (0,m) ⟨aq.kp [(1,.string (Bs d)),(8,Sl.v b),(9,.int .i64 (b.n : Int)),(10,.int .i64 0)] rfl,rfl,ar⟩ ?_
 rintro ⟨c,f⟩ aY w_ ⟨p,hw_,av⟩
 have hw_ : f = w_ := hw_.symm
 subst hw_
 have y := au c _ av
 refine wp_seq (wp_region_lit ?_)
 refine sqv p rfl (r_lss (p.get rfl) (p.get rfl)) fun _ ax => sq_end ?_
 have j := ax.kp [(1,.string (Bs d)),(8,Sl.v b),(9,.int .i64 (b.n : Int)),(10,.int .i64 c),(11,.bool (decide (c < (b.n : Int))))] rfl
 refine then_normal (wp_seq ?_)
 refine wp_cond_split (j.get rfl) (fun hc => ?_) (fun hc => ?_)
 ·have ay := y.1 (of_decide_eq_true hc)
  clear hc
  refine wp_skip ?_
  refine then_normal (wp_seq (wp_block (wp_seq (wp_region_lit ?_))))
  obtain ⟨az,o,aA,aB⟩ := ay
  refine sqv j rfl (r_indexAddr (j.get rfl) (j.get rfl) tU44 ti_9 az aA) fun _ z => ?_
  obtain ⟨h,aC,aa⟩ := aB
  refine sqv z rfl (r_load1 tU9 rfl (z.get rfl) aC) fun _ ab => sqv ab rfl (r_assign (ab.get rfl)) fun _ aD => sq_end ?_
  have ad := aD.kp [(1,.string (Bs d)),(6,.string (Bs h)),(8,Sl.v b),(9,.int .i64 (b.n : Int)),(10,.int .i64 c)] rfl
  refine then_normal (wp_seq (wp_region_lit ?_))
  refine sqv ad rfl (r_move (ad.get rfl)) fun _ af => sqv af rfl (r_move (af.get rfl)) fun _ q => sqv q rfl (r_seql (q.get rfl) (q.get rfl)) fun _ aG => sq_end ?_
  have l := aG.kp [(1,.string (Bs d)),(8,Sl.v b),(9,.int .i64 (b.n : Int)),(10,.int .i64 c),(16,.bool (decide (h = d)))] rfl
  refine then_normal ?_
  refine wp_cond_split (l.get rfl) (fun hc => ?_) (fun hc => ?_)
  ·have aH := aa.1 (of_decide_eq_true hc)
   clear hc
   refine wp_seq (wp_region_lit ?_)
   refine sqv l rfl (r_assign rfl) fun _ aI => sq_end ?_
   have ag := aI.kp [(4,.bool true)] rfl
   refine then_normal ?_
   refine wp_ret ?_
   refine block_ret ?_
   refine then_ret ?_
   refine then_ret ?_
   refine block_ret ?_
   refine then_ret ?_
   exact res_all (vs := [.bool true]) rfl ag ⟨res_of_tmp ag rfl,trivial⟩ aH
  ·have aJ := aa.2 (of_decide_eq_false hc)
   clear hc
   refine wp_skip ?_
   refine block_normal ?_
   refine then_normal (wp_region_lit ?_)
   obtain ⟨aK,ah⟩ := aJ
   refine sqv l rfl (r_addI (l.get rfl) rfl aK) fun _ ai => sqv ai rfl (r_move (ai.get rfl)) fun _ aL => sq_end ?_
   have aM := aL.kp [(1,.string (Bs d)),(8,Sl.v b),(9,.int .i64 (b.n : Int)),(10,.int .i64 (c + 1))] rfl
   have aN := aM.kp [(1,.string (Bs d)),(8,Sl.v b),(9,.int .i64 (b.n : Int)),(10,.int .i64 (c + 1))] rfl
   exact then_normal ⟨(c + 1,f),⟨aN,rfl,ah.1⟩,ah.2⟩
 ·have aO := y.2 (of_decide_eq_false hc)
  clear hc
  refine wp_exit ?_
  refine then_exit ?_
  refine then_exit ?_
  refine block_hit ?_
  have aP := j.kp [] rfl
  refine then_normal (wp_seq (wp_region_lit ?_))
  refine sqv aP rfl (r_assign rfl) fun _ aQ => sq_end ?_
  have aj := aQ.kp [(4,.bool false)] rfl
  refine then_normal ?_
  refine wp_ret ?_
  exact res_all (vs := [.bool false]) rfl aj ⟨res_of_tmp aj rfl,trivial⟩ aO
end Go.Proofs.YtenokfdkckhhiaaGreatDoor
