/-
  PRINTED BY PROGRAM: for each function its condition (vc), and that this suffices (ok).
-/
import Derived.Test.YtghmgfkdnolcdaaQApplySetsGT
namespace Go.Proofs.Ytghmgfkdnolcdaa
open Go.RowKit
set_option linter.unusedVariables false
set_option maxHeartbeats 1000000
set_option maxRecDepth 10000
def law00_Place.vc (b : Int) (a : Int) (R : Value → World → Prop) (w : World) : Prop :=
(a ≠ 0) ∧
(((b.tmod a) < 0) →
(I64 ((b.tmod a) + a)) ∧
R (.int .i64 ((b.tmod a) + a)) w) ∧
((¬ ((b.tmod a) < 0)) →
R (.int .i64 (b.tmod a)) w)
theorem law00_Place.ok (b : Int) (a : Int) {R : Value → World → Prop} {w : World} (g : law00_Place.vc b a R w) : Calls Try.prog 28 #[.int .i64 b, .int .i64 a] w (Ret R) := by
 refine enter [.int .i64 b, .int .i64 a] Try.func28 rfl Try.ntmps28 rfl ?_
 intro a0 u
 unfold law00_Place.vc at g
 refine wp_seq (wp_region_lit ?_)
 refine sqv u rfl (r_assign rfl) fun _ v => ?_
 refine sq_end ?_
 have h := v.keep [(0, .int .i64 b), (1, .int .i64 a)] ⟨rfl, rfl, trivial⟩
 refine then_normal (wp_seq (wp_region_lit ?_))
 refine sqv h rfl (r_move (h.get rfl)) fun _ i => ?_
 refine sqv i rfl (r_move (i.get rfl)) fun _ d => ?_
 obtain ⟨x, j⟩ := g
 refine sqv d rfl (r_rem (d.get rfl) (d.get rfl) x) fun _ k => ?_
 refine sqv k rfl (r_assign (k.get rfl)) fun _ y => ?_
 refine sq_end ?_
 have l := y.keep [(1, .int .i64 a), (5, .int .i64 (b.tmod a))] ⟨rfl, rfl, trivial⟩
 refine then_normal (wp_seq (wp_seq (wp_region_lit ?_)))
 refine sqv l rfl (r_move (l.get rfl)) fun _ m => ?_
 refine sqv m rfl (r_lss (m.get rfl) rfl) fun _ z => ?_
 refine sq_end ?_
 have c := z.keep [(1, .int .i64 a), (5, .int .i64 (b.tmod a)), (10, .bool (decide ((b.tmod a) < 0)))] ⟨rfl, rfl, rfl, trivial⟩
 refine then_normal ?_
 refine wp_cond_split (c.get rfl) (fun hc => ?_) (fun hc => ?_)
 ·have aa := j.1 (of_decide_eq_true hc)
  clear hc
  refine wp_region_lit ?_
  refine sqv c rfl (r_move (c.get rfl)) fun _ n => ?_
  refine sqv n rfl (r_move (n.get rfl)) fun _ f => ?_
  obtain ⟨ab, ad⟩ := aa
  refine sqv f rfl (r_addI (f.get rfl) (f.get rfl) ab) fun _ o => ?_
  refine sqv o rfl (r_assign (o.get rfl)) fun _ af => ?_
  refine sq_end ?_
  have p := af.keep [(5, .int .i64 ((b.tmod a) + a))] ⟨rfl, trivial⟩
  refine then_normal (wp_seq (wp_region_lit ?_))
  refine sqv p rfl (r_move (p.get rfl)) fun _ q => ?_
  refine sqv q rfl (r_assign (q.get rfl)) fun _ ag => ?_
  refine sq_end ?_
  have r := ag.keep [(4, .int .i64 ((b.tmod a) + a))] ⟨rfl, trivial⟩
  refine then_normal ?_
  refine wp_ret ?_
  exact res_all (vs := [.int .i64 ((b.tmod a) + a)]) rfl r ⟨res_of_tmp r rfl, trivial⟩ ad
 ·have ah := j.2 (of_decide_eq_false hc)
  clear hc
  refine wp_skip ?_
  refine then_normal (wp_seq (wp_region_lit ?_))
  refine sqv c rfl (r_move (c.get rfl)) fun _ s => ?_
  refine sqv s rfl (r_assign (s.get rfl)) fun _ ai => ?_
  refine sq_end ?_
  have t := ai.keep [(4, .int .i64 (b.tmod a))] ⟨rfl, trivial⟩
  refine then_normal ?_
  refine wp_ret ?_
  exact res_all (vs := [.int .i64 (b.tmod a)]) rfl t ⟨res_of_tmp t rfl, trivial⟩ ah
end Go.Proofs.Ytghmgfkdnolcdaa
