/-
  PRINTED BY PROGRAM: for each function its condition (vc), and that this suffices (ok).
-/
import Derived.Test.YteacalmdpoblpaaGreatQCodecBaseGT
namespace Go.Proofs.YteacalmdpoblpaaGreat
open Go.RowKit
set_option linter.unusedVariables false
set_option maxHeartbeats 1000000
set_option maxRecDepth 10000
def crc_Of.vc (a : Sl) (R : Value → World → Prop) (w : World) : Prop :=
CallK Tryz.prog 111 #[.int .u32 0, Sl.v a] w [] (fun v c => ∃ (b : Int), v = .int .u32 b ∧
R (.int .u32 b) c)
theorem crc_Of.ok (a : Sl) {R : Value → World → Prop} {w : World} (d : crc_Of.vc a R w) : Calls Tryz.prog 53 #[Sl.v a] w (Ret R) := by
 refine enter [Sl.v a] Tryz.func53 rfl Tryz.ntmps53 rfl ?_
 intro o j
 unfold crc_Of.vc at d
 refine wp_seq (wp_region_lit ?_)
 refine sqv j rfl (r_assign rfl) fun _ k => sq_end ?_
 have f := k.kp [(0, Sl.v a)] rfl
 refine then_normal (wp_seq (wp_region_lit ?_))
 refine sqv f rfl (r_move (f.get rfl)) fun _ g => ?_
 refine sq (opk_call g rfl (r_call (args := #[.int .u32 0, Sl.v a]) Tryz.func111 (by decide) rfl (map_arr (ml_cons rfl (ml_cons (g.get rfl) ml_nil))) rfl) d fun p q c h _ r s l => ?_)
 obtain ⟨b, rfl, m⟩ := l
 refine sqv h rfl (r_assign (h.get rfl)) fun _ n => sq_end ?_
 have i := n.kp [(2, .int .u32 b)] rfl
 refine then_normal ?_
 refine wp_ret ?_
 exact res_all (vs := [.int .u32 b]) rfl i ⟨res_of_tmp i rfl, trivial⟩ m
def crc_More.vc (i : Int) (b : Sl) (R : Value → World → Prop) (w : World) : Prop :=
∃ (l : Int → Int → World → Prop) (p : Int → Int → World → Nat),
l (bits .xor .u32 IntKind.u32.max i) 0 w ∧
(∀ (g : Int) (d : Int) (j : World), l g d j →
((d < (b.n : Int)) →
((0 : Int) ≤ d ∧ d < (b.n : Int)) ∧ ∃ x : Addr, b.a = some x ∧
∃ (k : Int), (j.cell? (x.add (d.toNat * 1)) = some (.int .u8 k)) ∧
∃ (m : Int → Int → World → Prop) (q : Int → Int → World → Nat),
m (bits .xor .u32 g (IntKind.u32.wrap k)) 0 j ∧
(∀ (c : Int) (f : Int) (h : World), m c f h →
((f < 8) →
(I64 (f + 1)) ∧
m (bif decide ((bits .and .u32 c 1) = 1) then bits .xor .u32 (c / 2 ^ 1) 3988292384 else c / 2 ^ 1) (f + 1) h ∧ q (bif decide ((bits .and .u32 c 1) = 1) then bits .xor .u32 (c / 2 ^ 1) 3988292384 else c / 2 ^ 1) (f + 1) h < q c f h) ∧
((¬ (f < 8)) →
(I64 (d + 1)) ∧
l c (d + 1) h ∧ p c (d + 1) h < p g d j))) ∧
((¬ (d < (b.n : Int))) →
R (.int .u32 (bits .xor .u32 IntKind.u32.max g)) j))
theorem crc_More.ok (i : Int) (b : Sl) {R : Value → World → Prop} {w : World} (aa : crc_More.vc i b R w) : Calls Tryz.prog 111 #[.int .u32 i, Sl.v b] w (Ret R) := by
 refine enter [.int .u32 i, Sl.v b] Tryz.func111 rfl Tryz.ntmps111 rfl ?_
 intro a0 aO
 unfold crc_More.vc at aa
 refine wp_seq (wp_region_lit ?_)
 refine sqv aO rfl (r_assign rfl) fun _ aP => sq_end ?_
 have ab := aP.kp [(0, .int .u32 i), (1, Sl.v b)] rfl
 refine then_normal (wp_seq (wp_region_lit ?_))
 refine sqv ab rfl (r_move (ab.get rfl)) fun _ ad => sqv ad rfl (r_cplU (ad.get rfl) rfl) fun _ af => sqv af rfl (r_assign (af.get rfl)) fun _ aQ => sq_end ?_
 have ag := aQ.kp [(0, .int .u32 (bits .xor .u32 IntKind.u32.max i)), (1, Sl.v b)] rfl
 refine then_normal (wp_seq (wp_seq (wp_region_lit ?_)))
 refine sqv ag rfl (r_move (ag.get rfl)) fun _ ah => sqv ah rfl (r_len (ah.get rfl) tU27) fun _ aR => sqv aR rfl (r_move rfl) fun _ aS => sq_end ?_
 have aT := aS.kp [(0, .int .u32 (bits .xor .u32 IntKind.u32.max i)), (10, Sl.v b), (11, .int .i64 (b.n : Int)), (12, .int .i64 0)] rfl
 refine then_normal (wp_block ?_)
 obtain ⟨l, p, aU, aV⟩ := aa
 refine wp_loop_st (σ := Int × Int × World) (fun s a w => Ag 34 a [(0, .int .u32 s.1), (10, Sl.v b), (11, .int .i64 (b.n : Int)), (12, .int .i64 s.2.1)] ∧ w = s.2.2 ∧ l s.1 s.2.1 s.2.2) (fun s => p s.1 s.2.1 s.2.2) (bits .xor .u32 IntKind.u32.max i, 0, w) ⟨aT.kp [(0, .int .u32 (bits .xor .u32 IntKind.u32.max i)), (10, Sl.v b), (11, .int .i64 (b.n : Int)), (12, .int .i64 0)] rfl, rfl, aU⟩ ?_
 rintro ⟨g, d, j⟩ bC w_ ⟨y, hw_, aX⟩
 have hw_ : j = w_ := hw_.symm
 subst hw_
 have ai := aV g d _ aX
 refine wp_seq (wp_region_lit ?_)
 refine sqv y rfl (r_lss (y.get rfl) (y.get rfl)) fun _ aY => sq_end ?_
 have o := aY.kp [(0, .int .u32 g), (10, Sl.v b), (11, .int .i64 (b.n : Int)), (12, .int .i64 d), (13, .bool (decide (d < (b.n : Int))))] rfl
 refine then_normal (wp_seq ?_)
 refine wp_cond_split (o.get rfl) (fun hc => ?_) (fun hc => ?_)
 ·have aZ := ai.1 (of_decide_eq_true hc)
  clear hc
  refine wp_skip ?_
  refine then_normal (wp_seq (wp_block (wp_seq (wp_region_lit ?_))))
  obtain ⟨hb132, x, a1, a2⟩ := aZ
  refine sqv o rfl (r_indexAddr (o.get rfl) (o.get rfl) tU27 ti_5 hb132 a1) fun _ aj => ?_
  obtain ⟨k, a3, a4⟩ := a2
  refine sqv aj rfl (r_load1 tU5 rfl (aj.get rfl) a3) fun _ ak => sqv ak rfl (r_assign (ak.get rfl)) fun _ a5 => sq_end ?_
  have al := a5.kp [(0, .int .u32 g), (6, .int .u8 k), (10, Sl.v b), (11, .int .i64 (b.n : Int)), (12, .int .i64 d)] rfl
  refine then_normal (wp_seq (wp_region_lit ?_))
  refine sqv al rfl (r_move (al.get rfl)) fun _ am => sqv am rfl (r_move (am.get rfl)) fun _ an => sqv an rfl (r_conv (an.get rfl) rfl tU24) fun _ z => sqv z rfl (r_xor (z.get rfl) (z.get rfl)) fun _ ao => sqv ao rfl (r_assign (ao.get rfl)) fun _ a6 => sq_end ?_
  have a7 := a6.kp [(0, .int .u32 (bits .xor .u32 g (IntKind.u32.wrap k))), (10, Sl.v b), (11, .int .i64 (b.n : Int)), (12, .int .i64 d)] rfl
  refine then_normal (wp_seq (wp_region_lit ?_))
  refine sqv a7 rfl (r_move rfl) fun _ a8 => sq_end ?_
  have a9 := a8.kp [(0, .int .u32 (bits .xor .u32 g (IntKind.u32.wrap k))), (10, Sl.v b), (11, .int .i64 (b.n : Int)), (12, .int .i64 d), (20, .int .i64 0)] rfl
  refine then_normal (wp_block ?_)
  obtain ⟨m, q, ba, bb⟩ := a4
  refine wp_loop_st (σ := Int × Int × World) (fun s a w => Ag 34 a [(0, .int .u32 s.1), (10, Sl.v b), (11, .int .i64 (b.n : Int)), (12, .int .i64 d), (20, .int .i64 s.2.1)] ∧ w = s.2.2 ∧ m s.1 s.2.1 s.2.2) (fun s => q s.1 s.2.1 s.2.2) (bits .xor .u32 g (IntKind.u32.wrap k), 0, j) ⟨a9.kp [(0, .int .u32 (bits .xor .u32 g (IntKind.u32.wrap k))), (10, Sl.v b), (11, .int .i64 (b.n : Int)), (12, .int .i64 d), (20, .int .i64 0)] rfl, rfl, ba⟩ ?_
  rintro ⟨c, f, h⟩ bD w_ ⟨ap, hw_, bd⟩
  have hw_ : h = w_ := hw_.symm
  subst hw_
  have aq := bb c f _ bd
  refine wp_seq (wp_region_lit ?_)
  refine sqv ap rfl (r_lss (ap.get rfl) rfl) fun _ bf => sq_end ?_
  have r := bf.kp [(0, .int .u32 c), (10, Sl.v b), (11, .int .i64 (b.n : Int)), (12, .int .i64 d), (20, .int .i64 f), (21, .bool (decide (f < 8)))] rfl
  refine then_normal (wp_seq ?_)
  refine wp_cond_split (r.get rfl) (fun hc => ?_) (fun hc => ?_)
  ·have bg := aq.1 (of_decide_eq_true hc)
   clear hc
   refine wp_skip ?_
   refine then_normal (wp_seq (wp_block (wp_seq (wp_region_lit ?_))))
   refine sqv r rfl (r_move (r.get rfl)) fun _ ar => sqv ar rfl (r_and (ar.get rfl) rfl) fun _ au => sqv au rfl (r_assign (au.get rfl)) fun _ bh => sq_end ?_
   have av := bh.kp [(0, .int .u32 c), (7, .int .u32 (bits .and .u32 c 1)), (10, Sl.v b), (11, .int .i64 (b.n : Int)), (12, .int .i64 d), (20, .int .i64 f)] rfl
   refine then_normal (wp_seq (wp_region_lit ?_))
   refine sqv av rfl (r_move (av.get rfl)) fun _ ax => sqv ax rfl (r_shr (ax.get rfl) rfl (by decide) (by decide)) fun _ ay => sqv ay rfl (r_assign (ay.get rfl)) fun _ bi => sq_end ?_
   have az := bi.kp [(0, .int .u32 (c / 2 ^ 1)), (7, .int .u32 (bits .and .u32 c 1)), (10, Sl.v b), (11, .int .i64 (b.n : Int)), (12, .int .i64 d), (20, .int .i64 f)] rfl
   refine then_normal (wp_seq (wp_region_lit ?_))
   refine sqv az rfl (r_move (az.get rfl)) fun _ aA => sqv aA rfl (r_eql (aA.get rfl) rfl) fun _ bj => sq_end ?_
   have u := bj.kp [(0, .int .u32 (c / 2 ^ 1)), (10, Sl.v b), (11, .int .i64 (b.n : Int)), (12, .int .i64 d), (20, .int .i64 f), (27, .bool (decide ((bits .and .u32 c 1) = 1)))] rfl
   refine then_normal ?_
   refine wp_meet (fun a wq => Ag 34 a [(0, .int .u32 (bif decide ((bits .and .u32 c 1) = 1) then bits .xor .u32 (c / 2 ^ 1) 3988292384 else c / 2 ^ 1)), (10, Sl.v b), (11, .int .i64 (b.n : Int)), (12, .int .i64 d), (20, .int .i64 f)] ∧ wq = h) ?_ ?_
   ·refine wp_cond_split (u.get rfl) (fun hc => ?_) (fun hc => ?_)
    ·refine wp_region_lit ?_
     refine sqv u rfl (r_move (u.get rfl)) fun _ aB => sqv aB rfl (r_xor (aB.get rfl) rfl) fun _ aC => sqv aC rfl (r_assign (aC.get rfl)) fun _ bk => sq_end ?_
     have bl := bk.kp [(0, .int .u32 (bits .xor .u32 (c / 2 ^ 1) 3988292384)), (10, Sl.v b), (11, .int .i64 (b.n : Int)), (12, .int .i64 d), (20, .int .i64 f)] rfl
     have bm := bl.say (t := 0) rfl (.int .u32 (bif decide ((bits .and .u32 c 1) = 1) then bits .xor .u32 (c / 2 ^ 1) 3988292384 else c / 2 ^ 1)) (by rw [hc]; rfl)
     exact then_normal ⟨bm.kp [(0, .int .u32 (bif decide ((bits .and .u32 c 1) = 1) then bits .xor .u32 (c / 2 ^ 1) 3988292384 else c / 2 ^ 1)), (10, Sl.v b), (11, .int .i64 (b.n : Int)), (12, .int .i64 d), (20, .int .i64 f)] rfl, rfl⟩
    ·refine wp_skip ?_
     have bn := u.say (t := 0) rfl (.int .u32 (bif decide ((bits .and .u32 c 1) = 1) then bits .xor .u32 (c / 2 ^ 1) 3988292384 else c / 2 ^ 1)) (by rw [hc]; rfl)
     exact then_normal ⟨bn.kp [(0, .int .u32 (bif decide ((bits .and .u32 c 1) = 1) then bits .xor .u32 (c / 2 ^ 1) 3988292384 else c / 2 ^ 1)), (10, Sl.v b), (11, .int .i64 (b.n : Int)), (12, .int .i64 d), (20, .int .i64 f)] rfl, rfl⟩
   ·rintro bF w_ ⟨aD, hw_⟩
    have hw_ : h = w_ := hw_.symm
    subst hw_
    refine block_normal ?_
    refine then_normal (wp_region_lit ?_)
    obtain ⟨bo, aF⟩ := bg
    refine sqv aD rfl (r_addI (aD.get rfl) rfl bo) fun _ aG => sqv aG rfl (r_move (aG.get rfl)) fun _ bp => sq_end ?_
    have bq := bp.kp [(0, .int .u32 (bif decide ((bits .and .u32 c 1) = 1) then bits .xor .u32 (c / 2 ^ 1) 3988292384 else c / 2 ^ 1)), (10, Sl.v b), (11, .int .i64 (b.n : Int)), (12, .int .i64 d), (20, .int .i64 (f + 1))] rfl
    have br := bq.kp [(0, .int .u32 (bif decide ((bits .and .u32 c 1) = 1) then bits .xor .u32 (c / 2 ^ 1) 3988292384 else c / 2 ^ 1)), (10, Sl.v b), (11, .int .i64 (b.n : Int)), (12, .int .i64 d), (20, .int .i64 (f + 1))] rfl
    exact then_normal ⟨((bif decide ((bits .and .u32 c 1) = 1) then bits .xor .u32 (c / 2 ^ 1) 3988292384 else c / 2 ^ 1), f + 1, h), ⟨br, rfl, aF.1⟩, aF.2⟩
  ·have bs := aq.2 (of_decide_eq_false hc)
   clear hc
   refine wp_exit ?_
   refine then_exit ?_
   refine then_exit ?_
   refine block_hit ?_
   have aH := r.kp [(0, .int .u32 c), (10, Sl.v b), (11, .int .i64 (b.n : Int)), (12, .int .i64 d)] rfl
   refine block_normal ?_
   refine then_normal (wp_region_lit ?_)
   obtain ⟨bt, aI⟩ := bs
   refine sqv aH rfl (r_addI (aH.get rfl) rfl bt) fun _ aJ => sqv aJ rfl (r_move (aJ.get rfl)) fun _ bu => sq_end ?_
   have bv := bu.kp [(0, .int .u32 c), (10, Sl.v b), (11, .int .i64 (b.n : Int)), (12, .int .i64 (d + 1))] rfl
   have bx := bv.kp [(0, .int .u32 c), (10, Sl.v b), (11, .int .i64 (b.n : Int)), (12, .int .i64 (d + 1))] rfl
   exact then_normal ⟨(c, d + 1, h), ⟨bx, rfl, aI.1⟩, aI.2⟩
 ·have bz := ai.2 (of_decide_eq_false hc)
  clear hc
  refine wp_exit ?_
  refine then_exit ?_
  refine then_exit ?_
  refine block_hit ?_
  have aK := o.kp [(0, .int .u32 g)] rfl
  refine then_normal (wp_seq (wp_region_lit ?_))
  refine sqv aK rfl (r_move (aK.get rfl)) fun _ aL => sqv aL rfl (r_cplU (aL.get rfl) rfl) fun _ aM => sqv aM rfl (r_assign (aM.get rfl)) fun _ bA => sq_end ?_
  have aN := bA.kp [(4, .int .u32 (bits .xor .u32 IntKind.u32.max g))] rfl
  refine then_normal ?_
  refine wp_ret ?_
  exact res_all (vs := [.int .u32 (bits .xor .u32 IntKind.u32.max g)]) rfl aN ⟨res_of_tmp aN rfl, trivial⟩ bz
end Go.Proofs.YteacalmdpoblpaaGreat
