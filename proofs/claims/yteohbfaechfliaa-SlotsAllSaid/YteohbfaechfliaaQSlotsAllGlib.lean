/-
  PRINTED BY PROGRAM: for each function its condition (vc), and that this suffices (ok).
-/
import Derived.Test.YteohbfaechfliaaQSlotsAllGT
namespace Go.Proofs.Yteohbfaechfliaa
open Go.RowKit
set_option linter.unusedVariables false
set_option maxHeartbeats 1000000
set_option maxRecDepth 10000
def slices_Equal__int_int_.vc (b : Sl) (d : Sl) (R : Value → World → Prop) (w : World) : Prop :=
(((b.n : Int) ≠ (d.n : Int)) →
R (.bool false) w) ∧
((¬ ((b.n : Int) ≠ (d.n : Int))) →
∃ (m : Int → World → Prop) (q : Int → World → Nat),
m 0 w ∧
(∀ (c : Int) (l : World), m c l →
((c < (b.n : Int)) →
∀ (i : World), Chg [] l i →
∃ o : Addr, (((0 : Int) ≤ c ∧ c < (b.n : Int)) ∧ b.a = some o) ∧
∃ (j : Int), (i.cell? (o.add (c.toNat * 1)) = some (.int .i64 j)) ∧
∃ p : Addr, (((0 : Int) ≤ c ∧ c < (d.n : Int)) ∧ d.a = some p) ∧
∃ (k : Int), (i.cell? (p.add (c.toNat * 1)) = some (.int .i64 k)) ∧
((j ≠ k) →
∀ (f : World), Chg [] i f →
R (.bool false) f) ∧
((¬ (j ≠ k)) →
(I64 (c + 1)) ∧
∀ (f : World), Chg [] i f →
m (c + 1) f ∧ q (c + 1) f < q c l)) ∧
((¬ (c < (b.n : Int))) →
R (.bool true) l)))
theorem slices_Equal__int_int_.ok (b : Sl) (d : Sl) {R : Value → World → Prop} {w : World} (y : slices_Equal__int_int_.vc b d R w) : Calls Try.prog 40 #[Sl.v b, Sl.v d] w (Ret R) := by
 refine enter [Sl.v b, Sl.v d] Try.func40 rfl Try.ntmps40 rfl ?_
 intro a0 ax
 unfold slices_Equal__int_int_.vc at y
 refine wp_seq (wp_region_lit ?_)
 refine sqv ax rfl (r_assign rfl) fun _ ay => sq_end ?_
 have ab := ay.kp [(0, Sl.v b), (1, Sl.v d)] rfl
 refine then_normal (wp_seq (wp_seq (wp_region_lit ?_)))
 refine sqv ab rfl (r_move (ab.get rfl)) fun _ ad => sqv ad rfl (r_len (ad.get rfl) tU22) fun _ af => sqv af rfl (r_move (af.get rfl)) fun _ ah => sqv ah rfl (r_len (ah.get rfl) tU22) fun _ z => sqv z rfl (r_neq (z.get rfl) (z.get rfl)) fun _ az => sq_end ?_
 have r := az.kp [(0, Sl.v b), (1, Sl.v d), (10, .bool (decide ((b.n : Int) ≠ (d.n : Int))))] rfl
 refine then_normal ?_
 refine wp_cond_split (r.get rfl) (fun hc => ?_) (fun hc => ?_)
 ·have aA := y.1 (of_decide_eq_true hc)
  clear hc
  refine wp_seq (wp_region_lit ?_)
  refine sqv r rfl (r_assign rfl) fun _ aB => sq_end ?_
  have ai := aB.kp [(4, .bool false)] rfl
  refine then_normal ?_
  refine wp_ret ?_
  refine then_ret ?_
  exact res_all (vs := [.bool false]) rfl ai ⟨res_of_tmp ai rfl, trivial⟩ aA
 ·have aC := y.2 (of_decide_eq_false hc)
  clear hc
  refine wp_skip ?_
  refine then_normal (wp_seq (wp_seq (wp_region_lit ?_)))
  refine sqv r rfl (r_move (r.get rfl)) fun _ aj => sqv aj rfl (r_len (aj.get rfl) tU22) fun _ aD => sqv aD rfl (r_move rfl) fun _ aF => sq_end ?_
  have aG := aF.kp [(0, Sl.v b), (1, Sl.v d), (12, .int .i64 (b.n : Int)), (13, .int .i64 0)] rfl
  refine then_normal (wp_block ?_)
  obtain ⟨m, q, aH, aI⟩ := aC
  refine wp_loop_st (σ := Int × World) (fun s a w => Ag 26 a [(0, Sl.v b), (1, Sl.v d), (12, .int .i64 (b.n : Int)), (13, .int .i64 s.1)] ∧ w = s.2 ∧ m s.1 s.2) (fun s => q s.1 s.2) (0, w) ⟨aG.kp [(0, Sl.v b), (1, Sl.v d), (12, .int .i64 (b.n : Int)), (13, .int .i64 0)] rfl, rfl, aH⟩ ?_
  rintro ⟨c, l⟩ bi w_ ⟨aa, hw_, aJ⟩
  have hw_ : l = w_ := hw_.symm
  subst hw_
  have ak := aI c _ aJ
  refine wp_seq (wp_region_lit ?_)
  refine sqv aa rfl (r_lss (aa.get rfl) (aa.get rfl)) fun _ aK => sq_end ?_
  have u := aK.kp [(0, Sl.v b), (1, Sl.v d), (12, .int .i64 (b.n : Int)), (13, .int .i64 c), (14, .bool (decide (c < (b.n : Int))))] rfl
  refine then_normal (wp_seq ?_)
  refine wp_cond_split (u.get rfl) (fun hc => ?_) (fun hc => ?_)
  ·have aL := ak.1 (of_decide_eq_true hc)
   clear hc
   refine wp_skip ?_
   refine then_normal (wp_seq (wp_block (wp_seq (wp_region_lit ?_))))
   refine sqv u rfl (r_move (u.get rfl)) fun _ al => sqv al rfl (r_assign (al.get rfl)) fun _ aM => sq_end ?_
   have g := aM.kp [(0, Sl.v b), (1, Sl.v d), (5, .int .i64 c), (12, .int .i64 (b.n : Int)), (13, .int .i64 c)] rfl
   refine then_normal (wp_seq ?_)
   refine draw' (by kernel_rfl) fun i aN => ?_
   have aO : Chg [] l i := aN
   have aP := aL i    aO
   obtain ⟨o, am, aQ⟩ := aP
   obtain ⟨j, aR, aS⟩ := aQ
   obtain ⟨p, an, aT⟩ := aS
   obtain ⟨k, aU, ao⟩ := aT
   refine par (D := [[], [], [0, 1], [0, 1, 2], [], [], [4, 5], [4, 5, 6], [0, 1, 2, 3, 4, 5, 6, 7]]) (S := [0, 1, 2, 3, 4, 5, 6, 7, 8]) (F := []) (V := VL [(0, fun v _ => v = Sl.v b), (1, fun v _ => v = .int .i64 c), (2, fun v _ => v = .pointer (some (o.add (c.toNat * 1)))), (3, fun v _ => v = .int .i64 j), (4, fun v _ => v = Sl.v d), (5, fun v _ => v = .int .i64 c), (6, fun v _ => v = .pointer (some (p.add (c.toNat * 1)))), (7, fun v _ => v = .int .i64 k), (8, fun v _ => v = .bool (decide (j ≠ k)))]) g (by kernel_rfl) ⟨fun _ _ _ _ h => h, fun _ _ _ _ h => h, fun _ _ _ _ h => h, fun _ _ _ _ h => h, fun _ _ _ _ h => h, fun _ _ _ _ h => h, fun _ _ _ _ h => h, fun _ _ _ _ h => h, fun _ _ _ _ h => h, trivial⟩ ⟨?_, ?_, ?_, ?_, ?_, ?_, ?_, ?_, ?_, trivial⟩ ?_
   ·intro a w hT
    have hAp := hT.ag g [(0, Sl.v b)] ⟨rfl, trivial⟩ (by kernel_rfl)
    exact ovr hAp rfl (r_move (hAp.get rfl)) fun _ => Eq.refl _
   ·intro a w hT
    have hAp := hT.ag g [(5, .int .i64 c)] ⟨rfl, trivial⟩ (by kernel_rfl)
    exact ovr hAp rfl (r_move (hAp.get rfl)) fun _ => Eq.refl _
   ·intro a w hT
    have hAp := hT.ag g [] trivial (by kernel_rfl)
    have hAp := hAp.add (t := 16) (v := Sl.v b) (hT.vals 0 rfl 16 rfl)
    have hAp := hAp.add (t := 17) (v := .int .i64 c) (hT.vals 1 rfl 17 rfl)
    exact ovr hAp rfl (r_indexAddr (hAp.get rfl) (hAp.get rfl) tU22 ti_3 am.1 am.2) fun _ => Eq.refl _
   ·intro a w hT
    have hAp := hT.ag g [] trivial (by kernel_rfl)
    have hAp := hAp.add (t := 18) (v := .pointer (some (o.add (c.toNat * 1)))) (hT.vals 2 rfl 18 rfl)
    exact ovr hAp rfl (r_load1 tU3 rfl (hAp.get rfl) (Ext.cell hT.chg aR)) fun _ => Eq.refl _
   ·intro a w hT
    have hAp := hT.ag g [(1, Sl.v d)] ⟨rfl, trivial⟩ (by kernel_rfl)
    exact ovr hAp rfl (r_move (hAp.get rfl)) fun _ => Eq.refl _
   ·intro a w hT
    have hAp := hT.ag g [(5, .int .i64 c)] ⟨rfl, trivial⟩ (by kernel_rfl)
    exact ovr hAp rfl (r_move (hAp.get rfl)) fun _ => Eq.refl _
   ·intro a w hT
    have hAp := hT.ag g [] trivial (by kernel_rfl)
    have hAp := hAp.add (t := 20) (v := Sl.v d) (hT.vals 4 rfl 20 rfl)
    have hAp := hAp.add (t := 21) (v := .int .i64 c) (hT.vals 5 rfl 21 rfl)
    exact ovr hAp rfl (r_indexAddr (hAp.get rfl) (hAp.get rfl) tU22 ti_3 an.1 an.2) fun _ => Eq.refl _
   ·intro a w hT
    have hAp := hT.ag g [] trivial (by kernel_rfl)
    have hAp := hAp.add (t := 22) (v := .pointer (some (p.add (c.toNat * 1)))) (hT.vals 6 rfl 22 rfl)
    exact ovr hAp rfl (r_load1 tU3 rfl (hAp.get rfl) (Ext.cell hT.chg aU)) fun _ => Eq.refl _
   ·intro a w hT
    have hAp := hT.ag g [] trivial (by kernel_rfl)
    have hAp := hAp.add (t := 19) (v := .int .i64 j) (hT.vals 3 rfl 19 rfl)
    have hAp := hAp.add (t := 23) (v := .int .i64 k) (hT.vals 7 rfl 23 rfl)
    exact ovr hAp rfl (r_neq (hAp.get rfl) (hAp.get rfl)) fun _ => Eq.refl _
   ·intro aV f aX aY aZ
    have hA110 := aY [(0, Sl.v b), (1, Sl.v d), (12, .int .i64 (b.n : Int)), (13, .int .i64 c)] ⟨rfl, rfl, rfl, rfl, trivial⟩ (by kernel_rfl)
    have a1 : aV.tmps.getD 24 undef = .bool (decide (j ≠ k)) := aZ 8 rfl 24 rfl
    have a2 := hA110.add a1
    have ap : Chg [] i f := aX
    refine PR_end (by kernel_rfl) ?_
    have x := a2.kp [(0, Sl.v b), (1, Sl.v d), (12, .int .i64 (b.n : Int)), (13, .int .i64 c), (24, .bool (decide (j ≠ k)))] rfl
    refine then_normal ?_
    refine wp_cond_split (x.get rfl) (fun hc => ?_) (fun hc => ?_)
    ·have a3 := ao.1 (of_decide_eq_true hc)
     clear hc
     refine wp_seq (wp_region_lit ?_)
     refine sqv x rfl (r_assign rfl) fun _ a4 => sq_end ?_
     have aq := a4.kp [(4, .bool false)] rfl
     refine then_normal ?_
     refine wp_ret ?_
     refine block_ret ?_
     refine then_ret ?_
     refine then_ret ?_
     refine block_ret ?_
     refine then_ret ?_
     have a5 := a3 f    ap
     exact res_all (vs := [.bool false]) rfl aq ⟨res_of_tmp aq rfl, trivial⟩ a5
    ·have a6 := ao.2 (of_decide_eq_false hc)
     clear hc
     refine wp_skip ?_
     refine block_normal ?_
     refine then_normal (wp_region_lit ?_)
     obtain ⟨a7, a8⟩ := a6
     refine sqv x rfl (r_addI (x.get rfl) rfl a7) fun _ ar => sqv ar rfl (r_move (ar.get rfl)) fun _ a9 => sq_end ?_
     have ba := a9.kp [(0, Sl.v b), (1, Sl.v d), (12, .int .i64 (b.n : Int)), (13, .int .i64 (c + 1))] rfl
     have au := a8 f    ap
     have bb := ba.kp [(0, Sl.v b), (1, Sl.v d), (12, .int .i64 (b.n : Int)), (13, .int .i64 (c + 1))] rfl
     exact then_normal ⟨(c + 1, f), ⟨bb, rfl, au.1⟩, au.2⟩
  ·have bd := ak.2 (of_decide_eq_false hc)
   clear hc
   refine wp_exit ?_
   refine then_exit ?_
   refine then_exit ?_
   refine block_hit ?_
   have bf := u.kp [] rfl
   refine then_normal (wp_seq (wp_region_lit ?_))
   refine sqv bf rfl (r_assign rfl) fun _ bg => sq_end ?_
   have av := bg.kp [(4, .bool true)] rfl
   refine then_normal ?_
   refine wp_ret ?_
   exact res_all (vs := [.bool true]) rfl av ⟨res_of_tmp av rfl, trivial⟩ bd
def slices_Clone__api_Attr_api_Attr_.vc (b : Sl) (R : Value → World → Prop) (w : World) : Prop :=
((b.a.isNone = true) →
R (Sl.v Sl.nil) w) ∧
((b.a.isNone = false) →
∀ (c : World) (d : Nat), New w d c → Chg [] w c →
∀ (_ : Box c d 47 []),
RunK Try.prog (Builtin.append_ #[23, 23] 23 #[Sl.v (Sl.mk (some ⟨d, 0, none⟩) 0 0), Sl.v b]) c [] (fun v j => ∃ (f : Sl), v = Sl.v f ∧
R (Sl.v f) j))
theorem slices_Clone__api_Attr_api_Attr_.ok (b : Sl) {R : Value → World → Prop} {w : World} (g : slices_Clone__api_Attr_api_Attr_.vc b R w) : Calls Try.prog 64 #[Sl.v b] w (Ret R) := by
 refine enter [Sl.v b] Try.func64 rfl Try.ntmps64 rfl ?_
 intro a0 q
 unfold slices_Clone__api_Attr_api_Attr_.vc at g
 refine wp_seq (wp_region_lit ?_)
 refine sqv q rfl (r_assign rfl) fun _ r => sq_end ?_
 have k := r.kp [(0, Sl.v b)] rfl
 refine then_normal (wp_seq (wp_seq (wp_region_lit ?_)))
 refine sqv k rfl (r_move (k.get rfl)) fun _ l => sqv l rfl (r_slnil (l.get rfl) rfl tU23) fun _ s => sq_end ?_
 have h := s.kp [(0, Sl.v b), (4, .bool b.a.isNone)] rfl
 refine then_normal ?_
 refine wp_cond_split (h.get rfl) (fun hc => ?_) (fun hc => ?_)
 ·have t := g.1 hc
  clear hc
  refine wp_seq (wp_region_lit ?_)
  refine sqv h rfl (r_assign rfl) fun _ u => sq_end ?_
  have m := u.kp [(2, Sl.v Sl.nil)] rfl
  refine then_normal ?_
  refine wp_ret ?_
  refine then_ret ?_
  exact res_all (vs := [Sl.v Sl.nil]) rfl m ⟨res_of_tmp m rfl, trivial⟩ t
 ·have x := g.2 hc
  clear hc
  refine wp_skip ?_
  refine then_normal (wp_seq (wp_region_lit ?_))
  refine sq (opk_new (fun B => .slice (some ⟨B, 0, none⟩) 0 0) h rfl (r_buildSlice0 tU23 ti_47) fun al c d y z aa n _ => ?_)
  have ab : New w d c := z
  have ad : Chg [] w c := y
  refine sqv n rfl (r_move (n.get rfl)) fun _ i => ?_
  have af := x c d ab  ad
  have ag := af aa
  refine sq (opk_run i rfl (fun _ _ hr => r_append (i.get rfl) (i.get rfl) hr) ag fun am an j o _ ao ap ah => ?_)
  obtain ⟨f, rfl, ai⟩ := ah
  refine sqv o rfl (r_assign (o.get rfl)) fun _ aj => sq_end ?_
  have p := aj.kp [(2, Sl.v f)] rfl
  refine then_normal ?_
  refine wp_ret ?_
  exact res_all (vs := [Sl.v f]) rfl p ⟨res_of_tmp p rfl, trivial⟩ ai
end Go.Proofs.Yteohbfaechfliaa
