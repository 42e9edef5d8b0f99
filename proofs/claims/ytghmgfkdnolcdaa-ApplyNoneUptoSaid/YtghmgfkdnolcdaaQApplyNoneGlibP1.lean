/-
  PRINTED BY PROGRAM: for each function its condition (vc), and that this suffices (ok).
-/
import Derived.Test.YtghmgfkdnolcdaaQApplyNoneGT
namespace Go.Proofs.Ytghmgfkdnolcdaa
open Go.RowKit
set_option linter.unusedVariables false
set_option maxHeartbeats 1000000
set_option maxRecDepth 10000
def slices_Insert__int_int_.vc (b : Sl) (f : Int) (d : Sl) (R : Value → World → Prop) (w : World) : Prop :=
((0 : Int) ≤ f ∧ f ≤ (b.n : Int)) ∧
(((d.n : Int) = 0) →
R (Sl.v b) w) ∧
((¬ ((d.n : Int) = 0)) →
((f = (b.n : Int)) →
RunK Try.prog (Builtin.append_ #[36, 36] 36 #[Sl.v b, Sl.v d]) w [] (fun v aC => ∃ (o : Sl), v = Sl.v o ∧
R (Sl.v o) aC)) ∧
((¬ (f = (b.n : Int))) →
(I64 ((b.n : Int) + (d.n : Int))) ∧
(((b.c : Int) < ((b.n : Int) + (d.n : Int))) →
((0 : Int) ≤ f ∧ f ≤ (b.c : Int)) ∧
(I64 ((b.n : Int) + (d.n : Int))) ∧
(I64 (((b.n : Int) + (d.n : Int)) - f)) ∧
RunK Try.prog (Builtin.append_ #[36, 3] 36 #[Sl.v (Sl.cut b 1 0 f.toNat b.c), .int .i64 (((b.n : Int) + (d.n : Int)) - f)]) w [] (fun v aD => ∃ (g : Sl), v = Sl.v g ∧
((0 : Int) ≤ f ∧ f ≤ (g.n : Int)) ∧
RunK Try.prog (Builtin.copy_ #[36, 36] 3 #[Sl.v (Sl.cut g 1 f.toNat g.n g.c), Sl.v d]) aD [] (fun v x => ∃ (aF : Int), v = .int .i64 aF ∧
∀ (l : World), Chg [] x l →
(I64 (f + (d.n : Int))) ∧
((0 : Int) ≤ f + (d.n : Int) ∧ f + (d.n : Int) ≤ (g.n : Int)) ∧
((0 : Int) ≤ f ∧ f ≤ (b.n : Int)) ∧
∀ (p : World), Chg [] l p →
RunK Try.prog (Builtin.copy_ #[36, 36] 3 #[Sl.v (Sl.cut g 1 (f + (d.n : Int)).toNat g.n g.c), Sl.v (Sl.cut b 1 f.toNat b.n b.c)]) p [] (fun v aG => ∃ (aH : Int), v = .int .i64 aH ∧
R (Sl.v g) aG)))) ∧
((¬ ((b.c : Int) < ((b.n : Int) + (d.n : Int)))) →
(I64 ((b.n : Int) + (d.n : Int))) ∧
((0 : Int) ≤ (b.n : Int) + (d.n : Int) ∧ (b.n : Int) + (d.n : Int) ≤ (b.c : Int)) ∧
(I64 (f + (d.n : Int))) ∧
((0 : Int) ≤ f + (d.n : Int) ∧ f + (d.n : Int) ≤ ((Sl.cut b 1 0 ((b.n : Int) + (d.n : Int)).toNat b.c).n : Int)) ∧
∃ q : Bool, ((Extern.SlicesOverlaps.overlaps #[36, 36] #[4] #[Sl.v d, Sl.v (Sl.cut (Sl.cut b 1 0 ((b.n : Int) + (d.n : Int)).toNat b.c) 1 (f + (d.n : Int)).toNat (Sl.cut b 1 0 ((b.n : Int) + (d.n : Int)).toNat b.c).n (Sl.cut b 1 0 ((b.n : Int) + (d.n : Int)).toNat b.c).c)]).run Try.prog w = .ok (.bool q) w) ∧
((q = false) →
∀ (m : World), Chg [] w m →
(I64 (f + (d.n : Int))) ∧
((0 : Int) ≤ f + (d.n : Int) ∧ f + (d.n : Int) ≤ ((Sl.cut b 1 0 ((b.n : Int) + (d.n : Int)).toNat b.c).n : Int)) ∧
((0 : Int) ≤ f ∧ f ≤ ((Sl.cut b 1 0 ((b.n : Int) + (d.n : Int)).toNat b.c).n : Int)) ∧
∀ (r : World), Chg [] m r →
RunK Try.prog (Builtin.copy_ #[36, 36] 3 #[Sl.v (Sl.cut (Sl.cut b 1 0 ((b.n : Int) + (d.n : Int)).toNat b.c) 1 (f + (d.n : Int)).toNat (Sl.cut b 1 0 ((b.n : Int) + (d.n : Int)).toNat b.c).n (Sl.cut b 1 0 ((b.n : Int) + (d.n : Int)).toNat b.c).c), Sl.v (Sl.cut (Sl.cut b 1 0 ((b.n : Int) + (d.n : Int)).toNat b.c) 1 f.toNat (Sl.cut b 1 0 ((b.n : Int) + (d.n : Int)).toNat b.c).n (Sl.cut b 1 0 ((b.n : Int) + (d.n : Int)).toNat b.c).c)]) r [] (fun v aI => ∃ (aJ : Int), v = .int .i64 aJ ∧
((0 : Int) ≤ f ∧ f ≤ ((Sl.cut b 1 0 ((b.n : Int) + (d.n : Int)).toNat b.c).n : Int)) ∧
RunK Try.prog (Builtin.copy_ #[36, 36] 3 #[Sl.v (Sl.cut (Sl.cut b 1 0 ((b.n : Int) + (d.n : Int)).toNat b.c) 1 f.toNat (Sl.cut b 1 0 ((b.n : Int) + (d.n : Int)).toNat b.c).n (Sl.cut b 1 0 ((b.n : Int) + (d.n : Int)).toNat b.c).c), Sl.v d]) aI [] (fun v aK => ∃ (aL : Int), v = .int .i64 aL ∧
R (Sl.v (Sl.cut b 1 0 ((b.n : Int) + (d.n : Int)).toNat b.c)) aK))) ∧
((q = true) →
((0 : Int) ≤ (b.n : Int) ∧ (b.n : Int) ≤ ((Sl.cut b 1 0 ((b.n : Int) + (d.n : Int)).toNat b.c).n : Int)) ∧
RunK Try.prog (Builtin.copy_ #[36, 36] 3 #[Sl.v (Sl.cut (Sl.cut b 1 0 ((b.n : Int) + (d.n : Int)).toNat b.c) 1 (b.n : Int).toNat (Sl.cut b 1 0 ((b.n : Int) + (d.n : Int)).toNat b.c).n (Sl.cut b 1 0 ((b.n : Int) + (d.n : Int)).toNat b.c).c), Sl.v d]) w [] (fun v aM => ∃ (aN : Int), v = .int .i64 aN ∧
((0 : Int) ≤ f ∧ f ≤ ((Sl.cut b 1 0 ((b.n : Int) + (d.n : Int)).toNat b.c).n : Int)) ∧
CallK Try.prog 75 #[Sl.v (Sl.cut (Sl.cut b 1 0 ((b.n : Int) + (d.n : Int)).toNat b.c) 1 f.toNat (Sl.cut b 1 0 ((b.n : Int) + (d.n : Int)).toNat b.c).n (Sl.cut b 1 0 ((b.n : Int) + (d.n : Int)).toNat b.c).c), .int .i64 (d.n : Int)] aM [] (fun v aO => v = .tuple #[] ∧
R (Sl.v (Sl.cut b 1 0 ((b.n : Int) + (d.n : Int)).toNat b.c)) aO))))))
theorem slices_Insert__int_int_.ok (b : Sl) (f : Int) (d : Sl) {R : Value → World → Prop} {w : World} (aP : slices_Insert__int_int_.vc b f d R w) : Calls Try.prog 49 #[Sl.v b, .int .i64 f, Sl.v d] w (Ret R) := by
 refine enter [Sl.v b, .int .i64 f, Sl.v d] Try.func49 rfl Try.ntmps49 rfl ?_
 intro a0 bU
 unfold slices_Insert__int_int_.vc at aP
 refine wp_seq (wp_region_lit ?_)
 refine sqv bU rfl (r_assign rfl) fun _ bV => ?_
 refine sq_end ?_
 have aQ := bV.keep [(0, Sl.v b), (1, .int .i64 f), (2, Sl.v d)] ⟨rfl, rfl, rfl, trivial⟩
 refine then_normal (wp_seq (wp_region_lit ?_))
 refine sqv aQ rfl (r_move (aQ.get rfl)) fun _ aR => ?_
 refine sqv aR rfl (r_move (aR.get rfl)) fun _ y => ?_
 obtain ⟨bX, aS⟩ := aP
 refine sqv y rfl (r_sliceL (y.get rfl) (y.get rfl) Try.underlying36 ti_3 bX) fun _ bY => ?_
 refine sq_end ?_
 have aT := bY.keep [(0, Sl.v b), (1, .int .i64 f), (2, Sl.v d)] ⟨rfl, rfl, rfl, trivial⟩
 refine then_normal (wp_seq (wp_region_lit ?_))
 refine sqv aT rfl (r_move (aT.get rfl)) fun _ aU => ?_
 refine sqv aU rfl (r_len (aU.get rfl) Try.underlying36) fun _ aV => ?_
 refine sqv aV rfl (r_assign (aV.get rfl)) fun _ bZ => ?_
 refine sq_end ?_
 have aX := bZ.keep [(0, Sl.v b), (1, .int .i64 f), (2, Sl.v d), (7, .int .i64 (d.n : Int))] ⟨rfl, rfl, rfl, rfl, trivial⟩
 refine then_normal (wp_seq (wp_seq (wp_region_lit ?_)))
 refine sqv aX rfl (r_move (aX.get rfl)) fun _ aY => ?_
 refine sqv aY rfl (r_eql (aY.get rfl) rfl) fun _ b0 => ?_
 refine sq_end ?_
 have s := b0.keep [(0, Sl.v b), (1, .int .i64 f), (2, Sl.v d), (7, .int .i64 (d.n : Int)), (16, .bool (decide ((d.n : Int) = 0)))] ⟨rfl, rfl, rfl, rfl, rfl, trivial⟩
 refine then_normal ?_
 refine wp_cond_split (s.get rfl) (fun hc => ?_) (fun hc => ?_)
 ·have b1 := aS.1 (of_decide_eq_true hc)
  clear hc
  refine wp_seq (wp_region_lit ?_)
  refine sqv s rfl (r_move (s.get rfl)) fun _ aZ => ?_
  refine sqv aZ rfl (r_assign (aZ.get rfl)) fun _ b2 => ?_
  refine sq_end ?_
  have hA23 := b2.keep [(6, Sl.v b)] ⟨rfl, trivial⟩
  refine then_normal ?_
  refine wp_ret ?_
  refine then_ret ?_
  exact res_all (vs := [Sl.v b]) rfl hA23 ⟨res_of_tmp hA23 rfl, trivial⟩ b1
 ·have a1 := aS.2 (of_decide_eq_false hc)
  clear hc
  refine wp_skip ?_
  refine then_normal (wp_seq (wp_region_lit ?_))
  refine sqv s rfl (r_move (s.get rfl)) fun _ a2 => ?_
  refine sqv a2 rfl (r_len (a2.get rfl) Try.underlying36) fun _ a3 => ?_
  refine sqv a3 rfl (r_assign (a3.get rfl)) fun _ b3 => ?_
  refine sq_end ?_
  have a4 := b3.keep [(0, Sl.v b), (1, .int .i64 f), (2, Sl.v d), (7, .int .i64 (d.n : Int)), (8, .int .i64 (b.n : Int))] ⟨rfl, rfl, rfl, rfl, rfl, trivial⟩
  refine then_normal (wp_seq (wp_seq (wp_region_lit ?_)))
  refine sqv a4 rfl (r_move (a4.get rfl)) fun _ a5 => ?_
  refine sqv a5 rfl (r_move (a5.get rfl)) fun _ z => ?_
  refine sqv z rfl (r_eql (z.get rfl) (z.get rfl)) fun _ b4 => ?_
  refine sq_end ?_
  have t := b4.keep [(0, Sl.v b), (1, .int .i64 f), (2, Sl.v d), (7, .int .i64 (d.n : Int)), (8, .int .i64 (b.n : Int)), (22, .bool (decide (f = (b.n : Int))))] ⟨rfl, rfl, rfl, rfl, rfl, rfl, trivial⟩
  refine then_normal ?_
  refine wp_cond_split (t.get rfl) (fun hc => ?_) (fun hc => ?_)
  ·have b5 := a1.1 (of_decide_eq_true hc)
   clear hc
   refine wp_seq (wp_region_lit ?_)
   refine sqv t rfl (r_move (t.get rfl)) fun _ a6 => ?_
   refine sqv a6 rfl (r_move (a6.get rfl)) fun _ aa => ?_
   refine sq (opk_run aa rfl (fun _ _ hr => r_append (aa.get rfl) (aa.get rfl) hr) b5 fun dY dZ aC a7 _ d0 d1 b6 => ?_)
   obtain ⟨o, rfl, b7⟩ := b6
   refine sqv a7 rfl (r_assign (a7.get rfl)) fun _ b8 => ?_
   refine sq_end ?_
   have a8 := b8.keep [(6, Sl.v o)] ⟨rfl, trivial⟩
   refine then_normal ?_
   refine wp_ret ?_
   refine then_ret ?_
   exact res_all (vs := [Sl.v o]) rfl a8 ⟨res_of_tmp a8 rfl, trivial⟩ b7
  ·have b9 := a1.2 (of_decide_eq_false hc)
   clear hc
   refine wp_skip ?_
   refine then_normal (wp_seq (wp_seq (wp_region_lit ?_)))
   refine sqv t rfl (r_move (t.get rfl)) fun _ a9 => ?_
   refine sqv a9 rfl (r_move (a9.get rfl)) fun _ ab => ?_
   obtain ⟨ca, ba⟩ := b9
   refine sqv ab rfl (r_addI (ab.get rfl) (ab.get rfl) ca) fun _ bb => ?_
   refine sqv bb rfl (r_move (bb.get rfl)) fun _ bd => ?_
   refine sqv bd rfl (r_cap (bd.get rfl) Try.underlying36) fun _ ad => ?_
   refine sqv ad rfl (r_gtr (ad.get rfl) (ad.get rfl)) fun _ cb => ?_
   refine sq_end ?_
   have u := cb.keep [(0, Sl.v b), (1, .int .i64 f), (2, Sl.v d), (7, .int .i64 (d.n : Int)), (8, .int .i64 (b.n : Int)), (31, .bool (decide ((b.c : Int) < ((b.n : Int) + (d.n : Int)))))] ⟨rfl, rfl, rfl, rfl, rfl, rfl, trivial⟩
   refine then_normal ?_
   refine wp_cond_split (u.get rfl) (fun hc => ?_) (fun hc => ?_)
   ·have cc := ba.1 (of_decide_eq_true hc)
    clear hc
    refine wp_seq (wp_region_lit ?_)
    refine sqv u rfl (r_move (u.get rfl)) fun _ bf => ?_
    refine sqv bf rfl (r_move (bf.get rfl)) fun _ af => ?_
    obtain ⟨cd, cf⟩ := cc
    refine sqv af rfl (r_sliceH (af.get rfl) (af.get rfl) Try.underlying36 ti_3 cd) fun _ bg => ?_
    refine sqv bg rfl (r_move (bg.get rfl)) fun _ bh => ?_
    refine sqv bh rfl (r_move (bh.get rfl)) fun _ ah => ?_
    obtain ⟨cg, ch⟩ := cf
    refine sqv ah rfl (r_addI (ah.get rfl) (ah.get rfl) cg) fun _ bi => ?_
    refine sqv bi rfl (r_move (bi.get rfl)) fun _ ai => ?_
    obtain ⟨ci, cj⟩ := ch
    refine sqv ai rfl (r_subI (ai.get rfl) (ai.get rfl) ci) fun _ aj => ?_
    refine sq (opk_run aj rfl (fun _ _ hr => r_append (aj.get rfl) (aj.get rfl) hr) cj fun d2 d3 aD bj _ d4 d5 ck => ?_)
    obtain ⟨g, rfl, cl⟩ := ck
    refine sqv bj rfl (r_assign (bj.get rfl)) fun _ cm => ?_
    refine sq_end ?_
    have bk := cm.keep [(0, Sl.v b), (1, .int .i64 f), (2, Sl.v d), (7, .int .i64 (d.n : Int)), (9, Sl.v g)] ⟨rfl, rfl, rfl, rfl, rfl, trivial⟩
    refine then_normal (wp_seq (wp_region_lit ?_))
    refine sqv bk rfl (r_move (bk.get rfl)) fun _ bl => ?_
    refine sqv bl rfl (r_move (bl.get rfl)) fun _ ak => ?_
    obtain ⟨cn, co⟩ := cl
    refine sqv ak rfl (r_sliceL (ak.get rfl) (ak.get rfl) Try.underlying36 ti_3 cn) fun _ bm => ?_
    refine sqv bm rfl (r_move (bm.get rfl)) fun _ al => ?_
    refine sq (opk_run al rfl (fun _ _ hr => r_copy (al.get rfl) (al.get rfl) hr) co fun d6 d7 x cp _ d8 d9 cq => ?_)
    obtain ⟨aF, rfl, cr⟩ := cq
    refine sq_end ?_
    have k := cp.keep [(0, Sl.v b), (1, .int .i64 f), (7, .int .i64 (d.n : Int)), (9, Sl.v g)] ⟨rfl, rfl, rfl, rfl, trivial⟩
    refine then_normal (wp_seq ?_)
    refine draw' (by kernel_rfl) fun l cs => ?_
    have ct : Chg [] x l := cs
    have cu := cr l    ct
    obtain ⟨cv, cx⟩ := cu
    obtain ⟨cy, cz⟩ := cx
    obtain ⟨cA, cB⟩ := cz
    refine par (D := [[], [], [], [1, 2], [0, 1, 2, 3], [], [], [5, 6], [0, 1, 2, 3, 4, 5, 6, 7]]) (S := [0, 1, 2, 3, 4, 5, 6, 7]) (F := []) (V := VL [(0, fun v _ => v = Sl.v g), (1, fun v _ => v = .int .i64 f), (2, fun v _ => v = .int .i64 (d.n : Int)), (3, fun v _ => v = .int .i64 (f + (d.n : Int))), (4, fun v _ => v = Sl.v (Sl.cut g 1 (f + (d.n : Int)).toNat g.n g.c)), (5, fun v _ => v = Sl.v b), (6, fun v _ => v = .int .i64 f), (7, fun v _ => v = Sl.v (Sl.cut b 1 f.toNat b.n b.c))]) k (by kernel_rfl) ⟨fun _ _ _ _ h => h, fun _ _ _ _ h => h, fun _ _ _ _ h => h, fun _ _ _ _ h => h, fun _ _ _ _ h => h, fun _ _ _ _ h => h, fun _ _ _ _ h => h, fun _ _ _ _ h => h, trivial⟩ ⟨?_, ?_, ?_, ?_, ?_, ?_, ?_, ?_, trivial⟩ ?_
    ·intro a w hT
     have hAp := hT.ag k [(9, Sl.v g)] ⟨rfl, trivial⟩ (by kernel_rfl)
     exact ovr hAp rfl (r_move (hAp.get rfl)) fun _ => Eq.refl _
    ·intro a w hT
     have hAp := hT.ag k [(1, .int .i64 f)] ⟨rfl, trivial⟩ (by kernel_rfl)
     exact ovr hAp rfl (r_move (hAp.get rfl)) fun _ => Eq.refl _
    ·intro a w hT
     have hAp := hT.ag k [(7, .int .i64 (d.n : Int))] ⟨rfl, trivial⟩ (by kernel_rfl)
     exact ovr hAp rfl (r_move (hAp.get rfl)) fun _ => Eq.refl _
    ·intro a w hT
     have hAp := hT.ag k [] trivial (by kernel_rfl)
     have cC : a.tmps.getD 47 undef = .int .i64 f := hT.vals 1 rfl 47 rfl
     have hAp := hAp.add cC
     have cD : a.tmps.getD 48 undef = .int .i64 (d.n : Int) := hT.vals 2 rfl 48 rfl
     have hAp := hAp.add cD
     exact ovr hAp rfl (r_addI (hAp.get rfl) (hAp.get rfl) cv) fun _ => Eq.refl _
    ·intro a w hT
     have hAp := hT.ag k [] trivial (by kernel_rfl)
     have cF : a.tmps.getD 46 undef = Sl.v g := hT.vals 0 rfl 46 rfl
     have hAp := hAp.add cF
     have cG : a.tmps.getD 49 undef = .int .i64 (f + (d.n : Int)) := hT.vals 3 rfl 49 rfl
     have hAp := hAp.add cG
     exact ovr hAp rfl (r_sliceL (hAp.get rfl) (hAp.get rfl) Try.underlying36 ti_3 cy) fun _ => Eq.refl _
    ·intro a w hT
     have hAp := hT.ag k [(0, Sl.v b)] ⟨rfl, trivial⟩ (by kernel_rfl)
     exact ovr hAp rfl (r_move (hAp.get rfl)) fun _ => Eq.refl _
    ·intro a w hT
     have hAp := hT.ag k [(1, .int .i64 f)] ⟨rfl, trivial⟩ (by kernel_rfl)
     exact ovr hAp rfl (r_move (hAp.get rfl)) fun _ => Eq.refl _
    ·intro a w hT
     have hAp := hT.ag k [] trivial (by kernel_rfl)
     have cH : a.tmps.getD 51 undef = Sl.v b := hT.vals 5 rfl 51 rfl
     have hAp := hAp.add cH
     have cI : a.tmps.getD 52 undef = .int .i64 f := hT.vals 6 rfl 52 rfl
     have hAp := hAp.add cI
     exact ovr hAp rfl (r_sliceL (hAp.get rfl) (hAp.get rfl) Try.underlying36 ti_3 cA) fun _ => Eq.refl _
    ·intro bn p cJ cK bo
     have cL := cK [(9, Sl.v g)] ⟨rfl, trivial⟩ (by kernel_rfl)
     have cM : bn.tmps.getD 50 undef = Sl.v (Sl.cut g 1 (f + (d.n : Int)).toNat g.n g.c) := bo 4 rfl 50 rfl
     have cN := cL.add cM
     have cO : bn.tmps.getD 53 undef = Sl.v (Sl.cut b 1 f.toNat b.n b.c) := bo 7 rfl 53 rfl
     have am := cN.add cO
     have cP : Chg [] l p := cJ
     have cQ := cB p    cP
     refine one (D := [[], [], [], [1, 2], [0, 1, 2, 3], [], [], [5, 6], [0, 1, 2, 3, 4, 5, 6, 7]]) (i := 8) rfl (by kernel_rfl) (opk_run am rfl (fun _ _ hr => r_copy (am.get rfl) (am.get rfl) hr) cQ fun fa fb aG cR _ fc fd cS => ?_)
     obtain ⟨aH, rfl, cT⟩ := cS
     refine PR_end (by kernel_rfl) ?_
     have bp := cR.keep [(9, Sl.v g)] ⟨rfl, trivial⟩
     refine then_normal (wp_seq (wp_region_lit ?_))
     refine sqv bp rfl (r_move (bp.get rfl)) fun _ bq => ?_
     refine sqv bq rfl (r_assign (bq.get rfl)) fun _ cU => ?_
     refine sq_end ?_
     have br := cU.keep [(6, Sl.v g)] ⟨rfl, trivial⟩
     refine then_normal ?_
     refine wp_ret ?_
     refine then_ret ?_
     exact res_all (vs := [Sl.v g]) rfl br ⟨res_of_tmp br rfl, trivial⟩ cT
   ·have cX := ba.2 (of_decide_eq_false hc)
    clear hc
    refine wp_skip ?_
    refine then_normal (wp_seq (wp_region_lit ?_))
    refine sqv u rfl (r_move (u.get rfl)) fun _ bs => ?_
    refine sqv bs rfl (r_move (bs.get rfl)) fun _ bt => ?_
    refine sqv bt rfl (r_move (bt.get rfl)) fun _ an => ?_
    obtain ⟨cY, cZ⟩ := cX
    refine sqv an rfl (r_addI (an.get rfl) (an.get rfl) cY) fun _ ao => ?_
    obtain ⟨c0, c1⟩ := cZ
    refine sqv ao rfl (r_sliceH (ao.get rfl) (ao.get rfl) Try.underlying36 ti_3 c0) fun _ bu => ?_
    refine sqv bu rfl (r_assign (bu.get rfl)) fun _ c2 => ?_
    refine sq_end ?_
    have bv := c2.keep [(0, Sl.v (Sl.cut b 1 0 ((b.n : Int) + (d.n : Int)).toNat b.c)), (1, .int .i64 f), (2, Sl.v d), (7, .int .i64 (d.n : Int)), (8, .int .i64 (b.n : Int))] ⟨rfl, rfl, rfl, rfl, rfl, trivial⟩
    refine then_normal (wp_seq (wp_seq (wp_region_lit ?_)))
    refine sqv bv rfl (r_move (bv.get rfl)) fun _ bx => ?_
    refine sqv bx rfl (r_move (bx.get rfl)) fun _ bz => ?_
    refine sqv bz rfl (r_move (bz.get rfl)) fun _ bA => ?_
    refine sqv bA rfl (r_move (bA.get rfl)) fun _ ap => ?_
    obtain ⟨c3, c4⟩ := c1
    refine sqv ap rfl (r_addI (ap.get rfl) (ap.get rfl) c3) fun _ aq => ?_
    obtain ⟨c5, c6⟩ := c4
    refine sqv aq rfl (r_sliceL (aq.get rfl) (aq.get rfl) Try.underlying36 ti_3 c5) fun _ ar => ?_
    obtain ⟨q, c7, bB⟩ := c6
    refine sqv ar rfl (r_extern Try.func74 (by kernel_rfl) (by kernel_rfl) (by kernel_rfl) (by kernel_rfl) (map_arr (ml_cons (ar.get rfl) (ml_cons (ar.get rfl) ml_nil))) rfl c7) fun _ bC => ?_
    refine sqv bC rfl (r_not (bC.get rfl)) fun _ c8 => ?_
    refine sq_end ?_
    have j := c8.keep [(0, Sl.v (Sl.cut b 1 0 ((b.n : Int) + (d.n : Int)).toNat b.c)), (1, .int .i64 f), (2, Sl.v d), (7, .int .i64 (d.n : Int)), (8, .int .i64 (b.n : Int)), (68, .bool (!q))] ⟨rfl, rfl, rfl, rfl, rfl, rfl, trivial⟩
    refine then_normal ?_
    refine wp_cond_split (j.get rfl) (fun hc => ?_) (fun hc => ?_)
    ·have c9 := bB.1 (b_not_t hc)
     clear hc
     refine wp_seq ?_
     refine draw' (by kernel_rfl) fun m da => ?_
     have db : Chg [] w m := da
     have dc := c9 m    db
     obtain ⟨dd, df⟩ := dc
     obtain ⟨dg, dh⟩ := df
     obtain ⟨di, dj⟩ := dh
     refine par (D := [[], [], [], [1, 2], [0, 1, 2, 3], [], [], [5, 6], [0, 1, 2, 3, 4, 5, 6, 7]]) (S := [0, 1, 2, 3, 4, 5, 6, 7]) (F := []) (V := VL [(0, fun v _ => v = Sl.v (Sl.cut b 1 0 ((b.n : Int) + (d.n : Int)).toNat b.c)), (1, fun v _ => v = .int .i64 f), (2, fun v _ => v = .int .i64 (d.n : Int)), (3, fun v _ => v = .int .i64 (f + (d.n : Int))), (4, fun v _ => v = Sl.v (Sl.cut (Sl.cut b 1 0 ((b.n : Int) + (d.n : Int)).toNat b.c) 1 (f + (d.n : Int)).toNat (Sl.cut b 1 0 ((b.n : Int) + (d.n : Int)).toNat b.c).n (Sl.cut b 1 0 ((b.n : Int) + (d.n : Int)).toNat b.c).c)), (5, fun v _ => v = Sl.v (Sl.cut b 1 0 ((b.n : Int) + (d.n : Int)).toNat b.c)), (6, fun v _ => v = .int .i64 f), (7, fun v _ => v = Sl.v (Sl.cut (Sl.cut b 1 0 ((b.n : Int) + (d.n : Int)).toNat b.c) 1 f.toNat (Sl.cut b 1 0 ((b.n : Int) + (d.n : Int)).toNat b.c).n (Sl.cut b 1 0 ((b.n : Int) + (d.n : Int)).toNat b.c).c))]) j (by kernel_rfl) ⟨fun _ _ _ _ h => h, fun _ _ _ _ h => h, fun _ _ _ _ h => h, fun _ _ _ _ h => h, fun _ _ _ _ h => h, fun _ _ _ _ h => h, fun _ _ _ _ h => h, fun _ _ _ _ h => h, trivial⟩ ⟨?_, ?_, ?_, ?_, ?_, ?_, ?_, ?_, trivial⟩ ?_
     ·intro a w hT
      have hAp := hT.ag j [(0, Sl.v (Sl.cut b 1 0 ((b.n : Int) + (d.n : Int)).toNat b.c))] ⟨rfl, trivial⟩ (by kernel_rfl)
      exact ovr hAp rfl (r_move (hAp.get rfl)) fun _ => Eq.refl _
     ·intro a w hT
      have hAp := hT.ag j [(1, .int .i64 f)] ⟨rfl, trivial⟩ (by kernel_rfl)
      exact ovr hAp rfl (r_move (hAp.get rfl)) fun _ => Eq.refl _
     ·intro a w hT
      have hAp := hT.ag j [(7, .int .i64 (d.n : Int))] ⟨rfl, trivial⟩ (by kernel_rfl)
      exact ovr hAp rfl (r_move (hAp.get rfl)) fun _ => Eq.refl _
     ·intro a w hT
      have hAp := hT.ag j [] trivial (by kernel_rfl)
      have dk : a.tmps.getD 70 undef = .int .i64 f := hT.vals 1 rfl 70 rfl
      have hAp := hAp.add dk
      have dl : a.tmps.getD 71 undef = .int .i64 (d.n : Int) := hT.vals 2 rfl 71 rfl
      have hAp := hAp.add dl
      exact ovr hAp rfl (r_addI (hAp.get rfl) (hAp.get rfl) dd) fun _ => Eq.refl _
     ·intro a w hT
      have hAp := hT.ag j [] trivial (by kernel_rfl)
      have dm : a.tmps.getD 69 undef = Sl.v (Sl.cut b 1 0 ((b.n : Int) + (d.n : Int)).toNat b.c) := hT.vals 0 rfl 69 rfl
      have hAp := hAp.add dm
      have dn : a.tmps.getD 72 undef = .int .i64 (f + (d.n : Int)) := hT.vals 3 rfl 72 rfl
      have hAp := hAp.add dn
      exact ovr hAp rfl (r_sliceL (hAp.get rfl) (hAp.get rfl) Try.underlying36 ti_3 dg) fun _ => Eq.refl _
     ·intro a w hT
      have hAp := hT.ag j [(0, Sl.v (Sl.cut b 1 0 ((b.n : Int) + (d.n : Int)).toNat b.c))] ⟨rfl, trivial⟩ (by kernel_rfl)
      exact ovr hAp rfl (r_move (hAp.get rfl)) fun _ => Eq.refl _
     ·intro a w hT
      have hAp := hT.ag j [(1, .int .i64 f)] ⟨rfl, trivial⟩ (by kernel_rfl)
      exact ovr hAp rfl (r_move (hAp.get rfl)) fun _ => Eq.refl _
     ·intro a w hT
      have hAp := hT.ag j [] trivial (by kernel_rfl)
      have dp : a.tmps.getD 74 undef = Sl.v (Sl.cut b 1 0 ((b.n : Int) + (d.n : Int)).toNat b.c) := hT.vals 5 rfl 74 rfl
      have hAp := hAp.add dp
      have dq : a.tmps.getD 75 undef = .int .i64 f := hT.vals 6 rfl 75 rfl
      have hAp := hAp.add dq
      exact ovr hAp rfl (r_sliceL (hAp.get rfl) (hAp.get rfl) Try.underlying36 ti_3 di) fun _ => Eq.refl _
     ·intro bD r dr ds bF
      have dt := ds [(0, Sl.v (Sl.cut b 1 0 ((b.n : Int) + (d.n : Int)).toNat b.c)), (1, .int .i64 f), (2, Sl.v d)] ⟨rfl, rfl, rfl, trivial⟩ (by kernel_rfl)
      have du : bD.tmps.getD 73 undef = Sl.v (Sl.cut (Sl.cut b 1 0 ((b.n : Int) + (d.n : Int)).toNat b.c) 1 (f + (d.n : Int)).toNat (Sl.cut b 1 0 ((b.n : Int) + (d.n : Int)).toNat b.c).n (Sl.cut b 1 0 ((b.n : Int) + (d.n : Int)).toNat b.c).c) := bF 4 rfl 73 rfl
      have dv := dt.add du
      have dx : bD.tmps.getD 76 undef = Sl.v (Sl.cut (Sl.cut b 1 0 ((b.n : Int) + (d.n : Int)).toNat b.c) 1 f.toNat (Sl.cut b 1 0 ((b.n : Int) + (d.n : Int)).toNat b.c).n (Sl.cut b 1 0 ((b.n : Int) + (d.n : Int)).toNat b.c).c) := bF 7 rfl 76 rfl
      have au := dv.add dx
      have dy : Chg [] m r := dr
      have dz := dj r    dy
      refine one (D := [[], [], [], [1, 2], [0, 1, 2, 3], [], [], [5, 6], [0, 1, 2, 3, 4, 5, 6, 7]]) (i := 8) rfl (by kernel_rfl) (opk_run au rfl (fun _ _ hr => r_copy (au.get rfl) (au.get rfl) hr) dz fun ff fg aI dA _ fh fi dB => ?_)
      obtain ⟨aJ, rfl, dC⟩ := dB
      refine PR_end (by kernel_rfl) ?_
      have bG := dA.keep [(0, Sl.v (Sl.cut b 1 0 ((b.n : Int) + (d.n : Int)).toNat b.c)), (1, .int .i64 f), (2, Sl.v d)] ⟨rfl, rfl, rfl, trivial⟩
      refine then_normal (wp_seq (wp_region_lit ?_))
      refine sqv bG rfl (r_move (bG.get rfl)) fun _ bH => ?_
      refine sqv bH rfl (r_move (bH.get rfl)) fun _ av => ?_
      obtain ⟨dD, dF⟩ := dC
      refine sqv av rfl (r_sliceL (av.get rfl) (av.get rfl) Try.underlying36 ti_3 dD) fun _ bI => ?_
      refine sqv bI rfl (r_move (bI.get rfl)) fun _ ax => ?_
      refine sq (opk_run ax rfl (fun _ _ hr => r_copy (ax.get rfl) (ax.get rfl) hr) dF fun fj fk aK dG _ fl fm dH => ?_)
      obtain ⟨aL, rfl, dI⟩ := dH
      refine sq_end ?_
      have bJ := dG.keep [(0, Sl.v (Sl.cut b 1 0 ((b.n : Int) + (d.n : Int)).toNat b.c))] ⟨rfl, trivial⟩
      refine then_normal (wp_seq (wp_region_lit ?_))
      refine sqv bJ rfl (r_move (bJ.get rfl)) fun _ bK => ?_
      refine sqv bK rfl (r_assign (bK.get rfl)) fun _ dJ => ?_
      refine sq_end ?_
      have bL := dJ.keep [(6, Sl.v (Sl.cut b 1 0 ((b.n : Int) + (d.n : Int)).toNat b.c))] ⟨rfl, trivial⟩
      refine then_normal ?_
      refine wp_ret ?_
      refine then_ret ?_
      exact res_all (vs := [Sl.v (Sl.cut b 1 0 ((b.n : Int) + (d.n : Int)).toNat b.c)]) rfl bL ⟨res_of_tmp bL rfl, trivial⟩ dI
    ·have dK := bB.2 (b_not_f hc)
     clear hc
     refine wp_skip ?_
     refine then_normal (wp_seq (wp_region_lit ?_))
     refine sqv j rfl (r_move (j.get rfl)) fun _ bM => ?_
     refine sqv bM rfl (r_move (bM.get rfl)) fun _ ay => ?_
     obtain ⟨dL, dM⟩ := dK
     refine sqv ay rfl (r_sliceL (ay.get rfl) (ay.get rfl) Try.underlying36 ti_3 dL) fun _ bN => ?_
     refine sqv bN rfl (r_move (bN.get rfl)) fun _ az => ?_
     refine sq (opk_run az rfl (fun _ _ hr => r_copy (az.get rfl) (az.get rfl) hr) dM fun fn fo aM dN _ fp fq dO => ?_)
     obtain ⟨aN, rfl, dP⟩ := dO
     refine sq_end ?_
     have bO := dN.keep [(0, Sl.v (Sl.cut b 1 0 ((b.n : Int) + (d.n : Int)).toNat b.c)), (1, .int .i64 f), (7, .int .i64 (d.n : Int))] ⟨rfl, rfl, rfl, trivial⟩
     refine then_normal (wp_seq (wp_region_lit ?_))
     refine sqv bO rfl (r_move (bO.get rfl)) fun _ bP => ?_
     refine sqv bP rfl (r_move (bP.get rfl)) fun _ aA => ?_
     obtain ⟨dQ, dR⟩ := dP
     refine sqv aA rfl (r_sliceL (aA.get rfl) (aA.get rfl) Try.underlying36 ti_3 dQ) fun _ bQ => ?_
     refine sqv bQ rfl (r_move (bQ.get rfl)) fun _ aB => ?_
     refine sq (opk_call aB rfl (r_call (args := #[Sl.v (Sl.cut (Sl.cut b 1 0 ((b.n : Int) + (d.n : Int)).toNat b.c) 1 f.toNat (Sl.cut b 1 0 ((b.n : Int) + (d.n : Int)).toNat b.c).n (Sl.cut b 1 0 ((b.n : Int) + (d.n : Int)).toNat b.c).c), .int .i64 (d.n : Int)]) Try.func75 (by decide) rfl (map_arr (ml_cons (aB.get rfl) (ml_cons (aB.get rfl) ml_nil))) rfl) dR fun fr fs aO dS _ ft fu dT => ?_)
     obtain ⟨rfl, dU⟩ := dT
     refine sq_end ?_
     have bR := dS.keep [(0, Sl.v (Sl.cut b 1 0 ((b.n : Int) + (d.n : Int)).toNat b.c))] ⟨rfl, trivial⟩
     refine then_normal (wp_seq (wp_region_lit ?_))
     refine sqv bR rfl (r_move (bR.get rfl)) fun _ bS => ?_
     refine sqv bS rfl (r_assign (bS.get rfl)) fun _ dV => ?_
     refine sq_end ?_
     have bT := dV.keep [(6, Sl.v (Sl.cut b 1 0 ((b.n : Int) + (d.n : Int)).toNat b.c))] ⟨rfl, trivial⟩
     refine then_normal ?_
     refine wp_ret ?_
     exact res_all (vs := [Sl.v (Sl.cut b 1 0 ((b.n : Int) + (d.n : Int)).toNat b.c)]) rfl bT ⟨res_of_tmp bT rfl, trivial⟩ dU
def slices_Insert__api_Attr_api_Attr_.vc (b : Sl) (f : Int) (d : Sl) (R : Value → World → Prop) (w : World) : Prop :=
((0 : Int) ≤ f ∧ f ≤ (b.n : Int)) ∧
(((d.n : Int) = 0) →
R (Sl.v b) w) ∧
((¬ ((d.n : Int) = 0)) →
((f = (b.n : Int)) →
RunK Try.prog (Builtin.append_ #[26, 26] 26 #[Sl.v b, Sl.v d]) w [] (fun v aC => ∃ (o : Sl), v = Sl.v o ∧
R (Sl.v o) aC)) ∧
((¬ (f = (b.n : Int))) →
(I64 ((b.n : Int) + (d.n : Int))) ∧
(((b.c : Int) < ((b.n : Int) + (d.n : Int))) →
((0 : Int) ≤ f ∧ f ≤ (b.c : Int)) ∧
(I64 ((b.n : Int) + (d.n : Int))) ∧
(I64 (((b.n : Int) + (d.n : Int)) - f)) ∧
RunK Try.prog (Builtin.append_ #[26, 3] 26 #[Sl.v (Sl.cut b 2 0 f.toNat b.c), .int .i64 (((b.n : Int) + (d.n : Int)) - f)]) w [] (fun v aD => ∃ (g : Sl), v = Sl.v g ∧
((0 : Int) ≤ f ∧ f ≤ (g.n : Int)) ∧
RunK Try.prog (Builtin.copy_ #[26, 26] 3 #[Sl.v (Sl.cut g 2 f.toNat g.n g.c), Sl.v d]) aD [] (fun v x => ∃ (aF : Int), v = .int .i64 aF ∧
∀ (l : World), Chg [] x l →
(I64 (f + (d.n : Int))) ∧
((0 : Int) ≤ f + (d.n : Int) ∧ f + (d.n : Int) ≤ (g.n : Int)) ∧
((0 : Int) ≤ f ∧ f ≤ (b.n : Int)) ∧
∀ (p : World), Chg [] l p →
RunK Try.prog (Builtin.copy_ #[26, 26] 3 #[Sl.v (Sl.cut g 2 (f + (d.n : Int)).toNat g.n g.c), Sl.v (Sl.cut b 2 f.toNat b.n b.c)]) p [] (fun v aG => ∃ (aH : Int), v = .int .i64 aH ∧
R (Sl.v g) aG)))) ∧
((¬ ((b.c : Int) < ((b.n : Int) + (d.n : Int)))) →
(I64 ((b.n : Int) + (d.n : Int))) ∧
((0 : Int) ≤ (b.n : Int) + (d.n : Int) ∧ (b.n : Int) + (d.n : Int) ≤ (b.c : Int)) ∧
(I64 (f + (d.n : Int))) ∧
((0 : Int) ≤ f + (d.n : Int) ∧ f + (d.n : Int) ≤ ((Sl.cut b 2 0 ((b.n : Int) + (d.n : Int)).toNat b.c).n : Int)) ∧
∃ q : Bool, ((Extern.SlicesOverlaps.overlaps #[26, 26] #[4] #[Sl.v d, Sl.v (Sl.cut (Sl.cut b 2 0 ((b.n : Int) + (d.n : Int)).toNat b.c) 2 (f + (d.n : Int)).toNat (Sl.cut b 2 0 ((b.n : Int) + (d.n : Int)).toNat b.c).n (Sl.cut b 2 0 ((b.n : Int) + (d.n : Int)).toNat b.c).c)]).run Try.prog w = .ok (.bool q) w) ∧
((q = false) →
∀ (m : World), Chg [] w m →
(I64 (f + (d.n : Int))) ∧
((0 : Int) ≤ f + (d.n : Int) ∧ f + (d.n : Int) ≤ ((Sl.cut b 2 0 ((b.n : Int) + (d.n : Int)).toNat b.c).n : Int)) ∧
((0 : Int) ≤ f ∧ f ≤ ((Sl.cut b 2 0 ((b.n : Int) + (d.n : Int)).toNat b.c).n : Int)) ∧
∀ (r : World), Chg [] m r →
RunK Try.prog (Builtin.copy_ #[26, 26] 3 #[Sl.v (Sl.cut (Sl.cut b 2 0 ((b.n : Int) + (d.n : Int)).toNat b.c) 2 (f + (d.n : Int)).toNat (Sl.cut b 2 0 ((b.n : Int) + (d.n : Int)).toNat b.c).n (Sl.cut b 2 0 ((b.n : Int) + (d.n : Int)).toNat b.c).c), Sl.v (Sl.cut (Sl.cut b 2 0 ((b.n : Int) + (d.n : Int)).toNat b.c) 2 f.toNat (Sl.cut b 2 0 ((b.n : Int) + (d.n : Int)).toNat b.c).n (Sl.cut b 2 0 ((b.n : Int) + (d.n : Int)).toNat b.c).c)]) r [] (fun v aI => ∃ (aJ : Int), v = .int .i64 aJ ∧
((0 : Int) ≤ f ∧ f ≤ ((Sl.cut b 2 0 ((b.n : Int) + (d.n : Int)).toNat b.c).n : Int)) ∧
RunK Try.prog (Builtin.copy_ #[26, 26] 3 #[Sl.v (Sl.cut (Sl.cut b 2 0 ((b.n : Int) + (d.n : Int)).toNat b.c) 2 f.toNat (Sl.cut b 2 0 ((b.n : Int) + (d.n : Int)).toNat b.c).n (Sl.cut b 2 0 ((b.n : Int) + (d.n : Int)).toNat b.c).c), Sl.v d]) aI [] (fun v aK => ∃ (aL : Int), v = .int .i64 aL ∧
R (Sl.v (Sl.cut b 2 0 ((b.n : Int) + (d.n : Int)).toNat b.c)) aK))) ∧
((q = true) →
((0 : Int) ≤ (b.n : Int) ∧ (b.n : Int) ≤ ((Sl.cut b 2 0 ((b.n : Int) + (d.n : Int)).toNat b.c).n : Int)) ∧
RunK Try.prog (Builtin.copy_ #[26, 26] 3 #[Sl.v (Sl.cut (Sl.cut b 2 0 ((b.n : Int) + (d.n : Int)).toNat b.c) 2 (b.n : Int).toNat (Sl.cut b 2 0 ((b.n : Int) + (d.n : Int)).toNat b.c).n (Sl.cut b 2 0 ((b.n : Int) + (d.n : Int)).toNat b.c).c), Sl.v d]) w [] (fun v aM => ∃ (aN : Int), v = .int .i64 aN ∧
((0 : Int) ≤ f ∧ f ≤ ((Sl.cut b 2 0 ((b.n : Int) + (d.n : Int)).toNat b.c).n : Int)) ∧
CallK Try.prog 80 #[Sl.v (Sl.cut (Sl.cut b 2 0 ((b.n : Int) + (d.n : Int)).toNat b.c) 2 f.toNat (Sl.cut b 2 0 ((b.n : Int) + (d.n : Int)).toNat b.c).n (Sl.cut b 2 0 ((b.n : Int) + (d.n : Int)).toNat b.c).c), .int .i64 (d.n : Int)] aM [] (fun v aO => v = .tuple #[] ∧
R (Sl.v (Sl.cut b 2 0 ((b.n : Int) + (d.n : Int)).toNat b.c)) aO))))))
theorem slices_Insert__api_Attr_api_Attr_.ok (b : Sl) (f : Int) (d : Sl) {R : Value → World → Prop} {w : World} (aP : slices_Insert__api_Attr_api_Attr_.vc b f d R w) : Calls Try.prog 52 #[Sl.v b, .int .i64 f, Sl.v d] w (Ret R) := by
 refine enter [Sl.v b, .int .i64 f, Sl.v d] Try.func52 rfl Try.ntmps52 rfl ?_
 intro a0 bU
 unfold slices_Insert__api_Attr_api_Attr_.vc at aP
 refine wp_seq (wp_region_lit ?_)
 refine sqv bU rfl (r_assign rfl) fun _ bV => ?_
 refine sq_end ?_
 have aQ := bV.keep [(0, Sl.v b), (1, .int .i64 f), (2, Sl.v d)] ⟨rfl, rfl, rfl, trivial⟩
 refine then_normal (wp_seq (wp_region_lit ?_))
 refine sqv aQ rfl (r_move (aQ.get rfl)) fun _ aR => ?_
 refine sqv aR rfl (r_move (aR.get rfl)) fun _ y => ?_
 obtain ⟨bX, aS⟩ := aP
 refine sqv y rfl (r_sliceL (y.get rfl) (y.get rfl) Try.underlying26 ti_65 bX) fun _ bY => ?_
 refine sq_end ?_
 have aT := bY.keep [(0, Sl.v b), (1, .int .i64 f), (2, Sl.v d)] ⟨rfl, rfl, rfl, trivial⟩
 refine then_normal (wp_seq (wp_region_lit ?_))
 refine sqv aT rfl (r_move (aT.get rfl)) fun _ aU => ?_
 refine sqv aU rfl (r_len (aU.get rfl) Try.underlying26) fun _ aV => ?_
 refine sqv aV rfl (r_assign (aV.get rfl)) fun _ bZ => ?_
 refine sq_end ?_
 have aX := bZ.keep [(0, Sl.v b), (1, .int .i64 f), (2, Sl.v d), (7, .int .i64 (d.n : Int))] ⟨rfl, rfl, rfl, rfl, trivial⟩
 refine then_normal (wp_seq (wp_seq (wp_region_lit ?_)))
 refine sqv aX rfl (r_move (aX.get rfl)) fun _ aY => ?_
 refine sqv aY rfl (r_eql (aY.get rfl) rfl) fun _ b0 => ?_
 refine sq_end ?_
 have s := b0.keep [(0, Sl.v b), (1, .int .i64 f), (2, Sl.v d), (7, .int .i64 (d.n : Int)), (16, .bool (decide ((d.n : Int) = 0)))] ⟨rfl, rfl, rfl, rfl, rfl, trivial⟩
 refine then_normal ?_
 refine wp_cond_split (s.get rfl) (fun hc => ?_) (fun hc => ?_)
 ·have b1 := aS.1 (of_decide_eq_true hc)
  clear hc
  refine wp_seq (wp_region_lit ?_)
  refine sqv s rfl (r_move (s.get rfl)) fun _ aZ => ?_
  refine sqv aZ rfl (r_assign (aZ.get rfl)) fun _ b2 => ?_
  refine sq_end ?_
  have hA23 := b2.keep [(6, Sl.v b)] ⟨rfl, trivial⟩
  refine then_normal ?_
  refine wp_ret ?_
  refine then_ret ?_
  exact res_all (vs := [Sl.v b]) rfl hA23 ⟨res_of_tmp hA23 rfl, trivial⟩ b1
 ·have a1 := aS.2 (of_decide_eq_false hc)
  clear hc
  refine wp_skip ?_
  refine then_normal (wp_seq (wp_region_lit ?_))
  refine sqv s rfl (r_move (s.get rfl)) fun _ a2 => ?_
  refine sqv a2 rfl (r_len (a2.get rfl) Try.underlying26) fun _ a3 => ?_
  refine sqv a3 rfl (r_assign (a3.get rfl)) fun _ b3 => ?_
  refine sq_end ?_
  have a4 := b3.keep [(0, Sl.v b), (1, .int .i64 f), (2, Sl.v d), (7, .int .i64 (d.n : Int)), (8, .int .i64 (b.n : Int))] ⟨rfl, rfl, rfl, rfl, rfl, trivial⟩
  refine then_normal (wp_seq (wp_seq (wp_region_lit ?_)))
  refine sqv a4 rfl (r_move (a4.get rfl)) fun _ a5 => ?_
  refine sqv a5 rfl (r_move (a5.get rfl)) fun _ z => ?_
  refine sqv z rfl (r_eql (z.get rfl) (z.get rfl)) fun _ b4 => ?_
  refine sq_end ?_
  have t := b4.keep [(0, Sl.v b), (1, .int .i64 f), (2, Sl.v d), (7, .int .i64 (d.n : Int)), (8, .int .i64 (b.n : Int)), (22, .bool (decide (f = (b.n : Int))))] ⟨rfl, rfl, rfl, rfl, rfl, rfl, trivial⟩
  refine then_normal ?_
  refine wp_cond_split (t.get rfl) (fun hc => ?_) (fun hc => ?_)
  ·have b5 := a1.1 (of_decide_eq_true hc)
   clear hc
   refine wp_seq (wp_region_lit ?_)
   refine sqv t rfl (r_move (t.get rfl)) fun _ a6 => ?_
   refine sqv a6 rfl (r_move (a6.get rfl)) fun _ aa => ?_
   refine sq (opk_run aa rfl (fun _ _ hr => r_append (aa.get rfl) (aa.get rfl) hr) b5 fun dY dZ aC a7 _ d0 d1 b6 => ?_)
   obtain ⟨o, rfl, b7⟩ := b6
   refine sqv a7 rfl (r_assign (a7.get rfl)) fun _ b8 => ?_
   refine sq_end ?_
   have a8 := b8.keep [(6, Sl.v o)] ⟨rfl, trivial⟩
   refine then_normal ?_
   refine wp_ret ?_
   refine then_ret ?_
   exact res_all (vs := [Sl.v o]) rfl a8 ⟨res_of_tmp a8 rfl, trivial⟩ b7
  ·have b9 := a1.2 (of_decide_eq_false hc)
   clear hc
   refine wp_skip ?_
   refine then_normal (wp_seq (wp_seq (wp_region_lit ?_)))
   refine sqv t rfl (r_move (t.get rfl)) fun _ a9 => ?_
   refine sqv a9 rfl (r_move (a9.get rfl)) fun _ ab => ?_
   obtain ⟨ca, ba⟩ := b9
   refine sqv ab rfl (r_addI (ab.get rfl) (ab.get rfl) ca) fun _ bb => ?_
   refine sqv bb rfl (r_move (bb.get rfl)) fun _ bd => ?_
   refine sqv bd rfl (r_cap (bd.get rfl) Try.underlying26) fun _ ad => ?_
   refine sqv ad rfl (r_gtr (ad.get rfl) (ad.get rfl)) fun _ cb => ?_
   refine sq_end ?_
   have u := cb.keep [(0, Sl.v b), (1, .int .i64 f), (2, Sl.v d), (7, .int .i64 (d.n : Int)), (8, .int .i64 (b.n : Int)), (31, .bool (decide ((b.c : Int) < ((b.n : Int) + (d.n : Int)))))] ⟨rfl, rfl, rfl, rfl, rfl, rfl, trivial⟩
   refine then_normal ?_
   refine wp_cond_split (u.get rfl) (fun hc => ?_) (fun hc => ?_)
   ·have cc := ba.1 (of_decide_eq_true hc)
    clear hc
    refine wp_seq (wp_region_lit ?_)
    refine sqv u rfl (r_move (u.get rfl)) fun _ bf => ?_
    refine sqv bf rfl (r_move (bf.get rfl)) fun _ af => ?_
    obtain ⟨cd, cf⟩ := cc
    refine sqv af rfl (r_sliceH (af.get rfl) (af.get rfl) Try.underlying26 ti_65 cd) fun _ bg => ?_
    refine sqv bg rfl (r_move (bg.get rfl)) fun _ bh => ?_
    refine sqv bh rfl (r_move (bh.get rfl)) fun _ ah => ?_
    obtain ⟨cg, ch⟩ := cf
    refine sqv ah rfl (r_addI (ah.get rfl) (ah.get rfl) cg) fun _ bi => ?_
    refine sqv bi rfl (r_move (bi.get rfl)) fun _ ai => ?_
    obtain ⟨ci, cj⟩ := ch
    refine sqv ai rfl (r_subI (ai.get rfl) (ai.get rfl) ci) fun _ aj => ?_
    refine sq (opk_run aj rfl (fun _ _ hr => r_append (aj.get rfl) (aj.get rfl) hr) cj fun d2 d3 aD bj _ d4 d5 ck => ?_)
    obtain ⟨g, rfl, cl⟩ := ck
    refine sqv bj rfl (r_assign (bj.get rfl)) fun _ cm => ?_
    refine sq_end ?_
    have bk := cm.keep [(0, Sl.v b), (1, .int .i64 f), (2, Sl.v d), (7, .int .i64 (d.n : Int)), (9, Sl.v g)] ⟨rfl, rfl, rfl, rfl, rfl, trivial⟩
    refine then_normal (wp_seq (wp_region_lit ?_))
    refine sqv bk rfl (r_move (bk.get rfl)) fun _ bl => ?_
    refine sqv bl rfl (r_move (bl.get rfl)) fun _ ak => ?_
    obtain ⟨cn, co⟩ := cl
    refine sqv ak rfl (r_sliceL (ak.get rfl) (ak.get rfl) Try.underlying26 ti_65 cn) fun _ bm => ?_
    refine sqv bm rfl (r_move (bm.get rfl)) fun _ al => ?_
    refine sq (opk_run al rfl (fun _ _ hr => r_copy (al.get rfl) (al.get rfl) hr) co fun d6 d7 x cp _ d8 d9 cq => ?_)
    obtain ⟨aF, rfl, cr⟩ := cq
    refine sq_end ?_
    have k := cp.keep [(0, Sl.v b), (1, .int .i64 f), (7, .int .i64 (d.n : Int)), (9, Sl.v g)] ⟨rfl, rfl, rfl, rfl, trivial⟩
    refine then_normal (wp_seq ?_)
    refine draw' (by kernel_rfl) fun l cs => ?_
    have ct : Chg [] x l := cs
    have cu := cr l    ct
    obtain ⟨cv, cx⟩ := cu
    obtain ⟨cy, cz⟩ := cx
    obtain ⟨cA, cB⟩ := cz
    refine par (D := [[], [], [], [1, 2], [0, 1, 2, 3], [], [], [5, 6], [0, 1, 2, 3, 4, 5, 6, 7]]) (S := [0, 1, 2, 3, 4, 5, 6, 7]) (F := []) (V := VL [(0, fun v _ => v = Sl.v g), (1, fun v _ => v = .int .i64 f), (2, fun v _ => v = .int .i64 (d.n : Int)), (3, fun v _ => v = .int .i64 (f + (d.n : Int))), (4, fun v _ => v = Sl.v (Sl.cut g 2 (f + (d.n : Int)).toNat g.n g.c)), (5, fun v _ => v = Sl.v b), (6, fun v _ => v = .int .i64 f), (7, fun v _ => v = Sl.v (Sl.cut b 2 f.toNat b.n b.c))]) k (by kernel_rfl) ⟨fun _ _ _ _ h => h, fun _ _ _ _ h => h, fun _ _ _ _ h => h, fun _ _ _ _ h => h, fun _ _ _ _ h => h, fun _ _ _ _ h => h, fun _ _ _ _ h => h, fun _ _ _ _ h => h, trivial⟩ ⟨?_, ?_, ?_, ?_, ?_, ?_, ?_, ?_, trivial⟩ ?_
    ·intro a w hT
     have hAp := hT.ag k [(9, Sl.v g)] ⟨rfl, trivial⟩ (by kernel_rfl)
     exact ovr hAp rfl (r_move (hAp.get rfl)) fun _ => Eq.refl _
    ·intro a w hT
     have hAp := hT.ag k [(1, .int .i64 f)] ⟨rfl, trivial⟩ (by kernel_rfl)
     exact ovr hAp rfl (r_move (hAp.get rfl)) fun _ => Eq.refl _
    ·intro a w hT
     have hAp := hT.ag k [(7, .int .i64 (d.n : Int))] ⟨rfl, trivial⟩ (by kernel_rfl)
     exact ovr hAp rfl (r_move (hAp.get rfl)) fun _ => Eq.refl _
    ·intro a w hT
     have hAp := hT.ag k [] trivial (by kernel_rfl)
     have cC : a.tmps.getD 47 undef = .int .i64 f := hT.vals 1 rfl 47 rfl
     have hAp := hAp.add cC
     have cD : a.tmps.getD 48 undef = .int .i64 (d.n : Int) := hT.vals 2 rfl 48 rfl
     have hAp := hAp.add cD
     exact ovr hAp rfl (r_addI (hAp.get rfl) (hAp.get rfl) cv) fun _ => Eq.refl _
    ·intro a w hT
     have hAp := hT.ag k [] trivial (by kernel_rfl)
     have cF : a.tmps.getD 46 undef = Sl.v g := hT.vals 0 rfl 46 rfl
     have hAp := hAp.add cF
     have cG : a.tmps.getD 49 undef = .int .i64 (f + (d.n : Int)) := hT.vals 3 rfl 49 rfl
     have hAp := hAp.add cG
     exact ovr hAp rfl (r_sliceL (hAp.get rfl) (hAp.get rfl) Try.underlying26 ti_65 cy) fun _ => Eq.refl _
    ·intro a w hT
     have hAp := hT.ag k [(0, Sl.v b)] ⟨rfl, trivial⟩ (by kernel_rfl)
     exact ovr hAp rfl (r_move (hAp.get rfl)) fun _ => Eq.refl _
    ·intro a w hT
     have hAp := hT.ag k [(1, .int .i64 f)] ⟨rfl, trivial⟩ (by kernel_rfl)
     exact ovr hAp rfl (r_move (hAp.get rfl)) fun _ => Eq.refl _
    ·intro a w hT
     have hAp := hT.ag k [] trivial (by kernel_rfl)
     have cH : a.tmps.getD 51 undef = Sl.v b := hT.vals 5 rfl 51 rfl
     have hAp := hAp.add cH
     have cI : a.tmps.getD 52 undef = .int .i64 f := hT.vals 6 rfl 52 rfl
     have hAp := hAp.add cI
     exact ovr hAp rfl (r_sliceL (hAp.get rfl) (hAp.get rfl) Try.underlying26 ti_65 cA) fun _ => Eq.refl _
    ·intro bn p cJ cK bo
     have cL := cK [(9, Sl.v g)] ⟨rfl, trivial⟩ (by kernel_rfl)
     have cM : bn.tmps.getD 50 undef = Sl.v (Sl.cut g 2 (f + (d.n : Int)).toNat g.n g.c) := bo 4 rfl 50 rfl
     have cN := cL.add cM
     have cO : bn.tmps.getD 53 undef = Sl.v (Sl.cut b 2 f.toNat b.n b.c) := bo 7 rfl 53 rfl
     have am := cN.add cO
     have cP : Chg [] l p := cJ
     have cQ := cB p    cP
     refine one (D := [[], [], [], [1, 2], [0, 1, 2, 3], [], [], [5, 6], [0, 1, 2, 3, 4, 5, 6, 7]]) (i := 8) rfl (by kernel_rfl) (opk_run am rfl (fun _ _ hr => r_copy (am.get rfl) (am.get rfl) hr) cQ fun fa fb aG cR _ fc fd cS => ?_)
     obtain ⟨aH, rfl, cT⟩ := cS
     refine PR_end (by kernel_rfl) ?_
     have bp := cR.keep [(9, Sl.v g)] ⟨rfl, trivial⟩
     refine then_normal (wp_seq (wp_region_lit ?_))
     refine sqv bp rfl (r_move (bp.get rfl)) fun _ bq => ?_
     refine sqv bq rfl (r_assign (bq.get rfl)) fun _ cU => ?_
     refine sq_end ?_
     have br := cU.keep [(6, Sl.v g)] ⟨rfl, trivial⟩
     refine then_normal ?_
     refine wp_ret ?_
     refine then_ret ?_
     exact res_all (vs := [Sl.v g]) rfl br ⟨res_of_tmp br rfl, trivial⟩ cT
   ·have cX := ba.2 (of_decide_eq_false hc)
    clear hc
    refine wp_skip ?_
    refine then_normal (wp_seq (wp_region_lit ?_))
    refine sqv u rfl (r_move (u.get rfl)) fun _ bs => ?_
    refine sqv bs rfl (r_move (bs.get rfl)) fun _ bt => ?_
    refine sqv bt rfl (r_move (bt.get rfl)) fun _ an => ?_
    obtain ⟨cY, cZ⟩ := cX
    refine sqv an rfl (r_addI (an.get rfl) (an.get rfl) cY) fun _ ao => ?_
    obtain ⟨c0, c1⟩ := cZ
    refine sqv ao rfl (r_sliceH (ao.get rfl) (ao.get rfl) Try.underlying26 ti_65 c0) fun _ bu => ?_
    refine sqv bu rfl (r_assign (bu.get rfl)) fun _ c2 => ?_
    refine sq_end ?_
    have bv := c2.keep [(0, Sl.v (Sl.cut b 2 0 ((b.n : Int) + (d.n : Int)).toNat b.c)), (1, .int .i64 f), (2, Sl.v d), (7, .int .i64 (d.n : Int)), (8, .int .i64 (b.n : Int))] ⟨rfl, rfl, rfl, rfl, rfl, trivial⟩
    refine then_normal (wp_seq (wp_seq (wp_region_lit ?_)))
    refine sqv bv rfl (r_move (bv.get rfl)) fun _ bx => ?_
    refine sqv bx rfl (r_move (bx.get rfl)) fun _ bz => ?_
    refine sqv bz rfl (r_move (bz.get rfl)) fun _ bA => ?_
    refine sqv bA rfl (r_move (bA.get rfl)) fun _ ap => ?_
    obtain ⟨c3, c4⟩ := c1
    refine sqv ap rfl (r_addI (ap.get rfl) (ap.get rfl) c3) fun _ aq => ?_
    obtain ⟨c5, c6⟩ := c4
    refine sqv aq rfl (r_sliceL (aq.get rfl) (aq.get rfl) Try.underlying26 ti_65 c5) fun _ ar => ?_
    obtain ⟨q, c7, bB⟩ := c6
    refine sqv ar rfl (r_extern Try.func79 (by kernel_rfl) (by kernel_rfl) (by kernel_rfl) (by kernel_rfl) (map_arr (ml_cons (ar.get rfl) (ml_cons (ar.get rfl) ml_nil))) rfl c7) fun _ bC => ?_
    refine sqv bC rfl (r_not (bC.get rfl)) fun _ c8 => ?_
    refine sq_end ?_
    have j := c8.keep [(0, Sl.v (Sl.cut b 2 0 ((b.n : Int) + (d.n : Int)).toNat b.c)), (1, .int .i64 f), (2, Sl.v d), (7, .int .i64 (d.n : Int)), (8, .int .i64 (b.n : Int)), (68, .bool (!q))] ⟨rfl, rfl, rfl, rfl, rfl, rfl, trivial⟩
    refine then_normal ?_
    refine wp_cond_split (j.get rfl) (fun hc => ?_) (fun hc => ?_)
    ·have c9 := bB.1 (b_not_t hc)
     clear hc
     refine wp_seq ?_
     refine draw' (by kernel_rfl) fun m da => ?_
     have db : Chg [] w m := da
     have dc := c9 m    db
     obtain ⟨dd, df⟩ := dc
     obtain ⟨dg, dh⟩ := df
     obtain ⟨di, dj⟩ := dh
     refine par (D := [[], [], [], [1, 2], [0, 1, 2, 3], [], [], [5, 6], [0, 1, 2, 3, 4, 5, 6, 7]]) (S := [0, 1, 2, 3, 4, 5, 6, 7]) (F := []) (V := VL [(0, fun v _ => v = Sl.v (Sl.cut b 2 0 ((b.n : Int) + (d.n : Int)).toNat b.c)), (1, fun v _ => v = .int .i64 f), (2, fun v _ => v = .int .i64 (d.n : Int)), (3, fun v _ => v = .int .i64 (f + (d.n : Int))), (4, fun v _ => v = Sl.v (Sl.cut (Sl.cut b 2 0 ((b.n : Int) + (d.n : Int)).toNat b.c) 2 (f + (d.n : Int)).toNat (Sl.cut b 2 0 ((b.n : Int) + (d.n : Int)).toNat b.c).n (Sl.cut b 2 0 ((b.n : Int) + (d.n : Int)).toNat b.c).c)), (5, fun v _ => v = Sl.v (Sl.cut b 2 0 ((b.n : Int) + (d.n : Int)).toNat b.c)), (6, fun v _ => v = .int .i64 f), (7, fun v _ => v = Sl.v (Sl.cut (Sl.cut b 2 0 ((b.n : Int) + (d.n : Int)).toNat b.c) 2 f.toNat (Sl.cut b 2 0 ((b.n : Int) + (d.n : Int)).toNat b.c).n (Sl.cut b 2 0 ((b.n : Int) + (d.n : Int)).toNat b.c).c))]) j (by kernel_rfl) ⟨fun _ _ _ _ h => h, fun _ _ _ _ h => h, fun _ _ _ _ h => h, fun _ _ _ _ h => h, fun _ _ _ _ h => h, fun _ _ _ _ h => h, fun _ _ _ _ h => h, fun _ _ _ _ h => h, trivial⟩ ⟨?_, ?_, ?_, ?_, ?_, ?_, ?_, ?_, trivial⟩ ?_
     ·intro a w hT
      have hAp := hT.ag j [(0, Sl.v (Sl.cut b 2 0 ((b.n : Int) + (d.n : Int)).toNat b.c))] ⟨rfl, trivial⟩ (by kernel_rfl)
      exact ovr hAp rfl (r_move (hAp.get rfl)) fun _ => Eq.refl _
     ·intro a w hT
      have hAp := hT.ag j [(1, .int .i64 f)] ⟨rfl, trivial⟩ (by kernel_rfl)
      exact ovr hAp rfl (r_move (hAp.get rfl)) fun _ => Eq.refl _
     ·intro a w hT
      have hAp := hT.ag j [(7, .int .i64 (d.n : Int))] ⟨rfl, trivial⟩ (by kernel_rfl)
      exact ovr hAp rfl (r_move (hAp.get rfl)) fun _ => Eq.refl _
     ·intro a w hT
      have hAp := hT.ag j [] trivial (by kernel_rfl)
      have dk : a.tmps.getD 70 undef = .int .i64 f := hT.vals 1 rfl 70 rfl
      have hAp := hAp.add dk
      have dl : a.tmps.getD 71 undef = .int .i64 (d.n : Int) := hT.vals 2 rfl 71 rfl
      have hAp := hAp.add dl
      exact ovr hAp rfl (r_addI (hAp.get rfl) (hAp.get rfl) dd) fun _ => Eq.refl _
     ·intro a w hT
      have hAp := hT.ag j [] trivial (by kernel_rfl)
      have dm : a.tmps.getD 69 undef = Sl.v (Sl.cut b 2 0 ((b.n : Int) + (d.n : Int)).toNat b.c) := hT.vals 0 rfl 69 rfl
      have hAp := hAp.add dm
      have dn : a.tmps.getD 72 undef = .int .i64 (f + (d.n : Int)) := hT.vals 3 rfl 72 rfl
      have hAp := hAp.add dn
      exact ovr hAp rfl (r_sliceL (hAp.get rfl) (hAp.get rfl) Try.underlying26 ti_65 dg) fun _ => Eq.refl _
     ·intro a w hT
      have hAp := hT.ag j [(0, Sl.v (Sl.cut b 2 0 ((b.n : Int) + (d.n : Int)).toNat b.c))] ⟨rfl, trivial⟩ (by kernel_rfl)
      exact ovr hAp rfl (r_move (hAp.get rfl)) fun _ => Eq.refl _
     ·intro a w hT
      have hAp := hT.ag j [(1, .int .i64 f)] ⟨rfl, trivial⟩ (by kernel_rfl)
      exact ovr hAp rfl (r_move (hAp.get rfl)) fun _ => Eq.refl _
     ·intro a w hT
      have hAp := hT.ag j [] trivial (by kernel_rfl)
      have dp : a.tmps.getD 74 undef = Sl.v (Sl.cut b 2 0 ((b.n : Int) + (d.n : Int)).toNat b.c) := hT.vals 5 rfl 74 rfl
      have hAp := hAp.add dp
      have dq : a.tmps.getD 75 undef = .int .i64 f := hT.vals 6 rfl 75 rfl
      have hAp := hAp.add dq
      exact ovr hAp rfl (r_sliceL (hAp.get rfl) (hAp.get rfl) Try.underlying26 ti_65 di) fun _ => Eq.refl _
     ·intro bD r dr ds bF
      have dt := ds [(0, Sl.v (Sl.cut b 2 0 ((b.n : Int) + (d.n : Int)).toNat b.c)), (1, .int .i64 f), (2, Sl.v d)] ⟨rfl, rfl, rfl, trivial⟩ (by kernel_rfl)
      have du : bD.tmps.getD 73 undef = Sl.v (Sl.cut (Sl.cut b 2 0 ((b.n : Int) + (d.n : Int)).toNat b.c) 2 (f + (d.n : Int)).toNat (Sl.cut b 2 0 ((b.n : Int) + (d.n : Int)).toNat b.c).n (Sl.cut b 2 0 ((b.n : Int) + (d.n : Int)).toNat b.c).c) := bF 4 rfl 73 rfl
      have dv := dt.add du
      have dx : bD.tmps.getD 76 undef = Sl.v (Sl.cut (Sl.cut b 2 0 ((b.n : Int) + (d.n : Int)).toNat b.c) 2 f.toNat (Sl.cut b 2 0 ((b.n : Int) + (d.n : Int)).toNat b.c).n (Sl.cut b 2 0 ((b.n : Int) + (d.n : Int)).toNat b.c).c) := bF 7 rfl 76 rfl
      have au := dv.add dx
      have dy : Chg [] m r := dr
      have dz := dj r    dy
      refine one (D := [[], [], [], [1, 2], [0, 1, 2, 3], [], [], [5, 6], [0, 1, 2, 3, 4, 5, 6, 7]]) (i := 8) rfl (by kernel_rfl) (opk_run au rfl (fun _ _ hr => r_copy (au.get rfl) (au.get rfl) hr) dz fun ff fg aI dA _ fh fi dB => ?_)
      obtain ⟨aJ, rfl, dC⟩ := dB
      refine PR_end (by kernel_rfl) ?_
      have bG := dA.keep [(0, Sl.v (Sl.cut b 2 0 ((b.n : Int) + (d.n : Int)).toNat b.c)), (1, .int .i64 f), (2, Sl.v d)] ⟨rfl, rfl, rfl, trivial⟩
      refine then_normal (wp_seq (wp_region_lit ?_))
      refine sqv bG rfl (r_move (bG.get rfl)) fun _ bH => ?_
      refine sqv bH rfl (r_move (bH.get rfl)) fun _ av => ?_
      obtain ⟨dD, dF⟩ := dC
      refine sqv av rfl (r_sliceL (av.get rfl) (av.get rfl) Try.underlying26 ti_65 dD) fun _ bI => ?_
      refine sqv bI rfl (r_move (bI.get rfl)) fun _ ax => ?_
      refine sq (opk_run ax rfl (fun _ _ hr => r_copy (ax.get rfl) (ax.get rfl) hr) dF fun fj fk aK dG _ fl fm dH => ?_)
      obtain ⟨aL, rfl, dI⟩ := dH
      refine sq_end ?_
      have bJ := dG.keep [(0, Sl.v (Sl.cut b 2 0 ((b.n : Int) + (d.n : Int)).toNat b.c))] ⟨rfl, trivial⟩
      refine then_normal (wp_seq (wp_region_lit ?_))
      refine sqv bJ rfl (r_move (bJ.get rfl)) fun _ bK => ?_
      refine sqv bK rfl (r_assign (bK.get rfl)) fun _ dJ => ?_
      refine sq_end ?_
      have bL := dJ.keep [(6, Sl.v (Sl.cut b 2 0 ((b.n : Int) + (d.n : Int)).toNat b.c))] ⟨rfl, trivial⟩
      refine then_normal ?_
      refine wp_ret ?_
      refine then_ret ?_
      exact res_all (vs := [Sl.v (Sl.cut b 2 0 ((b.n : Int) + (d.n : Int)).toNat b.c)]) rfl bL ⟨res_of_tmp bL rfl, trivial⟩ dI
    ·have dK := bB.2 (b_not_f hc)
     clear hc
     refine wp_skip ?_
     refine then_normal (wp_seq (wp_region_lit ?_))
     refine sqv j rfl (r_move (j.get rfl)) fun _ bM => ?_
     refine sqv bM rfl (r_move (bM.get rfl)) fun _ ay => ?_
     obtain ⟨dL, dM⟩ := dK
     refine sqv ay rfl (r_sliceL (ay.get rfl) (ay.get rfl) Try.underlying26 ti_65 dL) fun _ bN => ?_
     refine sqv bN rfl (r_move (bN.get rfl)) fun _ az => ?_
     refine sq (opk_run az rfl (fun _ _ hr => r_copy (az.get rfl) (az.get rfl) hr) dM fun fn fo aM dN _ fp fq dO => ?_)
     obtain ⟨aN, rfl, dP⟩ := dO
     refine sq_end ?_
     have bO := dN.keep [(0, Sl.v (Sl.cut b 2 0 ((b.n : Int) + (d.n : Int)).toNat b.c)), (1, .int .i64 f), (7, .int .i64 (d.n : Int))] ⟨rfl, rfl, rfl, trivial⟩
     refine then_normal (wp_seq (wp_region_lit ?_))
     refine sqv bO rfl (r_move (bO.get rfl)) fun _ bP => ?_
     refine sqv bP rfl (r_move (bP.get rfl)) fun _ aA => ?_
     obtain ⟨dQ, dR⟩ := dP
     refine sqv aA rfl (r_sliceL (aA.get rfl) (aA.get rfl) Try.underlying26 ti_65 dQ) fun _ bQ => ?_
     refine sqv bQ rfl (r_move (bQ.get rfl)) fun _ aB => ?_
     refine sq (opk_call aB rfl (r_call (args := #[Sl.v (Sl.cut (Sl.cut b 2 0 ((b.n : Int) + (d.n : Int)).toNat b.c) 2 f.toNat (Sl.cut b 2 0 ((b.n : Int) + (d.n : Int)).toNat b.c).n (Sl.cut b 2 0 ((b.n : Int) + (d.n : Int)).toNat b.c).c), .int .i64 (d.n : Int)]) Try.func80 (by decide) rfl (map_arr (ml_cons (aB.get rfl) (ml_cons (aB.get rfl) ml_nil))) rfl) dR fun fr fs aO dS _ ft fu dT => ?_)
     obtain ⟨rfl, dU⟩ := dT
     refine sq_end ?_
     have bR := dS.keep [(0, Sl.v (Sl.cut b 2 0 ((b.n : Int) + (d.n : Int)).toNat b.c))] ⟨rfl, trivial⟩
     refine then_normal (wp_seq (wp_region_lit ?_))
     refine sqv bR rfl (r_move (bR.get rfl)) fun _ bS => ?_
     refine sqv bS rfl (r_assign (bS.get rfl)) fun _ dV => ?_
     refine sq_end ?_
     have bT := dV.keep [(6, Sl.v (Sl.cut b 2 0 ((b.n : Int) + (d.n : Int)).toNat b.c))] ⟨rfl, trivial⟩
     refine then_normal ?_
     refine wp_ret ?_
     exact res_all (vs := [Sl.v (Sl.cut b 2 0 ((b.n : Int) + (d.n : Int)).toNat b.c)]) rfl bT ⟨res_of_tmp bT rfl, trivial⟩ dU
def slices_Clone__api_Attr_api_Attr_.vc (b : Sl) (R : Value → World → Prop) (w : World) : Prop :=
((b.a.isNone = true) →
R (Sl.v Sl.nil) w) ∧
((b.a.isNone = false) →
∀ (c : World) (d : Nat), New w d c → Chg [] w c →
∀ (_ : Box c d 65 []),
RunK Try.prog (Builtin.append_ #[26, 26] 26 #[Sl.v (Sl.mk (some ⟨d, 0, none⟩) 0 0), Sl.v b]) c [] (fun v j => ∃ (f : Sl), v = Sl.v f ∧
R (Sl.v f) j))
theorem slices_Clone__api_Attr_api_Attr_.ok (b : Sl) {R : Value → World → Prop} {w : World} (g : slices_Clone__api_Attr_api_Attr_.vc b R w) : Calls Try.prog 64 #[Sl.v b] w (Ret R) := by
 refine enter [Sl.v b] Try.func64 rfl Try.ntmps64 rfl ?_
 intro a0 q
 unfold slices_Clone__api_Attr_api_Attr_.vc at g
 refine wp_seq (wp_region_lit ?_)
 refine sqv q rfl (r_assign rfl) fun _ r => ?_
 refine sq_end ?_
 have k := r.keep [(0, Sl.v b)] ⟨rfl, trivial⟩
 refine then_normal (wp_seq (wp_seq (wp_region_lit ?_)))
 refine sqv k rfl (r_move (k.get rfl)) fun _ l => ?_
 refine sqv l rfl (r_slnil (l.get rfl) rfl Try.underlying26) fun _ s => ?_
 refine sq_end ?_
 have h := s.keep [(0, Sl.v b), (4, .bool b.a.isNone)] ⟨rfl, rfl, trivial⟩
 refine then_normal ?_
 refine wp_cond_split (h.get rfl) (fun hc => ?_) (fun hc => ?_)
 ·have t := g.1 hc
  clear hc
  refine wp_seq (wp_region_lit ?_)
  refine sqv h rfl (r_assign rfl) fun _ u => ?_
  refine sq_end ?_
  have m := u.keep [(2, Sl.v Sl.nil)] ⟨rfl, trivial⟩
  refine then_normal ?_
  refine wp_ret ?_
  refine then_ret ?_
  exact res_all (vs := [Sl.v Sl.nil]) rfl m ⟨res_of_tmp m rfl, trivial⟩ t
 ·have x := g.2 hc
  clear hc
  refine wp_skip ?_
  refine then_normal (wp_seq (wp_region_lit ?_))
  refine sq (opk_new (fun B => .slice (some ⟨B, 0, none⟩) 0 0) h rfl (r_buildSlice0 Try.underlying26 ti_65) fun al c d y z aa n _ => ?_)
  have ab : New w d c := z
  have ad : Chg [] w c := y
  refine sqv n rfl (r_move (n.get rfl)) fun _ i => ?_
  have af := x c d ab  ad
  have ag := af aa
  refine sq (opk_run i rfl (fun _ _ hr => r_append (i.get rfl) (i.get rfl) hr) ag fun am an j o _ ao ap ah => ?_)
  obtain ⟨f, rfl, ai⟩ := ah
  refine sqv o rfl (r_assign (o.get rfl)) fun _ aj => ?_
  refine sq_end ?_
  have p := aj.keep [(2, Sl.v f)] ⟨rfl, trivial⟩
  refine then_normal ?_
  refine wp_ret ?_
  exact res_all (vs := [Sl.v f]) rfl p ⟨res_of_tmp p rfl, trivial⟩ ai
def slices_BinarySearchFunc__api_Attr_api_Attr_string_.vc (c : Sl) (f : Str) (h : Value) (R : Value → World → Prop) (w : World) : Prop :=
∃ (k : Int → Int → World → Prop) (l : Int → Int → World → Nat),
k 0 (c.n : Int) w ∧
(∀ (b : Int) (d : Int) (i : World), k b d i →
((b < d) →
(I64 (b + d)) ∧
(I64 ((IntKind.u64.wrap (b + d)) / 2 ^ 1)) ∧
((0 : Int) ≤ (IntKind.u64.wrap (b + d)) / 2 ^ 1 ∧ (IntKind.u64.wrap (b + d)) / 2 ^ 1 < (c.n : Int)) ∧ ∃ af : Addr, c.a = some af ∧
∃ (r : Str) (t : Str), (Cells i (af.add (((IntKind.u64.wrap (b + d)) / 2 ^ 1).toNat * 2)) [.string (Bs r), .string (Bs t)]) ∧
∃ (u : FuncId) (ag ah : Array Value), (h = .func (.func u) ag ah) ∧
Body Try.prog u ∧
CallK Try.prog u (ag ++ #[.agg #[.string (Bs r), .string (Bs t)], .string (Bs f)] ++ ah) i [] (fun v j => ∃ (m : Int), v = .int .i64 m ∧
((m < 0) →
(I64 (((IntKind.u64.wrap (b + d)) / 2 ^ 1) + 1)) ∧
k (((IntKind.u64.wrap (b + d)) / 2 ^ 1) + 1) d j ∧ l (((IntKind.u64.wrap (b + d)) / 2 ^ 1) + 1) d j < l b d i) ∧
((¬ (m < 0)) →
k b ((IntKind.u64.wrap (b + d)) / 2 ^ 1) j ∧ l b ((IntKind.u64.wrap (b + d)) / 2 ^ 1) j < l b d i))) ∧
((¬ (b < d)) →
∃ ai : Addr, (((b < (c.n : Int))) → ((0 : Int) ≤ b ∧ b < (c.n : Int)) ∧  c.a = some ai) ∧
∃ (x : Str) (y : Str), (((b < (c.n : Int))) → Cells i (ai.add (b.toNat * 2)) [.string (Bs x), .string (Bs y)]) ∧
∃ (z : FuncId) (aj ak : Array Value), (((b < (c.n : Int))) → h = .func (.func z) aj ak) ∧
(((b < (c.n : Int))) → Body Try.prog z) ∧
∃ (o : Int), (((b < (c.n : Int))) → Calls Try.prog z (aj ++ #[.agg #[.string (Bs x), .string (Bs y)], .string (Bs f)] ++ ak) i (Ret fun v w' => Ext i w' ∧ v = .int .i64 o)) ∧
(∀ p : World, Ext i p →
R (.tuple #[.int .i64 b, .bool ((decide (b < (c.n : Int))) && (decide (o = 0)))]) p)))
theorem slices_BinarySearchFunc__api_Attr_api_Attr_string_.ok (c : Sl) (f : Str) (h : Value) {R : Value → World → Prop} {w : World} (au : slices_BinarySearchFunc__api_Attr_api_Attr_string_.vc c f h R w) : Calls Try.prog 76 #[Sl.v c, .string (Bs f), h] w (Ret R) := by
 refine enter [Sl.v c, .string (Bs f), h] Try.func76 rfl Try.ntmps76 rfl ?_
 intro a0 bb
 unfold slices_BinarySearchFunc__api_Attr_api_Attr_string_.vc at au
 refine wp_seq (wp_region_lit ?_)
 refine sqv bb rfl (r_assign rfl) fun _ bd => ?_
 refine sqv bd rfl (r_assign rfl) fun _ bf => ?_
 refine sq_end ?_
 have av := bf.keep [(0, Sl.v c), (1, .string (Bs f)), (2, h)] ⟨rfl, rfl, rfl, trivial⟩
 refine then_normal (wp_seq (wp_region_lit ?_))
 refine sqv av rfl (r_move (av.get rfl)) fun _ ax => ?_
 refine sqv ax rfl (r_len (ax.get rfl) Try.underlying26) fun _ ay => ?_
 refine sqv ay rfl (r_assign (ay.get rfl)) fun _ bg => ?_
 refine sq_end ?_
 have az := bg.keep [(0, Sl.v c), (1, .string (Bs f)), (2, h), (8, .int .i64 (c.n : Int))] ⟨rfl, rfl, rfl, rfl, trivial⟩
 refine then_normal (wp_seq (wp_region_lit ?_))
 refine sqv az rfl (r_move (az.get rfl)) fun _ bh => ?_
 refine sqv bh rfl (r_assign rfl) fun _ aA => ?_
 refine sqv aA rfl (r_assign (aA.get rfl)) fun _ bi => ?_
 refine sq_end ?_
 have bj := bi.keep [(0, Sl.v c), (1, .string (Bs f)), (2, h), (8, .int .i64 (c.n : Int)), (9, .int .i64 0), (10, .int .i64 (c.n : Int))] ⟨rfl, rfl, rfl, rfl, rfl, rfl, trivial⟩
 refine then_normal (wp_seq (wp_block ?_))
 obtain ⟨k, l, bk, bl⟩ := au
 refine wp_loop_st (σ := Int × Int × World) (fun s a w => Ag 49 a [(0, Sl.v c), (1, .string (Bs f)), (2, h), (8, .int .i64 (c.n : Int)), (9, .int .i64 s.1), (10, .int .i64 s.2.1)] ∧ w = s.2.2 ∧ k s.1 s.2.1 s.2.2) (fun s => l s.1 s.2.1 s.2.2) (0, (c.n : Int), w) ⟨bj.keep [(0, Sl.v c), (1, .string (Bs f)), (2, h), (8, .int .i64 (c.n : Int)), (9, .int .i64 0), (10, .int .i64 (c.n : Int))] ⟨rfl, rfl, rfl, rfl, rfl, rfl, trivial⟩, rfl, bk⟩ ?_
 rintro ⟨b, d, i⟩ b4 w_ ⟨aB, hw_, bm⟩
 have hw_ : i = w_ := hw_.symm
 subst hw_
 have aC := bl b d _ bm
 refine wp_seq (wp_seq (wp_region_lit ?_))
 refine sqv aB rfl (r_move (aB.get rfl)) fun _ aD => ?_
 refine sqv aD rfl (r_move (aD.get rfl)) fun _ al => ?_
 refine sqv al rfl (r_lss (al.get rfl) (al.get rfl)) fun _ bn => ?_
 refine sq_end ?_
 have aa := bn.keep [(0, Sl.v c), (1, .string (Bs f)), (2, h), (8, .int .i64 (c.n : Int)), (9, .int .i64 b), (10, .int .i64 d), (17, .bool (decide (b < d)))] ⟨rfl, rfl, rfl, rfl, rfl, rfl, rfl, trivial⟩
 refine then_normal ?_
 refine wp_cond_split (aa.get rfl) (fun hc => ?_) (fun hc => ?_)
 ·have bo := aC.1 (of_decide_eq_true hc)
  clear hc
  refine wp_skip ?_
  refine then_normal (wp_block (wp_seq (wp_region_lit ?_)))
  refine sqv aa rfl (r_move (aa.get rfl)) fun _ aF => ?_
  refine sqv aF rfl (r_move (aF.get rfl)) fun _ am => ?_
  obtain ⟨bp, bq⟩ := bo
  refine sqv am rfl (r_addI (am.get rfl) (am.get rfl) bp) fun _ aG => ?_
  refine sqv aG rfl (r_conv (aG.get rfl) rfl Try.underlying117) fun _ aH => ?_
  refine sqv aH rfl (r_shr (aH.get rfl) rfl (by decide) (by decide)) fun _ aI => ?_
  obtain ⟨br, bs⟩ := bq
  refine sqv aI rfl (r_convI (aI.get rfl) rfl Try.underlying3 br) fun _ aJ => ?_
  refine sqv aJ rfl (r_assign (aJ.get rfl)) fun _ bt => ?_
  refine sq_end ?_
  have aK := bt.keep [(0, Sl.v c), (1, .string (Bs f)), (2, h), (8, .int .i64 (c.n : Int)), (9, .int .i64 b), (10, .int .i64 d), (11, .int .i64 ((IntKind.u64.wrap (b + d)) / 2 ^ 1))] ⟨rfl, rfl, rfl, rfl, rfl, rfl, rfl, trivial⟩
  refine then_normal (wp_seq (wp_region_lit ?_))
  refine sqv aK rfl (r_move (aK.get rfl)) fun _ aL => ?_
  refine sqv aL rfl (r_move (aL.get rfl)) fun _ aM => ?_
  refine sqv aM rfl (r_move (aM.get rfl)) fun _ an => ?_
  obtain ⟨bu, af, bv, bx⟩ := bs
  refine sqv an rfl (r_indexAddr (an.get rfl) (an.get rfl) Try.underlying26 ti_65 bu bv) fun _ aN => ?_
  obtain ⟨r, t, bz, bA⟩ := bx
  refine sqv aN rfl (r_loadN Try.underlying65 rfl ti_65 (aN.get rfl) bz) fun _ aO => ?_
  refine sqv aO rfl (r_move (aO.get rfl)) fun _ ab => ?_
  obtain ⟨u, ag, ah, bB, bC⟩ := bA
  obtain ⟨bD, bF⟩ := bC
  refine sq (opk_call ab rfl (r_callO (args := #[.agg #[.string (Bs r), .string (Bs t)], .string (Bs f)]) bD (map_arr (ml_cons (ab.get rfl) (ml_cons (ab.get rfl) ml_nil))) (((ab.get rfl)).trans bB)) bF fun b5 b6 j aP _ b7 b8 bG => ?_)
  obtain ⟨m, rfl, aQ⟩ := bG
  refine sqv aP rfl (r_lss (aP.get rfl) rfl) fun _ bH => ?_
  refine sq_end ?_
  have q := bH.keep [(0, Sl.v c), (1, .string (Bs f)), (2, h), (8, .int .i64 (c.n : Int)), (9, .int .i64 b), (10, .int .i64 d), (11, .int .i64 ((IntKind.u64.wrap (b + d)) / 2 ^ 1)), (31, .bool (decide (m < 0)))] ⟨rfl, rfl, rfl, rfl, rfl, rfl, rfl, rfl, trivial⟩
  refine then_normal ?_
  refine wp_cond_split (q.get rfl) (fun hc => ?_) (fun hc => ?_)
  ·have bI := aQ.1 (of_decide_eq_true hc)
   clear hc
   refine wp_region_lit ?_
   refine sqv q rfl (r_move (q.get rfl)) fun _ aR => ?_
   obtain ⟨bJ, aS⟩ := bI
   refine sqv aR rfl (r_addI (aR.get rfl) rfl bJ) fun _ aT => ?_
   refine sqv aT rfl (r_assign (aT.get rfl)) fun _ bK => ?_
   refine sq_end ?_
   have bL := bK.keep [(0, Sl.v c), (1, .string (Bs f)), (2, h), (8, .int .i64 (c.n : Int)), (9, .int .i64 (((IntKind.u64.wrap (b + d)) / 2 ^ 1) + 1)), (10, .int .i64 d)] ⟨rfl, rfl, rfl, rfl, rfl, rfl, trivial⟩
   refine block_normal ?_
   have bM := bL.keep [(0, Sl.v c), (1, .string (Bs f)), (2, h), (8, .int .i64 (c.n : Int)), (9, .int .i64 (((IntKind.u64.wrap (b + d)) / 2 ^ 1) + 1)), (10, .int .i64 d)] ⟨rfl, rfl, rfl, rfl, rfl, rfl, trivial⟩
   exact then_normal ⟨(((IntKind.u64.wrap (b + d)) / 2 ^ 1) + 1, d, j), ⟨bM, rfl, aS.1⟩, aS.2⟩
  ·have aU := aQ.2 (of_decide_eq_false hc)
   clear hc
   refine wp_region_lit ?_
   refine sqv q rfl (r_move (q.get rfl)) fun _ aV => ?_
   refine sqv aV rfl (r_assign (aV.get rfl)) fun _ bN => ?_
   refine sq_end ?_
   have bO := bN.keep [(0, Sl.v c), (1, .string (Bs f)), (2, h), (8, .int .i64 (c.n : Int)), (9, .int .i64 b), (10, .int .i64 ((IntKind.u64.wrap (b + d)) / 2 ^ 1))] ⟨rfl, rfl, rfl, rfl, rfl, rfl, trivial⟩
   refine block_normal ?_
   have bP := bO.keep [(0, Sl.v c), (1, .string (Bs f)), (2, h), (8, .int .i64 (c.n : Int)), (9, .int .i64 b), (10, .int .i64 ((IntKind.u64.wrap (b + d)) / 2 ^ 1))] ⟨rfl, rfl, rfl, rfl, rfl, rfl, trivial⟩
   exact then_normal ⟨(b, (IntKind.u64.wrap (b + d)) / 2 ^ 1, j), ⟨bP, rfl, aU.1⟩, aU.2⟩
 ·have bQ := aC.2 (of_decide_eq_false hc)
  clear hc
  refine wp_exit ?_
  refine then_exit ?_
  refine then_exit ?_
  refine block_hit ?_
  have aX := aa.keep [(0, Sl.v c), (1, .string (Bs f)), (2, h), (8, .int .i64 (c.n : Int)), (9, .int .i64 b)] ⟨rfl, rfl, rfl, rfl, rfl, trivial⟩
  refine then_normal (wp_seq (wp_region_lit ?_))
  refine sqv aX rfl (r_move (aX.get rfl)) fun _ aY => ?_
  refine sqv aY rfl (r_move (aY.get rfl)) fun _ aZ => ?_
  refine sqv aZ rfl (r_move (aZ.get rfl)) fun _ ao => ?_
  refine sqv ao rfl (r_lss (ao.get rfl) (ao.get rfl)) fun _ hA150 => ?_
  refine sqv hA150 rfl (r_move (hA150.get rfl)) fun _ a1 => ?_
  refine sq (opk_gval a1 rfl rfl (g := true) (e := (decide (b < (c.n : Int)))) rfl (fun hg => r_move (a1.get rfl)) fun b9 a2 _ => ?_)
  refine sq (opk_gval a2 rfl rfl (g := true) (e := (decide (b < (c.n : Int)))) rfl (fun hg => r_move (a2.get rfl)) fun ca a3 _ => ?_)
  refine sq (opk_gval a3 rfl rfl (g := true) (e := (decide (b < (c.n : Int)))) rfl (fun hg => r_move (a3.get rfl)) fun cb ap _ => ?_)
  obtain ⟨ai, a4, bR⟩ := bQ
  refine sq (opk_gval ap rfl rfl (g := true) (e := (decide (b < (c.n : Int)))) rfl (fun hg => r_indexAddr (cv_get (ap.get rfl) hg) (cv_get (ap.get rfl) hg) Try.underlying26 ti_65 (a4 (of_decide_eq_true (g_t hg))).1 (a4 (of_decide_eq_true (g_t hg))).2) fun cc a5 _ => ?_)
  obtain ⟨x, y, bS, bT⟩ := bR
  refine sq (opk_gval a5 rfl rfl (g := true) (e := (decide (b < (c.n : Int)))) rfl (fun hg => r_loadN Try.underlying65 rfl ti_65 (cv_get (a5.get rfl) hg) (bS (of_decide_eq_true (g_t hg)))) fun cd a6 _ => ?_)
  refine sq (opk_gval a6 rfl rfl (g := true) (e := (decide (b < (c.n : Int)))) rfl (fun hg => r_move (a6.get rfl)) fun cf ad _ => ?_)
  obtain ⟨z, aj, ak, bU, bV⟩ := bT
  obtain ⟨bX, bY⟩ := bV
  obtain ⟨o, bZ, b0⟩ := bY
  refine sq (opk_gcall ad rfl rfl (g := true) (e := (decide (b < (c.n : Int)))) rfl (fun hg => r_callO (args := #[.agg #[.string (Bs x), .string (Bs y)], .string (Bs f)]) (bX (of_decide_eq_true (g_t hg))) (map_arr (ml_cons (cv_get (ad.get rfl) hg) (ml_cons (cv_get (ad.get rfl) hg) ml_nil))) (((cv_get (ad.get rfl) hg)).trans (bU (of_decide_eq_true (g_t hg))))) (fun hg => bZ (of_decide_eq_true (g_t hg))) fun cg p a7 _ a8 => ?_)
  have ch : Chg [] i p := a8
  have b1 := b0 p a8
  refine sq (opk_gval a7 rfl rfl (g := true) (e := (decide (b < (c.n : Int)))) rfl (fun hg => r_eql (cv_get (a7.get rfl) hg) rfl) fun ci aq _ => ?_)
  refine sqv aq rfl (r_pick_and (g := (true && ((decide (b < (c.n : Int))) == true))) (aq.get rfl) (aq.get rfl) (fun he => g_mkt rfl he)) fun _ a9 => ?_
  refine sqv a9 rfl (r_assign (a9.get rfl)) fun _ ba => ?_
  refine sqv ba rfl (r_assign (ba.get rfl)) fun _ b2 => ?_
  refine sq_end ?_
  have ar := b2.keep [(6, .int .i64 b), (7, .bool ((decide (b < (c.n : Int))) && (decide (o = 0))))] ⟨rfl, rfl, trivial⟩
  refine then_normal ?_
  refine wp_ret ?_
  exact res_all (vs := [.int .i64 b, .bool ((decide (b < (c.n : Int))) && (decide (o = 0)))]) rfl ar ⟨res_of_tmp ar rfl, res_of_tmp ar rfl, trivial⟩ b1
def strings_Compare.vc (a : Str) (b : Str) (R : Value → World → Prop) (w : World) : Prop :=
CallK Try.prog 89 #[.string (Bs a), .string (Bs b)] w [] (fun v f => ∃ (c : Int), v = .int .i64 c ∧
R (.int .i64 c) f)
theorem strings_Compare.ok (a : Str) (b : Str) {R : Value → World → Prop} {w : World} (g : strings_Compare.vc a b R w) : Calls Try.prog 78 #[.string (Bs a), .string (Bs b)] w (Ret R) := by
 refine enter [.string (Bs a), .string (Bs b)] Try.func78 rfl Try.ntmps78 rfl ?_
 intro q l
 unfold strings_Compare.vc at g
 refine wp_seq (wp_region_lit ?_)
 refine sqv l rfl (r_assign rfl) fun _ m => ?_
 refine sq_end ?_
 have h := m.keep [(0, .string (Bs a)), (1, .string (Bs b))] ⟨rfl, rfl, trivial⟩
 refine then_normal (wp_seq (wp_region_lit ?_))
 refine sqv h rfl (r_move (h.get rfl)) fun _ i => ?_
 refine sqv i rfl (r_move (i.get rfl)) fun _ d => ?_
 refine sq (opk_call d rfl (r_call (args := #[.string (Bs a), .string (Bs b)]) Try.func89 (by decide) rfl (map_arr (ml_cons (d.get rfl) (ml_cons (d.get rfl) ml_nil))) rfl) g fun r s f j _ t u n => ?_)
 obtain ⟨c, rfl, o⟩ := n
 refine sqv j rfl (r_assign (j.get rfl)) fun _ p => ?_
 refine sq_end ?_
 have k := p.keep [(4, .int .i64 c)] ⟨rfl, trivial⟩
 refine then_normal ?_
 refine wp_ret ?_
 exact res_all (vs := [.int .i64 c]) rfl k ⟨res_of_tmp k rfl, trivial⟩ o
def slices_DeleteFunc__int_int_.vc (d : Sl) (h : Value) (R : Value → World → Prop) (w : World) : Prop :=
CallK Try.prog 91 #[Sl.v d, h] w [] (fun v x => ∃ (i : Int), v = .int .i64 i ∧
((i = (-1)) →
R (Sl.v d) x) ∧
((¬ (i = (-1))) →
(I64 (i + 1)) ∧
∃ (m : Int → Int → World → Prop) (o : Int → Int → World → Nat),
m i (i + 1) x ∧
(∀ (f : Int) (g : Int) (k : World), m f g k →
((g < (d.n : Int)) →
((0 : Int) ≤ g ∧ g < (d.n : Int)) ∧ ∃ ad : Addr, d.a = some ad ∧
∃ (j : Int), (k.cell? (ad.add (g.toNat * 1)) = some (.int .i64 j)) ∧
∃ (y : FuncId) (af ag : Array Value), (h = .func (.func y) af ag) ∧
Body Try.prog y ∧
CallK Try.prog y (af ++ #[.int .i64 j] ++ ag) k [] (fun v p => ∃ (r : Bool), v = .bool r ∧
((r = false) →
((0 : Int) ≤ f ∧ f < (d.n : Int)) ∧ ∃ ah : Addr, d.a = some ah ∧
∃ (q z : Nat) (ai : TypeId) (aa : List Value), (ah.add (f.toNat * 1)) = ⟨q, z, none⟩ ∧ Box p q ai aa ∧ z + 1 ≤ aa.length ∧ (∀ b ∈ [], b ≠ q) ∧
(∀ l : World, Chg [q] p l → Box l q ai (putAt aa z [.int .i64 j]) →
(I64 (f + 1)) ∧
(I64 (g + 1)) ∧
m (f + 1) (g + 1) l ∧ o (f + 1) (g + 1) l < o f g k)) ∧
((r = true) →
(I64 (g + 1)) ∧
m f (g + 1) p ∧ o f (g + 1) p < o f g k))) ∧
((¬ (g < (d.n : Int))) →
((0 : Int) ≤ f ∧ f ≤ (d.n : Int)) ∧
RunN Try.prog (Builtin.clear_ #[36] 0 #[Sl.v (Sl.cut d 1 f.toNat d.n d.c)]) k [] (fun ar =>
((0 : Int) ≤ f ∧ f ≤ (d.c : Int)) ∧
R (Sl.v (Sl.cut d 1 0 f.toNat d.c)) ar)))))
theorem slices_DeleteFunc__int_int_.ok (d : Sl) (h : Value) {R : Value → World → Prop} {w : World} (au : slices_DeleteFunc__int_int_.vc d h R w) : Calls Try.prog 81 #[Sl.v d, h] w (Ret R) := by
 refine enter [Sl.v d, h] Try.func81 rfl Try.ntmps81 rfl ?_
 intro a0 bf
 unfold slices_DeleteFunc__int_int_.vc at au
 refine wp_seq (wp_region_lit ?_)
 refine sqv bf rfl (r_assign rfl) fun _ bg => ?_
 refine sq_end ?_
 have av := bg.keep [(0, Sl.v d), (1, h)] ⟨rfl, rfl, trivial⟩
 refine then_normal (wp_seq (wp_region_lit ?_))
 refine sqv av rfl (r_move (av.get rfl)) fun _ ax => ?_
 refine sqv ax rfl (r_move (ax.get rfl)) fun _ aj => ?_
 refine sq (opk_call aj rfl (r_call (args := #[Sl.v d, h]) Try.func91 (by decide) rfl (map_arr (ml_cons (aj.get rfl) (ml_cons (aj.get rfl) ml_nil))) rfl) au fun a8 ck x ay _ cl cm bh => ?_)
 obtain ⟨i, rfl, az⟩ := bh
 refine sqv ay rfl (r_assign (ay.get rfl)) fun _ bi => ?_
 refine sq_end ?_
 have aA := bi.keep [(0, Sl.v d), (1, h), (5, .int .i64 i)] ⟨rfl, rfl, rfl, trivial⟩
 refine then_normal (wp_seq (wp_seq (wp_region_lit ?_)))
 refine sqv aA rfl (r_move (aA.get rfl)) fun _ aB => ?_
 refine sqv aB rfl (r_eql (aB.get rfl) rfl) fun _ bj => ?_
 refine sq_end ?_
 have t := bj.keep [(0, Sl.v d), (1, h), (5, .int .i64 i), (12, .bool (decide (i = (-1))))] ⟨rfl, rfl, rfl, rfl, trivial⟩
 refine then_normal ?_
 refine wp_cond_split (t.get rfl) (fun hc => ?_) (fun hc => ?_)
 ·have bk := az.1 (of_decide_eq_true hc)
  clear hc
  refine wp_seq (wp_region_lit ?_)
  refine sqv t rfl (r_move (t.get rfl)) fun _ aC => ?_
  refine sqv aC rfl (r_assign (aC.get rfl)) fun _ bl => ?_
  refine sq_end ?_
  have aD := bl.keep [(4, Sl.v d)] ⟨rfl, trivial⟩
  refine then_normal ?_
  refine wp_ret ?_
  refine then_ret ?_
  exact res_all (vs := [Sl.v d]) rfl aD ⟨res_of_tmp aD rfl, trivial⟩ bk
 ·have bm := az.2 (of_decide_eq_false hc)
  clear hc
  refine wp_skip ?_
  refine then_normal (wp_seq (wp_seq (wp_region_lit ?_)))
  refine sqv t rfl (r_move (t.get rfl)) fun _ aF => ?_
  obtain ⟨bn, bo⟩ := bm
  refine sqv aF rfl (r_addI (aF.get rfl) rfl bn) fun _ aG => ?_
  refine sqv aG rfl (r_assign (aG.get rfl)) fun _ bp => ?_
  refine sq_end ?_
  have bq := bp.keep [(0, Sl.v d), (1, h), (5, .int .i64 i), (6, .int .i64 (i + 1))] ⟨rfl, rfl, rfl, rfl, trivial⟩
  refine then_normal (wp_block ?_)
  obtain ⟨m, o, br, bs⟩ := bo
  refine wp_loop_st (σ := Int × Int × World) (fun s a w => Ag 42 a [(0, Sl.v d), (1, h), (5, .int .i64 s.1), (6, .int .i64 s.2.1)] ∧ w = s.2.2 ∧ m s.1 s.2.1 s.2.2) (fun s => o s.1 s.2.1 s.2.2) (i, i + 1, x) ⟨bq.keep [(0, Sl.v d), (1, h), (5, .int .i64 i), (6, .int .i64 (i + 1))] ⟨rfl, rfl, rfl, rfl, trivial⟩, rfl, br⟩ ?_
  rintro ⟨f, g, k⟩ cn w_ ⟨aH, hw_, bt⟩
  have hw_ : k = w_ := hw_.symm
  subst hw_
  have aI := bs f g _ bt
  refine wp_seq (wp_seq (wp_region_lit ?_))
  refine sqv aH rfl (r_move (aH.get rfl)) fun _ aJ => ?_
  refine sqv aJ rfl (r_move (aJ.get rfl)) fun _ aK => ?_
  refine sqv aK rfl (r_len (aK.get rfl) Try.underlying36) fun _ ak => ?_
  refine sqv ak rfl (r_lss (ak.get rfl) (ak.get rfl)) fun _ bu => ?_
  refine sq_end ?_
  have ab := bu.keep [(0, Sl.v d), (1, h), (5, .int .i64 f), (6, .int .i64 g), (19, .bool (decide (g < (d.n : Int))))] ⟨rfl, rfl, rfl, rfl, rfl, trivial⟩
  refine then_normal ?_
  refine wp_cond_split (ab.get rfl) (fun hc => ?_) (fun hc => ?_)
  ·have bv := aI.1 (of_decide_eq_true hc)
   clear hc
   refine wp_skip ?_
   refine then_normal (wp_seq (wp_block (wp_seq (wp_region_lit ?_))))
   refine sqv ab rfl (r_move (ab.get rfl)) fun _ aL => ?_
   refine sqv aL rfl (r_move (aL.get rfl)) fun _ al => ?_
   obtain ⟨bx, ad, bz, bA⟩ := bv
   refine sqv al rfl (r_indexAddr (al.get rfl) (al.get rfl) Try.underlying36 ti_3 bx bz) fun _ aM => ?_
   obtain ⟨j, bB, bC⟩ := bA
   refine sqv aM rfl (r_load1 Try.underlying3 rfl (aM.get rfl) bB) fun _ aN => ?_
   refine sqv aN rfl (r_assign (aN.get rfl)) fun _ bD => ?_
   refine sq_end ?_
   have aO := bD.keep [(0, Sl.v d), (1, h), (5, .int .i64 f), (6, .int .i64 g), (7, .int .i64 j)] ⟨rfl, rfl, rfl, rfl, rfl, trivial⟩
   refine then_normal (wp_seq (wp_region_lit ?_))
   refine sqv aO rfl (r_move (aO.get rfl)) fun _ aP => ?_
   refine sqv aP rfl (r_move (aP.get rfl)) fun _ am => ?_
   obtain ⟨y, af, ag, bF, bG⟩ := bC
   obtain ⟨bH, bI⟩ := bG
   refine sq (opk_call am rfl (r_callO (args := #[.int .i64 j]) bH (map_arr (ml_cons (am.get rfl) ml_nil)) (((am.get rfl)).trans bF)) bI fun co cp p aQ _ cq cr bJ => ?_)
   obtain ⟨r, rfl, aR⟩ := bJ
   refine sqv aQ rfl (r_not (aQ.get rfl)) fun _ bK => ?_
   refine sq_end ?_
   have u := bK.keep [(0, Sl.v d), (1, h), (5, .int .i64 f), (6, .int .i64 g), (7, .int .i64 j), (29, .bool (!r))] ⟨rfl, rfl, rfl, rfl, rfl, rfl, trivial⟩
   refine then_normal ?_
   refine wp_cond_split (u.get rfl) (fun hc => ?_) (fun hc => ?_)
   ·have bL := aR.1 (b_not_t hc)
    clear hc
    refine wp_seq (wp_region_lit ?_)
    refine sqv u rfl (r_move (u.get rfl)) fun _ aS => ?_
    refine sqv aS rfl (r_move (aS.get rfl)) fun _ aT => ?_
    refine sqv aT rfl (r_move (aT.get rfl)) fun _ an => ?_
    obtain ⟨bM, ah, bN, bO⟩ := bL
    refine sqv an rfl (r_indexAddr (an.get rfl) (an.get rfl) Try.underlying36 ti_3 bM bN) fun _ ao => ?_
    obtain ⟨q, z, ai, aa, bP, aU, bQ, cs, bR⟩ := bO
    refine sq (opk_store ao aU (r_store (vs := [.int .i64 j]) (((ao.get rfl)).trans (congrArg (fun a => Value.pointer (some a)) bP)) (ao.get rfl) rfl ti_3 aU (Nat.ble_eq_true_of_le bQ) (ones_all [.int .i64 j] rfl)) fun ct l bS bT bU => ?_)
    have bV := bR l bS bT
    refine sq_end ?_
    have aV := bU.keep [(0, Sl.v d), (1, h), (5, .int .i64 f), (6, .int .i64 g)] ⟨rfl, rfl, rfl, rfl, trivial⟩
    refine then_normal (wp_region_lit ?_)
    refine sqv aV rfl (r_move (aV.get rfl)) fun _ aX => ?_
    obtain ⟨bX, bY⟩ := bV
    refine sqv aX rfl (r_addI (aX.get rfl) rfl bX) fun _ aY => ?_
    refine sqv aY rfl (r_assign (aY.get rfl)) fun _ bZ => ?_
    refine sq_end ?_
    have aZ := bZ.keep [(0, Sl.v d), (1, h), (5, .int .i64 (f + 1)), (6, .int .i64 g)] ⟨rfl, rfl, rfl, rfl, trivial⟩
    refine block_normal ?_
    refine then_normal (wp_region_lit ?_)
    refine sqv aZ rfl (r_move (aZ.get rfl)) fun _ hA194 => ?_
    obtain ⟨b0, a1⟩ := bY
    refine sqv hA194 rfl (r_addI (hA194.get rfl) rfl b0) fun _ a2 => ?_
    refine sqv a2 rfl (r_assign (a2.get rfl)) fun _ b1 => ?_
    refine sq_end ?_
    have b2 := b1.keep [(0, Sl.v d), (1, h), (5, .int .i64 (f + 1)), (6, .int .i64 (g + 1))] ⟨rfl, rfl, rfl, rfl, trivial⟩
    have b3 := b2.keep [(0, Sl.v d), (1, h), (5, .int .i64 (f + 1)), (6, .int .i64 (g + 1))] ⟨rfl, rfl, rfl, rfl, trivial⟩
    exact then_normal ⟨(f + 1, g + 1, l), ⟨b3, rfl, a1.1⟩, a1.2⟩
   ·have b4 := aR.2 (b_not_f hc)
    clear hc
    refine wp_skip ?_
    refine block_normal ?_
    refine then_normal (wp_region_lit ?_)
    refine sqv u rfl (r_move (u.get rfl)) fun _ a3 => ?_
    obtain ⟨b5, a4⟩ := b4
    refine sqv a3 rfl (r_addI (a3.get rfl) rfl b5) fun _ a5 => ?_
    refine sqv a5 rfl (r_assign (a5.get rfl)) fun _ b6 => ?_
    refine sq_end ?_
    have b7 := b6.keep [(0, Sl.v d), (1, h), (5, .int .i64 f), (6, .int .i64 (g + 1))] ⟨rfl, rfl, rfl, rfl, trivial⟩
    have b8 := b7.keep [(0, Sl.v d), (1, h), (5, .int .i64 f), (6, .int .i64 (g + 1))] ⟨rfl, rfl, rfl, rfl, trivial⟩
    exact then_normal ⟨(f, g + 1, p), ⟨b8, rfl, a4.1⟩, a4.2⟩
  ·have b9 := aI.2 (of_decide_eq_false hc)
   clear hc
   refine wp_exit ?_
   refine then_exit ?_
   refine then_exit ?_
   refine block_hit ?_
   have a6 := ab.keep [(0, Sl.v d), (5, .int .i64 f)] ⟨rfl, rfl, trivial⟩
   refine then_normal (wp_seq (wp_region_lit ?_))
   refine sqv a6 rfl (r_move (a6.get rfl)) fun _ a7 => ?_
   refine sqv a7 rfl (r_move (a7.get rfl)) fun _ ap => ?_
   obtain ⟨ca, cb⟩ := b9
   refine sqv ap rfl (r_sliceL (ap.get rfl) (ap.get rfl) Try.underlying36 ti_3 ca) fun _ hA211 => ?_
   refine sq (opk_runN hA211 (fun _ hr => r_clear (hA211.get rfl) hr) cb fun cu ar cc cv cx cd => ?_)
   refine sq_end ?_
   have a9 := cc.keep [(0, Sl.v d), (5, .int .i64 f)] ⟨rfl, rfl, trivial⟩
   refine then_normal (wp_seq (wp_region_lit ?_))
   refine sqv a9 rfl (r_move (a9.get rfl)) fun _ ba => ?_
   refine sqv ba rfl (r_move (ba.get rfl)) fun _ aq => ?_
   obtain ⟨cf, cg⟩ := cd
   refine sqv aq rfl (r_sliceH (aq.get rfl) (aq.get rfl) Try.underlying36 ti_3 cf) fun _ bb => ?_
   refine sqv bb rfl (r_assign (bb.get rfl)) fun _ ch => ?_
   refine sq_end ?_
   have bd := ch.keep [(4, Sl.v (Sl.cut d 1 0 f.toNat d.c))] ⟨rfl, trivial⟩
   refine then_normal ?_
   refine wp_ret ?_
   exact res_all (vs := [Sl.v (Sl.cut d 1 0 f.toNat d.c)]) rfl bd ⟨res_of_tmp bd rfl, trivial⟩ cg
def bytealg_CompareString.vc (a : Str) (b : Str) (R : Value → World → Prop) (w : World) : Prop :=
R (.int .i64 (Lib.compareBytes a b)) w
theorem bytealg_CompareString.ok (a : Str) (b : Str) {R : Value → World → Prop} {w : World} (d : bytealg_CompareString.vc a b R w) : Calls Try.prog 89 #[.string (Bs a), .string (Bs b)] w (Ret R) := by
 refine enter [.string (Bs a), .string (Bs b)] Try.func89 rfl Try.ntmps89 rfl ?_
 intro m j
 unfold bytealg_CompareString.vc at d
 refine wp_seq (wp_region_lit ?_)
 refine sqv j rfl (r_assign rfl) fun _ k => ?_
 refine sq_end ?_
 have f := k.keep [(0, .string (Bs a)), (1, .string (Bs b))] ⟨rfl, rfl, trivial⟩
 refine then_normal (wp_seq (wp_region_lit ?_))
 refine sqv f rfl (r_move (f.get rfl)) fun _ g => ?_
 refine sqv g rfl (r_move (g.get rfl)) fun _ c => ?_
 refine sqv c rfl (r_cmpstr Try.func108 (by kernel_rfl) (by kernel_rfl) (by kernel_rfl) (by kernel_rfl) (map_arr (ml_cons (c.get rfl) (ml_cons (c.get rfl) ml_nil))) rfl) fun _ h => ?_
 refine sqv h rfl (r_assign (h.get rfl)) fun _ l => ?_
 refine sq_end ?_
 have i := l.keep [(4, .int .i64 (Lib.compareBytes a b))] ⟨rfl, trivial⟩
 refine then_normal ?_
 refine wp_ret ?_
 exact res_all (vs := [.int .i64 (Lib.compareBytes a b)]) rfl i ⟨res_of_tmp i rfl, trivial⟩ d
def slices_IndexFunc__int_int_.vc (b : Sl) (d : Value) (R : Value → World → Prop) (w : World) : Prop :=
∃ (g : Int → World → Prop) (k : Int → World → Nat),
g 0 w ∧
(∀ (c : Int) (f : World), g c f →
((c < (b.n : Int)) →
((0 : Int) ≤ c ∧ c < (b.n : Int)) ∧ ∃ p : Addr, b.a = some p ∧
∃ (l : Int), (f.cell? (p.add (c.toNat * 1)) = some (.int .i64 l)) ∧
∃ (m : FuncId) (q r : Array Value), (d = .func (.func m) q r) ∧
Body Try.prog m ∧
CallK Try.prog m (q ++ #[.int .i64 l] ++ r) f [] (fun v h => ∃ (i : Bool), v = .bool i ∧
((i = true) →
R (.int .i64 c) h) ∧
((i = false) →
(I64 (c + 1)) ∧
g (c + 1) h ∧ k (c + 1) h < k c f))) ∧
((¬ (c < (b.n : Int))) →
R (.int .i64 (-1)) f))
theorem slices_IndexFunc__int_int_.ok (b : Sl) (d : Value) {R : Value → World → Prop} {w : World} (y : slices_IndexFunc__int_int_.vc b d R w) : Calls Try.prog 91 #[Sl.v b, d] w (Ret R) := by
 refine enter [Sl.v b, d] Try.func91 rfl Try.ntmps91 rfl ?_
 intro a0 ap
 unfold slices_IndexFunc__int_int_.vc at y
 refine wp_seq (wp_region_lit ?_)
 refine sqv ap rfl (r_assign rfl) fun _ aq => ?_
 refine sq_end ?_
 have z := aq.keep [(0, Sl.v b), (1, d)] ⟨rfl, rfl, trivial⟩
 refine then_normal (wp_seq (wp_seq (wp_region_lit ?_)))
 refine sqv z rfl (r_move (z.get rfl)) fun _ aa => ?_
 refine sqv aa rfl (r_len (aa.get rfl) Try.underlying36) fun _ ar => ?_
 refine sqv ar rfl (r_move rfl) fun _ au => ?_
 refine sq_end ?_
 have av := au.keep [(0, Sl.v b), (1, d), (7, .int .i64 (b.n : Int)), (8, .int .i64 0)] ⟨rfl, rfl, rfl, rfl, trivial⟩
 refine then_normal (wp_block ?_)
 obtain ⟨g, k, ax, ay⟩ := y
 refine wp_loop_st (σ := Int × World) (fun s a w => Ag 19 a [(0, Sl.v b), (1, d), (7, .int .i64 (b.n : Int)), (8, .int .i64 s.1)] ∧ w = s.2 ∧ g s.1 s.2) (fun s => k s.1 s.2) (0, w) ⟨av.keep [(0, Sl.v b), (1, d), (7, .int .i64 (b.n : Int)), (8, .int .i64 0)] ⟨rfl, rfl, rfl, rfl, trivial⟩, rfl, ax⟩ ?_
 rintro ⟨c, f⟩ a1 w_ ⟨t, hw_, az⟩
 have hw_ : f = w_ := hw_.symm
 subst hw_
 have ab := ay c _ az
 refine wp_seq (wp_region_lit ?_)
 refine sqv t rfl (r_lss (t.get rfl) (t.get rfl)) fun _ aA => ?_
 refine sq_end ?_
 have o := aA.keep [(0, Sl.v b), (1, d), (7, .int .i64 (b.n : Int)), (8, .int .i64 c), (9, .bool (decide (c < (b.n : Int))))] ⟨rfl, rfl, rfl, rfl, rfl, trivial⟩
 refine then_normal (wp_seq ?_)
 refine wp_cond_split (o.get rfl) (fun hc => ?_) (fun hc => ?_)
 ·have aB := ab.1 (of_decide_eq_true hc)
  clear hc
  refine wp_skip ?_
  refine then_normal (wp_seq (wp_block (wp_seq (wp_region_lit ?_))))
  refine sqv o rfl (r_move (o.get rfl)) fun _ ad => ?_
  refine sqv ad rfl (r_assign (ad.get rfl)) fun _ aC => ?_
  refine sq_end ?_
  have af := aC.keep [(0, Sl.v b), (1, d), (5, .int .i64 c), (7, .int .i64 (b.n : Int)), (8, .int .i64 c)] ⟨rfl, rfl, rfl, rfl, rfl, trivial⟩
  refine then_normal (wp_seq (wp_region_lit ?_))
  refine sqv af rfl (r_move (af.get rfl)) fun _ ag => ?_
  refine sqv ag rfl (r_move (ag.get rfl)) fun _ ah => ?_
  refine sqv ah rfl (r_move (ah.get rfl)) fun _ u => ?_
  obtain ⟨aD, p, aF, aG⟩ := aB
  refine sqv u rfl (r_indexAddr (u.get rfl) (u.get rfl) Try.underlying36 ti_3 aD aF) fun _ ai => ?_
  obtain ⟨l, aH, aI⟩ := aG
  refine sqv ai rfl (r_load1 Try.underlying3 rfl (ai.get rfl) aH) fun _ x => ?_
  obtain ⟨m, q, r, aJ, aK⟩ := aI
  obtain ⟨aL, aM⟩ := aK
  refine sq (opk_call x rfl (r_callO (args := #[.int .i64 l]) aL (map_arr (ml_cons (x.get rfl) ml_nil)) (((x.get rfl)).trans aJ)) aM fun a2 a3 h aN _ a4 a5 aO => ?_)
  obtain ⟨i, rfl, aj⟩ := aO
  refine sq_end ?_
  have j := aN.keep [(0, Sl.v b), (1, d), (5, .int .i64 c), (7, .int .i64 (b.n : Int)), (8, .int .i64 c), (16, .bool i)] ⟨rfl, rfl, rfl, rfl, rfl, rfl, trivial⟩
  refine then_normal ?_
  refine wp_cond_split (j.get rfl) (fun hc => ?_) (fun hc => ?_)
  ·have aP := aj.1 hc
   clear hc
   refine wp_seq (wp_region_lit ?_)
   refine sqv j rfl (r_move (j.get rfl)) fun _ ak => ?_
   refine sqv ak rfl (r_assign (ak.get rfl)) fun _ aQ => ?_
   refine sq_end ?_
   have al := aQ.keep [(4, .int .i64 c)] ⟨rfl, trivial⟩
   refine then_normal ?_
   refine wp_ret ?_
   refine block_ret ?_
   refine then_ret ?_
   refine then_ret ?_
   refine block_ret ?_
   refine then_ret ?_
   exact res_all (vs := [.int .i64 c]) rfl al ⟨res_of_tmp al rfl, trivial⟩ aP
  ·have aR := aj.2 hc
   clear hc
   refine wp_skip ?_
   refine block_normal ?_
   refine then_normal (wp_region_lit ?_)
   obtain ⟨aS, am⟩ := aR
   refine sqv j rfl (r_addI (j.get rfl) rfl aS) fun _ an => ?_
   refine sqv an rfl (r_move (an.get rfl)) fun _ aT => ?_
   refine sq_end ?_
   have aU := aT.keep [(0, Sl.v b), (1, d), (7, .int .i64 (b.n : Int)), (8, .int .i64 (c + 1))] ⟨rfl, rfl, rfl, rfl, trivial⟩
   have aV := aU.keep [(0, Sl.v b), (1, d), (7, .int .i64 (b.n : Int)), (8, .int .i64 (c + 1))] ⟨rfl, rfl, rfl, rfl, trivial⟩
   exact then_normal ⟨(c + 1, h), ⟨aV, rfl, am.1⟩, am.2⟩
 ·have aX := ab.2 (of_decide_eq_false hc)
  clear hc
  refine wp_exit ?_
  refine then_exit ?_
  refine then_exit ?_
  refine block_hit ?_
  have aY := o.keep [] trivial
  refine then_normal (wp_seq (wp_region_lit ?_))
  refine sqv aY rfl (r_assign rfl) fun _ aZ => ?_
  refine sq_end ?_
  have ao := aZ.keep [(4, .int .i64 (-1))] ⟨rfl, trivial⟩
  refine then_normal ?_
  refine wp_ret ?_
  exact res_all (vs := [.int .i64 (-1)]) rfl ao ⟨res_of_tmp ao rfl, trivial⟩ aX
end Go.Proofs.Ytghmgfkdnolcdaa
