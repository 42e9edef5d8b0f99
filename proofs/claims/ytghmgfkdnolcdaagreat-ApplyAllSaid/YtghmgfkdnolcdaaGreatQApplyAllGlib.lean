/-
  PRINTED BY PROGRAM: for each function its condition (vc), and that this suffices (ok).
-/
import Derived.Test.YtghmgfkdnolcdaaGreatQApplyAllGT
namespace Go.Proofs.YtghmgfkdnolcdaaGreat
open Go.RowKit
set_option linter.unusedVariables false
set_option maxHeartbeats 1000000
set_option maxRecDepth 10000
def slices_Clone__api_Attr_api_Attr_.vc (b : Sl) (R : Value → World → Prop) (w : World) : Prop :=
((b.a.isNone = true) →
R (Sl.v Sl.nil) w) ∧
((b.a.isNone = false) →
∀ (c : World) (d : Nat), New w d c → Chg [] w c →
∀ (_ : Box c d 63 []),
RunK Tryz.prog (Builtin.append_ #[22, 22] 22 #[Sl.v (Sl.mk (some ⟨d, 0, none⟩) 0 0), Sl.v b]) c [] (fun v g => ∃ (f : Sl), v = Sl.v f ∧
R (Sl.v f) g))
theorem slices_Clone__api_Attr_api_Attr_.ok (b : Sl) {R : Value → World → Prop} {w : World} (h : slices_Clone__api_Attr_api_Attr_.vc b R w) : Calls Tryz.prog 62 #[Sl.v b] w (Ret R) := by
 refine go _ Tryz.func62 Tryz.ntmps62 h ?_
 refine gS <| gR <| gN <| ge <| tn <| gS <| gS <| gR ?_
 refine gM ?_
 refine g2 (fun i j => r_slnil i j tU22) <| ge <| tn ?_
 refine gi id id ?_ ?_
 ·refine gS <| gR <| gN <| ge <| tn <| gr <| tr ?_
  exact gz1
 ·refine gk <| tn <| gS <| gR <| gn (cs := []) (fun B => .slice (some ⟨B, 0, none⟩) 0 0) (fun _ _ => r_buildSlice0 tU22 ti_63) fun c d => ?_
  refine gM <| gT1 ?_
  refine gX 0 ?_
  refine gR2 [] r_append fun _ g => gE fun f => gQ ?_
  refine gN <| ge <| tn <| gr ?_
  exact gz1
def slices_Insert__int_int_.vc (b : Sl) (f : Int) (d : Sl) (R : Value → World → Prop) (w : World) : Prop :=
((0 : Int) ≤ f ∧ f ≤ (b.n : Int)) ∧
(((d.n : Int) = 0) →
R (Sl.v b) w) ∧
((¬ ((d.n : Int) = 0)) →
((f = (b.n : Int)) →
RunK Tryz.prog (Builtin.append_ #[78, 78] 78 #[Sl.v b, Sl.v d]) w [] (fun v aD => ∃ (o : Sl), v = Sl.v o ∧
R (Sl.v o) aD)) ∧
((¬ (f = (b.n : Int))) →
(I64 ((b.n : Int) + (d.n : Int))) ∧
(((b.c : Int) < ((b.n : Int) + (d.n : Int))) →
((0 : Int) ≤ f ∧ f ≤ (b.c : Int)) ∧
(I64 ((b.n : Int) + (d.n : Int))) ∧
(I64 (((b.n : Int) + (d.n : Int)) - f)) ∧
RunK Tryz.prog (Builtin.append_ #[78, 3] 78 #[Sl.v (Sl.cut b 1 0 f.toNat b.c), .int .i64 (((b.n : Int) + (d.n : Int)) - f)]) w [] (fun v aG => ∃ (g : Sl), v = Sl.v g ∧
((0 : Int) ≤ f ∧ f ≤ (g.n : Int)) ∧
RunK Tryz.prog (Builtin.copy_ #[78, 78] 3 #[Sl.v (Sl.cut g 1 f.toNat g.n g.c), Sl.v d]) aG [] (fun v y => ∃ (aH : Int), v = .int .i64 aH ∧
∀ (l : World), Chg [] y l →
(I64 (f + (d.n : Int))) ∧
((0 : Int) ≤ f + (d.n : Int) ∧ f + (d.n : Int) ≤ (g.n : Int)) ∧
((0 : Int) ≤ f ∧ f ≤ (b.n : Int)) ∧
∀ (p : World), Chg [] l p →
RunK Tryz.prog (Builtin.copy_ #[78, 78] 3 #[Sl.v (Sl.cut g 1 (f + (d.n : Int)).toNat g.n g.c), Sl.v (Sl.cut b 1 f.toNat b.n b.c)]) p [] (fun v aI => ∃ (aJ : Int), v = .int .i64 aJ ∧
R (Sl.v g) aI)))) ∧
((¬ ((b.c : Int) < ((b.n : Int) + (d.n : Int)))) →
(I64 ((b.n : Int) + (d.n : Int))) ∧
((0 : Int) ≤ (b.n : Int) + (d.n : Int) ∧ (b.n : Int) + (d.n : Int) ≤ (b.c : Int)) ∧
(I64 (f + (d.n : Int))) ∧
((0 : Int) ≤ f + (d.n : Int) ∧ f + (d.n : Int) ≤ ((Sl.cut b 1 0 ((b.n : Int) + (d.n : Int)).toNat b.c).n : Int)) ∧
∃ q : Bool, ((Extern.SlicesOverlaps.overlaps #[78, 78] #[4] #[Sl.v d, Sl.v (Sl.cut (Sl.cut b 1 0 ((b.n : Int) + (d.n : Int)).toNat b.c) 1 (f + (d.n : Int)).toNat (Sl.cut b 1 0 ((b.n : Int) + (d.n : Int)).toNat b.c).n (Sl.cut b 1 0 ((b.n : Int) + (d.n : Int)).toNat b.c).c)]).run Tryz.prog w = .ok (.bool q) w) ∧
((q = false) →
∀ (m : World), Chg [] w m →
(I64 (f + (d.n : Int))) ∧
((0 : Int) ≤ f + (d.n : Int) ∧ f + (d.n : Int) ≤ ((Sl.cut b 1 0 ((b.n : Int) + (d.n : Int)).toNat b.c).n : Int)) ∧
((0 : Int) ≤ f ∧ f ≤ ((Sl.cut b 1 0 ((b.n : Int) + (d.n : Int)).toNat b.c).n : Int)) ∧
∀ (r : World), Chg [] m r →
RunK Tryz.prog (Builtin.copy_ #[78, 78] 3 #[Sl.v (Sl.cut (Sl.cut b 1 0 ((b.n : Int) + (d.n : Int)).toNat b.c) 1 (f + (d.n : Int)).toNat (Sl.cut b 1 0 ((b.n : Int) + (d.n : Int)).toNat b.c).n (Sl.cut b 1 0 ((b.n : Int) + (d.n : Int)).toNat b.c).c), Sl.v (Sl.cut (Sl.cut b 1 0 ((b.n : Int) + (d.n : Int)).toNat b.c) 1 f.toNat (Sl.cut b 1 0 ((b.n : Int) + (d.n : Int)).toNat b.c).n (Sl.cut b 1 0 ((b.n : Int) + (d.n : Int)).toNat b.c).c)]) r [] (fun v aK => ∃ (aL : Int), v = .int .i64 aL ∧
((0 : Int) ≤ f ∧ f ≤ ((Sl.cut b 1 0 ((b.n : Int) + (d.n : Int)).toNat b.c).n : Int)) ∧
RunK Tryz.prog (Builtin.copy_ #[78, 78] 3 #[Sl.v (Sl.cut (Sl.cut b 1 0 ((b.n : Int) + (d.n : Int)).toNat b.c) 1 f.toNat (Sl.cut b 1 0 ((b.n : Int) + (d.n : Int)).toNat b.c).n (Sl.cut b 1 0 ((b.n : Int) + (d.n : Int)).toNat b.c).c), Sl.v d]) aK [] (fun v aM => ∃ (aN : Int), v = .int .i64 aN ∧
R (Sl.v (Sl.cut b 1 0 ((b.n : Int) + (d.n : Int)).toNat b.c)) aM))) ∧
((q = true) →
((0 : Int) ≤ (b.n : Int) ∧ (b.n : Int) ≤ ((Sl.cut b 1 0 ((b.n : Int) + (d.n : Int)).toNat b.c).n : Int)) ∧
RunK Tryz.prog (Builtin.copy_ #[78, 78] 3 #[Sl.v (Sl.cut (Sl.cut b 1 0 ((b.n : Int) + (d.n : Int)).toNat b.c) 1 (b.n : Int).toNat (Sl.cut b 1 0 ((b.n : Int) + (d.n : Int)).toNat b.c).n (Sl.cut b 1 0 ((b.n : Int) + (d.n : Int)).toNat b.c).c), Sl.v d]) w [] (fun v aO => ∃ (aP : Int), v = .int .i64 aP ∧
((0 : Int) ≤ f ∧ f ≤ ((Sl.cut b 1 0 ((b.n : Int) + (d.n : Int)).toNat b.c).n : Int)) ∧
CallK Tryz.prog 94 #[Sl.v (Sl.cut (Sl.cut b 1 0 ((b.n : Int) + (d.n : Int)).toNat b.c) 1 f.toNat (Sl.cut b 1 0 ((b.n : Int) + (d.n : Int)).toNat b.c).n (Sl.cut b 1 0 ((b.n : Int) + (d.n : Int)).toNat b.c).c), .int .i64 (d.n : Int)] aO [] (fun v aQ => v = .tuple #[] ∧
R (Sl.v (Sl.cut b 1 0 ((b.n : Int) + (d.n : Int)).toNat b.c)) aQ))))))
theorem slices_Insert__int_int_.ok (b : Sl) (f : Int) (d : Sl) {R : Value → World → Prop} {w : World} (aR : slices_Insert__int_int_.vc b f d R w) : Calls Tryz.prog 67 #[Sl.v b, .int .i64 f, Sl.v d] w (Ret R) := by
 refine enter [Sl.v b, .int .i64 f, Sl.v d] Tryz.func67 rfl Tryz.ntmps67 rfl ?_
 intro a0 b2
 unfold slices_Insert__int_int_.vc at aR
 refine wp_seq (wp_region_lit ?_)
 refine sqv b2 rfl (r_assign rfl) fun _ b3 => sq_end ?_
 have aS := b3.kp [(0, Sl.v b), (1, .int .i64 f), (2, Sl.v d)] rfl
 refine then_normal (wp_seq (wp_region_lit ?_))
 refine sqv aS rfl (r_move (aS.get rfl)) fun _ aU => sqv aU rfl (r_move (aU.get rfl)) fun _ z => ?_
 obtain ⟨b4, aV⟩ := aR
 refine sqv z rfl (r_sliceL (z.get rfl) (z.get rfl) tU78 ti_3 b4) fun _ b5 => sq_end ?_
 have aX := b5.kp [(0, Sl.v b), (1, .int .i64 f), (2, Sl.v d)] rfl
 refine then_normal (wp_seq (wp_region_lit ?_))
 refine sqv aX rfl (r_move (aX.get rfl)) fun _ aY => sqv aY rfl (r_len (aY.get rfl) tU78) fun _ aZ => sqv aZ rfl (r_assign (aZ.get rfl)) fun _ b6 => sq_end ?_
 have hA15 := b6.kp [(0, Sl.v b), (1, .int .i64 f), (2, Sl.v d), (7, .int .i64 (d.n : Int))] rfl
 refine then_normal (wp_seq (wp_seq (wp_region_lit ?_)))
 refine sqv hA15 rfl (r_move (hA15.get rfl)) fun _ a1 => sqv a1 rfl (r_eql (a1.get rfl) rfl) fun _ b7 => sq_end ?_
 have s := b7.kp [(0, Sl.v b), (1, .int .i64 f), (2, Sl.v d), (7, .int .i64 (d.n : Int)), (16, .bool (decide ((d.n : Int) = 0)))] rfl
 refine then_normal ?_
 refine wp_cond_split (s.get rfl) (fun hc => ?_) (fun hc => ?_)
 ·have b8 := aV.1 (of_decide_eq_true hc)
  clear hc
  refine wp_seq (wp_region_lit ?_)
  refine sqv s rfl (r_move (s.get rfl)) fun _ a2 => sqv a2 rfl (r_assign (a2.get rfl)) fun _ b9 => sq_end ?_
  have a3 := b9.kp [(6, Sl.v b)] rfl
  refine then_normal ?_
  refine wp_ret ?_
  refine then_ret ?_
  exact res_all (vs := [Sl.v b]) rfl a3 ⟨res_of_tmp a3 rfl, trivial⟩ b8
 ·have a4 := aV.2 (of_decide_eq_false hc)
  clear hc
  refine wp_skip ?_
  refine then_normal (wp_seq (wp_region_lit ?_))
  refine sqv s rfl (r_move (s.get rfl)) fun _ a5 => sqv a5 rfl (r_len (a5.get rfl) tU78) fun _ a6 => sqv a6 rfl (r_assign (a6.get rfl)) fun _ ca => sq_end ?_
  have a7 := ca.kp [(0, Sl.v b), (1, .int .i64 f), (2, Sl.v d), (7, .int .i64 (d.n : Int)), (8, .int .i64 (b.n : Int))] rfl
  refine then_normal (wp_seq (wp_seq (wp_region_lit ?_)))
  refine sqv a7 rfl (r_move (a7.get rfl)) fun _ a8 => sqv a8 rfl (r_move (a8.get rfl)) fun _ aa => sqv aa rfl (r_eql (aa.get rfl) (aa.get rfl)) fun _ cb => sq_end ?_
  have u := cb.kp [(0, Sl.v b), (1, .int .i64 f), (2, Sl.v d), (7, .int .i64 (d.n : Int)), (8, .int .i64 (b.n : Int)), (22, .bool (decide (f = (b.n : Int))))] rfl
  refine then_normal ?_
  refine wp_cond_split (u.get rfl) (fun hc => ?_) (fun hc => ?_)
  ·have cc := a4.1 (of_decide_eq_true hc)
   clear hc
   refine wp_seq (wp_region_lit ?_)
   refine sqv u rfl (r_move (u.get rfl)) fun _ a9 => sqv a9 rfl (r_move (a9.get rfl)) fun _ ab => ?_
   refine sq (opk_run ab rfl (fun _ _ hr => r_append (ab.get rfl) (ab.get rfl) hr) cc fun dU dV aD ba _ dX dY cd => ?_)
   obtain ⟨o, rfl, cf⟩ := cd
   refine sqv ba rfl (r_assign (ba.get rfl)) fun _ cg => sq_end ?_
   have bb := cg.kp [(6, Sl.v o)] rfl
   refine then_normal ?_
   refine wp_ret ?_
   refine then_ret ?_
   exact res_all (vs := [Sl.v o]) rfl bb ⟨res_of_tmp bb rfl, trivial⟩ cf
  ·have ch := a4.2 (of_decide_eq_false hc)
   clear hc
   refine wp_skip ?_
   refine then_normal (wp_seq (wp_seq (wp_region_lit ?_)))
   refine sqv u rfl (r_move (u.get rfl)) fun _ bd => sqv bd rfl (r_move (bd.get rfl)) fun _ ad => ?_
   obtain ⟨ci, bf⟩ := ch
   refine sqv ad rfl (r_addI (ad.get rfl) (ad.get rfl) ci) fun _ bg => sqv bg rfl (r_move (bg.get rfl)) fun _ bi => sqv bi rfl (r_cap (bi.get rfl) tU78) fun _ af => sqv af rfl (r_gtr (af.get rfl) (af.get rfl)) fun _ cj => sq_end ?_
   have x := cj.kp [(0, Sl.v b), (1, .int .i64 f), (2, Sl.v d), (7, .int .i64 (d.n : Int)), (8, .int .i64 (b.n : Int)), (31, .bool (decide ((b.c : Int) < ((b.n : Int) + (d.n : Int)))))] rfl
   refine then_normal ?_
   refine wp_cond_split (x.get rfl) (fun hc => ?_) (fun hc => ?_)
   ·have ck := bf.1 (of_decide_eq_true hc)
    clear hc
    refine wp_seq (wp_region_lit ?_)
    refine sqv x rfl (r_move (x.get rfl)) fun _ bj => sqv bj rfl (r_move (bj.get rfl)) fun _ ah => ?_
    obtain ⟨cl, cm⟩ := ck
    refine sqv ah rfl (r_sliceH (ah.get rfl) (ah.get rfl) tU78 ti_3 cl) fun _ bk => sqv bk rfl (r_move (bk.get rfl)) fun _ bl => sqv bl rfl (r_move (bl.get rfl)) fun _ ai => ?_
    obtain ⟨cn, co⟩ := cm
    refine sqv ai rfl (r_addI (ai.get rfl) (ai.get rfl) cn) fun _ bo => sqv bo rfl (r_move (bo.get rfl)) fun _ aj => ?_
    obtain ⟨cp, cq⟩ := co
    refine sqv aj rfl (r_subI (aj.get rfl) (aj.get rfl) cp) fun _ ak => ?_
    refine sq (opk_run ak rfl (fun _ _ hr => r_append (ak.get rfl) (ak.get rfl) hr) cq fun dZ d0 aG bp _ d1 d2 cr => ?_)
    obtain ⟨g, rfl, cs⟩ := cr
    refine sqv bp rfl (r_assign (bp.get rfl)) fun _ ct => sq_end ?_
    have bq := ct.kp [(0, Sl.v b), (1, .int .i64 f), (2, Sl.v d), (7, .int .i64 (d.n : Int)), (9, Sl.v g)] rfl
    refine then_normal (wp_seq (wp_region_lit ?_))
    refine sqv bq rfl (r_move (bq.get rfl)) fun _ bs => sqv bs rfl (r_move (bs.get rfl)) fun _ al => ?_
    obtain ⟨cu, cv⟩ := cs
    refine sqv al rfl (r_sliceL (al.get rfl) (al.get rfl) tU78 ti_3 cu) fun _ bt => sqv bt rfl (r_move (bt.get rfl)) fun _ am => ?_
    refine sq (opk_run am rfl (fun _ _ hr => r_copy (am.get rfl) (am.get rfl) hr) cv fun d3 d4 y cx _ d5 d6 cy => ?_)
    obtain ⟨aH, rfl, cz⟩ := cy
    refine sq_end ?_
    have k := cx.kp [(0, Sl.v b), (1, .int .i64 f), (7, .int .i64 (d.n : Int)), (9, Sl.v g)] rfl
    refine then_normal (wp_seq ?_)
    refine draw' (by kernel_rfl) fun l cA => ?_
    have cB : Chg [] y l := cA
    have cC := cz l    cB
    obtain ⟨cD, cF⟩ := cC
    obtain ⟨cG, cH⟩ := cF
    obtain ⟨cI, cJ⟩ := cH
    refine par (D := [[], [], [], [1, 2], [0, 1, 2, 3], [], [], [5, 6], [0, 1, 2, 3, 4, 5, 6, 7]]) (S := [0, 1, 2, 3, 4, 5, 6, 7]) (F := []) (V := VL [(0, fun v _ => v = Sl.v g), (1, fun v _ => v = .int .i64 f), (2, fun v _ => v = .int .i64 (d.n : Int)), (3, fun v _ => v = .int .i64 (f + (d.n : Int))), (4, fun v _ => v = Sl.v (Sl.cut g 1 (f + (d.n : Int)).toNat g.n g.c)), (5, fun v _ => v = Sl.v b), (6, fun v _ => v = .int .i64 f), (7, fun v _ => v = Sl.v (Sl.cut b 1 f.toNat b.n b.c))]) k (by kernel_rfl) ⟨fun _ _ _ _ h => h, fun _ _ _ _ h => h, fun _ _ _ _ h => h, fun _ _ _ _ h => h, fun _ _ _ _ h => h, fun _ _ _ _ h => h, fun _ _ _ _ h => h, fun _ _ _ _ h => h, trivial⟩ ⟨?_, ?_, ?_, ?_, ?_, ?_, ?_, ?_, trivial⟩ ?_
    ·intro a w hT
     have hAp := hT.ag k [(9, Sl.v g)] ⟨rfl, trivial⟩ (by kernel_rfl)
     exact ovr hAp rfl (r_move (hAp.get rfl)) fun _ => Eq.refl _
    ·intro a w hT
     have hAp := hT.ag k [(1, .int .i64 f)] ⟨rfl, trivial⟩ (by kernel_rfl)
     exact ovr hAp rfl (r_move (hAp.get rfl)) fun _ => Eq.refl _
    ·intro a w hT
     have hAp := hT.ag k [(7, .int .i64 (d.n : Int))] ⟨rfl, trivial⟩ (by kernel_rfl)
     exact ovr hAp rfl (r_move (hAp.get rfl)) fun _ => Eq.refl _
    ·intro a w hT
     have hAp := hT.ag k [] trivial (by kernel_rfl)
     have hAp := hAp.add (t := 47) (v := .int .i64 f) (hT.vals 1 rfl 47 rfl)
     have hAp := hAp.add (t := 48) (v := .int .i64 (d.n : Int)) (hT.vals 2 rfl 48 rfl)
     exact ovr hAp rfl (r_addI (hAp.get rfl) (hAp.get rfl) cD) fun _ => Eq.refl _
    ·intro a w hT
     have hAp := hT.ag k [] trivial (by kernel_rfl)
     have hAp := hAp.add (t := 46) (v := Sl.v g) (hT.vals 0 rfl 46 rfl)
     have hAp := hAp.add (t := 49) (v := .int .i64 (f + (d.n : Int))) (hT.vals 3 rfl 49 rfl)
     exact ovr hAp rfl (r_sliceL (hAp.get rfl) (hAp.get rfl) tU78 ti_3 cG) fun _ => Eq.refl _
    ·intro a w hT
     have hAp := hT.ag k [(0, Sl.v b)] ⟨rfl, trivial⟩ (by kernel_rfl)
     exact ovr hAp rfl (r_move (hAp.get rfl)) fun _ => Eq.refl _
    ·intro a w hT
     have hAp := hT.ag k [(1, .int .i64 f)] ⟨rfl, trivial⟩ (by kernel_rfl)
     exact ovr hAp rfl (r_move (hAp.get rfl)) fun _ => Eq.refl _
    ·intro a w hT
     have hAp := hT.ag k [] trivial (by kernel_rfl)
     have hAp := hAp.add (t := 51) (v := Sl.v b) (hT.vals 5 rfl 51 rfl)
     have hAp := hAp.add (t := 52) (v := .int .i64 f) (hT.vals 6 rfl 52 rfl)
     exact ovr hAp rfl (r_sliceL (hAp.get rfl) (hAp.get rfl) tU78 ti_3 cI) fun _ => Eq.refl _
    ·intro bu p cK cL bv
     have cM := cL [(9, Sl.v g)] ⟨rfl, trivial⟩ (by kernel_rfl)
     have cN : bu.tmps.getD 50 undef = Sl.v (Sl.cut g 1 (f + (d.n : Int)).toNat g.n g.c) := bv 4 rfl 50 rfl
     have cO := cM.add cN
     have cP : bu.tmps.getD 53 undef = Sl.v (Sl.cut b 1 f.toNat b.n b.c) := bv 7 rfl 53 rfl
     have an := cO.add cP
     have cQ : Chg [] l p := cK
     have cR := cJ p    cQ
     refine one (D := [[], [], [], [1, 2], [0, 1, 2, 3], [], [], [5, 6], [0, 1, 2, 3, 4, 5, 6, 7]]) (i := 8) rfl (by kernel_rfl) (opk_run an rfl (fun _ _ hr => r_copy (an.get rfl) (an.get rfl) hr) cR fun d7 d8 aI cS _ d9 fa cT => ?_)
     obtain ⟨aJ, rfl, cU⟩ := cT
     refine PR_end (by kernel_rfl) ?_
     have bx := cS.kp [(9, Sl.v g)] rfl
     refine then_normal (wp_seq (wp_region_lit ?_))
     refine sqv bx rfl (r_move (bx.get rfl)) fun _ bz => sqv bz rfl (r_assign (bz.get rfl)) fun _ cX => sq_end ?_
     have bA := cX.kp [(6, Sl.v g)] rfl
     refine then_normal ?_
     refine wp_ret ?_
     refine then_ret ?_
     exact res_all (vs := [Sl.v g]) rfl bA ⟨res_of_tmp bA rfl, trivial⟩ cU
   ·have cY := bf.2 (of_decide_eq_false hc)
    clear hc
    refine wp_skip ?_
    refine then_normal (wp_seq (wp_region_lit ?_))
    refine sqv x rfl (r_move (x.get rfl)) fun _ bB => sqv bB rfl (r_move (bB.get rfl)) fun _ bC => sqv bC rfl (r_move (bC.get rfl)) fun _ ao => ?_
    obtain ⟨cZ, c0⟩ := cY
    refine sqv ao rfl (r_addI (ao.get rfl) (ao.get rfl) cZ) fun _ ap => ?_
    obtain ⟨c1, c2⟩ := c0
    refine sqv ap rfl (r_sliceH (ap.get rfl) (ap.get rfl) tU78 ti_3 c1) fun _ bD => sqv bD rfl (r_assign (bD.get rfl)) fun _ c3 => sq_end ?_
    have bF := c3.kp [(0, Sl.v (Sl.cut b 1 0 ((b.n : Int) + (d.n : Int)).toNat b.c)), (1, .int .i64 f), (2, Sl.v d), (7, .int .i64 (d.n : Int)), (8, .int .i64 (b.n : Int))] rfl
    refine then_normal (wp_seq (wp_seq (wp_region_lit ?_)))
    refine sqv bF rfl (r_move (bF.get rfl)) fun _ bG => sqv bG rfl (r_move (bG.get rfl)) fun _ bH => sqv bH rfl (r_move (bH.get rfl)) fun _ bI => sqv bI rfl (r_move (bI.get rfl)) fun _ aq => ?_
    obtain ⟨c4, c5⟩ := c2
    refine sqv aq rfl (r_addI (aq.get rfl) (aq.get rfl) c4) fun _ ar => ?_
    obtain ⟨c6, c7⟩ := c5
    refine sqv ar rfl (r_sliceL (ar.get rfl) (ar.get rfl) tU78 ti_3 c6) fun _ au => ?_
    obtain ⟨q, c8, bJ⟩ := c7
    refine sqv au rfl (r_extern Tryz.func93 (by kernel_rfl) (by kernel_rfl) (by kernel_rfl) (by kernel_rfl) (map_arr (ml_cons (au.get rfl) (ml_cons (au.get rfl) ml_nil))) rfl c8) fun _ bK => sqv bK rfl (r_not (bK.get rfl)) fun _ c9 => sq_end ?_
    have j := c9.kp [(0, Sl.v (Sl.cut b 1 0 ((b.n : Int) + (d.n : Int)).toNat b.c)), (1, .int .i64 f), (2, Sl.v d), (7, .int .i64 (d.n : Int)), (8, .int .i64 (b.n : Int)), (68, .bool (!q))] rfl
    refine then_normal ?_
    refine wp_cond_split (j.get rfl) (fun hc => ?_) (fun hc => ?_)
    ·have da := bJ.1 (b_not_t hc)
     clear hc
     refine wp_seq ?_
     refine draw' (by kernel_rfl) fun m db => ?_
     have dc : Chg [] w m := db
     have dd := da m    dc
     obtain ⟨df, dg⟩ := dd
     obtain ⟨dh, di⟩ := dg
     obtain ⟨dj, dk⟩ := di
     refine par (D := [[], [], [], [1, 2], [0, 1, 2, 3], [], [], [5, 6], [0, 1, 2, 3, 4, 5, 6, 7]]) (S := [0, 1, 2, 3, 4, 5, 6, 7]) (F := []) (V := VL [(0, fun v _ => v = Sl.v (Sl.cut b 1 0 ((b.n : Int) + (d.n : Int)).toNat b.c)), (1, fun v _ => v = .int .i64 f), (2, fun v _ => v = .int .i64 (d.n : Int)), (3, fun v _ => v = .int .i64 (f + (d.n : Int))), (4, fun v _ => v = Sl.v (Sl.cut (Sl.cut b 1 0 ((b.n : Int) + (d.n : Int)).toNat b.c) 1 (f + (d.n : Int)).toNat (Sl.cut b 1 0 ((b.n : Int) + (d.n : Int)).toNat b.c).n (Sl.cut b 1 0 ((b.n : Int) + (d.n : Int)).toNat b.c).c)), (5, fun v _ => v = Sl.v (Sl.cut b 1 0 ((b.n : Int) + (d.n : Int)).toNat b.c)), (6, fun v _ => v = .int .i64 f), (7, fun v _ => v = Sl.v (Sl.cut (Sl.cut b 1 0 ((b.n : Int) + (d.n : Int)).toNat b.c) 1 f.toNat (Sl.cut b 1 0 ((b.n : Int) + (d.n : Int)).toNat b.c).n (Sl.cut b 1 0 ((b.n : Int) + (d.n : Int)).toNat b.c).c))]) j (by kernel_rfl) ⟨fun _ _ _ _ h => h, fun _ _ _ _ h => h, fun _ _ _ _ h => h, fun _ _ _ _ h => h, fun _ _ _ _ h => h, fun _ _ _ _ h => h, fun _ _ _ _ h => h, fun _ _ _ _ h => h, trivial⟩ ⟨?_, ?_, ?_, ?_, ?_, ?_, ?_, ?_, trivial⟩ ?_
     ·intro a w hT
      have hAp := hT.ag j [(0, Sl.v (Sl.cut b 1 0 ((b.n : Int) + (d.n : Int)).toNat b.c))] ⟨rfl, trivial⟩ (by kernel_rfl)
      exact ovr hAp rfl (r_move (hAp.get rfl)) fun _ => Eq.refl _
     ·intro a w hT
      have hAp := hT.ag j [(1, .int .i64 f)] ⟨rfl, trivial⟩ (by kernel_rfl)
      exact ovr hAp rfl (r_move (hAp.get rfl)) fun _ => Eq.refl _
     ·intro a w hT
      have hAp := hT.ag j [(7, .int .i64 (d.n : Int))] ⟨rfl, trivial⟩ (by kernel_rfl)
      exact ovr hAp rfl (r_move (hAp.get rfl)) fun _ => Eq.refl _
     ·intro a w hT
      have hAp := hT.ag j [] trivial (by kernel_rfl)
      have hAp := hAp.add (t := 70) (v := .int .i64 f) (hT.vals 1 rfl 70 rfl)
      have hAp := hAp.add (t := 71) (v := .int .i64 (d.n : Int)) (hT.vals 2 rfl 71 rfl)
      exact ovr hAp rfl (r_addI (hAp.get rfl) (hAp.get rfl) df) fun _ => Eq.refl _
     ·intro a w hT
      have hAp := hT.ag j [] trivial (by kernel_rfl)
      have hAp := hAp.add (t := 69) (v := Sl.v (Sl.cut b 1 0 ((b.n : Int) + (d.n : Int)).toNat b.c)) (hT.vals 0 rfl 69 rfl)
      have hAp := hAp.add (t := 72) (v := .int .i64 (f + (d.n : Int))) (hT.vals 3 rfl 72 rfl)
      exact ovr hAp rfl (r_sliceL (hAp.get rfl) (hAp.get rfl) tU78 ti_3 dh) fun _ => Eq.refl _
     ·intro a w hT
      have hAp := hT.ag j [(0, Sl.v (Sl.cut b 1 0 ((b.n : Int) + (d.n : Int)).toNat b.c))] ⟨rfl, trivial⟩ (by kernel_rfl)
      exact ovr hAp rfl (r_move (hAp.get rfl)) fun _ => Eq.refl _
     ·intro a w hT
      have hAp := hT.ag j [(1, .int .i64 f)] ⟨rfl, trivial⟩ (by kernel_rfl)
      exact ovr hAp rfl (r_move (hAp.get rfl)) fun _ => Eq.refl _
     ·intro a w hT
      have hAp := hT.ag j [] trivial (by kernel_rfl)
      have hAp := hAp.add (t := 74) (v := Sl.v (Sl.cut b 1 0 ((b.n : Int) + (d.n : Int)).toNat b.c)) (hT.vals 5 rfl 74 rfl)
      have hAp := hAp.add (t := 75) (v := .int .i64 f) (hT.vals 6 rfl 75 rfl)
      exact ovr hAp rfl (r_sliceL (hAp.get rfl) (hAp.get rfl) tU78 ti_3 dj) fun _ => Eq.refl _
     ·intro bL r dl dm bM
      have dn := dm [(0, Sl.v (Sl.cut b 1 0 ((b.n : Int) + (d.n : Int)).toNat b.c)), (1, .int .i64 f), (2, Sl.v d)] ⟨rfl, rfl, rfl, trivial⟩ (by kernel_rfl)
      have dp : bL.tmps.getD 73 undef = Sl.v (Sl.cut (Sl.cut b 1 0 ((b.n : Int) + (d.n : Int)).toNat b.c) 1 (f + (d.n : Int)).toNat (Sl.cut b 1 0 ((b.n : Int) + (d.n : Int)).toNat b.c).n (Sl.cut b 1 0 ((b.n : Int) + (d.n : Int)).toNat b.c).c) := bM 4 rfl 73 rfl
      have dq := dn.add dp
      have dr : bL.tmps.getD 76 undef = Sl.v (Sl.cut (Sl.cut b 1 0 ((b.n : Int) + (d.n : Int)).toNat b.c) 1 f.toNat (Sl.cut b 1 0 ((b.n : Int) + (d.n : Int)).toNat b.c).n (Sl.cut b 1 0 ((b.n : Int) + (d.n : Int)).toNat b.c).c) := bM 7 rfl 76 rfl
      have av := dq.add dr
      have ds : Chg [] m r := dl
      have dt := dk r    ds
      refine one (D := [[], [], [], [1, 2], [0, 1, 2, 3], [], [], [5, 6], [0, 1, 2, 3, 4, 5, 6, 7]]) (i := 8) rfl (by kernel_rfl) (opk_run av rfl (fun _ _ hr => r_copy (av.get rfl) (av.get rfl) hr) dt fun fb fc aK du _ fd ff dv => ?_)
      obtain ⟨aL, rfl, dx⟩ := dv
      refine PR_end (by kernel_rfl) ?_
      have bN := du.kp [(0, Sl.v (Sl.cut b 1 0 ((b.n : Int) + (d.n : Int)).toNat b.c)), (1, .int .i64 f), (2, Sl.v d)] rfl
      refine then_normal (wp_seq (wp_region_lit ?_))
      refine sqv bN rfl (r_move (bN.get rfl)) fun _ bO => sqv bO rfl (r_move (bO.get rfl)) fun _ ax => ?_
      obtain ⟨dy, dz⟩ := dx
      refine sqv ax rfl (r_sliceL (ax.get rfl) (ax.get rfl) tU78 ti_3 dy) fun _ bP => sqv bP rfl (r_move (bP.get rfl)) fun _ ay => ?_
      refine sq (opk_run ay rfl (fun _ _ hr => r_copy (ay.get rfl) (ay.get rfl) hr) dz fun fg fh aM dA _ fi fj dB => ?_)
      obtain ⟨aN, rfl, dC⟩ := dB
      refine sq_end ?_
      have bQ := dA.kp [(0, Sl.v (Sl.cut b 1 0 ((b.n : Int) + (d.n : Int)).toNat b.c))] rfl
      refine then_normal (wp_seq (wp_region_lit ?_))
      refine sqv bQ rfl (r_move (bQ.get rfl)) fun _ bR => sqv bR rfl (r_assign (bR.get rfl)) fun _ dD => sq_end ?_
      have bS := dD.kp [(6, Sl.v (Sl.cut b 1 0 ((b.n : Int) + (d.n : Int)).toNat b.c))] rfl
      refine then_normal ?_
      refine wp_ret ?_
      refine then_ret ?_
      exact res_all (vs := [Sl.v (Sl.cut b 1 0 ((b.n : Int) + (d.n : Int)).toNat b.c)]) rfl bS ⟨res_of_tmp bS rfl, trivial⟩ dC
    ·have dG := bJ.2 (b_not_f hc)
     clear hc
     refine wp_skip ?_
     refine then_normal (wp_seq (wp_region_lit ?_))
     refine sqv j rfl (r_move (j.get rfl)) fun _ bT => sqv bT rfl (r_move (bT.get rfl)) fun _ az => ?_
     obtain ⟨dH, dI⟩ := dG
     refine sqv az rfl (r_sliceL (az.get rfl) (az.get rfl) tU78 ti_3 dH) fun _ bU => sqv bU rfl (r_move (bU.get rfl)) fun _ aA => ?_
     refine sq (opk_run aA rfl (fun _ _ hr => r_copy (aA.get rfl) (aA.get rfl) hr) dI fun fk fl aO dJ _ fm fn dK => ?_)
     obtain ⟨aP, rfl, dL⟩ := dK
     refine sq_end ?_
     have bV := dJ.kp [(0, Sl.v (Sl.cut b 1 0 ((b.n : Int) + (d.n : Int)).toNat b.c)), (1, .int .i64 f), (7, .int .i64 (d.n : Int))] rfl
     refine then_normal (wp_seq (wp_region_lit ?_))
     refine sqv bV rfl (r_move (bV.get rfl)) fun _ bX => sqv bX rfl (r_move (bX.get rfl)) fun _ aB => ?_
     obtain ⟨dM, dN⟩ := dL
     refine sqv aB rfl (r_sliceL (aB.get rfl) (aB.get rfl) tU78 ti_3 dM) fun _ bY => sqv bY rfl (r_move (bY.get rfl)) fun _ aC => ?_
     refine sq (opk_call aC rfl (r_call (args := #[Sl.v (Sl.cut (Sl.cut b 1 0 ((b.n : Int) + (d.n : Int)).toNat b.c) 1 f.toNat (Sl.cut b 1 0 ((b.n : Int) + (d.n : Int)).toNat b.c).n (Sl.cut b 1 0 ((b.n : Int) + (d.n : Int)).toNat b.c).c), .int .i64 (d.n : Int)]) Tryz.func94 (by decide) rfl (map_arr (ml_cons (aC.get rfl) (ml_cons (aC.get rfl) ml_nil))) rfl) dN fun fo fp aQ dO _ fq fr dP => ?_)
     obtain ⟨rfl, dQ⟩ := dP
     refine sq_end ?_
     have bZ := dO.kp [(0, Sl.v (Sl.cut b 1 0 ((b.n : Int) + (d.n : Int)).toNat b.c))] rfl
     refine then_normal (wp_seq (wp_region_lit ?_))
     refine sqv bZ rfl (r_move (bZ.get rfl)) fun _ b0 => sqv b0 rfl (r_assign (b0.get rfl)) fun _ dR => sq_end ?_
     have b1 := dR.kp [(6, Sl.v (Sl.cut b 1 0 ((b.n : Int) + (d.n : Int)).toNat b.c))] rfl
     refine then_normal ?_
     refine wp_ret ?_
     exact res_all (vs := [Sl.v (Sl.cut b 1 0 ((b.n : Int) + (d.n : Int)).toNat b.c)]) rfl b1 ⟨res_of_tmp b1 rfl, trivial⟩ dQ
def slices_Insert__api_Attr_api_Attr_.vc (b : Sl) (f : Int) (d : Sl) (R : Value → World → Prop) (w : World) : Prop :=
((0 : Int) ≤ f ∧ f ≤ (b.n : Int)) ∧
(((d.n : Int) = 0) →
R (Sl.v b) w) ∧
((¬ ((d.n : Int) = 0)) →
((f = (b.n : Int)) →
RunK Tryz.prog (Builtin.append_ #[22, 22] 22 #[Sl.v b, Sl.v d]) w [] (fun v aD => ∃ (o : Sl), v = Sl.v o ∧
R (Sl.v o) aD)) ∧
((¬ (f = (b.n : Int))) →
(I64 ((b.n : Int) + (d.n : Int))) ∧
(((b.c : Int) < ((b.n : Int) + (d.n : Int))) →
((0 : Int) ≤ f ∧ f ≤ (b.c : Int)) ∧
(I64 ((b.n : Int) + (d.n : Int))) ∧
(I64 (((b.n : Int) + (d.n : Int)) - f)) ∧
RunK Tryz.prog (Builtin.append_ #[22, 3] 22 #[Sl.v (Sl.cut b 2 0 f.toNat b.c), .int .i64 (((b.n : Int) + (d.n : Int)) - f)]) w [] (fun v aG => ∃ (g : Sl), v = Sl.v g ∧
((0 : Int) ≤ f ∧ f ≤ (g.n : Int)) ∧
RunK Tryz.prog (Builtin.copy_ #[22, 22] 3 #[Sl.v (Sl.cut g 2 f.toNat g.n g.c), Sl.v d]) aG [] (fun v y => ∃ (aH : Int), v = .int .i64 aH ∧
∀ (l : World), Chg [] y l →
(I64 (f + (d.n : Int))) ∧
((0 : Int) ≤ f + (d.n : Int) ∧ f + (d.n : Int) ≤ (g.n : Int)) ∧
((0 : Int) ≤ f ∧ f ≤ (b.n : Int)) ∧
∀ (p : World), Chg [] l p →
RunK Tryz.prog (Builtin.copy_ #[22, 22] 3 #[Sl.v (Sl.cut g 2 (f + (d.n : Int)).toNat g.n g.c), Sl.v (Sl.cut b 2 f.toNat b.n b.c)]) p [] (fun v aI => ∃ (aJ : Int), v = .int .i64 aJ ∧
R (Sl.v g) aI)))) ∧
((¬ ((b.c : Int) < ((b.n : Int) + (d.n : Int)))) →
(I64 ((b.n : Int) + (d.n : Int))) ∧
((0 : Int) ≤ (b.n : Int) + (d.n : Int) ∧ (b.n : Int) + (d.n : Int) ≤ (b.c : Int)) ∧
(I64 (f + (d.n : Int))) ∧
((0 : Int) ≤ f + (d.n : Int) ∧ f + (d.n : Int) ≤ ((Sl.cut b 2 0 ((b.n : Int) + (d.n : Int)).toNat b.c).n : Int)) ∧
∃ q : Bool, ((Extern.SlicesOverlaps.overlaps #[22, 22] #[4] #[Sl.v d, Sl.v (Sl.cut (Sl.cut b 2 0 ((b.n : Int) + (d.n : Int)).toNat b.c) 2 (f + (d.n : Int)).toNat (Sl.cut b 2 0 ((b.n : Int) + (d.n : Int)).toNat b.c).n (Sl.cut b 2 0 ((b.n : Int) + (d.n : Int)).toNat b.c).c)]).run Tryz.prog w = .ok (.bool q) w) ∧
((q = false) →
∀ (m : World), Chg [] w m →
(I64 (f + (d.n : Int))) ∧
((0 : Int) ≤ f + (d.n : Int) ∧ f + (d.n : Int) ≤ ((Sl.cut b 2 0 ((b.n : Int) + (d.n : Int)).toNat b.c).n : Int)) ∧
((0 : Int) ≤ f ∧ f ≤ ((Sl.cut b 2 0 ((b.n : Int) + (d.n : Int)).toNat b.c).n : Int)) ∧
∀ (r : World), Chg [] m r →
RunK Tryz.prog (Builtin.copy_ #[22, 22] 3 #[Sl.v (Sl.cut (Sl.cut b 2 0 ((b.n : Int) + (d.n : Int)).toNat b.c) 2 (f + (d.n : Int)).toNat (Sl.cut b 2 0 ((b.n : Int) + (d.n : Int)).toNat b.c).n (Sl.cut b 2 0 ((b.n : Int) + (d.n : Int)).toNat b.c).c), Sl.v (Sl.cut (Sl.cut b 2 0 ((b.n : Int) + (d.n : Int)).toNat b.c) 2 f.toNat (Sl.cut b 2 0 ((b.n : Int) + (d.n : Int)).toNat b.c).n (Sl.cut b 2 0 ((b.n : Int) + (d.n : Int)).toNat b.c).c)]) r [] (fun v aK => ∃ (aL : Int), v = .int .i64 aL ∧
((0 : Int) ≤ f ∧ f ≤ ((Sl.cut b 2 0 ((b.n : Int) + (d.n : Int)).toNat b.c).n : Int)) ∧
RunK Tryz.prog (Builtin.copy_ #[22, 22] 3 #[Sl.v (Sl.cut (Sl.cut b 2 0 ((b.n : Int) + (d.n : Int)).toNat b.c) 2 f.toNat (Sl.cut b 2 0 ((b.n : Int) + (d.n : Int)).toNat b.c).n (Sl.cut b 2 0 ((b.n : Int) + (d.n : Int)).toNat b.c).c), Sl.v d]) aK [] (fun v aM => ∃ (aN : Int), v = .int .i64 aN ∧
R (Sl.v (Sl.cut b 2 0 ((b.n : Int) + (d.n : Int)).toNat b.c)) aM))) ∧
((q = true) →
((0 : Int) ≤ (b.n : Int) ∧ (b.n : Int) ≤ ((Sl.cut b 2 0 ((b.n : Int) + (d.n : Int)).toNat b.c).n : Int)) ∧
RunK Tryz.prog (Builtin.copy_ #[22, 22] 3 #[Sl.v (Sl.cut (Sl.cut b 2 0 ((b.n : Int) + (d.n : Int)).toNat b.c) 2 (b.n : Int).toNat (Sl.cut b 2 0 ((b.n : Int) + (d.n : Int)).toNat b.c).n (Sl.cut b 2 0 ((b.n : Int) + (d.n : Int)).toNat b.c).c), Sl.v d]) w [] (fun v aO => ∃ (aP : Int), v = .int .i64 aP ∧
((0 : Int) ≤ f ∧ f ≤ ((Sl.cut b 2 0 ((b.n : Int) + (d.n : Int)).toNat b.c).n : Int)) ∧
CallK Tryz.prog 101 #[Sl.v (Sl.cut (Sl.cut b 2 0 ((b.n : Int) + (d.n : Int)).toNat b.c) 2 f.toNat (Sl.cut b 2 0 ((b.n : Int) + (d.n : Int)).toNat b.c).n (Sl.cut b 2 0 ((b.n : Int) + (d.n : Int)).toNat b.c).c), .int .i64 (d.n : Int)] aO [] (fun v aQ => v = .tuple #[] ∧
R (Sl.v (Sl.cut b 2 0 ((b.n : Int) + (d.n : Int)).toNat b.c)) aQ))))))
theorem slices_Insert__api_Attr_api_Attr_.ok (b : Sl) (f : Int) (d : Sl) {R : Value → World → Prop} {w : World} (aR : slices_Insert__api_Attr_api_Attr_.vc b f d R w) : Calls Tryz.prog 73 #[Sl.v b, .int .i64 f, Sl.v d] w (Ret R) := by
 refine enter [Sl.v b, .int .i64 f, Sl.v d] Tryz.func73 rfl Tryz.ntmps73 rfl ?_
 intro a0 b2
 unfold slices_Insert__api_Attr_api_Attr_.vc at aR
 refine wp_seq (wp_region_lit ?_)
 refine sqv b2 rfl (r_assign rfl) fun _ b3 => sq_end ?_
 have aS := b3.kp [(0, Sl.v b), (1, .int .i64 f), (2, Sl.v d)] rfl
 refine then_normal (wp_seq (wp_region_lit ?_))
 refine sqv aS rfl (r_move (aS.get rfl)) fun _ aU => sqv aU rfl (r_move (aU.get rfl)) fun _ z => ?_
 obtain ⟨b4, aV⟩ := aR
 refine sqv z rfl (r_sliceL (z.get rfl) (z.get rfl) tU22 ti_63 b4) fun _ b5 => sq_end ?_
 have aX := b5.kp [(0, Sl.v b), (1, .int .i64 f), (2, Sl.v d)] rfl
 refine then_normal (wp_seq (wp_region_lit ?_))
 refine sqv aX rfl (r_move (aX.get rfl)) fun _ aY => sqv aY rfl (r_len (aY.get rfl) tU22) fun _ aZ => sqv aZ rfl (r_assign (aZ.get rfl)) fun _ b6 => sq_end ?_
 have hA15 := b6.kp [(0, Sl.v b), (1, .int .i64 f), (2, Sl.v d), (7, .int .i64 (d.n : Int))] rfl
 refine then_normal (wp_seq (wp_seq (wp_region_lit ?_)))
 refine sqv hA15 rfl (r_move (hA15.get rfl)) fun _ a1 => sqv a1 rfl (r_eql (a1.get rfl) rfl) fun _ b7 => sq_end ?_
 have s := b7.kp [(0, Sl.v b), (1, .int .i64 f), (2, Sl.v d), (7, .int .i64 (d.n : Int)), (16, .bool (decide ((d.n : Int) = 0)))] rfl
 refine then_normal ?_
 refine wp_cond_split (s.get rfl) (fun hc => ?_) (fun hc => ?_)
 ·have b8 := aV.1 (of_decide_eq_true hc)
  clear hc
  refine wp_seq (wp_region_lit ?_)
  refine sqv s rfl (r_move (s.get rfl)) fun _ a2 => sqv a2 rfl (r_assign (a2.get rfl)) fun _ b9 => sq_end ?_
  have a3 := b9.kp [(6, Sl.v b)] rfl
  refine then_normal ?_
  refine wp_ret ?_
  refine then_ret ?_
  exact res_all (vs := [Sl.v b]) rfl a3 ⟨res_of_tmp a3 rfl, trivial⟩ b8
 ·have a4 := aV.2 (of_decide_eq_false hc)
  clear hc
  refine wp_skip ?_
  refine then_normal (wp_seq (wp_region_lit ?_))
  refine sqv s rfl (r_move (s.get rfl)) fun _ a5 => sqv a5 rfl (r_len (a5.get rfl) tU22) fun _ a6 => sqv a6 rfl (r_assign (a6.get rfl)) fun _ ca => sq_end ?_
  have a7 := ca.kp [(0, Sl.v b), (1, .int .i64 f), (2, Sl.v d), (7, .int .i64 (d.n : Int)), (8, .int .i64 (b.n : Int))] rfl
  refine then_normal (wp_seq (wp_seq (wp_region_lit ?_)))
  refine sqv a7 rfl (r_move (a7.get rfl)) fun _ a8 => sqv a8 rfl (r_move (a8.get rfl)) fun _ aa => sqv aa rfl (r_eql (aa.get rfl) (aa.get rfl)) fun _ cb => sq_end ?_
  have u := cb.kp [(0, Sl.v b), (1, .int .i64 f), (2, Sl.v d), (7, .int .i64 (d.n : Int)), (8, .int .i64 (b.n : Int)), (22, .bool (decide (f = (b.n : Int))))] rfl
  refine then_normal ?_
  refine wp_cond_split (u.get rfl) (fun hc => ?_) (fun hc => ?_)
  ·have cc := a4.1 (of_decide_eq_true hc)
   clear hc
   refine wp_seq (wp_region_lit ?_)
   refine sqv u rfl (r_move (u.get rfl)) fun _ a9 => sqv a9 rfl (r_move (a9.get rfl)) fun _ ab => ?_
   refine sq (opk_run ab rfl (fun _ _ hr => r_append (ab.get rfl) (ab.get rfl) hr) cc fun dU dV aD ba _ dX dY cd => ?_)
   obtain ⟨o, rfl, cf⟩ := cd
   refine sqv ba rfl (r_assign (ba.get rfl)) fun _ cg => sq_end ?_
   have bb := cg.kp [(6, Sl.v o)] rfl
   refine then_normal ?_
   refine wp_ret ?_
   refine then_ret ?_
   exact res_all (vs := [Sl.v o]) rfl bb ⟨res_of_tmp bb rfl, trivial⟩ cf
  ·have ch := a4.2 (of_decide_eq_false hc)
   clear hc
   refine wp_skip ?_
   refine then_normal (wp_seq (wp_seq (wp_region_lit ?_)))
   refine sqv u rfl (r_move (u.get rfl)) fun _ bd => sqv bd rfl (r_move (bd.get rfl)) fun _ ad => ?_
   obtain ⟨ci, bf⟩ := ch
   refine sqv ad rfl (r_addI (ad.get rfl) (ad.get rfl) ci) fun _ bg => sqv bg rfl (r_move (bg.get rfl)) fun _ bi => sqv bi rfl (r_cap (bi.get rfl) tU22) fun _ af => sqv af rfl (r_gtr (af.get rfl) (af.get rfl)) fun _ cj => sq_end ?_
   have x := cj.kp [(0, Sl.v b), (1, .int .i64 f), (2, Sl.v d), (7, .int .i64 (d.n : Int)), (8, .int .i64 (b.n : Int)), (31, .bool (decide ((b.c : Int) < ((b.n : Int) + (d.n : Int)))))] rfl
   refine then_normal ?_
   refine wp_cond_split (x.get rfl) (fun hc => ?_) (fun hc => ?_)
   ·have ck := bf.1 (of_decide_eq_true hc)
    clear hc
    refine wp_seq (wp_region_lit ?_)
    refine sqv x rfl (r_move (x.get rfl)) fun _ bj => sqv bj rfl (r_move (bj.get rfl)) fun _ ah => ?_
    obtain ⟨cl, cm⟩ := ck
    refine sqv ah rfl (r_sliceH (ah.get rfl) (ah.get rfl) tU22 ti_63 cl) fun _ bk => sqv bk rfl (r_move (bk.get rfl)) fun _ bl => sqv bl rfl (r_move (bl.get rfl)) fun _ ai => ?_
    obtain ⟨cn, co⟩ := cm
    refine sqv ai rfl (r_addI (ai.get rfl) (ai.get rfl) cn) fun _ bo => sqv bo rfl (r_move (bo.get rfl)) fun _ aj => ?_
    obtain ⟨cp, cq⟩ := co
    refine sqv aj rfl (r_subI (aj.get rfl) (aj.get rfl) cp) fun _ ak => ?_
    refine sq (opk_run ak rfl (fun _ _ hr => r_append (ak.get rfl) (ak.get rfl) hr) cq fun dZ d0 aG bp _ d1 d2 cr => ?_)
    obtain ⟨g, rfl, cs⟩ := cr
    refine sqv bp rfl (r_assign (bp.get rfl)) fun _ ct => sq_end ?_
    have bq := ct.kp [(0, Sl.v b), (1, .int .i64 f), (2, Sl.v d), (7, .int .i64 (d.n : Int)), (9, Sl.v g)] rfl
    refine then_normal (wp_seq (wp_region_lit ?_))
    refine sqv bq rfl (r_move (bq.get rfl)) fun _ bs => sqv bs rfl (r_move (bs.get rfl)) fun _ al => ?_
    obtain ⟨cu, cv⟩ := cs
    refine sqv al rfl (r_sliceL (al.get rfl) (al.get rfl) tU22 ti_63 cu) fun _ bt => sqv bt rfl (r_move (bt.get rfl)) fun _ am => ?_
    refine sq (opk_run am rfl (fun _ _ hr => r_copy (am.get rfl) (am.get rfl) hr) cv fun d3 d4 y cx _ d5 d6 cy => ?_)
    obtain ⟨aH, rfl, cz⟩ := cy
    refine sq_end ?_
    have k := cx.kp [(0, Sl.v b), (1, .int .i64 f), (7, .int .i64 (d.n : Int)), (9, Sl.v g)] rfl
    refine then_normal (wp_seq ?_)
    refine draw' (by kernel_rfl) fun l cA => ?_
    have cB : Chg [] y l := cA
    have cC := cz l    cB
    obtain ⟨cD, cF⟩ := cC
    obtain ⟨cG, cH⟩ := cF
    obtain ⟨cI, cJ⟩ := cH
    refine par (D := [[], [], [], [1, 2], [0, 1, 2, 3], [], [], [5, 6], [0, 1, 2, 3, 4, 5, 6, 7]]) (S := [0, 1, 2, 3, 4, 5, 6, 7]) (F := []) (V := VL [(0, fun v _ => v = Sl.v g), (1, fun v _ => v = .int .i64 f), (2, fun v _ => v = .int .i64 (d.n : Int)), (3, fun v _ => v = .int .i64 (f + (d.n : Int))), (4, fun v _ => v = Sl.v (Sl.cut g 2 (f + (d.n : Int)).toNat g.n g.c)), (5, fun v _ => v = Sl.v b), (6, fun v _ => v = .int .i64 f), (7, fun v _ => v = Sl.v (Sl.cut b 2 f.toNat b.n b.c))]) k (by kernel_rfl) ⟨fun _ _ _ _ h => h, fun _ _ _ _ h => h, fun _ _ _ _ h => h, fun _ _ _ _ h => h, fun _ _ _ _ h => h, fun _ _ _ _ h => h, fun _ _ _ _ h => h, fun _ _ _ _ h => h, trivial⟩ ⟨?_, ?_, ?_, ?_, ?_, ?_, ?_, ?_, trivial⟩ ?_
    ·intro a w hT
     have hAp := hT.ag k [(9, Sl.v g)] ⟨rfl, trivial⟩ (by kernel_rfl)
     exact ovr hAp rfl (r_move (hAp.get rfl)) fun _ => Eq.refl _
    ·intro a w hT
     have hAp := hT.ag k [(1, .int .i64 f)] ⟨rfl, trivial⟩ (by kernel_rfl)
     exact ovr hAp rfl (r_move (hAp.get rfl)) fun _ => Eq.refl _
    ·intro a w hT
     have hAp := hT.ag k [(7, .int .i64 (d.n : Int))] ⟨rfl, trivial⟩ (by kernel_rfl)
     exact ovr hAp rfl (r_move (hAp.get rfl)) fun _ => Eq.refl _
    ·intro a w hT
     have hAp := hT.ag k [] trivial (by kernel_rfl)
     have hAp := hAp.add (t := 47) (v := .int .i64 f) (hT.vals 1 rfl 47 rfl)
     have hAp := hAp.add (t := 48) (v := .int .i64 (d.n : Int)) (hT.vals 2 rfl 48 rfl)
     exact ovr hAp rfl (r_addI (hAp.get rfl) (hAp.get rfl) cD) fun _ => Eq.refl _
    ·intro a w hT
     have hAp := hT.ag k [] trivial (by kernel_rfl)
     have hAp := hAp.add (t := 46) (v := Sl.v g) (hT.vals 0 rfl 46 rfl)
     have hAp := hAp.add (t := 49) (v := .int .i64 (f + (d.n : Int))) (hT.vals 3 rfl 49 rfl)
     exact ovr hAp rfl (r_sliceL (hAp.get rfl) (hAp.get rfl) tU22 ti_63 cG) fun _ => Eq.refl _
    ·intro a w hT
     have hAp := hT.ag k [(0, Sl.v b)] ⟨rfl, trivial⟩ (by kernel_rfl)
     exact ovr hAp rfl (r_move (hAp.get rfl)) fun _ => Eq.refl _
    ·intro a w hT
     have hAp := hT.ag k [(1, .int .i64 f)] ⟨rfl, trivial⟩ (by kernel_rfl)
     exact ovr hAp rfl (r_move (hAp.get rfl)) fun _ => Eq.refl _
    ·intro a w hT
     have hAp := hT.ag k [] trivial (by kernel_rfl)
     have hAp := hAp.add (t := 51) (v := Sl.v b) (hT.vals 5 rfl 51 rfl)
     have hAp := hAp.add (t := 52) (v := .int .i64 f) (hT.vals 6 rfl 52 rfl)
     exact ovr hAp rfl (r_sliceL (hAp.get rfl) (hAp.get rfl) tU22 ti_63 cI) fun _ => Eq.refl _
    ·intro bu p cK cL bv
     have cM := cL [(9, Sl.v g)] ⟨rfl, trivial⟩ (by kernel_rfl)
     have cN : bu.tmps.getD 50 undef = Sl.v (Sl.cut g 2 (f + (d.n : Int)).toNat g.n g.c) := bv 4 rfl 50 rfl
     have cO := cM.add cN
     have cP : bu.tmps.getD 53 undef = Sl.v (Sl.cut b 2 f.toNat b.n b.c) := bv 7 rfl 53 rfl
     have an := cO.add cP
     have cQ : Chg [] l p := cK
     have cR := cJ p    cQ
     refine one (D := [[], [], [], [1, 2], [0, 1, 2, 3], [], [], [5, 6], [0, 1, 2, 3, 4, 5, 6, 7]]) (i := 8) rfl (by kernel_rfl) (opk_run an rfl (fun _ _ hr => r_copy (an.get rfl) (an.get rfl) hr) cR fun d7 d8 aI cS _ d9 fa cT => ?_)
     obtain ⟨aJ, rfl, cU⟩ := cT
     refine PR_end (by kernel_rfl) ?_
     have bx := cS.kp [(9, Sl.v g)] rfl
     refine then_normal (wp_seq (wp_region_lit ?_))
     refine sqv bx rfl (r_move (bx.get rfl)) fun _ bz => sqv bz rfl (r_assign (bz.get rfl)) fun _ cX => sq_end ?_
     have bA := cX.kp [(6, Sl.v g)] rfl
     refine then_normal ?_
     refine wp_ret ?_
     refine then_ret ?_
     exact res_all (vs := [Sl.v g]) rfl bA ⟨res_of_tmp bA rfl, trivial⟩ cU
   ·have cY := bf.2 (of_decide_eq_false hc)
    clear hc
    refine wp_skip ?_
    refine then_normal (wp_seq (wp_region_lit ?_))
    refine sqv x rfl (r_move (x.get rfl)) fun _ bB => sqv bB rfl (r_move (bB.get rfl)) fun _ bC => sqv bC rfl (r_move (bC.get rfl)) fun _ ao => ?_
    obtain ⟨cZ, c0⟩ := cY
    refine sqv ao rfl (r_addI (ao.get rfl) (ao.get rfl) cZ) fun _ ap => ?_
    obtain ⟨c1, c2⟩ := c0
    refine sqv ap rfl (r_sliceH (ap.get rfl) (ap.get rfl) tU22 ti_63 c1) fun _ bD => sqv bD rfl (r_assign (bD.get rfl)) fun _ c3 => sq_end ?_
    have bF := c3.kp [(0, Sl.v (Sl.cut b 2 0 ((b.n : Int) + (d.n : Int)).toNat b.c)), (1, .int .i64 f), (2, Sl.v d), (7, .int .i64 (d.n : Int)), (8, .int .i64 (b.n : Int))] rfl
    refine then_normal (wp_seq (wp_seq (wp_region_lit ?_)))
    refine sqv bF rfl (r_move (bF.get rfl)) fun _ bG => sqv bG rfl (r_move (bG.get rfl)) fun _ bH => sqv bH rfl (r_move (bH.get rfl)) fun _ bI => sqv bI rfl (r_move (bI.get rfl)) fun _ aq => ?_
    obtain ⟨c4, c5⟩ := c2
    refine sqv aq rfl (r_addI (aq.get rfl) (aq.get rfl) c4) fun _ ar => ?_
    obtain ⟨c6, c7⟩ := c5
    refine sqv ar rfl (r_sliceL (ar.get rfl) (ar.get rfl) tU22 ti_63 c6) fun _ au => ?_
    obtain ⟨q, c8, bJ⟩ := c7
    refine sqv au rfl (r_extern Tryz.func100 (by kernel_rfl) (by kernel_rfl) (by kernel_rfl) (by kernel_rfl) (map_arr (ml_cons (au.get rfl) (ml_cons (au.get rfl) ml_nil))) rfl c8) fun _ bK => sqv bK rfl (r_not (bK.get rfl)) fun _ c9 => sq_end ?_
    have j := c9.kp [(0, Sl.v (Sl.cut b 2 0 ((b.n : Int) + (d.n : Int)).toNat b.c)), (1, .int .i64 f), (2, Sl.v d), (7, .int .i64 (d.n : Int)), (8, .int .i64 (b.n : Int)), (68, .bool (!q))] rfl
    refine then_normal ?_
    refine wp_cond_split (j.get rfl) (fun hc => ?_) (fun hc => ?_)
    ·have da := bJ.1 (b_not_t hc)
     clear hc
     refine wp_seq ?_
     refine draw' (by kernel_rfl) fun m db => ?_
     have dc : Chg [] w m := db
     have dd := da m    dc
     obtain ⟨df, dg⟩ := dd
     obtain ⟨dh, di⟩ := dg
     obtain ⟨dj, dk⟩ := di
     refine par (D := [[], [], [], [1, 2], [0, 1, 2, 3], [], [], [5, 6], [0, 1, 2, 3, 4, 5, 6, 7]]) (S := [0, 1, 2, 3, 4, 5, 6, 7]) (F := []) (V := VL [(0, fun v _ => v = Sl.v (Sl.cut b 2 0 ((b.n : Int) + (d.n : Int)).toNat b.c)), (1, fun v _ => v = .int .i64 f), (2, fun v _ => v = .int .i64 (d.n : Int)), (3, fun v _ => v = .int .i64 (f + (d.n : Int))), (4, fun v _ => v = Sl.v (Sl.cut (Sl.cut b 2 0 ((b.n : Int) + (d.n : Int)).toNat b.c) 2 (f + (d.n : Int)).toNat (Sl.cut b 2 0 ((b.n : Int) + (d.n : Int)).toNat b.c).n (Sl.cut b 2 0 ((b.n : Int) + (d.n : Int)).toNat b.c).c)), (5, fun v _ => v = Sl.v (Sl.cut b 2 0 ((b.n : Int) + (d.n : Int)).toNat b.c)), (6, fun v _ => v = .int .i64 f), (7, fun v _ => v = Sl.v (Sl.cut (Sl.cut b 2 0 ((b.n : Int) + (d.n : Int)).toNat b.c) 2 f.toNat (Sl.cut b 2 0 ((b.n : Int) + (d.n : Int)).toNat b.c).n (Sl.cut b 2 0 ((b.n : Int) + (d.n : Int)).toNat b.c).c))]) j (by kernel_rfl) ⟨fun _ _ _ _ h => h, fun _ _ _ _ h => h, fun _ _ _ _ h => h, fun _ _ _ _ h => h, fun _ _ _ _ h => h, fun _ _ _ _ h => h, fun _ _ _ _ h => h, fun _ _ _ _ h => h, trivial⟩ ⟨?_, ?_, ?_, ?_, ?_, ?_, ?_, ?_, trivial⟩ ?_
     ·intro a w hT
      have hAp := hT.ag j [(0, Sl.v (Sl.cut b 2 0 ((b.n : Int) + (d.n : Int)).toNat b.c))] ⟨rfl, trivial⟩ (by kernel_rfl)
      exact ovr hAp rfl (r_move (hAp.get rfl)) fun _ => Eq.refl _
     ·intro a w hT
      have hAp := hT.ag j [(1, .int .i64 f)] ⟨rfl, trivial⟩ (by kernel_rfl)
      exact ovr hAp rfl (r_move (hAp.get rfl)) fun _ => Eq.refl _
     ·intro a w hT
      have hAp := hT.ag j [(7, .int .i64 (d.n : Int))] ⟨rfl, trivial⟩ (by kernel_rfl)
      exact ovr hAp rfl (r_move (hAp.get rfl)) fun _ => Eq.refl _
     ·intro a w hT
      have hAp := hT.ag j [] trivial (by kernel_rfl)
      have hAp := hAp.add (t := 70) (v := .int .i64 f) (hT.vals 1 rfl 70 rfl)
      have hAp := hAp.add (t := 71) (v := .int .i64 (d.n : Int)) (hT.vals 2 rfl 71 rfl)
      exact ovr hAp rfl (r_addI (hAp.get rfl) (hAp.get rfl) df) fun _ => Eq.refl _
     ·intro a w hT
      have hAp := hT.ag j [] trivial (by kernel_rfl)
      have hAp := hAp.add (t := 69) (v := Sl.v (Sl.cut b 2 0 ((b.n : Int) + (d.n : Int)).toNat b.c)) (hT.vals 0 rfl 69 rfl)
      have hAp := hAp.add (t := 72) (v := .int .i64 (f + (d.n : Int))) (hT.vals 3 rfl 72 rfl)
      exact ovr hAp rfl (r_sliceL (hAp.get rfl) (hAp.get rfl) tU22 ti_63 dh) fun _ => Eq.refl _
     ·intro a w hT
      have hAp := hT.ag j [(0, Sl.v (Sl.cut b 2 0 ((b.n : Int) + (d.n : Int)).toNat b.c))] ⟨rfl, trivial⟩ (by kernel_rfl)
      exact ovr hAp rfl (r_move (hAp.get rfl)) fun _ => Eq.refl _
     ·intro a w hT
      have hAp := hT.ag j [(1, .int .i64 f)] ⟨rfl, trivial⟩ (by kernel_rfl)
      exact ovr hAp rfl (r_move (hAp.get rfl)) fun _ => Eq.refl _
     ·intro a w hT
      have hAp := hT.ag j [] trivial (by kernel_rfl)
      have hAp := hAp.add (t := 74) (v := Sl.v (Sl.cut b 2 0 ((b.n : Int) + (d.n : Int)).toNat b.c)) (hT.vals 5 rfl 74 rfl)
      have hAp := hAp.add (t := 75) (v := .int .i64 f) (hT.vals 6 rfl 75 rfl)
      exact ovr hAp rfl (r_sliceL (hAp.get rfl) (hAp.get rfl) tU22 ti_63 dj) fun _ => Eq.refl _
     ·intro bL r dl dm bM
      have dn := dm [(0, Sl.v (Sl.cut b 2 0 ((b.n : Int) + (d.n : Int)).toNat b.c)), (1, .int .i64 f), (2, Sl.v d)] ⟨rfl, rfl, rfl, trivial⟩ (by kernel_rfl)
      have dp : bL.tmps.getD 73 undef = Sl.v (Sl.cut (Sl.cut b 2 0 ((b.n : Int) + (d.n : Int)).toNat b.c) 2 (f + (d.n : Int)).toNat (Sl.cut b 2 0 ((b.n : Int) + (d.n : Int)).toNat b.c).n (Sl.cut b 2 0 ((b.n : Int) + (d.n : Int)).toNat b.c).c) := bM 4 rfl 73 rfl
      have dq := dn.add dp
      have dr : bL.tmps.getD 76 undef = Sl.v (Sl.cut (Sl.cut b 2 0 ((b.n : Int) + (d.n : Int)).toNat b.c) 2 f.toNat (Sl.cut b 2 0 ((b.n : Int) + (d.n : Int)).toNat b.c).n (Sl.cut b 2 0 ((b.n : Int) + (d.n : Int)).toNat b.c).c) := bM 7 rfl 76 rfl
      have av := dq.add dr
      have ds : Chg [] m r := dl
      have dt := dk r    ds
      refine one (D := [[], [], [], [1, 2], [0, 1, 2, 3], [], [], [5, 6], [0, 1, 2, 3, 4, 5, 6, 7]]) (i := 8) rfl (by kernel_rfl) (opk_run av rfl (fun _ _ hr => r_copy (av.get rfl) (av.get rfl) hr) dt fun fb fc aK du _ fd ff dv => ?_)
      obtain ⟨aL, rfl, dx⟩ := dv
      refine PR_end (by kernel_rfl) ?_
      have bN := du.kp [(0, Sl.v (Sl.cut b 2 0 ((b.n : Int) + (d.n : Int)).toNat b.c)), (1, .int .i64 f), (2, Sl.v d)] rfl
      refine then_normal (wp_seq (wp_region_lit ?_))
      refine sqv bN rfl (r_move (bN.get rfl)) fun _ bO => sqv bO rfl (r_move (bO.get rfl)) fun _ ax => ?_
      obtain ⟨dy, dz⟩ := dx
      refine sqv ax rfl (r_sliceL (ax.get rfl) (ax.get rfl) tU22 ti_63 dy) fun _ bP => sqv bP rfl (r_move (bP.get rfl)) fun _ ay => ?_
      refine sq (opk_run ay rfl (fun _ _ hr => r_copy (ay.get rfl) (ay.get rfl) hr) dz fun fg fh aM dA _ fi fj dB => ?_)
      obtain ⟨aN, rfl, dC⟩ := dB
      refine sq_end ?_
      have bQ := dA.kp [(0, Sl.v (Sl.cut b 2 0 ((b.n : Int) + (d.n : Int)).toNat b.c))] rfl
      refine then_normal (wp_seq (wp_region_lit ?_))
      refine sqv bQ rfl (r_move (bQ.get rfl)) fun _ bR => sqv bR rfl (r_assign (bR.get rfl)) fun _ dD => sq_end ?_
      have bS := dD.kp [(6, Sl.v (Sl.cut b 2 0 ((b.n : Int) + (d.n : Int)).toNat b.c))] rfl
      refine then_normal ?_
      refine wp_ret ?_
      refine then_ret ?_
      exact res_all (vs := [Sl.v (Sl.cut b 2 0 ((b.n : Int) + (d.n : Int)).toNat b.c)]) rfl bS ⟨res_of_tmp bS rfl, trivial⟩ dC
    ·have dG := bJ.2 (b_not_f hc)
     clear hc
     refine wp_skip ?_
     refine then_normal (wp_seq (wp_region_lit ?_))
     refine sqv j rfl (r_move (j.get rfl)) fun _ bT => sqv bT rfl (r_move (bT.get rfl)) fun _ az => ?_
     obtain ⟨dH, dI⟩ := dG
     refine sqv az rfl (r_sliceL (az.get rfl) (az.get rfl) tU22 ti_63 dH) fun _ bU => sqv bU rfl (r_move (bU.get rfl)) fun _ aA => ?_
     refine sq (opk_run aA rfl (fun _ _ hr => r_copy (aA.get rfl) (aA.get rfl) hr) dI fun fk fl aO dJ _ fm fn dK => ?_)
     obtain ⟨aP, rfl, dL⟩ := dK
     refine sq_end ?_
     have bV := dJ.kp [(0, Sl.v (Sl.cut b 2 0 ((b.n : Int) + (d.n : Int)).toNat b.c)), (1, .int .i64 f), (7, .int .i64 (d.n : Int))] rfl
     refine then_normal (wp_seq (wp_region_lit ?_))
     refine sqv bV rfl (r_move (bV.get rfl)) fun _ bX => sqv bX rfl (r_move (bX.get rfl)) fun _ aB => ?_
     obtain ⟨dM, dN⟩ := dL
     refine sqv aB rfl (r_sliceL (aB.get rfl) (aB.get rfl) tU22 ti_63 dM) fun _ bY => sqv bY rfl (r_move (bY.get rfl)) fun _ aC => ?_
     refine sq (opk_call aC rfl (r_call (args := #[Sl.v (Sl.cut (Sl.cut b 2 0 ((b.n : Int) + (d.n : Int)).toNat b.c) 2 f.toNat (Sl.cut b 2 0 ((b.n : Int) + (d.n : Int)).toNat b.c).n (Sl.cut b 2 0 ((b.n : Int) + (d.n : Int)).toNat b.c).c), .int .i64 (d.n : Int)]) Tryz.func101 (by decide) rfl (map_arr (ml_cons (aC.get rfl) (ml_cons (aC.get rfl) ml_nil))) rfl) dN fun fo fp aQ dO _ fq fr dP => ?_)
     obtain ⟨rfl, dQ⟩ := dP
     refine sq_end ?_
     have bZ := dO.kp [(0, Sl.v (Sl.cut b 2 0 ((b.n : Int) + (d.n : Int)).toNat b.c))] rfl
     refine then_normal (wp_seq (wp_region_lit ?_))
     refine sqv bZ rfl (r_move (bZ.get rfl)) fun _ b0 => sqv b0 rfl (r_assign (b0.get rfl)) fun _ dR => sq_end ?_
     have b1 := dR.kp [(6, Sl.v (Sl.cut b 2 0 ((b.n : Int) + (d.n : Int)).toNat b.c))] rfl
     refine then_normal ?_
     refine wp_ret ?_
     exact res_all (vs := [Sl.v (Sl.cut b 2 0 ((b.n : Int) + (d.n : Int)).toNat b.c)]) rfl b1 ⟨res_of_tmp b1 rfl, trivial⟩ dQ
def slices_DeleteFunc__int_int_.vc (f : Sl) (l : Value) (R : Value → World → Prop) (w : World) : Prop :=
CallK Tryz.prog 106 #[Sl.v f, l] w [] (fun v z => ∃ (i : Int), v = .int .i64 i ∧
((i = (-1)) →
R (Sl.v f) z) ∧
((¬ (i = (-1))) →
(I64 (i + 1)) ∧
∃ (q : Int → Int → World → Prop) (r : Int → Int → World → Nat),
q i (i + 1) z ∧
(∀ (d : Int) (g : Int) (j : World), q d g j →
((g < (f.n : Int)) →
((0 : Int) ≤ g ∧ g < (f.n : Int)) ∧ ∃ aa : Addr, f.a = some aa ∧
∃ (s : Int), (j.cell? (aa.add (g.toNat * 1)) = some (.int .i64 s)) ∧
∃ (t : FuncId) (ab ad : Array Value), (l = .func (.func t) ab ad) ∧
Body Tryz.prog t ∧
CallK Tryz.prog t (ab ++ #[.int .i64 s] ++ ad) j [] (fun v m => ∃ (u : Bool), v = .bool u ∧
((u = false) →
((0 : Int) ≤ d ∧ d < (f.n : Int)) ∧ ∃ af : Addr, f.a = some af ∧
∃ (k x : Nat) (ag : TypeId) (y : List Value), (af.add (d.toNat * 1)) = ⟨k, x, none⟩ ∧ Box m k ag y ∧ x + 1 ≤ y.length ∧ (∀ b ∈ [], b ≠ k) ∧
(∀ o : World, Chg [k] m o → Box o k ag (putAt y x [.int .i64 s]) →
(I64 (d + 1)) ∧
(I64 (g + 1)) ∧
q (d + 1) (g + 1) o ∧ r (d + 1) (g + 1) o < r d g j)) ∧
((u = true) →
(I64 (g + 1)) ∧
q d (g + 1) m ∧ r d (g + 1) m < r d g j))) ∧
((¬ (g < (f.n : Int))) →
((0 : Int) ≤ d ∧ d ≤ (f.n : Int)) ∧
RunN Tryz.prog (Builtin.clear_ #[78] 0 #[Sl.v (Sl.cut f 1 d.toNat f.n f.c)]) j [] (fun ai =>
((0 : Int) ≤ d ∧ d ≤ (f.c : Int)) ∧
R (Sl.v (Sl.cut f 1 0 d.toNat f.c)) ai)))))
theorem slices_DeleteFunc__int_int_.ok (f : Sl) (l : Value) {R : Value → World → Prop} {w : World} (aj : slices_DeleteFunc__int_int_.vc f l R w) : Calls Tryz.prog 95 #[Sl.v f, l] w (Ret R) := by
 refine go _ Tryz.func95 Tryz.ntmps95 aj ?_
 refine gS <| gR <| gN <| ge <| tn <| gS <| gR ?_
 refine gM ?_
 refine gM ?_
 refine gC [] Tryz.func106 fun _ z => gE fun i => gQ ?_
 refine gN <| ge <| tn <| gS <| gS <| gR ?_
 refine gM ?_
 refine g2 r_eql <| ge <| tn ?_
 refine gi dT dF ?_ ?_
 ·refine gS <| gR <| gM ?_
  refine gN <| ge <| tn <| gr <| tr ?_
  exact gz1
 ·refine gk <| tn <| gS <| gS <| gR <| gM ?_
  refine g2s r_addI ?_
  refine gN <| ge <| tn <| gb <| gE fun _ => gE fun mu => ?_
  refine l2 mu (fun d g => [(5, .int .i64 d), (6, .int .i64 g)]) [(0, _), (1, _)] (fun _ _ => []) [] [] fun d g j _ => gS <| gS <| gR ?_
  refine gM ?_
  refine gM ?_
  refine g1 (fun p => r_len p tU78) ?_
  refine g2 r_lss <| ge <| tn ?_
  refine gi dT dF ?_ ?_
  ·refine gk <| tn <| gS <| gb <| gS <| gR <| gM ?_
   refine gM ?_
   refine gI1 tU78 ti_3 fun aa => ?_
   refine gE fun s => gL tU3 ?_
   refine gN <| ge <| tn <| gS <| gR ?_
   refine gM ?_
   refine gM <| gE fun t => gE fun ab => gE fun ad => gA fun hp => ?_
   refine gA fun hb => gCo [] hb (fun _ h => ((h.opv rfl).trans hp)) fun _ m => gE fun u => gQ ?_
   refine g1 r_not <| ge <| tn ?_
   refine gi nT nF ?_ ?_
   ·refine gS <| gR <| gM ?_
    refine gM ?_
    refine gM ?_
    refine gI1 tU78 ti_3 fun af => ?_
    refine wx [] ti_3 fun k x ag y o => ge <| tn <| gR ?_
    refine gM ?_
    refine g2s r_addI ?_
    refine gN <| ge <| bn <| tn <| gR ?_
    refine gM ?_
    refine g2s r_addI ?_
    refine gN <| ge ?_
    exact k2 []
   ·refine gk <| bn <| tn <| gR <| gM ?_
    refine g2s r_addI ?_
    refine gN <| ge ?_
    exact k2 []
  ·refine gx <| te <| te <| bh <| tn <| gS <| gR <| gM ?_
   refine gM ?_
   refine g2s (fun p ah h => r_sliceL p ah tU78 ti_3 h) ?_
   refine gN1 [] r_clear fun ai => ge <| tn <| gS <| gR ?_
   refine gM ?_
   refine gM ?_
   refine g2s (fun p ah h => r_sliceH p ah tU78 ti_3 h) ?_
   refine gN <| ge <| tn <| gr ?_
   exact gz1
def slices_BinarySearchFunc__api_Attr_api_Attr_string_.vc (c : Sl) (f : Str) (h : Value) (R : Value → World → Prop) (w : World) : Prop :=
∃ (k : Int → Int → World → Prop) (l : Int → Int → World → Nat),
k 0 (c.n : Int) w ∧
(∀ (b : Int) (d : Int) (i : World), k b d i →
((b < d) →
(I64 (b + d)) ∧
(I64 ((IntKind.u64.wrap (b + d)) / 2 ^ 1)) ∧
((0 : Int) ≤ (IntKind.u64.wrap (b + d)) / 2 ^ 1 ∧ (IntKind.u64.wrap (b + d)) / 2 ^ 1 < (c.n : Int)) ∧ ∃ af : Addr, c.a = some af ∧
∃ (r : Str) (t : Str), (Cells i (af.add (((IntKind.u64.wrap (b + d)) / 2 ^ 1).toNat * 2)) [.string (Bs r), .string (Bs t)]) ∧
∃ (u : FuncId) (ag ah : Array Value), (h = .func (.func u) ag ah) ∧
Body Tryz.prog u ∧
CallK Tryz.prog u (ag ++ #[.agg #[.string (Bs r), .string (Bs t)], .string (Bs f)] ++ ah) i [] (fun v j => ∃ (m : Int), v = .int .i64 m ∧
((m < 0) →
(I64 (((IntKind.u64.wrap (b + d)) / 2 ^ 1) + 1)) ∧
k (((IntKind.u64.wrap (b + d)) / 2 ^ 1) + 1) d j ∧ l (((IntKind.u64.wrap (b + d)) / 2 ^ 1) + 1) d j < l b d i) ∧
((¬ (m < 0)) →
k b ((IntKind.u64.wrap (b + d)) / 2 ^ 1) j ∧ l b ((IntKind.u64.wrap (b + d)) / 2 ^ 1) j < l b d i))) ∧
((¬ (b < d)) →
∃ ai : Addr, (((b < (c.n : Int))) → ((0 : Int) ≤ b ∧ b < (c.n : Int)) ∧  c.a = some ai) ∧
∃ (x : Str) (y : Str), (((b < (c.n : Int))) → Cells i (ai.add (b.toNat * 2)) [.string (Bs x), .string (Bs y)]) ∧
∃ (z : FuncId) (aj ak : Array Value), (((b < (c.n : Int))) → h = .func (.func z) aj ak) ∧
(((b < (c.n : Int))) → Body Tryz.prog z) ∧
∃ (o : Int), (((b < (c.n : Int))) → Calls Tryz.prog z (aj ++ #[.agg #[.string (Bs x), .string (Bs y)], .string (Bs f)] ++ ak) i (Ret fun v w' => Ext i w' ∧ v = .int .i64 o)) ∧
(∀ p : World, Ext i p →
R (.tuple #[.int .i64 b, .bool ((decide (b < (c.n : Int))) && (decide (o = 0)))]) p)))
theorem slices_BinarySearchFunc__api_Attr_api_Attr_string_.ok (c : Sl) (f : Str) (h : Value) {R : Value → World → Prop} {w : World} (au : slices_BinarySearchFunc__api_Attr_api_Attr_string_.vc c f h R w) : Calls Tryz.prog 97 #[Sl.v c, .string (Bs f), h] w (Ret R) := by
 refine enter [Sl.v c, .string (Bs f), h] Tryz.func97 rfl Tryz.ntmps97 rfl ?_
 intro a0 bf
 unfold slices_BinarySearchFunc__api_Attr_api_Attr_string_.vc at au
 refine wp_seq (wp_region_lit ?_)
 refine sqv bf rfl (r_assign rfl) fun _ bg => sqv bg rfl (r_assign rfl) fun _ bi => sq_end ?_
 have av := bi.kp [(0, Sl.v c), (1, .string (Bs f)), (2, h)] rfl
 refine then_normal (wp_seq (wp_region_lit ?_))
 refine sqv av rfl (r_move (av.get rfl)) fun _ ax => sqv ax rfl (r_len (ax.get rfl) tU22) fun _ ay => sqv ay rfl (r_assign (ay.get rfl)) fun _ bj => sq_end ?_
 have az := bj.kp [(0, Sl.v c), (1, .string (Bs f)), (2, h), (8, .int .i64 (c.n : Int))] rfl
 refine then_normal (wp_seq (wp_region_lit ?_))
 refine sqv az rfl (r_move (az.get rfl)) fun _ bk => sqv bk rfl (r_assign rfl) fun _ aA => sqv aA rfl (r_assign (aA.get rfl)) fun _ bl => sq_end ?_
 have bo := bl.kp [(0, Sl.v c), (1, .string (Bs f)), (2, h), (8, .int .i64 (c.n : Int)), (9, .int .i64 0), (10, .int .i64 (c.n : Int))] rfl
 refine then_normal (wp_seq (wp_block ?_))
 obtain ⟨k, l, bp, bq⟩ := au
 refine wp_loop_st (σ := Int × Int × World) (fun s a w => Ag 49 a [(0, Sl.v c), (1, .string (Bs f)), (2, h), (8, .int .i64 (c.n : Int)), (9, .int .i64 s.1), (10, .int .i64 s.2.1)] ∧ w = s.2.2 ∧ k s.1 s.2.1 s.2.2) (fun s => l s.1 s.2.1 s.2.2) (0, (c.n : Int), w) ⟨bo.kp [(0, Sl.v c), (1, .string (Bs f)), (2, h), (8, .int .i64 (c.n : Int)), (9, .int .i64 0), (10, .int .i64 (c.n : Int))] rfl, rfl, bp⟩ ?_
 rintro ⟨b, d, i⟩ ca w_ ⟨aB, hw_, bs⟩
 have hw_ : i = w_ := hw_.symm
 subst hw_
 have aC := bq b d _ bs
 refine wp_seq (wp_seq (wp_region_lit ?_))
 refine sqv aB rfl (r_move (aB.get rfl)) fun _ aD => sqv aD rfl (r_move (aD.get rfl)) fun _ al => sqv al rfl (r_lss (al.get rfl) (al.get rfl)) fun _ bt => sq_end ?_
 have aa := bt.kp [(0, Sl.v c), (1, .string (Bs f)), (2, h), (8, .int .i64 (c.n : Int)), (9, .int .i64 b), (10, .int .i64 d), (17, .bool (decide (b < d)))] rfl
 refine then_normal ?_
 refine wp_cond_split (aa.get rfl) (fun hc => ?_) (fun hc => ?_)
 ·have bu := aC.1 (of_decide_eq_true hc)
  clear hc
  refine wp_skip ?_
  refine then_normal (wp_block (wp_seq (wp_region_lit ?_)))
  refine sqv aa rfl (r_move (aa.get rfl)) fun _ aG => sqv aG rfl (r_move (aG.get rfl)) fun _ am => ?_
  obtain ⟨bv, bx⟩ := bu
  refine sqv am rfl (r_addI (am.get rfl) (am.get rfl) bv) fun _ aH => sqv aH rfl (r_conv (aH.get rfl) rfl tU121) fun _ aI => sqv aI rfl (r_shr (aI.get rfl) rfl (by decide) (by decide)) fun _ aJ => ?_
  obtain ⟨bz, bA⟩ := bx
  refine sqv aJ rfl (r_convI (aJ.get rfl) rfl tU3 bz) fun _ aK => sqv aK rfl (r_assign (aK.get rfl)) fun _ bB => sq_end ?_
  have aL := bB.kp [(0, Sl.v c), (1, .string (Bs f)), (2, h), (8, .int .i64 (c.n : Int)), (9, .int .i64 b), (10, .int .i64 d), (11, .int .i64 ((IntKind.u64.wrap (b + d)) / 2 ^ 1))] rfl
  refine then_normal (wp_seq (wp_region_lit ?_))
  refine sqv aL rfl (r_move (aL.get rfl)) fun _ aM => sqv aM rfl (r_move (aM.get rfl)) fun _ aN => sqv aN rfl (r_move (aN.get rfl)) fun _ an => ?_
  obtain ⟨bC, af, bD, bF⟩ := bA
  refine sqv an rfl (r_indexAddr (an.get rfl) (an.get rfl) tU22 ti_63 bC bD) fun _ aO => ?_
  obtain ⟨r, t, bG, bH⟩ := bF
  refine sqv aO rfl (r_loadN Tryz.underlying63 rfl ti_63 (aO.get rfl) bG) fun _ aP => sqv aP rfl (r_move (aP.get rfl)) fun _ ab => ?_
  obtain ⟨u, ag, ah, bI, bJ⟩ := bH
  obtain ⟨bK, bL⟩ := bJ
  refine sq (opk_call ab rfl (r_callO (args := #[.agg #[.string (Bs r), .string (Bs t)], .string (Bs f)]) bK (map_arr (ml_cons (ab.get rfl) (ml_cons (ab.get rfl) ml_nil))) (((ab.get rfl)).trans bI)) bL fun cb cc j aQ _ cd cf bM => ?_)
  obtain ⟨m, rfl, aR⟩ := bM
  refine sqv aQ rfl (r_lss (aQ.get rfl) rfl) fun _ bN => sq_end ?_
  have q := bN.kp [(0, Sl.v c), (1, .string (Bs f)), (2, h), (8, .int .i64 (c.n : Int)), (9, .int .i64 b), (10, .int .i64 d), (11, .int .i64 ((IntKind.u64.wrap (b + d)) / 2 ^ 1)), (31, .bool (decide (m < 0)))] rfl
  refine then_normal ?_
  refine wp_cond_split (q.get rfl) (fun hc => ?_) (fun hc => ?_)
  ·have bO := aR.1 (of_decide_eq_true hc)
   clear hc
   refine wp_region_lit ?_
   refine sqv q rfl (r_move (q.get rfl)) fun _ aS => ?_
   obtain ⟨bP, aU⟩ := bO
   refine sqv aS rfl (r_addI (aS.get rfl) rfl bP) fun _ aV => sqv aV rfl (r_assign (aV.get rfl)) fun _ bQ => sq_end ?_
   have bR := bQ.kp [(0, Sl.v c), (1, .string (Bs f)), (2, h), (8, .int .i64 (c.n : Int)), (9, .int .i64 (((IntKind.u64.wrap (b + d)) / 2 ^ 1) + 1)), (10, .int .i64 d)] rfl
   refine block_normal ?_
   have bS := bR.kp [(0, Sl.v c), (1, .string (Bs f)), (2, h), (8, .int .i64 (c.n : Int)), (9, .int .i64 (((IntKind.u64.wrap (b + d)) / 2 ^ 1) + 1)), (10, .int .i64 d)] rfl
   exact then_normal ⟨(((IntKind.u64.wrap (b + d)) / 2 ^ 1) + 1, d, j), ⟨bS, rfl, aU.1⟩, aU.2⟩
  ·have aX := aR.2 (of_decide_eq_false hc)
   clear hc
   refine wp_region_lit ?_
   refine sqv q rfl (r_move (q.get rfl)) fun _ aY => sqv aY rfl (r_assign (aY.get rfl)) fun _ bT => sq_end ?_
   have bU := bT.kp [(0, Sl.v c), (1, .string (Bs f)), (2, h), (8, .int .i64 (c.n : Int)), (9, .int .i64 b), (10, .int .i64 ((IntKind.u64.wrap (b + d)) / 2 ^ 1))] rfl
   refine block_normal ?_
   have bV := bU.kp [(0, Sl.v c), (1, .string (Bs f)), (2, h), (8, .int .i64 (c.n : Int)), (9, .int .i64 b), (10, .int .i64 ((IntKind.u64.wrap (b + d)) / 2 ^ 1))] rfl
   exact then_normal ⟨(b, (IntKind.u64.wrap (b + d)) / 2 ^ 1, j), ⟨bV, rfl, aX.1⟩, aX.2⟩
 ·have bX := aC.2 (of_decide_eq_false hc)
  clear hc
  refine wp_exit ?_
  refine then_exit ?_
  refine then_exit ?_
  refine block_hit ?_
  have aZ := aa.kp [(0, Sl.v c), (1, .string (Bs f)), (2, h), (8, .int .i64 (c.n : Int)), (9, .int .i64 b)] rfl
  refine then_normal (wp_seq (wp_region_lit ?_))
  refine sqv aZ rfl (r_move (aZ.get rfl)) fun _ hA147 => sqv hA147 rfl (r_move (hA147.get rfl)) fun _ a1 => sqv a1 rfl (r_move (a1.get rfl)) fun _ ao => sqv ao rfl (r_lss (ao.get rfl) (ao.get rfl)) fun _ a2 => sqv a2 rfl (r_move (a2.get rfl)) fun _ a3 => ?_
  refine sq (opk_gval a3 rfl rfl (g := true) (e := (decide (b < (c.n : Int)))) rfl (fun hg => r_move (a3.get rfl)) fun cg a4 _ => ?_)
  refine sq (opk_gval a4 rfl rfl (g := true) (e := (decide (b < (c.n : Int)))) rfl (fun hg => r_move (a4.get rfl)) fun ch a5 _ => ?_)
  refine sq (opk_gval a5 rfl rfl (g := true) (e := (decide (b < (c.n : Int)))) rfl (fun hg => r_move (a5.get rfl)) fun ci ap _ => ?_)
  obtain ⟨ai, a6, bY⟩ := bX
  refine sq (opk_gval ap rfl rfl (g := true) (e := (decide (b < (c.n : Int)))) rfl (fun hg => r_indexAddr (cv_get (ap.get rfl) hg) (cv_get (ap.get rfl) hg) tU22 ti_63 (a6 (of_decide_eq_true (g_t hg))).1 (a6 (of_decide_eq_true (g_t hg))).2) fun cj a7 _ => ?_)
  obtain ⟨x, y, bZ, b0⟩ := bY
  refine sq (opk_gval a7 rfl rfl (g := true) (e := (decide (b < (c.n : Int)))) rfl (fun hg => r_loadN Tryz.underlying63 rfl ti_63 (cv_get (a7.get rfl) hg) (bZ (of_decide_eq_true (g_t hg)))) fun ck a8 _ => ?_)
  refine sq (opk_gval a8 rfl rfl (g := true) (e := (decide (b < (c.n : Int)))) rfl (fun hg => r_move (a8.get rfl)) fun cl ad _ => ?_)
  obtain ⟨z, aj, ak, b1, b2⟩ := b0
  obtain ⟨b3, b4⟩ := b2
  obtain ⟨o, b5, b6⟩ := b4
  refine sq (opk_gcall ad rfl rfl (g := true) (e := (decide (b < (c.n : Int)))) rfl (fun hg => r_callO (args := #[.agg #[.string (Bs x), .string (Bs y)], .string (Bs f)]) (b3 (of_decide_eq_true (g_t hg))) (map_arr (ml_cons (cv_get (ad.get rfl) hg) (ml_cons (cv_get (ad.get rfl) hg) ml_nil))) (((cv_get (ad.get rfl) hg)).trans (b1 (of_decide_eq_true (g_t hg))))) (fun hg => b5 (of_decide_eq_true (g_t hg))) fun cm p a9 _ ba => ?_)
  have cn : Chg [] i p := ba
  have b7 := b6 p ba
  refine sq (opk_gval a9 rfl rfl (g := true) (e := (decide (b < (c.n : Int)))) rfl (fun hg => r_eql (cv_get (a9.get rfl) hg) rfl) fun co aq _ => ?_)
  refine sqv aq rfl (r_pick_and (g := (true && ((decide (b < (c.n : Int))) == true))) (aq.get rfl) (aq.get rfl) (fun he => g_mkt rfl he)) fun _ bb => sqv bb rfl (r_assign (bb.get rfl)) fun _ bd => sqv bd rfl (r_assign (bd.get rfl)) fun _ b8 => sq_end ?_
  have ar := b8.kp [(6, .int .i64 b), (7, .bool ((decide (b < (c.n : Int))) && (decide (o = 0))))] rfl
  refine then_normal ?_
  refine wp_ret ?_
  exact res_all (vs := [.int .i64 b, .bool ((decide (b < (c.n : Int))) && (decide (o = 0)))]) rfl ar ⟨res_of_tmp ar rfl, res_of_tmp ar rfl, trivial⟩ b7
def strings_Compare.vc (a : Str) (b : Str) (R : Value → World → Prop) (w : World) : Prop :=
CallK Tryz.prog 107 #[.string (Bs a), .string (Bs b)] w [] (fun v d => ∃ (c : Int), v = .int .i64 c ∧
R (.int .i64 c) d)
theorem strings_Compare.ok (a : Str) (b : Str) {R : Value → World → Prop} {w : World} (f : strings_Compare.vc a b R w) : Calls Tryz.prog 99 #[.string (Bs a), .string (Bs b)] w (Ret R) := by
 refine go _ Tryz.func99 Tryz.ntmps99 f ?_
 refine gS <| gR <| gN <| ge <| tn <| gS <| gR ?_
 refine gM ?_
 refine gM ?_
 refine gC [] Tryz.func107 fun _ d => gE fun c => gQ ?_
 refine gN <| ge <| tn <| gr ?_
 exact gz1
def slices_IndexFunc__int_int_.vc (c : Sl) (f : Value) (R : Value → World → Prop) (w : World) : Prop :=
∃ (k : Int → World → Prop) (q : Int → World → Nat),
k 0 w ∧
(∀ (b : Int) (d : World), k b d →
((b < (c.n : Int)) →
((0 : Int) ≤ b ∧ b < (c.n : Int)) ∧ ∃ l : Addr, c.a = some l ∧
∃ (m : Int), (d.cell? (l.add (b.toNat * 1)) = some (.int .i64 m)) ∧
∃ (g : FuncId) (o p : Array Value), (f = .func (.func g) o p) ∧
Body Tryz.prog g ∧
CallK Tryz.prog g (o ++ #[.int .i64 m] ++ p) d [] (fun v i => ∃ (j : Bool), v = .bool j ∧
((j = true) →
R (.int .i64 b) i) ∧
((j = false) →
(I64 (b + 1)) ∧
k (b + 1) i ∧ q (b + 1) i < q b d))) ∧
((¬ (b < (c.n : Int))) →
R (.int .i64 (-1)) d))
theorem slices_IndexFunc__int_int_.ok (c : Sl) (f : Value) {R : Value → World → Prop} {w : World} (r : slices_IndexFunc__int_int_.vc c f R w) : Calls Tryz.prog 106 #[Sl.v c, f] w (Ret R) := by
 refine go _ Tryz.func106 Tryz.ntmps106 r ?_
 refine gS <| gR <| gN <| ge <| tn <| gS <| gS <| gR ?_
 refine gM ?_
 refine g1 (fun s => r_len s tU78) ?_
 refine gM <| ge <| tn <| gb <| gE fun _ => gE fun mu => ?_
 refine l1 mu (fun b => [(8, .int .i64 b)]) [(0, _), (1, _), (7, _)] (fun _ => []) [] [] fun b d _ => gS <| gR ?_
 refine g2 r_lss <| ge <| tn <| gS ?_
 refine gi dT dF ?_ ?_
 ·refine gk <| tn <| gS <| gb <| gS <| gR <| gM ?_
  refine gN <| ge <| tn <| gS <| gR ?_
  refine gM ?_
  refine gM ?_
  refine gM ?_
  refine gI1 tU78 ti_3 fun l => ?_
  refine gE fun m => gL tU3 <| gE fun g => gE fun o => gE fun p => gA fun hp => ?_
  refine gA fun hb => gCo [] hb (fun _ h => ((h.opv rfl).trans hp)) fun _ i => gE fun j => gQ <| ge <| tn ?_
  refine gi id id ?_ ?_
  ·refine gS <| gR <| gM ?_
   refine gN <| ge <| tn <| gr <| br <| tr <| tr <| br <| tr ?_
   exact gz1
  ·refine gk <| bn <| tn <| gR <| g2s r_addI ?_
   refine gM <| ge ?_
   exact k1 []
 ·refine gx <| te <| te <| bh <| tn <| gS <| gR <| gN <| ge <| tn <| gr ?_
  exact gz1
def bytealg_CompareString.vc (a : Str) (b : Str) (R : Value → World → Prop) (w : World) : Prop :=
R (.int .i64 (Lib.compareBytes a b)) w
theorem bytealg_CompareString.ok (a : Str) (b : Str) {R : Value → World → Prop} {w : World} (c : bytealg_CompareString.vc a b R w) : Calls Tryz.prog 107 #[.string (Bs a), .string (Bs b)] w (Ret R) := by
 refine go _ Tryz.func107 Tryz.ntmps107 c ?_
 refine gS <| gR <| gN <| ge <| tn <| gS <| gR ?_
 refine gM ?_
 refine gM ?_
 refine g3 (fun d f g => r_cmpstr Tryz.func111 (by kernel_rfl) (by kernel_rfl) (by kernel_rfl) (by kernel_rfl) (map_arr (ml_cons d (ml_cons f ml_nil))) g) ?_
 refine gN <| ge <| tn <| gr ?_
 exact gz1
end Go.Proofs.YtghmgfkdnolcdaaGreat
