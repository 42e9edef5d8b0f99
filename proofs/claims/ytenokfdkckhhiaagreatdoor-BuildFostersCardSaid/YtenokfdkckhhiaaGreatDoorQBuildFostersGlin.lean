/-
  PRINTED BY PROGRAM: for each function its condition (vc), and that this suffices (ok).
-/
import Derived.Test.YtenokfdkckhhiaaGreatDoorQBuildFostersGT
namespace Go.Proofs.YtenokfdkckhhiaaGreatDoor
open Go.RowKit
set_option linter.unusedVariables false
set_option maxHeartbeats 1000000
set_option maxRecDepth 10000
def slices_Insert__build_node_build_node_.vc (b : Sl) (f : Int) (d : Sl) (R : Value → World → Prop) (w : World) : Prop :=
((0 : Int) ≤ f ∧ f ≤ (b.n : Int)) ∧
(((d.n : Int) = 0) →
R (Sl.v b) w) ∧
((¬ ((d.n : Int) = 0)) →
((f = (b.n : Int)) →
RunK Tryz.prog (Builtin.append_ #[54,54] 54 #[Sl.v b,Sl.v d]) w [] (fun v aD => ∃ (o : Sl),v = Sl.v o ∧
R (Sl.v o) aD)) ∧
((¬ (f = (b.n : Int))) →
(I64 ((b.n : Int) + (d.n : Int))) ∧
(((b.c : Int) < ((b.n : Int) + (d.n : Int))) →
((0 : Int) ≤ f ∧ f ≤ (b.c : Int)) ∧
(I64 ((b.n : Int) + (d.n : Int))) ∧
(I64 (((b.n : Int) + (d.n : Int)) - f)) ∧
RunK Tryz.prog (Builtin.append_ #[54,3] 54 #[Sl.v (Sl.cut b 1 0 f.toNat b.c),.int .i64 (((b.n : Int) + (d.n : Int)) - f)]) w [] (fun v aG => ∃ (g : Sl),v = Sl.v g ∧
((0 : Int) ≤ f ∧ f ≤ (g.n : Int)) ∧
RunK Tryz.prog (Builtin.copy_ #[54,54] 3 #[Sl.v (Sl.cut g 1 f.toNat g.n g.c),Sl.v d]) aG [] (fun v y => ∃ (aH : Int),v = .int .i64 aH ∧
∀ (l : World),Chg [] y l →
(I64 (f + (d.n : Int))) ∧
((0 : Int) ≤ f + (d.n : Int) ∧ f + (d.n : Int) ≤ (g.n : Int)) ∧
((0 : Int) ≤ f ∧ f ≤ (b.n : Int)) ∧
∀ (p : World),Chg [] l p →
RunK Tryz.prog (Builtin.copy_ #[54,54] 3 #[Sl.v (Sl.cut g 1 (f + (d.n : Int)).toNat g.n g.c),Sl.v (Sl.cut b 1 f.toNat b.n b.c)]) p [] (fun v aI => ∃ (aJ : Int),v = .int .i64 aJ ∧
R (Sl.v g) aI)))) ∧
((¬ ((b.c : Int) < ((b.n : Int) + (d.n : Int)))) →
(I64 ((b.n : Int) + (d.n : Int))) ∧
((0 : Int) ≤ (b.n : Int) + (d.n : Int) ∧ (b.n : Int) + (d.n : Int) ≤ (b.c : Int)) ∧
(I64 (f + (d.n : Int))) ∧
((0 : Int) ≤ f + (d.n : Int) ∧ f + (d.n : Int) ≤ ((Sl.cut b 1 0 ((b.n : Int) + (d.n : Int)).toNat b.c).n : Int)) ∧
∃ q : Bool,((Extern.SlicesOverlaps.overlaps #[54,54] #[4] #[Sl.v d,Sl.v (Sl.cut (Sl.cut b 1 0 ((b.n : Int) + (d.n : Int)).toNat b.c) 1 (f + (d.n : Int)).toNat (Sl.cut b 1 0 ((b.n : Int) + (d.n : Int)).toNat b.c).n (Sl.cut b 1 0 ((b.n : Int) + (d.n : Int)).toNat b.c).c)]).run Tryz.prog w = .ok (.bool q) w) ∧
((q = false) →
∀ (m : World),Chg [] w m →
(I64 (f + (d.n : Int))) ∧
((0 : Int) ≤ f + (d.n : Int) ∧ f + (d.n : Int) ≤ ((Sl.cut b 1 0 ((b.n : Int) + (d.n : Int)).toNat b.c).n : Int)) ∧
((0 : Int) ≤ f ∧ f ≤ ((Sl.cut b 1 0 ((b.n : Int) + (d.n : Int)).toNat b.c).n : Int)) ∧
∀ (r : World),Chg [] m r →
RunK Tryz.prog (Builtin.copy_ #[54,54] 3 #[Sl.v (Sl.cut (Sl.cut b 1 0 ((b.n : Int) + (d.n : Int)).toNat b.c) 1 (f + (d.n : Int)).toNat (Sl.cut b 1 0 ((b.n : Int) + (d.n : Int)).toNat b.c).n (Sl.cut b 1 0 ((b.n : Int) + (d.n : Int)).toNat b.c).c),Sl.v (Sl.cut (Sl.cut b 1 0 ((b.n : Int) + (d.n : Int)).toNat b.c) 1 f.toNat (Sl.cut b 1 0 ((b.n : Int) + (d.n : Int)).toNat b.c).n (Sl.cut b 1 0 ((b.n : Int) + (d.n : Int)).toNat b.c).c)]) r [] (fun v aK => ∃ (aL : Int),v = .int .i64 aL ∧
((0 : Int) ≤ f ∧ f ≤ ((Sl.cut b 1 0 ((b.n : Int) + (d.n : Int)).toNat b.c).n : Int)) ∧
RunK Tryz.prog (Builtin.copy_ #[54,54] 3 #[Sl.v (Sl.cut (Sl.cut b 1 0 ((b.n : Int) + (d.n : Int)).toNat b.c) 1 f.toNat (Sl.cut b 1 0 ((b.n : Int) + (d.n : Int)).toNat b.c).n (Sl.cut b 1 0 ((b.n : Int) + (d.n : Int)).toNat b.c).c),Sl.v d]) aK [] (fun v aM => ∃ (aN : Int),v = .int .i64 aN ∧
R (Sl.v (Sl.cut b 1 0 ((b.n : Int) + (d.n : Int)).toNat b.c)) aM))) ∧
((q = true) →
((0 : Int) ≤ (b.n : Int) ∧ (b.n : Int) ≤ ((Sl.cut b 1 0 ((b.n : Int) + (d.n : Int)).toNat b.c).n : Int)) ∧
RunK Tryz.prog (Builtin.copy_ #[54,54] 3 #[Sl.v (Sl.cut (Sl.cut b 1 0 ((b.n : Int) + (d.n : Int)).toNat b.c) 1 (b.n : Int).toNat (Sl.cut b 1 0 ((b.n : Int) + (d.n : Int)).toNat b.c).n (Sl.cut b 1 0 ((b.n : Int) + (d.n : Int)).toNat b.c).c),Sl.v d]) w [] (fun v aO => ∃ (aP : Int),v = .int .i64 aP ∧
((0 : Int) ≤ f ∧ f ≤ ((Sl.cut b 1 0 ((b.n : Int) + (d.n : Int)).toNat b.c).n : Int)) ∧
CallK Tryz.prog 154 #[Sl.v (Sl.cut (Sl.cut b 1 0 ((b.n : Int) + (d.n : Int)).toNat b.c) 1 f.toNat (Sl.cut b 1 0 ((b.n : Int) + (d.n : Int)).toNat b.c).n (Sl.cut b 1 0 ((b.n : Int) + (d.n : Int)).toNat b.c).c),.int .i64 (d.n : Int)] aO [] (fun v aQ => v = .tuple #[] ∧
R (Sl.v (Sl.cut b 1 0 ((b.n : Int) + (d.n : Int)).toNat b.c)) aQ))))))
theorem slices_Insert__build_node_build_node_.ok (b : Sl) (f : Int) (d : Sl) {R : Value → World → Prop} {w : World} (aR : slices_Insert__build_node_build_node_.vc b f d R w) : Calls Tryz.prog 123 #[Sl.v b,.int .i64 f,Sl.v d] w (Ret R) := by
 refine enter [Sl.v b,.int .i64 f,Sl.v d] Tryz.func123 rfl Tryz.ntmps123 rfl ?_
 intro a0 b3
 unfold slices_Insert__build_node_build_node_.vc at aR
 refine wp_seq (wp_region_lit ?_)
 refine sqv b3 rfl (r_assign rfl) fun _ b4 => sq_end ?_
 have aS := b4.kp [(0,Sl.v b),(1,.int .i64 f),(2,Sl.v d)] rfl
 refine then_normal (wp_seq (wp_region_lit ?_))
 refine sqv aS rfl (r_move (aS.get rfl)) fun _ aU => sqv aU rfl (r_move (aU.get rfl)) fun _ z => ?_
 obtain ⟨b5,aV⟩ := aR
 refine sqv z rfl (r_sliceL (z.get rfl) (z.get rfl) tU54 ti_53 b5) fun _ b6 => sq_end ?_
 have aX := b6.kp [(0,Sl.v b),(1,.int .i64 f),(2,Sl.v d)] rfl
 refine then_normal (wp_seq (wp_region_lit ?_))
 refine sqv aX rfl (r_move (aX.get rfl)) fun _ aY => sqv aY rfl (r_len (aY.get rfl) tU54) fun _ aZ => sqv aZ rfl (r_assign (aZ.get rfl)) fun _ b7 => sq_end ?_
 have hA15 := b7.kp [(0,Sl.v b),(1,.int .i64 f),(2,Sl.v d),(7,.int .i64 (d.n : Int))] rfl
 refine then_normal (wp_seq (wp_seq (wp_region_lit ?_)))
 refine sqv hA15 rfl (r_move (hA15.get rfl)) fun _ a1 => sqv a1 rfl (r_eql (a1.get rfl) rfl) fun _ b8 => sq_end ?_
 have s := b8.kp [(0,Sl.v b),(1,.int .i64 f),(2,Sl.v d),(7,.int .i64 (d.n : Int)),(16,.bool (decide ((d.n : Int) = 0)))] rfl
 refine then_normal ?_
 refine wp_cond_split (s.get rfl) (fun hc => ?_) (fun hc => ?_)
 ·have b9 := aV.1 (of_decide_eq_true hc)
  clear hc
  refine wp_seq (wp_region_lit ?_)
  refine sqv s rfl (r_move (s.get rfl)) fun _ a2 => sqv a2 rfl (r_assign (a2.get rfl)) fun _ ca => sq_end ?_
  have a3 := ca.kp [(6,Sl.v b)] rfl
  refine then_normal ?_
  refine wp_ret ?_
  refine then_ret ?_
  exact res_all (vs := [Sl.v b]) rfl a3 ⟨res_of_tmp a3 rfl,trivial⟩ b9
 ·have a4 := aV.2 (of_decide_eq_false hc)
  clear hc
  refine wp_skip ?_
  refine then_normal (wp_seq (wp_region_lit ?_))
  refine sqv s rfl (r_move (s.get rfl)) fun _ a5 => sqv a5 rfl (r_len (a5.get rfl) tU54) fun _ a6 => sqv a6 rfl (r_assign (a6.get rfl)) fun _ cb => sq_end ?_
  have a7 := cb.kp [(0,Sl.v b),(1,.int .i64 f),(2,Sl.v d),(7,.int .i64 (d.n : Int)),(8,.int .i64 (b.n : Int))] rfl
  refine then_normal (wp_seq (wp_seq (wp_region_lit ?_)))
  refine sqv a7 rfl (r_move (a7.get rfl)) fun _ a8 => sqv a8 rfl (r_move (a8.get rfl)) fun _ aa => sqv aa rfl (r_eql (aa.get rfl) (aa.get rfl)) fun _ cc => sq_end ?_
  have u := cc.kp [(0,Sl.v b),(1,.int .i64 f),(2,Sl.v d),(7,.int .i64 (d.n : Int)),(8,.int .i64 (b.n : Int)),(22,.bool (decide (f = (b.n : Int))))] rfl
  refine then_normal ?_
  refine wp_cond_split (u.get rfl) (fun hc => ?_) (fun hc => ?_)
  ·have cd := a4.1 (of_decide_eq_true hc)
   clear hc
   refine wp_seq (wp_region_lit ?_)
   refine sqv u rfl (r_move (u.get rfl)) fun _ a9 => sqv a9 rfl (r_move (a9.get rfl)) fun _ ab => ?_
   refine sq (opk_run ab rfl (fun _ _ hr => r_append (ab.get rfl) (ab.get rfl) hr) cd fun d0 d1 aD ba _ d2 d3 cf => ?_)
   obtain ⟨o,rfl,cg⟩ := cf
   refine sqv ba rfl (r_assign (ba.get rfl)) fun _ ch => sq_end ?_
   have bb := ch.kp [(6,Sl.v o)] rfl
   refine then_normal ?_
   refine wp_ret ?_
   refine then_ret ?_
   exact res_all (vs := [Sl.v o]) rfl bb ⟨res_of_tmp bb rfl,trivial⟩ cg
  ·have ci := a4.2 (of_decide_eq_false hc)
   clear hc
   refine wp_skip ?_
   refine then_normal (wp_seq (wp_seq (wp_region_lit ?_)))
   refine sqv u rfl (r_move (u.get rfl)) fun _ bd => sqv bd rfl (r_move (bd.get rfl)) fun _ ad => ?_
   obtain ⟨cj,bf⟩ := ci
   refine sqv ad rfl (r_addI (ad.get rfl) (ad.get rfl) cj) fun _ bg => sqv bg rfl (r_move (bg.get rfl)) fun _ bi => sqv bi rfl (r_cap (bi.get rfl) tU54) fun _ af => sqv af rfl (r_gtr (af.get rfl) (af.get rfl)) fun _ ck => sq_end ?_
   have x := ck.kp [(0,Sl.v b),(1,.int .i64 f),(2,Sl.v d),(7,.int .i64 (d.n : Int)),(8,.int .i64 (b.n : Int)),(31,.bool (decide ((b.c : Int) < ((b.n : Int) + (d.n : Int)))))] rfl
   refine then_normal ?_
   refine wp_cond_split (x.get rfl) (fun hc => ?_) (fun hc => ?_)
   ·have cl := bf.1 (of_decide_eq_true hc)
    clear hc
    refine wp_seq (wp_region_lit ?_)
    refine sqv x rfl (r_move (x.get rfl)) fun _ bj => sqv bj rfl (r_move (bj.get rfl)) fun _ ah => ?_
    obtain ⟨cm,cn⟩ := cl
    refine sqv ah rfl (r_sliceH (ah.get rfl) (ah.get rfl) tU54 ti_53 cm) fun _ bk => sqv bk rfl (r_move (bk.get rfl)) fun _ bl => sqv bl rfl (r_move (bl.get rfl)) fun _ ai => ?_
    obtain ⟨co,cp⟩ := cn
    refine sqv ai rfl (r_addI (ai.get rfl) (ai.get rfl) co) fun _ bo => sqv bo rfl (r_move (bo.get rfl)) fun _ aj => ?_
    obtain ⟨cq,cr⟩ := cp
    refine sqv aj rfl (r_subI (aj.get rfl) (aj.get rfl) cq) fun _ ak => ?_
    refine sq (opk_run ak rfl (fun _ _ hr => r_append (ak.get rfl) (ak.get rfl) hr) cr fun d4 d5 aG bp _ d6 d7 cs => ?_)
    obtain ⟨g,rfl,ct⟩ := cs
    refine sqv bp rfl (r_assign (bp.get rfl)) fun _ cu => sq_end ?_
    have bq := cu.kp [(0,Sl.v b),(1,.int .i64 f),(2,Sl.v d),(7,.int .i64 (d.n : Int)),(9,Sl.v g)] rfl
    refine then_normal (wp_seq (wp_region_lit ?_))
    refine sqv bq rfl (r_move (bq.get rfl)) fun _ bs => sqv bs rfl (r_move (bs.get rfl)) fun _ al => ?_
    obtain ⟨cv,cx⟩ := ct
    refine sqv al rfl (r_sliceL (al.get rfl) (al.get rfl) tU54 ti_53 cv) fun _ bt => sqv bt rfl (r_move (bt.get rfl)) fun _ am => ?_
    refine sq (opk_run am rfl (fun _ _ hr => r_copy (am.get rfl) (am.get rfl) hr) cx fun d8 d9 y cy _ fa fb cz => ?_)
    obtain ⟨aH,rfl,cA⟩ := cz
    refine sq_end ?_
    have k := cy.kp [(0,Sl.v b),(1,.int .i64 f),(7,.int .i64 (d.n : Int)),(9,Sl.v g)] rfl
    refine then_normal (wp_seq ?_)
    refine draw' (by kernel_rfl) fun l cB => ?_
    have cD : Chg [] y l := cB
    have cF := cA l    cD
    obtain ⟨cH,cI⟩ := cF
    obtain ⟨cJ,cK⟩ := cI
    obtain ⟨cL,cM⟩ := cK
    refine par (D := [[],[],[],[1,2],[0,1,2,3],[],[],[5,6],[0,1,2,3,4,5,6,7]]) (S := [0,1,2,3,4,5,6,7]) (F := []) (V := VL [(0,fun v _ => v = Sl.v g),(1,fun v _ => v = .int .i64 f),(2,fun v _ => v = .int .i64 (d.n : Int)),(3,fun v _ => v = .int .i64 (f + (d.n : Int))),(4,fun v _ => v = Sl.v (Sl.cut g 1 (f + (d.n : Int)).toNat g.n g.c)),(5,fun v _ => v = Sl.v b),(6,fun v _ => v = .int .i64 f),(7,fun v _ => v = Sl.v (Sl.cut b 1 f.toNat b.n b.c))]) k (by kernel_rfl) ⟨fun _ _ _ _ h => h,fun _ _ _ _ h => h,fun _ _ _ _ h => h,fun _ _ _ _ h => h,fun _ _ _ _ h => h,fun _ _ _ _ h => h,fun _ _ _ _ h => h,fun _ _ _ _ h => h,trivial⟩ ⟨?_,?_,?_,?_,?_,?_,?_,?_,trivial⟩ ?_
    ·intro a w hT
     have hAp := hT.ag k [(9,Sl.v g)] ⟨rfl,trivial⟩ (by kernel_rfl)
     exact ovr hAp rfl (r_move (hAp.get rfl)) fun _ => Eq.refl _
    ·intro a w hT
     have hAp := hT.ag k [(1,.int .i64 f)] ⟨rfl,trivial⟩ (by kernel_rfl)
     exact ovr hAp rfl (r_move (hAp.get rfl)) fun _ => Eq.refl _
    ·intro a w hT
     have hAp := hT.ag k [(7,.int .i64 (d.n : Int))] ⟨rfl,trivial⟩ (by kernel_rfl)
     exact ovr hAp rfl (r_move (hAp.get rfl)) fun _ => Eq.refl _
    ·intro a w hT
     have hAp := hT.ag k [] trivial (by kernel_rfl)
     have hAp := hAp.add (t := 47) (v := .int .i64 f) (hT.vals 1 rfl 47 rfl)
     have hAp := hAp.add (t := 48) (v := .int .i64 (d.n : Int)) (hT.vals 2 rfl 48 rfl)
     exact ovr hAp rfl (r_addI (hAp.get rfl) (hAp.get rfl) cH) fun _ => Eq.refl _
    ·intro a w hT
     have hAp := hT.ag k [] trivial (by kernel_rfl)
     have hAp := hAp.add (t := 46) (v := Sl.v g) (hT.vals 0 rfl 46 rfl)
     have hAp := hAp.add (t := 49) (v := .int .i64 (f + (d.n : Int))) (hT.vals 3 rfl 49 rfl)
     exact ovr hAp rfl (r_sliceL (hAp.get rfl) (hAp.get rfl) tU54 ti_53 cJ) fun _ => Eq.refl _
    ·intro a w hT
     have hAp := hT.ag k [(0,Sl.v b)] ⟨rfl,trivial⟩ (by kernel_rfl)
     exact ovr hAp rfl (r_move (hAp.get rfl)) fun _ => Eq.refl _
    ·intro a w hT
     have hAp := hT.ag k [(1,.int .i64 f)] ⟨rfl,trivial⟩ (by kernel_rfl)
     exact ovr hAp rfl (r_move (hAp.get rfl)) fun _ => Eq.refl _
    ·intro a w hT
     have hAp := hT.ag k [] trivial (by kernel_rfl)
     have hAp := hAp.add (t := 51) (v := Sl.v b) (hT.vals 5 rfl 51 rfl)
     have hAp := hAp.add (t := 52) (v := .int .i64 f) (hT.vals 6 rfl 52 rfl)
     exact ovr hAp rfl (r_sliceL (hAp.get rfl) (hAp.get rfl) tU54 ti_53 cL) fun _ => Eq.refl _
    ·intro bu p cN cO bv
     have cP := cO [(9,Sl.v g)] ⟨rfl,trivial⟩ (by kernel_rfl)
     have cQ : bu.tmps.getD 50 undef = Sl.v (Sl.cut g 1 (f + (d.n : Int)).toNat g.n g.c) := bv 4 rfl 50 rfl
     have cS := cP.add cQ
     have cT : bu.tmps.getD 53 undef = Sl.v (Sl.cut b 1 f.toNat b.n b.c) := bv 7 rfl 53 rfl
     have an := cS.add cT
     have cU : Chg [] l p := cN
     have cY := cM p    cU
     refine one (D := [[],[],[],[1,2],[0,1,2,3],[],[],[5,6],[0,1,2,3,4,5,6,7]]) (i := 8) rfl (by kernel_rfl) (opk_run an rfl (fun _ _ hr => r_copy (an.get rfl) (an.get rfl) hr) cY fun fc fd aI cZ _ ff fg c0 => ?_)
     obtain ⟨aJ,rfl,c1⟩ := c0
     refine PR_end (by kernel_rfl) ?_
     have bx := cZ.kp [(9,Sl.v g)] rfl
     refine then_normal (wp_seq (wp_region_lit ?_))
     refine sqv bx rfl (r_move (bx.get rfl)) fun _ bz => sqv bz rfl (r_assign (bz.get rfl)) fun _ c2 => sq_end ?_
     have bA := c2.kp [(6,Sl.v g)] rfl
     refine then_normal ?_
     refine wp_ret ?_
     refine then_ret ?_
     exact res_all (vs := [Sl.v g]) rfl bA ⟨res_of_tmp bA rfl,trivial⟩ c1
   ·have c3 := bf.2 (of_decide_eq_false hc)
    clear hc
    refine wp_skip ?_
    refine then_normal (wp_seq (wp_region_lit ?_))
    refine sqv x rfl (r_move (x.get rfl)) fun _ bB => sqv bB rfl (r_move (bB.get rfl)) fun _ bC => sqv bC rfl (r_move (bC.get rfl)) fun _ ao => ?_
    obtain ⟨c4,c5⟩ := c3
    refine sqv ao rfl (r_addI (ao.get rfl) (ao.get rfl) c4) fun _ ap => ?_
    obtain ⟨c6,c7⟩ := c5
    refine sqv ap rfl (r_sliceH (ap.get rfl) (ap.get rfl) tU54 ti_53 c6) fun _ bD => sqv bD rfl (r_assign (bD.get rfl)) fun _ c8 => sq_end ?_
    have bF := c8.kp [(0,Sl.v (Sl.cut b 1 0 ((b.n : Int) + (d.n : Int)).toNat b.c)),(1,.int .i64 f),(2,Sl.v d),(7,.int .i64 (d.n : Int)),(8,.int .i64 (b.n : Int))] rfl
    refine then_normal (wp_seq (wp_seq (wp_region_lit ?_)))
    refine sqv bF rfl (r_move (bF.get rfl)) fun _ bG => sqv bG rfl (r_move (bG.get rfl)) fun _ bH => sqv bH rfl (r_move (bH.get rfl)) fun _ bI => sqv bI rfl (r_move (bI.get rfl)) fun _ aq => ?_
    obtain ⟨c9,da⟩ := c7
    refine sqv aq rfl (r_addI (aq.get rfl) (aq.get rfl) c9) fun _ ar => ?_
    obtain ⟨db,dc⟩ := da
    refine sqv ar rfl (r_sliceL (ar.get rfl) (ar.get rfl) tU54 ti_53 db) fun _ au => ?_
    obtain ⟨q,dd,bJ⟩ := dc
    refine sqv au rfl (r_extern Tryz.func153 (by kernel_rfl) (by kernel_rfl) (by kernel_rfl) (by kernel_rfl) (map_arr (ml_cons (au.get rfl) (ml_cons (au.get rfl) ml_nil))) rfl dd) fun _ bK => sqv bK rfl (r_not (bK.get rfl)) fun _ df => sq_end ?_
    have j := df.kp [(0,Sl.v (Sl.cut b 1 0 ((b.n : Int) + (d.n : Int)).toNat b.c)),(1,.int .i64 f),(2,Sl.v d),(7,.int .i64 (d.n : Int)),(8,.int .i64 (b.n : Int)),(68,.bool (!q))] rfl
    refine then_normal ?_
    refine wp_cond_split (j.get rfl) (fun hc => ?_) (fun hc => ?_)
    ·have dg := bJ.1 (b_not_t hc)
     clear hc
     refine wp_seq ?_
     refine draw' (by kernel_rfl) fun m dh => ?_
     have di : Chg [] w m := dh
     have dj := dg m    di
     obtain ⟨dk,dl⟩ := dj
     obtain ⟨dm,dn⟩ := dl
     obtain ⟨dp,dq⟩ := dn
     refine par (D := [[],[],[],[1,2],[0,1,2,3],[],[],[5,6],[0,1,2,3,4,5,6,7]]) (S := [0,1,2,3,4,5,6,7]) (F := []) (V := VL [(0,fun v _ => v = Sl.v (Sl.cut b 1 0 ((b.n : Int) + (d.n : Int)).toNat b.c)),(1,fun v _ => v = .int .i64 f),(2,fun v _ => v = .int .i64 (d.n : Int)),(3,fun v _ => v = .int .i64 (f + (d.n : Int))),(4,fun v _ => v = Sl.v (Sl.cut (Sl.cut b 1 0 ((b.n : Int) + (d.n : Int)).toNat b.c) 1 (f + (d.n : Int)).toNat (Sl.cut b 1 0 ((b.n : Int) + (d.n : Int)).toNat b.c).n (Sl.cut b 1 0 ((b.n : Int) + (d.n : Int)).toNat b.c).c)),(5,fun v _ => v = Sl.v (Sl.cut b 1 0 ((b.n : Int) + (d.n : Int)).toNat b.c)),(6,fun v _ => v = .int .i64 f),(7,fun v _ => v = Sl.v (Sl.cut (Sl.cut b 1 0 ((b.n : Int) + (d.n : Int)).toNat b.c) 1 f.toNat (Sl.cut b 1 0 ((b.n : Int) + (d.n : Int)).toNat b.c).n (Sl.cut b 1 0 ((b.n : Int) + (d.n : Int)).toNat b.c).c))]) j (by kernel_rfl) ⟨fun _ _ _ _ h => h,fun _ _ _ _ h => h,fun _ _ _ _ h => h,fun _ _ _ _ h => h,fun _ _ _ _ h => h,fun _ _ _ _ h => h,fun _ _ _ _ h => h,fun _ _ _ _ h => h,trivial⟩ ⟨?_,?_,?_,?_,?_,?_,?_,?_,trivial⟩ ?_
     ·intro a w hT
      have hAp := hT.ag j [(0,Sl.v (Sl.cut b 1 0 ((b.n : Int) + (d.n : Int)).toNat b.c))] ⟨rfl,trivial⟩ (by kernel_rfl)
      exact ovr hAp rfl (r_move (hAp.get rfl)) fun _ => Eq.refl _
     ·intro a w hT
      have hAp := hT.ag j [(1,.int .i64 f)] ⟨rfl,trivial⟩ (by kernel_rfl)
      exact ovr hAp rfl (r_move (hAp.get rfl)) fun _ => Eq.refl _
     ·intro a w hT
      have hAp := hT.ag j [(7,.int .i64 (d.n : Int))] ⟨rfl,trivial⟩ (by kernel_rfl)
      exact ovr hAp rfl (r_move (hAp.get rfl)) fun _ => Eq.refl _
     ·intro a w hT
      have hAp := hT.ag j [] trivial (by kernel_rfl)
      have hAp := hAp.add (t := 70) (v := .int .i64 f) (hT.vals 1 rfl 70 rfl)
      have hAp := hAp.add (t := 71) (v := .int .i64 (d.n : Int)) (hT.vals 2 rfl 71 rfl)
      exact ovr hAp rfl (r_addI (hAp.get rfl) (hAp.get rfl) dk) fun _ => Eq.refl _
     ·intro a w hT
      have hAp := hT.ag j [] trivial (by kernel_rfl)
      have hAp := hAp.add (t := 69) (v := Sl.v (Sl.cut b 1 0 ((b.n : Int) + (d.n : Int)).toNat b.c)) (hT.vals 0 rfl 69 rfl)
      have hAp := hAp.add (t := 72) (v := .int .i64 (f + (d.n : Int))) (hT.vals 3 rfl 72 rfl)
      exact ovr hAp rfl (r_sliceL (hAp.get rfl) (hAp.get rfl) tU54 ti_53 dm) fun _ => Eq.refl _
     ·intro a w hT
      have hAp := hT.ag j [(0,Sl.v (Sl.cut b 1 0 ((b.n : Int) + (d.n : Int)).toNat b.c))] ⟨rfl,trivial⟩ (by kernel_rfl)
      exact ovr hAp rfl (r_move (hAp.get rfl)) fun _ => Eq.refl _
     ·intro a w hT
      have hAp := hT.ag j [(1,.int .i64 f)] ⟨rfl,trivial⟩ (by kernel_rfl)
      exact ovr hAp rfl (r_move (hAp.get rfl)) fun _ => Eq.refl _
     ·intro a w hT
      have hAp := hT.ag j [] trivial (by kernel_rfl)
      have hAp := hAp.add (t := 74) (v := Sl.v (Sl.cut b 1 0 ((b.n : Int) + (d.n : Int)).toNat b.c)) (hT.vals 5 rfl 74 rfl)
      have hAp := hAp.add (t := 75) (v := .int .i64 f) (hT.vals 6 rfl 75 rfl)
      exact ovr hAp rfl (r_sliceL (hAp.get rfl) (hAp.get rfl) tU54 ti_53 dp) fun _ => Eq.refl _
     ·intro bL r dr ds bM
      have dt := ds [(0,Sl.v (Sl.cut b 1 0 ((b.n : Int) + (d.n : Int)).toNat b.c)),(1,.int .i64 f),(2,Sl.v d)] ⟨rfl,rfl,rfl,trivial⟩ (by kernel_rfl)
      have du : bL.tmps.getD 73 undef = Sl.v (Sl.cut (Sl.cut b 1 0 ((b.n : Int) + (d.n : Int)).toNat b.c) 1 (f + (d.n : Int)).toNat (Sl.cut b 1 0 ((b.n : Int) + (d.n : Int)).toNat b.c).n (Sl.cut b 1 0 ((b.n : Int) + (d.n : Int)).toNat b.c).c) := bM 4 rfl 73 rfl
      have dv := dt.add du
      have dx : bL.tmps.getD 76 undef = Sl.v (Sl.cut (Sl.cut b 1 0 ((b.n : Int) + (d.n : Int)).toNat b.c) 1 f.toNat (Sl.cut b 1 0 ((b.n : Int) + (d.n : Int)).toNat b.c).n (Sl.cut b 1 0 ((b.n : Int) + (d.n : Int)).toNat b.c).c) := bM 7 rfl 76 rfl
      have av := dv.add dx
      have dy : Chg [] m r := dr
      have dz := dq r    dy
      refine one (D := [[],[],[],[1,2],[0,1,2,3],[],[],[5,6],[0,1,2,3,4,5,6,7]]) (i := 8) rfl (by kernel_rfl) (opk_run av rfl (fun _ _ hr => r_copy (av.get rfl) (av.get rfl) hr) dz fun fh fi aK dA _ fj fk dB => ?_)
      obtain ⟨aL,rfl,dC⟩ := dB
      refine PR_end (by kernel_rfl) ?_
      have bN := dA.kp [(0,Sl.v (Sl.cut b 1 0 ((b.n : Int) + (d.n : Int)).toNat b.c)),(1,.int .i64 f),(2,Sl.v d)] rfl
      refine then_normal (wp_seq (wp_region_lit ?_))
      refine sqv bN rfl (r_move (bN.get rfl)) fun _ bO => sqv bO rfl (r_move (bO.get rfl)) fun _ ax => ?_
      obtain ⟨dD,dG⟩ := dC
      refine sqv ax rfl (r_sliceL (ax.get rfl) (ax.get rfl) tU54 ti_53 dD) fun _ bP => sqv bP rfl (r_move (bP.get rfl)) fun _ ay => ?_
      refine sq (opk_run ay rfl (fun _ _ hr => r_copy (ay.get rfl) (ay.get rfl) hr) dG fun fl fm aM dH _ fn fo dI => ?_)
      obtain ⟨aN,rfl,dJ⟩ := dI
      refine sq_end ?_
      have bQ := dH.kp [(0,Sl.v (Sl.cut b 1 0 ((b.n : Int) + (d.n : Int)).toNat b.c))] rfl
      refine then_normal (wp_seq (wp_region_lit ?_))
      refine sqv bQ rfl (r_move (bQ.get rfl)) fun _ bR => sqv bR rfl (r_assign (bR.get rfl)) fun _ dK => sq_end ?_
      have bS := dK.kp [(6,Sl.v (Sl.cut b 1 0 ((b.n : Int) + (d.n : Int)).toNat b.c))] rfl
      refine then_normal ?_
      refine wp_ret ?_
      refine then_ret ?_
      exact res_all (vs := [Sl.v (Sl.cut b 1 0 ((b.n : Int) + (d.n : Int)).toNat b.c)]) rfl bS ⟨res_of_tmp bS rfl,trivial⟩ dJ
    ·have dL := bJ.2 (b_not_f hc)
     clear hc
     refine wp_skip ?_
     refine then_normal (wp_seq (wp_region_lit ?_))
     refine sqv j rfl (r_move (j.get rfl)) fun _ bT => sqv bT rfl (r_move (bT.get rfl)) fun _ az => ?_
     obtain ⟨dM,dN⟩ := dL
     refine sqv az rfl (r_sliceL (az.get rfl) (az.get rfl) tU54 ti_53 dM) fun _ bU => sqv bU rfl (r_move (bU.get rfl)) fun _ aA => ?_
     refine sq (opk_run aA rfl (fun _ _ hr => r_copy (aA.get rfl) (aA.get rfl) hr) dN fun fp fq aO dO _ fr fs dP => ?_)
     obtain ⟨aP,rfl,dQ⟩ := dP
     refine sq_end ?_
     have bX := dO.kp [(0,Sl.v (Sl.cut b 1 0 ((b.n : Int) + (d.n : Int)).toNat b.c)),(1,.int .i64 f),(7,.int .i64 (d.n : Int))] rfl
     refine then_normal (wp_seq (wp_region_lit ?_))
     refine sqv bX rfl (r_move (bX.get rfl)) fun _ bY => sqv bY rfl (r_move (bY.get rfl)) fun _ aB => ?_
     obtain ⟨dR,dS⟩ := dQ
     refine sqv aB rfl (r_sliceL (aB.get rfl) (aB.get rfl) tU54 ti_53 dR) fun _ bZ => sqv bZ rfl (r_move (bZ.get rfl)) fun _ aC => ?_
     refine sq (opk_call aC rfl (r_call (args := #[Sl.v (Sl.cut (Sl.cut b 1 0 ((b.n : Int) + (d.n : Int)).toNat b.c) 1 f.toNat (Sl.cut b 1 0 ((b.n : Int) + (d.n : Int)).toNat b.c).n (Sl.cut b 1 0 ((b.n : Int) + (d.n : Int)).toNat b.c).c),.int .i64 (d.n : Int)]) Tryz.func154 (by decide) rfl (map_arr (ml_cons (aC.get rfl) (ml_cons (aC.get rfl) ml_nil))) rfl) dS fun ft fu aQ dU _ fv fx dV => ?_)
     obtain ⟨rfl,dX⟩ := dV
     refine sq_end ?_
     have b0 := dU.kp [(0,Sl.v (Sl.cut b 1 0 ((b.n : Int) + (d.n : Int)).toNat b.c))] rfl
     refine then_normal (wp_seq (wp_region_lit ?_))
     refine sqv b0 rfl (r_move (b0.get rfl)) fun _ b1 => sqv b1 rfl (r_assign (b1.get rfl)) fun _ dY => sq_end ?_
     have b2 := dY.kp [(6,Sl.v (Sl.cut b 1 0 ((b.n : Int) + (d.n : Int)).toNat b.c))] rfl
     refine then_normal ?_
     refine wp_ret ?_
     exact res_all (vs := [Sl.v (Sl.cut b 1 0 ((b.n : Int) + (d.n : Int)).toNat b.c)]) rfl b2 ⟨res_of_tmp b2 rfl,trivial⟩ dX
end Go.Proofs.YtenokfdkckhhiaaGreatDoor
