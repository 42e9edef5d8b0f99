/-
  PRINTED BY PROGRAM: for each function its condition (vc), and that this suffices (ok).
-/
import Derived.Test.YtghmgfkdnolcdaaQApplyNoneGT
namespace Go.Proofs.Ytghmgfkdnolcdaa
open Go.RowKit
set_option linter.unusedVariables false
set_option maxHeartbeats 1000000
set_option maxRecDepth 10000
def ref05_May.vc (j : Int) (a : Str) (c : Str) (b : Sl) (h : Sl) (k : Bool) (d : Bool) (R : Value → World → Prop) (w : World) : Prop :=
((j = 1) →
∀ (f : World) (i : Nat), New w i f → Chg [] w f →
R (.bool (((k && (decide (a = ([] : Str)))) && (decide (c = ([] : Str)))) && (decide ((b.n : Int) = 0)))) f) ∧
((¬ (j = 1)) →
((j = 2) →
∀ (f : World) (i : Nat), New w i f → Chg [] w f →
CallK Try.prog 105 #[.string (Bs a)] f [i] (fun v q => ∃ (m : Bool), v = .bool m ∧
∃ (r : Bool), ((((m = true) ∧ (c = ([] : Str)))) → Calls Try.prog 106 #[Sl.v b] q (Ret fun v w' => Ext q w' ∧ v = .bool r)) ∧
(∀ s : World, Ext q s →
R (.bool ((m && (decide (c = ([] : Str)))) && r)) s))) ∧
((¬ (j = 2)) →
((j = 3) →
∀ (f : World) (i : Nat), New w i f → Chg [] w f →
R (.bool (((((decide (a = ([] : Str))) && (decide ((b.n : Int) = 0))) && (decide ((h.n : Int) = 0))) && (decide (1 ≤ (c.length : Int)))) && (decide ((c.length : Int) ≤ 4096)))) f) ∧
((¬ (j = 3)) →
((j = 4) →
∀ (f : World) (i : Nat), New w i f → Chg [] w f →
R (.bool ((((decide (a = ([] : Str))) && (decide ((b.n : Int) = 0))) && (decide ((h.n : Int) = 0))) && (decide ((c.length : Int) ≤ 4096)))) f) ∧
((¬ (j = 4)) →
((j = 5) →
∀ (f : World) (i : Nat), New w i f → Chg [] w f →
R (.bool ((((d && (decide ((a.length : Int) ≤ 32))) && (decide (c = ([] : Str)))) && (decide ((b.n : Int) = 0))) && (decide ((h.n : Int) = 0)))) f) ∧
((¬ (j = 5)) →
∀ (f : World) (i : Nat), New w i f → Chg [] w f →
R (.bool false) f)))))
theorem ref05_May.ok (j : Int) (a : Str) (c : Str) (b : Sl) (h : Sl) (k : Bool) (d : Bool) {R : Value → World → Prop} {w : World} (aa : ref05_May.vc j a c b h k d R w) : Calls Try.prog 87 #[.agg #[.int .i64 j, .string (Bs a), .string (Bs c), Sl.v b, Sl.v h], .bool k, .bool d] w (Ret R) := by
 refine enter [.agg #[.int .i64 j, .string (Bs a), .string (Bs c), Sl.v b, Sl.v h], .bool k, .bool d] Try.func87 rfl Try.ntmps87 rfl ?_
 intro a0 ay
 unfold ref05_May.vc at aa
 refine wp_seq (wp_region_lit ?_)
 refine sq (opk_new (fun B => .pointer (some ⟨B, 0, none⟩)) ay rfl (r_box (cs := [.int .i64 j, .string (Bs a), .string (Bs c), Sl.v b, Sl.v h]) (ay.get rfl) rfl) fun a6 f i co cp l cq _ => ?_)
 have o : New w i f := cp
 have p : Chg [] w f := co
 refine sqv cq rfl (r_assign rfl) fun _ cr => ?_
 refine sq_end ?_
 have az := cr.keep [(1, .bool k), (2, .bool d), (3, .pointer (some (⟨i, 0, none⟩ : Addr)))] ⟨rfl, rfl, rfl, trivial⟩
 refine then_normal (wp_seq (wp_seq (wp_region_lit ?_)))
 refine sqv az rfl (r_fieldAddr (az.get rfl) Try.underlying29 rfl ti_3 (by decide)) fun _ aA => ?_
 refine sqv aA rfl (r_load1 Try.underlying3 rfl (aA.get rfl) (l.cell 0 _ rfl)) fun _ ct => ?_
 refine sq_end ?_
 have aB := ct.keep [(1, .bool k), (2, .bool d), (3, .pointer (some (⟨i, 0, none⟩ : Addr))), (8, .int .i64 j)] ⟨rfl, rfl, rfl, rfl, trivial⟩
 refine then_normal (wp_block (wp_seq (wp_region_lit ?_)))
 refine sqv aB rfl (r_eql (aB.get rfl) rfl) fun _ aC => ?_
 refine sqv aC rfl (r_assign (aC.get rfl)) fun _ cu => ?_
 refine sq_end ?_
 have t := cu.keep [(1, .bool k), (2, .bool d), (3, .pointer (some (⟨i, 0, none⟩ : Addr))), (8, .int .i64 j), (9, .bool (decide (j = 1)))] ⟨rfl, rfl, rfl, rfl, rfl, trivial⟩
 refine then_normal ?_
 refine wp_cond_split (t.get rfl) (fun hc => ?_) (fun hc => ?_)
 ·have cv := aa.1 (of_decide_eq_true hc)
  clear hc
  refine wp_seq (wp_region_lit ?_)
  refine sqv t rfl (r_move (t.get rfl)) fun _ aD => ?_
  refine sqv aD rfl (r_move (aD.get rfl)) fun _ aF => ?_
  refine sq (opk_gval aF rfl rfl (g := true) (e := k) rfl (fun hg => r_fieldAddr (aF.get rfl) Try.underlying29 rfl ti_9 (by decide)) fun c3 aG _ => ?_)
  refine sq (opk_gval aG rfl rfl (g := true) (e := k) rfl (fun hg => r_load1 Try.underlying9 rfl (cv_get (aG.get rfl) hg) (l.cell 1 _ rfl)) fun c4 aH _ => ?_)
  refine sq (opk_gval aH rfl rfl (g := true) (e := k) rfl (fun hg => r_seql (cv_get (aH.get rfl) hg) rfl) fun c5 ab _ => ?_)
  refine sqv ab rfl (r_pick_and (g := (true && (k == true))) (ab.get rfl) (ab.get rfl) (fun he => g_mkt rfl he)) fun _ aI => ?_
  refine sqv aI rfl (r_move (aI.get rfl)) fun _ aJ => ?_
  refine sq (opk_gval aJ rfl rfl (g := true) (e := (k && (decide (a = ([] : Str))))) rfl (fun hg => r_fieldAddr (aJ.get rfl) Try.underlying29 rfl ti_9 (by decide)) fun c6 aK _ => ?_)
  refine sq (opk_gval aK rfl rfl (g := true) (e := (k && (decide (a = ([] : Str))))) rfl (fun hg => r_load1 Try.underlying9 rfl (cv_get (aK.get rfl) hg) (l.cell 2 _ rfl)) fun c7 aL _ => ?_)
  refine sq (opk_gval aL rfl rfl (g := true) (e := (k && (decide (a = ([] : Str))))) rfl (fun hg => r_seql (cv_get (aL.get rfl) hg) rfl) fun c8 ad _ => ?_)
  refine sqv ad rfl (r_pick_and (g := (true && ((k && (decide (a = ([] : Str)))) == true))) (ad.get rfl) (ad.get rfl) (fun he => g_mkt rfl he)) fun _ aM => ?_
  refine sqv aM rfl (r_move (aM.get rfl)) fun _ aN => ?_
  refine sq (opk_gval aN rfl rfl (g := true) (e := ((k && (decide (a = ([] : Str)))) && (decide (c = ([] : Str))))) rfl (fun hg => r_fieldAddr (aN.get rfl) Try.underlying29 rfl ti_26 (by decide)) fun c9 aO _ => ?_)
  refine sq (opk_gval aO rfl rfl (g := true) (e := ((k && (decide (a = ([] : Str)))) && (decide (c = ([] : Str))))) rfl (fun hg => r_load1 Try.underlying26 rfl (cv_get (aO.get rfl) hg) (l.cell 3 _ rfl)) fun da aP _ => ?_)
  refine sq (opk_gval aP rfl rfl (g := true) (e := ((k && (decide (a = ([] : Str)))) && (decide (c = ([] : Str))))) rfl (fun hg => r_len (cv_get (aP.get rfl) hg) Try.underlying26) fun db aQ _ => ?_)
  refine sq (opk_gval aQ rfl rfl (g := true) (e := ((k && (decide (a = ([] : Str)))) && (decide (c = ([] : Str))))) rfl (fun hg => r_eql (cv_get (aQ.get rfl) hg) rfl) fun dc af _ => ?_)
  refine sqv af rfl (r_pick_and (g := (true && (((k && (decide (a = ([] : Str)))) && (decide (c = ([] : Str)))) == true))) (af.get rfl) (af.get rfl) (fun he => g_mkt rfl he)) fun _ aR => ?_
  refine sqv aR rfl (r_assign (aR.get rfl)) fun _ cx => ?_
  refine sq_end ?_
  have aS := cx.keep [(6, .bool (((k && (decide (a = ([] : Str)))) && (decide (c = ([] : Str)))) && (decide ((b.n : Int) = 0))))] ⟨rfl, trivial⟩
  refine then_normal ?_
  refine wp_ret ?_
  refine block_ret ?_
  refine then_ret ?_
  have cy := cv f i o  p
  exact res_all (vs := [.bool (((k && (decide (a = ([] : Str)))) && (decide (c = ([] : Str)))) && (decide ((b.n : Int) = 0)))]) rfl aS ⟨res_of_tmp aS rfl, trivial⟩ cy
 ·have aT := aa.2 (of_decide_eq_false hc)
  clear hc
  refine wp_seq (wp_region_lit ?_)
  refine sqv t rfl (r_eql (t.get rfl) rfl) fun _ aU => ?_
  refine sqv aU rfl (r_assign (aU.get rfl)) fun _ cz => ?_
  refine sq_end ?_
  have u := cz.keep [(2, .bool d), (3, .pointer (some (⟨i, 0, none⟩ : Addr))), (8, .int .i64 j), (28, .bool (decide (j = 2)))] ⟨rfl, rfl, rfl, rfl, trivial⟩
  refine then_normal ?_
  refine wp_cond_split (u.get rfl) (fun hc => ?_) (fun hc => ?_)
  ·have cA := aT.1 (of_decide_eq_true hc)
   clear hc
   refine wp_seq (wp_region_lit ?_)
   refine sqv u rfl (r_fieldAddr (u.get rfl) Try.underlying29 rfl ti_9 (by decide)) fun _ aV => ?_
   refine sqv aV rfl (r_load1 Try.underlying9 rfl (aV.get rfl) (l.cell 1 _ rfl)) fun _ aX => ?_
   have cB := cA f i o  p
   refine sq (opk_call aX rfl (r_call (args := #[.string (Bs a)]) Try.func105 (by decide) rfl (map_arr (ml_cons (aX.get rfl) ml_nil)) rfl) cB fun dd df q aY _ cC dg cD => ?_)
   obtain ⟨m, rfl, cF⟩ := cD
   have ag := l.kept cC (.head _)
   refine sqv aY rfl (r_move (aY.get rfl)) fun _ aZ => ?_
   refine sq (opk_gval aZ rfl rfl (g := true) (e := m) rfl (fun hg => r_fieldAddr (aZ.get rfl) Try.underlying29 rfl ti_9 (by decide)) fun dh hA60 _ => ?_)
   refine sq (opk_gval hA60 rfl rfl (g := true) (e := m) rfl (fun hg => r_load1 Try.underlying9 rfl (cv_get (hA60.get rfl) hg) (ag.cell 2 _ rfl)) fun di a1 _ => ?_)
   refine sq (opk_gval a1 rfl rfl (g := true) (e := m) rfl (fun hg => r_seql (cv_get (a1.get rfl) hg) rfl) fun dj ah _ => ?_)
   refine sqv ah rfl (r_pick_and (g := (true && (m == true))) (ah.get rfl) (ah.get rfl) (fun he => g_mkt rfl he)) fun _ a2 => ?_
   refine sqv a2 rfl (r_move (a2.get rfl)) fun _ a3 => ?_
   refine sq (opk_gval a3 rfl rfl (g := true) (e := (m && (decide (c = ([] : Str))))) rfl (fun hg => r_fieldAddr (a3.get rfl) Try.underlying29 rfl ti_26 (by decide)) fun dk a4 _ => ?_)
   refine sq (opk_gval a4 rfl rfl (g := true) (e := (m && (decide (c = ([] : Str))))) rfl (fun hg => r_load1 Try.underlying26 rfl (cv_get (a4.get rfl) hg) (ag.cell 3 _ rfl)) fun dl a5 _ => ?_)
   obtain ⟨r, cG, cH⟩ := cF
   refine sq (opk_gcall a5 rfl rfl (g := true) (e := (m && (decide (c = ([] : Str))))) rfl (fun hg => r_call (args := #[Sl.v b]) Try.func106 (by decide) rfl (map_arr (ml_cons (cv_get (a5.get rfl) hg) ml_nil)) rfl) (fun hg => cG ⟨(b_and_t (g_t hg)).1, (of_decide_eq_true (b_and_t (g_t hg)).2)⟩) fun dm s ai _ aj => ?_)
   have dn := ag.ext aj
   have dp : Chg [] q s := aj
   have cI := cH s aj
   refine sqv ai rfl (r_pick_and (g := (true && ((m && (decide (c = ([] : Str)))) == true))) (ai.get rfl) (ai.get rfl) (fun he => g_mkt rfl he)) fun _ hA76 => ?_
   refine sqv hA76 rfl (r_assign (hA76.get rfl)) fun _ cJ => ?_
   refine sq_end ?_
   have a7 := cJ.keep [(6, .bool ((m && (decide (c = ([] : Str)))) && r))] ⟨rfl, trivial⟩
   refine then_normal ?_
   refine wp_ret ?_
   refine block_ret ?_
   refine then_ret ?_
   exact res_all (vs := [.bool ((m && (decide (c = ([] : Str)))) && r)]) rfl a7 ⟨res_of_tmp a7 rfl, trivial⟩ cI
  ·have a8 := aT.2 (of_decide_eq_false hc)
   clear hc
   refine wp_seq (wp_region_lit ?_)
   refine sqv u rfl (r_eql (u.get rfl) rfl) fun _ a9 => ?_
   refine sqv a9 rfl (r_assign (a9.get rfl)) fun _ cK => ?_
   refine sq_end ?_
   have x := cK.keep [(2, .bool d), (3, .pointer (some (⟨i, 0, none⟩ : Addr))), (8, .int .i64 j), (43, .bool (decide (j = 3)))] ⟨rfl, rfl, rfl, rfl, trivial⟩
   refine then_normal ?_
   refine wp_cond_split (x.get rfl) (fun hc => ?_) (fun hc => ?_)
   ·have cL := a8.1 (of_decide_eq_true hc)
    clear hc
    refine wp_seq (wp_region_lit ?_)
    refine sqv x rfl (r_fieldAddr (x.get rfl) Try.underlying29 rfl ti_9 (by decide)) fun _ ba => ?_
    refine sqv ba rfl (r_load1 Try.underlying9 rfl (ba.get rfl) (l.cell 1 _ rfl)) fun _ bb => ?_
    refine sqv bb rfl (r_seql (bb.get rfl) rfl) fun _ bd => ?_
    refine sqv bd rfl (r_move (bd.get rfl)) fun _ bf => ?_
    refine sq (opk_gval bf rfl rfl (g := true) (e := (decide (a = ([] : Str)))) rfl (fun hg => r_fieldAddr (bf.get rfl) Try.underlying29 rfl ti_26 (by decide)) fun dq bg _ => ?_)
    refine sq (opk_gval bg rfl rfl (g := true) (e := (decide (a = ([] : Str)))) rfl (fun hg => r_load1 Try.underlying26 rfl (cv_get (bg.get rfl) hg) (l.cell 3 _ rfl)) fun dr bh _ => ?_)
    refine sq (opk_gval bh rfl rfl (g := true) (e := (decide (a = ([] : Str)))) rfl (fun hg => r_len (cv_get (bh.get rfl) hg) Try.underlying26) fun ds bi _ => ?_)
    refine sq (opk_gval bi rfl rfl (g := true) (e := (decide (a = ([] : Str)))) rfl (fun hg => r_eql (cv_get (bi.get rfl) hg) rfl) fun dt ak _ => ?_)
    refine sqv ak rfl (r_pick_and (g := (true && ((decide (a = ([] : Str))) == true))) (ak.get rfl) (ak.get rfl) (fun he => g_mkt rfl he)) fun _ bj => ?_
    refine sqv bj rfl (r_move (bj.get rfl)) fun _ bk => ?_
    refine sq (opk_gval bk rfl rfl (g := true) (e := ((decide (a = ([] : Str))) && (decide ((b.n : Int) = 0)))) rfl (fun hg => r_fieldAddr (bk.get rfl) Try.underlying29 rfl ti_27 (by decide)) fun du bl _ => ?_)
    refine sq (opk_gval bl rfl rfl (g := true) (e := ((decide (a = ([] : Str))) && (decide ((b.n : Int) = 0)))) rfl (fun hg => r_load1 Try.underlying27 rfl (cv_get (bl.get rfl) hg) (l.cell 4 _ rfl)) fun dv bm _ => ?_)
    refine sq (opk_gval bm rfl rfl (g := true) (e := ((decide (a = ([] : Str))) && (decide ((b.n : Int) = 0)))) rfl (fun hg => r_len (cv_get (bm.get rfl) hg) Try.underlying27) fun dx bn _ => ?_)
    refine sq (opk_gval bn rfl rfl (g := true) (e := ((decide (a = ([] : Str))) && (decide ((b.n : Int) = 0)))) rfl (fun hg => r_eql (cv_get (bn.get rfl) hg) rfl) fun dy al _ => ?_)
    refine sqv al rfl (r_pick_and (g := (true && (((decide (a = ([] : Str))) && (decide ((b.n : Int) = 0))) == true))) (al.get rfl) (al.get rfl) (fun he => g_mkt rfl he)) fun _ bo => ?_
    refine sqv bo rfl (r_move (bo.get rfl)) fun _ bp => ?_
    refine sq (opk_gval bp rfl rfl (g := true) (e := (((decide (a = ([] : Str))) && (decide ((b.n : Int) = 0))) && (decide ((h.n : Int) = 0)))) rfl (fun hg => r_fieldAddr (bp.get rfl) Try.underlying29 rfl ti_9 (by decide)) fun dz bq _ => ?_)
    refine sq (opk_gval bq rfl rfl (g := true) (e := (((decide (a = ([] : Str))) && (decide ((b.n : Int) = 0))) && (decide ((h.n : Int) = 0)))) rfl (fun hg => r_load1 Try.underlying9 rfl (cv_get (bq.get rfl) hg) (l.cell 2 _ rfl)) fun dA br _ => ?_)
    refine sq (opk_gval br rfl rfl (g := true) (e := (((decide (a = ([] : Str))) && (decide ((b.n : Int) = 0))) && (decide ((h.n : Int) = 0)))) rfl (fun hg => r_slen (cv_get (br.get rfl) hg) Try.underlying9) fun dB bs _ => ?_)
    refine sq (opk_gval bs rfl rfl (g := true) (e := (((decide (a = ([] : Str))) && (decide ((b.n : Int) = 0))) && (decide ((h.n : Int) = 0)))) rfl (fun hg => r_geq (cv_get (bs.get rfl) hg) rfl) fun dC am _ => ?_)
    refine sqv am rfl (r_pick_and (g := (true && ((((decide (a = ([] : Str))) && (decide ((b.n : Int) = 0))) && (decide ((h.n : Int) = 0))) == true))) (am.get rfl) (am.get rfl) (fun he => g_mkt rfl he)) fun _ bt => ?_
    refine sqv bt rfl (r_move (bt.get rfl)) fun _ bu => ?_
    refine sq (opk_gval bu rfl rfl (g := true) (e := ((((decide (a = ([] : Str))) && (decide ((b.n : Int) = 0))) && (decide ((h.n : Int) = 0))) && (decide (1 ≤ (c.length : Int))))) rfl (fun hg => r_fieldAddr (bu.get rfl) Try.underlying29 rfl ti_9 (by decide)) fun dD bv _ => ?_)
    refine sq (opk_gval bv rfl rfl (g := true) (e := ((((decide (a = ([] : Str))) && (decide ((b.n : Int) = 0))) && (decide ((h.n : Int) = 0))) && (decide (1 ≤ (c.length : Int))))) rfl (fun hg => r_load1 Try.underlying9 rfl (cv_get (bv.get rfl) hg) (l.cell 2 _ rfl)) fun dF bx _ => ?_)
    refine sq (opk_gval bx rfl rfl (g := true) (e := ((((decide (a = ([] : Str))) && (decide ((b.n : Int) = 0))) && (decide ((h.n : Int) = 0))) && (decide (1 ≤ (c.length : Int))))) rfl (fun hg => r_slen (cv_get (bx.get rfl) hg) Try.underlying9) fun dG bz _ => ?_)
    refine sq (opk_gval bz rfl rfl (g := true) (e := ((((decide (a = ([] : Str))) && (decide ((b.n : Int) = 0))) && (decide ((h.n : Int) = 0))) && (decide (1 ≤ (c.length : Int))))) rfl (fun hg => r_leq (cv_get (bz.get rfl) hg) rfl) fun dH an _ => ?_)
    refine sqv an rfl (r_pick_and (g := (true && (((((decide (a = ([] : Str))) && (decide ((b.n : Int) = 0))) && (decide ((h.n : Int) = 0))) && (decide (1 ≤ (c.length : Int)))) == true))) (an.get rfl) (an.get rfl) (fun he => g_mkt rfl he)) fun _ bA => ?_
    refine sqv bA rfl (r_assign (bA.get rfl)) fun _ cM => ?_
    refine sq_end ?_
    have bB := cM.keep [(6, .bool (((((decide (a = ([] : Str))) && (decide ((b.n : Int) = 0))) && (decide ((h.n : Int) = 0))) && (decide (1 ≤ (c.length : Int)))) && (decide ((c.length : Int) ≤ 4096))))] ⟨rfl, trivial⟩
    refine then_normal ?_
    refine wp_ret ?_
    refine block_ret ?_
    refine then_ret ?_
    have cN := cL f i o  p
    exact res_all (vs := [.bool (((((decide (a = ([] : Str))) && (decide ((b.n : Int) = 0))) && (decide ((h.n : Int) = 0))) && (decide (1 ≤ (c.length : Int)))) && (decide ((c.length : Int) ≤ 4096)))]) rfl bB ⟨res_of_tmp bB rfl, trivial⟩ cN
   ·have bC := a8.2 (of_decide_eq_false hc)
    clear hc
    refine wp_seq (wp_region_lit ?_)
    refine sqv x rfl (r_eql (x.get rfl) rfl) fun _ bD => ?_
    refine sqv bD rfl (r_assign (bD.get rfl)) fun _ cO => ?_
    refine sq_end ?_
    have y := cO.keep [(2, .bool d), (3, .pointer (some (⟨i, 0, none⟩ : Addr))), (8, .int .i64 j), (72, .bool (decide (j = 4)))] ⟨rfl, rfl, rfl, rfl, trivial⟩
    refine then_normal ?_
    refine wp_cond_split (y.get rfl) (fun hc => ?_) (fun hc => ?_)
    ·have cP := bC.1 (of_decide_eq_true hc)
     clear hc
     refine wp_seq (wp_region_lit ?_)
     refine sqv y rfl (r_fieldAddr (y.get rfl) Try.underlying29 rfl ti_9 (by decide)) fun _ bF => ?_
     refine sqv bF rfl (r_load1 Try.underlying9 rfl (bF.get rfl) (l.cell 1 _ rfl)) fun _ bG => ?_
     refine sqv bG rfl (r_seql (bG.get rfl) rfl) fun _ bH => ?_
     refine sqv bH rfl (r_move (bH.get rfl)) fun _ bI => ?_
     refine sq (opk_gval bI rfl rfl (g := true) (e := (decide (a = ([] : Str)))) rfl (fun hg => r_fieldAddr (bI.get rfl) Try.underlying29 rfl ti_26 (by decide)) fun dI bJ _ => ?_)
     refine sq (opk_gval bJ rfl rfl (g := true) (e := (decide (a = ([] : Str)))) rfl (fun hg => r_load1 Try.underlying26 rfl (cv_get (bJ.get rfl) hg) (l.cell 3 _ rfl)) fun dJ bK _ => ?_)
     refine sq (opk_gval bK rfl rfl (g := true) (e := (decide (a = ([] : Str)))) rfl (fun hg => r_len (cv_get (bK.get rfl) hg) Try.underlying26) fun dK bL _ => ?_)
     refine sq (opk_gval bL rfl rfl (g := true) (e := (decide (a = ([] : Str)))) rfl (fun hg => r_eql (cv_get (bL.get rfl) hg) rfl) fun dL ao _ => ?_)
     refine sqv ao rfl (r_pick_and (g := (true && ((decide (a = ([] : Str))) == true))) (ao.get rfl) (ao.get rfl) (fun he => g_mkt rfl he)) fun _ bM => ?_
     refine sqv bM rfl (r_move (bM.get rfl)) fun _ bN => ?_
     refine sq (opk_gval bN rfl rfl (g := true) (e := ((decide (a = ([] : Str))) && (decide ((b.n : Int) = 0)))) rfl (fun hg => r_fieldAddr (bN.get rfl) Try.underlying29 rfl ti_27 (by decide)) fun dM bO _ => ?_)
     refine sq (opk_gval bO rfl rfl (g := true) (e := ((decide (a = ([] : Str))) && (decide ((b.n : Int) = 0)))) rfl (fun hg => r_load1 Try.underlying27 rfl (cv_get (bO.get rfl) hg) (l.cell 4 _ rfl)) fun dN bP _ => ?_)
     refine sq (opk_gval bP rfl rfl (g := true) (e := ((decide (a = ([] : Str))) && (decide ((b.n : Int) = 0)))) rfl (fun hg => r_len (cv_get (bP.get rfl) hg) Try.underlying27) fun dO bQ _ => ?_)
     refine sq (opk_gval bQ rfl rfl (g := true) (e := ((decide (a = ([] : Str))) && (decide ((b.n : Int) = 0)))) rfl (fun hg => r_eql (cv_get (bQ.get rfl) hg) rfl) fun dP ap _ => ?_)
     refine sqv ap rfl (r_pick_and (g := (true && (((decide (a = ([] : Str))) && (decide ((b.n : Int) = 0))) == true))) (ap.get rfl) (ap.get rfl) (fun he => g_mkt rfl he)) fun _ bR => ?_
     refine sqv bR rfl (r_move (bR.get rfl)) fun _ bS => ?_
     refine sq (opk_gval bS rfl rfl (g := true) (e := (((decide (a = ([] : Str))) && (decide ((b.n : Int) = 0))) && (decide ((h.n : Int) = 0)))) rfl (fun hg => r_fieldAddr (bS.get rfl) Try.underlying29 rfl ti_9 (by decide)) fun dQ bT _ => ?_)
     refine sq (opk_gval bT rfl rfl (g := true) (e := (((decide (a = ([] : Str))) && (decide ((b.n : Int) = 0))) && (decide ((h.n : Int) = 0)))) rfl (fun hg => r_load1 Try.underlying9 rfl (cv_get (bT.get rfl) hg) (l.cell 2 _ rfl)) fun dR bU _ => ?_)
     refine sq (opk_gval bU rfl rfl (g := true) (e := (((decide (a = ([] : Str))) && (decide ((b.n : Int) = 0))) && (decide ((h.n : Int) = 0)))) rfl (fun hg => r_slen (cv_get (bU.get rfl) hg) Try.underlying9) fun dS bV _ => ?_)
     refine sq (opk_gval bV rfl rfl (g := true) (e := (((decide (a = ([] : Str))) && (decide ((b.n : Int) = 0))) && (decide ((h.n : Int) = 0)))) rfl (fun hg => r_leq (cv_get (bV.get rfl) hg) rfl) fun dT aq _ => ?_)
     refine sqv aq rfl (r_pick_and (g := (true && ((((decide (a = ([] : Str))) && (decide ((b.n : Int) = 0))) && (decide ((h.n : Int) = 0))) == true))) (aq.get rfl) (aq.get rfl) (fun he => g_mkt rfl he)) fun _ bX => ?_
     refine sqv bX rfl (r_assign (bX.get rfl)) fun _ cQ => ?_
     refine sq_end ?_
     have bY := cQ.keep [(6, .bool ((((decide (a = ([] : Str))) && (decide ((b.n : Int) = 0))) && (decide ((h.n : Int) = 0))) && (decide ((c.length : Int) ≤ 4096))))] ⟨rfl, trivial⟩
     refine then_normal ?_
     refine wp_ret ?_
     refine block_ret ?_
     refine then_ret ?_
     have cR := cP f i o  p
     exact res_all (vs := [.bool ((((decide (a = ([] : Str))) && (decide ((b.n : Int) = 0))) && (decide ((h.n : Int) = 0))) && (decide ((c.length : Int) ≤ 4096)))]) rfl bY ⟨res_of_tmp bY rfl, trivial⟩ cR
    ·have bZ := bC.2 (of_decide_eq_false hc)
     clear hc
     refine wp_seq (wp_region_lit ?_)
     refine sqv y rfl (r_eql (y.get rfl) rfl) fun _ b0 => ?_
     refine sqv b0 rfl (r_assign (b0.get rfl)) fun _ cS => ?_
     refine sq_end ?_
     have z := cS.keep [(2, .bool d), (3, .pointer (some (⟨i, 0, none⟩ : Addr))), (95, .bool (decide (j = 5)))] ⟨rfl, rfl, rfl, trivial⟩
     refine then_normal ?_
     refine wp_cond_split (z.get rfl) (fun hc => ?_) (fun hc => ?_)
     ·have cT := bZ.1 (of_decide_eq_true hc)
      clear hc
      refine wp_seq (wp_region_lit ?_)
      refine sqv z rfl (r_move (z.get rfl)) fun _ b1 => ?_
      refine sqv b1 rfl (r_move (b1.get rfl)) fun _ b2 => ?_
      refine sq (opk_gval b2 rfl rfl (g := true) (e := d) rfl (fun hg => r_fieldAddr (b2.get rfl) Try.underlying29 rfl ti_9 (by decide)) fun dU b3 _ => ?_)
      refine sq (opk_gval b3 rfl rfl (g := true) (e := d) rfl (fun hg => r_load1 Try.underlying9 rfl (cv_get (b3.get rfl) hg) (l.cell 1 _ rfl)) fun dV b4 _ => ?_)
      refine sq (opk_gval b4 rfl rfl (g := true) (e := d) rfl (fun hg => r_slen (cv_get (b4.get rfl) hg) Try.underlying9) fun dX b5 _ => ?_)
      refine sq (opk_gval b5 rfl rfl (g := true) (e := d) rfl (fun hg => r_leq (cv_get (b5.get rfl) hg) rfl) fun dY ar _ => ?_)
      refine sqv ar rfl (r_pick_and (g := (true && (d == true))) (ar.get rfl) (ar.get rfl) (fun he => g_mkt rfl he)) fun _ b6 => ?_
      refine sqv b6 rfl (r_move (b6.get rfl)) fun _ b7 => ?_
      refine sq (opk_gval b7 rfl rfl (g := true) (e := (d && (decide ((a.length : Int) ≤ 32)))) rfl (fun hg => r_fieldAddr (b7.get rfl) Try.underlying29 rfl ti_9 (by decide)) fun dZ b8 _ => ?_)
      refine sq (opk_gval b8 rfl rfl (g := true) (e := (d && (decide ((a.length : Int) ≤ 32)))) rfl (fun hg => r_load1 Try.underlying9 rfl (cv_get (b8.get rfl) hg) (l.cell 2 _ rfl)) fun d0 b9 _ => ?_)
      refine sq (opk_gval b9 rfl rfl (g := true) (e := (d && (decide ((a.length : Int) ≤ 32)))) rfl (fun hg => r_seql (cv_get (b9.get rfl) hg) rfl) fun d1 au _ => ?_)
      refine sqv au rfl (r_pick_and (g := (true && ((d && (decide ((a.length : Int) ≤ 32))) == true))) (au.get rfl) (au.get rfl) (fun he => g_mkt rfl he)) fun _ ca => ?_
      refine sqv ca rfl (r_move (ca.get rfl)) fun _ cb => ?_
      refine sq (opk_gval cb rfl rfl (g := true) (e := ((d && (decide ((a.length : Int) ≤ 32))) && (decide (c = ([] : Str))))) rfl (fun hg => r_fieldAddr (cb.get rfl) Try.underlying29 rfl ti_26 (by decide)) fun d2 cc _ => ?_)
      refine sq (opk_gval cc rfl rfl (g := true) (e := ((d && (decide ((a.length : Int) ≤ 32))) && (decide (c = ([] : Str))))) rfl (fun hg => r_load1 Try.underlying26 rfl (cv_get (cc.get rfl) hg) (l.cell 3 _ rfl)) fun d3 cd _ => ?_)
      refine sq (opk_gval cd rfl rfl (g := true) (e := ((d && (decide ((a.length : Int) ≤ 32))) && (decide (c = ([] : Str))))) rfl (fun hg => r_len (cv_get (cd.get rfl) hg) Try.underlying26) fun d4 cf _ => ?_)
      refine sq (opk_gval cf rfl rfl (g := true) (e := ((d && (decide ((a.length : Int) ≤ 32))) && (decide (c = ([] : Str))))) rfl (fun hg => r_eql (cv_get (cf.get rfl) hg) rfl) fun d5 av _ => ?_)
      refine sqv av rfl (r_pick_and (g := (true && (((d && (decide ((a.length : Int) ≤ 32))) && (decide (c = ([] : Str)))) == true))) (av.get rfl) (av.get rfl) (fun he => g_mkt rfl he)) fun _ cg => ?_
      refine sqv cg rfl (r_move (cg.get rfl)) fun _ ch => ?_
      refine sq (opk_gval ch rfl rfl (g := true) (e := (((d && (decide ((a.length : Int) ≤ 32))) && (decide (c = ([] : Str)))) && (decide ((b.n : Int) = 0)))) rfl (fun hg => r_fieldAddr (ch.get rfl) Try.underlying29 rfl ti_27 (by decide)) fun d6 ci _ => ?_)
      refine sq (opk_gval ci rfl rfl (g := true) (e := (((d && (decide ((a.length : Int) ≤ 32))) && (decide (c = ([] : Str)))) && (decide ((b.n : Int) = 0)))) rfl (fun hg => r_load1 Try.underlying27 rfl (cv_get (ci.get rfl) hg) (l.cell 4 _ rfl)) fun d7 cj _ => ?_)
      refine sq (opk_gval cj rfl rfl (g := true) (e := (((d && (decide ((a.length : Int) ≤ 32))) && (decide (c = ([] : Str)))) && (decide ((b.n : Int) = 0)))) rfl (fun hg => r_len (cv_get (cj.get rfl) hg) Try.underlying27) fun d8 ck _ => ?_)
      refine sq (opk_gval ck rfl rfl (g := true) (e := (((d && (decide ((a.length : Int) ≤ 32))) && (decide (c = ([] : Str)))) && (decide ((b.n : Int) = 0)))) rfl (fun hg => r_eql (cv_get (ck.get rfl) hg) rfl) fun d9 ax _ => ?_)
      refine sqv ax rfl (r_pick_and (g := (true && ((((d && (decide ((a.length : Int) ≤ 32))) && (decide (c = ([] : Str)))) && (decide ((b.n : Int) = 0))) == true))) (ax.get rfl) (ax.get rfl) (fun he => g_mkt rfl he)) fun _ cl => ?_
      refine sqv cl rfl (r_assign (cl.get rfl)) fun _ cU => ?_
      refine sq_end ?_
      have cm := cU.keep [(6, .bool ((((d && (decide ((a.length : Int) ≤ 32))) && (decide (c = ([] : Str)))) && (decide ((b.n : Int) = 0))) && (decide ((h.n : Int) = 0))))] ⟨rfl, trivial⟩
      refine then_normal ?_
      refine wp_ret ?_
      refine block_ret ?_
      refine then_ret ?_
      have cX := cT f i o  p
      exact res_all (vs := [.bool ((((d && (decide ((a.length : Int) ≤ 32))) && (decide (c = ([] : Str)))) && (decide ((b.n : Int) = 0))) && (decide ((h.n : Int) = 0)))]) rfl cm ⟨res_of_tmp cm rfl, trivial⟩ cX
     ·have cY := bZ.2 (of_decide_eq_false hc)
      clear hc
      refine wp_skip ?_
      refine block_normal ?_
      refine then_normal (wp_seq (wp_region_lit ?_))
      refine sqv z rfl (r_assign rfl) fun _ cZ => ?_
      refine sq_end ?_
      have cn := cZ.keep [(6, .bool false)] ⟨rfl, trivial⟩
      refine then_normal ?_
      refine wp_ret ?_
      have c0 := cY f i o  p
      exact res_all (vs := [.bool false]) rfl cn ⟨res_of_tmp cn rfl, trivial⟩ c0
def ref05_Name.vc (b : Str) (R : Value → World → Prop) (w : World) : Prop :=
((((b.length : Int) < 1) ∨ (32 < (b.length : Int))) →
R (.bool false) w) ∧
(((¬ ((b.length : Int) < 1)) ∧ (¬ (32 < (b.length : Int)))) →
∃ (i : Int → World → Prop) (k : Int → World → Nat),
i 0 w ∧
(∀ (c : Int) (f : World), i c f →
((c < (b.length : Int)) →
((0 : Int) ≤ c ∧ c < (b.length : Int)) ∧
CallK Try.prog 110 #[.int .u8 ((b.getD c.toNat 0).toNat : Int)] f [] (fun v j => ∃ (d : Bool), v = .bool d ∧
((((((((((d = true) ∨ (((b.getD c.toNat 0).toNat : Int) = 0)) ∨ (((b.getD c.toNat 0).toNat : Int) = 34)) ∨ (((b.getD c.toNat 0).toNat : Int) = 39)) ∨ (((b.getD c.toNat 0).toNat : Int) = 62)) ∨ (((b.getD c.toNat 0).toNat : Int) = 47)) ∨ (((b.getD c.toNat 0).toNat : Int) = 61)) ∨ (((b.getD c.toNat 0).toNat : Int) = 60)) ∨ ((65 ≤ ((b.getD c.toNat 0).toNat : Int)) ∧ (((b.getD c.toNat 0).toNat : Int) ≤ 90))) →
R (.bool false) j) ∧
((((((((((d = false) ∧ (¬ (((b.getD c.toNat 0).toNat : Int) = 0))) ∧ (¬ (((b.getD c.toNat 0).toNat : Int) = 34))) ∧ (¬ (((b.getD c.toNat 0).toNat : Int) = 39))) ∧ (¬ (((b.getD c.toNat 0).toNat : Int) = 62))) ∧ (¬ (((b.getD c.toNat 0).toNat : Int) = 47))) ∧ (¬ (((b.getD c.toNat 0).toNat : Int) = 61))) ∧ (¬ (((b.getD c.toNat 0).toNat : Int) = 60))) ∧ ((¬ (65 ≤ ((b.getD c.toNat 0).toNat : Int))) ∨ (¬ (((b.getD c.toNat 0).toNat : Int) ≤ 90)))) →
(I64 (c + 1)) ∧
i (c + 1) j ∧ k (c + 1) j < k c f))) ∧
((¬ (c < (b.length : Int))) →
R (.bool true) f)))
theorem ref05_Name.ok (b : Str) {R : Value → World → Prop} {w : World} (n : ref05_Name.vc b R w) : Calls Try.prog 105 #[.string (Bs b)] w (Ret R) := by
 refine enter [.string (Bs b)] Try.func105 rfl Try.ntmps105 rfl ?_
 intro a0 hA0
 unfold ref05_Name.vc at n
 refine wp_seq (wp_region_lit ?_)
 refine sqv hA0 rfl (r_assign rfl) fun _ hA2 => ?_
 refine sq_end ?_
 have ag := hA2.keep [(0, .string (Bs b))] ⟨rfl, trivial⟩
 refine then_normal (wp_seq (wp_seq (wp_region_lit ?_)))
 refine sqv ag rfl (r_move (ag.get rfl)) fun _ ah => ?_
 refine sqv ah rfl (r_slen (ah.get rfl) Try.underlying9) fun _ ai => ?_
 refine sqv ai rfl (r_lss (ai.get rfl) rfl) fun _ aj => ?_
 refine sqv aj rfl (r_move (aj.get rfl)) fun _ ak => ?_
 refine sq (opk_gval ak rfl rfl (g := true) (e := (decide ((b.length : Int) < 1))) rfl (fun hg => r_move (ak.get rfl)) fun a8 al _ => ?_)
 refine sq (opk_gval al rfl rfl (g := true) (e := (decide ((b.length : Int) < 1))) rfl (fun hg => r_slen (cv_get (al.get rfl) hg) Try.underlying9) fun a9 am _ => ?_)
 refine sq (opk_gval am rfl rfl (g := true) (e := (decide ((b.length : Int) < 1))) rfl (fun hg => r_gtr (cv_get (am.get rfl) hg) rfl) fun bI o _ => ?_)
 refine sqv o rfl (r_pick_or (g := (true && ((decide ((b.length : Int) < 1)) == false))) (o.get rfl) (o.get rfl) (fun he => g_mkf rfl he)) fun _ ba => ?_
 refine sq_end ?_
 have p := ba.keep [(0, .string (Bs b)), (12, .bool ((decide ((b.length : Int) < 1)) || (decide (32 < (b.length : Int)))))] ⟨rfl, rfl, trivial⟩
 refine then_normal ?_
 refine wp_cond_split (p.get rfl) (fun hc => ?_) (fun hc => ?_)
 ·have bb := n.1 ((b_or_t hc).imp (fun h => (of_decide_eq_true h)) (fun h => (of_decide_eq_true h)))
  clear hc
  refine wp_seq (wp_region_lit ?_)
  refine sqv p rfl (r_assign rfl) fun _ bd => ?_
  refine sq_end ?_
  have an := bd.keep [(2, .bool false)] ⟨rfl, trivial⟩
  refine then_normal ?_
  refine wp_ret ?_
  refine then_ret ?_
  exact res_all (vs := [.bool false]) rfl an ⟨res_of_tmp an rfl, trivial⟩ bb
 ·have bf := n.2 ⟨(of_decide_eq_false (b_or_f hc).1), (of_decide_eq_false (b_or_f hc).2)⟩
  clear hc
  refine wp_skip ?_
  refine then_normal (wp_seq (wp_seq (wp_region_lit ?_)))
  refine sqv p rfl (r_assign rfl) fun _ bg => ?_
  refine sq_end ?_
  have bh := bg.keep [(0, .string (Bs b)), (3, .int .i64 0)] ⟨rfl, rfl, trivial⟩
  refine then_normal (wp_block ?_)
  obtain ⟨i, k, bi, bj⟩ := bf
  refine wp_loop_st (σ := Int × World) (fun s a w => Ag 60 a [(0, .string (Bs b)), (3, .int .i64 s.1)] ∧ w = s.2 ∧ i s.1 s.2) (fun s => k s.1 s.2) (0, w) ⟨bh.keep [(0, .string (Bs b)), (3, .int .i64 0)] ⟨rfl, rfl, trivial⟩, rfl, bi⟩ ?_
  rintro ⟨c, f⟩ bJ w_ ⟨ao, hw_, bk⟩
  have hw_ : f = w_ := hw_.symm
  subst hw_
  have ap := bj c _ bk
  refine wp_seq (wp_seq (wp_region_lit ?_))
  refine sqv ao rfl (r_move (ao.get rfl)) fun _ aq => ?_
  refine sqv aq rfl (r_move (aq.get rfl)) fun _ ar => ?_
  refine sqv ar rfl (r_slen (ar.get rfl) Try.underlying9) fun _ q => ?_
  refine sqv q rfl (r_lss (q.get rfl) (q.get rfl)) fun _ bl => ?_
  refine sq_end ?_
  have l := bl.keep [(0, .string (Bs b)), (3, .int .i64 c), (16, .bool (decide (c < (b.length : Int))))] ⟨rfl, rfl, rfl, trivial⟩
  refine then_normal ?_
  refine wp_cond_split (l.get rfl) (fun hc => ?_) (fun hc => ?_)
  ·have bm := ap.1 (of_decide_eq_true hc)
   clear hc
   refine wp_skip ?_
   refine then_normal (wp_seq (wp_block (wp_seq (wp_region_lit ?_))))
   refine sqv l rfl (r_move (l.get rfl)) fun _ au => ?_
   refine sqv au rfl (r_move (au.get rfl)) fun _ r => ?_
   obtain ⟨bn, bo⟩ := bm
   refine sqv r rfl (r_sindex (r.get rfl) (r.get rfl) Try.underlying9 bn) fun _ av => ?_
   refine sqv av rfl (r_assign (av.get rfl)) fun _ bp => ?_
   refine sq_end ?_
   have ax := bp.keep [(0, .string (Bs b)), (3, .int .i64 c), (4, .int .u8 ((b.getD c.toNat 0).toNat : Int))] ⟨rfl, rfl, rfl, trivial⟩
   refine then_normal (wp_seq (wp_region_lit ?_))
   refine sqv ax rfl (r_move (ax.get rfl)) fun _ ay => ?_
   refine sq (opk_call ay rfl (r_call (args := #[.int .u8 ((b.getD c.toNat 0).toNat : Int)]) Try.func110 (by decide) rfl (map_arr (ml_cons (ay.get rfl) ml_nil)) rfl) bo fun bK bL j az _ bM bN bq => ?_)
   obtain ⟨d, rfl, aA⟩ := bq
   refine sqv az rfl (r_move (az.get rfl)) fun _ aB => ?_
   refine sq (opk_gval aB rfl rfl (g := true) (e := d) rfl (fun hg => r_move (aB.get rfl)) fun bO aC _ => ?_)
   refine sq (opk_gval aC rfl rfl (g := true) (e := d) rfl (fun hg => r_eql (cv_get (aC.get rfl) hg) rfl) fun bP t _ => ?_)
   refine sqv t rfl (r_pick_or (g := (true && (d == false))) (t.get rfl) (t.get rfl) (fun he => g_mkf rfl he)) fun _ aD => ?_
   refine sqv aD rfl (r_move (aD.get rfl)) fun _ aF => ?_
   refine sq (opk_gval aF rfl rfl (g := true) (e := (d || (decide (((b.getD c.toNat 0).toNat : Int) = 0)))) rfl (fun hg => r_move (aF.get rfl)) fun bQ aG _ => ?_)
   refine sq (opk_gval aG rfl rfl (g := true) (e := (d || (decide (((b.getD c.toNat 0).toNat : Int) = 0)))) rfl (fun hg => r_eql (cv_get (aG.get rfl) hg) rfl) fun bR u _ => ?_)
   refine sqv u rfl (r_pick_or (g := (true && ((d || (decide (((b.getD c.toNat 0).toNat : Int) = 0))) == false))) (u.get rfl) (u.get rfl) (fun he => g_mkf rfl he)) fun _ aH => ?_
   refine sqv aH rfl (r_move (aH.get rfl)) fun _ aI => ?_
   refine sq (opk_gval aI rfl rfl (g := true) (e := ((d || (decide (((b.getD c.toNat 0).toNat : Int) = 0))) || (decide (((b.getD c.toNat 0).toNat : Int) = 34)))) rfl (fun hg => r_move (aI.get rfl)) fun bS aJ _ => ?_)
   refine sq (opk_gval aJ rfl rfl (g := true) (e := ((d || (decide (((b.getD c.toNat 0).toNat : Int) = 0))) || (decide (((b.getD c.toNat 0).toNat : Int) = 34)))) rfl (fun hg => r_eql (cv_get (aJ.get rfl) hg) rfl) fun bT x _ => ?_)
   refine sqv x rfl (r_pick_or (g := (true && (((d || (decide (((b.getD c.toNat 0).toNat : Int) = 0))) || (decide (((b.getD c.toNat 0).toNat : Int) = 34))) == false))) (x.get rfl) (x.get rfl) (fun he => g_mkf rfl he)) fun _ aK => ?_
   refine sqv aK rfl (r_move (aK.get rfl)) fun _ aL => ?_
   refine sq (opk_gval aL rfl rfl (g := true) (e := (((d || (decide (((b.getD c.toNat 0).toNat : Int) = 0))) || (decide (((b.getD c.toNat 0).toNat : Int) = 34))) || (decide (((b.getD c.toNat 0).toNat : Int) = 39)))) rfl (fun hg => r_move (aL.get rfl)) fun bU aM _ => ?_)
   refine sq (opk_gval aM rfl rfl (g := true) (e := (((d || (decide (((b.getD c.toNat 0).toNat : Int) = 0))) || (decide (((b.getD c.toNat 0).toNat : Int) = 34))) || (decide (((b.getD c.toNat 0).toNat : Int) = 39)))) rfl (fun hg => r_eql (cv_get (aM.get rfl) hg) rfl) fun bV y _ => ?_)
   refine sqv y rfl (r_pick_or (g := (true && ((((d || (decide (((b.getD c.toNat 0).toNat : Int) = 0))) || (decide (((b.getD c.toNat 0).toNat : Int) = 34))) || (decide (((b.getD c.toNat 0).toNat : Int) = 39))) == false))) (y.get rfl) (y.get rfl) (fun he => g_mkf rfl he)) fun _ aN => ?_
   refine sqv aN rfl (r_move (aN.get rfl)) fun _ aO => ?_
   refine sq (opk_gval aO rfl rfl (g := true) (e := ((((d || (decide (((b.getD c.toNat 0).toNat : Int) = 0))) || (decide (((b.getD c.toNat 0).toNat : Int) = 34))) || (decide (((b.getD c.toNat 0).toNat : Int) = 39))) || (decide (((b.getD c.toNat 0).toNat : Int) = 62)))) rfl (fun hg => r_move (aO.get rfl)) fun bX aP _ => ?_)
   refine sq (opk_gval aP rfl rfl (g := true) (e := ((((d || (decide (((b.getD c.toNat 0).toNat : Int) = 0))) || (decide (((b.getD c.toNat 0).toNat : Int) = 34))) || (decide (((b.getD c.toNat 0).toNat : Int) = 39))) || (decide (((b.getD c.toNat 0).toNat : Int) = 62)))) rfl (fun hg => r_eql (cv_get (aP.get rfl) hg) rfl) fun bY z _ => ?_)
   refine sqv z rfl (r_pick_or (g := (true && (((((d || (decide (((b.getD c.toNat 0).toNat : Int) = 0))) || (decide (((b.getD c.toNat 0).toNat : Int) = 34))) || (decide (((b.getD c.toNat 0).toNat : Int) = 39))) || (decide (((b.getD c.toNat 0).toNat : Int) = 62))) == false))) (z.get rfl) (z.get rfl) (fun he => g_mkf rfl he)) fun _ aQ => ?_
   refine sqv aQ rfl (r_move (aQ.get rfl)) fun _ aR => ?_
   refine sq (opk_gval aR rfl rfl (g := true) (e := (((((d || (decide (((b.getD c.toNat 0).toNat : Int) = 0))) || (decide (((b.getD c.toNat 0).toNat : Int) = 34))) || (decide (((b.getD c.toNat 0).toNat : Int) = 39))) || (decide (((b.getD c.toNat 0).toNat : Int) = 62))) || (decide (((b.getD c.toNat 0).toNat : Int) = 47)))) rfl (fun hg => r_move (aR.get rfl)) fun bZ aS _ => ?_)
   refine sq (opk_gval aS rfl rfl (g := true) (e := (((((d || (decide (((b.getD c.toNat 0).toNat : Int) = 0))) || (decide (((b.getD c.toNat 0).toNat : Int) = 34))) || (decide (((b.getD c.toNat 0).toNat : Int) = 39))) || (decide (((b.getD c.toNat 0).toNat : Int) = 62))) || (decide (((b.getD c.toNat 0).toNat : Int) = 47)))) rfl (fun hg => r_eql (cv_get (aS.get rfl) hg) rfl) fun b0 aa _ => ?_)
   refine sqv aa rfl (r_pick_or (g := (true && ((((((d || (decide (((b.getD c.toNat 0).toNat : Int) = 0))) || (decide (((b.getD c.toNat 0).toNat : Int) = 34))) || (decide (((b.getD c.toNat 0).toNat : Int) = 39))) || (decide (((b.getD c.toNat 0).toNat : Int) = 62))) || (decide (((b.getD c.toNat 0).toNat : Int) = 47))) == false))) (aa.get rfl) (aa.get rfl) (fun he => g_mkf rfl he)) fun _ aT => ?_
   refine sqv aT rfl (r_move (aT.get rfl)) fun _ aU => ?_
   refine sq (opk_gval aU rfl rfl (g := true) (e := ((((((d || (decide (((b.getD c.toNat 0).toNat : Int) = 0))) || (decide (((b.getD c.toNat 0).toNat : Int) = 34))) || (decide (((b.getD c.toNat 0).toNat : Int) = 39))) || (decide (((b.getD c.toNat 0).toNat : Int) = 62))) || (decide (((b.getD c.toNat 0).toNat : Int) = 47))) || (decide (((b.getD c.toNat 0).toNat : Int) = 61)))) rfl (fun hg => r_move (aU.get rfl)) fun b1 aV _ => ?_)
   refine sq (opk_gval aV rfl rfl (g := true) (e := ((((((d || (decide (((b.getD c.toNat 0).toNat : Int) = 0))) || (decide (((b.getD c.toNat 0).toNat : Int) = 34))) || (decide (((b.getD c.toNat 0).toNat : Int) = 39))) || (decide (((b.getD c.toNat 0).toNat : Int) = 62))) || (decide (((b.getD c.toNat 0).toNat : Int) = 47))) || (decide (((b.getD c.toNat 0).toNat : Int) = 61)))) rfl (fun hg => r_eql (cv_get (aV.get rfl) hg) rfl) fun b2 ab _ => ?_)
   refine sqv ab rfl (r_pick_or (g := (true && (((((((d || (decide (((b.getD c.toNat 0).toNat : Int) = 0))) || (decide (((b.getD c.toNat 0).toNat : Int) = 34))) || (decide (((b.getD c.toNat 0).toNat : Int) = 39))) || (decide (((b.getD c.toNat 0).toNat : Int) = 62))) || (decide (((b.getD c.toNat 0).toNat : Int) = 47))) || (decide (((b.getD c.toNat 0).toNat : Int) = 61))) == false))) (ab.get rfl) (ab.get rfl) (fun he => g_mkf rfl he)) fun _ aX => ?_
   refine sqv aX rfl (r_move (aX.get rfl)) fun _ aY => ?_
   refine sq (opk_gval aY rfl rfl (g := true) (e := (((((((d || (decide (((b.getD c.toNat 0).toNat : Int) = 0))) || (decide (((b.getD c.toNat 0).toNat : Int) = 34))) || (decide (((b.getD c.toNat 0).toNat : Int) = 39))) || (decide (((b.getD c.toNat 0).toNat : Int) = 62))) || (decide (((b.getD c.toNat 0).toNat : Int) = 47))) || (decide (((b.getD c.toNat 0).toNat : Int) = 61))) || (decide (((b.getD c.toNat 0).toNat : Int) = 60)))) rfl (fun hg => r_move (aY.get rfl)) fun b3 aZ _ => ?_)
   refine sq (opk_gval aZ rfl rfl (g := true) (e := (((((((d || (decide (((b.getD c.toNat 0).toNat : Int) = 0))) || (decide (((b.getD c.toNat 0).toNat : Int) = 34))) || (decide (((b.getD c.toNat 0).toNat : Int) = 39))) || (decide (((b.getD c.toNat 0).toNat : Int) = 62))) || (decide (((b.getD c.toNat 0).toNat : Int) = 47))) || (decide (((b.getD c.toNat 0).toNat : Int) = 61))) || (decide (((b.getD c.toNat 0).toNat : Int) = 60)))) rfl (fun hg => r_geq (cv_get (aZ.get rfl) hg) rfl) fun b4 hA152 _ => ?_)
   refine sq (opk_gval hA152 rfl rfl (g := true) (e := (((((((d || (decide (((b.getD c.toNat 0).toNat : Int) = 0))) || (decide (((b.getD c.toNat 0).toNat : Int) = 34))) || (decide (((b.getD c.toNat 0).toNat : Int) = 39))) || (decide (((b.getD c.toNat 0).toNat : Int) = 62))) || (decide (((b.getD c.toNat 0).toNat : Int) = 47))) || (decide (((b.getD c.toNat 0).toNat : Int) = 61))) || (decide (((b.getD c.toNat 0).toNat : Int) = 60)))) rfl (fun hg => r_move (cv_get (hA152.get rfl) hg)) fun b5 a1 _ => ?_)
   refine sq (opk_gval a1 rfl rfl (g := (true && ((((((((d || (decide (((b.getD c.toNat 0).toNat : Int) = 0))) || (decide (((b.getD c.toNat 0).toNat : Int) = 34))) || (decide (((b.getD c.toNat 0).toNat : Int) = 39))) || (decide (((b.getD c.toNat 0).toNat : Int) = 62))) || (decide (((b.getD c.toNat 0).toNat : Int) = 47))) || (decide (((b.getD c.toNat 0).toNat : Int) = 61))) || (decide (((b.getD c.toNat 0).toNat : Int) = 60))) == false))) (e := (decide (65 ≤ ((b.getD c.toNat 0).toNat : Int)))) rfl (fun hg => r_move (a1.get rfl)) fun b6 a2 _ => ?_)
   refine sq (opk_gval a2 rfl rfl (g := (true && ((((((((d || (decide (((b.getD c.toNat 0).toNat : Int) = 0))) || (decide (((b.getD c.toNat 0).toNat : Int) = 34))) || (decide (((b.getD c.toNat 0).toNat : Int) = 39))) || (decide (((b.getD c.toNat 0).toNat : Int) = 62))) || (decide (((b.getD c.toNat 0).toNat : Int) = 47))) || (decide (((b.getD c.toNat 0).toNat : Int) = 61))) || (decide (((b.getD c.toNat 0).toNat : Int) = 60))) == false))) (e := (decide (65 ≤ ((b.getD c.toNat 0).toNat : Int)))) rfl (fun hg => r_leq (cv_get (a2.get rfl) hg) rfl) fun b7 ad _ => ?_)
   refine sq (opk_gval ad rfl rfl (g := true) (e := (((((((d || (decide (((b.getD c.toNat 0).toNat : Int) = 0))) || (decide (((b.getD c.toNat 0).toNat : Int) = 34))) || (decide (((b.getD c.toNat 0).toNat : Int) = 39))) || (decide (((b.getD c.toNat 0).toNat : Int) = 62))) || (decide (((b.getD c.toNat 0).toNat : Int) = 47))) || (decide (((b.getD c.toNat 0).toNat : Int) = 61))) || (decide (((b.getD c.toNat 0).toNat : Int) = 60)))) rfl (fun hg => r_pick_and (g := ((true && ((((((((d || (decide (((b.getD c.toNat 0).toNat : Int) = 0))) || (decide (((b.getD c.toNat 0).toNat : Int) = 34))) || (decide (((b.getD c.toNat 0).toNat : Int) = 39))) || (decide (((b.getD c.toNat 0).toNat : Int) = 62))) || (decide (((b.getD c.toNat 0).toNat : Int) = 47))) || (decide (((b.getD c.toNat 0).toNat : Int) = 61))) || (decide (((b.getD c.toNat 0).toNat : Int) = 60))) == false)) && ((decide (65 ≤ ((b.getD c.toNat 0).toNat : Int))) == true))) (cv_get (ad.get rfl) hg) (ad.get rfl) (fun he => g_mkt hg he)) fun b8 af _ => ?_)
   refine sqv af rfl (r_pick_or (g := (true && ((((((((d || (decide (((b.getD c.toNat 0).toNat : Int) = 0))) || (decide (((b.getD c.toNat 0).toNat : Int) = 34))) || (decide (((b.getD c.toNat 0).toNat : Int) = 39))) || (decide (((b.getD c.toNat 0).toNat : Int) = 62))) || (decide (((b.getD c.toNat 0).toNat : Int) = 47))) || (decide (((b.getD c.toNat 0).toNat : Int) = 61))) || (decide (((b.getD c.toNat 0).toNat : Int) = 60))) == false))) (af.get rfl) (af.get rfl) (fun he => g_mkf rfl he)) fun _ br => ?_
   refine sq_end ?_
   have m := br.keep [(0, .string (Bs b)), (3, .int .i64 c), (59, .bool ((((((((d || (decide (((b.getD c.toNat 0).toNat : Int) = 0))) || (decide (((b.getD c.toNat 0).toNat : Int) = 34))) || (decide (((b.getD c.toNat 0).toNat : Int) = 39))) || (decide (((b.getD c.toNat 0).toNat : Int) = 62))) || (decide (((b.getD c.toNat 0).toNat : Int) = 47))) || (decide (((b.getD c.toNat 0).toNat : Int) = 61))) || (decide (((b.getD c.toNat 0).toNat : Int) = 60))) || ((decide (65 ≤ ((b.getD c.toNat 0).toNat : Int))) && (decide (((b.getD c.toNat 0).toNat : Int) ≤ 90)))))] ⟨rfl, rfl, rfl, trivial⟩
   refine then_normal ?_
   refine wp_cond_split (m.get rfl) (fun hc => ?_) (fun hc => ?_)
   ·have bs := aA.1 ((b_or_t hc).imp (fun h => ((b_or_t h).imp (fun h => ((b_or_t h).imp (fun h => ((b_or_t h).imp (fun h => ((b_or_t h).imp (fun h => ((b_or_t h).imp (fun h => ((b_or_t h).imp (fun h => ((b_or_t h).imp (fun h => h) (fun h => (of_decide_eq_true h)))) (fun h => (of_decide_eq_true h)))) (fun h => (of_decide_eq_true h)))) (fun h => (of_decide_eq_true h)))) (fun h => (of_decide_eq_true h)))) (fun h => (of_decide_eq_true h)))) (fun h => (of_decide_eq_true h)))) (fun h => ⟨(of_decide_eq_true (b_and_t h).1), (of_decide_eq_true (b_and_t h).2)⟩))
    clear hc
    refine wp_seq (wp_region_lit ?_)
    refine sqv m rfl (r_assign rfl) fun _ bt => ?_
    refine sq_end ?_
    have a3 := bt.keep [(2, .bool false)] ⟨rfl, trivial⟩
    refine then_normal ?_
    refine wp_ret ?_
    refine block_ret ?_
    refine then_ret ?_
    refine then_ret ?_
    refine block_ret ?_
    refine then_ret ?_
    exact res_all (vs := [.bool false]) rfl a3 ⟨res_of_tmp a3 rfl, trivial⟩ bs
   ·have bu := aA.2 ⟨⟨⟨⟨⟨⟨⟨⟨(b_or_f (b_or_f (b_or_f (b_or_f (b_or_f (b_or_f (b_or_f (b_or_f hc).1).1).1).1).1).1).1).1, (of_decide_eq_false (b_or_f (b_or_f (b_or_f (b_or_f (b_or_f (b_or_f (b_or_f (b_or_f hc).1).1).1).1).1).1).1).2)⟩, (of_decide_eq_false (b_or_f (b_or_f (b_or_f (b_or_f (b_or_f (b_or_f (b_or_f hc).1).1).1).1).1).1).2)⟩, (of_decide_eq_false (b_or_f (b_or_f (b_or_f (b_or_f (b_or_f (b_or_f hc).1).1).1).1).1).2)⟩, (of_decide_eq_false (b_or_f (b_or_f (b_or_f (b_or_f (b_or_f hc).1).1).1).1).2)⟩, (of_decide_eq_false (b_or_f (b_or_f (b_or_f (b_or_f hc).1).1).1).2)⟩, (of_decide_eq_false (b_or_f (b_or_f (b_or_f hc).1).1).2)⟩, (of_decide_eq_false (b_or_f (b_or_f hc).1).2)⟩, ((b_and_f (b_or_f hc).2).imp (fun h => (of_decide_eq_false h)) (fun h => (of_decide_eq_false h)))⟩
    clear hc
    refine wp_skip ?_
    refine block_normal ?_
    refine then_normal (wp_region_lit ?_)
    refine sqv m rfl (r_move (m.get rfl)) fun _ a4 => ?_
    obtain ⟨bv, a5⟩ := bu
    refine sqv a4 rfl (r_addI (a4.get rfl) rfl bv) fun _ a6 => ?_
    refine sqv a6 rfl (r_assign (a6.get rfl)) fun _ bx => ?_
    refine sq_end ?_
    have bz := bx.keep [(0, .string (Bs b)), (3, .int .i64 (c + 1))] ⟨rfl, rfl, trivial⟩
    have bA := bz.keep [(0, .string (Bs b)), (3, .int .i64 (c + 1))] ⟨rfl, rfl, trivial⟩
    exact then_normal ⟨(c + 1, j), ⟨bA, rfl, a5.1⟩, a5.2⟩
  ·have bB := ap.2 (of_decide_eq_false hc)
   clear hc
   refine wp_exit ?_
   refine then_exit ?_
   refine then_exit ?_
   refine block_hit ?_
   have bC := l.keep [] trivial
   refine then_normal (wp_seq (wp_region_lit ?_))
   refine sqv bC rfl (r_assign rfl) fun _ bD => ?_
   refine sq_end ?_
   have a7 := bD.keep [(2, .bool true)] ⟨rfl, trivial⟩
   refine then_normal ?_
   refine wp_ret ?_
   exact res_all (vs := [.bool true]) rfl a7 ⟨res_of_tmp a7 rfl, trivial⟩ bB
def ref05_attrs.vc (f : Sl) (R : Value → World → Prop) (w : World) : Prop :=
((12 < (f.n : Int)) →
R (.bool false) w) ∧
((¬ (12 < (f.n : Int))) →
∃ (x : Int → World → Prop) (y : Int → World → Nat),
x 0 w ∧
(∀ (b : Int) (o : World), x b o →
((b < (f.n : Int)) →
∀ (l : World), Chg [] o l →
∃ p : Addr, (((0 : Int) ≤ b ∧ b < (f.n : Int)) ∧ f.a = some p) ∧
∃ (u : Str), (l.cell? ((p.add (b.toNat * 2)).add 0) = some (.string (Bs u))) ∧
∃ (c : Bool), (∀ w' : World, Ext l w' → Calls Try.prog 105 #[.string (Bs u)] w' (Ret fun v w'' => Ext w' w'' ∧ v = .bool c)) ∧
∃ q : Addr, (((c = true)) → ((0 : Int) ≤ b ∧ b < (f.n : Int)) ∧ f.a = some q) ∧
∃ (d : Str), (((c = true)) → l.cell? ((q.add (b.toNat * 2)).add 1) = some (.string (Bs d))) ∧
∃ r : Addr, ((((c = true) ∧ (¬ (4096 < (d.length : Int)))) ∧ (0 < b)) → ((0 : Int) ≤ b ∧ b < (f.n : Int)) ∧ f.a = some r) ∧
∃ (j : Str), ((((c = true) ∧ (¬ (4096 < (d.length : Int)))) ∧ (0 < b)) → l.cell? ((r.add (b.toNat * 2)).add 0) = some (.string (Bs j))) ∧
((((c = true) ∧ (¬ (4096 < (d.length : Int)))) ∧ (0 < b)) → I64 (b - 1)) ∧
∃ t : Addr, ((((c = true) ∧ (¬ (4096 < (d.length : Int)))) ∧ (0 < b)) → ((0 : Int) ≤ b - 1 ∧ b - 1 < (f.n : Int)) ∧ f.a = some t) ∧
∃ (k : Str), ((((c = true) ∧ (¬ (4096 < (d.length : Int)))) ∧ (0 < b)) → l.cell? ((t.add ((b - 1).toNat * 2)).add 0) = some (.string (Bs k))) ∧
((((c = false) ∨ (4096 < (d.length : Int))) ∨ ((0 < b) ∧ (((Op.bytesLess j k) = true) ∨ (j = k)))) →
∀ (m : World), Chg [] l m →
R (.bool false) m) ∧
((((c = true) ∧ (¬ (4096 < (d.length : Int)))) ∧ ((¬ (0 < b)) ∨ (((Op.bytesLess j k) = false) ∧ (¬ (j = k))))) →
(I64 (b + 1)) ∧
∀ (m : World), Chg [] l m →
x (b + 1) m ∧ y (b + 1) m < y b o)) ∧
((¬ (b < (f.n : Int))) →
R (.bool true) o)))
theorem ref05_attrs.ok (f : Sl) {R : Value → World → Prop} {w : World} (aa : ref05_attrs.vc f R w) : Calls Try.prog 106 #[Sl.v f] w (Ret R) := by
 refine enter [Sl.v f] Try.func106 rfl Try.ntmps106 rfl ?_
 intro a0 aC
 unfold ref05_attrs.vc at aa
 refine wp_seq (wp_region_lit ?_)
 refine sqv aC rfl (r_assign rfl) fun _ aD => ?_
 refine sq_end ?_
 have af := aD.keep [(0, Sl.v f)] ⟨rfl, trivial⟩
 refine then_normal (wp_seq (wp_seq (wp_region_lit ?_)))
 refine sqv af rfl (r_move (af.get rfl)) fun _ ah => ?_
 refine sqv ah rfl (r_len (ah.get rfl) Try.underlying26) fun _ ai => ?_
 refine sqv ai rfl (r_gtr (ai.get rfl) rfl) fun _ aF => ?_
 refine sq_end ?_
 have ab := aF.keep [(0, Sl.v f), (6, .bool (decide (12 < (f.n : Int))))] ⟨rfl, rfl, trivial⟩
 refine then_normal ?_
 refine wp_cond_split (ab.get rfl) (fun hc => ?_) (fun hc => ?_)
 ·have aG := aa.1 (of_decide_eq_true hc)
  clear hc
  refine wp_seq (wp_region_lit ?_)
  refine sqv ab rfl (r_assign rfl) fun _ aH => ?_
  refine sq_end ?_
  have aj := aH.keep [(2, .bool false)] ⟨rfl, trivial⟩
  refine then_normal ?_
  refine wp_ret ?_
  refine then_ret ?_
  exact res_all (vs := [.bool false]) rfl aj ⟨res_of_tmp aj rfl, trivial⟩ aG
 ·have aI := aa.2 (of_decide_eq_false hc)
  clear hc
  refine wp_skip ?_
  refine then_normal (wp_seq (wp_seq (wp_region_lit ?_)))
  refine sqv ab rfl (r_assign rfl) fun _ aJ => ?_
  refine sq_end ?_
  have aK := aJ.keep [(0, Sl.v f), (3, .int .i64 0)] ⟨rfl, rfl, trivial⟩
  refine then_normal (wp_block ?_)
  obtain ⟨x, y, aL, aM⟩ := aI
  refine wp_loop_st (σ := Int × World) (fun s a w => Ag 47 a [(0, Sl.v f), (3, .int .i64 s.1)] ∧ w = s.2 ∧ x s.1 s.2) (fun s => y s.1 s.2) (0, w) ⟨aK.keep [(0, Sl.v f), (3, .int .i64 0)] ⟨rfl, rfl, trivial⟩, rfl, aL⟩ ?_
  rintro ⟨b, o⟩ cu w_ ⟨ak, hw_, aN⟩
  have hw_ : o = w_ := hw_.symm
  subst hw_
  have al := aM b _ aN
  refine wp_seq (wp_seq (wp_region_lit ?_))
  refine sqv ak rfl (r_move (ak.get rfl)) fun _ am => ?_
  refine sqv am rfl (r_move (am.get rfl)) fun _ an => ?_
  refine sqv an rfl (r_len (an.get rfl) Try.underlying26) fun _ ad => ?_
  refine sqv ad rfl (r_lss (ad.get rfl) (ad.get rfl)) fun _ aO => ?_
  refine sq_end ?_
  have i := aO.keep [(0, Sl.v f), (3, .int .i64 b), (10, .bool (decide (b < (f.n : Int))))] ⟨rfl, rfl, rfl, trivial⟩
  refine then_normal ?_
  refine wp_cond_split (i.get rfl) (fun hc => ?_) (fun hc => ?_)
  ·have aP := al.1 (of_decide_eq_true hc)
   clear hc
   refine wp_skip ?_
   refine then_normal (wp_seq (wp_block (wp_seq ?_)))
   refine draw' (by kernel_rfl) fun l aQ => ?_
   have aR : Chg [] o l := aQ
   have aS := aP l    aR
   obtain ⟨p, ao, aT⟩ := aS
   obtain ⟨u, aU, aV⟩ := aT
   obtain ⟨c, aX, aY⟩ := aV
   obtain ⟨q, ap, aZ⟩ := aY
   obtain ⟨d, hx180, a1⟩ := aZ
   obtain ⟨r, aq, a2⟩ := a1
   obtain ⟨j, a3, a4⟩ := a2
   obtain ⟨a5, a6⟩ := a4
   obtain ⟨t, ar, a7⟩ := a6
   obtain ⟨k, a8, au⟩ := a7
   refine par (D := [[], [], [0, 1], [0, 1, 2], [0, 1, 2, 3], [0, 1, 2, 3, 4], [0, 1, 2, 3, 4, 5], [0, 1, 2, 3, 4, 5, 6], [0, 1, 2, 3, 4, 5, 6, 7], [0, 1, 2, 3, 4, 5, 6, 7], [0, 1, 2, 3, 4, 5, 6, 7, 8, 9], [0, 1, 2, 3, 4, 5, 6, 7, 8, 9, 10], [0, 1, 2, 3, 4, 5, 6, 7, 8, 9, 10, 11], [0, 1, 2, 3, 4, 5, 6, 7, 8, 9, 10, 11, 12], [0, 1, 2, 3, 4, 5, 6, 7, 8, 9, 10, 11, 12, 13], [0, 1, 2, 3, 4, 5, 6, 7, 8, 9, 10, 11, 12, 13, 14], [0, 1, 2, 3, 4, 5, 6, 7, 8, 9, 10, 11, 12, 13, 14, 15], [0, 1, 2, 3, 4, 5, 6, 7, 8, 9, 10, 11, 12, 13, 14, 15, 16], [0, 1, 2, 3, 4, 5, 6, 7, 8, 9, 10, 11, 12, 13, 14, 15, 16, 17], [0, 1, 2, 3, 4, 5, 6, 7, 8, 9, 10, 11, 12, 13, 14, 15, 16, 17, 18], [0, 1, 2, 3, 4, 5, 6, 7, 8, 9, 10, 11, 12, 13, 14, 15, 16, 17, 18, 19], [0, 1, 2, 3, 4, 5, 6, 7, 8, 9, 10, 11, 12, 13, 14, 15, 16, 17, 18, 19], [0, 1, 2, 3, 4, 5, 6, 7, 8, 9, 10, 11, 12, 13, 14, 15, 16, 17, 18, 19, 20, 21], [0, 1, 2, 3, 4, 5, 6, 7, 8, 9, 10, 11, 12, 13, 14, 15, 16, 17, 18, 19, 20, 21, 22], [0, 1, 2, 3, 4, 5, 6, 7, 8, 9, 10, 11, 12, 13, 14, 15, 16, 17, 18, 19, 20, 21, 22, 23], [0, 1, 2, 3, 4, 5, 6, 7, 8, 9, 10, 11, 12, 13, 14, 15, 16, 17, 18, 19], [0, 1, 2, 3, 4, 5, 6, 7, 8, 9, 10, 11, 12, 13, 14, 15, 16, 17, 18, 19], [0, 1, 2, 3, 4, 5, 6, 7, 8, 9, 10, 11, 12, 13, 14, 15, 16, 17, 18, 19, 26], [0, 1, 2, 3, 4, 5, 6, 7, 8, 9, 10, 11, 12, 13, 14, 15, 16, 17, 18, 19, 25, 26, 27], [0, 1, 2, 3, 4, 5, 6, 7, 8, 9, 10, 11, 12, 13, 14, 15, 16, 17, 18, 19, 25, 26, 27, 28], [0, 1, 2, 3, 4, 5, 6, 7, 8, 9, 10, 11, 12, 13, 14, 15, 16, 17, 18, 19, 25, 26, 27, 28, 29], [0, 1, 2, 3, 4, 5, 6, 7, 8, 9, 10, 11, 12, 13, 14, 15, 16, 17, 18, 19, 20, 21, 22, 23, 24, 25, 26, 27, 28, 29, 30], [0, 1, 2, 3, 4, 5, 6, 7, 8, 9, 10, 11, 12, 13, 14, 15, 16, 17, 18, 19, 20, 21, 22, 23, 24, 25, 26, 27, 28, 29, 30, 31], [0, 1, 2, 3, 4, 5, 6, 7, 8, 9, 10, 11, 12, 13, 14, 15, 16, 17, 18, 19, 20, 21, 22, 23, 24, 25, 26, 27, 28, 29, 30, 31, 32]]) (S := [0, 1, 2, 3, 4, 5, 6, 7, 8, 9, 10, 11, 12, 13, 14, 15, 16, 17, 18, 19, 20, 21, 22, 23, 24, 25, 26, 27, 28, 29, 30, 31, 32, 33]) (F := []) (V := VL [(0, fun v _ => v = Sl.v f), (1, fun v _ => v = .int .i64 b), (2, fun v _ => v = .pointer (some (p.add (b.toNat * 2)))), (3, fun v _ => v = .pointer (some ((p.add (b.toNat * 2)).add 0))), (4, fun v _ => v = .string (Bs u)), (5, fun v _ => v = .bool c), (6, fun v _ => v = .bool (!c)), (7, fun v _ => v = .bool (!c)), (8, fun v _ => v = cV (true && ((!c) == false)) (Sl.v f)), (9, fun v _ => v = cV (true && ((!c) == false)) (.int .i64 b)), (10, fun v _ => v = cV (true && ((!c) == false)) (.pointer (some (q.add (b.toNat * 2))))), (11, fun v _ => v = cV (true && ((!c) == false)) (.pointer (some ((q.add (b.toNat * 2)).add 1)))), (12, fun v _ => v = cV (true && ((!c) == false)) (.string (Bs d))), (13, fun v _ => v = cV (true && ((!c) == false)) (.int .i64 (d.length : Int))), (14, fun v _ => v = cV (true && ((!c) == false)) (.bool (decide (4096 < (d.length : Int))))), (15, fun v _ => v = .bool ((!c) || (decide (4096 < (d.length : Int))))), (16, fun v _ => v = .bool ((!c) || (decide (4096 < (d.length : Int))))), (17, fun v _ => v = cV (true && (((!c) || (decide (4096 < (d.length : Int)))) == false)) (.int .i64 b)), (18, fun v _ => v = cV (true && (((!c) || (decide (4096 < (d.length : Int)))) == false)) (.bool (decide (0 < b)))), (19, fun v _ => v = cV (true && (((!c) || (decide (4096 < (d.length : Int)))) == false)) (.bool (decide (0 < b)))), (20, fun v _ => v = cV ((true && (((!c) || (decide (4096 < (d.length : Int)))) == false)) && ((decide (0 < b)) == true)) (Sl.v f)), (21, fun v _ => v = cV ((true && (((!c) || (decide (4096 < (d.length : Int)))) == false)) && ((decide (0 < b)) == true)) (.int .i64 b)), (22, fun v _ => v = cV ((true && (((!c) || (decide (4096 < (d.length : Int)))) == false)) && ((decide (0 < b)) == true)) (.pointer (some (r.add (b.toNat * 2))))), (23, fun v _ => v = cV ((true && (((!c) || (decide (4096 < (d.length : Int)))) == false)) && ((decide (0 < b)) == true)) (.pointer (some ((r.add (b.toNat * 2)).add 0)))), (24, fun v _ => v = cV ((true && (((!c) || (decide (4096 < (d.length : Int)))) == false)) && ((decide (0 < b)) == true)) (.string (Bs j))), (25, fun v _ => v = cV ((true && (((!c) || (decide (4096 < (d.length : Int)))) == false)) && ((decide (0 < b)) == true)) (Sl.v f)), (26, fun v _ => v = cV ((true && (((!c) || (decide (4096 < (d.length : Int)))) == false)) && ((decide (0 < b)) == true)) (.int .i64 b)), (27, fun v _ => v = cV ((true && (((!c) || (decide (4096 < (d.length : Int)))) == false)) && ((decide (0 < b)) == true)) (.int .i64 (b - 1))), (28, fun v _ => v = cV ((true && (((!c) || (decide (4096 < (d.length : Int)))) == false)) && ((decide (0 < b)) == true)) (.pointer (some (t.add ((b - 1).toNat * 2))))), (29, fun v _ => v = cV ((true && (((!c) || (decide (4096 < (d.length : Int)))) == false)) && ((decide (0 < b)) == true)) (.pointer (some ((t.add ((b - 1).toNat * 2)).add 0)))), (30, fun v _ => v = cV ((true && (((!c) || (decide (4096 < (d.length : Int)))) == false)) && ((decide (0 < b)) == true)) (.string (Bs k))), (31, fun v _ => v = cV ((true && (((!c) || (decide (4096 < (d.length : Int)))) == false)) && ((decide (0 < b)) == true)) (.bool ((Op.bytesLess j k) || (decide (j = k))))), (32, fun v _ => v = cV (true && (((!c) || (decide (4096 < (d.length : Int)))) == false)) (.bool ((decide (0 < b)) && ((Op.bytesLess j k) || (decide (j = k)))))), (33, fun v _ => v = .bool (((!c) || (decide (4096 < (d.length : Int)))) || ((decide (0 < b)) && ((Op.bytesLess j k) || (decide (j = k))))))]) i (by kernel_rfl) ⟨fun _ _ _ _ h => by first | exact h | (change _ = _ at h; change _ = _; exact h), fun _ _ _ _ h => by first | exact h | (change _ = _ at h; change _ = _; exact h), fun _ _ _ _ h => by first | exact h | (change _ = _ at h; change _ = _; exact h), fun _ _ _ _ h => by first | exact h | (change _ = _ at h; change _ = _; exact h), fun _ _ _ _ h => by first | exact h | (change _ = _ at h; change _ = _; exact h), fun _ _ _ _ h => by first | exact h | (change _ = _ at h; change _ = _; exact h), fun _ _ _ _ h => by first | exact h | (change _ = _ at h; change _ = _; exact h), fun _ _ _ _ h => by first | exact h | (change _ = _ at h; change _ = _; exact h), fun _ _ _ _ h => by first | exact h | (change _ = _ at h; change _ = _; exact h), fun _ _ _ _ h => by first | exact h | (change _ = _ at h; change _ = _; exact h), fun _ _ _ _ h => by first | exact h | (change _ = _ at h; change _ = _; exact h), fun _ _ _ _ h => by first | exact h | (change _ = _ at h; change _ = _; exact h), fun _ _ _ _ h => by first | exact h | (change _ = _ at h; change _ = _; exact h), fun _ _ _ _ h => by first | exact h | (change _ = _ at h; change _ = _; exact h), fun _ _ _ _ h => by first | exact h | (change _ = _ at h; change _ = _; exact h), fun _ _ _ _ h => by first | exact h | (change _ = _ at h; change _ = _; exact h), fun _ _ _ _ h => by first | exact h | (change _ = _ at h; change _ = _; exact h), fun _ _ _ _ h => by first | exact h | (change _ = _ at h; change _ = _; exact h), fun _ _ _ _ h => by first | exact h | (change _ = _ at h; change _ = _; exact h), fun _ _ _ _ h => by first | exact h | (change _ = _ at h; change _ = _; exact h), fun _ _ _ _ h => by first | exact h | (change _ = _ at h; change _ = _; exact h), fun _ _ _ _ h => by first | exact h | (change _ = _ at h; change _ = _; exact h), fun _ _ _ _ h => by first | exact h | (change _ = _ at h; change _ = _; exact h), fun _ _ _ _ h => by first | exact h | (change _ = _ at h; change _ = _; exact h), fun _ _ _ _ h => by first | exact h | (change _ = _ at h; change _ = _; exact h), fun _ _ _ _ h => by first | exact h | (change _ = _ at h; change _ = _; exact h), fun _ _ _ _ h => by first | exact h | (change _ = _ at h; change _ = _; exact h), fun _ _ _ _ h => by first | exact h | (change _ = _ at h; change _ = _; exact h), fun _ _ _ _ h => by first | exact h | (change _ = _ at h; change _ = _; exact h), fun _ _ _ _ h => by first | exact h | (change _ = _ at h; change _ = _; exact h), fun _ _ _ _ h => by first | exact h | (change _ = _ at h; change _ = _; exact h), fun _ _ _ _ h => by first | exact h | (change _ = _ at h; change _ = _; exact h), fun _ _ _ _ h => by first | exact h | (change _ = _ at h; change _ = _; exact h), fun _ _ _ _ h => by first | exact h | (change _ = _ at h; change _ = _; exact h), trivial⟩ ⟨?_, ?_, ?_, ?_, ?_, ?_, ?_, ?_, ?_, ?_, ?_, ?_, ?_, ?_, ?_, ?_, ?_, ?_, ?_, ?_, ?_, ?_, ?_, ?_, ?_, ?_, ?_, ?_, ?_, ?_, ?_, ?_, ?_, ?_, trivial⟩ ?_
   ·intro a w hT
    have hAp := hT.ag i [(0, Sl.v f)] ⟨rfl, trivial⟩ (by kernel_rfl)
    exact ovr hAp rfl (r_move (hAp.get rfl)) fun _ => Eq.refl _
   ·intro a w hT
    have hAp := hT.ag i [(3, .int .i64 b)] ⟨rfl, trivial⟩ (by kernel_rfl)
    exact ovr hAp rfl (r_move (hAp.get rfl)) fun _ => Eq.refl _
   ·intro a w hT
    have hAp := hT.ag i [] trivial (by kernel_rfl)
    have a9 : a.tmps.getD 13 undef = Sl.v f := hT.vals 0 rfl 13 rfl
    have hAp := hAp.add a9
    have ba : a.tmps.getD 14 undef = .int .i64 b := hT.vals 1 rfl 14 rfl
    have hAp := hAp.add ba
    exact ovr hAp rfl (r_indexAddr (hAp.get rfl) (hAp.get rfl) Try.underlying26 ti_65 ao.1 ao.2) fun _ => Eq.refl _
   ·intro a w hT
    have hAp := hT.ag i [] trivial (by kernel_rfl)
    have bb : a.tmps.getD 15 undef = .pointer (some (p.add (b.toNat * 2))) := hT.vals 2 rfl 15 rfl
    have hAp := hAp.add bb
    exact ovr hAp rfl (r_fieldAddr (hAp.get rfl) Try.underlying65 rfl ti_9 (by decide)) fun _ => Eq.refl _
   ·intro a w hT
    have hAp := hT.ag i [] trivial (by kernel_rfl)
    have bd : a.tmps.getD 16 undef = .pointer (some ((p.add (b.toNat * 2)).add 0)) := hT.vals 3 rfl 16 rfl
    have hAp := hAp.add bd
    exact ovr hAp rfl (r_load1 Try.underlying9 rfl (hAp.get rfl) (Ext.cell hT.chg aU)) fun _ => Eq.refl _
   ·intro a w hT
    have hAp := hT.ag i [] trivial (by kernel_rfl)
    have bf : a.tmps.getD 17 undef = .string (Bs u) := hT.vals 4 rfl 17 rfl
    have hAp := hAp.add bf
    exact opk_callX hAp rfl (r_call (args := #[.string (Bs u)]) Try.func105 (by decide) rfl (map_arr (ml_cons (hAp.get rfl) ml_nil)) rfl) (aX w hT.chg) fun _ _ _ _ e hR => ⟨_, e, hR.1, fun _ => hR.2⟩
   ·intro a w hT
    have hAp := hT.ag i [] trivial (by kernel_rfl)
    have bg : a.tmps.getD 18 undef = .bool c := hT.vals 5 rfl 18 rfl
    have hAp := hAp.add bg
    exact ovr hAp rfl (r_not (hAp.get rfl)) fun _ => Eq.refl _
   ·intro a w hT
    have hAp := hT.ag i [] trivial (by kernel_rfl)
    have bh : a.tmps.getD 19 undef = .bool (!c) := hT.vals 6 rfl 19 rfl
    have hAp := hAp.add bh
    exact ovr hAp rfl (r_move (hAp.get rfl)) fun _ => Eq.refl _
   ·intro a w hT
    have hAp := hT.ag i [(0, Sl.v f)] ⟨rfl, trivial⟩ (by kernel_rfl)
    have bi : a.tmps.getD 20 undef = .bool (!c) := hT.vals 7 rfl 20 rfl
    have hAp := hAp.add bi
    exact opk_gval hAp rfl rfl (g := true) (e := (!c)) rfl (fun hg => r_move (hAp.get rfl)) fun _ _ e => ⟨_, e, Chg.refl _ _, fun _ => Eq.refl _⟩
   ·intro a w hT
    have hAp := hT.ag i [(3, .int .i64 b)] ⟨rfl, trivial⟩ (by kernel_rfl)
    have bj : a.tmps.getD 20 undef = .bool (!c) := hT.vals 7 rfl 20 rfl
    have hAp := hAp.add bj
    exact opk_gval hAp rfl rfl (g := true) (e := (!c)) rfl (fun hg => r_move (hAp.get rfl)) fun _ _ e => ⟨_, e, Chg.refl _ _, fun _ => Eq.refl _⟩
   ·intro a w hT
    have hAp := hT.ag i [] trivial (by kernel_rfl)
    have bk : a.tmps.getD 20 undef = .bool (!c) := hT.vals 7 rfl 20 rfl
    have hAp := hAp.add bk
    have bl : a.tmps.getD 21 undef = cV (true && ((!c) == false)) (Sl.v f) := hT.vals 8 rfl 21 rfl
    have hAp := hAp.add bl
    have bm : a.tmps.getD 22 undef = cV (true && ((!c) == false)) (.int .i64 b) := hT.vals 9 rfl 22 rfl
    have hAp := hAp.add bm
    exact opk_gval hAp rfl rfl (g := true) (e := (!c)) rfl (fun hg => r_indexAddr (cv_get (hAp.get rfl) hg) (cv_get (hAp.get rfl) hg) Try.underlying26 ti_65 (ap (b_not_f (g_f hg))).1 (ap (b_not_f (g_f hg))).2) fun _ _ e => ⟨_, e, Chg.refl _ _, fun _ => Eq.refl _⟩
   ·intro a w hT
    have hAp := hT.ag i [] trivial (by kernel_rfl)
    have bn : a.tmps.getD 20 undef = .bool (!c) := hT.vals 7 rfl 20 rfl
    have hAp := hAp.add bn
    have bo : a.tmps.getD 23 undef = cV (true && ((!c) == false)) (.pointer (some (q.add (b.toNat * 2)))) := hT.vals 10 rfl 23 rfl
    have hAp := hAp.add bo
    exact opk_gval hAp rfl rfl (g := true) (e := (!c)) rfl (fun hg => r_fieldAddr (cv_get (hAp.get rfl) hg) Try.underlying65 rfl ti_9 (by decide)) fun _ _ e => ⟨_, e, Chg.refl _ _, fun _ => Eq.refl _⟩
   ·intro a w hT
    have hAp := hT.ag i [] trivial (by kernel_rfl)
    have bp : a.tmps.getD 20 undef = .bool (!c) := hT.vals 7 rfl 20 rfl
    have hAp := hAp.add bp
    have bq : a.tmps.getD 24 undef = cV (true && ((!c) == false)) (.pointer (some ((q.add (b.toNat * 2)).add 1))) := hT.vals 11 rfl 24 rfl
    have hAp := hAp.add bq
    exact opk_gval hAp rfl rfl (g := true) (e := (!c)) rfl (fun hg => r_load1 Try.underlying9 rfl (cv_get (hAp.get rfl) hg) (Ext.cell hT.chg (hx180 (b_not_f (g_f hg))))) fun _ _ e => ⟨_, e, Chg.refl _ _, fun _ => Eq.refl _⟩
   ·intro a w hT
    have hAp := hT.ag i [] trivial (by kernel_rfl)
    have br : a.tmps.getD 20 undef = .bool (!c) := hT.vals 7 rfl 20 rfl
    have hAp := hAp.add br
    have bs : a.tmps.getD 25 undef = cV (true && ((!c) == false)) (.string (Bs d)) := hT.vals 12 rfl 25 rfl
    have hAp := hAp.add bs
    exact opk_gval hAp rfl rfl (g := true) (e := (!c)) rfl (fun hg => r_slen (cv_get (hAp.get rfl) hg) Try.underlying9) fun _ _ e => ⟨_, e, Chg.refl _ _, fun _ => Eq.refl _⟩
   ·intro a w hT
    have hAp := hT.ag i [] trivial (by kernel_rfl)
    have bt : a.tmps.getD 20 undef = .bool (!c) := hT.vals 7 rfl 20 rfl
    have hAp := hAp.add bt
    have bu : a.tmps.getD 26 undef = cV (true && ((!c) == false)) (.int .i64 (d.length : Int)) := hT.vals 13 rfl 26 rfl
    have hAp := hAp.add bu
    exact opk_gval hAp rfl rfl (g := true) (e := (!c)) rfl (fun hg => r_gtr (cv_get (hAp.get rfl) hg) rfl) fun _ _ e => ⟨_, e, Chg.refl _ _, fun _ => Eq.refl _⟩
   ·intro a w hT
    have hAp := hT.ag i [] trivial (by kernel_rfl)
    have bv : a.tmps.getD 20 undef = .bool (!c) := hT.vals 7 rfl 20 rfl
    have hAp := hAp.add bv
    have bx : a.tmps.getD 27 undef = cV (true && ((!c) == false)) (.bool (decide (4096 < (d.length : Int)))) := hT.vals 14 rfl 27 rfl
    have hAp := hAp.add bx
    exact ovr hAp rfl (r_pick_or (g := (true && ((!c) == false))) (hAp.get rfl) (hAp.get rfl) (fun he => g_mkf rfl he)) fun _ => Eq.refl _
   ·intro a w hT
    have hAp := hT.ag i [] trivial (by kernel_rfl)
    have bz : a.tmps.getD 28 undef = .bool ((!c) || (decide (4096 < (d.length : Int)))) := hT.vals 15 rfl 28 rfl
    have hAp := hAp.add bz
    exact ovr hAp rfl (r_move (hAp.get rfl)) fun _ => Eq.refl _
   ·intro a w hT
    have hAp := hT.ag i [(3, .int .i64 b)] ⟨rfl, trivial⟩ (by kernel_rfl)
    have bA : a.tmps.getD 29 undef = .bool ((!c) || (decide (4096 < (d.length : Int)))) := hT.vals 16 rfl 29 rfl
    have hAp := hAp.add bA
    exact opk_gval hAp rfl rfl (g := true) (e := ((!c) || (decide (4096 < (d.length : Int))))) rfl (fun hg => r_move (hAp.get rfl)) fun _ _ e => ⟨_, e, Chg.refl _ _, fun _ => Eq.refl _⟩
   ·intro a w hT
    have hAp := hT.ag i [] trivial (by kernel_rfl)
    have bB : a.tmps.getD 29 undef = .bool ((!c) || (decide (4096 < (d.length : Int)))) := hT.vals 16 rfl 29 rfl
    have hAp := hAp.add bB
    have bC : a.tmps.getD 30 undef = cV (true && (((!c) || (decide (4096 < (d.length : Int)))) == false)) (.int .i64 b) := hT.vals 17 rfl 30 rfl
    have hAp := hAp.add bC
    exact opk_gval hAp rfl rfl (g := true) (e := ((!c) || (decide (4096 < (d.length : Int))))) rfl (fun hg => r_gtr (cv_get (hAp.get rfl) hg) rfl) fun _ _ e => ⟨_, e, Chg.refl _ _, fun _ => Eq.refl _⟩
   ·intro a w hT
    have hAp := hT.ag i [] trivial (by kernel_rfl)
    have bD : a.tmps.getD 29 undef = .bool ((!c) || (decide (4096 < (d.length : Int)))) := hT.vals 16 rfl 29 rfl
    have hAp := hAp.add bD
    have bF : a.tmps.getD 31 undef = cV (true && (((!c) || (decide (4096 < (d.length : Int)))) == false)) (.bool (decide (0 < b))) := hT.vals 18 rfl 31 rfl
    have hAp := hAp.add bF
    exact opk_gval hAp rfl rfl (g := true) (e := ((!c) || (decide (4096 < (d.length : Int))))) rfl (fun hg => r_move (cv_get (hAp.get rfl) hg)) fun _ _ e => ⟨_, e, Chg.refl _ _, fun _ => Eq.refl _⟩
   ·intro a w hT
    have hAp := hT.ag i [(0, Sl.v f)] ⟨rfl, trivial⟩ (by kernel_rfl)
    have bG : a.tmps.getD 32 undef = cV (true && (((!c) || (decide (4096 < (d.length : Int)))) == false)) (.bool (decide (0 < b))) := hT.vals 19 rfl 32 rfl
    have hAp := hAp.add bG
    exact opk_gval hAp rfl rfl (g := (true && (((!c) || (decide (4096 < (d.length : Int)))) == false))) (e := (decide (0 < b))) rfl (fun hg => r_move (hAp.get rfl)) fun _ _ e => ⟨_, e, Chg.refl _ _, fun _ => Eq.refl _⟩
   ·intro a w hT
    have hAp := hT.ag i [(3, .int .i64 b)] ⟨rfl, trivial⟩ (by kernel_rfl)
    have bH : a.tmps.getD 32 undef = cV (true && (((!c) || (decide (4096 < (d.length : Int)))) == false)) (.bool (decide (0 < b))) := hT.vals 19 rfl 32 rfl
    have hAp := hAp.add bH
    exact opk_gval hAp rfl rfl (g := (true && (((!c) || (decide (4096 < (d.length : Int)))) == false))) (e := (decide (0 < b))) rfl (fun hg => r_move (hAp.get rfl)) fun _ _ e => ⟨_, e, Chg.refl _ _, fun _ => Eq.refl _⟩
   ·intro a w hT
    have hAp := hT.ag i [] trivial (by kernel_rfl)
    have bI : a.tmps.getD 32 undef = cV (true && (((!c) || (decide (4096 < (d.length : Int)))) == false)) (.bool (decide (0 < b))) := hT.vals 19 rfl 32 rfl
    have hAp := hAp.add bI
    have bJ : a.tmps.getD 33 undef = cV ((true && (((!c) || (decide (4096 < (d.length : Int)))) == false)) && ((decide (0 < b)) == true)) (Sl.v f) := hT.vals 20 rfl 33 rfl
    have hAp := hAp.add bJ
    have bK : a.tmps.getD 34 undef = cV ((true && (((!c) || (decide (4096 < (d.length : Int)))) == false)) && ((decide (0 < b)) == true)) (.int .i64 b) := hT.vals 21 rfl 34 rfl
    have hAp := hAp.add bK
    exact opk_gval hAp rfl rfl (g := (true && (((!c) || (decide (4096 < (d.length : Int)))) == false))) (e := (decide (0 < b))) rfl (fun hg => r_indexAddr (cv_get (hAp.get rfl) hg) (cv_get (hAp.get rfl) hg) Try.underlying26 ti_65 (aq ⟨⟨(b_not_f (b_or_f (g_f (g_up hg))).1), (of_decide_eq_false (b_or_f (g_f (g_up hg))).2)⟩, (of_decide_eq_true (g_t hg))⟩).1 (aq ⟨⟨(b_not_f (b_or_f (g_f (g_up hg))).1), (of_decide_eq_false (b_or_f (g_f (g_up hg))).2)⟩, (of_decide_eq_true (g_t hg))⟩).2) fun _ _ e => ⟨_, e, Chg.refl _ _, fun _ => Eq.refl _⟩
   ·intro a w hT
    have hAp := hT.ag i [] trivial (by kernel_rfl)
    have bL : a.tmps.getD 32 undef = cV (true && (((!c) || (decide (4096 < (d.length : Int)))) == false)) (.bool (decide (0 < b))) := hT.vals 19 rfl 32 rfl
    have hAp := hAp.add bL
    have bM : a.tmps.getD 35 undef = cV ((true && (((!c) || (decide (4096 < (d.length : Int)))) == false)) && ((decide (0 < b)) == true)) (.pointer (some (r.add (b.toNat * 2)))) := hT.vals 22 rfl 35 rfl
    have hAp := hAp.add bM
    exact opk_gval hAp rfl rfl (g := (true && (((!c) || (decide (4096 < (d.length : Int)))) == false))) (e := (decide (0 < b))) rfl (fun hg => r_fieldAddr (cv_get (hAp.get rfl) hg) Try.underlying65 rfl ti_9 (by decide)) fun _ _ e => ⟨_, e, Chg.refl _ _, fun _ => Eq.refl _⟩
   ·intro a w hT
    have hAp := hT.ag i [] trivial (by kernel_rfl)
    have bN : a.tmps.getD 32 undef = cV (true && (((!c) || (decide (4096 < (d.length : Int)))) == false)) (.bool (decide (0 < b))) := hT.vals 19 rfl 32 rfl
    have hAp := hAp.add bN
    have bO : a.tmps.getD 36 undef = cV ((true && (((!c) || (decide (4096 < (d.length : Int)))) == false)) && ((decide (0 < b)) == true)) (.pointer (some ((r.add (b.toNat * 2)).add 0))) := hT.vals 23 rfl 36 rfl
    have hAp := hAp.add bO
    exact opk_gval hAp rfl rfl (g := (true && (((!c) || (decide (4096 < (d.length : Int)))) == false))) (e := (decide (0 < b))) rfl (fun hg => r_load1 Try.underlying9 rfl (cv_get (hAp.get rfl) hg) (Ext.cell hT.chg (a3 ⟨⟨(b_not_f (b_or_f (g_f (g_up hg))).1), (of_decide_eq_false (b_or_f (g_f (g_up hg))).2)⟩, (of_decide_eq_true (g_t hg))⟩))) fun _ _ e => ⟨_, e, Chg.refl _ _, fun _ => Eq.refl _⟩
   ·intro a w hT
    have hAp := hT.ag i [(0, Sl.v f)] ⟨rfl, trivial⟩ (by kernel_rfl)
    have bP : a.tmps.getD 32 undef = cV (true && (((!c) || (decide (4096 < (d.length : Int)))) == false)) (.bool (decide (0 < b))) := hT.vals 19 rfl 32 rfl
    have hAp := hAp.add bP
    exact opk_gval hAp rfl rfl (g := (true && (((!c) || (decide (4096 < (d.length : Int)))) == false))) (e := (decide (0 < b))) rfl (fun hg => r_move (hAp.get rfl)) fun _ _ e => ⟨_, e, Chg.refl _ _, fun _ => Eq.refl _⟩
   ·intro a w hT
    have hAp := hT.ag i [(3, .int .i64 b)] ⟨rfl, trivial⟩ (by kernel_rfl)
    have bQ : a.tmps.getD 32 undef = cV (true && (((!c) || (decide (4096 < (d.length : Int)))) == false)) (.bool (decide (0 < b))) := hT.vals 19 rfl 32 rfl
    have hAp := hAp.add bQ
    exact opk_gval hAp rfl rfl (g := (true && (((!c) || (decide (4096 < (d.length : Int)))) == false))) (e := (decide (0 < b))) rfl (fun hg => r_move (hAp.get rfl)) fun _ _ e => ⟨_, e, Chg.refl _ _, fun _ => Eq.refl _⟩
   ·intro a w hT
    have hAp := hT.ag i [] trivial (by kernel_rfl)
    have bR : a.tmps.getD 32 undef = cV (true && (((!c) || (decide (4096 < (d.length : Int)))) == false)) (.bool (decide (0 < b))) := hT.vals 19 rfl 32 rfl
    have hAp := hAp.add bR
    have bS : a.tmps.getD 39 undef = cV ((true && (((!c) || (decide (4096 < (d.length : Int)))) == false)) && ((decide (0 < b)) == true)) (.int .i64 b) := hT.vals 26 rfl 39 rfl
    have hAp := hAp.add bS
    exact opk_gval hAp rfl rfl (g := (true && (((!c) || (decide (4096 < (d.length : Int)))) == false))) (e := (decide (0 < b))) rfl (fun hg => r_subI (cv_get (hAp.get rfl) hg) rfl (a5 ⟨⟨(b_not_f (b_or_f (g_f (g_up hg))).1), (of_decide_eq_false (b_or_f (g_f (g_up hg))).2)⟩, (of_decide_eq_true (g_t hg))⟩)) fun _ _ e => ⟨_, e, Chg.refl _ _, fun _ => Eq.refl _⟩
   ·intro a w hT
    have hAp := hT.ag i [] trivial (by kernel_rfl)
    have bT : a.tmps.getD 32 undef = cV (true && (((!c) || (decide (4096 < (d.length : Int)))) == false)) (.bool (decide (0 < b))) := hT.vals 19 rfl 32 rfl
    have hAp := hAp.add bT
    have bU : a.tmps.getD 38 undef = cV ((true && (((!c) || (decide (4096 < (d.length : Int)))) == false)) && ((decide (0 < b)) == true)) (Sl.v f) := hT.vals 25 rfl 38 rfl
    have hAp := hAp.add bU
    have bV : a.tmps.getD 40 undef = cV ((true && (((!c) || (decide (4096 < (d.length : Int)))) == false)) && ((decide (0 < b)) == true)) (.int .i64 (b - 1)) := hT.vals 27 rfl 40 rfl
    have hAp := hAp.add bV
    exact opk_gval hAp rfl rfl (g := (true && (((!c) || (decide (4096 < (d.length : Int)))) == false))) (e := (decide (0 < b))) rfl (fun hg => r_indexAddr (cv_get (hAp.get rfl) hg) (cv_get (hAp.get rfl) hg) Try.underlying26 ti_65 (ar ⟨⟨(b_not_f (b_or_f (g_f (g_up hg))).1), (of_decide_eq_false (b_or_f (g_f (g_up hg))).2)⟩, (of_decide_eq_true (g_t hg))⟩).1 (ar ⟨⟨(b_not_f (b_or_f (g_f (g_up hg))).1), (of_decide_eq_false (b_or_f (g_f (g_up hg))).2)⟩, (of_decide_eq_true (g_t hg))⟩).2) fun _ _ e => ⟨_, e, Chg.refl _ _, fun _ => Eq.refl _⟩
   ·intro a w hT
    have hAp := hT.ag i [] trivial (by kernel_rfl)
    have bX : a.tmps.getD 32 undef = cV (true && (((!c) || (decide (4096 < (d.length : Int)))) == false)) (.bool (decide (0 < b))) := hT.vals 19 rfl 32 rfl
    have hAp := hAp.add bX
    have bY : a.tmps.getD 41 undef = cV ((true && (((!c) || (decide (4096 < (d.length : Int)))) == false)) && ((decide (0 < b)) == true)) (.pointer (some (t.add ((b - 1).toNat * 2)))) := hT.vals 28 rfl 41 rfl
    have hAp := hAp.add bY
    exact opk_gval hAp rfl rfl (g := (true && (((!c) || (decide (4096 < (d.length : Int)))) == false))) (e := (decide (0 < b))) rfl (fun hg => r_fieldAddr (cv_get (hAp.get rfl) hg) Try.underlying65 rfl ti_9 (by decide)) fun _ _ e => ⟨_, e, Chg.refl _ _, fun _ => Eq.refl _⟩
   ·intro a w hT
    have hAp := hT.ag i [] trivial (by kernel_rfl)
    have bZ : a.tmps.getD 32 undef = cV (true && (((!c) || (decide (4096 < (d.length : Int)))) == false)) (.bool (decide (0 < b))) := hT.vals 19 rfl 32 rfl
    have hAp := hAp.add bZ
    have b0 : a.tmps.getD 42 undef = cV ((true && (((!c) || (decide (4096 < (d.length : Int)))) == false)) && ((decide (0 < b)) == true)) (.pointer (some ((t.add ((b - 1).toNat * 2)).add 0))) := hT.vals 29 rfl 42 rfl
    have hAp := hAp.add b0
    exact opk_gval hAp rfl rfl (g := (true && (((!c) || (decide (4096 < (d.length : Int)))) == false))) (e := (decide (0 < b))) rfl (fun hg => r_load1 Try.underlying9 rfl (cv_get (hAp.get rfl) hg) (Ext.cell hT.chg (a8 ⟨⟨(b_not_f (b_or_f (g_f (g_up hg))).1), (of_decide_eq_false (b_or_f (g_f (g_up hg))).2)⟩, (of_decide_eq_true (g_t hg))⟩))) fun _ _ e => ⟨_, e, Chg.refl _ _, fun _ => Eq.refl _⟩
   ·intro a w hT
    have hAp := hT.ag i [] trivial (by kernel_rfl)
    have b1 : a.tmps.getD 32 undef = cV (true && (((!c) || (decide (4096 < (d.length : Int)))) == false)) (.bool (decide (0 < b))) := hT.vals 19 rfl 32 rfl
    have hAp := hAp.add b1
    have b2 : a.tmps.getD 37 undef = cV ((true && (((!c) || (decide (4096 < (d.length : Int)))) == false)) && ((decide (0 < b)) == true)) (.string (Bs j)) := hT.vals 24 rfl 37 rfl
    have hAp := hAp.add b2
    have b3 : a.tmps.getD 43 undef = cV ((true && (((!c) || (decide (4096 < (d.length : Int)))) == false)) && ((decide (0 < b)) == true)) (.string (Bs k)) := hT.vals 30 rfl 43 rfl
    have hAp := hAp.add b3
    exact opk_gval hAp rfl rfl (g := (true && (((!c) || (decide (4096 < (d.length : Int)))) == false))) (e := (decide (0 < b))) rfl (fun hg => r_sleq (cv_get (hAp.get rfl) hg) (cv_get (hAp.get rfl) hg)) fun _ _ e => ⟨_, e, Chg.refl _ _, fun _ => Eq.refl _⟩
   ·intro a w hT
    have hAp := hT.ag i [] trivial (by kernel_rfl)
    have b4 : a.tmps.getD 29 undef = .bool ((!c) || (decide (4096 < (d.length : Int)))) := hT.vals 16 rfl 29 rfl
    have hAp := hAp.add b4
    have b5 : a.tmps.getD 32 undef = cV (true && (((!c) || (decide (4096 < (d.length : Int)))) == false)) (.bool (decide (0 < b))) := hT.vals 19 rfl 32 rfl
    have hAp := hAp.add b5
    have b6 : a.tmps.getD 44 undef = cV ((true && (((!c) || (decide (4096 < (d.length : Int)))) == false)) && ((decide (0 < b)) == true)) (.bool ((Op.bytesLess j k) || (decide (j = k)))) := hT.vals 31 rfl 44 rfl
    have hAp := hAp.add b6
    exact opk_gval hAp rfl rfl (g := true) (e := ((!c) || (decide (4096 < (d.length : Int))))) rfl (fun hg => r_pick_and (g := ((true && (((!c) || (decide (4096 < (d.length : Int)))) == false)) && ((decide (0 < b)) == true))) (cv_get (hAp.get rfl) hg) (hAp.get rfl) (fun he => g_mkt hg he)) fun _ _ e => ⟨_, e, Chg.refl _ _, fun _ => Eq.refl _⟩
   ·intro a w hT
    have hAp := hT.ag i [] trivial (by kernel_rfl)
    have b7 : a.tmps.getD 29 undef = .bool ((!c) || (decide (4096 < (d.length : Int)))) := hT.vals 16 rfl 29 rfl
    have hAp := hAp.add b7
    have b8 : a.tmps.getD 45 undef = cV (true && (((!c) || (decide (4096 < (d.length : Int)))) == false)) (.bool ((decide (0 < b)) && ((Op.bytesLess j k) || (decide (j = k))))) := hT.vals 32 rfl 45 rfl
    have hAp := hAp.add b8
    exact ovr hAp rfl (r_pick_or (g := (true && (((!c) || (decide (4096 < (d.length : Int)))) == false))) (hAp.get rfl) (hAp.get rfl) (fun he => g_mkf rfl he)) fun _ => Eq.refl _
   ·intro b9 m ca cb cc
    have cd := cb [(0, Sl.v f), (3, .int .i64 b)] ⟨rfl, rfl, trivial⟩ (by kernel_rfl)
    have cf : b9.tmps.getD 46 undef = .bool (((!c) || (decide (4096 < (d.length : Int)))) || ((decide (0 < b)) && ((Op.bytesLess j k) || (decide (j = k))))) := cc 33 rfl 46 rfl
    have cg := cd.add cf
    have av : Chg [] l m := ca
    refine PR_end (by kernel_rfl) ?_
    have z := cg.keep [(0, Sl.v f), (3, .int .i64 b), (46, .bool (((!c) || (decide (4096 < (d.length : Int)))) || ((decide (0 < b)) && ((Op.bytesLess j k) || (decide (j = k))))))] ⟨rfl, rfl, rfl, trivial⟩
    refine then_normal ?_
    refine wp_cond_split (z.get rfl) (fun hc => ?_) (fun hc => ?_)
    ·have ch := au.1 ((b_or_t hc).imp (fun h => ((b_or_t h).imp (fun h => (b_not_t h)) (fun h => (of_decide_eq_true h)))) (fun h => ⟨(of_decide_eq_true (b_and_t h).1), ((b_or_t (b_and_t h).2).imp (fun h => h) (fun h => (of_decide_eq_true h)))⟩))
     clear hc
     refine wp_seq (wp_region_lit ?_)
     refine sqv z rfl (r_assign rfl) fun _ ci => ?_
     refine sq_end ?_
     have ax := ci.keep [(2, .bool false)] ⟨rfl, trivial⟩
     refine then_normal ?_
     refine wp_ret ?_
     refine block_ret ?_
     refine then_ret ?_
     refine then_ret ?_
     refine block_ret ?_
     refine then_ret ?_
     have cj := ch m    av
     exact res_all (vs := [.bool false]) rfl ax ⟨res_of_tmp ax rfl, trivial⟩ cj
    ·have ck := au.2 ⟨⟨(b_not_f (b_or_f (b_or_f hc).1).1), (of_decide_eq_false (b_or_f (b_or_f hc).1).2)⟩, ((b_and_f (b_or_f hc).2).imp (fun h => (of_decide_eq_false h)) (fun h => ⟨(b_or_f h).1, (of_decide_eq_false (b_or_f h).2)⟩))⟩
     clear hc
     refine wp_skip ?_
     refine block_normal ?_
     refine then_normal (wp_region_lit ?_)
     refine sqv z rfl (r_move (z.get rfl)) fun _ ay => ?_
     obtain ⟨cl, cm⟩ := ck
     refine sqv ay rfl (r_addI (ay.get rfl) rfl cl) fun _ az => ?_
     refine sqv az rfl (r_assign (az.get rfl)) fun _ cn => ?_
     refine sq_end ?_
     have co := cn.keep [(0, Sl.v f), (3, .int .i64 (b + 1))] ⟨rfl, rfl, trivial⟩
     have aA := cm m    av
     have cp := co.keep [(0, Sl.v f), (3, .int .i64 (b + 1))] ⟨rfl, rfl, trivial⟩
     exact then_normal ⟨(b + 1, m), ⟨cp, rfl, aA.1⟩, aA.2⟩
  ·have cq := al.2 (of_decide_eq_false hc)
   clear hc
   refine wp_exit ?_
   refine then_exit ?_
   refine then_exit ?_
   refine block_hit ?_
   have cr := i.keep [] trivial
   refine then_normal (wp_seq (wp_region_lit ?_))
   refine sqv cr rfl (r_assign rfl) fun _ cs => ?_
   refine sq_end ?_
   have aB := cs.keep [(2, .bool true)] ⟨rfl, trivial⟩
   refine then_normal ?_
   refine wp_ret ?_
   exact res_all (vs := [.bool true]) rfl aB ⟨res_of_tmp aB rfl, trivial⟩ cq
end Go.Proofs.Ytghmgfkdnolcdaa
