/-
  PRINTED BY PROGRAM: for each function its condition (vc), and that this suffices (ok).
-/
import Derived.Test.YtghmgfkdnolcdaaQApplyNoneGT
namespace Go.Proofs.Ytghmgfkdnolcdaa
open Go.RowKit
set_option linter.unusedVariables false
set_option maxHeartbeats 1000000
set_option maxRecDepth 10000
def tree_kids.vc (k : Int) (t : Str) (u : Str) (x : Sl) (b : Sl) (R : Value → World → Prop) (w : World) : Prop :=
∀ (l : World) (d : Nat), New w d l → Chg [] w l →
∃ (z : Int → World → Prop) (ad : Int → World → Nat),
z 0 l ∧
(∀ (c : Int) (j : World), z c j →
((c < (b.n : Int)) →
((0 : Int) ≤ c ∧ c < (b.n : Int)) ∧ ∃ ag : Addr, b.a = some ag ∧
∃ (f : Int) (m : Str) (o : Str) (p : Sl) (q : Sl), (Cells j (ag.add (c.toNat * 5)) [.int .i64 f, .string (Bs m), .string (Bs o), Sl.v p, Sl.v q]) ∧
∀ (y : World) (r : Nat), New j r y → Chg [] j y →
CallK Try.prog 83 #[.agg #[.int .i64 f, .string (Bs m), .string (Bs o), Sl.v p, Sl.v q]] y [d, r] (fun v aa => ∃ (i : Bool), v = .bool i ∧
(((i = false) ∨ ((f = 5) ∧ (k ≠ 1))) →
R (.bool false) aa) ∧
(((i = true) ∧ ((¬ (f = 5)) ∨ (¬ (k ≠ 1)))) →
(I64 (c + 1)) ∧
z (c + 1) aa ∧ ad (c + 1) aa < ad c j))) ∧
((¬ (c < (b.n : Int))) →
R (.bool true) j))
theorem tree_kids.ok (k : Int) (t : Str) (u : Str) (x : Sl) (b : Sl) {R : Value → World → Prop} {w : World} (am : tree_kids.vc k t u x b R w) : Calls Try.prog 63 #[.agg #[.int .i64 k, .string (Bs t), .string (Bs u), Sl.v x, Sl.v b]] w (Ret R) := by
 refine enter [.agg #[.int .i64 k, .string (Bs t), .string (Bs u), Sl.v x, Sl.v b]] Try.func63 rfl Try.ntmps63 rfl ?_
 intro a0 an
 unfold tree_kids.vc at am
 refine wp_seq (wp_region_lit ?_)
 refine sq (opk_new (fun B => .pointer (some ⟨B, 0, none⟩)) an rfl (r_box (cs := [.int .i64 k, .string (Bs t), .string (Bs u), Sl.v x, Sl.v b]) (an.get rfl) rfl) fun a4 l d aY aZ ao hA4 _ => ?_)
 have a1 : New w d l := aZ
 have a2 : Chg [] w l := aY
 refine sqv hA4 rfl (r_assign rfl) fun _ a3 => ?_
 refine sq_end ?_
 have ap := a3.keep [(1, .pointer (some (⟨d, 0, none⟩ : Addr)))] ⟨rfl, trivial⟩
 refine then_normal (wp_seq (wp_seq (wp_region_lit ?_)))
 refine sqv ap rfl (r_fieldAddr (ap.get rfl) Try.underlying29 rfl ti_27 (by decide)) fun _ aq => ?_
 refine sqv aq rfl (r_load1 Try.underlying27 rfl (aq.get rfl) (ao.cell 4 _ rfl)) fun _ ar => ?_
 refine sqv ar rfl (r_len (ar.get rfl) Try.underlying27) fun _ hA14 => ?_
 refine sqv hA14 rfl (r_move rfl) fun _ a5 => ?_
 refine sq_end ?_
 have a6 := a5.keep [(1, .pointer (some (⟨d, 0, none⟩ : Addr))), (6, Sl.v b), (7, .int .i64 (b.n : Int)), (8, .int .i64 0)] ⟨rfl, rfl, rfl, rfl, trivial⟩
 refine then_normal (wp_block ?_)
 have a7 := am l d a1  a2
 obtain ⟨z, ad, a8, a9⟩ := a7
 refine wp_loop_st (σ := Int × World) (fun s a w => Ag 26 a [(1, .pointer (some (⟨d, 0, none⟩ : Addr))), (6, Sl.v b), (7, .int .i64 (b.n : Int)), (8, .int .i64 s.1)] ∧ Box w d 29 [.int .i64 k, .string (Bs t), .string (Bs u), Sl.v x, Sl.v b] ∧ w = s.2 ∧ z s.1 s.2) (fun s => ad s.1 s.2) (0, l) ⟨a6.keep [(1, .pointer (some (⟨d, 0, none⟩ : Addr))), (6, Sl.v b), (7, .int .i64 (b.n : Int)), (8, .int .i64 0)] ⟨rfl, rfl, rfl, rfl, trivial⟩, ao, rfl, a8⟩ ?_
 rintro ⟨c, j⟩ bM w_ ⟨ah, au, hw_, ba⟩
 have hw_ : j = w_ := hw_.symm
 subst hw_
 have av := a9 c _ ba
 refine wp_seq (wp_region_lit ?_)
 refine sqv ah rfl (r_lss (ah.get rfl) (ah.get rfl)) fun _ bb => ?_
 refine sq_end ?_
 have ab := bb.keep [(1, .pointer (some (⟨d, 0, none⟩ : Addr))), (6, Sl.v b), (7, .int .i64 (b.n : Int)), (8, .int .i64 c), (9, .bool (decide (c < (b.n : Int))))] ⟨rfl, rfl, rfl, rfl, rfl, trivial⟩
 refine then_normal (wp_seq ?_)
 refine wp_cond_split (ab.get rfl) (fun hc => ?_) (fun hc => ?_)
 ·have bd := av.1 (of_decide_eq_true hc)
  clear hc
  refine wp_skip ?_
  refine then_normal (wp_seq (wp_block (wp_seq (wp_region_lit ?_))))
  obtain ⟨bf, ag, bg, bh⟩ := bd
  refine sqv ab rfl (r_indexAddr (ab.get rfl) (ab.get rfl) Try.underlying27 ti_29 bf bg) fun _ ax => ?_
  obtain ⟨f, m, o, p, q, bi, bj⟩ := bh
  refine sqv ax rfl (r_loadN Try.underlying29 rfl ti_29 (ax.get rfl) bi) fun _ bk => ?_
  refine sq (opk_new (fun B => .pointer (some ⟨B, 0, none⟩)) bk rfl (r_alloc (cs := [.int .i64 0, .string (Bs ([] : Str)), .string (Bs ([] : Str)), Sl.v Sl.nil, Sl.v Sl.nil]) ti_29 rfl) fun bN ay r az aA aB ai _ => ?_)
  have bl : d ≠ r := Nat.ne_of_lt (Nat.lt_of_lt_of_le au.lt aA.ge)
  have aC : New j r ay := aA
  have bm := au.ext az
  have bn : Chg [] j ay := az
  refine sq (opk_store ai aB (r_store (vs := [.int .i64 f, .string (Bs m), .string (Bs o), Sl.v p, Sl.v q]) (ai.get rfl) (ai.get rfl) rfl ti_29 aB rfl (ones_all [.int .i64 f, .string (Bs m), .string (Bs o), Sl.v p, Sl.v q] rfl)) fun bO y aj bo bp => ?_)
  have aD : Box y r 29 [.int .i64 f, .string (Bs m), .string (Bs o), Sl.v p, Sl.v q] := bo
  have bq := bm.keep aj (by simpa using bl)
  have br := bn.storeNew aC aj
  have bs := aC.up aj.size
  refine sq_end ?_
  have aF := bp.keep [(1, .pointer (some (⟨d, 0, none⟩ : Addr))), (4, .pointer (some (⟨r, 0, none⟩ : Addr))), (6, Sl.v b), (7, .int .i64 (b.n : Int)), (8, .int .i64 c)] ⟨rfl, rfl, rfl, rfl, rfl, trivial⟩
  refine then_normal (wp_seq (wp_region_lit ?_))
  refine sqv aF rfl (r_loadN (cs := [.int .i64 f, .string (Bs m), .string (Bs o), Sl.v p, Sl.v q]) Try.underlying29 rfl ti_29 (aF.get rfl) (aD.part 0 _ rfl)) fun _ aG => ?_
  have bt := bj y r bs  br
  refine sq (opk_call aG rfl (r_call (args := #[.agg #[.int .i64 f, .string (Bs m), .string (Bs o), Sl.v p, Sl.v q]]) Try.func83 (by decide) rfl (map_arr (ml_cons (aG.get rfl) ml_nil)) rfl) bt fun bP bQ aa aH _ aI bR bu => ?_)
  obtain ⟨i, rfl, aJ⟩ := bu
  have aK := bq.kept aI (.head _)
  have bv := aD.kept aI (.tail _ (.head _))
  refine sqv aH rfl (r_not (aH.get rfl)) fun _ aL => ?_
  refine sqv aL rfl (r_move (aL.get rfl)) fun _ aM => ?_
  refine sq (opk_gval aM rfl rfl (g := true) (e := (!i)) rfl (fun hg => r_fieldAddr (aM.get rfl) Try.underlying29 rfl ti_3 (by decide)) fun bS aN _ => ?_)
  refine sq (opk_gval aN rfl rfl (g := true) (e := (!i)) rfl (fun hg => r_load1 Try.underlying3 rfl (cv_get (aN.get rfl) hg) (bv.cell 0 _ rfl)) fun bT aO _ => ?_)
  refine sq (opk_gval aO rfl rfl (g := true) (e := (!i)) rfl (fun hg => r_eql (cv_get (aO.get rfl) hg) rfl) fun bU aP _ => ?_)
  refine sq (opk_gval aP rfl rfl (g := true) (e := (!i)) rfl (fun hg => r_move (cv_get (aP.get rfl) hg)) fun bV aQ _ => ?_)
  refine sq (opk_gval aQ rfl rfl (g := (true && ((!i) == false))) (e := (decide (f = 5))) rfl (fun hg => r_fieldAddr (aQ.get rfl) Try.underlying29 rfl ti_3 (by decide)) fun bX aR _ => ?_)
  refine sq (opk_gval aR rfl rfl (g := (true && ((!i) == false))) (e := (decide (f = 5))) rfl (fun hg => r_load1 Try.underlying3 rfl (cv_get (aR.get rfl) hg) (aK.cell 0 _ rfl)) fun bY aS _ => ?_)
  refine sq (opk_gval aS rfl rfl (g := (true && ((!i) == false))) (e := (decide (f = 5))) rfl (fun hg => r_neq (cv_get (aS.get rfl) hg) rfl) fun bZ ak _ => ?_)
  refine sq (opk_gval ak rfl rfl (g := true) (e := (!i)) rfl (fun hg => r_pick_and (g := ((true && ((!i) == false)) && ((decide (f = 5)) == true))) (cv_get (ak.get rfl) hg) (ak.get rfl) (fun he => g_mkt hg he)) fun b0 al _ => ?_)
  refine sqv al rfl (r_pick_or (g := (true && ((!i) == false))) (al.get rfl) (al.get rfl) (fun he => g_mkf rfl he)) fun _ bx => ?_
  refine sq_end ?_
  have af := bx.keep [(1, .pointer (some (⟨d, 0, none⟩ : Addr))), (6, Sl.v b), (7, .int .i64 (b.n : Int)), (8, .int .i64 c), (24, .bool ((!i) || ((decide (f = 5)) && (decide (k ≠ 1)))))] ⟨rfl, rfl, rfl, rfl, rfl, trivial⟩
  refine then_normal ?_
  refine wp_cond_split (af.get rfl) (fun hc => ?_) (fun hc => ?_)
  ·have bz := aJ.1 ((b_or_t hc).imp (fun h => (b_not_t h)) (fun h => ⟨(of_decide_eq_true (b_and_t h).1), (of_decide_eq_true (b_and_t h).2)⟩))
   clear hc
   refine wp_seq (wp_region_lit ?_)
   refine sqv af rfl (r_assign rfl) fun _ bA => ?_
   refine sq_end ?_
   have aT := bA.keep [(2, .bool false)] ⟨rfl, trivial⟩
   refine then_normal ?_
   refine wp_ret ?_
   refine block_ret ?_
   refine then_ret ?_
   refine then_ret ?_
   refine block_ret ?_
   refine then_ret ?_
   exact res_all (vs := [.bool false]) rfl aT ⟨res_of_tmp aT rfl, trivial⟩ bz
  ·have bB := aJ.2 ⟨(b_not_f (b_or_f hc).1), ((b_and_f (b_or_f hc).2).imp (fun h => (of_decide_eq_false h)) (fun h => (of_decide_eq_false h)))⟩
   clear hc
   refine wp_skip ?_
   refine block_normal ?_
   refine then_normal (wp_region_lit ?_)
   obtain ⟨bC, aU⟩ := bB
   refine sqv af rfl (r_addI (af.get rfl) rfl bC) fun _ aV => ?_
   refine sqv aV rfl (r_move (aV.get rfl)) fun _ bD => ?_
   refine sq_end ?_
   have bF := bD.keep [(1, .pointer (some (⟨d, 0, none⟩ : Addr))), (6, Sl.v b), (7, .int .i64 (b.n : Int)), (8, .int .i64 (c + 1))] ⟨rfl, rfl, rfl, rfl, trivial⟩
   have bG := bF.keep [(1, .pointer (some (⟨d, 0, none⟩ : Addr))), (6, Sl.v b), (7, .int .i64 (b.n : Int)), (8, .int .i64 (c + 1))] ⟨rfl, rfl, rfl, rfl, trivial⟩
   exact then_normal ⟨(c + 1, aa), ⟨bG, aK, rfl, aU.1⟩, aU.2⟩
 ·have bH := av.2 (of_decide_eq_false hc)
  clear hc
  refine wp_exit ?_
  refine then_exit ?_
  refine then_exit ?_
  refine block_hit ?_
  have bI := ab.keep [] trivial
  refine then_normal (wp_seq (wp_region_lit ?_))
  refine sqv bI rfl (r_assign rfl) fun _ bJ => ?_
  refine sq_end ?_
  have aX := bJ.keep [(2, .bool true)] ⟨rfl, trivial⟩
  refine then_normal ?_
  refine wp_ret ?_
  exact res_all (vs := [.bool true]) rfl aX ⟨res_of_tmp aX rfl, trivial⟩ bH
def tree_node.vc (f : Int) (b : Str) (a : Str) (i : Sl) (l : Sl) (R : Value → World → Prop) (w : World) : Prop :=
((f = 2) →
∀ (c : World) (d : Nat), New w d c → Chg [] w c →
CallK Try.prog 50 #[.string (Bs b)] c [d] (fun v r => ∃ (j : Bool), v = .bool j ∧
∃ (m : Bool), ((((j = true) ∧ (a = ([] : Str)))) → Calls Try.prog 92 #[Sl.v i] r (Ret fun v w' => Ext r w' ∧ v = .bool m)) ∧
(∀ o : World, Ext r o →
∃ (s : Bool), (((((j = true) ∧ (a = ([] : Str))) ∧ (m = true))) → Calls Try.prog 63 #[.agg #[.int .i64 f, .string (Bs b), .string (Bs a), Sl.v i, Sl.v l]] o (Ret fun v w' => Ext o w' ∧ v = .bool s)) ∧
(∀ t : World, Ext o t →
R (.bool (((j && (decide (a = ([] : Str)))) && m) && s)) t)))) ∧
((¬ (f = 2)) →
(((0 < (i.n : Int)) ∨ (0 < (l.n : Int))) →
∀ (c : World) (d : Nat), New w d c → Chg [] w c →
R (.bool false) c) ∧
(((¬ (0 < (i.n : Int))) ∧ (¬ (0 < (l.n : Int)))) →
((f = 3) →
∀ (c : World) (d : Nat), New w d c → Chg [] w c →
R (.bool (((decide (b = ([] : Str))) && (decide (a ≠ ([] : Str)))) && (decide ((a.length : Int) ≤ 4096)))) c) ∧
((¬ (f = 3)) →
((f = 4) →
∀ (c : World) (d : Nat), New w d c → Chg [] w c →
R (.bool ((decide (b = ([] : Str))) && (decide ((a.length : Int) ≤ 4096)))) c) ∧
((¬ (f = 4)) →
((f = 5) →
∀ (c : World) (d : Nat), New w d c → Chg [] w c →
R (.bool ((decide (a = ([] : Str))) && (decide ((b.length : Int) ≤ 32)))) c) ∧
((¬ (f = 5)) →
∀ (c : World) (d : Nat), New w d c → Chg [] w c →
R (.bool false) c)))))
theorem tree_node.ok (f : Int) (b : Str) (a : Str) (i : Sl) (l : Sl) {R : Value → World → Prop} {w : World} (ab : tree_node.vc f b a i l R w) : Calls Try.prog 83 #[.agg #[.int .i64 f, .string (Bs b), .string (Bs a), Sl.v i, Sl.v l]] w (Ret R) := by
 refine enter [.agg #[.int .i64 f, .string (Bs b), .string (Bs a), Sl.v i, Sl.v l]] Try.func83 rfl Try.ntmps83 rfl ?_
 intro a0 ap
 unfold tree_node.vc at ab
 refine wp_seq (wp_region_lit ?_)
 refine sq (opk_new (fun B => .pointer (some ⟨B, 0, none⟩)) ap rfl (r_box (cs := [.int .i64 f, .string (Bs b), .string (Bs a), Sl.v i, Sl.v l]) (ap.get rfl) rfl) fun a4 c d bH bI k bJ _ => ?_)
 have p : New w d c := bI
 have q : Chg [] w c := bH
 refine sqv bJ rfl (r_assign rfl) fun _ bK => ?_
 refine sq_end ?_
 have aq := bK.keep [(1, .pointer (some (⟨d, 0, none⟩ : Addr)))] ⟨rfl, trivial⟩
 refine then_normal (wp_seq (wp_seq (wp_region_lit ?_)))
 refine sqv aq rfl (r_fieldAddr (aq.get rfl) Try.underlying29 rfl ti_3 (by decide)) fun _ ar => ?_
 refine sqv ar rfl (r_load1 Try.underlying3 rfl (ar.get rfl) (k.cell 0 _ rfl)) fun _ au => ?_
 refine sqv au rfl (r_eql (au.get rfl) rfl) fun _ bL => ?_
 refine sq_end ?_
 have u := bL.keep [(1, .pointer (some (⟨d, 0, none⟩ : Addr))), (5, .bool (decide (f = 2)))] ⟨rfl, rfl, trivial⟩
 refine then_normal ?_
 refine wp_cond_split (u.get rfl) (fun hc => ?_) (fun hc => ?_)
 ·have bM := ab.1 (of_decide_eq_true hc)
  clear hc
  refine wp_seq (wp_region_lit ?_)
  refine sqv u rfl (r_fieldAddr (u.get rfl) Try.underlying29 rfl ti_9 (by decide)) fun _ av => ?_
  refine sqv av rfl (r_load1 Try.underlying9 rfl (av.get rfl) (k.cell 1 _ rfl)) fun _ ax => ?_
  have bN := bM c d p  q
  refine sq (opk_call ax rfl (r_call (args := #[.string (Bs b)]) Try.func50 (by decide) rfl (map_arr (ml_cons (ax.get rfl) ml_nil)) rfl) bN fun cm cn r ay _ bO co bP => ?_)
  obtain ⟨j, rfl, bQ⟩ := bP
  have ad := k.kept bO (.head _)
  refine sqv ay rfl (r_move (ay.get rfl)) fun _ az => ?_
  refine sq (opk_gval az rfl rfl (g := true) (e := j) rfl (fun hg => r_fieldAddr (az.get rfl) Try.underlying29 rfl ti_9 (by decide)) fun cp aA _ => ?_)
  refine sq (opk_gval aA rfl rfl (g := true) (e := j) rfl (fun hg => r_load1 Try.underlying9 rfl (cv_get (aA.get rfl) hg) (ad.cell 2 _ rfl)) fun cq aB _ => ?_)
  refine sq (opk_gval aB rfl rfl (g := true) (e := j) rfl (fun hg => r_seql (cv_get (aB.get rfl) hg) rfl) fun cr af _ => ?_)
  refine sqv af rfl (r_pick_and (g := (true && (j == true))) (af.get rfl) (af.get rfl) (fun he => g_mkt rfl he)) fun _ aC => ?_
  refine sqv aC rfl (r_move (aC.get rfl)) fun _ aD => ?_
  refine sq (opk_gval aD rfl rfl (g := true) (e := (j && (decide (a = ([] : Str))))) rfl (fun hg => r_fieldAddr (aD.get rfl) Try.underlying29 rfl ti_26 (by decide)) fun ct aF _ => ?_)
  refine sq (opk_gval aF rfl rfl (g := true) (e := (j && (decide (a = ([] : Str))))) rfl (fun hg => r_load1 Try.underlying26 rfl (cv_get (aF.get rfl) hg) (ad.cell 3 _ rfl)) fun cu aG _ => ?_)
  obtain ⟨m, bR, bS⟩ := bQ
  refine sq (opk_gcall aG rfl rfl (g := true) (e := (j && (decide (a = ([] : Str))))) rfl (fun hg => r_call (args := #[Sl.v i]) Try.func92 (by decide) rfl (map_arr (ml_cons (cv_get (aG.get rfl) hg) ml_nil)) rfl) (fun hg => bR ⟨(b_and_t (g_t hg)).1, (of_decide_eq_true (b_and_t (g_t hg)).2)⟩) fun cv o ag _ ah => ?_)
  have aH := ad.ext ah
  have cx : Chg [] r o := ah
  have bT := bS o ah
  refine sqv ag rfl (r_pick_and (g := (true && ((j && (decide (a = ([] : Str)))) == true))) (ag.get rfl) (ag.get rfl) (fun he => g_mkt rfl he)) fun _ aI => ?_
  refine sqv aI rfl (r_move (aI.get rfl)) fun _ aJ => ?_
  refine sq (opk_gval aJ rfl rfl (g := true) (e := ((j && (decide (a = ([] : Str)))) && m)) rfl (fun hg => r_loadN (cs := [.int .i64 f, .string (Bs b), .string (Bs a), Sl.v i, Sl.v l]) Try.underlying29 rfl ti_29 (aJ.get rfl) (aH.part 0 _ rfl)) fun cy aK _ => ?_)
  obtain ⟨s, bU, bV⟩ := bT
  refine sq (opk_gcall aK rfl rfl (g := true) (e := ((j && (decide (a = ([] : Str)))) && m)) rfl (fun hg => r_call (args := #[.agg #[.int .i64 f, .string (Bs b), .string (Bs a), Sl.v i, Sl.v l]]) Try.func63 (by decide) rfl (map_arr (ml_cons (cv_get (aK.get rfl) hg) ml_nil)) rfl) (fun hg => bU ⟨⟨(b_and_t (b_and_t (g_t hg)).1).1, (of_decide_eq_true (b_and_t (b_and_t (g_t hg)).1).2)⟩, (b_and_t (g_t hg)).2⟩) fun cz t ai _ aj => ?_)
  have cA := aH.ext aj
  have cB : Chg [] o t := aj
  have bX := bV t aj
  refine sqv ai rfl (r_pick_and (g := (true && (((j && (decide (a = ([] : Str)))) && m) == true))) (ai.get rfl) (ai.get rfl) (fun he => g_mkt rfl he)) fun _ aL => ?_
  refine sqv aL rfl (r_assign (aL.get rfl)) fun _ bY => ?_
  refine sq_end ?_
  have aM := bY.keep [(2, .bool (((j && (decide (a = ([] : Str)))) && m) && s))] ⟨rfl, trivial⟩
  refine then_normal ?_
  refine wp_ret ?_
  refine then_ret ?_
  exact res_all (vs := [.bool (((j && (decide (a = ([] : Str)))) && m) && s)]) rfl aM ⟨res_of_tmp aM rfl, trivial⟩ bX
 ·have aN := ab.2 (of_decide_eq_false hc)
  clear hc
  refine wp_skip ?_
  refine then_normal (wp_seq (wp_seq (wp_region_lit ?_)))
  refine sqv u rfl (r_fieldAddr (u.get rfl) Try.underlying29 rfl ti_26 (by decide)) fun _ aO => ?_
  refine sqv aO rfl (r_load1 Try.underlying26 rfl (aO.get rfl) (k.cell 3 _ rfl)) fun _ aP => ?_
  refine sqv aP rfl (r_len (aP.get rfl) Try.underlying26) fun _ aQ => ?_
  refine sqv aQ rfl (r_gtr (aQ.get rfl) rfl) fun _ aR => ?_
  refine sqv aR rfl (r_move (aR.get rfl)) fun _ aS => ?_
  refine sq (opk_gval aS rfl rfl (g := true) (e := (decide (0 < (i.n : Int)))) rfl (fun hg => r_fieldAddr (aS.get rfl) Try.underlying29 rfl ti_27 (by decide)) fun cC aT _ => ?_)
  refine sq (opk_gval aT rfl rfl (g := true) (e := (decide (0 < (i.n : Int)))) rfl (fun hg => r_load1 Try.underlying27 rfl (cv_get (aT.get rfl) hg) (k.cell 4 _ rfl)) fun cD aU _ => ?_)
  refine sq (opk_gval aU rfl rfl (g := true) (e := (decide (0 < (i.n : Int)))) rfl (fun hg => r_len (cv_get (aU.get rfl) hg) Try.underlying27) fun cF aV _ => ?_)
  refine sq (opk_gval aV rfl rfl (g := true) (e := (decide (0 < (i.n : Int)))) rfl (fun hg => r_gtr (cv_get (aV.get rfl) hg) rfl) fun cG ak _ => ?_)
  refine sqv ak rfl (r_pick_or (g := (true && ((decide (0 < (i.n : Int))) == false))) (ak.get rfl) (ak.get rfl) (fun he => g_mkf rfl he)) fun _ bZ => ?_
  refine sq_end ?_
  have z := bZ.keep [(1, .pointer (some (⟨d, 0, none⟩ : Addr))), (32, .bool ((decide (0 < (i.n : Int))) || (decide (0 < (l.n : Int)))))] ⟨rfl, rfl, trivial⟩
  refine then_normal ?_
  refine wp_cond_split (z.get rfl) (fun hc => ?_) (fun hc => ?_)
  ·have b0 := aN.1 ((b_or_t hc).imp (fun h => (of_decide_eq_true h)) (fun h => (of_decide_eq_true h)))
   clear hc
   refine wp_seq (wp_region_lit ?_)
   refine sqv z rfl (r_assign rfl) fun _ b1 => ?_
   refine sq_end ?_
   have aX := b1.keep [(2, .bool false)] ⟨rfl, trivial⟩
   refine then_normal ?_
   refine wp_ret ?_
   refine then_ret ?_
   have b2 := b0 c d p  q
   exact res_all (vs := [.bool false]) rfl aX ⟨res_of_tmp aX rfl, trivial⟩ b2
  ·have aY := aN.2 ⟨(of_decide_eq_false (b_or_f hc).1), (of_decide_eq_false (b_or_f hc).2)⟩
   clear hc
   refine wp_skip ?_
   refine then_normal (wp_seq (wp_seq (wp_region_lit ?_)))
   refine sqv z rfl (r_fieldAddr (z.get rfl) Try.underlying29 rfl ti_3 (by decide)) fun _ aZ => ?_
   refine sqv aZ rfl (r_load1 Try.underlying3 rfl (aZ.get rfl) (k.cell 0 _ rfl)) fun _ b3 => ?_
   refine sq_end ?_
   have hA80 := b3.keep [(1, .pointer (some (⟨d, 0, none⟩ : Addr))), (34, .int .i64 f)] ⟨rfl, rfl, trivial⟩
   refine then_normal (wp_block (wp_seq (wp_region_lit ?_)))
   refine sqv hA80 rfl (r_eql (hA80.get rfl) rfl) fun _ a1 => ?_
   refine sqv a1 rfl (r_assign (a1.get rfl)) fun _ b4 => ?_
   refine sq_end ?_
   have x := b4.keep [(1, .pointer (some (⟨d, 0, none⟩ : Addr))), (34, .int .i64 f), (35, .bool (decide (f = 3)))] ⟨rfl, rfl, rfl, trivial⟩
   refine then_normal ?_
   refine wp_cond_split (x.get rfl) (fun hc => ?_) (fun hc => ?_)
   ·have b5 := aY.1 (of_decide_eq_true hc)
    clear hc
    refine wp_seq (wp_region_lit ?_)
    refine sqv x rfl (r_fieldAddr (x.get rfl) Try.underlying29 rfl ti_9 (by decide)) fun _ a2 => ?_
    refine sqv a2 rfl (r_load1 Try.underlying9 rfl (a2.get rfl) (k.cell 1 _ rfl)) fun _ a3 => ?_
    refine sqv a3 rfl (r_seql (a3.get rfl) rfl) fun _ hA88 => ?_
    refine sqv hA88 rfl (r_move (hA88.get rfl)) fun _ a5 => ?_
    refine sq (opk_gval a5 rfl rfl (g := true) (e := (decide (b = ([] : Str)))) rfl (fun hg => r_fieldAddr (a5.get rfl) Try.underlying29 rfl ti_9 (by decide)) fun cH a6 _ => ?_)
    refine sq (opk_gval a6 rfl rfl (g := true) (e := (decide (b = ([] : Str)))) rfl (fun hg => r_load1 Try.underlying9 rfl (cv_get (a6.get rfl) hg) (k.cell 2 _ rfl)) fun cI a7 _ => ?_)
    refine sq (opk_gval a7 rfl rfl (g := true) (e := (decide (b = ([] : Str)))) rfl (fun hg => r_sneq (cv_get (a7.get rfl) hg) rfl) fun cJ al _ => ?_)
    refine sqv al rfl (r_pick_and (g := (true && ((decide (b = ([] : Str))) == true))) (al.get rfl) (al.get rfl) (fun he => g_mkt rfl he)) fun _ a8 => ?_
    refine sqv a8 rfl (r_move (a8.get rfl)) fun _ a9 => ?_
    refine sq (opk_gval a9 rfl rfl (g := true) (e := ((decide (b = ([] : Str))) && (decide (a ≠ ([] : Str))))) rfl (fun hg => r_fieldAddr (a9.get rfl) Try.underlying29 rfl ti_9 (by decide)) fun cK ba _ => ?_)
    refine sq (opk_gval ba rfl rfl (g := true) (e := ((decide (b = ([] : Str))) && (decide (a ≠ ([] : Str))))) rfl (fun hg => r_load1 Try.underlying9 rfl (cv_get (ba.get rfl) hg) (k.cell 2 _ rfl)) fun cL bb _ => ?_)
    refine sq (opk_gval bb rfl rfl (g := true) (e := ((decide (b = ([] : Str))) && (decide (a ≠ ([] : Str))))) rfl (fun hg => r_slen (cv_get (bb.get rfl) hg) Try.underlying9) fun cM bd _ => ?_)
    refine sq (opk_gval bd rfl rfl (g := true) (e := ((decide (b = ([] : Str))) && (decide (a ≠ ([] : Str))))) rfl (fun hg => r_leq (cv_get (bd.get rfl) hg) rfl) fun cN am _ => ?_)
    refine sqv am rfl (r_pick_and (g := (true && (((decide (b = ([] : Str))) && (decide (a ≠ ([] : Str)))) == true))) (am.get rfl) (am.get rfl) (fun he => g_mkt rfl he)) fun _ bf => ?_
    refine sqv bf rfl (r_assign (bf.get rfl)) fun _ b6 => ?_
    refine sq_end ?_
    have bg := b6.keep [(2, .bool (((decide (b = ([] : Str))) && (decide (a ≠ ([] : Str)))) && (decide ((a.length : Int) ≤ 4096))))] ⟨rfl, trivial⟩
    refine then_normal ?_
    refine wp_ret ?_
    refine block_ret ?_
    refine then_ret ?_
    have b7 := b5 c d p  q
    exact res_all (vs := [.bool (((decide (b = ([] : Str))) && (decide (a ≠ ([] : Str)))) && (decide ((a.length : Int) ≤ 4096)))]) rfl bg ⟨res_of_tmp bg rfl, trivial⟩ b7
   ·have bh := aY.2 (of_decide_eq_false hc)
    clear hc
    refine wp_seq (wp_region_lit ?_)
    refine sqv x rfl (r_eql (x.get rfl) rfl) fun _ bi => ?_
    refine sqv bi rfl (r_assign (bi.get rfl)) fun _ b8 => ?_
    refine sq_end ?_
    have y := b8.keep [(1, .pointer (some (⟨d, 0, none⟩ : Addr))), (34, .int .i64 f), (51, .bool (decide (f = 4)))] ⟨rfl, rfl, rfl, trivial⟩
    refine then_normal ?_
    refine wp_cond_split (y.get rfl) (fun hc => ?_) (fun hc => ?_)
    ·have b9 := bh.1 (of_decide_eq_true hc)
     clear hc
     refine wp_seq (wp_region_lit ?_)
     refine sqv y rfl (r_fieldAddr (y.get rfl) Try.underlying29 rfl ti_9 (by decide)) fun _ bj => ?_
     refine sqv bj rfl (r_load1 Try.underlying9 rfl (bj.get rfl) (k.cell 1 _ rfl)) fun _ bk => ?_
     refine sqv bk rfl (r_seql (bk.get rfl) rfl) fun _ bl => ?_
     refine sqv bl rfl (r_move (bl.get rfl)) fun _ bm => ?_
     refine sq (opk_gval bm rfl rfl (g := true) (e := (decide (b = ([] : Str)))) rfl (fun hg => r_fieldAddr (bm.get rfl) Try.underlying29 rfl ti_9 (by decide)) fun cO bn _ => ?_)
     refine sq (opk_gval bn rfl rfl (g := true) (e := (decide (b = ([] : Str)))) rfl (fun hg => r_load1 Try.underlying9 rfl (cv_get (bn.get rfl) hg) (k.cell 2 _ rfl)) fun cP bo _ => ?_)
     refine sq (opk_gval bo rfl rfl (g := true) (e := (decide (b = ([] : Str)))) rfl (fun hg => r_slen (cv_get (bo.get rfl) hg) Try.underlying9) fun cQ bp _ => ?_)
     refine sq (opk_gval bp rfl rfl (g := true) (e := (decide (b = ([] : Str)))) rfl (fun hg => r_leq (cv_get (bp.get rfl) hg) rfl) fun cR an _ => ?_)
     refine sqv an rfl (r_pick_and (g := (true && ((decide (b = ([] : Str))) == true))) (an.get rfl) (an.get rfl) (fun he => g_mkt rfl he)) fun _ bq => ?_
     refine sqv bq rfl (r_assign (bq.get rfl)) fun _ ca => ?_
     refine sq_end ?_
     have br := ca.keep [(2, .bool ((decide (b = ([] : Str))) && (decide ((a.length : Int) ≤ 4096))))] ⟨rfl, trivial⟩
     refine then_normal ?_
     refine wp_ret ?_
     refine block_ret ?_
     refine then_ret ?_
     have cb := b9 c d p  q
     exact res_all (vs := [.bool ((decide (b = ([] : Str))) && (decide ((a.length : Int) ≤ 4096)))]) rfl br ⟨res_of_tmp br rfl, trivial⟩ cb
    ·have bs := bh.2 (of_decide_eq_false hc)
     clear hc
     refine wp_seq (wp_region_lit ?_)
     refine sqv y rfl (r_eql (y.get rfl) rfl) fun _ bt => ?_
     refine sqv bt rfl (r_assign (bt.get rfl)) fun _ cc => ?_
     refine sq_end ?_
     have aa := cc.keep [(1, .pointer (some (⟨d, 0, none⟩ : Addr))), (62, .bool (decide (f = 5)))] ⟨rfl, rfl, trivial⟩
     refine then_normal ?_
     refine wp_cond_split (aa.get rfl) (fun hc => ?_) (fun hc => ?_)
     ·have cd := bs.1 (of_decide_eq_true hc)
      clear hc
      refine wp_seq (wp_region_lit ?_)
      refine sqv aa rfl (r_fieldAddr (aa.get rfl) Try.underlying29 rfl ti_9 (by decide)) fun _ bu => ?_
      refine sqv bu rfl (r_load1 Try.underlying9 rfl (bu.get rfl) (k.cell 2 _ rfl)) fun _ bv => ?_
      refine sqv bv rfl (r_seql (bv.get rfl) rfl) fun _ bx => ?_
      refine sqv bx rfl (r_move (bx.get rfl)) fun _ bz => ?_
      refine sq (opk_gval bz rfl rfl (g := true) (e := (decide (a = ([] : Str)))) rfl (fun hg => r_fieldAddr (bz.get rfl) Try.underlying29 rfl ti_9 (by decide)) fun cS bA _ => ?_)
      refine sq (opk_gval bA rfl rfl (g := true) (e := (decide (a = ([] : Str)))) rfl (fun hg => r_load1 Try.underlying9 rfl (cv_get (bA.get rfl) hg) (k.cell 1 _ rfl)) fun cT bB _ => ?_)
      refine sq (opk_gval bB rfl rfl (g := true) (e := (decide (a = ([] : Str)))) rfl (fun hg => r_slen (cv_get (bB.get rfl) hg) Try.underlying9) fun cU bC _ => ?_)
      refine sq (opk_gval bC rfl rfl (g := true) (e := (decide (a = ([] : Str)))) rfl (fun hg => r_leq (cv_get (bC.get rfl) hg) rfl) fun cX ao _ => ?_)
      refine sqv ao rfl (r_pick_and (g := (true && ((decide (a = ([] : Str))) == true))) (ao.get rfl) (ao.get rfl) (fun he => g_mkt rfl he)) fun _ bD => ?_
      refine sqv bD rfl (r_assign (bD.get rfl)) fun _ cf => ?_
      refine sq_end ?_
      have bF := cf.keep [(2, .bool ((decide (a = ([] : Str))) && (decide ((b.length : Int) ≤ 32))))] ⟨rfl, trivial⟩
      refine then_normal ?_
      refine wp_ret ?_
      refine block_ret ?_
      refine then_ret ?_
      have cg := cd c d p  q
      exact res_all (vs := [.bool ((decide (a = ([] : Str))) && (decide ((b.length : Int) ≤ 32)))]) rfl bF ⟨res_of_tmp bF rfl, trivial⟩ cg
     ·have ch := bs.2 (of_decide_eq_false hc)
      clear hc
      refine wp_skip ?_
      refine block_normal ?_
      refine then_normal (wp_seq (wp_region_lit ?_))
      refine sqv aa rfl (r_assign rfl) fun _ ci => ?_
      refine sq_end ?_
      have bG := ci.keep [(2, .bool false)] ⟨rfl, trivial⟩
      refine then_normal ?_
      refine wp_ret ?_
      have cj := ch c d p  q
      exact res_all (vs := [.bool false]) rfl bG ⟨res_of_tmp bG rfl, trivial⟩ cj
def tree_attrs.vc (d : Sl) (R : Value → World → Prop) (w : World) : Prop :=
((12 < (d.n : Int)) →
R (.bool false) w) ∧
((¬ (12 < (d.n : Int))) →
∃ (p : Str → Int → World → Prop) (r : Str → Int → World → Nat),
p ([] : Str) 0 w ∧
(∀ (c : Str) (f : Int) (i : World), p c f i →
((f < (d.n : Int)) →
((0 : Int) ≤ f ∧ f < (d.n : Int)) ∧ ∃ u : Addr, d.a = some u ∧
∃ (b : Str) (l : Str), (Cells i (u.add (f.toNat * 2)) [.string (Bs b), .string (Bs l)]) ∧
∀ (k : World) (o : Nat), New i o k → Chg [] i k →
∃ (j : Bool), (((((Op.bytesLess b c) = false) ∧ (¬ (b = c)))) → Calls Try.prog 50 #[.string (Bs b)] k (Ret fun v w' => Ext k w' ∧ v = .bool j)) ∧
(∀ m : World, Ext k m →
((((((Op.bytesLess b c) = true) ∨ (b = c)) ∨ (j = false)) ∨ (4096 < (l.length : Int))) →
R (.bool false) m) ∧
((((((Op.bytesLess b c) = false) ∧ (¬ (b = c))) ∧ (j = true)) ∧ (¬ (4096 < (l.length : Int)))) →
(I64 (f + 1)) ∧
p b (f + 1) m ∧ r b (f + 1) m < r c f i))) ∧
((¬ (f < (d.n : Int))) →
R (.bool true) i)))
theorem tree_attrs.ok (d : Sl) {R : Value → World → Prop} {w : World} (x : tree_attrs.vc d R w) : Calls Try.prog 92 #[Sl.v d] w (Ret R) := by
 refine enter [Sl.v d] Try.func92 rfl Try.ntmps92 rfl ?_
 intro a0 aU
 unfold tree_attrs.vc at x
 refine wp_seq (wp_region_lit ?_)
 refine sqv aU rfl (r_assign rfl) fun _ aV => ?_
 refine sq_end ?_
 have ai := aV.keep [(0, Sl.v d)] ⟨rfl, trivial⟩
 refine then_normal (wp_seq (wp_seq (wp_region_lit ?_)))
 refine sqv ai rfl (r_move (ai.get rfl)) fun _ aj => ?_
 refine sqv aj rfl (r_len (aj.get rfl) Try.underlying26) fun _ ak => ?_
 refine sqv ak rfl (r_gtr (ak.get rfl) rfl) fun _ aX => ?_
 refine sq_end ?_
 have y := aX.keep [(0, Sl.v d), (8, .bool (decide (12 < (d.n : Int))))] ⟨rfl, rfl, trivial⟩
 refine then_normal ?_
 refine wp_cond_split (y.get rfl) (fun hc => ?_) (fun hc => ?_)
 ·have aY := x.1 (of_decide_eq_true hc)
  clear hc
  refine wp_seq (wp_region_lit ?_)
  refine sqv y rfl (r_assign rfl) fun _ aZ => ?_
  refine sq_end ?_
  have al := aZ.keep [(2, .bool false)] ⟨rfl, trivial⟩
  refine then_normal ?_
  refine wp_ret ?_
  refine then_ret ?_
  exact res_all (vs := [.bool false]) rfl al ⟨res_of_tmp al rfl, trivial⟩ aY
 ·have ht9 := x.2 (of_decide_eq_false hc)
  clear hc
  refine wp_skip ?_
  refine then_normal (wp_seq (wp_region_lit ?_))
  refine sqv y rfl (r_assign rfl) fun _ a1 => ?_
  refine sq_end ?_
  have am := a1.keep [(0, Sl.v d), (3, .string (Bs ([] : Str)))] ⟨rfl, rfl, trivial⟩
  refine then_normal (wp_seq (wp_seq (wp_region_lit ?_)))
  refine sqv am rfl (r_move (am.get rfl)) fun _ an => ?_
  refine sqv an rfl (r_len (an.get rfl) Try.underlying26) fun _ a2 => ?_
  refine sqv a2 rfl (r_move rfl) fun _ a3 => ?_
  refine sq_end ?_
  have a4 := a3.keep [(3, .string (Bs ([] : Str))), (9, Sl.v d), (10, .int .i64 (d.n : Int)), (11, .int .i64 0)] ⟨rfl, rfl, rfl, rfl, trivial⟩
  refine then_normal (wp_block ?_)
  obtain ⟨p, r, a5, a6⟩ := ht9
  refine wp_loop_st (σ := Str × Int × World) (fun s a w => Ag 34 a [(3, .string (Bs s.1)), (9, Sl.v d), (10, .int .i64 (d.n : Int)), (11, .int .i64 s.2.1)] ∧ w = s.2.2 ∧ p s.1 s.2.1 s.2.2) (fun s => r s.1 s.2.1 s.2.2) (([] : Str), 0, w) ⟨a4.keep [(3, .string (Bs ([] : Str))), (9, Sl.v d), (10, .int .i64 (d.n : Int)), (11, .int .i64 0)] ⟨rfl, rfl, rfl, rfl, trivial⟩, rfl, a5⟩ ?_
  rintro ⟨c, f, i⟩ bI w_ ⟨z, hw_, a7⟩
  have hw_ : i = w_ := hw_.symm
  subst hw_
  have ao := a6 c f _ a7
  refine wp_seq (wp_region_lit ?_)
  refine sqv z rfl (r_lss (z.get rfl) (z.get rfl)) fun _ a8 => ?_
  refine sq_end ?_
  have q := a8.keep [(3, .string (Bs c)), (9, Sl.v d), (10, .int .i64 (d.n : Int)), (11, .int .i64 f), (12, .bool (decide (f < (d.n : Int))))] ⟨rfl, rfl, rfl, rfl, rfl, trivial⟩
  refine then_normal (wp_seq ?_)
  refine wp_cond_split (q.get rfl) (fun hc => ?_) (fun hc => ?_)
  ·have a9 := ao.1 (of_decide_eq_true hc)
   clear hc
   refine wp_skip ?_
   refine then_normal (wp_seq (wp_block (wp_seq (wp_region_lit ?_))))
   obtain ⟨ba, u, bb, bd⟩ := a9
   refine sqv q rfl (r_indexAddr (q.get rfl) (q.get rfl) Try.underlying26 ti_65 ba bb) fun _ ap => ?_
   obtain ⟨b, l, bf, bg⟩ := bd
   refine sqv ap rfl (r_loadN Try.underlying65 rfl ti_65 (ap.get rfl) bf) fun _ bh => ?_
   refine sq (opk_new (fun B => .pointer (some ⟨B, 0, none⟩)) bh rfl (r_alloc (cs := [.string (Bs ([] : Str)), .string (Bs ([] : Str))]) ti_65 rfl) fun bJ aq o bi bj ar aa _ => ?_)
   have au : New i o aq := bj
   have bk : Chg [] i aq := bi
   refine sq (opk_store aa ar (r_store (vs := [.string (Bs b), .string (Bs l)]) (aa.get rfl) (aa.get rfl) rfl ti_65 ar rfl (ones_all [.string (Bs b), .string (Bs l)] rfl)) fun bK k av bl bm => ?_)
   have ab : Box k o 65 [.string (Bs b), .string (Bs l)] := bl
   have bn := bk.storeNew au av
   have bo := au.up av.size
   refine sq_end ?_
   have ax := bm.keep [(3, .string (Bs c)), (5, .pointer (some (⟨o, 0, none⟩ : Addr))), (9, Sl.v d), (10, .int .i64 (d.n : Int)), (11, .int .i64 f)] ⟨rfl, rfl, rfl, rfl, rfl, trivial⟩
   refine then_normal (wp_seq (wp_seq (wp_region_lit ?_)))
   refine sqv ax rfl (r_fieldAddr (ax.get rfl) Try.underlying65 rfl ti_9 (by decide)) fun _ ay => ?_
   refine sqv ay rfl (r_load1 Try.underlying9 rfl (ay.get rfl) (ab.cell 0 _ rfl)) fun _ az => ?_
   refine sqv az rfl (r_move (az.get rfl)) fun _ ad => ?_
   refine sqv ad rfl (r_sleq (ad.get rfl) (ad.get rfl)) fun _ aA => ?_
   refine sqv aA rfl (r_move (aA.get rfl)) fun _ aB => ?_
   refine sq (opk_gval aB rfl rfl (g := true) (e := ((Op.bytesLess b c) || (decide (b = c)))) rfl (fun hg => r_fieldAddr (aB.get rfl) Try.underlying65 rfl ti_9 (by decide)) fun bL aC _ => ?_)
   refine sq (opk_gval aC rfl rfl (g := true) (e := ((Op.bytesLess b c) || (decide (b = c)))) rfl (fun hg => r_load1 Try.underlying9 rfl (cv_get (aC.get rfl) hg) (ab.cell 0 _ rfl)) fun bM aD _ => ?_)
   have bp := bg k o bo  bn
   obtain ⟨j, bq, br⟩ := bp
   refine sq (opk_gcall aD rfl rfl (g := true) (e := ((Op.bytesLess b c) || (decide (b = c)))) rfl (fun hg => r_call (args := #[.string (Bs b)]) Try.func50 (by decide) rfl (map_arr (ml_cons (cv_get (aD.get rfl) hg) ml_nil)) rfl) (fun hg => bq ⟨(b_or_f (g_f hg)).1, (of_decide_eq_false (b_or_f (g_f hg)).2)⟩) fun bN m aF _ af => ?_)
   have aG := ab.ext af
   have bO : Chg [] k m := af
   have aH := br m af
   refine sq (opk_gval aF rfl rfl (g := true) (e := ((Op.bytesLess b c) || (decide (b = c)))) rfl (fun hg => r_not (cv_get (aF.get rfl) hg)) fun bP ag _ => ?_)
   refine sqv ag rfl (r_pick_or (g := (true && (((Op.bytesLess b c) || (decide (b = c))) == false))) (ag.get rfl) (ag.get rfl) (fun he => g_mkf rfl he)) fun _ aI => ?_
   refine sqv aI rfl (r_move (aI.get rfl)) fun _ aJ => ?_
   refine sq (opk_gval aJ rfl rfl (g := true) (e := (((Op.bytesLess b c) || (decide (b = c))) || (!j))) rfl (fun hg => r_fieldAddr (aJ.get rfl) Try.underlying65 rfl ti_9 (by decide)) fun bQ aK _ => ?_)
   refine sq (opk_gval aK rfl rfl (g := true) (e := (((Op.bytesLess b c) || (decide (b = c))) || (!j))) rfl (fun hg => r_load1 Try.underlying9 rfl (cv_get (aK.get rfl) hg) (aG.cell 1 _ rfl)) fun bR aL _ => ?_)
   refine sq (opk_gval aL rfl rfl (g := true) (e := (((Op.bytesLess b c) || (decide (b = c))) || (!j))) rfl (fun hg => r_slen (cv_get (aL.get rfl) hg) Try.underlying9) fun bS aM _ => ?_)
   refine sq (opk_gval aM rfl rfl (g := true) (e := (((Op.bytesLess b c) || (decide (b = c))) || (!j))) rfl (fun hg => r_gtr (cv_get (aM.get rfl) hg) rfl) fun bT ah _ => ?_)
   refine sqv ah rfl (r_pick_or (g := (true && ((((Op.bytesLess b c) || (decide (b = c))) || (!j)) == false))) (ah.get rfl) (ah.get rfl) (fun he => g_mkf rfl he)) fun _ bs => ?_
   refine sq_end ?_
   have t := bs.keep [(5, .pointer (some (⟨o, 0, none⟩ : Addr))), (9, Sl.v d), (10, .int .i64 (d.n : Int)), (11, .int .i64 f), (30, .bool ((((Op.bytesLess b c) || (decide (b = c))) || (!j)) || (decide (4096 < (l.length : Int)))))] ⟨rfl, rfl, rfl, rfl, rfl, trivial⟩
   refine then_normal ?_
   refine wp_cond_split (t.get rfl) (fun hc => ?_) (fun hc => ?_)
   ·have bt := aH.1 ((b_or_t hc).imp (fun h => ((b_or_t h).imp (fun h => ((b_or_t h).imp (fun h => h) (fun h => (of_decide_eq_true h)))) (fun h => (b_not_t h)))) (fun h => (of_decide_eq_true h)))
    clear hc
    refine wp_seq (wp_region_lit ?_)
    refine sqv t rfl (r_assign rfl) fun _ bu => ?_
    refine sq_end ?_
    have aN := bu.keep [(2, .bool false)] ⟨rfl, trivial⟩
    refine then_normal ?_
    refine wp_ret ?_
    refine then_ret ?_
    refine block_ret ?_
    refine then_ret ?_
    refine then_ret ?_
    refine block_ret ?_
    refine then_ret ?_
    exact res_all (vs := [.bool false]) rfl aN ⟨res_of_tmp aN rfl, trivial⟩ bt
   ·have bv := aH.2 ⟨⟨⟨(b_or_f (b_or_f (b_or_f hc).1).1).1, (of_decide_eq_false (b_or_f (b_or_f (b_or_f hc).1).1).2)⟩, (b_not_f (b_or_f (b_or_f hc).1).2)⟩, (of_decide_eq_false (b_or_f hc).2)⟩
    clear hc
    refine wp_skip ?_
    refine then_normal (wp_region_lit ?_)
    refine sqv t rfl (r_fieldAddr (t.get rfl) Try.underlying65 rfl ti_9 (by decide)) fun _ aO => ?_
    refine sqv aO rfl (r_load1 Try.underlying9 rfl (aO.get rfl) (aG.cell 0 _ rfl)) fun _ aP => ?_
    refine sqv aP rfl (r_assign (aP.get rfl)) fun _ bx => ?_
    refine sq_end ?_
    have aQ := bx.keep [(3, .string (Bs b)), (9, Sl.v d), (10, .int .i64 (d.n : Int)), (11, .int .i64 f)] ⟨rfl, rfl, rfl, rfl, trivial⟩
    refine block_normal ?_
    refine then_normal (wp_region_lit ?_)
    obtain ⟨bz, aR⟩ := bv
    refine sqv aQ rfl (r_addI (aQ.get rfl) rfl bz) fun _ aS => ?_
    refine sqv aS rfl (r_move (aS.get rfl)) fun _ bA => ?_
    refine sq_end ?_
    have bB := bA.keep [(3, .string (Bs b)), (9, Sl.v d), (10, .int .i64 (d.n : Int)), (11, .int .i64 (f + 1))] ⟨rfl, rfl, rfl, rfl, trivial⟩
    have bC := bB.keep [(3, .string (Bs b)), (9, Sl.v d), (10, .int .i64 (d.n : Int)), (11, .int .i64 (f + 1))] ⟨rfl, rfl, rfl, rfl, trivial⟩
    exact then_normal ⟨(b, f + 1, m), ⟨bC, rfl, aR.1⟩, aR.2⟩
  ·have bD := ao.2 (of_decide_eq_false hc)
   clear hc
   refine wp_exit ?_
   refine then_exit ?_
   refine then_exit ?_
   refine block_hit ?_
   have bF := q.keep [] trivial
   refine then_normal (wp_seq (wp_region_lit ?_))
   refine sqv bF rfl (r_assign rfl) fun _ bG => ?_
   refine sq_end ?_
   have aT := bG.keep [(2, .bool true)] ⟨rfl, trivial⟩
   refine then_normal ?_
   refine wp_ret ?_
   exact res_all (vs := [.bool true]) rfl aT ⟨res_of_tmp aT rfl, trivial⟩ bD
end Go.Proofs.Ytghmgfkdnolcdaa
