/-
  PRINTED BY PROGRAM: for each function its condition (vc), and that this suffices (ok).
-/
import Derived.Test.YtghmgfkdnolcdaaQApplyNoneGT
namespace Go.Proofs.Ytghmgfkdnolcdaa
open Go.RowKit
set_option linter.unusedVariables false
set_option maxHeartbeats 1000000
set_option maxRecDepth 10000
def law00_Attrs.vc (a : Sl) (R : Value → World → Prop) (w : World) : Prop :=
RunK Try.prog (Builtin.append_ #[26, 26] 26 #[Sl.v Sl.nil, Sl.v a]) w [] (fun v c => ∃ (b : Sl), v = Sl.v b ∧
R (Sl.v b) c)
theorem law00_Attrs.ok (a : Sl) {R : Value → World → Prop} {w : World} (d : law00_Attrs.vc a R w) : Calls Try.prog 58 #[Sl.v a] w (Ret R) := by
 refine enter [Sl.v a] Try.func58 rfl Try.ntmps58 rfl ?_
 intro o j
 unfold law00_Attrs.vc at d
 refine wp_seq (wp_region_lit ?_)
 refine sqv j rfl (r_assign rfl) fun _ k => ?_
 refine sq_end ?_
 have f := k.keep [(0, Sl.v a)] ⟨rfl, trivial⟩
 refine then_normal (wp_seq (wp_region_lit ?_))
 refine sqv f rfl (r_move (f.get rfl)) fun _ g => ?_
 refine sq (opk_run g rfl (fun _ _ hr => r_append rfl (g.get rfl) hr) d fun p q c h _ r s l => ?_)
 obtain ⟨b, rfl, m⟩ := l
 refine sqv h rfl (r_assign (h.get rfl)) fun _ n => ?_
 refine sq_end ?_
 have i := n.keep [(2, Sl.v b)] ⟨rfl, trivial⟩
 refine then_normal ?_
 refine wp_ret ?_
 exact res_all (vs := [Sl.v b]) rfl i ⟨res_of_tmp i rfl, trivial⟩ m
def law00_small.vc (x : Int) (o : Str) (r : Str) (d : Sl) (p : Sl) (c : Int) (f : Addr) (R : Value → World → Prop) (w : World) : Prop :=
∀ (t : World) (i : Nat), New w i t → Chg [] w t →
∃ (z : Int), (t.cell? f = some (.int .i64 z)) ∧
(I64 (z + 1)) ∧
∃ (aa aj : Nat) (aB : TypeId) (ak : List Value), f = ⟨aa, aj, none⟩ ∧ Box t aa aB ak ∧ aj + 1 ≤ ak.length ∧ (∀ b ∈ [i], b ≠ aa) ∧
(∀ u : World, Chg [aa] t u → Box u aa aB (putAt ak aj [.int .i64 (z + 1)]) →
∃ (j : Int), (u.cell? f = some (.int .i64 j)) ∧
((((((400 < j) ∨ (70 < c)) ∨ (20 < (d.n : Int))) ∨ (200 < (o.length : Int))) ∨ (6000 < (r.length : Int))) →
R (.bool false) u) ∧
((((((¬ (400 < j)) ∧ (¬ (70 < c))) ∧ (¬ (20 < (d.n : Int)))) ∧ (¬ (200 < (o.length : Int)))) ∧ (¬ (6000 < (r.length : Int)))) →
∃ (ab : Int → World → Prop) (al : Int → World → Nat),
ab 0 u ∧
(∀ (k : Int) (q : World), ab k q →
((k < (d.n : Int)) →
((0 : Int) ≤ k ∧ k < (d.n : Int)) ∧ ∃ aC : Addr, d.a = some aC ∧
∃ (m : Str), (q.cell? ((aC.add (k.toNat * 2)).add 0) = some (.string (Bs m))) ∧
∃ aD : Addr, (((¬ (200 < (m.length : Int)))) → ((0 : Int) ≤ k ∧ k < (d.n : Int)) ∧  d.a = some aD) ∧
∃ (ad : Str), (((¬ (200 < (m.length : Int)))) → q.cell? ((aD.add (k.toNat * 2)).add 1) = some (.string (Bs ad))) ∧
(((200 < (m.length : Int)) ∨ (6000 < (ad.length : Int))) →
R (.bool false) q) ∧
(((¬ (200 < (m.length : Int))) ∧ (¬ (6000 < (ad.length : Int)))) →
(I64 (k + 1)) ∧
ab (k + 1) q ∧ al (k + 1) q < al k q)) ∧
((¬ (k < (d.n : Int))) →
∃ (af : Int → World → Prop) (am : Int → World → Nat),
af 0 q ∧
(∀ (l : Int) (y : World), af l y →
((l < (p.n : Int)) →
((0 : Int) ≤ l ∧ l < (p.n : Int)) ∧ ∃ aF : Addr, p.a = some aF ∧
∃ (an : Int) (ao : Str) (ap : Str) (aq : Sl) (ar : Sl), (Cells y (aF.add (l.toNat * 5)) [.int .i64 an, .string (Bs ao), .string (Bs ap), Sl.v aq, Sl.v ar]) ∧
(I64 (c + 1)) ∧
CallK Try.prog 72 #[.agg #[.int .i64 an, .string (Bs ao), .string (Bs ap), Sl.v aq, Sl.v ar], .int .i64 (c + 1), .pointer (some f)] y [i] (fun v ag => ∃ (ah : Bool), v = .bool ah ∧
((ah = false) →
R (.bool false) ag) ∧
((ah = true) →
(I64 (l + 1)) ∧
af (l + 1) ag ∧ am (l + 1) ag < am l y))) ∧
((¬ (l < (p.n : Int))) →
R (.bool true) y))))))
theorem law00_small.ok (x : Int) (o : Str) (r : Str) (d : Sl) (p : Sl) (c : Int) (f : Addr) {R : Value → World → Prop} {w : World} (aT : law00_small.vc x o r d p c f R w) : Calls Try.prog 72 #[.agg #[.int .i64 x, .string (Bs o), .string (Bs r), Sl.v d, Sl.v p], .int .i64 c, .pointer (some f)] w (Ret R) := by
 refine enter [.agg #[.int .i64 x, .string (Bs o), .string (Bs r), Sl.v d, Sl.v p], .int .i64 c, .pointer (some f)] Try.func72 rfl Try.ntmps72 rfl ?_
 intro a0 aU
 unfold law00_small.vc at aT
 refine wp_seq (wp_region_lit ?_)
 refine sq (opk_new (fun B => .pointer (some ⟨B, 0, none⟩)) aU rfl (r_box (cs := [.int .i64 x, .string (Bs o), .string (Bs r), Sl.v d, Sl.v p]) (aU.get rfl) rfl) fun a6 t i cf cg ch ci _ => ?_)
 have cj : New w i t := cg
 have ck : Chg [] w t := cf
 refine sqv ci rfl (r_assign rfl) fun _ cl => ?_
 refine sq_end ?_
 have aV := cl.keep [(1, .int .i64 c), (2, .pointer (some f)), (3, .pointer (some (⟨i, 0, none⟩ : Addr)))] ⟨rfl, rfl, rfl, trivial⟩
 refine then_normal (wp_seq (wp_region_lit ?_))
 refine sqv aV rfl (r_move (aV.get rfl)) fun _ aX => ?_
 refine sqv aX rfl (r_nilCheck (aX.get rfl)) fun _ aY => ?_
 have cm := aT t i cj  ck
 obtain ⟨z, cn, co⟩ := cm
 refine sqv aY rfl (r_load1 Try.underlying3 rfl (aY.get rfl) cn) fun _ aZ => ?_
 obtain ⟨cp, cq⟩ := co
 refine sqv aZ rfl (r_addI (aZ.get rfl) rfl cp) fun _ hA21 => ?_
 refine sqv hA21 rfl (r_nilCheck (hA21.get rfl)) fun _ aG => ?_
 obtain ⟨aa, aj, aB, ak, cr, a1, ct, cu, cv⟩ := cq
 refine sq (opk_store aG a1 (r_store (vs := [.int .i64 (z + 1)]) (((aG.get rfl)).trans (congrArg (fun a => Value.pointer (some a)) cr)) (aG.get rfl) rfl ti_3 a1 (Nat.ble_eq_true_of_le ct) (ones_all [.int .i64 (z + 1)] rfl)) fun dD u a2 cx cy => ?_)
 have au := ch.keep a2 (by have := cu i (by simp); simpa using this)
 have cz := cv u a2 cx
 refine sq_end ?_
 have a3 := cy.keep [(1, .int .i64 c), (2, .pointer (some f)), (3, .pointer (some (⟨i, 0, none⟩ : Addr)))] ⟨rfl, rfl, rfl, trivial⟩
 refine then_normal (wp_seq (wp_seq (wp_region_lit ?_)))
 refine sqv a3 rfl (r_move (a3.get rfl)) fun _ a4 => ?_
 refine sqv a4 rfl (r_nilCheck (a4.get rfl)) fun _ a5 => ?_
 obtain ⟨j, cA, ht46⟩ := cz
 refine sqv a5 rfl (r_load1 Try.underlying3 rfl (a5.get rfl) cA) fun _ a7 => ?_
 refine sqv a7 rfl (r_gtr (a7.get rfl) rfl) fun _ a8 => ?_
 refine sqv a8 rfl (r_move (a8.get rfl)) fun _ a9 => ?_
 refine sq (opk_gval a9 rfl rfl (g := true) (e := (decide (400 < j))) rfl (fun hg => r_move (a9.get rfl)) fun dF ba _ => ?_)
 refine sq (opk_gval ba rfl rfl (g := true) (e := (decide (400 < j))) rfl (fun hg => r_gtr (cv_get (ba.get rfl) hg) rfl) fun dG aH _ => ?_)
 refine sqv aH rfl (r_pick_or (g := (true && ((decide (400 < j)) == false))) (aH.get rfl) (aH.get rfl) (fun he => g_mkf rfl he)) fun _ bb => ?_
 refine sqv bb rfl (r_move (bb.get rfl)) fun _ bd => ?_
 refine sq (opk_gval bd rfl rfl (g := true) (e := ((decide (400 < j)) || (decide (70 < c)))) rfl (fun hg => r_fieldAddr (bd.get rfl) Try.underlying29 rfl ti_26 (by decide)) fun dH bf _ => ?_)
 refine sq (opk_gval bf rfl rfl (g := true) (e := ((decide (400 < j)) || (decide (70 < c)))) rfl (fun hg => r_load1 Try.underlying26 rfl (cv_get (bf.get rfl) hg) (au.cell 3 _ rfl)) fun dI bg _ => ?_)
 refine sq (opk_gval bg rfl rfl (g := true) (e := ((decide (400 < j)) || (decide (70 < c)))) rfl (fun hg => r_len (cv_get (bg.get rfl) hg) Try.underlying26) fun dJ bh _ => ?_)
 refine sq (opk_gval bh rfl rfl (g := true) (e := ((decide (400 < j)) || (decide (70 < c)))) rfl (fun hg => r_gtr (cv_get (bh.get rfl) hg) rfl) fun dK aI _ => ?_)
 refine sqv aI rfl (r_pick_or (g := (true && (((decide (400 < j)) || (decide (70 < c))) == false))) (aI.get rfl) (aI.get rfl) (fun he => g_mkf rfl he)) fun _ bi => ?_
 refine sqv bi rfl (r_move (bi.get rfl)) fun _ bj => ?_
 refine sq (opk_gval bj rfl rfl (g := true) (e := (((decide (400 < j)) || (decide (70 < c))) || (decide (20 < (d.n : Int))))) rfl (fun hg => r_fieldAddr (bj.get rfl) Try.underlying29 rfl ti_9 (by decide)) fun dL bk _ => ?_)
 refine sq (opk_gval bk rfl rfl (g := true) (e := (((decide (400 < j)) || (decide (70 < c))) || (decide (20 < (d.n : Int))))) rfl (fun hg => r_load1 Try.underlying9 rfl (cv_get (bk.get rfl) hg) (au.cell 1 _ rfl)) fun dM bl _ => ?_)
 refine sq (opk_gval bl rfl rfl (g := true) (e := (((decide (400 < j)) || (decide (70 < c))) || (decide (20 < (d.n : Int))))) rfl (fun hg => r_slen (cv_get (bl.get rfl) hg) Try.underlying9) fun dN bm _ => ?_)
 refine sq (opk_gval bm rfl rfl (g := true) (e := (((decide (400 < j)) || (decide (70 < c))) || (decide (20 < (d.n : Int))))) rfl (fun hg => r_gtr (cv_get (bm.get rfl) hg) rfl) fun dO aJ _ => ?_)
 refine sqv aJ rfl (r_pick_or (g := (true && ((((decide (400 < j)) || (decide (70 < c))) || (decide (20 < (d.n : Int)))) == false))) (aJ.get rfl) (aJ.get rfl) (fun he => g_mkf rfl he)) fun _ bn => ?_
 refine sqv bn rfl (r_move (bn.get rfl)) fun _ bo => ?_
 refine sq (opk_gval bo rfl rfl (g := true) (e := ((((decide (400 < j)) || (decide (70 < c))) || (decide (20 < (d.n : Int)))) || (decide (200 < (o.length : Int))))) rfl (fun hg => r_fieldAddr (bo.get rfl) Try.underlying29 rfl ti_9 (by decide)) fun dP bp _ => ?_)
 refine sq (opk_gval bp rfl rfl (g := true) (e := ((((decide (400 < j)) || (decide (70 < c))) || (decide (20 < (d.n : Int)))) || (decide (200 < (o.length : Int))))) rfl (fun hg => r_load1 Try.underlying9 rfl (cv_get (bp.get rfl) hg) (au.cell 2 _ rfl)) fun dQ bq _ => ?_)
 refine sq (opk_gval bq rfl rfl (g := true) (e := ((((decide (400 < j)) || (decide (70 < c))) || (decide (20 < (d.n : Int)))) || (decide (200 < (o.length : Int))))) rfl (fun hg => r_slen (cv_get (bq.get rfl) hg) Try.underlying9) fun dR br _ => ?_)
 refine sq (opk_gval br rfl rfl (g := true) (e := ((((decide (400 < j)) || (decide (70 < c))) || (decide (20 < (d.n : Int)))) || (decide (200 < (o.length : Int))))) rfl (fun hg => r_gtr (cv_get (br.get rfl) hg) rfl) fun dS aK _ => ?_)
 refine sqv aK rfl (r_pick_or (g := (true && (((((decide (400 < j)) || (decide (70 < c))) || (decide (20 < (d.n : Int)))) || (decide (200 < (o.length : Int)))) == false))) (aK.get rfl) (aK.get rfl) (fun he => g_mkf rfl he)) fun _ cB => ?_
 refine sq_end ?_
 have aL := cB.keep [(1, .int .i64 c), (2, .pointer (some f)), (3, .pointer (some (⟨i, 0, none⟩ : Addr))), (39, .bool (((((decide (400 < j)) || (decide (70 < c))) || (decide (20 < (d.n : Int)))) || (decide (200 < (o.length : Int)))) || (decide (6000 < (r.length : Int)))))] ⟨rfl, rfl, rfl, rfl, trivial⟩
 refine then_normal ?_
 refine wp_cond_split (aL.get rfl) (fun hc => ?_) (fun hc => ?_)
 ·have cC := ht46.1 ((b_or_t hc).imp (fun h => ((b_or_t h).imp (fun h => ((b_or_t h).imp (fun h => ((b_or_t h).imp (fun h => (of_decide_eq_true h)) (fun h => (of_decide_eq_true h)))) (fun h => (of_decide_eq_true h)))) (fun h => (of_decide_eq_true h)))) (fun h => (of_decide_eq_true h)))
  clear hc
  refine wp_seq (wp_region_lit ?_)
  refine sqv aL rfl (r_assign rfl) fun _ cD => ?_
  refine sq_end ?_
  have bs := cD.keep [(6, .bool false)] ⟨rfl, trivial⟩
  refine then_normal ?_
  refine wp_ret ?_
  refine then_ret ?_
  exact res_all (vs := [.bool false]) rfl bs ⟨res_of_tmp bs rfl, trivial⟩ cC
 ·have cF := ht46.2 ⟨⟨⟨⟨(of_decide_eq_false (b_or_f (b_or_f (b_or_f (b_or_f hc).1).1).1).1), (of_decide_eq_false (b_or_f (b_or_f (b_or_f (b_or_f hc).1).1).1).2)⟩, (of_decide_eq_false (b_or_f (b_or_f (b_or_f hc).1).1).2)⟩, (of_decide_eq_false (b_or_f (b_or_f hc).1).2)⟩, (of_decide_eq_false (b_or_f hc).2)⟩
  clear hc
  refine wp_skip ?_
  refine then_normal (wp_seq (wp_seq (wp_region_lit ?_)))
  refine sqv aL rfl (r_assign rfl) fun _ cG => ?_
  refine sq_end ?_
  have cH := cG.keep [(1, .int .i64 c), (2, .pointer (some f)), (3, .pointer (some (⟨i, 0, none⟩ : Addr))), (7, .int .i64 0)] ⟨rfl, rfl, rfl, rfl, trivial⟩
  refine then_normal (wp_block ?_)
  obtain ⟨ab, al, cI, cJ⟩ := cF
  refine wp_loop_st (σ := Int × World) (fun s a w => Ag 82 a [(1, .int .i64 c), (2, .pointer (some f)), (3, .pointer (some (⟨i, 0, none⟩ : Addr))), (7, .int .i64 s.1)] ∧ Box w i 29 [.int .i64 x, .string (Bs o), .string (Bs r), Sl.v d, Sl.v p] ∧ w = s.2 ∧ ab s.1 s.2) (fun s => al s.1 s.2) (0, u) ⟨cH.keep [(1, .int .i64 c), (2, .pointer (some f)), (3, .pointer (some (⟨i, 0, none⟩ : Addr))), (7, .int .i64 0)] ⟨rfl, rfl, rfl, rfl, trivial⟩, au, rfl, cI⟩ ?_
  rintro ⟨k, q⟩ dT w_ ⟨bt, ai, hw_, cK⟩
  have hw_ : q = w_ := hw_.symm
  subst hw_
  have bu := cJ k _ cK
  refine wp_seq (wp_seq (wp_region_lit ?_))
  refine sqv bt rfl (r_move (bt.get rfl)) fun _ bv => ?_
  refine sqv bv rfl (r_fieldAddr (bv.get rfl) Try.underlying29 rfl ti_26 (by decide)) fun _ bx => ?_
  refine sqv bx rfl (r_load1 Try.underlying26 rfl (bx.get rfl) (ai.cell 3 _ rfl)) fun _ bz => ?_
  refine sqv bz rfl (r_len (bz.get rfl) Try.underlying26) fun _ aM => ?_
  refine sqv aM rfl (r_lss (aM.get rfl) (aM.get rfl)) fun _ cL => ?_
  refine sq_end ?_
  have av := cL.keep [(1, .int .i64 c), (2, .pointer (some f)), (3, .pointer (some (⟨i, 0, none⟩ : Addr))), (7, .int .i64 k), (44, .bool (decide (k < (d.n : Int))))] ⟨rfl, rfl, rfl, rfl, rfl, trivial⟩
  refine then_normal ?_
  refine wp_cond_split (av.get rfl) (fun hc => ?_) (fun hc => ?_)
  ·have cM := bu.1 (of_decide_eq_true hc)
   clear hc
   refine wp_skip ?_
   refine then_normal (wp_seq (wp_block (wp_seq (wp_region_lit ?_))))
   refine sqv av rfl (r_fieldAddr (av.get rfl) Try.underlying29 rfl ti_26 (by decide)) fun _ bA => ?_
   refine sqv bA rfl (r_load1 Try.underlying26 rfl (bA.get rfl) (ai.cell 3 _ rfl)) fun _ bB => ?_
   refine sqv bB rfl (r_move (bB.get rfl)) fun _ aN => ?_
   obtain ⟨cN, aC, cO, cP⟩ := cM
   refine sqv aN rfl (r_indexAddr (aN.get rfl) (aN.get rfl) Try.underlying26 ti_65 cN cO) fun _ bC => ?_
   refine sqv bC rfl (r_fieldAddr (bC.get rfl) Try.underlying65 rfl ti_9 (by decide)) fun _ bD => ?_
   obtain ⟨m, cQ, cR⟩ := cP
   refine sqv bD rfl (r_load1 Try.underlying9 rfl (bD.get rfl) cQ) fun _ bF => ?_
   refine sqv bF rfl (r_slen (bF.get rfl) Try.underlying9) fun _ bG => ?_
   refine sqv bG rfl (r_gtr (bG.get rfl) rfl) fun _ bH => ?_
   refine sqv bH rfl (r_move (bH.get rfl)) fun _ bI => ?_
   refine sq (opk_gval bI rfl rfl (g := true) (e := (decide (200 < (m.length : Int)))) rfl (fun hg => r_fieldAddr (bI.get rfl) Try.underlying29 rfl ti_26 (by decide)) fun dU bJ _ => ?_)
   refine sq (opk_gval bJ rfl rfl (g := true) (e := (decide (200 < (m.length : Int)))) rfl (fun hg => r_load1 Try.underlying26 rfl (cv_get (bJ.get rfl) hg) (ai.cell 3 _ rfl)) fun dV bK _ => ?_)
   refine sq (opk_gval bK rfl rfl (g := true) (e := (decide (200 < (m.length : Int)))) rfl (fun hg => r_move (bK.get rfl)) fun dX aO _ => ?_)
   obtain ⟨aD, bL, cS⟩ := cR
   refine sq (opk_gval aO rfl rfl (g := true) (e := (decide (200 < (m.length : Int)))) rfl (fun hg => r_indexAddr (cv_get (aO.get rfl) hg) (cv_get (aO.get rfl) hg) Try.underlying26 ti_65 (bL (of_decide_eq_false (g_f hg))).1 (bL (of_decide_eq_false (g_f hg))).2) fun dY bM _ => ?_)
   refine sq (opk_gval bM rfl rfl (g := true) (e := (decide (200 < (m.length : Int)))) rfl (fun hg => r_fieldAddr (cv_get (bM.get rfl) hg) Try.underlying65 rfl ti_9 (by decide)) fun dZ bN _ => ?_)
   obtain ⟨ad, cT, bO⟩ := cS
   refine sq (opk_gval bN rfl rfl (g := true) (e := (decide (200 < (m.length : Int)))) rfl (fun hg => r_load1 Try.underlying9 rfl (cv_get (bN.get rfl) hg) (cT (of_decide_eq_false (g_f hg)))) fun d0 bP _ => ?_)
   refine sq (opk_gval bP rfl rfl (g := true) (e := (decide (200 < (m.length : Int)))) rfl (fun hg => r_slen (cv_get (bP.get rfl) hg) Try.underlying9) fun d1 bQ _ => ?_)
   refine sq (opk_gval bQ rfl rfl (g := true) (e := (decide (200 < (m.length : Int)))) rfl (fun hg => r_gtr (cv_get (bQ.get rfl) hg) rfl) fun d2 aP _ => ?_)
   refine sqv aP rfl (r_pick_or (g := (true && ((decide (200 < (m.length : Int))) == false))) (aP.get rfl) (aP.get rfl) (fun he => g_mkf rfl he)) fun _ cU => ?_
   refine sq_end ?_
   have ax := cU.keep [(1, .int .i64 c), (2, .pointer (some f)), (3, .pointer (some (⟨i, 0, none⟩ : Addr))), (7, .int .i64 k), (64, .bool ((decide (200 < (m.length : Int))) || (decide (6000 < (ad.length : Int)))))] ⟨rfl, rfl, rfl, rfl, rfl, trivial⟩
   refine then_normal ?_
   refine wp_cond_split (ax.get rfl) (fun hc => ?_) (fun hc => ?_)
   ·have cX := bO.1 ((b_or_t hc).imp (fun h => (of_decide_eq_true h)) (fun h => (of_decide_eq_true h)))
    clear hc
    refine wp_seq (wp_region_lit ?_)
    refine sqv ax rfl (r_assign rfl) fun _ cY => ?_
    refine sq_end ?_
    have bR := cY.keep [(6, .bool false)] ⟨rfl, trivial⟩
    refine then_normal ?_
    refine wp_ret ?_
    refine block_ret ?_
    refine then_ret ?_
    refine then_ret ?_
    refine block_ret ?_
    refine then_ret ?_
    exact res_all (vs := [.bool false]) rfl bR ⟨res_of_tmp bR rfl, trivial⟩ cX
   ·have cZ := bO.2 ⟨(of_decide_eq_false (b_or_f hc).1), (of_decide_eq_false (b_or_f hc).2)⟩
    clear hc
    refine wp_skip ?_
    refine block_normal ?_
    refine then_normal (wp_region_lit ?_)
    refine sqv ax rfl (r_move (ax.get rfl)) fun _ bS => ?_
    obtain ⟨c0, bT⟩ := cZ
    refine sqv bS rfl (r_addI (bS.get rfl) rfl c0) fun _ bU => ?_
    refine sqv bU rfl (r_assign (bU.get rfl)) fun _ c1 => ?_
    refine sq_end ?_
    have c2 := c1.keep [(1, .int .i64 c), (2, .pointer (some f)), (3, .pointer (some (⟨i, 0, none⟩ : Addr))), (7, .int .i64 (k + 1))] ⟨rfl, rfl, rfl, rfl, trivial⟩
    have c3 := c2.keep [(1, .int .i64 c), (2, .pointer (some f)), (3, .pointer (some (⟨i, 0, none⟩ : Addr))), (7, .int .i64 (k + 1))] ⟨rfl, rfl, rfl, rfl, trivial⟩
    exact then_normal ⟨(k + 1, q), ⟨c3, ai, rfl, bT.1⟩, bT.2⟩
  ·have c4 := bu.2 (of_decide_eq_false hc)
   clear hc
   refine wp_exit ?_
   refine then_exit ?_
   refine then_exit ?_
   refine block_hit ?_
   have c5 := av.keep [(1, .int .i64 c), (2, .pointer (some f)), (3, .pointer (some (⟨i, 0, none⟩ : Addr)))] ⟨rfl, rfl, rfl, trivial⟩
   refine then_normal (wp_seq (wp_seq (wp_region_lit ?_)))
   refine sqv c5 rfl (r_assign rfl) fun _ c6 => ?_
   refine sq_end ?_
   have c7 := c6.keep [(1, .int .i64 c), (2, .pointer (some f)), (3, .pointer (some (⟨i, 0, none⟩ : Addr))), (8, .int .i64 0)] ⟨rfl, rfl, rfl, rfl, trivial⟩
   refine then_normal (wp_block ?_)
   obtain ⟨af, am, c8, c9⟩ := c4
   refine wp_loop_st (σ := Int × World) (fun s a w => Ag 82 a [(1, .int .i64 c), (2, .pointer (some f)), (3, .pointer (some (⟨i, 0, none⟩ : Addr))), (8, .int .i64 s.1)] ∧ Box w i 29 [.int .i64 x, .string (Bs o), .string (Bs r), Sl.v d, Sl.v p] ∧ w = s.2 ∧ af s.1 s.2) (fun s => am s.1 s.2) (0, q) ⟨c7.keep [(1, .int .i64 c), (2, .pointer (some f)), (3, .pointer (some (⟨i, 0, none⟩ : Addr))), (8, .int .i64 0)] ⟨rfl, rfl, rfl, rfl, trivial⟩, ai, rfl, c8⟩ ?_
   rintro ⟨l, y⟩ d3 w_ ⟨bV, aQ, hw_, da⟩
   have hw_ : y = w_ := hw_.symm
   subst hw_
   have bX := c9 l _ da
   refine wp_seq (wp_seq (wp_region_lit ?_))
   refine sqv bV rfl (r_move (bV.get rfl)) fun _ bY => ?_
   refine sqv bY rfl (r_fieldAddr (bY.get rfl) Try.underlying29 rfl ti_27 (by decide)) fun _ bZ => ?_
   refine sqv bZ rfl (r_load1 Try.underlying27 rfl (bZ.get rfl) (aQ.cell 4 _ rfl)) fun _ b0 => ?_
   refine sqv b0 rfl (r_len (b0.get rfl) Try.underlying27) fun _ aR => ?_
   refine sqv aR rfl (r_lss (aR.get rfl) (aR.get rfl)) fun _ db => ?_
   refine sq_end ?_
   have ay := db.keep [(1, .int .i64 c), (2, .pointer (some f)), (3, .pointer (some (⟨i, 0, none⟩ : Addr))), (8, .int .i64 l), (69, .bool (decide (l < (p.n : Int))))] ⟨rfl, rfl, rfl, rfl, rfl, trivial⟩
   refine then_normal ?_
   refine wp_cond_split (ay.get rfl) (fun hc => ?_) (fun hc => ?_)
   ·have dc := bX.1 (of_decide_eq_true hc)
    clear hc
    refine wp_skip ?_
    refine then_normal (wp_seq (wp_block (wp_seq (wp_region_lit ?_))))
    refine sqv ay rfl (r_fieldAddr (ay.get rfl) Try.underlying29 rfl ti_27 (by decide)) fun _ b1 => ?_
    refine sqv b1 rfl (r_load1 Try.underlying27 rfl (b1.get rfl) (aQ.cell 4 _ rfl)) fun _ b2 => ?_
    refine sqv b2 rfl (r_move (b2.get rfl)) fun _ aS => ?_
    obtain ⟨dd, aF, df, dg⟩ := dc
    refine sqv aS rfl (r_indexAddr (aS.get rfl) (aS.get rfl) Try.underlying27 ti_29 dd df) fun _ b3 => ?_
    obtain ⟨an, ao, ap, aq, ar, dh, di⟩ := dg
    refine sqv b3 rfl (r_loadN Try.underlying29 rfl ti_29 (b3.get rfl) dh) fun _ b4 => ?_
    refine sqv b4 rfl (r_move (b4.get rfl)) fun _ b5 => ?_
    obtain ⟨dj, dk⟩ := di
    refine sqv b5 rfl (r_addI (b5.get rfl) rfl dj) fun _ b6 => ?_
    refine sqv b6 rfl (r_move (b6.get rfl)) fun _ az => ?_
    refine sq (opk_call az rfl (r_call (args := #[.agg #[.int .i64 an, .string (Bs ao), .string (Bs ap), Sl.v aq, Sl.v ar], .int .i64 (c + 1), .pointer (some f)]) Try.func72 (by decide) rfl (map_arr (ml_cons (az.get rfl) (ml_cons (az.get rfl) (ml_cons (az.get rfl) ml_nil)))) rfl) dk fun d4 d5 ag b7 _ dl d6 dm => ?_)
    obtain ⟨ah, rfl, b8⟩ := dm
    have dn := aQ.kept dl (.head _)
    refine sqv b7 rfl (r_not (b7.get rfl)) fun _ dp => ?_
    refine sq_end ?_
    have aA := dp.keep [(1, .int .i64 c), (2, .pointer (some f)), (3, .pointer (some (⟨i, 0, none⟩ : Addr))), (8, .int .i64 l), (81, .bool (!ah))] ⟨rfl, rfl, rfl, rfl, rfl, trivial⟩
    refine then_normal ?_
    refine wp_cond_split (aA.get rfl) (fun hc => ?_) (fun hc => ?_)
    ·have dq := b8.1 (b_not_t hc)
     clear hc
     refine wp_seq (wp_region_lit ?_)
     refine sqv aA rfl (r_assign rfl) fun _ dr => ?_
     refine sq_end ?_
     have b9 := dr.keep [(6, .bool false)] ⟨rfl, trivial⟩
     refine then_normal ?_
     refine wp_ret ?_
     refine block_ret ?_
     refine then_ret ?_
     refine then_ret ?_
     refine block_ret ?_
     refine then_ret ?_
     exact res_all (vs := [.bool false]) rfl b9 ⟨res_of_tmp b9 rfl, trivial⟩ dq
    ·have ds := b8.2 (b_not_f hc)
     clear hc
     refine wp_skip ?_
     refine block_normal ?_
     refine then_normal (wp_region_lit ?_)
     refine sqv aA rfl (r_move (aA.get rfl)) fun _ ca => ?_
     obtain ⟨dt, cb⟩ := ds
     refine sqv ca rfl (r_addI (ca.get rfl) rfl dt) fun _ cc => ?_
     refine sqv cc rfl (r_assign (cc.get rfl)) fun _ du => ?_
     refine sq_end ?_
     have dv := du.keep [(1, .int .i64 c), (2, .pointer (some f)), (3, .pointer (some (⟨i, 0, none⟩ : Addr))), (8, .int .i64 (l + 1))] ⟨rfl, rfl, rfl, rfl, trivial⟩
     have dx := dv.keep [(1, .int .i64 c), (2, .pointer (some f)), (3, .pointer (some (⟨i, 0, none⟩ : Addr))), (8, .int .i64 (l + 1))] ⟨rfl, rfl, rfl, rfl, trivial⟩
     exact then_normal ⟨(l + 1, ag), ⟨dx, dn, rfl, cb.1⟩, cb.2⟩
   ·have dy := bX.2 (of_decide_eq_false hc)
    clear hc
    refine wp_exit ?_
    refine then_exit ?_
    refine then_exit ?_
    refine block_hit ?_
    have dz := ay.keep [] trivial
    refine then_normal (wp_seq (wp_region_lit ?_))
    refine sqv dz rfl (r_assign rfl) fun _ dA => ?_
    refine sq_end ?_
    have cd := dA.keep [(6, .bool true)] ⟨rfl, trivial⟩
    refine then_normal ?_
    refine wp_ret ?_
    exact res_all (vs := [.bool true]) rfl cd ⟨res_of_tmp cd rfl, trivial⟩ dy
end Go.Proofs.Ytghmgfkdnolcdaa
