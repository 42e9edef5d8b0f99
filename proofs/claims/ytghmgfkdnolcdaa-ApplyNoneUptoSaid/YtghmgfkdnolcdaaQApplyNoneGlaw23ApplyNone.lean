/-
  PRINTED BY PROGRAM: for each function its condition (vc), and that this suffices (ok).
-/
import Derived.Test.YtghmgfkdnolcdaaQApplyNoneGT
namespace Go.Proofs.Ytghmgfkdnolcdaa
open Go.RowKit
set_option linter.unusedVariables false
set_option maxHeartbeats 1000000
set_option maxRecDepth 10000
def law23_ApplyNone.vc (c : Int) (d : Str) (f : Str) (h : Sl) (i : Sl) (R : Value → World → Prop) (w : World) : Prop :=
∀ (t : World) (j : Nat), New w j t → Chg [] w t →
CallK Try.prog 42 #[.agg #[.int .i64 c, .string (Bs d), .string (Bs f), Sl.v h, Sl.v i]] t [j] (fun v ar => ∃ (x : Bool), v = .bool x ∧
((x = false) →
CallK Try.prog 37 #[] ar [j] (fun v aH => ∃ (y : Bool), v = .bool y ∧
R (.bool y) aH)) ∧
((x = true) →
CallK Try.prog 25 #[.agg #[.int .i64 c, .string (Bs d), .string (Bs f), Sl.v h, Sl.v i]] ar [j] (fun v aI => ∃ (ai : Int) (aj : Str) (ak : Str) (al : Sl) (am : Sl), v = .agg #[.int .i64 ai, .string (Bs aj), .string (Bs ak), Sl.v al, Sl.v am] ∧
CallK Try.prog 38 #[.agg #[.int .i64 ai, .string (Bs aj), .string (Bs ak), Sl.v al, Sl.v am], Sl.v Sl.nil] aI [j] (fun v z => ∃ (m : Int) (n : Str) (o : Str) (p : Sl) (q : Sl) (b : Int) (a : Int), v = .tuple #[.agg #[.int .i64 m, .string (Bs n), .string (Bs o), Sl.v p, Sl.v q], .int .i64 b, .int .i64 a] ∧
∀ (u : World) (k : Nat), New z k u → Chg [] z u →
CallK Try.prog 41 #[.agg #[.int .i64 c, .string (Bs d), .string (Bs f), Sl.v h, Sl.v i]] u [j, k] (fun v l => ∃ (aa : Bool), v = .bool aa ∧
((aa = false) →
∃ (ab : Bool), ((((a = 1) ∧ (b = 0))) → Calls Try.prog 37 #[] l (Ret fun v w' => Ext l w' ∧ v = .bool ab)) ∧
(∀ ad : World, Ext l ad →
R (.bool (((decide (a = 1)) && (decide (b = 0))) && ab)) ad)) ∧
((aa = true) →
∃ (r : Bool), ((((a = 0) ∧ (b = 0))) → Calls Try.prog 40 #[.agg #[.int .i64 m, .string (Bs n), .string (Bs o), Sl.v p, Sl.v q], .agg #[.int .i64 c, .string (Bs d), .string (Bs f), Sl.v h, Sl.v i]] l (Ret fun v w' => Ext l w' ∧ v = .bool r)) ∧
(∀ s : World, Ext l s →
∃ (af : Bool), (((((a = 0) ∧ (b = 0)) ∧ (r = true))) → Calls Try.prog 37 #[] s (Ret fun v w' => Ext s w' ∧ v = .bool af)) ∧
(∀ ag : World, Ext s ag →
R (.bool ((((decide (a = 0)) && (decide (b = 0))) && r) && af)) ag))))))))
theorem law23_ApplyNone.ok (c : Int) (d : Str) (f : Str) (h : Sl) (i : Sl) {R : Value → World → Prop} {w : World} (aJ : law23_ApplyNone.vc c d f h i R w) : Calls Try.prog 9 #[.agg #[.int .i64 c, .string (Bs d), .string (Bs f), Sl.v h, Sl.v i]] w (Ret R) := by
 refine enter [.agg #[.int .i64 c, .string (Bs d), .string (Bs f), Sl.v h, Sl.v i]] Try.func9 rfl Try.ntmps9 rfl ?_
 intro a0 aK
 unfold law23_ApplyNone.vc at aJ
 refine wp_seq (wp_region_lit ?_)
 refine sq (opk_new (fun B => .pointer (some ⟨B, 0, none⟩)) aK rfl (r_box (cs := [.int .i64 c, .string (Bs d), .string (Bs f), Sl.v h, Sl.v i]) (aK.get rfl) rfl) fun a4 t j bx bz aL bA _ => ?_)
 have bB : New w j t := bz
 have bC : Chg [] w t := bx
 refine sqv bA rfl (r_assign rfl) fun _ bD => ?_
 refine sq_end ?_
 have aM := bD.keep [(1, .pointer (some (⟨j, 0, none⟩ : Addr)))] ⟨rfl, trivial⟩
 refine then_normal (wp_seq (wp_seq (wp_region_lit ?_)))
 refine sqv aM rfl (r_loadN (cs := [.int .i64 c, .string (Bs d), .string (Bs f), Sl.v h, Sl.v i]) Try.underlying29 rfl ti_29 (aM.get rfl) (aL.part 0 _ rfl)) fun _ aN => ?_
 have bF := aJ t j bB  bC
 refine sq (opk_call aN rfl (r_call (args := #[.agg #[.int .i64 c, .string (Bs d), .string (Bs f), Sl.v h, Sl.v i]]) Try.func42 (by decide) rfl (map_arr (ml_cons (aN.get rfl) ml_nil)) rfl) bF fun cu cv ar aO _ bG cx bH => ?_)
 obtain ⟨x, rfl, aP⟩ := bH
 have au := aL.kept bG (.head _)
 refine sqv aO rfl (r_not (aO.get rfl)) fun _ bI => ?_
 refine sq_end ?_
 have an := bI.keep [(1, .pointer (some (⟨j, 0, none⟩ : Addr))), (8, .bool (!x))] ⟨rfl, rfl, trivial⟩
 refine then_normal ?_
 refine wp_cond_split (an.get rfl) (fun hc => ?_) (fun hc => ?_)
 ·have bJ := aP.1 (b_not_t hc)
  clear hc
  refine wp_seq (wp_region_lit ?_)
  refine sq (opk_call an rfl (r_call (args := #[]) Try.func37 (by decide) rfl (map_arr ml_nil) rfl) bJ fun cy cz aH aQ _ bK cA bL => ?_)
  obtain ⟨y, rfl, bM⟩ := bL
  have cB := au.kept bK (.head _)
  refine sqv aQ rfl (r_assign (aQ.get rfl)) fun _ bN => ?_
  refine sq_end ?_
  have aR := bN.keep [(2, .bool y)] ⟨rfl, trivial⟩
  refine then_normal ?_
  refine wp_ret ?_
  refine then_ret ?_
  exact res_all (vs := [.bool y]) rfl aR ⟨res_of_tmp aR rfl, trivial⟩ bM
 ·have bO := aP.2 (b_not_f hc)
  clear hc
  refine wp_skip ?_
  refine then_normal (wp_seq (wp_region_lit ?_))
  refine sqv an rfl (r_loadN (cs := [.int .i64 c, .string (Bs d), .string (Bs f), Sl.v h, Sl.v i]) Try.underlying29 rfl ti_29 (an.get rfl) (au.part 0 _ rfl)) fun _ aS => ?_
  refine sq (opk_call aS rfl (r_call (args := #[.agg #[.int .i64 c, .string (Bs d), .string (Bs f), Sl.v h, Sl.v i]]) Try.func25 (by decide) rfl (map_arr (ml_cons (aS.get rfl) ml_nil)) rfl) bO fun cC cD aI aT _ bP cF bQ => ?_)
  obtain ⟨ai, aj, ak, al, am, rfl, bR⟩ := bQ
  have bS := au.kept bP (.head _)
  refine sq (opk_call aT rfl (r_call (args := #[.agg #[.int .i64 ai, .string (Bs aj), .string (Bs ak), Sl.v al, Sl.v am], Sl.v Sl.nil]) Try.func38 (by decide) rfl (map_arr (ml_cons (aT.get rfl) (ml_cons rfl ml_nil))) rfl) bR fun cG cH z aU _ bT cI bU => ?_)
  obtain ⟨m, n, o, p, q, b, a, rfl, bV⟩ := bU
  have aV := bS.kept bT (.head _)
  refine sqv aU rfl (r_move (aU.get rfl)) fun _ aX => ?_
  refine sqv aX rfl (r_extract (aX.get rfl) rfl) fun _ aY => ?_
  refine sqv aY rfl (r_extract (aY.get rfl) rfl) fun _ aZ => ?_
  refine sqv aZ rfl (r_extract (aZ.get rfl) rfl) fun _ bX => ?_
  refine sq (opk_new (fun B => .pointer (some ⟨B, 0, none⟩)) bX rfl (r_alloc (cs := [.int .i64 0, .string (Bs ([] : Str)), .string (Bs ([] : Str)), Sl.v Sl.nil, Sl.v Sl.nil]) ti_29 rfl) fun cJ w64 k a1 a2 a3 av _ => ?_)
  have bY : j ≠ k := Nat.ne_of_lt (Nat.lt_of_lt_of_le aV.lt a2.ge)
  have hN70 : New z k w64 := a2
  have bZ := aV.ext a1
  have b0 : Chg [] z w64 := a1
  refine sq (opk_store av a3 (r_store (vs := [.int .i64 m, .string (Bs n), .string (Bs o), Sl.v p, Sl.v q]) (av.get rfl) (av.get rfl) rfl ti_29 a3 rfl (ones_all [.int .i64 m, .string (Bs n), .string (Bs o), Sl.v p, Sl.v q] rfl)) fun cK u ax b1 a5 => ?_)
  have b2 : Box u k 29 [.int .i64 m, .string (Bs n), .string (Bs o), Sl.v p, Sl.v q] := b1
  have a6 := bZ.keep ax (by simpa using bY)
  have b3 := b0.storeNew hN70 ax
  have b4 := hN70.up ax.size
  refine sqv a5 rfl (r_assign (a5.get rfl)) fun _ a7 => ?_
  refine sqv a7 rfl (r_assign (a7.get rfl)) fun _ b5 => ?_
  refine sq_end ?_
  have a8 := b5.keep [(1, .pointer (some (⟨j, 0, none⟩ : Addr))), (3, .pointer (some (⟨k, 0, none⟩ : Addr))), (4, .int .i64 b), (5, .int .i64 a)] ⟨rfl, rfl, rfl, rfl, trivial⟩
  refine then_normal (wp_seq (wp_seq (wp_region_lit ?_)))
  refine sqv a8 rfl (r_loadN (cs := [.int .i64 c, .string (Bs d), .string (Bs f), Sl.v h, Sl.v i]) Try.underlying29 rfl ti_29 (a8.get rfl) (a6.part 0 _ rfl)) fun _ a9 => ?_
  have b6 := bV u k b4  b3
  refine sq (opk_call a9 rfl (r_call (args := #[.agg #[.int .i64 c, .string (Bs d), .string (Bs f), Sl.v h, Sl.v i]]) Try.func41 (by decide) rfl (map_arr (ml_cons (a9.get rfl) ml_nil)) rfl) b6 fun cL cM l ba _ bb cN b7 => ?_)
  obtain ⟨aa, rfl, bd⟩ := b7
  have ay := a6.kept bb (.head _)
  have az := b2.kept bb (.tail _ (.head _))
  refine sqv ba rfl (r_not (ba.get rfl)) fun _ b8 => ?_
  refine sq_end ?_
  have ah := b8.keep [(1, .pointer (some (⟨j, 0, none⟩ : Addr))), (3, .pointer (some (⟨k, 0, none⟩ : Addr))), (4, .int .i64 b), (5, .int .i64 a), (19, .bool (!aa))] ⟨rfl, rfl, rfl, rfl, rfl, trivial⟩
  refine then_normal ?_
  refine wp_cond_split (ah.get rfl) (fun hc => ?_) (fun hc => ?_)
  ·have b9 := bd.1 (b_not_t hc)
   clear hc
   refine wp_seq (wp_region_lit ?_)
   refine sqv ah rfl (r_move (ah.get rfl)) fun _ bf => ?_
   refine sqv bf rfl (r_eql (bf.get rfl) rfl) fun _ bg => ?_
   refine sqv bg rfl (r_move (bg.get rfl)) fun _ bh => ?_
   refine sq (opk_gval bh rfl rfl (g := true) (e := (decide (a = 1))) rfl (fun hg => r_move (bh.get rfl)) fun cO bi _ => ?_)
   refine sq (opk_gval bi rfl rfl (g := true) (e := (decide (a = 1))) rfl (fun hg => r_eql (cv_get (bi.get rfl) hg) rfl) fun cP aA _ => ?_)
   refine sqv aA rfl (r_pick_and (g := (true && ((decide (a = 1)) == true))) (aA.get rfl) (aA.get rfl) (fun he => g_mkt rfl he)) fun _ bj => ?_
   refine sqv bj rfl (r_move (bj.get rfl)) fun _ ca => ?_
   obtain ⟨ab, cb, cc⟩ := b9
   refine sq (opk_gcall ca rfl rfl (g := true) (e := ((decide (a = 1)) && (decide (b = 0)))) rfl (fun hg => r_call (args := #[]) Try.func37 (by decide) rfl (map_arr ml_nil) rfl) (fun hg => cb ⟨(of_decide_eq_true (b_and_t (g_t hg)).1), (of_decide_eq_true (b_and_t (g_t hg)).2)⟩) fun cQ ad aB _ ao => ?_)
   have cR := ay.ext ao
   have cS := az.ext ao
   have cT : Chg [] l ad := ao
   have cd := cc ad ao
   refine sqv aB rfl (r_pick_and (g := (true && (((decide (a = 1)) && (decide (b = 0))) == true))) (aB.get rfl) (aB.get rfl) (fun he => g_mkt rfl he)) fun _ bk => ?_
   refine sqv bk rfl (r_assign (bk.get rfl)) fun _ cf => ?_
   refine sq_end ?_
   have bl := cf.keep [(2, .bool (((decide (a = 1)) && (decide (b = 0))) && ab))] ⟨rfl, trivial⟩
   refine then_normal ?_
   refine wp_ret ?_
   refine then_ret ?_
   exact res_all (vs := [.bool (((decide (a = 1)) && (decide (b = 0))) && ab)]) rfl bl ⟨res_of_tmp bl rfl, trivial⟩ cd
  ·have cg := bd.2 (b_not_f hc)
   clear hc
   refine wp_skip ?_
   refine then_normal (wp_seq (wp_region_lit ?_))
   refine sqv ah rfl (r_move (ah.get rfl)) fun _ bm => ?_
   refine sqv bm rfl (r_eql (bm.get rfl) rfl) fun _ bn => ?_
   refine sqv bn rfl (r_move (bn.get rfl)) fun _ bo => ?_
   refine sq (opk_gval bo rfl rfl (g := true) (e := (decide (a = 0))) rfl (fun hg => r_move (bo.get rfl)) fun cU bp _ => ?_)
   refine sq (opk_gval bp rfl rfl (g := true) (e := (decide (a = 0))) rfl (fun hg => r_eql (cv_get (bp.get rfl) hg) rfl) fun cX aC _ => ?_)
   refine sqv aC rfl (r_pick_and (g := (true && ((decide (a = 0)) == true))) (aC.get rfl) (aC.get rfl) (fun he => g_mkt rfl he)) fun _ bq => ?_
   refine sqv bq rfl (r_move (bq.get rfl)) fun _ br => ?_
   refine sq (opk_gval br rfl rfl (g := true) (e := ((decide (a = 0)) && (decide (b = 0)))) rfl (fun hg => r_loadN (cs := [.int .i64 m, .string (Bs n), .string (Bs o), Sl.v p, Sl.v q]) Try.underlying29 rfl ti_29 (br.get rfl) (az.part 0 _ rfl)) fun cY bs _ => ?_)
   refine sq (opk_gval bs rfl rfl (g := true) (e := ((decide (a = 0)) && (decide (b = 0)))) rfl (fun hg => r_loadN (cs := [.int .i64 c, .string (Bs d), .string (Bs f), Sl.v h, Sl.v i]) Try.underlying29 rfl ti_29 (bs.get rfl) (ay.part 0 _ rfl)) fun cZ aD _ => ?_)
   obtain ⟨r, ch, ci⟩ := cg
   refine sq (opk_gcall aD rfl rfl (g := true) (e := ((decide (a = 0)) && (decide (b = 0)))) rfl (fun hg => r_call (args := #[.agg #[.int .i64 m, .string (Bs n), .string (Bs o), Sl.v p, Sl.v q], .agg #[.int .i64 c, .string (Bs d), .string (Bs f), Sl.v h, Sl.v i]]) Try.func40 (by decide) rfl (map_arr (ml_cons (cv_get (aD.get rfl) hg) (ml_cons (cv_get (aD.get rfl) hg) ml_nil))) rfl) (fun hg => ch ⟨(of_decide_eq_true (b_and_t (g_t hg)).1), (of_decide_eq_true (b_and_t (g_t hg)).2)⟩) fun c0 s aF _ ap => ?_)
   have cj := ay.ext ap
   have ck := az.ext ap
   have c1 : Chg [] l s := ap
   have cl := ci s ap
   refine sqv aF rfl (r_pick_and (g := (true && (((decide (a = 0)) && (decide (b = 0))) == true))) (aF.get rfl) (aF.get rfl) (fun he => g_mkt rfl he)) fun _ bt => ?_
   refine sqv bt rfl (r_move (bt.get rfl)) fun _ cm => ?_
   obtain ⟨af, cn, co⟩ := cl
   refine sq (opk_gcall cm rfl rfl (g := true) (e := (((decide (a = 0)) && (decide (b = 0))) && r)) rfl (fun hg => r_call (args := #[]) Try.func37 (by decide) rfl (map_arr ml_nil) rfl) (fun hg => cn ⟨⟨(of_decide_eq_true (b_and_t (b_and_t (g_t hg)).1).1), (of_decide_eq_true (b_and_t (b_and_t (g_t hg)).1).2)⟩, (b_and_t (g_t hg)).2⟩) fun c2 ag aG _ aq => ?_)
   have c3 := cj.ext aq
   have c4 := ck.ext aq
   have c5 : Chg [] s ag := aq
   have cp := co ag aq
   refine sqv aG rfl (r_pick_and (g := (true && ((((decide (a = 0)) && (decide (b = 0))) && r) == true))) (aG.get rfl) (aG.get rfl) (fun he => g_mkt rfl he)) fun _ bu => ?_
   refine sqv bu rfl (r_assign (bu.get rfl)) fun _ cq => ?_
   refine sq_end ?_
   have bv := cq.keep [(2, .bool ((((decide (a = 0)) && (decide (b = 0))) && r) && af))] ⟨rfl, trivial⟩
   refine then_normal ?_
   refine wp_ret ?_
   exact res_all (vs := [.bool ((((decide (a = 0)) && (decide (b = 0))) && r) && af)]) rfl bv ⟨res_of_tmp bv rfl, trivial⟩ cp
end Go.Proofs.Ytghmgfkdnolcdaa
