/-
  PRINTED BY PROGRAM: for each function its condition (vc), and that this suffices (ok).
-/
import Derived.Test.YteohbfaechfliaaQSlotsAllGT
namespace Go.Proofs.Yteohbfaechfliaa
open Go.RowKit
set_option linter.unusedVariables false
set_option maxHeartbeats 1000000
set_option maxRecDepth 10000
def law25_awake.vc  (R : Value → World → Prop) (w : World) : Prop :=
∀ (m : World) (d : Nat) (i : Nat) (h : Nat) (k : Nat) (l : Nat), New w d m → New w i m → New w h m → New w k m → New w l m → d ≠ i → d ≠ h → d ≠ k → d ≠ l → i ≠ h → i ≠ k → i ≠ l → h ≠ k → h ≠ l → k ≠ l → Chg [] w m →
∀ (_ : Box m d 26 [.int .i64 3, .string (Bs []), .string (Bs ([97] : Str)), Sl.v Sl.nil, Sl.v Sl.nil]),
∀ (_ : Box m h 26 [.int .i64 3, .string (Bs []), .string (Bs ([98] : Str)), Sl.v Sl.nil, Sl.v Sl.nil]),
∀ (_ : Box m l 40 [.int .i64 0, .int .i64 0, .int .i64 1, .int .i64 1]),
CallK Try.prog 12 #[.agg #[.int .i64 1, .string (Bs []), .string (Bs []), Sl.v Sl.nil, Sl.v (Sl.mk (some ⟨d, 0, none⟩) 1 1)], .agg #[.int .i64 1, .string (Bs []), .string (Bs []), Sl.v Sl.nil, Sl.v (Sl.mk (some ⟨h, 0, none⟩) 1 1)], Sl.v (Sl.mk (some ⟨l, 0, none⟩) 2 2)] m [i, k] (fun v s => ∃ (b : Sl) (c : Int), v = .tuple #[Sl.v b, .int .i64 c] ∧
∃ af : Addr, ((((c = 0) ∧ ((b.n : Int) = 2))) → ((0 : Int) ≤ 1 ∧ 1 < (b.n : Int)) ∧  b.a = some af) ∧
∃ (f : Bool), ((((c = 0) ∧ ((b.n : Int) = 2))) → s.cell? ((af.add (1 * 6)).add 1) = some (.bool f)) ∧
∃ ag : Addr, (((((c = 0) ∧ ((b.n : Int) = 2)) ∧ (f = true))) → ((0 : Int) ≤ 1 ∧ 1 < (b.n : Int)) ∧  b.a = some ag) ∧
∃ (j : Int), (((((c = 0) ∧ ((b.n : Int) = 2)) ∧ (f = true))) → s.cell? ((ag.add (1 * 6)).add 4) = some (.int .i64 j)) ∧
∃ (o : Bool), ((((((c = 0) ∧ ((b.n : Int) = 2)) ∧ (f = true)) ∧ (j = 0))) → Calls Try.prog 16 #[.agg #[.int .i64 1, .string (Bs []), .string (Bs []), Sl.v Sl.nil, Sl.v (Sl.mk (some ⟨d, 0, none⟩) 1 1)], Sl.v b, .int .i64 1] s (Ret fun v w' => Ext s w' ∧ v = .bool o)) ∧
(∀ q : World, Ext s q →
∃ (u : Bool), (((((((c = 0) ∧ ((b.n : Int) = 2)) ∧ (f = true)) ∧ (j = 0)) ∧ (o = true))) → Calls Try.prog 16 #[.agg #[.int .i64 1, .string (Bs []), .string (Bs []), Sl.v Sl.nil, Sl.v (Sl.mk (some ⟨d, 0, none⟩) 1 1)], Sl.v b, .int .i64 0] q (Ret fun v w' => Ext q w' ∧ v = .bool u)) ∧
(∀ x : World, Ext q x →
R (.bool ((((((decide (c = 0)) && (decide ((b.n : Int) = 2))) && f) && (decide (j = 0))) && o) && (!u))) x)))
theorem law25_awake.ok  {R : Value → World → Prop} {w : World} (aA : law25_awake.vc  R w) : Calls Try.prog 14 #[] w (Ret R) := by
 refine enter [] Try.func14 rfl Try.ntmps14 rfl ?_
 intro a0 bK
 unfold law25_awake.vc at aA
 refine wp_seq (wp_region_lit ?_)
 refine sqv bK rfl (r_assign rfl) fun _ bL => sq_end ?_
 have bM := bL.kp [] rfl
 refine then_normal (wp_seq (wp_region_lit ?_))
 refine sqv bM rfl (r_build (vs := #[(0, .int .i64 3), (2, .string (Bs ([97] : Str)))]) (cells := #[.int .i64 3, .string (Bs []), .string (Bs ([97] : Str)), Sl.v Sl.nil, Sl.v Sl.nil]) (map_arr2 (ml2_cons rfl (ml2_cons rfl (ml2_nil)))) ti_26 Try.underlying26 pl_26 (by kernel_rfl)) fun _ aB => ?_
 refine sq (opk_new (fun B => .slice (some ⟨B, 0, none⟩) 1 1) aB rfl (r_buildSlice (vs := #[(0, .agg #[.int .i64 3, .string (Bs []), .string (Bs ([97] : Str)), Sl.v Sl.nil, Sl.v Sl.nil])]) (cs := [.int .i64 3, .string (Bs []), .string (Bs ([97] : Str)), Sl.v Sl.nil, Sl.v Sl.nil]) (map_arr2 (ml2_cons (aB.get rfl) (ml2_nil))) tU24 ti_26 rfl rfl (by kernel_rfl)) fun a6 w5 d bN bO aD aF _ => ?_)
 have bP : New w d w5 := bO
 have aG : Chg [] w w5 := bN
 refine sqv aF rfl (r_build (vs := #[(0, .int .i64 1), (4, Sl.v (Sl.mk (some ⟨d, 0, none⟩) 1 1))]) (cells := #[.int .i64 1, .string (Bs []), .string (Bs []), Sl.v Sl.nil, Sl.v (Sl.mk (some ⟨d, 0, none⟩) 1 1)]) (map_arr2 (ml2_cons rfl (ml2_cons (aF.get rfl) (ml2_nil)))) ti_26 Try.underlying26 pl_26 (by kernel_rfl)) fun _ bQ => ?_
 refine sq (opk_new (fun B => .pointer (some ⟨B, 0, none⟩)) bQ rfl (r_alloc (cs := [.int .i64 0, .string (Bs []), .string (Bs []), Sl.v Sl.nil, Sl.v Sl.nil]) ti_26 rfl) fun c4 c5 i ah aH aI ai _ => ?_)
 have aJ : d ≠ i := Nat.ne_of_lt (Nat.lt_of_lt_of_le aD.lt aH.ge)
 have aK := New.of aG aH
 have bR := aD.ext ah
 have bS := aG.more ah
 have bT := bP.up ah.size
 refine sq (opk_store ai aI (r_store (vs := [.int .i64 1, .string (Bs []), .string (Bs []), Sl.v Sl.nil, Sl.v (Sl.mk (some ⟨d, 0, none⟩) 1 1)]) (ai.get rfl) (ai.get rfl) rfl ti_26 aI rfl (ones_all _ rfl)) fun c6 bU aa bV bX => ?_)
 have aL : Box bU i 26 [.int .i64 1, .string (Bs []), .string (Bs []), Sl.v Sl.nil, Sl.v (Sl.mk (some ⟨d, 0, none⟩) 1 1)] := bV
 have aM := bR.keep aa (by simpa using aJ)
 have aN := bS.storeNew aK aa
 have bY := bT.up aa.size
 have bZ := aK.up aa.size
 refine sq_end ?_
 have b0 := bX.kp [(1, pB i 0)] rfl
 refine then_normal (wp_seq (wp_region_lit ?_))
 refine sqv b0 rfl (r_build (vs := #[(0, .int .i64 3), (2, .string (Bs ([98] : Str)))]) (cells := #[.int .i64 3, .string (Bs []), .string (Bs ([98] : Str)), Sl.v Sl.nil, Sl.v Sl.nil]) (map_arr2 (ml2_cons rfl (ml2_cons rfl (ml2_nil)))) ti_26 Try.underlying26 pl_26 (by kernel_rfl)) fun _ aO => ?_
 refine sq (opk_new (fun B => .slice (some ⟨B, 0, none⟩) 1 1) aO rfl (r_buildSlice (vs := #[(0, .agg #[.int .i64 3, .string (Bs []), .string (Bs ([98] : Str)), Sl.v Sl.nil, Sl.v Sl.nil])]) (cs := [.int .i64 3, .string (Bs []), .string (Bs ([98] : Str)), Sl.v Sl.nil, Sl.v Sl.nil]) (map_arr2 (ml2_cons (aO.get rfl) (ml2_nil))) tU24 ti_26 rfl rfl (by kernel_rfl)) fun c7 c8 h y aj aP aQ _ => ?_)
 have b1 : d ≠ h := Nat.ne_of_lt (Nat.lt_of_lt_of_le aM.lt aj.ge)
 have b2 : i ≠ h := Nat.ne_of_lt (Nat.lt_of_lt_of_le aL.lt aj.ge)
 have b3 := New.of aN aj
 have aR := aM.ext y
 have aS := aL.ext y
 have aT := aN.more y
 have b4 := bY.up y.size
 have b5 := bZ.up y.size
 refine sqv aQ rfl (r_build (vs := #[(0, .int .i64 1), (4, Sl.v (Sl.mk (some ⟨h, 0, none⟩) 1 1))]) (cells := #[.int .i64 1, .string (Bs []), .string (Bs []), Sl.v Sl.nil, Sl.v (Sl.mk (some ⟨h, 0, none⟩) 1 1)]) (map_arr2 (ml2_cons rfl (ml2_cons (aQ.get rfl) (ml2_nil)))) ti_26 Try.underlying26 pl_26 (by kernel_rfl)) fun _ b6 => ?_
 refine sq (opk_new (fun B => .pointer (some ⟨B, 0, none⟩)) b6 rfl (r_alloc (cs := [.int .i64 0, .string (Bs []), .string (Bs []), Sl.v Sl.nil, Sl.v Sl.nil]) ti_26 rfl) fun c9 da k t ab aU ak _ => ?_)
 have aV : d ≠ k := Nat.ne_of_lt (Nat.lt_of_lt_of_le aR.lt ab.ge)
 have aX : i ≠ k := Nat.ne_of_lt (Nat.lt_of_lt_of_le aS.lt ab.ge)
 have aY : h ≠ k := Nat.ne_of_lt (Nat.lt_of_lt_of_le aP.lt ab.ge)
 have aZ := New.of aT ab
 have b7 := aR.ext t
 have b8 := aS.ext t
 have b9 := aP.ext t
 have ca := aT.more t
 have cb := b4.up t.size
 have cc := b5.up t.size
 have cd := b3.up t.size
 refine sq (opk_store ak aU (r_store (vs := [.int .i64 1, .string (Bs []), .string (Bs []), Sl.v Sl.nil, Sl.v (Sl.mk (some ⟨h, 0, none⟩) 1 1)]) (ak.get rfl) (ak.get rfl) rfl ti_26 aU rfl (ones_all _ rfl)) fun db cf r cg ch => ?_)
 have al : Box cf k 26 [.int .i64 1, .string (Bs []), .string (Bs []), Sl.v Sl.nil, Sl.v (Sl.mk (some ⟨h, 0, none⟩) 1 1)] := cg
 have hB72 := b7.keep r (by simpa using aV)
 have am := b8.keep r (by simpa using aX)
 have a1 := b9.keep r (by simpa using aY)
 have a2 := ca.storeNew aZ r
 have ci := cb.up r.size
 have cj := cc.up r.size
 have ck := cd.up r.size
 have cl := aZ.up r.size
 refine sq_end ?_
 have a3 := ch.kp [(1, pB i 0), (2, pB k 0)] rfl
 refine then_normal (wp_seq (wp_region_lit ?_))
 refine sqv a3 rfl (r_loadN (cs := [.int .i64 1, .string (Bs []), .string (Bs []), Sl.v Sl.nil, Sl.v (Sl.mk (some ⟨d, 0, none⟩) 1 1)]) Try.underlying26 rfl ti_26 (a3.get rfl) (am.part 0 _ rfl)) fun _ a4 => sqv a4 rfl (r_loadN (cs := [.int .i64 1, .string (Bs []), .string (Bs []), Sl.v Sl.nil, Sl.v (Sl.mk (some ⟨h, 0, none⟩) 1 1)]) Try.underlying26 rfl ti_26 (a4.get rfl) (al.part 0 _ rfl)) fun _ cm => sqv cm rfl (r_build (vs := #[]) (cells := #[.int .i64 0, .int .i64 0]) (map_arr2 ml2_nil) ti_40 Try.underlying40 pl_40 (by kernel_rfl)) fun _ cn => sqv cn rfl (r_build (vs := #[(0, .int .i64 1), (1, .int .i64 1)]) (cells := #[.int .i64 1, .int .i64 1]) (map_arr2 (ml2_cons rfl (ml2_cons rfl (ml2_nil)))) ti_40 Try.underlying40 pl_40 (by kernel_rfl)) fun _ an => ?_
 refine sq (opk_new (fun B => .slice (some ⟨B, 0, none⟩) 2 2) an rfl (r_buildSlice (vs := #[(0, .agg #[.int .i64 0, .int .i64 0]), (1, .agg #[.int .i64 1, .int .i64 1])]) (cs := [.int .i64 0, .int .i64 0, .int .i64 1, .int .i64 1]) (map_arr2 (ml2_cons (an.get rfl) (ml2_cons (an.get rfl) (ml2_nil)))) tU29 ti_40 rfl rfl (by kernel_rfl)) fun dc m l p z co ad _ => ?_)
 have cp : d ≠ l := Nat.ne_of_lt (Nat.lt_of_lt_of_le hB72.lt z.ge)
 have cq : i ≠ l := Nat.ne_of_lt (Nat.lt_of_lt_of_le am.lt z.ge)
 have cr : h ≠ l := Nat.ne_of_lt (Nat.lt_of_lt_of_le a1.lt z.ge)
 have ct : k ≠ l := Nat.ne_of_lt (Nat.lt_of_lt_of_le al.lt z.ge)
 have cu := New.of a2 z
 have cv := hB72.ext p
 have cx := am.ext p
 have cy := a1.ext p
 have cz := al.ext p
 have cA := a2.more p
 have cB := ci.up p.size
 have cC := cj.up p.size
 have cD := ck.up p.size
 have cF := cl.up p.size
 have cG := aA m d i h k l cB cC cD cF cu aJ b1 aV cp b2 aX cq aY cr ct cA
 have cH := cG cv
 have cI := cH cy
 have cJ := cI co
 refine sq (opk_call ad rfl (r_call (args := #[.agg #[.int .i64 1, .string (Bs []), .string (Bs []), Sl.v Sl.nil, Sl.v (Sl.mk (some ⟨d, 0, none⟩) 1 1)], .agg #[.int .i64 1, .string (Bs []), .string (Bs []), Sl.v Sl.nil, Sl.v (Sl.mk (some ⟨h, 0, none⟩) 1 1)], Sl.v (Sl.mk (some ⟨l, 0, none⟩) 2 2)]) Try.func12 (by decide) rfl (map_arr (ml_cons (ad.get rfl) (ml_cons (ad.get rfl) (ml_cons (ad.get rfl) ml_nil)))) rfl) cJ fun dd df s a5 _ hn114 dg cK => ?_)
 obtain ⟨b, c, rfl, cL⟩ := cK
 have a7 := cx.kept hn114 (.head _)
 have dh := cz.kept hn114 (.tail _ (.head _))
 refine sqv a5 rfl (r_move (a5.get rfl)) fun _ a8 => sqv a8 rfl (r_extract (a8.get rfl) rfl) fun _ a9 => sqv a9 rfl (r_extract (a9.get rfl) rfl) fun _ ba => sqv ba rfl (r_assign (ba.get rfl)) fun _ bb => sqv bb rfl (r_assign (bb.get rfl)) fun _ cM => sq_end ?_
 have bd := cM.kp [(1, pB i 0), (3, Sl.v b), (4, .int .i64 c)] rfl
 refine then_normal (wp_seq (wp_region_lit ?_))
 refine sqv bd rfl (r_move (bd.get rfl)) fun _ bf => sqv bf rfl (r_eql (bf.get rfl) rfl) fun _ bg => sqv bg rfl (r_move (bg.get rfl)) fun _ bh => ?_
 refine sq (opk_gval bh rfl rfl (g := true) (e := (decide (c = 0))) rfl (fun hg => r_move (bh.get rfl)) fun di bi _ => ?_)
 refine sq (opk_gval bi rfl rfl (g := true) (e := (decide (c = 0))) rfl (fun hg => r_len (cv_get (bi.get rfl) hg) tU33) fun dj bj _ => ?_)
 refine sq (opk_gval bj rfl rfl (g := true) (e := (decide (c = 0))) rfl (fun hg => r_eql (cv_get (bj.get rfl) hg) rfl) fun dk ao _ => ?_)
 refine sqv ao rfl (r_pick_and (g := (true && ((decide (c = 0)) == true))) (ao.get rfl) (ao.get rfl) (fun he => g_mkt rfl he)) fun _ bk => sqv bk rfl (r_move (bk.get rfl)) fun _ bl => ?_
 refine sq (opk_gval bl rfl rfl (g := true) (e := ((decide (c = 0)) && (decide ((b.n : Int) = 2)))) rfl (fun hg => r_move (bl.get rfl)) fun dl bm _ => ?_)
 obtain ⟨af, bn, cN⟩ := cL
 refine sq (opk_gval bm rfl rfl (g := true) (e := ((decide (c = 0)) && (decide ((b.n : Int) = 2)))) rfl (fun hg => r_indexAddr (cv_get (bm.get rfl) hg) rfl tU33 ti_43 (bn ⟨(of_decide_eq_true (b_and_t (g_t hg)).1), (of_decide_eq_true (b_and_t (g_t hg)).2)⟩).1 (bn ⟨(of_decide_eq_true (b_and_t (g_t hg)).1), (of_decide_eq_true (b_and_t (g_t hg)).2)⟩).2) fun dm bo _ => ?_)
 refine sq (opk_gval bo rfl rfl (g := true) (e := ((decide (c = 0)) && (decide ((b.n : Int) = 2)))) rfl (fun hg => r_fieldAddr (cv_get (bo.get rfl) hg) Try.underlying43 rfl ti_4 (by decide)) fun dn bp _ => ?_)
 obtain ⟨f, cO, cP⟩ := cN
 refine sq (opk_gval bp rfl rfl (g := true) (e := ((decide (c = 0)) && (decide ((b.n : Int) = 2)))) rfl (fun hg => r_load1 tU4 rfl (cv_get (bp.get rfl) hg) (cO ⟨(of_decide_eq_true (b_and_t (g_t hg)).1), (of_decide_eq_true (b_and_t (g_t hg)).2)⟩)) fun dp ap _ => ?_)
 refine sqv ap rfl (r_pick_and (g := (true && (((decide (c = 0)) && (decide ((b.n : Int) = 2))) == true))) (ap.get rfl) (ap.get rfl) (fun he => g_mkt rfl he)) fun _ bq => sqv bq rfl (r_move (bq.get rfl)) fun _ br => ?_
 refine sq (opk_gval br rfl rfl (g := true) (e := (((decide (c = 0)) && (decide ((b.n : Int) = 2))) && f)) rfl (fun hg => r_move (br.get rfl)) fun dq bs _ => ?_)
 obtain ⟨ag, bt, cQ⟩ := cP
 refine sq (opk_gval bs rfl rfl (g := true) (e := (((decide (c = 0)) && (decide ((b.n : Int) = 2))) && f)) rfl (fun hg => r_indexAddr (cv_get (bs.get rfl) hg) rfl tU33 ti_43 (bt ⟨⟨(of_decide_eq_true (b_and_t (b_and_t (g_t hg)).1).1), (of_decide_eq_true (b_and_t (b_and_t (g_t hg)).1).2)⟩, (b_and_t (g_t hg)).2⟩).1 (bt ⟨⟨(of_decide_eq_true (b_and_t (b_and_t (g_t hg)).1).1), (of_decide_eq_true (b_and_t (b_and_t (g_t hg)).1).2)⟩, (b_and_t (g_t hg)).2⟩).2) fun dr bu _ => ?_)
 refine sq (opk_gval bu rfl rfl (g := true) (e := (((decide (c = 0)) && (decide ((b.n : Int) = 2))) && f)) rfl (fun hg => r_fieldAddr (cv_get (bu.get rfl) hg) Try.underlying43 rfl ti_3 (by decide)) fun ds bv _ => ?_)
 obtain ⟨j, cR, cS⟩ := cQ
 refine sq (opk_gval bv rfl rfl (g := true) (e := (((decide (c = 0)) && (decide ((b.n : Int) = 2))) && f)) rfl (fun hg => r_load1 tU3 rfl (cv_get (bv.get rfl) hg) (cR ⟨⟨(of_decide_eq_true (b_and_t (b_and_t (g_t hg)).1).1), (of_decide_eq_true (b_and_t (b_and_t (g_t hg)).1).2)⟩, (b_and_t (g_t hg)).2⟩)) fun dt bx _ => ?_)
 refine sq (opk_gval bx rfl rfl (g := true) (e := (((decide (c = 0)) && (decide ((b.n : Int) = 2))) && f)) rfl (fun hg => r_eql (cv_get (bx.get rfl) hg) rfl) fun du aq _ => ?_)
 refine sqv aq rfl (r_pick_and (g := (true && ((((decide (c = 0)) && (decide ((b.n : Int) = 2))) && f) == true))) (aq.get rfl) (aq.get rfl) (fun he => g_mkt rfl he)) fun _ bz => sqv bz rfl (r_move (bz.get rfl)) fun _ bA => ?_
 refine sq (opk_gval bA rfl rfl (g := true) (e := ((((decide (c = 0)) && (decide ((b.n : Int) = 2))) && f) && (decide (j = 0)))) rfl (fun hg => r_loadN (cs := [.int .i64 1, .string (Bs []), .string (Bs []), Sl.v Sl.nil, Sl.v (Sl.mk (some ⟨d, 0, none⟩) 1 1)]) Try.underlying26 rfl ti_26 (bA.get rfl) (a7.part 0 _ rfl)) fun dv bB _ => ?_)
 refine sq (opk_gval bB rfl rfl (g := true) (e := ((((decide (c = 0)) && (decide ((b.n : Int) = 2))) && f) && (decide (j = 0)))) rfl (fun hg => r_move (bB.get rfl)) fun dx ar _ => ?_)
 obtain ⟨o, cT, cU⟩ := cS
 refine sq (opk_gcall ar rfl rfl (g := true) (e := ((((decide (c = 0)) && (decide ((b.n : Int) = 2))) && f) && (decide (j = 0)))) rfl (fun hg => r_call (args := #[.agg #[.int .i64 1, .string (Bs []), .string (Bs []), Sl.v Sl.nil, Sl.v (Sl.mk (some ⟨d, 0, none⟩) 1 1)], Sl.v b, .int .i64 1]) Try.func16 (by decide) rfl (map_arr (ml_cons (cv_get (ar.get rfl) hg) (ml_cons (cv_get (ar.get rfl) hg) (ml_cons rfl ml_nil)))) rfl) (fun hg => cT ⟨⟨⟨(of_decide_eq_true (b_and_t (b_and_t (b_and_t (g_t hg)).1).1).1), (of_decide_eq_true (b_and_t (b_and_t (b_and_t (g_t hg)).1).1).2)⟩, (b_and_t (b_and_t (g_t hg)).1).2⟩, (of_decide_eq_true (b_and_t (g_t hg)).2)⟩) fun dy q au _ av => ?_)
 have bC := a7.ext av
 have dz : Chg [] s q := av
 have cX := cU q av
 refine sqv au rfl (r_pick_and (g := (true && (((((decide (c = 0)) && (decide ((b.n : Int) = 2))) && f) && (decide (j = 0))) == true))) (au.get rfl) (au.get rfl) (fun he => g_mkt rfl he)) fun _ bD => sqv bD rfl (r_move (bD.get rfl)) fun _ bF => ?_
 refine sq (opk_gval bF rfl rfl (g := true) (e := (((((decide (c = 0)) && (decide ((b.n : Int) = 2))) && f) && (decide (j = 0))) && o)) rfl (fun hg => r_loadN (cs := [.int .i64 1, .string (Bs []), .string (Bs []), Sl.v Sl.nil, Sl.v (Sl.mk (some ⟨d, 0, none⟩) 1 1)]) Try.underlying26 rfl ti_26 (bF.get rfl) (bC.part 0 _ rfl)) fun dA bG _ => ?_)
 refine sq (opk_gval bG rfl rfl (g := true) (e := (((((decide (c = 0)) && (decide ((b.n : Int) = 2))) && f) && (decide (j = 0))) && o)) rfl (fun hg => r_move (bG.get rfl)) fun dB ax _ => ?_)
 obtain ⟨u, cY, cZ⟩ := cX
 refine sq (opk_gcall ax rfl rfl (g := true) (e := (((((decide (c = 0)) && (decide ((b.n : Int) = 2))) && f) && (decide (j = 0))) && o)) rfl (fun hg => r_call (args := #[.agg #[.int .i64 1, .string (Bs []), .string (Bs []), Sl.v Sl.nil, Sl.v (Sl.mk (some ⟨d, 0, none⟩) 1 1)], Sl.v b, .int .i64 0]) Try.func16 (by decide) rfl (map_arr (ml_cons (cv_get (ax.get rfl) hg) (ml_cons (cv_get (ax.get rfl) hg) (ml_cons rfl ml_nil)))) rfl) (fun hg => cY ⟨⟨⟨⟨(of_decide_eq_true (b_and_t (b_and_t (b_and_t (b_and_t (g_t hg)).1).1).1).1), (of_decide_eq_true (b_and_t (b_and_t (b_and_t (b_and_t (g_t hg)).1).1).1).2)⟩, (b_and_t (b_and_t (b_and_t (g_t hg)).1).1).2⟩, (of_decide_eq_true (b_and_t (b_and_t (g_t hg)).1).2)⟩, (b_and_t (g_t hg)).2⟩) fun dC x bH _ ay => ?_)
 have dD := bC.ext ay
 have dF : Chg [] q x := ay
 have c0 := cZ x ay
 refine sq (opk_gval bH rfl rfl (g := true) (e := (((((decide (c = 0)) && (decide ((b.n : Int) = 2))) && f) && (decide (j = 0))) && o)) rfl (fun hg => r_not (cv_get (bH.get rfl) hg)) fun dG az _ => ?_)
 refine sqv az rfl (r_pick_and (g := (true && ((((((decide (c = 0)) && (decide ((b.n : Int) = 2))) && f) && (decide (j = 0))) && o) == true))) (az.get rfl) (az.get rfl) (fun he => g_mkt rfl he)) fun _ bI => sqv bI rfl (r_assign (bI.get rfl)) fun _ c1 => sq_end ?_
 have bJ := c1.kp [(0, .bool ((((((decide (c = 0)) && (decide ((b.n : Int) = 2))) && f) && (decide (j = 0))) && o) && (!u)))] rfl
 refine then_normal ?_
 refine wp_ret ?_
 exact res_all (vs := [.bool ((((((decide (c = 0)) && (decide ((b.n : Int) = 2))) && f) && (decide (j = 0))) && o) && (!u))]) rfl bJ ⟨res_of_tmp bJ rfl, trivial⟩ c0
end Go.Proofs.Yteohbfaechfliaa
